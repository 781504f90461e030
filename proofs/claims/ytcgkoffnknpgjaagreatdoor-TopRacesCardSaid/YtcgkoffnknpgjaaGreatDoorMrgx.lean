/-
  Ranges over maps (that the rounds leave as they are), and over strings: in whatever order the entries come. No program in sight.
-/
import Derived.Test.YtcgkoffnknpgjaaGreatDoorMpgx
import Derived.Laws.NewFold
namespace Go.Proofs.YtcgkoffnknpgjaaGreatDoor
set_option linter.unusedVariables false
set_option linter.unusedSimpArgs false
variable {ds : List Deferred}
theorem Cr{g w:World}{A B:AB}{L:List AB}(h:sat g w (A::B::L)):sat g w (B::A::L):=by
 obtain⟨s,Z,hZ,ok,pw⟩:=h
 match Z,hZ with
 |z1::z2::Z,hZ=>
  simp only[List.map_cons,List.cons.injEq] at hZ
  refine⟨s,z2::z1::Z,by simp[hZ.1,hZ.2.1,hZ.2.2],fun z hz=>ok z ?_,?_⟩
  · simp only[List.mem_cons] at hz ⊢
    rcases hz with h1|h1|h1
    · exact .inr (.inl h1)
    · exact .inl h1
    · exact .inr (.inr h1)
  · obtain⟨h1,h2⟩:=List.pairwise_cons.1 pw
    obtain⟨h3,h4⟩:=List.pairwise_cons.1 h2
    refine List.pairwise_cons.2 ⟨fun z hz=> ?_,List.pairwise_cons.2 ⟨fun z hz=>h1 z (List.mem_cons_of_mem _ hz),h4⟩⟩
    rcases List.mem_cons.1 hz with rfl |hz
    · exact(h1 z2 List.mem_cons_self).symm
    · exact h3 z hz
section
variable {α β : Type}
def It(kv:α→Value)(ve:β→Value)(b r:Nat)(E S:List (α×β))(cur:Option (α×β)):AB:=fun h=> ∃x:Array MapEntry×Nat×Array Nat,
 (MJ kv ve E x.1 x.2.1∧((x.1.toList.filter fun e=> !x.2.2.contains e.born).map fun e=>(e.key,e.val))=S.map (Dd kv ve)∧
  (∀q,cur=some q→ ∃e∈x.1.toList,x.2.2.back? =some e.born∧(e.key,e.val)=Dd kv ve q))∧
 Aj [pt b (.map x.1 x.2.1),pt r (.mapIter (some b) x.2.1 x.2.2 x.2.1)] h
end
section
variable {α β : Type} {kv : α → Value} {ve : β → Value}
variable {P : Program} {Q : Exit → Act → World → Prop} {g w : World} {L : List AB} {n : Nat} {l : Fr} {o : Oper} {N : Act → World → Prop} {key elem b r : Nat} {E S : List (α × β)} {cur : Option (α × β)}
theorem NQ(h:sat g w (It kv ve b r E S cur::L)): ∃es clock seen,(MJ kv ve E es clock∧((es.toList.filter fun e=> !seen.contains e.born).map fun e=>(e.key,e.val))=S.map (Dd kv ve)∧
  (∀q,cur=some q→ ∃e∈es.toList,seen.back? =some e.born∧(e.key,e.val)=Dd kv ve q))∧sat g w (pt b (.map es clock)::pt r (.mapIter (some b) clock seen clock)::L):=by
 obtain⟨⟨es,clock,seen⟩,h1,h2⟩:=Af (X:=Array MapEntry×Nat×Array Nat) (p:=fun x=>MJ kv ve E x.1 x.2.1∧((x.1.toList.filter fun e=> !x.2.2.contains e.born).map fun e=>(e.key,e.val))=S.map (Dd kv ve)∧
  (∀q,cur=some q→ ∃e∈x.1.toList,x.2.2.back? =some e.born∧(e.key,e.val)=Dd kv ve q)) (B:=fun x=>Aj [pt b (.map x.1 x.2.1),pt r (.mapIter (some b) x.2.1 x.2.2 x.2.1)]) h (fun k hk=>hk)
 exact⟨es,clock,seen,h1,AK h2⟩
theorem PY{es:Array MapEntry}{clock:Nat}{seen:Array Nat}(h1:MJ kv ve E es clock)(h2:((es.toList.filter fun e=> !seen.contains e.born).map fun e=>(e.key,e.val))=S.map (Dd kv ve))
 (h3: ∀q,cur=some q→ ∃e∈es.toList,seen.back? =some e.born∧(e.key,e.val)=Dd kv ve q)(h:sat g w (pt b (.map es clock)::pt r (.mapIter (some b) clock seen clock)::L)):sat g w (It kv ve b r E S cur::L):=
 AI (AO (K:= [pt b (.map es clock),pt r (.mapIter (some b) clock seen clock)]) h) fun k hk=>⟨(es,clock,seen),⟨h1,h2,h3⟩,hk⟩
end
section
variable {α β : Type} {kv : α → Value} {ve : β → Value}
variable {P : Program} {Q : Exit → Act → World → Prop} {g w : World} {L : List AB} {n : Nat} {l : Fr} {o : Oper} {N : Act → World → Prop} {key elem b r : Nat} {E S : List (α × β)} {cur : Option (α × β)}
theorem KB(h:sat g w (It kv ve b r E S cur::L)):sat g w (Gp kv ve b E::L):=by
 obtain⟨es,clock,seen,⟨h1,_,_⟩,h2⟩:=NQ h
 exact EK h1 (Ar (Cr h2))
theorem F8{d t:Nat}{x:Operand}(ho:o.op= .range t x)(hd:o.dst=some d)(hn:Nat.blt d n=true)(ht:P.underlying t=some (.map key elem))(hx:fe n l x= .map (some b))(hs:sat g w (Gp kv ve b E::L))
 (h: ∀r w',sat g w' (It kv ve b r E E none::L)→N (Ad ds n ((d,.pointer (some ⟨r,0,none⟩))::l)) w'):OP P o (Ad ds n l) w N Q:=by
 obtain⟨es,clock,he,hp⟩:=HX hs
 have hb:w.heap[b]? =some (.map es clock):=Ax (i:=0) hp rfl
 have hg:(getObj b).run P w= .ok (.map es clock) w:=by simp[getObj,Sem.run,hb]
 refine⟨?_⟩
 unfold Oper.wp
 rw[An]
 have:(execOp (fe n l) o).run P w= .ok (.value (.pointer (some ⟨w.heap.size,0,none⟩))) (w.alloc (.mapIter (some b) clock #[] clock)):=by
  unfold execOp
  simp[ho,hx,Instr.range,run_underlying ht,hg]
 rw[this,Oper.upon_value,hd,CE (by rw[BJ] at hn;simpa using hn)]
 refine h _ _ (PY (es:=es) (clock:=clock) (seen:= #[]) he ?_ (fun q hq=>by cases hq) ?_)
 · rw[List.filter_eq_self.2 (fun e _=>by simp)]
   exact he.1
 · have h2:=CN hp (.mapIter (some b) clock #[] clock)
   exact Cr h2
theorem VL{es:List MapEntry}{clock:Nat}(h: ∀e∈es,e.born<clock):(es.filter fun e=>decide (clock≤e.born))= []:=List.filter_eq_nil_iff.2 fun e he=>by have:=h e he;simp;omega
theorem Xa{es:List MapEntry}{clock:Nat}(h: ∀e∈es,e.born<clock):(es.filter fun e=>decide (e.born<clock))=es:=List.filter_eq_self.2 fun e he=>by have:=h e he;simpa using this
theorem GY{α β:Type}(f:α→β): ∀(L:List α) (k:Nat),(L.eraseIdx k).map f=(L.map f).eraseIdx k
 | [],_=>rfl
 |_::_,0=>rfl
 |a::L,k+1=>by simp only[List.eraseIdx_cons_succ,List.map_cons];rw[GY f L k]
theorem HY{seen:Array Nat}{x y:Nat}:(seen.push x).contains y=(seen.contains y||y==x):=by
 rw[Bool.eq_iff_iff]
 simp only[Array.contains_iff_mem,Array.mem_push,Bool.or_eq_true,beq_iff_eq]
theorem Te{p:MapEntry→Bool}{a:MapEntry}{es:List MapEntry}(h:p a=true):(a::es).filter p=a::es.filter p:=List.filter_cons_of_pos h
theorem NR{p:MapEntry→Bool}{a:MapEntry}{es:List MapEntry}(h:p a=false):(a::es).filter p=es.filter p:=List.filter_cons_of_neg (by rw[h];decide)
theorem Ia{seen:Array Nat}: ∀ {es:List MapEntry},(es.Pairwise fun a b=>a.born≠b.born)→ ∀ {k:Nat} {e:MapEntry},(es.filter fun e=> !seen.contains e.born)[k]? =some e→
  (es.filter fun a=> !(seen.push e.born).contains a.born)=(es.filter fun e=> !seen.contains e.born).eraseIdx k
 | [],_,k,e,h=>by simp at h
 |a::es,hp,k,e,h=>by
  obtain⟨h1,h2⟩:=List.pairwise_cons.1 hp
  cases ha:seen.contains a.born with
  |true=>
   have f1:=NR (p:=fun e=> !seen.contains e.born) (a:=a) (es:=es) (by show (!seen.contains a.born)=false;rw[ha];rfl)
   have f2:=NR (p:=fun x=> !(seen.push e.born).contains x.born) (a:=a) (es:=es) (by show (!(seen.push e.born).contains a.born)=false;rw[HY,ha];rfl)
   rw[f1] at h ⊢
   rw[f2]
   exact Ia h2 h
  |false=>
   have f1:=Te (p:=fun e=> !seen.contains e.born) (a:=a) (es:=es) (by show (!seen.contains a.born)=true;rw[ha];rfl)
   rw[f1] at h ⊢
   cases k with
   |zero=>
    obtain rfl:=Option.some.inj h
    have f2:=NR (p:=fun x=> !(seen.push a.born).contains x.born) (a:=a) (es:=es) (by show (!(seen.push a.born).contains a.born)=false;rw[HY];simp)
    rw[f2,List.eraseIdx_cons_zero]
    apply List.filter_congr
    intro x hx
    have hne:(x.born==a.born)=false:=by simpa using (h1 x hx).symm
    show (!(seen.push a.born).contains x.born)=(!seen.contains x.born)
    rw[HY,hne,Bool.or_false]
   |succ k=>
    have h3:(es.filter fun e=> !seen.contains e.born)[k]? =some e:=by simpa only[List.getElem?_cons_succ] using h
    have hmem:=List.mem_filter.1 (List.mem_of_getElem? h3)
    have hne:(a.born==e.born)=false:=by simpa using h1 e hmem.1
    have f2:=Te (p:=fun x=> !(seen.push e.born).contains x.born) (a:=a) (es:=es) (by show (!(seen.push e.born).contains a.born)=true;rw[HY,ha,hne];rfl)
    rw[f2,List.eraseIdx_cons_succ,Ia h2 h3]
end
section
variable {α β : Type} {kv : α → Value} {ve : β → Value}
variable {P : Program} {Q : Exit → Act → World → Prop} {g w : World} {L : List AB} {n : Nat} {l : Fr} {o : Oper} {N : Act → World → Prop} {key elem b r : Nat} {E S : List (α × β)} {cur : Option (α × β)}
theorem ML{P:Program}{w:World}{b r clock t:Nat}{es:Array MapEntry}{seen:Array Nat}{Lf:List MapEntry}(hgr:(getObj r).run P w= .ok (.mapIter (some b) clock seen clock) w)(hg:(getObj b).run P w= .ok (.map es clock) w)
 (hal:(!seen.isEmpty&& !es.isEmpty&&es.all fun e=>decide (e.born≥clock))=false)(ha1:(es.filter fun e=> !seen.contains e.born)=Lf.toArray)(ha2:(Lf.toArray.filter fun e=>decide (e.born<clock))=Lf.toArray)(ha3:(Lf.toArray.filter fun e=>decide (e.born≥clock))= #[])(cs:Array (Option MapEntry))(hcs:(if Lf.toArray.isEmpty=true then #[none] else #[]:Array (Option MapEntry))++(Lf.toArray++ #[]).map some=cs):
  (Instr.next (.pointer (some ⟨r,0,none⟩)) false t).run P w=((choose (.mapNext cs.size)).run P w).andThen fun k w'=>(match cs[k]? with
   |some (some e)=>(do
    setObj r (.mapIter (some b) clock (seen.push e.born) clock)
    pure (.tuple #[.bool true,e.key,e.val]))
   |some none=>pure (.tuple #[.bool false])
   |none=>stuck "Next: no such candidate" :Sem Value).run P w':=by
 subst hcs
 unfold Instr.next
 simp only[Sem.run_bind,hgr,hg,Result.andThen_ok,hal,Bool.false_eq_true,if_false,ha1,ha2,ha3]
 rfl
theorem Jf{d:Nat}{x:Operand}(ho:o.op= .next x false)(hd:o.dst=some d)(hn:Nat.blt d n=true)(hx:fe n l x= .pointer (some ⟨r,0,none⟩))(hs:sat g w (It kv ve b r E S cur::L))
 (h0:S= []→ ∀w',sat g w' (It kv ve b r E [] cur::L)→N (Ad ds n ((d,.tuple #[.bool false])::l)) w')
 (h1: ∀(k:Nat) (q:α×β),S[k]? =some q→ ∀w',sat g w' (It kv ve b r E (S.eraseIdx k) (some q)::L)→N (Ad ds n ((d,.tuple #[.bool true,kv q.1,ve q.2])::l)) w'):OP P o (Ad ds n l) w N Q:=by
 obtain⟨es,clock,seen,⟨he,hS,hc⟩,hp⟩:=NQ hs
 have hb:w.heap[b]? =some (.map es clock):=Ax (i:=0) hp rfl
 have hr:w.heap[r]? =some (.mapIter (some b) clock seen clock):=Ax (i:=1) hp rfl
 have hg:(getObj b).run P w= .ok (.map es clock) w:=by simp[getObj,Sem.run,hb]
 have hgr:(getObj r).run P w= .ok (.mapIter (some b) clock seen clock) w:=by simp[getObj,Sem.run,hr]
 have hal:(!seen.isEmpty&& !es.isEmpty&&es.all fun e=>decide (e.born≥clock))=false:=by
  rw[Bool.eq_false_iff]
  intro h4
  rw[Bool.and_eq_true,Bool.and_eq_true,Array.all_eq_true] at h4
  have hne:0<es.size:=by
   rcases Nat.eq_zero_or_pos es.size with h3|h3
   · have h5:=h4.1.2
     rw[Array.isEmpty_iff_size_eq_zero.2 h3] at h5
     cases h5
   · exact h3
  have h6:=he.2.1 es[0] (by rw[←Array.getElem_toList];exact List.getElem_mem _)
  have h7:=of_decide_eq_true (h4.2 0 hne)
  omega
 have hlb: ∀e∈(es.toList.filter fun e=> !seen.contains e.born),e.born<clock:=fun e hm=>he.2.1 e (List.mem_filter.1 hm).1
 obtain⟨Lf,hLf⟩: ∃Lf,Lf=es.toList.filter fun e=> !seen.contains e.born:=⟨_,rfl⟩
 rw[←hLf] at hlb hS
 have ha1:(es.filter fun e=> !seen.contains e.born)=Lf.toArray:=by rw[hLf];apply Array.toList_inj.1;simp
 have ha2:(Lf.toArray.filter fun e=>decide (e.born<clock))=Lf.toArray:=by apply Array.toList_inj.1;rw[Array.toList_filter];exact Xa hlb
 have ha3:(Lf.toArray.filter fun e=>decide (e.born≥clock))= #[]:=by apply Array.toList_inj.1;rw[Array.toList_filter];exact VL hlb
 have hset0: ∀(wz:World) (o':Obj),wz.heap=w.heap→(setObj r o').run P wz= .ok () (wz.putObj r o'):=fun wz o' hz=>by simp[setObj,Sem.run,World.putObj,hz,hr]
 have hset:=fun o'=>hset0 w.drew o' rfl
 have hset':=fun o'=>hset0 w o' rfl
 refine⟨?_⟩
 unfold Oper.wp
 rw[An]
 cases hS0:S with
 |nil=>
  have hL0:Lf= []:=by rw[hS0] at hS;simpa using hS
  have:(execOp (fe n l) o).run P w= .ok (.value (.tuple #[.bool false])) w:=by
   have hn1:=ML (t:=o.type) hgr hg hal ha1 ha2 ha3 #[none] (by rw[hL0];simp)
   unfold execOp
   simp[ho,hx,hn1,choose,Sem.run,Question.forced,Result.andThen]
  rw[this,Oper.upon_value,hd,CE (by rw[BJ] at hn;simpa using hn)]
  exact h0 hS0 w (by rw[←hS0];exact hs)
 |cons q0 S'=>
  have hlen:Lf.length=S.length:=by have:=congrArg List.length hS;simpa using this
  have hpos:0<Lf.length:=by rw[hlen,hS0];simp
  have hcs:(if Lf.toArray.isEmpty=true then #[none] else #[]:Array (Option MapEntry))++(Lf.toArray++ #[]).map some=(Lf.map some).toArray:=by
   have:Lf.toArray.isEmpty=false:=by
    cases Lf with
    |nil=>simp at hpos
    |cons a t=>simp
   rw[this]
   simp
  have hn1:=ML (t:=o.type) hgr hg hal ha1 ha2 ha3 _ hcs
  have hex: ∃(k:Nat) (e:MapEntry) (wz:World),Lf[k]? =some e∧wz.heap=w.heap∧Same w wz∧(execOp (fe n l) o).run P w= .ok (.value (.tuple #[.bool true,e.key,e.val])) (wz.putObj r (.mapIter (some b) clock (seen.push e.born) clock)):=by
   by_cases hf:Lf.length≤1
   · refine⟨0,Lf[0],w,List.getElem?_eq_getElem hpos,rfl,⟨rfl,rfl,rfl,Nat.le_refl _⟩,?_⟩
     unfold execOp
     simp[ho,hx,hn1,choose,Sem.run,Question.forced,hf,hset',hpos,Result.andThen]
   · have hm:Question.cut (.mapNext Lf.length) (w.tape w.drawn (.mapNext Lf.length))<Lf.length:=Nat.mod_lt _ hpos
     refine⟨_,Lf[_]'hm,w.drew,List.getElem?_eq_getElem hm,rfl,⟨rfl,rfl,rfl,Nat.le_succ _⟩,?_⟩
     unfold execOp
     simp[ho,hx,hn1,choose,Sem.run,Question.forced,hf,hset,hm,Result.andThen]
  obtain⟨k,e,wz,hk,hwz,hsw,hrun⟩:=hex
  have hkS:(S[k]?).map (Dd kv ve)=some (e.key,e.val):=by
   rw[←List.getElem?_map,←hS,List.getElem?_map,hk]
   rfl
  obtain⟨q,hq,hqe⟩: ∃q,S[k]? =some q∧Dd kv ve q=(e.key,e.val):=by
   cases hq:S[k]? with
   |none=>rw[hq] at hkS;cases hkS
   |some q=>rw[hq] at hkS;exact⟨q,rfl,Option.some.inj hkS⟩
  rw[hrun,Oper.upon_value,hd,CE (by rw[BJ] at hn;simpa using hn)]
  have hme:e∈es.toList:=by
   have:=List.mem_of_getElem? hk
   rw[hLf] at this
   exact(List.mem_filter.1 this).1
  have h3:=h1 k q hq (wz.putObj r (.mapIter (some b) clock (seen.push e.born) clock)) (PY (es:=es) (clock:=clock) (seen:=seen.push e.born) he ?_ (fun q2 hq2=> ?_) ?_)
  · rw[show kv q.1=e.key from congrArg Prod.fst hqe,show ve q.2=e.val from congrArg Prod.snd hqe] at h3
    exact h3
  · rw[Ia (k:=k) he.2.2 (by rw[←hLf];exact hk),←hLf,GY,hS,GY]
  · obtain rfl:=Option.some.inj hq2
    exact⟨e,hme,by simp,hqe.symm⟩
  · have hwr:(wz.putObj r (.mapIter (some b) clock (seen.push e.born) clock)).heap=w.heap.setIfInBounds r (.mapIter (some b) clock (seen.push e.born) clock):=by rw[←hwz];rfl
    have hrl:=(Array.getElem?_eq_some_iff.1 hr).1
    refine Cr (B0 (w:=w) (b:=r) (Cr hp) ⟨hsw.1,hsw.2,hsw.3,hsw.4⟩ ?_ (fun j hj=> ?_))
    · rw[hwr,Array.getElem?_setIfInBounds_self_of_lt hrl]
    · rw[hwr,Array.getElem?_setIfInBounds_ne (Ne.symm hj)]
theorem MM: ∀ {es:List MapEntry},(es.Pairwise fun a b=>a.born≠b.born)→ ∀ {e:MapEntry},e∈es→es.find? (fun a=>a.born==e.born)=some e
 | [],_,e,h=>by cases h
 |a::es,hp,e,h=>by
  obtain⟨h1,h2⟩:=List.pairwise_cons.1 hp
  rcases List.mem_cons.1 h with rfl |h3
  · rw[List.find?_cons_of_pos (by simp)]
  · rw[List.find?_cons_of_neg (by simpa using h1 e h3)]
    exact MM h2 h3
theorem E9{x:Operand}{q:α×β}(ho:o.op= .entry x)(hx:fe n l x= .pointer (some ⟨r,0,none⟩))(hs:sat g w (It kv ve b r E S (some q)::L))(v:Value)(hv:Value.tuple #[kv q.1,ve q.2]=v):(execOp (fe n l) o).run P w= .ok (.value v) w:=by
 subst hv
 obtain⟨es,clock,seen,⟨he,hS,hc⟩,hp⟩:=NQ hs
 have hb:w.heap[b]? =some (.map es clock):=Ax (i:=0) hp rfl
 have hr:w.heap[r]? =some (.mapIter (some b) clock seen clock):=Ax (i:=1) hp rfl
 have hg:(getObj b).run P w= .ok (.map es clock) w:=by simp[getObj,Sem.run,hb]
 have hgr:(getObj r).run P w= .ok (.mapIter (some b) clock seen clock) w:=by simp[getObj,Sem.run,hr]
 obtain⟨e,h1,h2,h3⟩:=hc q rfl
 have hf:es.find? (fun a=>a.born==e.born)=some e:=by
  rw[←Array.find?_toList]
  exact MM he.2.2 h1
 have hr2:(Instr.entry (.pointer (some ⟨r,0,none⟩))).run P w= .ok (.tuple #[e.key,e.val]) w:=by
  unfold Instr.entry
  simp[hgr,hg,h2,hf]
 unfold execOp
 rw[show kv q.1=e.key from (congrArg Prod.fst h3).symm,show ve q.2=e.val from (congrArg Prod.snd h3).symm]
 simp[ho,hx,hr2]
end
end Go.Proofs.YtcgkoffnknpgjaaGreatDoor
