/-
  Entries of maps that are held: 'm[k] = f(m[k])'. No program in sight.
-/
import Derived.Test.YtcgkoffnknpgjaaGreatDoorRwsx
import Derived.Test.YtcgkoffnknpgjaaGreatDoorRn2x
namespace Go.Proofs.YtcgkoffnknpgjaaGreatDoor
set_option linter.unusedVariables false
set_option linter.unusedSimpArgs false
section
variable {α β : Type} [DecidableEq α] {kv : α → Value} {ve : β → Value}
theorem MN(E:List (α×β))(k:α)(u v:β):Au (Au E k u) k v=Au E k v:=by
 induction E with
 |nil=>simp[Au]
 |cons q E ih=>
  simp only[Au]
  split
  · rename_i h
    simp[Au,h]
  · rename_i h
    simp only[Au,if_neg h,ih]
def Ge(kv:α→Value)(ve:β→Value)(b:Nat)(E:List (α×β))(k:α)(z:Int):AB:=fun h=> ∃x:Array MapEntry×Nat,(MJ kv ve E x.1 x.2∧ ∃(j:Nat) (u:β) (e:MapEntry),Bd E k 0=some (j,u)∧x.1[j]? =some e∧(e.born:Int)=z)∧pt b (.map x.1 x.2) h
variable {P : Program} {Q : Exit → Act → World → Prop} {g w : World} {L : List AB} {n : Nat} {l : Fr} {ds : List Deferred} {o : Oper} {N : Act → World → Prop} {key elem b : Nat} {E : List (α × β)}
theorem VO(E:List (α×β))(k:α)(v:β): ∀i,∃j,Bd (Au E k v) k i=some (j,v):=by
 induction E with
 |nil=>intro i;exact⟨i,by simp[Au,Bd]⟩
 |cons q E ih=>
  intro i
  simp only[Au]
  split
  · rename_i h
    exact⟨i,by simp[Bd,h]⟩
  · rename_i h
    simp only[Bd,if_neg h]
    exact ih (i+1)
theorem Ti{es:Array MapEntry}{clock j:Nat}{k:α}{u:β}{e:MapEntry}(he:MJ kv ve E es clock)(hf:Bd E k 0=some (j,u))(hj:es[j]? =some e):e.key=kv k∧e.val=ve u:=by
 obtain⟨_,h2,h3,_,_⟩:=CG (v:=u) hf
 simp only[Nat.sub_zero] at h2 h3
 have h5:(es.toList.map fun e:MapEntry=>(e.key,e.val))[j]? =some (Dd kv ve (k,u)):=by rw[he.1,List.getElem?_map,h3];rfl
 rw[List.getElem?_map,Array.getElem?_toList,hj] at h5
 simpa [Dd] using h5
theorem Tj{es:Array MapEntry}{clock j:Nat}{k:α}{u v:β}(he:MJ kv ve E es clock)(hf:Bd E k 0=some (j,u))(f:MapEntry→MapEntry)(hk: ∀e,es[j]? =some e→(f e).key=kv k∧(f e).val=ve v∧(f e).born=e.born):MJ kv ve (Au E k v) (es.modify j f) clock:=by
 obtain⟨_,h2,h3,h4,_⟩:=CG (v:=v) hf
 simp only[Nat.sub_zero] at h2 h3 h4
 have hlen:es.toList.length=E.length:=by have:=congrArg List.length he.1;simpa using this
 have hj:j<es.size:=by rw[←Array.length_toList,hlen];exact h2
 have hborn:(es.modify j f).toList.map (·.born)=es.toList.map (·.born):=by
  apply List.ext_getElem?
  intro i
  rw[List.getElem?_map,List.getElem?_map,Array.getElem?_toList,Array.getElem?_toList,Array.getElem?_modify]
  split
  · rename_i h6
    subst h6
    rw[Array.getElem?_eq_getElem hj]
    simp only[Option.map_some]
    rw[(hk _ (Array.getElem?_eq_getElem hj)).2.2]
  · rfl
 refine⟨?_,?_,?_⟩
 · rw[h4]
   apply List.ext_getElem?
   intro i
   have hei:(es.toList.map fun e:MapEntry=>(e.key,e.val))[i]? =(E.map (Dd kv ve))[i]? :=by rw[he.1]
   rw[List.getElem?_map,Array.getElem?_toList] at hei
   rw[List.getElem?_map,Array.getElem?_toList,List.getElem?_map,List.getElem?_set,Array.getElem?_modify]
   by_cases hi:j=i
   · subst hi
     have h7:=hk _ (Array.getElem?_eq_getElem hj)
     simp[h2,Array.getElem?_eq_getElem hj,Dd,h7.1,h7.2.1]
   · simp only[hi,if_false]
     rw[hei,List.getElem?_map]
 · intro e hm'
   have h6:e.born∈es.toList.map (·.born):=by rw[←hborn];exact List.mem_map.2 ⟨e,hm',rfl⟩
   obtain⟨e2,h7,h8⟩:=List.mem_map.1 h6
   have:=he.2.1 e2 h7
   omega
 · have h7:(es.toList.map (·.born)).Pairwise (· ≠ ·):=by rw[List.pairwise_map];exact he.2.2
   rw[←hborn,List.pairwise_map] at h7
   exact h7
theorem Xe{es:Array MapEntry}{clock:Nat}{k:α}{v:β}(he:MJ kv ve E es clock)(hf:Bd E k 0=none):MJ kv ve (Au E k v) (es.push {key:=kv k,val:=ve v,born:=clock}) (clock+1):=by
 obtain⟨h1,_⟩:=FU (v:=v) hf
 refine⟨?_,?_,?_⟩
 · rw[h1]
   simp[he.1,Dd]
 · intro e hm'
   simp only[Array.toList_push,List.mem_append,List.mem_singleton] at hm'
   rcases hm' with h2|rfl
   · have:=he.2.1 e h2
     omega
   · exact Nat.lt_succ_self _
 · simp only[Array.toList_push]
   rw[List.pairwise_append]
   refine⟨he.2.2,List.pairwise_singleton _ _,fun a ha b hb=> ?_⟩
   rw[List.mem_singleton.1 hb]
   have:=he.2.1 a ha
   show a.born≠clock
   omega
theorem VP{k:α}{u:β}{j:Nat}(hf:Bd E k 0=some (j,u)):Au E k u=E:=by
 obtain⟨_,h2,h3,h4,_⟩:=CG (v:=u) hf
 simp only[Nat.sub_zero] at h2 h3 h4
 rw[h4]
 apply List.ext_getElem?
 intro i
 rw[List.getElem?_set]
 split
 · rename_i h
   subst h
   rw[h3]
 · rfl
theorem Tk: ∀ {E:List (α×β)} {k:α} {v:β} (i:Nat),E[i]? =some (k,v)→Aa E k≠none
 | [],k,v,i,h=>by simp at h
 |q::E,k,v,i,h=>by
  simp only[Aa]
  split
  · simp
  · rename_i hne
    cases i with
    |zero=>
     rw[List.getElem?_cons_zero] at h
     obtain rfl:=Option.some.inj h
     exact absurd rfl hne
    |succ i=>exact Tk i (by simpa using h)
theorem Ha{d t:Nat}{m x:Operand}{z0:β}(ho:o.op= .mapEntry t m x)(hd:o.dst=some d)(hn:Nat.blt d n=true)(ht:P.underlying t=some (.map key elem))(K:KyOk P key kv)(hz:(P.info? elem).map (·.zero)=some (some (ve z0)))(k:α)(hm:fe n l m= .map (some b))(hx:fe n l x=kv k)
 (hs:sat g w (Gp kv ve b E::L))(v:β)(hv:Aa E k=some v∨(Aa E k=none∧v=z0))(h: ∀z w',sat g w' (Ge kv ve b (Au E k v) k z::L)→N (Ad ds n ((d,.tuple #[ve v,.int .i64 z])::l)) w'):OP P o (Ad ds n l) w N Q:=by
 obtain⟨es,clock,he,hp⟩:=HX hs
 have hb:w.heap[b]? =some (.map es clock):=Ax (i:=0) hp rfl
 have hlt:=(Array.getElem?_eq_some_iff.1 hb).1
 have hf:=K.fk ve k es.toList E w he.1
 have hg:(getObj b).run P w= .ok (.map es clock) w:=by simp[getObj,Sem.run,hb]
 have hset: ∀o',(setObj b o').run P w= .ok () (w.putObj b o'):=fun o'=>by simp[setObj,Sem.run,hb,World.putObj]
 have hget:=GX E k 0
 have hzv:(zeroValue elem).run P w= .ok (ve z0) w:=by
  cases hq:P.info? elem with
  |none=>simp[hq] at hz
  |some i=>
   simp only[hq,Option.map_some,Option.some.injEq] at hz
   simp[zeroValue,typeInfo,hq,hz]
 have put: ∀(es':Array MapEntry) (c':Nat) (z:Int),MJ kv ve (Au E k v) es' c'→(∃(j:Nat) (u:β) (e:MapEntry),Bd (Au E k v) k 0=some (j,u)∧es'[j]? =some e∧(e.born:Int)=z)→sat g (w.putObj b (.map es' c')) (Ge kv ve b (Au E k v) k z::L):=fun es' c' z h1 h2=>
  AI (B0 hp ⟨rfl,rfl,rfl,Nat.le_refl _⟩ (World.putObj_heap_same hlt) (fun j hj=>World.putObj_heap_other hj)) fun _ hk=>⟨(es',c'),⟨h1,h2⟩,hk⟩
 obtain⟨z,w',hr,hw'⟩: ∃z w',(Instr.mapEntry t (.map (some b)) (kv k)).run P w= .ok (.tuple #[ve v,.int .i64 z]) w'∧sat g w' (Ge kv ve b (Au E k v) k z::L):=by
  unfold Instr.mapEntry
  simp only[Sem.run_bind,run_underlying ht,Result.andThen_ok,hg,K.ck,hf]
  cases hq:Bd E k 0 with
  |none=>
   rw[hq] at hget
   have hv0:v=z0:=by
    rcases hv with h1|h1
    · rw[h1] at hget;cases hget
    · exact h1.2
   subst hv0
   refine⟨(clock:Int),w.putObj b (.map (es.push {key:=kv k,val:=ve v,born:=clock}) (clock+1)),?_,put _ _ _ (Xe he hq) ?_⟩
   · simp only[Option.map_none,Sem.run_bind,hzv,Result.andThen_ok,hset,Sem.run_pure]
     rfl
   · obtain⟨h1,_⟩:=FU (v:=v) hq
     obtain⟨j,hj⟩:=VO E k v 0
     have hlen:es.toList.length=E.length:=by have:=congrArg List.length he.1;simpa using this
     have h3:=(CG (v:=v) hj).2.2.1
     have h2:=(CG (v:=v) hj).2.1
     rw[Nat.sub_zero] at h2 h3
     have hnone: ∀i,i<E.length→E[i]? ≠some (k,v):=fun i hi h4=>by
      have:=Tk i h4
      rw[←hget] at this
      exact this rfl
     have hje:j=es.size:=by
      rw[h1,List.length_append] at h2
      simp only[List.length_cons,List.length_nil] at h2
      rw[←Array.length_toList,hlen]
      by_cases hlt2:j<E.length
      · exfalso
        rw[h1,List.getElem?_append_left hlt2] at h3
        exact hnone j hlt2 h3
      · omega
     refine⟨j,v,{key:=kv k,val:=ve v,born:=clock},hj,?_,rfl⟩
     rw[hje]
     simp
  |some q=>
   obtain⟨j,u⟩:=q
   rw[hq] at hget
   have hu:u=v:=by
    rcases hv with h1|h1
    · rw[h1] at hget;simpa using hget
    · rw[h1.1] at hget;cases hget
   subst hu
   have hj:j<es.size:=by
    have hlen:es.toList.length=E.length:=by have:=congrArg List.length he.1;simpa using this
    rw[←Array.length_toList,hlen]
    have:=(CG (v:=u) hq).2.1
    rwa [Nat.sub_zero] at this
   have hej:=Array.getElem?_eq_getElem hj
   obtain⟨hk1,hk2⟩:=Ti he hq hej
   refine⟨(es[j].born:Int),w.putObj b (.map (es.modify j fun e=> {e with key:=kv k}) clock),?_,put _ _ _ (Tj he hq _ fun e h1=> ?_) ⟨j,u,{es[j] with key:=kv k},?_,?_,rfl⟩⟩
   · simp only[Option.map_some,Sem.run_bind,hej,Option.getD_some,hk1,Instr.keyThatStays,K.sm,if_true,Sem.run_pure,Result.andThen_ok,hset]
     rfl
   · rw[hej] at h1
     obtain rfl:=Option.some.inj h1
     exact⟨rfl,hk2,rfl⟩
   · rw[VP hq];exact hq
   · rw[Array.getElem?_modify]
     simp[hej]
 refine⟨?_⟩
 unfold Oper.wp
 rw[An]
 have:(execOp (fe n l) o).run P w= .ok (.value (.tuple #[ve v,.int .i64 z])) w':=by
  unfold execOp
  simp[ho,hm,hx,hr]
 rw[this,Oper.upon_value,hd,CE (by rw[BJ] at hn;simpa using hn)]
 exact h z w' hw'
theorem Hb: ∀ {es:List MapEntry} {j:Nat} {e:MapEntry},(es.Pairwise fun a b=>a.born≠b.born)→es[j]? =some e→es.findIdx? (fun a=>((a.born:Int)==(e.born:Int)))=some j
 | [],j,e,_,h=>by simp at h
 |a::es,0,e,_,h=>by
  rw[List.getElem?_cons_zero] at h
  obtain rfl:=Option.some.inj h
  simp[List.findIdx?_cons]
 |a::es,j+1,e,hp,h=>by
  rw[List.getElem?_cons_succ] at h
  obtain⟨h1,h2⟩:=List.pairwise_cons.1 hp
  have h3:=Hb h2 h
  have h4:=h1 e (List.mem_of_getElem? h)
  rw[List.findIdx?_cons]
  have h5:(((a.born:Int)==(e.born:Int))=true)↔False:=by
   simp only[beq_iff_eq,iff_false]
   omega
  have h6:((a.born:Int)==(e.born:Int))=false:=by
   cases hq:((a.born:Int)==(e.born:Int)) with
   |false=>rfl
   |true=>exact absurd (h5.1 hq) id
  simp[h6,h3]
theorem Dp{t:Nat}{m x y:Operand}{z:Int}{k:α}(ho:o.op= .entryStore t m x y)(hd:o.dst=none)(v:β)(hm:fe n l m= .map (some b))(hx:fe n l x= .int .i64 z)(hy:fe n l y=ve v)(hs:sat g w (Ge kv ve b E k z::L))
 (E':List (α×β))(hE:Au E k v=E')(h: ∀w',sat g w' (Gp kv ve b E'::L)→N (Ad ds n l) w'):OP P o (Ad ds n l) w N Q:=by
 subst hE
 obtain⟨⟨es,clock⟩,⟨he,j,u,e,hf,hej,hz⟩,hp⟩:=Af (X:=Array MapEntry×Nat) (p:=fun x=>MJ kv ve E x.1 x.2∧ ∃(j:Nat) (u:β) (e:MapEntry),Bd E k 0=some (j,u)∧x.1[j]? =some e∧(e.born:Int)=z) (B:=fun x=>pt b (.map x.1 x.2)) hs (fun k hk=>hk)
 have hb:w.heap[b]? =some (.map es clock):=Ax (i:=0) hp rfl
 have hlt:=(Array.getElem?_eq_some_iff.1 hb).1
 have hg:(getObj b).run P w= .ok (.map es clock) w:=by simp[getObj,Sem.run,hb]
 have hset: ∀o',(setObj b o').run P w= .ok () (w.putObj b o'):=fun o'=>by simp[setObj,Sem.run,hb,World.putObj]
 have hfi:es.findIdx? (fun a=>((a.born:Int)==z))=some j:=by
  have h0:=Hb he.2.2 (j:=j) (e:=e) (by rw[Array.getElem?_toList];exact hej)
  rw[hz] at h0
  rw[←h0]
  obtain⟨l⟩:=es
  simp
 have hr:(Instr.entryStore t (.map (some b)) (.int .i64 z) (ve v)).run P w= .ok () (w.putObj b (.map (es.modify j fun e=> {e with val:=ve v}) clock)):=by
  unfold Instr.entryStore
  have ha:(asInt (.int .i64 z)).run P w= .ok z w:=rfl
  simp only[Sem.run_bind,hg,Result.andThen_ok,ha,hfi]
  exact hset _
 refine⟨?_⟩
 unfold Oper.wp
 rw[An]
 have:(execOp (fe n l) o).run P w= .ok .skip (w.putObj b (.map (es.modify j fun e=> {e with val:=ve v}) clock)):=by
  unfold execOp
  simp[ho,hm,hx,hy,hr]
 rw[this,Oper.upon_skip,hd]
 refine h _ (EK (Tj he hf _ fun e' h1=> ?_) (B0 hp ⟨rfl,rfl,rfl,Nat.le_refl _⟩ (World.putObj_heap_same hlt) (fun j hj=>World.putObj_heap_other hj)))
 exact⟨(Ti he hf h1).1,rfl,rfl⟩
end
end Go.Proofs.YtcgkoffnknpgjaaGreatDoor
