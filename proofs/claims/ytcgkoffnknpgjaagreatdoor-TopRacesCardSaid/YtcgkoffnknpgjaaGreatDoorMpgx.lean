/-
  Maps over keys and elements of any encoding, as lists of pairs: new, looked up, updated, deleted, gone through. No program in sight.
-/
import Derived.Test.YtcgkoffnknpgjaaGreatDoorClnx
namespace Go.Proofs.YtcgkoffnknpgjaaGreatDoor
set_option linter.unusedVariables false
set_option linter.unusedSimpArgs false
variable {ds : List Deferred}
section
variable {α β : Type} [DecidableEq α]
def Dd(kv:α→Value)(ve:β→Value)(q:α×β):Value×Value:=(kv q.1,ve q.2)
def Aa:List (α×β)→α→Option β
 | [],_=>none
 |(a,v)::r,k=>if k=a then some v else Aa r k
def Au:List (α×β)→α→β→List (α×β)
 | [],k,v=> [(k,v)]
 |(a,u)::r,k,v=>if k=a then (a,v)::r else (a,u)::Au r k v
def C0:List (α×β)→α→List (α×β)
 | [],_=> []
 |(a,u)::r,k=>if k=a then r else (a,u)::C0 r k
def Bd:List (α×β)→α→Nat→Option (Nat×β)
 | [],_,_=>none
 |(a,v)::r,k,i=>if k=a then some (i,v) else Bd r k (i+1)
theorem GX(E:List (α×β))(k:α): ∀i,(Bd E k i).map (·.2)=Aa E k:=by
 induction E with
 |nil=>intro i;rfl
 |cons q E ih=>
  intro i
  obtain⟨a,v⟩:=q
  simp only[Bd,Aa]
  split
  · rfl
  · exact ih _
theorem FU{E:List (α×β)}{k:α}{v:β}: ∀ {i},Bd E k i=none→Au E k v=E++ [(k,v)]∧C0 E k=E:=by
 induction E with
 |nil=>intro i _;exact⟨rfl,rfl⟩
 |cons q E ih=>
  intro i h
  obtain⟨a,u⟩:=q
  simp only[Bd] at h
  split at h
  · cases h
  · rename_i hk
    obtain⟨h1,h2⟩:=ih h
    simp[Au,C0,hk,h1,h2]
theorem VK{E:List (α×β)}{k:α}: ∀ {i},Bd E k i=none→C0 E k=E:=by
 induction E with
 |nil=>intro i _;rfl
 |cons q E ih=>
  intro i h
  obtain⟨a,u⟩:=q
  simp only[Bd] at h
  split at h
  · cases h
  · rename_i hk
    simp[C0,hk,ih h]
theorem CG{E:List (α×β)}{k:α}{v u:β}{j:Nat}: ∀ {i},Bd E k i=some (j,u)→i≤j∧j-i<E.length∧E[j-i]? =some (k,u)∧Au E k v=E.set (j-i) (k,v)∧C0 E k=E.eraseIdx (j-i):=by
 induction E with
 |nil=>intro i h;cases h
 |cons q E ih=>
  intro i h
  obtain⟨a,w⟩:=q
  simp only[Bd] at h
  split at h
  · rename_i hk
    simp only[Option.some.injEq,Prod.mk.injEq] at h
    obtain⟨rfl,rfl⟩:=h
    subst hk
    simp[Au,C0]
  · rename_i hk
    obtain⟨h1,h2,h3,h4,h5⟩:=ih h
    obtain⟨m,hm⟩: ∃m,j-i=m+1:=⟨j-i-1,by omega⟩
    have hm':j-(i+1)=m:=by omega
    rw[hm'] at h2 h3 h4 h5
    rw[hm]
    refine⟨by omega,by simpa using h2,by simpa using h3,?_,?_⟩
    · simp[Au,hk,h4]
    · simp[C0,hk,h5]
theorem E7(E:List (α×β))(k a:α)(v:β):Aa (Au E k v) a=if a=k then some v else Aa E a:=by
 induction E with
 |nil=>simp only[Au,Aa]
 |cons q E ih=>
  obtain⟨b,u⟩:=q
  simp only[Au]
  split
  · rename_i h
    subst h
    simp only[Aa]
    split<;>rfl
  · rename_i h
    simp only[Aa,ih]
    split
    · rename_i h1
      rw[if_neg (by rintro rfl;exact h h1)]
    · rfl
theorem E8{E:List (α×β)}{k a:α}(h:a≠k):Aa (C0 E k) a=Aa E a:=by
 induction E with
 |nil=>rfl
 |cons q E ih=>
  obtain⟨b,u⟩:=q
  simp only[C0]
  split
  · rename_i h1
    subst h1
    simp only[Aa]
    rw[if_neg h]
  · simp only[Aa,ih]
def MJ(kv:α→Value)(ve:β→Value)(E:List (α×β))(es:Array MapEntry)(clock:Nat):Prop:=(es.toList.map fun e=>(e.key,e.val))=E.map (Dd kv ve)∧(∀e∈es.toList,e.born<clock)∧es.toList.Pairwise fun a b=>a.born≠b.born
def Gp(kv:α→Value)(ve:β→Value)(b:Nat)(E:List (α×β)):AB:=fun h=> ∃x:Array MapEntry×Nat,MJ kv ve E x.1 x.2∧pt b (.map x.1 x.2) h
structure KyOk (P:Program) (key:TypeId) (kv:α→Value):Prop where
 fk: ∀ {β:Type} (ve:β→Value) (k:α) (es:List MapEntry) (E:List (α×β)) (w:World),(es.map fun e=>(e.key,e.val))=E.map (Dd kv ve)→(Instr.findKey key (kv k) es).run P w= .ok ((Bd E k 0).map fun q=>(q.1,ve q.2)) w
 ck: ∀(a:α) (e:Bool) (w:World),(Instr.checkKey e 10000 key (kv a)).run P w= .ok () w
 sm: ∀a:α,Instr.sameBits 10000 (kv a) (kv a)=true
end
def kI(z:Int):Value:= .int .i64 z
theorem I8{β:Type}(ve:β→Value)(k:Int): ∀(es:List MapEntry) (E:List (Int×β)) (i:Nat),(es.map fun e=>(e.key,e.val))=E.map (Dd kI ve)→Instr.findNow (.int .i64) (kI k) es i=some ((Bd E k i).map fun q=>(q.1,ve q.2))
 | [],E,i,h=>by
  have:E= []:=by cases E;rfl;simp at h
  subst this
  simp[Instr.findNow,Bd]
 |e::es,E,i,h=>by
  match E,h with
  |(a,v)::E,h=>
   simp only[List.map_cons,List.cons.injEq,Dd,Prod.mk.injEq] at h
   obtain⟨⟨h1,h2⟩,h3⟩:=h
   have ih:=I8 ve k es E (i+1) h3
   simp only[Instr.findNow,h1,kI,Instr.sameNow,Bd]
   by_cases hk:k=a
   · subst hk
     simp[h2]
   · simp only[kI] at ih
     have hb:(k==a)=false:=by simp[hk]
     rw[hb,ih,if_neg hk]
     rfl
theorem tL{P:Program}{key:TypeId}(hu:P.underlying key=some (.int .i64)):KyOk P key kI where
 fk ve k es E w h:=by
  unfold Instr.findKey
  simp only[Sem.run_bind,run_underlying hu,Result.andThen_ok,I8 ve k es E 0 h,Sem.run_pure]
 ck a e w:=by
  have: ∀d:Nat,(Instr.checkKey e (d+1) key (kI a)).run P w= .ok () w:=fun d=>by simp[Instr.checkKey,kI,run_underlying hu]
  exact this 9999
 sm a:=by
  have: ∀d:Nat,Instr.sameBits (d+1) (kI a) (kI a)=true:=fun d=>by simp[kI,Instr.sameBits]
  exact this 9999
section
variable {α β : Type} {kv : α → Value} {ve : β → Value}
variable {P : Program} {Q : Exit → Act → World → Prop} {g w : World} {L : List AB} {n : Nat} {l : Fr} {o : Oper} {N : Act → World → Prop} {key elem b : Nat} {E : List (α × β)}
theorem HX(h:sat g w (Gp kv ve b E::L)): ∃es clock,MJ kv ve E es clock∧sat g w (pt b (.map es clock)::L):=by
 obtain⟨⟨es,clock⟩,h1,h2⟩:=Af (X:=Array MapEntry×Nat) (p:=fun x=>MJ kv ve E x.1 x.2) (B:=fun x=>pt b (.map x.1 x.2)) h (fun k hk=>hk)
 exact⟨es,clock,h1,h2⟩
theorem EK{es:Array MapEntry}{clock:Nat}(h1:MJ kv ve E es clock)(h:sat g w (pt b (.map es clock)::L)):sat g w (Gp kv ve b E::L):=AI h fun _ hk=>⟨(es,clock),h1,hk⟩
theorem Bw{d t:Nat}(kv:α→Value)(ve:β→Value)(ho:o.op= .makeMap t none)(hd:o.dst=some d)(hn:Nat.blt d n=true)(hs:sat g w L)(h: ∀r w',sat g w' (Gp kv ve r []::L)→N (Ad ds n ((d,.map (some r))::l)) w'):OP P o (Ad ds n l) w N Q:=by
 refine⟨?_⟩
 unfold Oper.wp
 rw[An]
 have:(execOp (fe n l) o).run P w= .ok (.value (.map (some w.heap.size))) (w.alloc (.map #[] 0)):=by
  unfold execOp
  simp[ho,Instr.makeMap]
 rw[this,Oper.upon_value,hd,CE (by rw[BJ] at hn;simpa using hn)]
 exact h _ _ (EK (es:= #[]) (clock:=0) ⟨rfl,fun _ he=>by simp at he,by simp⟩ (CN hs _))
theorem XZ{j:Nat}(hs:sat g w L)(hj:L[j]? =some (Gp kv ve b E)): ∃es clock,MJ kv ve E es clock∧w.heap[b]? =some (.map es clock):=D9 hs hj fun h ha hw=>by
 obtain⟨x,h1,h2⟩:=ha
 exact⟨x.1,x.2,h1,hw b _ h2⟩
end
section
variable {α β : Type} [DecidableEq α] {kv : α → Value} {ve : β → Value}
variable {P : Program} {Q : Exit → Act → World → Prop} {g w : World} {L : List AB} {n : Nat} {l : Fr} {o : Oper} {N : Act → World → Prop} {key elem b : Nat} {E : List (α × β)}
theorem BK{t:Nat}{m x:Operand}{z:Value}(ho:o.op= .lookup t m x true)(ht:P.underlying t=some (.map key elem))(K:KyOk P key kv)(hz:(P.info? elem).map (·.zero)=some (some z))(k:α)(hm:fe n l m= .map (some b))(hx:fe n l x=kv k){j:Nat}(hs:sat g w L)(hj:L[j]? =some (Gp kv ve b E))(v:Value)(ok:Bool)
 (hv:(match Aa E k with |some u=>ve u=v∧ok=true|none=>z=v∧ok=false)):(execOp (fe n l) o).run P w= .ok (.value (.tuple #[v,.bool ok])) w:=by
 obtain⟨es,clock,he,hb⟩:=XZ hs hj
 have hf:=K.fk ve k es.toList E w he.1
 have hg:(getObj b).run P w= .ok (.map es clock) w:=by simp[getObj,Sem.run,hb]
 have hget:=GX E k 0
 have hzv:(zeroValue elem).run P w= .ok z w:=by
  cases hq:P.info? elem with
  |none=>simp[hq] at hz
  |some i=>
   simp only[hq,Option.map_some,Option.some.injEq] at hz
   simp[zeroValue,typeInfo,hq,hz]
 have hl:(Instr.lookup t (.map (some b)) (kv k) true).run P w= .ok (.tuple #[v,.bool ok]) w:=by
  unfold Instr.lookup
  simp only[Sem.run_bind,run_underlying ht,Result.andThen_ok,hg,K.ck,hf,Sem.run_pure]
  rw[←hget] at hv
  cases hm:Bd E k 0 with
  |none=>
   rw[hm] at hv
   obtain⟨rfl,rfl⟩:=hv
   simp[hzv]
  |some q=>
   rw[hm] at hv
   obtain⟨rfl,rfl⟩:=hv
   simp
 unfold execOp
 simp[ho,hm,hx,hl]
theorem BL{t:Nat}{m x y:Operand}(ho:o.op= .mapUpdate t m x y)(hd:o.dst=none)(ht:P.underlying t=some (.map key elem))(K:KyOk P key kv)(k:α)(v:β)(hm:fe n l m= .map (some b))(hx:fe n l x=kv k)(hy:fe n l y=ve v)(hs:sat g w (Gp kv ve b E::L))
 (E':List (α×β))(hE:Au E k v=E')(h: ∀w',sat g w' (Gp kv ve b E'::L)→N (Ad ds n l) w'):OP P o (Ad ds n l) w N Q:=by
 subst hE
 obtain⟨es,clock,he,hp⟩:=HX hs
 have hb:w.heap[b]? =some (.map es clock):=Ax (i:=0) hp rfl
 have hlt:=(Array.getElem?_eq_some_iff.1 hb).1
 have hf:=K.fk ve k es.toList E w he.1
 have hg:(getObj b).run P w= .ok (.map es clock) w:=by simp[getObj,Sem.run,hb]
 have hset: ∀o',(setObj b o').run P w= .ok () (w.putObj b o'):=fun o'=>by simp[setObj,Sem.run,hb,World.putObj]
 have put: ∀(es':Array MapEntry) (c':Nat),MJ kv ve (Au E k v) es' c'→sat g (w.putObj b (.map es' c')) (Gp kv ve b (Au E k v)::L):=fun es' c' h1=>
  EK h1 (B0 hp ⟨rfl,rfl,rfl,Nat.le_refl _⟩ (World.putObj_heap_same hlt) (fun j hj=>World.putObj_heap_other hj))
 obtain⟨w',hr,hw'⟩: ∃w',(Instr.mapUpdate t (.map (some b)) (kv k) (ve v)).run P w= .ok () w'∧sat g w' (Gp kv ve b (Au E k v)::L):=by
  unfold Instr.mapUpdate
  simp only[Sem.run_bind,run_underlying ht,Result.andThen_ok,hg,K.ck,hf]
  cases hq:Bd E k 0 with
  |none=>
   obtain⟨h1,_⟩:=FU (v:=v) hq
   refine⟨_,by simp only[Option.map_none];exact hset _,put _ _ ⟨?_,?_,?_⟩⟩
   · rw[h1]
     simp[he.1,Dd]
   · intro e hm'
     simp only[Array.toList_push,List.mem_append,List.mem_singleton] at hm'
     rcases hm' with h2|rfl
     · have:=he.2.1 e h2
       omega
     · exact Nat.lt_succ_self _
   · simp only[Array.toList_push]
     rw[List.pairwise_append]
     refine⟨he.2.2,List.pairwise_singleton _ _,fun a ha b hb=> ?_⟩
     rw[List.mem_singleton.1 hb]
     have:=he.2.1 a ha
     show a.born≠clock
     omega
  |some q=>
   obtain⟨j,u⟩:=q
   obtain⟨_,h2,h3,h4,_⟩:=CG (v:=v) hq
   simp only[Nat.sub_zero] at h2 h3 h4
   have hlen:es.toList.length=E.length:=by have:=congrArg List.length he.1;simpa using this
   have hj:j<es.size:=by rw[←Array.length_toList,hlen];exact h2
   have hkey:(((es[j]?).map (·.key)).getD (kv k))=kv k:=by
    have h5:(es.toList.map fun e:MapEntry=>(e.key,e.val))[j]? =some (Dd kv ve (k,u)):=by rw[he.1,List.getElem?_map,h3];rfl
    rw[List.getElem?_map,Array.getElem?_toList] at h5
    obtain⟨e,he1,he2⟩:=Option.map_eq_some_iff.1 h5
    rw[he1]
    simp only[Dd,Prod.mk.injEq] at he2
    simpa using he2.1
   have hborn:(es.modify j fun e=> {e with key:=kv k,val:=ve v}).toList.map (·.born)=es.toList.map (·.born):=by
    apply List.ext_getElem?
    intro i
    rw[List.getElem?_map,List.getElem?_map,Array.getElem?_toList,Array.getElem?_toList,Array.getElem?_modify]
    split
    · rename_i h6
      subst h6
      cases es[j]? <;>rfl
    · rfl
   refine⟨w.putObj b (.map (es.modify j fun e=> {e with key:=kv k,val:=ve v}) clock),?_,put _ _ ⟨?_,?_,?_⟩⟩
   · simp only[Option.map_some,Sem.run_bind,hkey,Instr.keyThatStays,K.sm,if_true,Sem.run_pure,Result.andThen_ok]
     exact hset _
   · rw[h4]
     apply List.ext_getElem?
     intro i
     have hei:(es.toList.map fun e:MapEntry=>(e.key,e.val))[i]? =(E.map (Dd kv ve))[i]? :=by rw[he.1]
     rw[List.getElem?_map,Array.getElem?_toList] at hei
     rw[List.getElem?_map,Array.getElem?_toList,List.getElem?_map,List.getElem?_set,Array.getElem?_modify]
     by_cases hi:j=i
     · subst hi
       simp[h2,Array.getElem?_eq_getElem hj,Dd]
     · simp only[hi,if_false]
       rw[hei,List.getElem?_map]
   · intro e hm'
     have h6:e.born∈es.toList.map (·.born):=by rw[←hborn];exact List.mem_map.2 ⟨e,hm',rfl⟩
     obtain⟨e2,h7,h8⟩:=List.mem_map.1 h6
     have:=he.2.1 e2 h7
     omega
   · have h6:=he.2.2
     have h7:(es.toList.map (·.born)).Pairwise (· ≠ ·):=by rw[List.pairwise_map];exact h6
     rw[←hborn,List.pairwise_map] at h7
     exact h7
 refine⟨?_⟩
 unfold Oper.wp
 rw[An]
 have:(execOp (fe n l) o).run P w= .ok .skip w':=by
  unfold execOp
  simp[ho,hm,hx,hy,hr]
 rw[this,Oper.upon_skip,hd]
 exact h w' hw'
theorem Di{t t2:Nat}{m x:Operand}{d:Option Nat}(ho:o.op= .call {callee:= .builtin .delete,args:= #[m,x],argTypes:= #[t,t2]})(ht:P.underlying t=some (.map key elem))(K:KyOk P key kv)(k:α)(hm:fe n l m= .map (some b))(hx:fe n l x=kv k)(hs:sat g w (Gp kv ve b E::L))(hd:o.dst=d)
 (E':List (α×β))(hE:C0 E k=E')(h: ∀w',sat g w' (Gp kv ve b E'::L)→ ∃l',EJ n l d (.tuple #[])=some l'∧N (Ad ds n l') w'):OP P o (Ad ds n l) w N Q:=by
 subst hE
 obtain⟨es,clock,he,hp⟩:=HX hs
 have hb:w.heap[b]? =some (.map es clock):=Ax (i:=0) hp rfl
 have hlt:=(Array.getElem?_eq_some_iff.1 hb).1
 have hf:=K.fk ve k es.toList E w he.1
 have hg:(getObj b).run P w= .ok (.map es clock) w:=by simp[getObj,Sem.run,hb]
 have hset: ∀o',(setObj b o').run P w= .ok () (w.putObj b o'):=fun o'=>by simp[setObj,Sem.run,hb,World.putObj]
 have put: ∀(es':Array MapEntry) (c':Nat),MJ kv ve (C0 E k) es' c'→sat g (w.putObj b (.map es' c')) (Gp kv ve b (C0 E k)::L):=fun es' c' h1=>
  EK h1 (B0 hp ⟨rfl,rfl,rfl,Nat.le_refl _⟩ (World.putObj_heap_same hlt) (fun j hj=>World.putObj_heap_other hj))
 obtain⟨w',hr,hw'⟩: ∃w',(Builtin.delete_ #[t,t2] o.type #[.map (some b),kv k]).run P w= .ok (.tuple #[]) w'∧sat g w' (Gp kv ve b (C0 E k)::L):=by
  unfold Builtin.delete_
  simp only[Sem.run_bind,Sem.run_pure,List.getElem?_toArray,List.getElem?_cons_zero,List.getElem?_cons_succ,run_underlying ht,Result.andThen_ok,hg,K.ck,hf]
  cases hq:Bd E k 0 with
  |none=>
   have h1:=VK hq
   refine⟨_,by simp only[Option.map_none,Sem.run_bind,Sem.run_pure,hset,Result.andThen_ok];rfl,put _ _ ?_⟩
   rw[h1]
   exact he
  |some q=>
   obtain⟨j,u⟩:=q
   obtain⟨_,h2,_,_,h5⟩:=CG (v:=u) hq
   simp only[Nat.sub_zero] at h2 h5
   have hlen:es.toList.length=E.length:=by have:=congrArg List.length he.1;simpa using this
   have hj:j<es.size:=by rw[←Array.length_toList,hlen];exact h2
   refine⟨_,by simp only[Option.map_some,Sem.run_bind,Sem.run_pure,hset,Result.andThen_ok];rfl,put _ _ ⟨?_,?_,?_⟩⟩
   · rw[h5,Array.eraseIdxIfInBounds,dif_pos hj,Array.toList_eraseIdx,E6,he.1,E6]
   · intro e hm'
     rw[Array.eraseIdxIfInBounds,dif_pos hj,Array.toList_eraseIdx] at hm'
     exact he.2.1 e (List.mem_of_mem_eraseIdx hm')
   · rw[Array.eraseIdxIfInBounds,dif_pos hj,Array.toList_eraseIdx]
     exact he.2.2.sublist (List.eraseIdx_sublist _ _)
 refine⟨?_⟩
 unfold Oper.wp
 rw[An]
 have:(execOp (fe n l) o).run P w= .ok (.value (.tuple #[])) w':=by
  unfold execOp
  simp only[ho,resolve,invoke,builtin,Sem.run_bind,Sem.run_pure,Result.andThen_ok,List.map_toArray,List.map_cons,List.map_nil,hm,hx,hr]
 obtain⟨l',hl,hN⟩:=h w' hw'
 rw[this,Oper.upon_value,hd,D7 hl]
 exact hN
theorem AX{d:Nat}(v:Value)(hd:o.dst=some d)(hn:Nat.blt d n=true)(hl:(execOp (fe n l) o).run P w= .ok (.value v) w)(h:N (Ad ds n ((d,v)::l)) w):OP P o (Ad ds n l) w N Q:=by
 refine⟨?_⟩
 unfold Oper.wp
 rw[An,hl,Oper.upon_value,hd,CE (by rw[BJ] at hn;simpa using hn)]
 exact h
end
end Go.Proofs.YtcgkoffnknpgjaaGreatDoor
