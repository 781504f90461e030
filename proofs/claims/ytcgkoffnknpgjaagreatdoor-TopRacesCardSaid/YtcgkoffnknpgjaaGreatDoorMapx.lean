/-
  Maps whose keys are structs of three integers, as lists of pairs: as an assertion; new, looked up, updated, deleted. No program in sight.
-/
import Derived.Test.YtcgkoffnknpgjaaGreatDoorStrx
namespace Go.Proofs.YtcgkoffnknpgjaaGreatDoor
set_option linter.unusedVariables false
set_option linter.unusedSimpArgs false
variable {ds : List Deferred}
abbrev Ky:=Int×Int×Int
def kv(k:Ky):Value:= .agg #[.int .i64 k.1,.int .i64 k.2.1,.int .u32 k.2.2]
abbrev Mm:=List (Ky×Int)
def HU(q:Ky×Int):Value×Value:=(kv q.1,.int .i64 q.2)
def Mp(b:Nat)(E:Mm):AB:=fun h=> ∃x:Array MapEntry×Nat,(x.1.toList.map fun e=>(e.key,e.val))=E.map HU∧pt b (.map x.1 x.2) h
def J3:Mm→Ky→Option Int
 | [],_=>none
 |(a,v)::r,k=>if k=a then some v else J3 r k
def G8:Mm→Ky→Int→Mm
 | [],k,v=> [(k,v)]
 |(a,u)::r,k,v=>if k=a then (a,v)::r else (a,u)::G8 r k v
def Gs:Mm→Ky→Mm
 | [],_=> []
 |(a,u)::r,k=>if k=a then r else (a,u)::Gs r k
def Fv:Mm→Ky→Nat→Option (Nat×Int)
 | [],_,_=>none
 |(a,v)::r,k,i=>if k=a then some (i,v) else Fv r k (i+1)
theorem J4{E:Mm}{k:Ky}{v:Int}: ∀ {i},Fv E k i=none→G8 E k v=E++ [(k,v)]∧Gs E k=E:=by
 induction E with
 |nil=>intro i _;exact⟨rfl,rfl⟩
 |cons q E ih=>
  intro i h
  obtain⟨a,u⟩:=q
  simp only[Fv] at h
  split at h
  · cases h
  · rename_i hk
    obtain⟨h1,h2⟩:=ih h
    simp[G8,Gs,hk,h1,h2]
theorem J5{E:Mm}{k:Ky}{v u:Int}{j:Nat}: ∀ {i},Fv E k i=some (j,u)→i≤j∧j-i<E.length∧E[j-i]? =some (k,u)∧G8 E k v=E.set (j-i) (k,v)∧Gs E k=E.eraseIdx (j-i):=by
 induction E with
 |nil=>intro i h;cases h
 |cons q E ih=>
  intro i h
  obtain⟨a,w⟩:=q
  simp only[Fv] at h
  split at h
  · rename_i hk
    simp only[Option.some.injEq,Prod.mk.injEq] at h
    obtain⟨rfl,rfl⟩:=h
    subst hk
    simp[G8,Gs]
  · rename_i hk
    obtain⟨h1,h2,h3,h4,h5⟩:=ih h
    obtain⟨m,hm⟩: ∃m,j-i=m+1:=⟨j-i-1,by omega⟩
    have hm':j-(i+1)=m:=by omega
    rw[hm'] at h2 h3 h4 h5
    rw[hm]
    refine⟨by omega,by simpa using h2,by simpa using h3,?_,?_⟩
    · simp[G8,hk,h4]
    · simp[Gs,hk,h5]
theorem E6{α β:Type}(f:α→β): ∀(L:List α) (i:Nat),(L.eraseIdx i).map f=(L.map f).eraseIdx i
 | [],i=>by simp
 |a::L,0=>by simp
 |a::L,i+1=>by simp[E6 f L i]
structure KeyOk (P:Program) (key:TypeId):Prop where
 eq: ∀(a b:Ky) (w:World),(Op.equal key (kv a) (kv b)).run P w= .ok (decide (a=b)) w
 ck: ∀(a:Ky) (e:Bool) (w:World),(Instr.checkKey e 10000 key (kv a)).run P w= .ok () w
 st: ∃fs,P.underlying key=some (.struct fs)
section
variable {P : Program} {key : TypeId} {w : World}
theorem TX(K:KeyOk P key)(k:Ky): ∀(es:List MapEntry) (E:Mm) (i:Nat),(es.map fun e=>(e.key,e.val))=E.map HU→(Instr.findAsking key (kv k) es i).run P w= .ok ((Fv E k i).map fun q=>(q.1,Value.int .i64 q.2)) w
 | [],E,i,h=>by
  have:E= []:=by cases E;rfl;simp at h
  subst this
  simp[Instr.findAsking,Fv]
 |e::es,E,i,h=>by
  match E,h with
  |(a,v)::E,h=>
   simp only[List.map_cons,List.cons.injEq,HU,Prod.mk.injEq] at h
   obtain⟨⟨h1,h2⟩,h3⟩:=h
   have ih:=TX K k es E (i+1) h3
   simp only[Instr.findAsking,Sem.run_bind,h1,K.eq,Result.andThen_ok,Fv]
   by_cases hk:k=a
   · subst hk
     simp[h2]
   · simp only[hk,decide_false,Bool.false_eq_true,if_false]
     exact ih
theorem I7(K:KeyOk P key)(k:Ky){es:List MapEntry}{E:Mm}(h:(es.map fun e=>(e.key,e.val))=E.map HU):(Instr.findKey key (kv k) es).run P w= .ok ((Fv E k 0).map fun q=>(q.1,Value.int .i64 q.2)) w:=by
 obtain⟨fs,hs⟩:=K.st
 unfold Instr.findKey
 simp only[Sem.run_bind,run_underlying hs,Result.andThen_ok]
 cases es with
 |nil=>
  have:E= []:=by cases E;rfl;simp at h
  subst this
  simp[Instr.findNow,Fv]
 |cons e es=>
  have h1:Instr.findNow (.struct fs) (kv k) (e::es) 0=none:=by simp[Instr.findNow,Instr.sameNow]
  rw[h1]
  exact TX K k (e::es) E 0 h
end
section
variable {P : Program} {Q : Exit → Act → World → Prop} {g w : World} {L : List AB} {n : Nat} {l : Fr} {o : Oper} {N : Act → World → Prop} {key elem b : Nat} {E : Mm}
theorem NK(h:sat g w (Mp b E::L)): ∃es clock,(es.toList.map fun e:MapEntry=>(e.key,e.val))=E.map HU∧sat g w (pt b (.map es clock)::L):=by
 obtain⟨⟨es,clock⟩,h1,h2⟩:=Af (X:=Array MapEntry×Nat) (p:=fun x=>(x.1.toList.map fun e=>(e.key,e.val))=E.map HU) (B:=fun x=>pt b (.map x.1 x.2)) h (fun k hk=>hk)
 exact⟨es,clock,h1,h2⟩
theorem F6{es:Array MapEntry}{clock:Nat}(h1:(es.toList.map fun e:MapEntry=>(e.key,e.val))=E.map HU)(h:sat g w (pt b (.map es clock)::L)):sat g w (Mp b E::L):=AI h fun _ hk=>⟨(es,clock),h1,hk⟩
theorem Rp{d t:Nat}(ho:o.op= .makeMap t none)(hd:o.dst=some d)(hn:Nat.blt d n=true)(hs:sat g w L)(h: ∀r w',sat g w' (Mp r []::L)→N (Ad ds n ((d,.map (some r))::l)) w'):OP P o (Ad ds n l) w N Q:=by
 refine⟨?_⟩
 unfold Oper.wp
 rw[An]
 have:(execOp (fe n l) o).run P w= .ok (.value (.map (some w.heap.size))) (w.alloc (.map #[] 0)):=by
  unfold execOp
  simp[ho,Instr.makeMap]
 rw[this,Oper.upon_value,hd,CE (by rw[BJ] at hn;simpa using hn)]
 exact h _ _ (F6 (es:= #[]) (clock:=0) rfl (CN hs _))
theorem TY(k:Ky):Instr.sameBits 10000 (kv k) (kv k)=true:=by
 have h: ∀d:Nat,Instr.sameBits (d+1+1) (kv k) (kv k)=true:=fun d=>by simp[kv,Instr.sameBits]
 exact h 9998
theorem NL{t:Nat}{m x y:Operand}(ho:o.op= .mapUpdate t m x y)(hd:o.dst=none)(ht:P.underlying t=some (.map key elem))(K:KeyOk P key)(k:Ky)(v:Int)(hm:fe n l m= .map (some b))(hx:fe n l x=kv k)(hy:fe n l y= .int .i64 v)(hs:sat g w (Mp b E::L))
 (E':Mm)(hE:G8 E k v=E')(h: ∀w',sat g w' (Mp b E'::L)→N (Ad ds n l) w'):OP P o (Ad ds n l) w N Q:=by
 subst hE
 obtain⟨es,clock,he,hp⟩:=NK hs
 have hb:w.heap[b]? =some (.map es clock):=Ax (i:=0) hp rfl
 have hlt:=(Array.getElem?_eq_some_iff.1 hb).1
 have hf:=I7 (w:=w) K k he
 have hg:(getObj b).run P w= .ok (.map es clock) w:=by simp[getObj,Sem.run,hb]
 have hset: ∀o',(setObj b o').run P w= .ok () (w.putObj b o'):=fun o'=>by simp[setObj,Sem.run,hb,World.putObj]
 have put: ∀(es':Array MapEntry) (c':Nat),(es'.toList.map fun e:MapEntry=>(e.key,e.val))=(G8 E k v).map HU→sat g (w.putObj b (.map es' c')) (Mp b (G8 E k v)::L):=fun es' c' h1=>
  F6 h1 (B0 hp ⟨rfl,rfl,rfl,Nat.le_refl _⟩ (World.putObj_heap_same hlt) (fun j hj=>World.putObj_heap_other hj))
 obtain⟨w',hr,hw'⟩: ∃w',(Instr.mapUpdate t (.map (some b)) (kv k) (.int .i64 v)).run P w= .ok () w'∧sat g w' (Mp b (G8 E k v)::L):=by
  unfold Instr.mapUpdate
  simp only[Sem.run_bind,run_underlying ht,Result.andThen_ok,hg,K.ck,hf]
  cases hq:Fv E k 0 with
  |none=>
   obtain⟨h1,_⟩:=J4 (v:=v) hq
   refine⟨_,by simp only[Option.map_none];exact hset _,put _ _ ?_⟩
   rw[h1]
   simp[he,HU]
  |some q=>
   obtain⟨j,u⟩:=q
   obtain⟨_,h2,h3,h4,_⟩:=J5 (v:=v) hq
   simp only[Nat.sub_zero] at h2 h3 h4
   have hlen:es.toList.length=E.length:=by have:=congrArg List.length he;simpa using this
   have hj:j<es.size:=by rw[←Array.length_toList,hlen];exact h2
   have hkey:(((es[j]?).map (·.key)).getD (kv k))=kv k:=by
    have h5:(es.toList.map fun e:MapEntry=>(e.key,e.val))[j]? =some (HU (k,u)):=by rw[he,List.getElem?_map,h3];rfl
    rw[List.getElem?_map,Array.getElem?_toList] at h5
    obtain⟨e,he1,he2⟩:=Option.map_eq_some_iff.1 h5
    rw[he1]
    simp only[HU,Prod.mk.injEq] at he2
    simpa using he2.1
   refine⟨w.putObj b (.map (es.modify j fun e=> {e with key:=kv k,val:= .int .i64 v}) clock),?_,put _ _ ?_⟩
   · simp only[Option.map_some,Sem.run_bind,hkey,Instr.keyThatStays,TY,if_true,Sem.run_pure,Result.andThen_ok]
     exact hset _
   · rw[h4]
     apply List.ext_getElem?
     intro i
     have hei:(es.toList.map fun e:MapEntry=>(e.key,e.val))[i]? =(E.map HU)[i]? :=by rw[he]
     rw[List.getElem?_map,Array.getElem?_toList] at hei
     rw[List.getElem?_map,Array.getElem?_toList,List.getElem?_map,List.getElem?_set,Array.getElem?_modify]
     by_cases hi:j=i
     · subst hi
       simp[h2,Array.getElem?_eq_getElem hj,HU]
     · simp only[hi,if_false]
       rw[hei,List.getElem?_map]
 refine⟨?_⟩
 unfold Oper.wp
 rw[An]
 have:(execOp (fe n l) o).run P w= .ok .skip w':=by
  unfold execOp
  simp[ho,hm,hx,hy,hr]
 rw[this,Oper.upon_skip,hd]
 exact h w' hw'
theorem VI{t t2:Nat}{m x:Operand}{d:Option Nat}(ho:o.op= .call {callee:= .builtin .delete,args:= #[m,x],argTypes:= #[t,t2]})(ht:P.underlying t=some (.map key elem))(K:KeyOk P key)(k:Ky)(hm:fe n l m= .map (some b))(hx:fe n l x=kv k)(hs:sat g w (Mp b E::L))(hd:o.dst=d)
 (E':Mm)(hE:Gs E k=E')(h: ∀w',sat g w' (Mp b E'::L)→ ∃l',EJ n l d (.tuple #[])=some l'∧N (Ad ds n l') w'):OP P o (Ad ds n l) w N Q:=by
 subst hE
 obtain⟨es,clock,he,hp⟩:=NK hs
 have hb:w.heap[b]? =some (.map es clock):=Ax (i:=0) hp rfl
 have hlt:=(Array.getElem?_eq_some_iff.1 hb).1
 have hf:=I7 (w:=w) K k he
 have hg:(getObj b).run P w= .ok (.map es clock) w:=by simp[getObj,Sem.run,hb]
 have hset: ∀o',(setObj b o').run P w= .ok () (w.putObj b o'):=fun o'=>by simp[setObj,Sem.run,hb,World.putObj]
 have put: ∀(es':Array MapEntry) (c':Nat),(es'.toList.map fun e:MapEntry=>(e.key,e.val))=(Gs E k).map HU→sat g (w.putObj b (.map es' c')) (Mp b (Gs E k)::L):=fun es' c' h1=>
  F6 h1 (B0 hp ⟨rfl,rfl,rfl,Nat.le_refl _⟩ (World.putObj_heap_same hlt) (fun j hj=>World.putObj_heap_other hj))
 obtain⟨w',hr,hw'⟩: ∃w',(Builtin.delete_ #[t,t2] o.type #[.map (some b),kv k]).run P w= .ok (.tuple #[]) w'∧sat g w' (Mp b (Gs E k)::L):=by
  unfold Builtin.delete_
  simp only[Sem.run_bind,Sem.run_pure,List.getElem?_toArray,List.getElem?_cons_zero,List.getElem?_cons_succ,run_underlying ht,Result.andThen_ok,hg,K.ck,hf]
  cases hq:Fv E k 0 with
  |none=>
   obtain⟨_,h1⟩:=J4 (v:=0) hq
   refine⟨_,by simp only[Option.map_none,Sem.run_bind,Sem.run_pure,hset,Result.andThen_ok];rfl,put _ _ ?_⟩
   rw[h1]
   exact he
  |some q=>
   obtain⟨j,u⟩:=q
   obtain⟨_,h2,_,_,h5⟩:=J5 (v:=0) hq
   simp only[Nat.sub_zero] at h2 h5
   have hlen:es.toList.length=E.length:=by have:=congrArg List.length he;simpa using this
   have hj:j<es.size:=by rw[←Array.length_toList,hlen];exact h2
   refine⟨_,by simp only[Option.map_some,Sem.run_bind,Sem.run_pure,hset,Result.andThen_ok];rfl,put _ _ ?_⟩
   rw[h5,Array.eraseIdxIfInBounds,dif_pos hj,Array.toList_eraseIdx,E6,he,E6]
 refine⟨?_⟩
 unfold Oper.wp
 rw[An]
 have:(execOp (fe n l) o).run P w= .ok (.value (.tuple #[])) w':=by
  unfold execOp
  simp only[ho,resolve,invoke,builtin,Sem.run_bind,Sem.run_pure,Result.andThen_ok,List.map_toArray,List.map_cons,List.map_nil,hm,hx,hr]
 obtain⟨l',hl,hN⟩:=h w' hw'
 rw[this,Oper.upon_value,hd,D7 hl]
 exact hN
end
end Go.Proofs.YtcgkoffnknpgjaaGreatDoor
