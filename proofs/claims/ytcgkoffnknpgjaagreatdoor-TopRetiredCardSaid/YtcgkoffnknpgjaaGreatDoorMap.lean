/-
  Maps whose keys are structs of three integers, as lists of pairs: as an assertion; new, looked up, updated, deleted. No program in sight.
-/
import Derived.Test.YtcgkoffnknpgjaaGreatDoorStr
namespace Go.Proofs.YtcgkoffnknpgjaaGreatDoor
set_option linter.unusedVariables false
set_option linter.unusedSimpArgs false
variable {ds : List Deferred}
abbrev Ky:=Int×Int×Int
def kv(k:Ky):Value:= .agg #[.int .i64 k.1,.int .i64 k.2.1,.int .u32 k.2.2]
abbrev Mm:=List (Ky×Int)
def mEnc(q:Ky×Int):Value×Value:=(kv q.1,.int .i64 q.2)
def Mp(b:Nat)(E:Mm):Assn:=fun h=> ∃x:Array MapEntry×Nat,(x.1.toList.map fun e=>(e.key,e.val))=E.map mEnc∧pt b (.map x.1 x.2) h
def mget:Mm→Ky→Option Int
 | [],_=>none
 |(a,v)::r,k=>if k=a then some v else mget r k
def mset:Mm→Ky→Int→Mm
 | [],k,v=> [(k,v)]
 |(a,u)::r,k,v=>if k=a then (a,v)::r else (a,u)::mset r k v
def mdel:Mm→Ky→Mm
 | [],_=> []
 |(a,u)::r,k=>if k=a then r else (a,u)::mdel r k
def mfind:Mm→Ky→Nat→Option (Nat×Int)
 | [],_,_=>none
 |(a,v)::r,k,i=>if k=a then some (i,v) else mfind r k (i+1)
theorem mfind_none{E:Mm}{k:Ky}{v:Int}: ∀ {i},mfind E k i=none→mset E k v=E++ [(k,v)]∧mdel E k=E:=by
 induction E with
 |nil=>intro i _;exact⟨rfl,rfl⟩
 |cons q E ih=>
  intro i h
  obtain⟨a,u⟩:=q
  simp only[mfind] at h
  split at h
  · cases h
  · rename_i hk
    obtain⟨h1,h2⟩:=ih h
    simp[mset,mdel,hk,h1,h2]
theorem mfind_some{E:Mm}{k:Ky}{v u:Int}{j:Nat}: ∀ {i},mfind E k i=some (j,u)→i≤j∧j-i<E.length∧E[j-i]? =some (k,u)∧mset E k v=E.set (j-i) (k,v)∧mdel E k=E.eraseIdx (j-i):=by
 induction E with
 |nil=>intro i h;cases h
 |cons q E ih=>
  intro i h
  obtain⟨a,w⟩:=q
  simp only[mfind] at h
  split at h
  · rename_i hk
    simp only[Option.some.injEq,Prod.mk.injEq] at h
    obtain⟨rfl,rfl⟩:=h
    subst hk
    simp[mset,mdel]
  · rename_i hk
    obtain⟨h1,h2,h3,h4,h5⟩:=ih h
    obtain⟨m,hm⟩: ∃m,j-i=m+1:=⟨j-i-1,by omega⟩
    have hm':j-(i+1)=m:=by omega
    rw[hm'] at h2 h3 h4 h5
    rw[hm]
    refine⟨by omega,by simpa using h2,by simpa using h3,?_,?_⟩
    · simp[mset,hk,h4]
    · simp[mdel,hk,h5]
theorem map_erase{α β:Type}(f:α→β): ∀(L:List α) (i:Nat),(L.eraseIdx i).map f=(L.map f).eraseIdx i
 | [],i=>by simp
 |a::L,0=>by simp
 |a::L,i+1=>by simp[map_erase f L i]
structure KeyOk (P:Program) (key:TypeId):Prop where
 eq: ∀(a b:Ky) (w:World),(Op.equal key (kv a) (kv b)).run P w= .ok (decide (a=b)) w
 ck: ∀(a:Ky) (e:Bool) (w:World),(Instr.checkKey e 10000 key (kv a)).run P w= .ok () w
 st: ∃fs,P.underlying key=some (.struct fs)
section
variable {P : Program} {key : TypeId} {w : World}
theorem run_ask(K:KeyOk P key)(k:Ky): ∀(es:List MapEntry) (E:Mm) (i:Nat),(es.map fun e=>(e.key,e.val))=E.map mEnc→(Instr.findAsking key (kv k) es i).run P w= .ok ((mfind E k i).map fun q=>(q.1,Value.int .i64 q.2)) w
 | [],E,i,h=>by
  have:E= []:=by cases E;rfl;simp at h
  subst this
  simp[Instr.findAsking,mfind]
 |e::es,E,i,h=>by
  match E,h with
  |(a,v)::E,h=>
   simp only[List.map_cons,List.cons.injEq,mEnc,Prod.mk.injEq] at h
   obtain⟨⟨h1,h2⟩,h3⟩:=h
   have ih:=run_ask K k es E (i+1) h3
   simp only[Instr.findAsking,Sem.run_bind,h1,K.eq,Result.andThen_ok,mfind]
   by_cases hk:k=a
   · subst hk
     simp[h2]
   · simp only[hk,decide_false,Bool.false_eq_true,if_false]
     exact ih
theorem run_findKey(K:KeyOk P key)(k:Ky){es:List MapEntry}{E:Mm}(h:(es.map fun e=>(e.key,e.val))=E.map mEnc):(Instr.findKey key (kv k) es).run P w= .ok ((mfind E k 0).map fun q=>(q.1,Value.int .i64 q.2)) w:=by
 obtain⟨fs,hs⟩:=K.st
 unfold Instr.findKey
 simp only[Sem.run_bind,run_underlying hs,Result.andThen_ok]
 cases es with
 |nil=>
  have:E= []:=by cases E;rfl;simp at h
  subst this
  simp[Instr.findNow,mfind]
 |cons e es=>
  have h1:Instr.findNow (.struct fs) (kv k) (e::es) 0=none:=by simp[Instr.findNow,Instr.sameNow]
  rw[h1]
  exact run_ask K k (e::es) E 0 h
end
section
variable {P : Program} {Q : Exit → Act → World → Prop} {g w : World} {L : List Assn} {n : Nat} {l : Fr} {o : Oper} {N : Act → World → Prop} {key elem b : Nat} {E : Mm}
theorem mp_open(h:sat g w (Mp b E::L)): ∃es clock,(es.toList.map fun e:MapEntry=>(e.key,e.val))=E.map mEnc∧sat g w (pt b (.map es clock)::L):=by
 obtain⟨⟨es,clock⟩,h1,h2⟩:=sat_open (X:=Array MapEntry×Nat) (p:=fun x=>(x.1.toList.map fun e=>(e.key,e.val))=E.map mEnc) (B:=fun x=>pt b (.map x.1 x.2)) h (fun k hk=>hk)
 exact⟨es,clock,h1,h2⟩
theorem mp_close{es:Array MapEntry}{clock:Nat}(h1:(es.toList.map fun e:MapEntry=>(e.key,e.val))=E.map mEnc)(h:sat g w (pt b (.map es clock)::L)):sat g w (Mp b E::L):=sat_imp h fun _ hk=>⟨(es,clock),h1,hk⟩
theorem an_makeMap{d t:Nat}(ho:o.op= .makeMap t none)(hd:o.dst=some d)(hn:Nat.blt d n=true)(hs:sat g w L)(h: ∀r w',sat g w' (Mp r []::L)→N (mkd ds n ((d,.map (some r))::l)) w'):OP P o (mkd ds n l) w N Q:=by
 refine⟨?_⟩
 unfold Oper.wp
 rw[eval_mk]
 have:(execOp (fe n l) o).run P w= .ok (.value (.map (some w.heap.size))) (w.alloc (.map #[] 0)):=by
  unfold execOp
  simp[ho,Instr.makeMap]
 rw[this,Oper.upon_value,hd,put_mk (by rw[nat_blt] at hn;simpa using hn)]
 exact h _ _ (mp_close (es:= #[]) (clock:=0) rfl (sat_alloc hs _))
theorem same_kv(k:Ky):Instr.sameBits 10000 (kv k) (kv k)=true:=by
 have h: ∀d:Nat,Instr.sameBits (d+1+1) (kv k) (kv k)=true:=fun d=>by simp[kv,Instr.sameBits]
 exact h 9998
theorem an_mapUpdate{t:Nat}{m x y:Operand}(ho:o.op= .mapUpdate t m x y)(hd:o.dst=none)(ht:P.underlying t=some (.map key elem))(K:KeyOk P key)(k:Ky)(v:Int)(hm:fe n l m= .map (some b))(hx:fe n l x=kv k)(hy:fe n l y= .int .i64 v)(hs:sat g w (Mp b E::L))
 (E':Mm)(hE:mset E k v=E')(h: ∀w',sat g w' (Mp b E'::L)→N (mkd ds n l) w'):OP P o (mkd ds n l) w N Q:=by
 subst hE
 obtain⟨es,clock,he,hp⟩:=mp_open hs
 have hb:w.heap[b]? =some (.map es clock):=sat_at (i:=0) hp rfl
 have hlt:=(Array.getElem?_eq_some_iff.1 hb).1
 have hf:=run_findKey (w:=w) K k he
 have hg:(getObj b).run P w= .ok (.map es clock) w:=by simp[getObj,Sem.run,hb]
 have hset: ∀o',(setObj b o').run P w= .ok () (w.putObj b o'):=fun o'=>by simp[setObj,Sem.run,hb,World.putObj]
 have put: ∀(es':Array MapEntry) (c':Nat),(es'.toList.map fun e:MapEntry=>(e.key,e.val))=(mset E k v).map mEnc→sat g (w.putObj b (.map es' c')) (Mp b (mset E k v)::L):=fun es' c' h1=>
  mp_close h1 (sat_put hp ⟨rfl,rfl,rfl,Nat.le_refl _⟩ (World.putObj_heap_same hlt) (fun j hj=>World.putObj_heap_other hj))
 obtain⟨w',hr,hw'⟩: ∃w',(Instr.mapUpdate t (.map (some b)) (kv k) (.int .i64 v)).run P w= .ok () w'∧sat g w' (Mp b (mset E k v)::L):=by
  unfold Instr.mapUpdate
  simp only[Sem.run_bind,run_underlying ht,Result.andThen_ok,hg,K.ck,hf]
  cases hq:mfind E k 0 with
  |none=>
   obtain⟨h1,_⟩:=mfind_none (v:=v) hq
   refine⟨_,by simp only[Option.map_none];exact hset _,put _ _ ?_⟩
   rw[h1]
   simp[he,mEnc]
  |some q=>
   obtain⟨j,u⟩:=q
   obtain⟨_,h2,h3,h4,_⟩:=mfind_some (v:=v) hq
   simp only[Nat.sub_zero] at h2 h3 h4
   have hlen:es.toList.length=E.length:=by have:=congrArg List.length he;simpa using this
   have hj:j<es.size:=by rw[←Array.length_toList,hlen];exact h2
   have hkey:(((es[j]?).map (·.key)).getD (kv k))=kv k:=by
    have h5:(es.toList.map fun e:MapEntry=>(e.key,e.val))[j]? =some (mEnc (k,u)):=by rw[he,List.getElem?_map,h3];rfl
    rw[List.getElem?_map,Array.getElem?_toList] at h5
    obtain⟨e,he1,he2⟩:=Option.map_eq_some_iff.1 h5
    rw[he1]
    simp only[mEnc,Prod.mk.injEq] at he2
    simpa using he2.1
   refine⟨w.putObj b (.map (es.modify j fun e=> {e with key:=kv k,val:= .int .i64 v}) clock),?_,put _ _ ?_⟩
   · simp only[Option.map_some,Sem.run_bind,hkey,Instr.keyThatStays,same_kv,if_true,Sem.run_pure,Result.andThen_ok]
     exact hset _
   · rw[h4]
     apply List.ext_getElem?
     intro i
     have hei:(es.toList.map fun e:MapEntry=>(e.key,e.val))[i]? =(E.map mEnc)[i]? :=by rw[he]
     rw[List.getElem?_map,Array.getElem?_toList] at hei
     rw[List.getElem?_map,Array.getElem?_toList,List.getElem?_map,List.getElem?_set,Array.getElem?_modify]
     by_cases hi:j=i
     · subst hi
       simp[h2,Array.getElem?_eq_getElem hj,mEnc]
     · simp only[hi,if_false]
       rw[hei,List.getElem?_map]
 refine⟨?_⟩
 unfold Oper.wp
 rw[eval_mk]
 have:(execOp (fe n l) o).run P w= .ok .skip w':=by
  unfold execOp
  simp[ho,hm,hx,hy,hr]
 rw[this,Oper.upon_skip,hd]
 exact h w' hw'
theorem an_delete{t t2:Nat}{m x:Operand}{d:Option Nat}(ho:o.op= .call {callee:= .builtin .delete,args:= #[m,x],argTypes:= #[t,t2]})(ht:P.underlying t=some (.map key elem))(K:KeyOk P key)(k:Ky)(hm:fe n l m= .map (some b))(hx:fe n l x=kv k)(hs:sat g w (Mp b E::L))(hd:o.dst=d)
 (E':Mm)(hE:mdel E k=E')(h: ∀w',sat g w' (Mp b E'::L)→ ∃l',putF n l d (.tuple #[])=some l'∧N (mkd ds n l') w'):OP P o (mkd ds n l) w N Q:=by
 subst hE
 obtain⟨es,clock,he,hp⟩:=mp_open hs
 have hb:w.heap[b]? =some (.map es clock):=sat_at (i:=0) hp rfl
 have hlt:=(Array.getElem?_eq_some_iff.1 hb).1
 have hf:=run_findKey (w:=w) K k he
 have hg:(getObj b).run P w= .ok (.map es clock) w:=by simp[getObj,Sem.run,hb]
 have hset: ∀o',(setObj b o').run P w= .ok () (w.putObj b o'):=fun o'=>by simp[setObj,Sem.run,hb,World.putObj]
 have put: ∀(es':Array MapEntry) (c':Nat),(es'.toList.map fun e:MapEntry=>(e.key,e.val))=(mdel E k).map mEnc→sat g (w.putObj b (.map es' c')) (Mp b (mdel E k)::L):=fun es' c' h1=>
  mp_close h1 (sat_put hp ⟨rfl,rfl,rfl,Nat.le_refl _⟩ (World.putObj_heap_same hlt) (fun j hj=>World.putObj_heap_other hj))
 obtain⟨w',hr,hw'⟩: ∃w',(Builtin.delete_ #[t,t2] o.type #[.map (some b),kv k]).run P w= .ok (.tuple #[]) w'∧sat g w' (Mp b (mdel E k)::L):=by
  unfold Builtin.delete_
  simp only[Sem.run_bind,Sem.run_pure,List.getElem?_toArray,List.getElem?_cons_zero,List.getElem?_cons_succ,run_underlying ht,Result.andThen_ok,hg,K.ck,hf]
  cases hq:mfind E k 0 with
  |none=>
   obtain⟨_,h1⟩:=mfind_none (v:=0) hq
   refine⟨_,by simp only[Option.map_none,Sem.run_bind,Sem.run_pure,hset,Result.andThen_ok];rfl,put _ _ ?_⟩
   rw[h1]
   exact he
  |some q=>
   obtain⟨j,u⟩:=q
   obtain⟨_,h2,_,_,h5⟩:=mfind_some (v:=0) hq
   simp only[Nat.sub_zero] at h2 h5
   have hlen:es.toList.length=E.length:=by have:=congrArg List.length he;simpa using this
   have hj:j<es.size:=by rw[←Array.length_toList,hlen];exact h2
   refine⟨_,by simp only[Option.map_some,Sem.run_bind,Sem.run_pure,hset,Result.andThen_ok];rfl,put _ _ ?_⟩
   rw[h5,Array.eraseIdxIfInBounds,dif_pos hj,Array.toList_eraseIdx,map_erase,he,map_erase]
 refine⟨?_⟩
 unfold Oper.wp
 rw[eval_mk]
 have:(execOp (fe n l) o).run P w= .ok (.value (.tuple #[])) w':=by
  unfold execOp
  simp only[ho,resolve,invoke,builtin,Sem.run_bind,Sem.run_pure,Result.andThen_ok,List.map_toArray,List.map_cons,List.map_nil,hm,hx,hr]
 obtain⟨l',hl,hN⟩:=h w' hw'
 rw[this,Oper.upon_value,hd,putF_mk hl]
 exact hN
end
end Go.Proofs.YtcgkoffnknpgjaaGreatDoor
