/-
  maps.Clone: values in interfaces, and a copy of a map. No program in sight.
-/
import Derived.Test.YtcgkoffnknpgjaaGreatDoorMapx
import GoSem.Extern.MapsClone
namespace Go.Proofs.YtcgkoffnknpgjaaGreatDoor
set_option linter.unusedVariables false
set_option linter.unusedSimpArgs false
variable {ds : List Deferred} {P : Program} {o : Oper} {n : Nat} {l : Fr} {g w : World} {L : List AB} {b : Nat} {E : Mm} {N : Act → World → Prop} {Q : Exit → Act → World → Prop}
theorem BS{t:Nat}{x:Operand}(ho:o.op= .makeInterface t x){d:TypeDesc}(ht:P.underlying t=some d)(hd:(match d with | .interface _=>false|_=>true)=true)(v:Value)(hx:fe n l x=v)(w:World):
  (execOp (fe n l) o).run P w= .ok (.value (.iface t v)) w:=by
 unfold execOp
 simp only[ho,Instr.makeInterface,hx,Sem.run_bind,run_underlying ht,Result.andThen_ok]
 cases d<;>first|rfl |cases hd
theorem Ew{t s:Nat}{x:Operand}(ho:o.op= .typeAssert x s t false){d:TypeDesc}(ht:P.underlying t=some d)(hd:(match d with | .interface _=>false|_=>true)=true)(v:Value)(hx:fe n l x= .iface t v)(w:World):
  (execOp (fe n l) o).run P w= .ok (.value v) w:=by
 unfold execOp
 simp only[ho,Instr.typeAssert,hx,Sem.run_bind,run_underlying ht,Result.andThen_ok]
 cases d<;>first|(simp[go_sem];done)|exact absurd hd Bool.false_ne_true
theorem bN{d f t:Nat}(h:D8 o n l=some (some d,f,[Value.iface t (.map (some b))]))(hn:Nat.blt d n=true)(hr: ∀w,(callFunc f #[Value.iface t (.map (some b))]).run P w=(Extern.MapsClone.clone #[Value.iface t (.map (some b))]>>=fun v=>pure (Next.value v)).run P w)
 (hs:sat g w (Mp b E::L))(k: ∀r w',sat g w' (Mp r E::Mp b E::L)→N (Ad ds n ((d,Value.iface t (.map (some r)))::l)) w'):OP P o (Ad ds n l) w N Q:=by
 refine⟨?_⟩
 obtain⟨dst,op,ty,pos,aft,gd⟩:=o
 unfold D8 at h
 dsimp only at h
 split at h
 · rename_i x xs tys
   split at h
   · rename_i f' first captured hx
     simp only[Option.some.injEq,Prod.mk.injEq] at h
     obtain⟨rfl,rfl,hv⟩:=h
     unfold Oper.wp
     rw[An]
     have e1:(execOp (fe n l) {dst:=some d,op:= .call {callee:= .value x,args:=xs,argTypes:=tys},type:=ty,pos:=pos,after:=aft,guard:=gd})=callFunc f' ((first++xs.map (fe n l))++captured):=by
      simp only[execOp,resolve,hx,Deferred.ofValue]
      rfl
     have e2:((first++xs.map (fe n l))++captured)= #[Value.iface t (.map (some b))]:=by
      apply Array.ext'
      simpa using hv
     obtain⟨es,clock,h1,h2⟩:=NK hs
     have hb:w.heap[b]? =some (.map es clock):=Ax h2 (i:=0) rfl
     have e3:(Extern.MapsClone.clone #[Value.iface t (.map (some b))]>>=fun v=>pure (Next.value v)).run P w= .ok (.value (.iface t (.map (some w.heap.size)))) (w.alloc (.map es clock)):=by
      have e:Extern.MapsClone.clone #[.iface t (.map (some b))]=(getObj b>>=fun o=>match o with
       | .map entries clock=>newObj (.map entries clock)>>=fun r'=>pure (.iface t (.map (some r')))
       |_=>stuck "maps.clone: a map expected"):=rfl
      have hg:(getObj b).run P w= .ok (.map es clock) w:=by simp[getObj,Sem.run,hb]
      rw[e]
      simp[go_sem,hg]
     rw[e1,e2,hr,e3,Oper.upon_value]
     show N ((Ad ds n l).put (some d) _) _
     rw[CE (by rw[BJ] at hn;simpa using hn)]
     have h3:=CN h2 (.map es clock)
     have h4:sat g _ ((pt b (.map es clock)::L)++ [Mp w.heap.size E]):=AN (A:= [Mp w.heap.size E]) (F6 h1 h3)
     exact k _ _ (AN (A:=Mp b E::L) (F6 h1 h4))
   · cases h
 · cases h
theorem RT: ∀(ks:List (Nat×Value)) (A B C:List Value),(ks.all fun q=>Nat.blt q.1 B.length)=true→CL (A++(B++C)) (ks.map fun q=>(A.length+q.1,q.2))=A++(CL B ks++C)
 | [],A,B,C,_=>rfl
 |(k,v)::ks,A,B,C,h=>by
  simp only[List.all_cons,Bool.and_eq_true,BJ,decide_eq_true_eq] at h
  have h2:=RT ks A (B.set k v) C (by rw[List.length_set];simpa [BJ] using h.2)
  simp only[List.map_cons,CL]
  rw[List.set_append_right _ _ om,show A.length+k-A.length=k from by omega,List.set_append_left _ _ h.1]
  exact h2
theorem O1{α:Type}{sz:Nat}{f:α→List Value}(ok:Enc sz f){L:List α}{i:Nat}{x y:α}(hx:L[i]? =some x)(ks:List (Nat×Value))(hk:(ks.all fun q=>Nat.blt q.1 sz)=true)(h:CL (f x) ks=f y){ks':List (Nat×Value)}
 (xU:ks'=ks.map fun q=>(i*sz+q.1,q.2)):CL (fl f L) ks'=fl f (L.set i y):=by
 obtain⟨hi,he⟩:=List.getElem?_eq_some_iff.1 hx
 have hL:L=L.take i++x::L.drop (i+1):=by rw[←he,←List.drop_eq_getElem_cons hi,List.take_append_drop]
 have e1:fl f L=fl f (L.take i)++(f x++fl f (L.drop (i+1))):=by
  conv=>lhs;rw[hL]
  rw[Rk]
  rfl
 have e2:fl f (L.set i y)=fl f (L.take i)++(f y++fl f (L.drop (i+1))):=by
  rw[List.set_eq_take_append_cons_drop,if_pos hi,Rk]
  rfl
 have hl:(fl f (L.take i)).length=i*sz:=by rw[Dg ok,List.length_take,Nat.min_eq_left om]
 rw[xU,e1,e2,←h,←hl]
 exact RT ks _ _ _ (by rw[ok.1 x];exact hk)
end Go.Proofs.YtcgkoffnknpgjaaGreatDoor
