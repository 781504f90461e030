/-
  Calls of methods behind interface values, by contracts. No program in sight.
-/
import Derived.Test.YtcgkoffnknpgjaaGreatDoorRn2
namespace Go.Proofs.YtcgkoffnknpgjaaGreatDoor
set_option linter.unusedVariables false
set_option linter.unusedSimpArgs false
section
variable {P : Program} {o : Oper} {n : Nat} {l : Fr} {ds : List Deferred} {N : Act → World → Prop} {Q : Exit → Act → World → Prop} {g w : World}
def chkInv(o:Oper)(n:Nat)(l:Fr):Option (Option Nat×TypeId×Value×String×List Value):=match o.op with
 | .call {callee:= .invoke x name,args:=xs,argTypes:=_}=>(match fe n l x with
  | .iface t v=>some (o.dst,t,v,name,(xs.map (fe n l)).toList)
  |_=>none)
 |_=>none
theorem run_inv{d:Option Nat}{t:TypeId}{v:Value}{name:String}{args:List Value}{f:FuncId}(h:chkInv o n l=some (d,t,v,name,args))(hcf: ∀w,(callMethod (.iface t v) name args.toArray).run P w= .ok (.enter f (v::args).toArray) w)(w:World):
  (execOp (fe n l) o).run P w= .ok (.enter f (v::args).toArray) w∧o.dst=d:=by
 obtain⟨dst,op,ty,pos,aft,gd⟩:=o
 unfold chkInv at h
 dsimp only at h
 split at h
 · rename_i x nm xs tys
   split at h
   · rename_i t' v' hx
     simp only[Option.some.injEq,Prod.mk.injEq] at h
     obtain⟨rfl,rfl,rfl,rfl,rfl⟩:=h
     refine⟨?_,rfl⟩
     have e:(execOp (fe n l) {dst:=dst,op:= .call {callee:= .invoke x nm,args:=xs,argTypes:=tys},type:=ty,pos:=pos,after:=aft,guard:=gd})=callMethod (.iface t' v') nm (xs.map (fe n l)):=by
      have e0:(#[Value.iface t' v']++Array.map (fe n l) xs)[0]? =some (Value.iface t' v'):=by
       rw[←Array.getElem?_toList,Array.toList_append]
       rfl
      have e1:(#[Value.iface t' v']++Array.map (fe n l) xs).extract 1 (#[Value.iface t' v']++Array.map (fe n l) xs).size=xs.map (fe n l):=by
       apply Array.ext'
       simp[List.take_of_length_le]
      simp only[execOp,resolve,hx]
      show invoke (.fn (.method nm) #[]) (#[Value.iface t' v']++Array.map (fe n l) xs)=_
      unfold invoke
      simp only[e0,e1]
     rw[e]
     exact hcf w
   · cases h
 · cases h
theorem an_inv{d:Option Nat}{t:TypeId}{v:Value}{name:String}{args:List Value}{f:FuncId}{Pre F:List Assn}{Post:Value→List Assn→Prop}(h:chkInv o n l=some (d,t,v,name,args))(hcf: ∀w,(callMethod (.iface t v) name args.toArray).run P w= .ok (.enter f (v::args).toArray) w)
 (hT:HT P f (v::args) Pre Post)(hs:sat g w (Pre++F))(k: ∀u K w',Post u K→sat g w' (K++F)→ ∃l',putF n l d u=some l'∧N (mkd ds n l') w'):OP P o (mkd ds n l) w N Q:=by
 refine⟨?_⟩
 obtain⟨hr,hd⟩:=run_inv h hcf w
 unfold Oper.wp
 rw[eval_mk,hr,Oper.upon_enter]
 refine(hT g w F hs).mono ?_
 rintro e w' ⟨u,K,rfl,hP,hs'⟩
 obtain⟨l',hl,hN⟩:=k u K w' hP hs'
 show N ((mkd ds n l).put o.dst u) w'
 rw[hd,putF_mk hl]
 exact hN
end
section
variable {r : Option Nat} {P : Program} {Q0 : Exit → Act → World → Prop} {ds : List Deferred} {n : Nat} {g w : World} {st : Sx} {L : List Assn}
def invC(n:Nat)(st:Sx):Option (TypeId×Value×String×List Value):=cond (actC n st&&dstC n st) (match chkInv (opS st) n st.l with |some (_,q)=>some q|none=>none) none
theorem iG(t:TypeId)(v:Value)(name:String)(args:List Value)(f:FuncId){Pre F:List Assn}{Post:Value→List Assn→Prop}(hT:HT P f (v::args) Pre Post)(hs:sat g w (Pre++F))
 (k: ∀u K w',Post u K→sat g w' (K++F)→AllC w' (kpS st)∧GS r P Q0 ds n (putS st u) w')(h:invC n st=some (t,v,name,args):=by kernel_rfl)(hcf: ∀w,(callMethod (.iface t v) name args.toArray).run P w= .ok (.enter f (v::args).toArray) w:=by intro _;kernel_rfl):GS r P Q0 ds n st w:=by
 unfold invC at h
 cases ha:actC n st with
 |false=>rw[ha] at h;cases h
 |true=>
  cases hd:dstC n st with
  |false=>rw[ha,hd] at h;cases h
  |true=>
   rw[ha,hd] at h
   simp only[Bool.and_self,cond_true] at h
   split at h
   · rename_i d q hc
     obtain rfl:=Option.some.inj h
     refine actG (an_inv hc hcf hT hs fun u K w' hP h2=> ?_) ha
     obtain⟨h3,h4⟩:=k u K w' hP h2
     have hdst:(opS st).dst=d:=(run_inv hc hcf w).2
     have h5:=h4.out
     unfold putS at h5
     unfold dstC at hd
     rw[hdst] at hd h5
     cases d with
     |none=>exact⟨_,rfl,h3,h5⟩
     |some d=>
      simp only at hd h5
      refine⟨(d,u)::st.l,?_,h3,h5⟩
      simp only[putF,hd,cond_true]
   · cases h
end
end Go.Proofs.YtcgkoffnknpgjaaGreatDoor
