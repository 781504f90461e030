/-
  Calls of methods behind interface values, by contracts. No program in sight.
-/
import Derived.Test.YtcgkoffnknpgjaaGreatDoorRn2x
namespace Go.Proofs.YtcgkoffnknpgjaaGreatDoor
set_option linter.unusedVariables false
set_option linter.unusedSimpArgs false
section
variable {P : Program} {o : Oper} {n : Nat} {l : Fr} {ds : List Deferred} {N : Act → World → Prop} {Q : Exit → Act → World → Prop} {g w : World}
def NT(o:Oper)(n:Nat)(l:Fr):Option (Option Nat×TypeId×Value×String×List Value):=match o.op with
 | .call {callee:= .invoke x name,args:=xs,argTypes:=_}=>(match fe n l x with
  | .iface t v=>some (o.dst,t,v,name,(xs.map (fe n l)).toList)
  |_=>none)
 |_=>none
theorem Tl{d:Option Nat}{t:TypeId}{v:Value}{name:String}{args:List Value}{f:FuncId}(h:NT o n l=some (d,t,v,name,args))(hcf: ∀w,(callMethod (.iface t v) name args.toArray).run P w= .ok (.enter f (v::args).toArray) w)(w:World):
  (execOp (fe n l) o).run P w= .ok (.enter f (v::args).toArray) w∧o.dst=d:=by
 obtain⟨dst,op,ty,pos,aft,gd⟩:=o
 unfold NT at h
 dsimp only at h
 split at h
 · rename_i x nm xs tys
   split at h
   · rename_i t' v' hx
     simp only[Option.some.injEq,Prod.mk.injEq] at h
     obtain⟨rfl,rfl,rfl,rfl,rfl⟩:=h
     refine⟨?_,rfl⟩
     have e:(execOp (fe n l) {dst:=dst,op:= .call {callee:= .invoke x nm,args:=xs,argTypes:=tys},type:=ty,pos:=pos,after:=aft,guard:=gd})=callMethod (.iface t' v') nm (xs.map (fe n l)):=by
      have e0:(#[Value.iface t' v']++Array.map (fe n l) xs)[0]? =some (Value.iface t' v'):=by
       rw[←Array.getElem?_toList,Array.toList_append]
       rfl
      have e1:(#[Value.iface t' v']++Array.map (fe n l) xs).extract 1 (#[Value.iface t' v']++Array.map (fe n l) xs).size=xs.map (fe n l):=by
       apply Array.ext'
       simp[List.take_of_length_le]
      simp only[execOp,resolve,hx]
      show invoke (.fn (.method nm) #[]) (#[Value.iface t' v']++Array.map (fe n l) xs)=_
      unfold invoke
      simp only[e0,e1]
     rw[e]
     exact hcf w
   · cases h
 · cases h
theorem mL{d:Option Nat}{t:TypeId}{v:Value}{name:String}{args:List Value}{f:FuncId}{Pre F:List AB}{Post:Value→List AB→Prop}(h:NT o n l=some (d,t,v,name,args))(hcf: ∀w,(callMethod (.iface t v) name args.toArray).run P w= .ok (.enter f (v::args).toArray) w)
 (hT:HT P f (v::args) Pre Post)(hs:sat g w (Pre++F))(k: ∀u K w',Post u K→sat g w' (K++F)→ ∃l',EJ n l d u=some l'∧N (Ad ds n l') w'):OP P o (Ad ds n l) w N Q:=by
 refine⟨?_⟩
 obtain⟨hr,hd⟩:=Tl h hcf w
 unfold Oper.wp
 rw[An,hr,Oper.upon_enter]
 refine(hT g w F hs).mono ?_
 rintro e w' ⟨u,K,rfl,hP,hs'⟩
 obtain⟨l',hl,hN⟩:=k u K w' hP hs'
 show N ((Ad ds n l).put o.dst u) w'
 rw[hd,D7 hl]
 exact hN
end
section
variable {r : Option Nat} {P : Program} {Q0 : Exit → Act → World → Prop} {ds : List Deferred} {n : Nat} {g w : World} {st : Sx} {L : List AB}
def tN(n:Nat)(st:Sx):Option (TypeId×Value×String×List Value):=cond (M6 n st&&M8 n st) (match NT (Jb st) n st.l with |some (_,q)=>some q|none=>none) none
theorem iG(t:TypeId)(v:Value)(name:String)(args:List Value)(f:FuncId){Pre F:List AB}{Post:Value→List AB→Prop}(hT:HT P f (v::args) Pre Post)(hs:sat g w (Pre++F))
 (k: ∀u K w',Post u K→sat g w' (K++F)→BV w' (O8 st)∧GS r P Q0 ds n (C9 st u) w')(h:tN n st=some (t,v,name,args):=by kernel_rfl)(hcf: ∀w,(callMethod (.iface t v) name args.toArray).run P w= .ok (.enter f (v::args).toArray) w:=by intro _;kernel_rfl):GS r P Q0 ds n st w:=by
 unfold tN at h
 cases ha:M6 n st with
 |false=>rw[ha] at h;cases h
 |true=>
  cases hd:M8 n st with
  |false=>rw[ha,hd] at h;cases h
  |true=>
   rw[ha,hd] at h
   simp only[Bool.and_self,cond_true] at h
   split at h
   · rename_i d q hc
     obtain rfl:=Option.some.inj h
     refine AH (mL hc hcf hT hs fun u K w' hP h2=> ?_) ha
     obtain⟨h3,h4⟩:=k u K w' hP h2
     have hdst:(Jb st).dst=d:=(Tl hc hcf w).2
     have h5:=h4.out
     unfold C9 at h5
     unfold M8 at hd
     rw[hdst] at hd h5
     cases d with
     |none=>exact⟨_,rfl,h3,h5⟩
     |some d=>
      simp only at hd h5
      refine⟨(d,u)::st.l,?_,h3,h5⟩
      simp only[EJ,hd,cond_true]
   · cases h
end
end Go.Proofs.YtcgkoffnknpgjaaGreatDoor
