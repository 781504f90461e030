/-
  Shorter forms once more: what is read, row by row; calls, batches and ends in one line. No program in sight.
-/
import Derived.Test.YtcgkoffnknpgjaaGreatDoorSh2x
namespace Go.Proofs.YtcgkoffnknpgjaaGreatDoor
set_option linter.unusedVariables false
set_option linter.unusedSimpArgs false
inductive Spc where
 |v (i:Nat) (x:Value)
 |r (i b off:Nat) (vs:List Value)
def MH(i:Nat):List Spc→Ent
 | []=>⟨i,[],none⟩
 | .v j x::t=>cond (Nat.beq i j) ⟨i,[],some x⟩ (MH i t)
 | .r j _ _ vs::t=>cond (Nat.beq i j) ⟨i,vs,none⟩ (MH i t)
def XR(i b:Nat):Nat→List Value→List Pt
 |_,[]=> []
 |off,v::vs=>(i,⟨b,off,none⟩,v)::XR i b (off+1) vs
def TZ:List Spc→List Pt
 | []=> []
 | .v _ _::t=>TZ t
 | .r i b off vs::t=>TZ t++XR i b off vs
def PR(w:World)(b:Nat):Nat→List Value→Prop
 |_,[]=>True
 |off,v::vs=>w.cell? ⟨b,off,none⟩=some v∧PR w b (off+1) vs
def cN(w:World):List Spc→Prop
 | []=>True
 | .v _ _::t=>cN w t
 | .r _ b off vs::t=>PR w b off vs∧cN w t
theorem HV{w:World}{i b:Nat}: ∀ {vs:List Value} {off:Nat},PR w b off vs→BV w (XR i b off vs)
 | [],_,_=>Bb w
 |_::_,_,h=>CO h.1 (HV h.2)
theorem mD{w:World}: ∀ {sp:List Spc},cN w sp→BV w (TZ sp)
 | [],_=>Bb w
 | .v _ _::t,h=>mD (sp:=t) h
 | .r _ _ _ _::t,h=>fun q hq=>by
  rcases List.mem_append.1 hq with hq|hq
  · exact mD (sp:=t) h.2 q hq
  · exact HV h.1 q hq
theorem Ta{w:World}{b:Nat}{cs:List Value}(h: ∀(k:Nat) (v:Value),cs[k]? =some v→w.cell? ⟨b,k,none⟩=some v): ∀ {vs:List Value} {off:Nat},(cs.drop off).take vs.length=vs→PR w b off vs
 | [],_,_=>trivial
 |v::vs,off,hv=>by
  have h0:cs[off]? =some v:=by
   have h1:=congrArg (fun l=>l[0]?) hv
   simpa [List.getElem?_take,List.getElem?_drop] using h1
  refine⟨h _ _ h0,Ta h ?_⟩
  have hl:=(List.getElem?_eq_some_iff.1 h0).1
  rw[List.drop_eq_getElem_cons hl,List.length_cons,List.take_succ_cons] at hv
  exact(List.cons.inj hv).2
theorem cR{g w:World}{A:List AB}{b off:Nat}{cs vs:List Value}{t:TypeId}(hs:sat g w A)(j:Nat)(hj:A[j]? =some (Cl b cs t))(hv:(cs.drop off).take vs.length=vs):PR w b off vs:=Ta (fun _ _ hk=>AL hs j hj hk) hv
def fE(sp:List Spc)(is:List Nat):List Ent:=is.map fun i=>MH i sp
theorem NN(i:Nat): ∀sp:List Spc,(MH i sp).i=i
 | []=>rfl
 | .v j x::t=>by unfold MH;cases Nat.beq i j;exact NN i t;rfl
 | .r j _ _ _::t=>by unfold MH;cases Nat.beq i j;exact NN i t;rfl
theorem yF(sp:List Spc)(is:List Nat):(fE sp is).map (·.i)=is:=by
 unfold fE
 rw[List.map_map]
 exact(List.map_congr_left fun i _=>NN i sp).trans (List.map_id is)
section
variable {P : Program} {ops : Array Oper} {Q : Exit → Act → World → Prop} {ds : List Deferred} {n : Nat} {l : Fr} {w : World} {rest : List Nat}
theorem yR(k:Nat)(hd:Fr)(sp:List Spc)(eqs:List (Value×Value)){is:List Nat}(he:G3 eqs)(hc:cN w sp)(hr:PO P ops Q (is.drop k) (Ad ds n (hd++l)) w)(h:E5 P ops n l (fE sp (is.take k))=some (hd++l,TZ sp,eqs):=by kernel_rfl):PO P ops Q is (Ad ds n l) w:=by
 have h1:=EY (fE sp (is.take k)) (ds:=ds) h he (mD hc) hr
 rwa [yF,List.take_append_drop] at h1
theorem y0(k:Nat)(hd:Fr){is:List Nat}(hr:PO P ops Q (is.drop k) (Ad ds n (hd++l)) w)(h:E5 P ops n l (fE [] (is.take k))=some (hd++l,[],[]):=by kernel_rfl):PO P ops Q is (Ad ds n l) w:=yR k hd [] [] trivial trivial hr h
end
section
variable {P : Program} {fn : Func} {m n : Nat} {l : Fr} {w : World} {R : Ending → World → Prop}
end
end Go.Proofs.YtcgkoffnknpgjaaGreatDoor
