/-
  Shorter forms once more: what is read, row by row; calls, batches and ends in one line. No program in sight.
-/
import Derived.Test.YtcgkoffnknpgjaaGreatDoorSh2
namespace Go.Proofs.YtcgkoffnknpgjaaGreatDoor
set_option linter.unusedVariables false
set_option linter.unusedSimpArgs false
inductive Spc where
 |v (i:Nat) (x:Value)
 |r (i b off:Nat) (vs:List Value)
def spEnt(i:Nat):List Spc→Ent
 | []=>⟨i,[],none⟩
 | .v j x::t=>cond (Nat.beq i j) ⟨i,[],some x⟩ (spEnt i t)
 | .r j _ _ vs::t=>cond (Nat.beq i j) ⟨i,vs,none⟩ (spEnt i t)
def rowP(i b:Nat):Nat→List Value→List Pt
 |_,[]=> []
 |off,v::vs=>(i,⟨b,off,none⟩,v)::rowP i b (off+1) vs
def spPts:List Spc→List Pt
 | []=> []
 | .v _ _::t=>spPts t
 | .r i b off vs::t=>spPts t++rowP i b off vs
def RowH(w:World)(b:Nat):Nat→List Value→Prop
 |_,[]=>True
 |off,v::vs=>w.cell? ⟨b,off,none⟩=some v∧RowH w b (off+1) vs
def AllR(w:World):List Spc→Prop
 | []=>True
 | .v _ _::t=>AllR w t
 | .r _ b off vs::t=>RowH w b off vs∧AllR w t
theorem rowP_all{w:World}{i b:Nat}: ∀ {vs:List Value} {off:Nat},RowH w b off vs→AllC w (rowP i b off vs)
 | [],_,_=>AllC_nil w
 |_::_,_,h=>AllC_cons h.1 (rowP_all h.2)
theorem allR{w:World}: ∀ {sp:List Spc},AllR w sp→AllC w (spPts sp)
 | [],_=>AllC_nil w
 | .v _ _::t,h=>allR (sp:=t) h
 | .r _ _ _ _::t,h=>fun q hq=>by
  rcases List.mem_append.1 hq with hq|hq
  · exact allR (sp:=t) h.2 q hq
  · exact rowP_all h.1 q hq
theorem rowH_of{w:World}{b:Nat}{cs:List Value}(h: ∀(k:Nat) (v:Value),cs[k]? =some v→w.cell? ⟨b,k,none⟩=some v): ∀ {vs:List Value} {off:Nat},(cs.drop off).take vs.length=vs→RowH w b off vs
 | [],_,_=>trivial
 |v::vs,off,hv=>by
  have h0:cs[off]? =some v:=by
   have h1:=congrArg (fun l=>l[0]?) hv
   simpa [List.getElem?_take,List.getElem?_drop] using h1
  refine⟨h _ _ h0,rowH_of h ?_⟩
  have hl:=(List.getElem?_eq_some_iff.1 h0).1
  rw[List.drop_eq_getElem_cons hl,List.length_cons,List.take_succ_cons] at hv
  exact(List.cons.inj hv).2
theorem cR{g w:World}{A:List Assn}{b off:Nat}{cs vs:List Value}{t:TypeId}(hs:sat g w A)(j:Nat)(hj:A[j]? =some (Cl b cs t))(hv:(cs.drop off).take vs.length=vs):RowH w b off vs:=rowH_of (fun _ _ hk=>sat_cell hs j hj hk) hv
def fE(sp:List Spc)(is:List Nat):List Ent:=is.map fun i=>spEnt i sp
theorem spEnt_i(i:Nat): ∀sp:List Spc,(spEnt i sp).i=i
 | []=>rfl
 | .v j x::t=>by unfold spEnt;cases Nat.beq i j;exact spEnt_i i t;rfl
 | .r j _ _ _::t=>by unfold spEnt;cases Nat.beq i j;exact spEnt_i i t;rfl
theorem fE_i(sp:List Spc)(is:List Nat):(fE sp is).map (·.i)=is:=by
 unfold fE
 rw[List.map_map]
 exact(List.map_congr_left fun i _=>spEnt_i i sp).trans (List.map_id is)
section
variable {P : Program} {ops : Array Oper} {Q : Exit → Act → World → Prop} {ds : List Deferred} {n : Nat} {l : Fr} {w : World} {rest : List Nat}
theorem yR(k:Nat)(hd:Fr)(sp:List Spc)(eqs:List (Value×Value)){is:List Nat}(he:AllE eqs)(hc:AllR w sp)(hr:PO P ops Q (is.drop k) (mkd ds n (hd++l)) w)(h:chkB P ops n l (fE sp (is.take k))=some (hd++l,spPts sp,eqs):=by kernel_rfl):PO P ops Q is (mkd ds n l) w:=by
 have h1:=plain_batch (fE sp (is.take k)) (ds:=ds) h he (allR hc) hr
 rwa [fE_i,List.take_append_drop] at h1
theorem y0(k:Nat)(hd:Fr){is:List Nat}(hr:PO P ops Q (is.drop k) (mkd ds n (hd++l)) w)(h:chkB P ops n l (fE [] (is.take k))=some (hd++l,[],[]):=by kernel_rfl):PO P ops Q is (mkd ds n l) w:=yR k hd [] [] trivial trivial hr h
end
section
variable {P : Program} {fn : Func} {m n : Nat} {l : Fr} {w : World} {R : Ending → World → Prop}
end
end Go.Proofs.YtcgkoffnknpgjaaGreatDoor
