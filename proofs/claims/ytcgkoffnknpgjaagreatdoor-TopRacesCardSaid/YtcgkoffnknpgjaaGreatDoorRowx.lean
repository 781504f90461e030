/-
  What came in, opened: ints, bools, strings, structs, slices of what lies flat. No program in sight.
-/
import Derived.Test.YtcgkoffnknpgjaaGreatDoorLstx
import Derived.OpenShut
import Derived.Deep.Slices
import Derived.ChangeArms
import Derived.WideShapes
namespace Go.Proofs.YtcgkoffnknpgjaaGreatDoor
set_option linter.unusedVariables false
set_option linter.unusedSimpArgs false
open Go.ChangeShapes Go.WideShapes Go.Deep
section
variable {H : Type} {enc : TypeId × Value → H} {P : Program} {w : World} {base : Nat} {spare : Nat → Bool} {held : Bool} {fuel : Nat} {cs : List Value} {x : DataW H × List MemPlace} {t : TypeId}
theorem cE(ht:P.underlying t=some .bool)(h:DataW.trod enc P w base spare held fuel t cs=some x): ∃b:Bool,cs= [.bool b]:=by
 obtain⟨b,h1,_⟩:=DataW.trod_bool ht h
 exact⟨b,h1⟩
theorem lZ{k:IntKind}(ht:P.underlying t=some (.int k))(h:DataW.trod enc P w base spare held fuel t cs=some x): ∃z:Int,cs= [.int k z]∧k.min≤z∧z≤k.max:=by
 obtain⟨z,h1,_,h2⟩:=DataW.trod_int ht h
 simp only[Lit.wf,Bool.and_eq_true,decide_eq_true_eq] at h2
 exact⟨z,h1,h2⟩
theorem PM{fs:Array Field}(ht:P.underlying t=some (.struct fs))(h:DataW.trod enc P w base spare held fuel t cs=some x):
  cs.length=P.cellsOf t∧ ∀(i:Nat) (f:Field),fs[i]? =some f→ ∃y n,DataW.trod enc P w base spare held n f.type ((cs.drop f.offset).take (P.cellsOf f.type))=some y:=by
 obtain⟨xs,n,_,_,hl,hlen,hf⟩:=DataW.trod_struct ht h
 refine⟨hl,fun i f hi=> ?_⟩
 have h1:i<xs.length:=by rw[hlen];exact(Array.getElem?_eq_some_iff.1 hi).1
 exact⟨xs[i],n,(hf i f hi).trans (List.getElem?_eq_getElem h1)⟩
theorem Du{fs:Array Field}(ht:P.underlying t=some (.struct fs))(h:DataW.trod enc P w base spare held fuel t cs=some x)(i:Nat)(f:Field)(hi:fs[i]? =some f)(k:Nat)(hk:P.cellsOf f.type=k):
  ∃y n,DataW.trod enc P w base spare held n f.type ((cs.drop f.offset).take k)=some y:=by
 subst hk
 exact(PM ht h).2 i f hi
end
end Go.Proofs.YtcgkoffnknpgjaaGreatDoor
