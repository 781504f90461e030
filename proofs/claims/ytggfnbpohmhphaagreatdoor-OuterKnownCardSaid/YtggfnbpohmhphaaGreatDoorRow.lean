/-
  What came in, opened: ints, bools, strings, structs, slices of what lies flat. No program in sight.
-/
import Derived.Test.YtggfnbpohmhphaaGreatDoorLst
import Derived.OpenShut
import Derived.Deep.Slices
import Derived.ChangeArms
import Derived.WideShapes
namespace Go.Proofs.YtggfnbpohmhphaaGreatDoor
open Go.ChangeShapes Go.WideShapes Go.Deep

section
variable {H : Type} {enc : TypeId × Value → H} {P : Program} {w : World} {base : Nat} {spare : Nat → Bool} {held : Bool} {fuel : Nat} {cs : List Value} {x : DataW H × List MemPlace} {t : TypeId}

end

end Go.Proofs.YtggfnbpohmhphaaGreatDoor
