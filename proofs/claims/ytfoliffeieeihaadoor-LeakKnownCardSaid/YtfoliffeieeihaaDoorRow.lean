/-
  What came in, opened: ints, bools, strings, structs, slices of what lies flat. No program in sight.
-/
import Derived.Test.YtfoliffeieeihaaDoorLst
import Derived.OpenShut
import Derived.Deep.Slices
import Derived.ChangeArms
import Derived.WideShapes
namespace Go.Proofs.YtfoliffeieeihaaDoor
open Go.ChangeShapes Go.WideShapes Go.Deep

section
variable {H : Type} {enc : TypeId × Value → H} {P : Program} {w : World} {base : Nat} {spare : Nat → Bool} {held : Bool} {fuel : Nat} {cs : List Value} {x : DataW H × List MemPlace} {t : TypeId}

end

end Go.Proofs.YtfoliffeieeihaaDoor
