/-
  What a card's laid variables hold. No program in sight.
-/
import Derived.Test.YtehlamblpekmkaaGreatDoorRn2
import Derived.Lib.LaidTab
import Derived.Test.YtehlamblpekmkaaGreatDoorRow
namespace Go.Proofs.YtehlamblpekmkaaGreatDoor
open Go.Lib
section
variable {P : Program} {W : World} {nm : String} {g : Nat} {t e : TypeId} {n : Nat} {rest : List (String × DataW Unit)} {ps : List MemPlace} {d : DataW Unit}
end
end Go.Proofs.YtehlamblpekmkaaGreatDoor
