/-
  The tail of a slice. Lemmas of the engine, no program.
-/
import Derived.Test.YtfoliffeieeihaaGreatDoorLst
import Derived.Test.YtfoliffeieeihaaGreatDoorLaws
namespace Go.Proofs.YtfoliffeieeihaaGreatDoor
section
variable {P : Program} {n : Nat} {l : Fr} {o : Oper}
end
end Go.Proofs.YtfoliffeieeihaaGreatDoor
