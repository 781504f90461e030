/-
  maps.Clone: values in interfaces, and a copy of a map. No program in sight.
-/
import Derived.Test.YtfoliffeieeihaaGreatDoorMap
import GoSem.Extern.MapsClone
namespace Go.Proofs.YtfoliffeieeihaaGreatDoor
variable {ds : List Deferred} {P : Program} {o : Oper} {n : Nat} {l : Fr} {g w : World} {L : List Assn} {b : Nat} {E : Mm} {N : Act → World → Prop} {Q : Exit → Act → World → Prop}
end Go.Proofs.YtfoliffeieeihaaGreatDoor
