/-
  Remainders and quotients of integers that are not negative, said exactly. Lemmas of the engine, no program.
-/
import Derived.Test.YtfoliffeieeihaaGreatDoorLst
namespace Go.Proofs.YtfoliffeieeihaaGreatDoor
end Go.Proofs.YtfoliffeieeihaaGreatDoor
