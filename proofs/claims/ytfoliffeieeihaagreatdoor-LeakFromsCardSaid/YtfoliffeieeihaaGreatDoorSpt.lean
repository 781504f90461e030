/-
  A part of a string. No program in sight.
-/
import Derived.Test.YtfoliffeieeihaaGreatDoorSrg
import Derived.Test.YtfoliffeieeihaaGreatDoorMod
import Derived.Test.YtfoliffeieeihaaGreatDoorStr
namespace Go.Proofs.YtfoliffeieeihaaGreatDoor
open Go.RowKit
end Go.Proofs.YtfoliffeieeihaaGreatDoor
