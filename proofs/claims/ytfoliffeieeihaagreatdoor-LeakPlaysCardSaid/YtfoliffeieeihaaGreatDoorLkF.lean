/-
  The leaks of resources with tags, and a ledger: opened one behind the other, tried one behind the other; and the laws' limits. No program in sight.
-/
import Derived.Test.YtfoliffeieeihaaGreatDoorBundle38
namespace Go.Proofs.YtfoliffeieeihaaGreatDoor
section
variable {Os : List Ky} {Ts : List (List UInt8)} {As : List At} {i : Nat} {o : Ky} {t : List UInt8} {a : At} {S : Rp}
end
-- the law's own resources
end Go.Proofs.YtfoliffeieeihaaGreatDoor
