/-
  The order of tags by runes is the order by bytes. No program in sight.
-/
import Derived.Test.YtfoliffeieeihaaGreatDoorBundle38
namespace Go.Proofs.YtfoliffeieeihaaGreatDoor
section
variable {a b : List UInt8} {l m : List Nat} {i x y : Nat} (ha : tagE a = 0) (hb : tagE b = 0) (hl : rnD a a.length 0 = some l) (hm : rnD b b.length 0 = some m)
include ha hb hl hm
end
-- the document's list of tags
/-- Tags of the first leaks, in order. -/
structure Dt (L : List Lk) (i : Nat) (T : List (List UInt8)) : Prop where
  so : T.Pairwise fun a b => a < b
  mem : ∀ t, t ∈ T ↔ ∃ x ∈ L.take i, x.tag = t
  le : T.length ≤ i
end Go.Proofs.YtfoliffeieeihaaGreatDoor
