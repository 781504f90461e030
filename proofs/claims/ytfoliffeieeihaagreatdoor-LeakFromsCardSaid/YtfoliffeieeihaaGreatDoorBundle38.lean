/-
  Attempts by numbers: what the laws' 'tried' leaves behind. No program in sight.
-/
import Derived.Test.YtfoliffeieeihaaGreatDoorBundle30
import Derived.Test.YtfoliffeieeihaaGreatDoorBundle18
import Derived.Test.YtfoliffeieeihaaGreatDoorBundle35
namespace Go.Proofs.YtfoliffeieeihaaGreatDoor
def nmT (k : Nat) : List UInt8 := if k = 1 then [109, 97, 105, 110] else if k = 2 then [120, 32, 121] else [97]
-- one attempt more
/-- How leaks stay. -/
structure Sty (L M : List Lk) : Prop where
  lo : L.length ≤ M.length
  hi : M.length ≤ L.length + 1
  el : ∀ (k : Nat) x y, L[k]? = some x → M[k]? = some y → x.tag = y.tag ∧ x.out.1 = y.out.1 ∧ x.out.2.1 = y.out.2.1 ∧ x.out.2.2 = y.out.2.2 ∧ x.at_ = y.at_ ∧ (x.st = y.st ∨ x.st = 2)
-- the first attempt for a resource, and the last one
theorem lks_skip {S : Rp} {i : Nat} {a : At} (ha : S.A[i]? = some a) (h : ¬ (isF S.A i a = true ∧ a.why = 3)) : lksN S (i + 1) = lksN S i := by
  simp only [lksN, lkAt, ha]
  rw [if_neg h, List.append_nil]
-- ended
/-- The laid names. -/
structure Ln (g nb no : Nat) (wo : World) : Prop where
  sl : wo.cell? ⟨g, 0, none⟩ = some (.slice (some ⟨nb, no, none⟩) 4 4)
  el : ∀ k : Nat, k < 4 → wo.cell? ⟨nb, no + k, none⟩ = some (.string (St (nmT k)))
theorem ky3 {a b : Ky} (h1 : a.1 = b.1) (h2 : a.2.1 = b.2.1) (h3 : a.2.2 = b.2.2) : a = b := Prod.ext h1 (Prod.ext h2 h3)
end Go.Proofs.YtfoliffeieeihaaGreatDoor

/-
  Counts of tags, lines of texts. No program in sight.
-/
namespace Go.Proofs.YtfoliffeieeihaaGreatDoor
-- lines
end Go.Proofs.YtfoliffeieeihaaGreatDoor
