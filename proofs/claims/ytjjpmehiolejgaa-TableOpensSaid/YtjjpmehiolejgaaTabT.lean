/-
  Tags, as plain functions of the lists of their bytes. No program in sight.
-/
import Derived.Test.YtjjpmehiolejgaaSrg
namespace Go.Proofs.Ytjjpmehiolejgaa
def badR (L : List UInt8) (p : Nat) : Prop := ((dec L p).1 = 65533 ∧ ¬ (L.drop p).take 3 = [239, 191, 189]) ∨ (dec L p).1 < 32 ∨ (dec L p).1 = 127
instance (L : List UInt8) (p : Nat) : Decidable (badR L p) := by unfold badR; infer_instance
def tagScan (L : List UInt8) : Nat → Nat → Nat → Option Nat
  | 0, _, n => some n
  | f + 1, p, n => if L.length ≤ p then some n else if badR L p then none else tagScan L f (p + (dec L p).2) (n + 1)
theorem scan_end {L : List UInt8} {f p n : Nat} (h : L.length ≤ p) : tagScan L f p n = some n := by
  cases f with
  | zero => rfl
  | succ f => exact if_pos h
theorem scan_bad {L : List UInt8} {f p n : Nat} (h : p < L.length) (hf : L.length ≤ p + f) (hb : badR L p) : tagScan L f p n = none := by
  cases f with
  | zero => omega
  | succ f =>
    show (if L.length ≤ p then _ else _) = _
    rw [if_neg (by omega), if_pos hb]
theorem scan_go {L : List UInt8} {f p n : Nat} (h : p < L.length) (hf : L.length ≤ p + f) (hb : ¬ badR L p) : tagScan L f p n = tagScan L (f - 1) (p + (dec L p).2) (n + 1) := by
  cases f with
  | zero => omega
  | succ f =>
    show (if L.length ≤ p then _ else _) = _
    rw [if_neg (by omega), if_neg hb]
    rfl
def scanN (L : List UInt8) : Nat := (tagScan L L.length 0 0).getD 0
def scanB (L : List UInt8) : Bool := (tagScan L L.length 0 0).isSome
/-- The error of a tag. -/
def tagE (L : List UInt8) : Int := if 96 < L.length then 16 else if scanB L = true ∧ 1 ≤ scanN L ∧ scanN L ≤ 24 then 0 else 16
theorem tagE_or (L : List UInt8) : tagE L = 0 ∨ tagE L = 16 := by
  unfold tagE
  split
  · exact .inr rfl
  · split
    · exact .inl rfl
    · exact .inr rfl
theorem pfx_len {L : List UInt8} {a b c : UInt8} (h : L.take 3 = [a, b, c]) : 3 ≤ L.length := by
  have := congrArg List.length h
  rw [List.length_take] at this
  simp only [List.length_cons, List.length_nil] at this
  omega
end Go.Proofs.Ytjjpmehiolejgaa
