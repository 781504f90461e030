/-
  Resources, as plain functions. No program in sight.
-/
import Derived.Test.YtjjpmehiolejgaaTabT
namespace Go.Proofs.Ytjjpmehiolejgaa
def posP (x y z st why tr nx : Int) : Prop := (1 ≤ x ∧ x ≤ 3 ∧ 0 ≤ y ∧ y ≤ 63 ∧ 1 ≤ z) ∧ ((st = 1 ∧ why = 0 ∧ tr = 0 ∧ nx = 0) ∨ (st = 2 ∧ 1 ≤ why ∧ why ≤ 3 ∧ 0 ≤ tr ∧ tr ≤ 10000 ∧ 0 ≤ nx ∧ nx ≤ 1099511627776) ∨ ((st = 3 ∨ st = 4) ∧ 1 ≤ why ∧ why ≤ 3 ∧ 0 ≤ tr ∧ tr ≤ 10000 ∧ nx = 0))
instance (x y z st why tr nx : Int) : Decidable (posP x y z st why tr nx) := by unfold posP; infer_instance
structure Rs where
  out : Ky
  st : Int
  why : Int
  tr : Int
  nx : Int
  tag : List UInt8
def eRs (r : Rs) : List Value := [.int .i64 r.out.1, .int .i64 r.out.2.1, .int .u32 r.out.2.2, .int .i64 r.st, .int .i64 r.why, .int .i64 r.tr, .int .i64 r.nx, .string (St r.tag)]
theorem eRs_ok : Enc 8 eRs := ⟨fun _ => rfl, fun x v hv => by simp [eRs] at hv; rcases hv with rfl | rfl | rfl | rfl | rfl | rfl | rfl | rfl <;> rfl⟩
/-- The error of a resource. -/
def resE (x y z st why tr nx : Int) (L : List UInt8) : Int := if posP x y z st why tr nx then tagE L else 2
end Go.Proofs.Ytjjpmehiolejgaa
