/-
  Maps whose keys are structs of three integers, as lists of pairs: as an assertion; new, looked up, updated, deleted. No program in sight.
-/
import Derived.Test.YtfoliffeieeihaaGreatDoorStr
namespace Go.Proofs.YtfoliffeieeihaaGreatDoor
variable {ds : List Deferred}

abbrev Ky := Int × Int × Int
def kv (k : Ky) : Value := .agg #[.int .i64 k.1, .int .i64 k.2.1, .int .u32 k.2.2]
abbrev Mm := List (Ky × Int)
/-- What is asked of the program's key type. -/
structure KeyOk (P : Program) (key : TypeId) : Prop where
  eq : ∀ (a b : Ky) (w : World), (Op.equal key (kv a) (kv b)).run P w = .ok (decide (a = b)) w
  ck : ∀ (a : Ky) (e : Bool) (w : World), (Instr.checkKey e 10000 key (kv a)).run P w = .ok () w
  st : ∃ fs, P.underlying key = some (.struct fs)

section
variable {P : Program} {key : TypeId} {w : World}
end

section
variable {P : Program} {Q : Exit → Act → World → Prop} {g w : World} {L : List Assn} {n : Nat} {l : Fr} {o : Oper} {N : Act → World → Prop} {key elem b : Nat} {E : Mm}
theorem same_kv (k : Ky) : Instr.sameBits 10000 (kv k) (kv k) = true := by
  have h : ∀ d : Nat, Instr.sameBits (d + 1 + 1) (kv k) (kv k) = true := fun d => by simp [kv, Instr.sameBits]
  exact h 9998
end
end Go.Proofs.YtfoliffeieeihaaGreatDoor
