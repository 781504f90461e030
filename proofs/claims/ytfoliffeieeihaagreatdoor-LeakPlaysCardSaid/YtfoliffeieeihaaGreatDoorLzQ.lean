/-
  Steps of a script over a report. No program in sight.
-/
import Derived.Test.YtfoliffeieeihaaGreatDoorLzP
namespace Go.Proofs.YtfoliffeieeihaaGreatDoor
structure Stq where
  dv : Int
  o : Ky
  t : List UInt8
  a : At
def eSq (x : Stq) : List Value := [.int .i64 x.dv, .int .i64 x.o.1, .int .i64 x.o.2.1, .int .u32 x.o.2.2, .string (St x.t), .int .i64 x.a.at_, .int .i64 x.a.out.1, .int .i64 x.a.out.2.1, .int .u32 x.a.out.2.2, .int .i64 x.a.why, .int .i64 x.a.ans]
theorem eSq_ok : Enc 11 eSq := ⟨fun _ => rfl, fun x v hv => by simp [eSq] at hv; rcases hv with rfl | rfl | rfl | rfl | rfl | rfl | rfl | rfl | rfl | rfl | rfl <;> rfl⟩
def SqOk (x : Stq) : Prop := (0 ≤ x.o.2.2 ∧ x.o.2.2 ≤ 4294967295) ∧ 0 ≤ x.a.out.2.2 ∧ x.a.out.2.2 ≤ 4294967295
def plS (T : List Stq) : Nat → Rp
  | 0 => ⟨[], []⟩
  | i + 1 => match T[i]? with
    | none => plS T i
    | some x => if x.dv = 0 then opdS (plS T i) x.o x.t else if x.dv = 1 then trS (plS T i) x.a else plS T i
section
variable {T : List Stq} {i : Nat} {x : Stq} (hx : T[i]? = some x)
include hx
theorem plS_0 (h : x.dv = 0) : plS T (i + 1) = opdS (plS T i) (x.o.1, x.o.2.1, x.o.2.2) x.t := by simp only [plS, hx, if_pos h]
theorem plS_1 (h : x.dv = 1) : plS T (i + 1) = trS (plS T i) ⟨x.a.at_, (x.a.out.1, x.a.out.2.1, x.a.out.2.2), x.a.why, x.a.ans⟩ := by
  simp only [plS, hx]
  rw [if_neg (by omega), if_pos h]
theorem plS_n (h0 : ¬ x.dv = 0) (h1 : ¬ x.dv = 1) : plS T (i + 1) = plS T i := by
  simp only [plS, hx]
  rw [if_neg h0, if_neg h1]
end
theorem plS_len (T : List Stq) : ∀ i, (plS T i).A.length ≤ i
  | 0 => Nat.le_refl _
  | i + 1 => by
    have := plS_len T i
    simp only [plS]
    split
    · omega
    · split
      · rw [opdS_len]; omega
      · split
        · unfold trS
          split
          · rw [List.length_append]
            show _ + 1 ≤ _
            omega
          · omega
        · omega
def shB (T : List Stq) : Bool := decide (T.length ≤ 100) && T.all fun x => decide (x.t.length ≤ 100)
theorem sh_t {T : List Stq} {n : Nat} (hn : T.length = n) (h1 : n ≤ 100) (h2 : ∀ (j : Nat) x, j < n → T[j]? = some x → x.t.length ≤ 100) : shB T = true := by
  subst hn
  unfold shB
  rw [decide_eq_true h1, Bool.true_and, List.all_eq_true]
  intro x hx
  obtain ⟨j, hj, rfl⟩ := List.mem_iff_getElem.1 hx
  exact decide_eq_true (h2 j _ hj (List.getElem?_eq_getElem hj))
theorem sh_n {T : List Stq} {n : Nat} (hn : T.length = n) (h1 : 100 < n) : shB T = false := by
  subst hn
  unfold shB
  rw [decide_eq_false (by omega), Bool.false_and]
theorem sh_f {T : List Stq} {i : Nat} {x : Stq} (hx : T[i]? = some x) (h : 100 < x.t.length) : shB T = false := by
  unfold shB
  have : (T.all fun x => decide (x.t.length ≤ 100)) = false := by
    rw [List.all_eq_false]
    exact ⟨x, List.mem_of_getElem? hx, by simp; omega⟩
  rw [this, Bool.and_false]
theorem sh_le {T : List Stq} (h : shB T = true) : T.length ≤ 100 ∧ ∀ x ∈ T, x.t.length ≤ 100 := by
  unfold shB at h
  rw [Bool.and_eq_true, List.all_eq_true] at h
  exact ⟨of_decide_eq_true h.1, fun x hx => of_decide_eq_true (h.2 x hx)⟩
theorem up_step {α : Type} {T : List α} {P : α → Prop} {i : Nat} {x : α} (h : ∀ (j : Nat) y, j < i → T[j]? = some y → P y) (hx : T[i]? = some x) (hp : P x) : ∀ (j : Nat) y, j < i + 1 → T[j]? = some y → P y := fun j y hj hy => by
  rcases Nat.lt_or_ge j i with h1 | h1
  · exact h j y h1 hy
  · obtain rfl : j = i := by omega
    rw [hx] at hy
    rw [← Option.some.inj hy]
    exact hp
end Go.Proofs.YtfoliffeieeihaaGreatDoor
