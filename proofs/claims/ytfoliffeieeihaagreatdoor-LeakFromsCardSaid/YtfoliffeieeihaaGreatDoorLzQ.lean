/-
  Steps of a script over a report. No program in sight.
-/
import Derived.Test.YtfoliffeieeihaaGreatDoorLzP
namespace Go.Proofs.YtfoliffeieeihaaGreatDoor
structure Stq where
  dv : Int
  o : Ky
  t : List UInt8
  a : At
section
variable {T : List Stq} {i : Nat} {x : Stq} (hx : T[i]? = some x)
include hx
end
theorem up_step {α : Type} {T : List α} {P : α → Prop} {i : Nat} {x : α} (h : ∀ (j : Nat) y, j < i → T[j]? = some y → P y) (hx : T[i]? = some x) (hp : P x) : ∀ (j : Nat) y, j < i + 1 → T[j]? = some y → P y := fun j y hj hy => by
  rcases Nat.lt_or_ge j i with h1 | h1
  · exact h j y h1 hy
  · obtain rfl : j = i := by omega
    rw [hx] at hy
    rw [← Option.some.inj hy]
    exact hp
theorem up_all {α : Type} {T : List α} {P : α → Prop} {i n : Nat} (h : ∀ (j : Nat) y, j < i → T[j]? = some y → P y) (hn : T.length = n) (hi : n ≤ i) : ∀ y ∈ T, P y := fun y hy => by
  obtain ⟨j, hj, rfl⟩ := List.mem_iff_getElem.1 hy
  exact h j _ (by omega) (List.getElem?_eq_getElem hj)
def WdOk (_ : List UInt8) : Prop := True
def KyOk2 (o : Ky) : Prop := 0 ≤ o.2.2 ∧ o.2.2 ≤ 4294967295
def AtOk2 (a : At) : Prop := 0 ≤ a.out.2.2 ∧ a.out.2.2 ≤ 4294967295
end Go.Proofs.YtfoliffeieeihaaGreatDoor
