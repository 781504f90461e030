/-
  What the document's functions say of reports, step by step. No program in sight.
-/
import Derived.Test.YtfoliffeieeihaaGreatDoorLzO
import Derived.Test.YtfoliffeieeihaaGreatDoorLkF
namespace Go.Proofs.YtfoliffeieeihaaGreatDoor
theorem gg_hit {β : Type} {E : List (Ky × β)} {i : Nat} {k o : Ky} {t : β} (hx : (E.map (·.1))[i]? = some k) (ht : (E.map (·.2))[i]? = some t) (he : k = o) (h0 : gget (E.take i) o = none) : gget E o = some t := by
  induction E generalizing i with
  | nil => simp at hx
  | cons q E ih =>
    obtain ⟨a, v⟩ := q
    cases i with
    | zero =>
      simp only [List.map_cons, List.getElem?_cons_zero, Option.some.injEq] at hx ht
      subst hx ht
      simp only [gget]
      rw [if_pos he.symm]
    | succ i =>
      simp only [List.map_cons, List.getElem?_cons_succ] at hx ht
      rw [List.take_succ_cons] at h0
      simp only [gget] at h0 ⊢
      split at h0
      · cases h0
      · rename_i ha
        rw [if_neg ha]
        exact ih hx ht h0
theorem gg_miss {β : Type} {E : List (Ky × β)} {i : Nat} {k o : Ky} (hx : (E.map (·.1))[i]? = some k) (he : ¬ k = o) (h0 : gget (E.take i) o = none) : gget (E.take (i + 1)) o = none := by
  rw [gn_none] at h0 ⊢
  rw [List.getElem?_map, Option.map_eq_some_iff] at hx
  obtain ⟨q, hq, rfl⟩ := hx
  rw [List.take_add_one, hq, List.map_append, List.mem_append]
  rintro (h | h)
  · exact h0 h
  · simp only [Option.toList_some, List.map_cons, List.map_nil, List.mem_singleton] at h
    exact he h.symm
theorem gg_end {β : Type} {E : List (Ky × β)} {i : Nat} {o : Ky} (hi : E.length ≤ i) (h0 : gget (E.take i) o = none) : gget E o = none := by rwa [List.take_of_length_le hi] at h0
theorem so_at {A : List At} {i : Nat} {a : At} {o : Ky} (ha : A[i]? = some a) : stOf (A.drop i) o = if a.out = o ∧ a.ans = 1 then 3 else if a.out = o ∧ a.ans = 3 then 4 else stOf (A.drop (i + 1)) o := by
  obtain ⟨hi, rfl⟩ := List.getElem?_eq_some_iff.1 ha
  rw [List.drop_eq_getElem_cons hi]
  rfl
section
variable {A : List At} {i : Nat} {a : At} {o : Ky} (ha : A[i]? = some a) (h : stOf A o = stOf (A.drop i) o)
include ha h
theorem so_3 (he : a.out = o) (hs : a.ans = 1) : stOf A o = 3 := by rw [h, so_at ha, if_pos ⟨he, hs⟩]
theorem so_4 (he : a.out = o) (hs : a.ans = 3) : stOf A o = 4 := by rw [h, so_at ha, if_neg (fun q => by have := q.2; omega), if_pos ⟨he, hs⟩]
theorem so_n (hn : ¬ (a.out = o ∧ (a.ans = 1 ∨ a.ans = 3))) : stOf A o = stOf (A.drop (i + 1)) o := by rw [h, so_at ha, if_neg (fun q => hn ⟨q.1, .inl q.2⟩), if_neg (fun q => hn ⟨q.1, .inr q.2⟩)]
end
theorem so_end {A : List At} {i : Nat} {o : Ky} (hi : A.length ≤ i) (h : stOf A o = stOf (A.drop i) o) : stOf A o = 2 := by
  rw [h, List.drop_eq_nil_of_le hi]
  rfl
theorem if_e {A : List At} {k : Nat} {a y : At} (hy : A[k]? = some y) (he : y.out = a.out) : isF A (k + 1) a = false := by
  unfold isF
  rw [List.take_add_one, hy, List.all_append]
  simp [he]
theorem if_n {A : List At} {k : Nat} {a y : At} (hy : A[k]? = some y) (he : ¬ y.out = a.out) : isF A (k + 1) a = isF A k a := by
  unfold isF
  rw [List.take_add_one, hy, List.all_append]
  simp [he]
theorem if_f {A : List At} {k : Nat} {a : At} (h : false = isF A k a) : false = isF A (k + 1) a := by
  unfold isF at h ⊢
  rw [List.take_add_one, List.all_append, ← h]
  rfl
theorem lksN_y {S : Rp} {i : Nat} {a : At} (ha : S.A[i]? = some a) (hf : isF S.A i a = true) (hy : a.why = 3) : lksN S (i + 1) = lksN S i ++ [lkOf S a] := by
  simp only [lksN, lkAt, ha]
  rw [if_pos ⟨hf, hy⟩]
theorem lksN_n {S : Rp} {i : Nat} {a : At} (ha : S.A[i]? = some a) (h : ¬ (isF S.A i a = true ∧ a.why = 3)) : lksN S (i + 1) = lksN S i := lks_skip ha h
theorem opdO {S : Rp} {o : Ky} {t : List UInt8} (h : opdE S o t = 0) : (opdS S o t).O.map (·.1) = S.O.map (·.1) ++ [o] ∧ (opdS S o t).O.map (·.2) = S.O.map (·.2) ++ [t] ∧ (opdS S o t).O.length = S.O.length + 1 ∧ (opdS S o t).A = S.A := by
  unfold opdS
  rw [if_pos h]
  simp
theorem trA {S : Rp} {a : At} (h : trE S a = 0) : (trS S a).A = S.A ++ [a] ∧ (trS S a).O = S.O := by
  unfold trS
  rw [if_pos h]
  exact ⟨rfl, rfl⟩
-- texts
end Go.Proofs.YtfoliffeieeihaaGreatDoor
