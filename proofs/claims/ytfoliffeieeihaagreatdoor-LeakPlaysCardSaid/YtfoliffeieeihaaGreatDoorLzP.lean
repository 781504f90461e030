/-
  What the document's functions say of reports, step by step. No program in sight.
-/
import Derived.Test.YtfoliffeieeihaaGreatDoorLzO
import Derived.Test.YtfoliffeieeihaaGreatDoorLkF
namespace Go.Proofs.YtfoliffeieeihaaGreatDoor
theorem gg_hit {β : Type} {E : List (Ky × β)} {i : Nat} {k o : Ky} {t : β} (hx : (E.map (·.1))[i]? = some k) (ht : (E.map (·.2))[i]? = some t) (he : k = o) (h0 : gget (E.take i) o = none) : gget E o = some t := by
  induction E generalizing i with
  | nil => simp at hx
  | cons q E ih =>
    obtain ⟨a, v⟩ := q
    cases i with
    | zero =>
      simp only [List.map_cons, List.getElem?_cons_zero, Option.some.injEq] at hx ht
      subst hx ht
      simp only [gget]
      rw [if_pos he.symm]
    | succ i =>
      simp only [List.map_cons, List.getElem?_cons_succ] at hx ht
      rw [List.take_succ_cons] at h0
      simp only [gget] at h0 ⊢
      split at h0
      · cases h0
      · rename_i ha
        rw [if_neg ha]
        exact ih hx ht h0
theorem gg_miss {β : Type} {E : List (Ky × β)} {i : Nat} {k o : Ky} (hx : (E.map (·.1))[i]? = some k) (he : ¬ k = o) (h0 : gget (E.take i) o = none) : gget (E.take (i + 1)) o = none := by
  rw [gn_none] at h0 ⊢
  rw [List.getElem?_map, Option.map_eq_some_iff] at hx
  obtain ⟨q, hq, rfl⟩ := hx
  rw [List.take_add_one, hq, List.map_append, List.mem_append]
  rintro (h | h)
  · exact h0 h
  · simp only [Option.toList_some, List.map_cons, List.map_nil, List.mem_singleton] at h
    exact he h.symm
theorem gg_end {β : Type} {E : List (Ky × β)} {i : Nat} {o : Ky} (hi : E.length ≤ i) (h0 : gget (E.take i) o = none) : gget E o = none := by rwa [List.take_of_length_le hi] at h0
theorem so_at {A : List At} {i : Nat} {a : At} {o : Ky} (ha : A[i]? = some a) : stOf (A.drop i) o = if a.out = o ∧ a.ans = 1 then 3 else if a.out = o ∧ a.ans = 3 then 4 else stOf (A.drop (i + 1)) o := by
  obtain ⟨hi, rfl⟩ := List.getElem?_eq_some_iff.1 ha
  rw [List.drop_eq_getElem_cons hi]
  rfl
section
variable {A : List At} {i : Nat} {a : At} {o : Ky} (ha : A[i]? = some a) (h : stOf A o = stOf (A.drop i) o)
include ha h
theorem so_3 (he : a.out = o) (hs : a.ans = 1) : stOf A o = 3 := by rw [h, so_at ha, if_pos ⟨he, hs⟩]
theorem so_4 (he : a.out = o) (hs : a.ans = 3) : stOf A o = 4 := by rw [h, so_at ha, if_neg (fun q => by have := q.2; omega), if_pos ⟨he, hs⟩]
theorem so_n (hn : ¬ (a.out = o ∧ (a.ans = 1 ∨ a.ans = 3))) : stOf A o = stOf (A.drop (i + 1)) o := by rw [h, so_at ha, if_neg (fun q => hn ⟨q.1, .inl q.2⟩), if_neg (fun q => hn ⟨q.1, .inr q.2⟩)]
end
theorem so_end {A : List At} {i : Nat} {o : Ky} (hi : A.length ≤ i) (h : stOf A o = stOf (A.drop i) o) : stOf A o = 2 := by
  rw [h, List.drop_eq_nil_of_le hi]
  rfl
theorem if_e {A : List At} {k : Nat} {a y : At} (hy : A[k]? = some y) (he : y.out = a.out) : isF A (k + 1) a = false := by
  unfold isF
  rw [List.take_add_one, hy, List.all_append]
  simp [he]
theorem if_n {A : List At} {k : Nat} {a y : At} (hy : A[k]? = some y) (he : ¬ y.out = a.out) : isF A (k + 1) a = isF A k a := by
  unfold isF
  rw [List.take_add_one, hy, List.all_append]
  simp [he]
theorem if_f {A : List At} {k : Nat} {a : At} (h : false = isF A k a) : false = isF A (k + 1) a := by
  unfold isF at h ⊢
  rw [List.take_add_one, List.all_append, ← h]
  rfl
theorem lksN_y {S : Rp} {i : Nat} {a : At} (ha : S.A[i]? = some a) (hf : isF S.A i a = true) (hy : a.why = 3) : lksN S (i + 1) = lksN S i ++ [lkOf S a] := by
  simp only [lksN, lkAt, ha]
  rw [if_pos ⟨hf, hy⟩]
theorem lksN_n {S : Rp} {i : Nat} {a : At} (ha : S.A[i]? = some a) (h : ¬ (isF S.A i a = true ∧ a.why = 3)) : lksN S (i + 1) = lksN S i := lks_skip ha h
theorem opdO {S : Rp} {o : Ky} {t : List UInt8} (h : opdE S o t = 0) : (opdS S o t).O.map (·.1) = S.O.map (·.1) ++ [o] ∧ (opdS S o t).O.map (·.2) = S.O.map (·.2) ++ [t] ∧ (opdS S o t).O.length = S.O.length + 1 ∧ (opdS S o t).A = S.A := by
  unfold opdS
  rw [if_pos h]
  simp
theorem trA {S : Rp} {a : At} (h : trE S a = 0) : (trS S a).A = S.A ++ [a] ∧ (trS S a).O = S.O := by
  unfold trS
  rw [if_pos h]
  exact ⟨rfl, rfl⟩
-- texts
theorem esc_1 {L : List UInt8} {i : Nat} {b : UInt8} (h : L[i]? = some b) : escL (L.take (i + 1)) = escL (L.take i) ++ escB b := by
  unfold escL
  rw [List.take_add_one, h, List.flatMap_append]
  simp
theorem qt_y {L : List UInt8} {i : Nat} {b : UInt8} (h : L[i]? = some b) (hb : b.toNat = 34 ∨ b.toNat = 92) : (qtA L i ++ [92]) ++ [b] = qtA L (i + 1) := by
  unfold qtA
  rw [esc_1 h]
  have : escB b = [92, b] := if_pos (hb.imp (fun e => u8_is e) (fun e => u8_is e))
  rw [this]
  simp
theorem qt_n {L : List UInt8} {i : Nat} {b : UInt8} (h : L[i]? = some b) (hb : ¬ (b.toNat = 34 ∨ b.toNat = 92)) : qtA L i ++ [b] = qtA L (i + 1) := by
  unfold qtA
  rw [esc_1 h]
  have : escB b = [b] := if_neg (fun q => hb (q.imp (fun e => by rw [e]; rfl) (fun e => by rw [e]; rfl)))
  rw [this]
  simp
theorem dd_1 {u : Nat} (h : u < 10) : Lib.decDigits u = [UInt8.ofNat (u + 48)] := by rw [Lib.decDigits_one h, Nat.add_comm]
theorem dd_2 {u q : Nat} {r : Nat} (h : 10 ≤ u) (hq : q = u / 10) (hr : r = u % 10) : Lib.decDigits u = Lib.decDigits q ++ [UInt8.ofNat (r + 48)] := by
  subst hq hr
  rw [Lib.decDigits, dif_neg (by omega), Nat.add_comm]
theorem dig_at {k : Nat} (h : k < 10) : (([48, 49, 50, 51, 52, 53, 54, 55, 56, 57] : List UInt8).take (k + 1)).drop k = [UInt8.ofNat (k + 48)] := by
  have : k = 0 ∨ k = 1 ∨ k = 2 ∨ k = 3 ∨ k = 4 ∨ k = 5 ∨ k = 6 ∨ k = 7 ∨ k = 8 ∨ k = 9 := by omega
  rcases this with rfl | rfl | rfl | rfl | rfl | rfl | rfl | rfl | rfl | rfl <;> rfl
theorem wd_cell {k : Nat} {z : Int} (hz : z = (k : Int) + 2) (h : k < 3) : ([.string (St [99, 108, 111, 115, 105, 110, 103]), .string (St [114, 101, 108, 101, 97, 115, 101, 100]), .string (St [113, 117, 97, 114, 97, 110, 116, 105, 110, 101])] : List Value)[k]? = some (.string (St (wdL z))) := by
  subst hz
  have : k = 0 ∨ k = 1 ∨ k = 2 := by omega
  rcases this with rfl | rfl | rfl <;> rfl
theorem ln_d (x : Lk) (acc : List UInt8) : ((((((((acc ++ qtL x.tag) ++ [32]) ++ otL x.out) ++ [32]) ++ dgs x.at_) ++ [32]) ++ wdL x.st) ++ [10]) = acc ++ lnL x := by
  unfold lnL
  simp only [List.append_assoc]
end Go.Proofs.YtfoliffeieeihaaGreatDoor
