/-
  More about tables of files, as plain functions: what the document does. No program in sight.
-/
import Derived.Test.YtcgpkhdocakloaaF7
namespace Go.Proofs.Ytcgpkhdocakloaa
theorem slok_set {X : Xs} {q : Nat} {y : Fl} (h : SlOk (As X)) (hy : 0 ≤ y.1 ∧ y.1 ≤ 2 ∧ 1 ≤ y.2.1 ∧ y.2.1 ≤ 4294967295) : SlOk (As (X.set q y)) := by
  rw [as_set]
  intro s hs
  rcases List.mem_or_eq_of_mem_set hs with h1 | rfl
  · exact h s h1
  · exact hy
theorem shut_lt {z : Int} (h : z < 4294967295) : shut z = (0, z + 1, 0) := if_pos h
theorem shut_ge {z : Int} (h : ¬ z < 4294967295) : shut z = (2, z, 0) := if_neg h
theorem shut_ok {z : Int} (h : 1 ≤ z ∧ z ≤ 4294967295) : 0 ≤ (shut z).1 ∧ (shut z).1 ≤ 2 ∧ 1 ≤ (shut z).2.1 ∧ (shut z).2.1 ≤ 4294967295 := by
  by_cases hz : z < 4294967295
  · rw [shut_lt hz]
    refine ⟨by show (0 : Int) ≤ 0; decide, by show (0 : Int) ≤ 2; decide, ?_, ?_⟩
    · show 1 ≤ z + 1
      omega
    · show z + 1 ≤ 4294967295
      omega
  · rw [shut_ge hz]
    exact ⟨by show (0 : Int) ≤ 2; decide, by show (2 : Int) ≤ 2; decide, h.1, h.2⟩
theorem clsx_ok {X : Xs} {x y z : Int} {q : Nat} (h : errA (As X) (x, y, z) = 0) (hq : y = (q : Int)) : X.set q (shut z) = clsX X (x, y, z) := by
  unfold clsX
  rw [if_pos h]
  show _ = X.set y.toNat (shut z)
  rw [hq, Int.toNat_natCast]
theorem clsx_no {X : Xs} {o : Ky} {e : Int} (h : errA (As X) o = e) (he : e ≠ 0) : X = clsX X o := by
  unfold clsX
  rw [if_neg (by rw [h]; exact he)]
theorem numx_ok {X : Xs} {x y z : Int} {q : Nat} {s : Fl} (h : errA (As X) (x, y, z) = 0) (hq : y = (q : Int)) (hs : X[q]? = some s) : numX X (x, y, z) = s.2.2 := by
  unfold numX
  rw [if_pos h]
  show (X.getD y.toNat (0, 0, 0)).2.2 = _
  rw [hq, Int.toNat_natCast, getD_some hs]
theorem numx_no {X : Xs} {o : Ky} {e : Int} (h : errA (As X) o = e) (he : e ≠ 0) : numX X o = 0 := by
  unfold numX
  rw [if_neg (by rw [h]; exact he)]
theorem slok_cls {X : Xs} {o : Ky} (h : SlOk (As X)) : SlOk (As (clsX X o)) := by
  unfold clsX
  split
  · rename_i hc
    obtain ⟨_, _, _, h4⟩ := chk_zero hc
    have := h _ (List.mem_of_getElem? h4)
    exact slok_set h (shut_ok ⟨this.2.2.1, this.2.2.2⟩)
  · exact h
theorem len_cls (X : Xs) (o : Ky) : (clsX X o).length = X.length := by
  unfold clsX
  split
  · exact List.length_set
  · rfl
theorem slok_opn {X : Xs} {v : Int} (h : SlOk (As X)) : SlOk (As (opnX X v)) := by
  unfold opnX
  split
  · exact h
  · split
    · rename_i hc
      have h4 := inS_get hc
      have := h _ (List.mem_of_getElem? h4)
      exact slok_set h ⟨by show (0 : Int) ≤ 1; decide, by show (1 : Int) ≤ 2; decide, this.2.2.1, this.2.2.2⟩
    · exact h
theorem len_opn (X : Xs) (v : Int) : (opnX X v).length = X.length := by
  unfold opnX
  split
  · rfl
  · split
    · exact List.length_set
    · rfl
theorem slok_rep {n : Nat} {g : Int} (h : 1 ≤ g ∧ g ≤ 4294967295) : SlOk (As (List.replicate n (0, g, 0))) := by
  intro s hs
  unfold As at hs
  rw [List.map_replicate] at hs
  rw [List.eq_of_mem_replicate hs]
  exact ⟨by show (0 : Int) ≤ 0; decide, by show (0 : Int) ≤ 2; decide, h.1, h.2⟩
/-- The files that are open among the first ids. -/
def allT (X : Xs) (i : Nat) : List Ky := (inS 1 ((As X).take i) 0).map fun r => (1, (r.1 : Int), r.2)
theorem allT_zero (X : Xs) : allT X 0 = [] := rfl
theorem allT_go {X : Xs} {i : Nat} {x : Fl} (h : X[i]? = some x) (hx : x.1 = 1) : allT X i ++ [(1, (i : Int), x.2.1)] = allT X (i + 1) := by
  unfold allT
  rw [inS_take (as_get h), if_pos hx, List.map_append]
  rfl
theorem allT_no {X : Xs} {i : Nat} {x : Fl} (h : X[i]? = some x) (hx : x.1 ≠ 1) : allT X i = allT X (i + 1) := by
  unfold allT
  rw [inS_take (as_get h), if_neg hx, List.append_nil]
theorem allT_all {X : Xs} {i : Nat} (h : X.length ≤ i) : allT X i = allX X := by
  unfold allT allX
  rw [List.take_of_length_le (by rw [as_len]; exact h)]
theorem allT_len (X : Xs) (i : Nat) : (allT X i).length = cnt 1 (As X) i := List.length_map _
theorem allX_len (X : Xs) : (allX X).length = (inS 1 (As X) 0).length := List.length_map _
theorem free_zero {X : Xs} {i : Nat} (h : X.length ≤ i) (hc : cnt 0 (As X) i = 0) : (inS 0 (As X) 0).length = 0 := by
  rw [← cnt_all 0 (A := As X) (i := i) (by rw [as_len]; exact h)]
  exact hc
theorem dc_bd {g w : World} {L : List Assn} {j b n : Nat} {X : Xs} (h : sat g w L) (hj : L[j]? = some (Dc b n X)) : X.length = n ∧ 1 ≤ n ∧ n ≤ 64 ∧ SlOk (As X) := sat_use h hj fun _ ha _ => by
  obtain ⟨x, h1, h2⟩ := ha
  exact h1
end Go.Proofs.Ytcgpkhdocakloaa
