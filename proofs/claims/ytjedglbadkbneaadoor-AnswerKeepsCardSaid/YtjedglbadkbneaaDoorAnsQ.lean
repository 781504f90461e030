/-
  Answers: what the laws lean on, in plain lists. No program in sight.
-/
import Derived.Test.YtjedglbadkbneaaDoorAnsP
namespace Go.Proofs.YtjedglbadkbneaaDoor

theorem lt_cd {b : UInt8} (h : cd b ≠ 0) : lt (cd b) = b := by
  by_cases h1 : (b.toNat : Int) = 111
  · rw [cd1 h1]; exact (UInt8.toNat_inj.1 (show b.toNat = (111 : UInt8).toNat from by rw [show (111 : UInt8).toNat = 111 from rfl]; omega)).symm
  · by_cases h2 : (b.toNat : Int) = 108
    · rw [cd2 h2]; exact (UInt8.toNat_inj.1 (show b.toNat = (108 : UInt8).toNat from by rw [show (108 : UInt8).toNat = 108 from rfl]; omega)).symm
    · by_cases h3 : (b.toNat : Int) = 102
      · rw [cd3 h3]; exact (UInt8.toNat_inj.1 (show b.toNat = (102 : UInt8).toNat from by rw [show (102 : UInt8).toNat = 102 from rfl]; omega)).symm
      · exact absurd (cd0 h1 h2 h3) h
theorem map_lt_cd {l : List UInt8} (h : ∀ x ∈ l, cd x ≠ 0) : (l.map cd).map lt = l := by
  rw [List.map_map]
  conv => rhs; rw [← List.map_id l]
  exact List.map_congr_left fun x hx => lt_cd (h x hx)
theorem all_gl : ∀ {l : List UInt8}, l.length ≤ gl l → ∀ x ∈ l, cd x ≠ 0
  | [], _, x, hx => by cases hx
  | b :: l, h, x, hx => by
    simp only [gl] at h
    split at h
    · simp at h
    · rename_i hb
      rcases List.mem_cons.1 hx with rfl | hx
      · exact hb
      · exact all_gl (by simpa using h) x hx
theorem prs_cases (l : List UInt8) : ((prs l).2 = 0 ∧ (prs l).1.length = l.length ∧ l.length ≤ 2000) ∨ (1 ≤ (prs l).2 ∧ (prs l).1.length = 0) := by
  unfold prs
  split
  · exact .inr ⟨by simp, rfl⟩
  · split
    · exact .inr ⟨by simp, rfl⟩
    · exact .inl ⟨rfl, by simp, by omega⟩
theorem prs_zero {l : List UInt8} (h : (prs l).2 = 0) : prs l = (l.map cd, 0) ∧ (∀ x ∈ l, cd x ≠ 0) ∧ l.length ≤ 2000 := by
  unfold prs at h
  split at h
  · simp at h
  · split at h
    · simp at h
    · exact ⟨prs_ok (by omega) (by omega), all_gl (by omega), by omega⟩
theorem okA_cd {l : List UInt8} (h : ∀ x ∈ l, cd x ≠ 0) (hl : l.length ≤ 2000) : prt (l.map cd) = (l, 0) := by
  rw [prt_ok (by rw [List.length_map]; exact hl), map_lt_cd h]
  intro i z hz
  rw [List.getElem?_map] at hz
  obtain ⟨x, hx, rfl⟩ := Option.map_eq_some_iff.1 hz
  have h1 := h x (List.mem_of_getElem? hx)
  have h2 := cd_bd x
  omega
theorem prt_back {l : List UInt8} (h : (prs l).2 = 0) : prt (prs l).1 = (l, 0) := by
  obtain ⟨h1, h2, h3⟩ := prs_zero h
  rw [h1]
  exact okA_cd h2 h3
theorem good_lq {l : List UInt8} : ∀ x ∈ l.map lq, cd x ≠ 0 := fun x hx => by
  obtain ⟨b, _, rfl⟩ := List.mem_map.1 hx
  rw [cd_lq]
  omega
theorem prt_lq {l : List UInt8} (h : l.length ≤ 2000) : prt ((l.map lq).map cd) = (l.map lq, 0) := okA_cd good_lq (by rw [List.length_map]; exact h)
theorem good_two {l m : List UInt8} : ∀ x ∈ l.map lq ++ m.map lq, cd x ≠ 0 := fun x hx => by
  rcases List.mem_append.1 hx with h | h
  · exact good_lq x h
  · exact good_lq x h
theorem prs_two {l m : List UInt8} (h : l.length + m.length ≤ 2000) : prs (l.map lq ++ m.map lq) = ((l.map lq).map cd ++ (m.map lq).map cd, 0) := by
  have hl : (l.map lq ++ m.map lq).length ≤ 2000 := by simpa using h
  rw [prs_ok hl (by rw [gl_all good_two]; exact Nat.le_refl _), List.map_append]
theorem prt_two {l m : List UInt8} (h : l.length + m.length ≤ 2000) : prt ((l.map lq).map cd ++ (m.map lq).map cd) = (l.map lq ++ m.map lq, 0) := by
  rw [← List.map_append]
  exact okA_cd good_two (by simpa using h)
theorem jn_a {L M : List Int} {i : Nat} {x y : Int} (hx : (L ++ M)[i]? = some x) (hy : L[i]? = some y) : x = y := by
  rw [List.getElem?_append_left (List.getElem?_eq_some_iff.1 hy).1, hy] at hx
  simpa using hx.symm
theorem jn_b {L M : List Int} {i j n : Nat} {x y : Int} (hx : (L ++ M)[i]? = some x) (hl : L.length = n) (hy : M[j]? = some y) (hj : n + j = i) : x = y := by
  rw [List.getElem?_append_right (by omega), hl, show i - n = j from by omega, hy] at hx
  simpa using hx.symm
theorem two_map {T : List UInt8} {n : Nat} (h : T.length = n) : ((T.map lq).map cd).length = n := by simpa using h

theorem u8_row {cs : List Value} {a : Int} (h : cs = [.int .u8 a]) (hb : (0) ≤ a ∧ a ≤ 255) : cs = eB (UInt8.ofNat a.toNat) := by
  subst h
  have h1 : (UInt8.ofNat a.toNat).toNat = a.toNat := UInt8.toNat_ofNat_of_lt (by show a.toNat < 256; omega)
  rw [eB, h1, Int.toNat_of_nonneg hb.1]
/-! ### Rows of one letter -/
theorem good_rep {c : UInt8} (h : cd c ≠ 0) (n : Nat) : ∀ x ∈ List.replicate n c, cd x ≠ 0 := fun x hx => by rw [(List.mem_replicate.1 hx).2]; exact h
theorem prs_rep {c : UInt8} (h : cd c ≠ 0) {n : Nat} (hn : n ≤ 2000) : prs (List.replicate n c) = (List.replicate n (cd c), 0) := by
  rw [prs_ok (by simpa using hn) (by rw [gl_all (good_rep h n)]; exact Nat.le_refl _), List.map_replicate]
theorem add_rep {c : UInt8} {z : Int} (h : cd c = z) (hz : z ≠ 0) {L : List Int} {n m : Nat} (hL : L.length = m) (hn : m + n ≤ 2000) : addE L (List.replicate n c) = 0 ∧ addL L (List.replicate n c) = L ++ List.replicate n z := by
  have hp := prs_rep (c := c) (by omega) (show n ≤ 2000 by omega)
  have := add_ok (L := L) (l := List.replicate n c) (by rw [hp]) (by rw [hp]; simp; omega)
  rw [hp, h] at this
  exact this
theorem add_rep_no {c : UInt8} {z : Int} (h : cd c = z) (hz : z ≠ 0) {L : List Int} {n m : Nat} (hL : L.length = m) (hn : 2000 < m + n) : addE L (List.replicate n c) = 11 ∧ addL L (List.replicate n c) = L := by
  rcases Nat.lt_or_ge 2000 n with h1 | h1
  · have hp := prs_many (l := List.replicate n c) (by simpa using h1)
    have := add_err (L := L) (l := List.replicate n c) (by rw [hp]; decide)
    rw [hp] at this
    exact this
  · have hp := prs_rep (c := c) (by omega) h1
    exact add_many (by rw [hp]) (by rw [hp]; simp; omega)
theorem rep_tail {n i : Nat} {z : Int} : (List.replicate (n - i) z).tail = List.replicate (n - (i + 1)) z := by
  rw [List.tail_replicate]
  congr 1
/-! ### Letters by numbers, added -/
theorem add_lq {L : List Int} {T : List UInt8} {n m : Nat} (hL : L.length = m) (hT : T.length = n) (h : m + n ≤ 2000) : addE L (T.map lq) = 0 ∧ addL L (T.map lq) = L ++ (T.map lq).map cd := by
  have hp := prs_lq (l := T) (by omega)
  have := add_ok (L := L) (l := T.map lq) (by rw [hp]) (by rw [hp]; simp; omega)
  rw [hp] at this
  exact this
end Go.Proofs.YtjedglbadkbneaaDoor
