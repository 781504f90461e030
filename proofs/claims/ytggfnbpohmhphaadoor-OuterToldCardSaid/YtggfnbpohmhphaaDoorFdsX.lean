/-
  Tables of files, as plain functions of a list of (state, generation, number). No program in sight.
-/
import Derived.Test.YtggfnbpohmhphaaDoorFdsP
import Derived.Test.YtggfnbpohmhphaaDoorCln
namespace Go.Proofs.YtggfnbpohmhphaaDoor
abbrev Fl := Int × Int × Int
abbrev Xs := List Fl
def sl2 (x : Fl) : Sl2 := (x.1, x.2.1)
def As (X : Xs) : List Sl2 := X.map sl2
theorem as_len (X : Xs) : (As X).length = X.length := List.length_map _
theorem as_get {X : Xs} {i : Nat} {x : Fl} (h : X[i]? = some x) : (As X)[i]? = some (x.1, x.2.1) := by
  unfold As
  rw [List.getElem?_map, h]
  rfl
theorem as_set (X : Xs) (i : Nat) (x : Fl) : As (X.set i x) = (As X).set i (x.1, x.2.1) := List.map_set
def KGood (o : Ky) : Prop := 1 ≤ o.1 ∧ o.1 ≤ 3 ∧ 0 ≤ o.2.1 ∧ o.2.1 ≤ 63 ∧ 1 ≤ o.2.2
instance (o : Ky) : Decidable (KGood o) := by unfold KGood; infer_instance
/-- The error of a resource. -/
def errA (A : List Sl2) (o : Ky) : Int := if ¬ KGood o ∨ o.1 ≠ 1 then 2 else if (A.length : Int) ≤ o.2.1 then 3 else if A[o.2.1.toNat]? = some (1, o.2.2) then 0 else 7
theorem chk_arg (A : List Sl2) {x y z : Int} (h : ¬ (1 ≤ x ∧ x ≤ 3 ∧ 0 ≤ y ∧ y ≤ 63 ∧ 1 ≤ z) ∨ x ≠ 1) : errA A (x, y, z) = 2 := if_pos h
theorem chk_range (A : List Sl2) {n : Nat} (hn : A.length = n) {x y z : Int} (hx : x = 1) (h1 : 0 ≤ y) (h2 : y ≤ 63) (h3 : 1 ≤ z) (hr : (n : Int) ≤ y) : errA A (x, y, z) = 3 := by
  unfold errA
  rw [if_neg (by rintro (h | h); exact h ⟨by show 1 ≤ x; omega, by show x ≤ 3; omega, h1, h2, h3⟩; exact h hx), if_pos (by rw [hn]; exact hr)]
theorem chk_in (A : List Sl2) {q : Nat} {s : Sl2} {x y z : Int} (hx : x = 1) (h2 : y ≤ 63) (h3 : 1 ≤ z) (hq : y = (q : Int)) (hs : A[q]? = some s) : errA A (x, y, z) = if s.1 = 1 ∧ s.2 = z then 0 else 7 := by
  have hl := (List.getElem?_eq_some_iff.1 hs).1
  obtain ⟨s1, s2⟩ := s
  unfold errA
  rw [if_neg (by rintro (h | h); exact h ⟨by show 1 ≤ x; omega, by show x ≤ 3; omega, by show 0 ≤ y; omega, h2, h3⟩; exact h hx), if_neg (by show ¬ (_ ≤ y); omega)]
  show (if A[y.toNat]? = some (1, z) then (0 : Int) else 7) = _
  rw [hq, Int.toNat_natCast, hs]
  simp only [Option.some.injEq, Prod.mk.injEq]
theorem chk_ok (A : List Sl2) {q : Nat} {s : Sl2} {x y z : Int} (hx : x = 1) (h2 : y ≤ 63) (h3 : 1 ≤ z) (hq : y = (q : Int)) (hs : A[q]? = some s) (h : s.1 = 1 ∧ s.2 = z) : errA A (x, y, z) = 0 := by rw [chk_in A hx h2 h3 hq hs, if_pos h]
theorem chk_stale (A : List Sl2) {q : Nat} {s : Sl2} {x y z : Int} (hx : x = 1) (h2 : y ≤ 63) (h3 : 1 ≤ z) (hq : y = (q : Int)) (hs : A[q]? = some s) (h : ¬ (s.1 = 1 ∧ s.2 = z)) : errA A (x, y, z) = 7 := by rw [chk_in A hx h2 h3 hq hs, if_neg h]
theorem chk_zero {A : List Sl2} {o : Ky} (h : errA A o = 0) : KGood o ∧ o.1 = 1 ∧ o.2.1.toNat < A.length ∧ A[o.2.1.toNat]? = some (1, o.2.2) := by
  unfold errA at h
  split at h
  · exact absurd h (by decide)
  · rename_i h1
    split at h
    · exact absurd h (by decide)
    · split at h
      · rename_i h3
        simp only [not_or, Decidable.not_not] at h1
        exact ⟨h1.1, h1.2, (List.getElem?_eq_some_iff.1 h3).1, h3⟩
      · exact absurd h (by decide)
theorem chk_bd (A : List Sl2) (o : Ky) : 0 ≤ errA A o ∧ errA A o ≤ 7 := by
  unfold errA
  split
  · decide
  · split
    · decide
    · split <;> decide
/-- Slots and the map, when a file is closed. -/
def clsA (A : List Sl2) (o : Ky) : List Sl2 := if errA A o = 0 then giveA A o.2.1.toNat o.2.2 else A
def clsM (A : List Sl2) (E : Mm) (o : Ky) : Mm := if errA A o = 0 then mdel E o else E
def shut (z : Int) : Fl := if z < 4294967295 then (0, z + 1, 0) else (2, z, 0)
def clsX (X : Xs) (o : Ky) : Xs := if errA (As X) o = 0 then X.set o.2.1.toNat (shut o.2.2) else X
/-- The files that are open. -/
def allX (X : Xs) : List Ky := (inS 1 (As X) 0).map fun r => (1, (r.1 : Int), r.2)
/-- A file is opened. -/
def opnO (X : Xs) (v : Int) : Ky := if v < 0 ∨ 65535 < v then (0, 0, 0) else if 0 < (inS 0 (As X) 0).length then (1, (((inS 0 (As X) 0).getD 0 (0, 0)).1 : Int), ((inS 0 (As X) 0).getD 0 (0, 0)).2) else (0, 0, 0)
def opnE (X : Xs) (v : Int) : Int := if v < 0 ∨ 65535 < v then 2 else if 0 < (inS 0 (As X) 0).length then 0 else 4
def opnX (X : Xs) (v : Int) : Xs := if v < 0 ∨ 65535 < v then X else if 0 < (inS 0 (As X) 0).length then X.set ((inS 0 (As X) 0).getD 0 (0, 0)).1 (1, ((inS 0 (As X) 0).getD 0 (0, 0)).2, v) else X
theorem opn_arg {X : Xs} {v : Int} (h : v < 0 ∨ 65535 < v) : opnO X v = (0, 0, 0) ∧ opnE X v = 2 ∧ opnX X v = X := by
  unfold opnO opnE opnX
  rw [if_pos h, if_pos h, if_pos h]
  exact ⟨rfl, rfl, rfl⟩
theorem opn_full {X : Xs} {v : Int} (h : 0 ≤ v ∧ v ≤ 65535) (hf : (inS 0 (As X) 0).length = 0) : opnO X v = (0, 0, 0) ∧ opnE X v = 4 ∧ opnX X v = X := by
  unfold opnO opnE opnX
  rw [if_neg (by omega), if_neg (by omega), if_neg (by omega), if_neg (by omega), if_neg (by omega), if_neg (by omega)]
  exact ⟨rfl, rfl, rfl⟩
theorem opn_ok {X : Xs} {v : Int} (h : 0 ≤ v ∧ v ≤ 65535) {i : Nat} {g : Int} (hi : (inS 0 (As X) 0)[0]? = some (i, g)) : opnO X v = (1, (i : Int), g) ∧ opnE X v = 0 ∧ opnX X v = X.set i (1, g, v) := by
  have hl := (List.getElem?_eq_some_iff.1 hi).1
  unfold opnO opnE opnX
  have h1 : ¬ (v < 0 ∨ 65535 < v) := by omega
  rw [if_neg h1, if_neg h1, if_neg h1, if_pos hl, if_pos hl, if_pos hl, getD_some hi]
  exact ⟨rfl, rfl, rfl⟩
theorem giveA_as (X : Xs) (q : Nat) (z : Int) : giveA (As X) q z = As (X.set q (shut z)) := by
  rw [as_set]
  unfold giveA shut
  split <;> rfl
theorem clsA_as (X : Xs) (o : Ky) : clsA (As X) o = As (clsX X o) := by
  unfold clsA clsX
  split
  · exact giveA_as X _ _
  · rfl
theorem mget_set (E : Mm) (k a : Ky) (v : Int) : mget (mset E k v) a = if a = k then some v else mget E a := by
  induction E with
  | nil => simp only [mset, mget]
  | cons q E ih =>
    obtain ⟨b, u⟩ := q
    simp only [mset]
    split
    · rename_i h
      subst h
      simp only [mget]
      split <;> rfl
    · rename_i h
      simp only [mget, ih]
      split
      · rename_i h1
        rw [if_neg (by rintro rfl; exact h h1)]
      · rfl
theorem mget_del {E : Mm} {k a : Ky} (h : a ≠ k) : mget (mdel E k) a = mget E a := by
  induction E with
  | nil => rfl
  | cons q E ih =>
    obtain ⟨b, u⟩ := q
    simp only [mdel]
    split
    · rename_i h1
      subst h1
      simp only [mget]
      rw [if_neg h]
    · simp only [mget, ih]
/-- The map holds the numbers of the files that are open. -/
def Nums (X : Xs) (E : Mm) : Prop := ∀ (i : Nat) (g v : Int), X[i]? = some (1, g, v) → mget E (1, (i : Int), g) = some v
theorem nums_nil {n : Nat} {g : Int} : Nums (List.replicate n (0, g, 0)) [] := fun i a v h => by
  have := List.eq_of_mem_replicate (List.mem_of_getElem? h)
  simp only [Prod.mk.injEq] at this
  exact absurd this.1 (by decide)
theorem set_cases {α : Type} {X : List α} {q i : Nat} {y x : α} (h : (X.set q y)[i]? = some x) : (i = q ∧ x = y) ∨ (i ≠ q ∧ X[i]? = some x) := by
  by_cases hi : i = q
  · subst hi
    left
    have hl : i < X.length := by
      have := (List.getElem?_eq_some_iff.1 h).1
      simpa using this
    rw [List.getElem?_set_self hl] at h
    exact ⟨rfl, (Option.some.inj h).symm⟩
  · right
    rw [List.getElem?_set_ne (fun h => hi h.symm)] at h
    exact ⟨hi, h⟩
theorem nums_open {X : Xs} {E : Mm} {q : Nat} {g v : Int} (h : Nums X E) : Nums (X.set q (1, g, v)) (mset E (1, (q : Int), g) v) := fun i a u hi => by
  rw [mget_set]
  rcases set_cases hi with ⟨rfl, h2⟩ | ⟨h1, h2⟩
  · simp only [Prod.mk.injEq] at h2
    obtain ⟨_, rfl, rfl⟩ := h2
    rw [if_pos rfl]
  · rw [if_neg (by simp only [Prod.mk.injEq, not_and]; intro _ h3; omega)]
    exact h i a u h2
theorem nums_close {X : Xs} {E : Mm} {o : Ky} (h : Nums X E) : Nums (clsX X o) (clsM (As X) E o) := by
  unfold clsX clsM
  split
  · rename_i hc
    obtain ⟨h1, h2, h3, h4⟩ := chk_zero hc
    intro i a u hi
    rcases set_cases hi with ⟨rfl, h5⟩ | ⟨h5, h6⟩
    · unfold shut at h5
      split at h5 <;> (simp only [Prod.mk.injEq] at h5; exact absurd h5.1 (by decide))
    · rw [mget_del]
      · exact h i a u h6
      · rintro rfl
        exact h5 rfl
  · exact h
end Go.Proofs.YtggfnbpohmhphaaDoor
