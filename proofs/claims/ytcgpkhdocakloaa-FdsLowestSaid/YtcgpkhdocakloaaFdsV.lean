/-
  Lists of a known form: the generations of one id; ids that are used up, one behind the other. No program in sight.
-/
import Derived.Test.YtcgpkhdocakloaaFdsZ
namespace Go.Proofs.Ytcgpkhdocakloaa
/-- The first files of the first id. -/
def goneL (g : Int) (i : Nat) : List Ky := (List.range i).map fun j : Nat => ((1, 0, g + (j : Int)) : Ky)
theorem goneL_len (g : Int) (i : Nat) : (goneL g i).length = i := by simp [goneL]
theorem goneL_zero (g : Int) : goneL g 0 = [] := rfl
theorem goneL_get {g : Int} {i j : Nat} (h : j < i) : (goneL g i)[j]? = some (1, 0, g + (j : Int)) := by
  unfold goneL
  rw [List.getElem?_map, List.getElem?_range h]
  rfl
theorem goneL_el {g : Int} {i j : Nat} {x : Ky} (hx : (goneL g i)[j]? = some x) (h : j < i) : x.1 = 1 ∧ x.2.1 = 0 ∧ x.2.2 = g + (j : Int) := by
  rw [goneL_get h] at hx
  obtain rfl := Option.some.inj hx
  exact ⟨rfl, rfl, rfl⟩
theorem goneL_go (g : Int) (i : Nat) : goneL g i ++ [(1, 0, g + (i : Int))] = goneL g (i + 1) := by
  unfold goneL
  rw [List.range_succ, List.map_append]
  rfl
def rt1 (i n : Nat) (f : Int) : Xs := List.replicate i (2, 4294967295, 0) ++ List.replicate (n - i) (0, f, 0)
def rt2 (i n : Nat) (f : Int) (e : Fl) : Xs := List.replicate i (2, 4294967295, 0) ++ e :: List.replicate (n - (i + 1)) (0, f, 0)
theorem rt_zero (n : Nat) (f : Int) : List.replicate n (0, f, 0) = rt1 0 n f := rfl
theorem rt_in {i n : Nat} {f : Int} (h : i < n) : rt1 i n f = rt2 i n f (0, f, 0) := by
  unfold rt1 rt2
  rw [show n - i = (n - (i + 1)) + 1 from by omega]
  rfl
theorem rt_out {i n : Nat} {f : Int} : rt2 i n f (2, 4294967295, 0) = rt1 (i + 1) n f := by
  unfold rt1 rt2
  rw [rep_go]
theorem rt_get (i n : Nat) (f : Int) (e : Fl) : (rt2 i n f e)[i]? = some e := by
  unfold rt2
  rw [List.getElem?_append_right (by rw [List.length_replicate]; omega), List.length_replicate, Nat.sub_self]
  rfl
theorem rt_set (i n : Nat) (f : Int) (e e' : Fl) : (rt2 i n f e).set i e' = rt2 i n f e' := by
  unfold rt2
  rw [List.set_append_right _ _ (by rw [List.length_replicate]; omega), List.length_replicate, Nat.sub_self]
  rfl
theorem inS_repd {q d : Int} (g v : Int) (hq : d ≠ q) : ∀ (k j : Nat), inS q (As (List.replicate k (d, g, v))) j = []
  | 0, j => rfl
  | k + 1, j => by
    rw [List.replicate_succ]
    show (if d = q then _ else _) = _
    rw [if_neg hq]
    exact inS_repd g v hq k (j + 1)
theorem as_app (X Y : Xs) : As (X ++ Y) = As X ++ As Y := List.map_append
theorem rt_cnt (i n : Nat) (f : Int) (e : Fl) : cnt 0 (As (rt2 i n f e)) i = 0 := by
  unfold cnt rt2
  rw [as_app, List.take_append_of_le_length (by rw [as_len, List.length_replicate]; exact Nat.le_refl _), List.take_of_length_le (by rw [as_len, List.length_replicate]; exact Nat.le_refl _), inS_repd _ _ (by decide)]
  rfl
theorem rt_full (n : Nat) (f : Int) (q : Int) (hq : (2 : Int) ≠ q) : (inS q (As (rt1 n n f)) 0).length = 0 := by
  unfold rt1
  rw [Nat.sub_self, List.replicate_zero, List.append_nil, inS_repd _ _ hq]
  rfl
theorem rt_none (n : Nat) (f : Int) : allX (rt1 n n f) = [] := List.eq_nil_of_length_eq_zero (by rw [allX_len]; exact rt_full n f 1 (by decide))
end Go.Proofs.Ytcgpkhdocakloaa
