/-
  Files that are opened one behind the other, with given numbers; one of them is closed. No program in sight.
-/
import Derived.Test.YtcgpkhdocakloaaFdsV
namespace Go.Proofs.Ytcgpkhdocakloaa
def eU (z : Int) : List Value := [.int .u16 z]
theorem eU_ok : Enc 1 eU := ⟨fun _ => rfl, fun x v hv => by simp [eU] at hv; subst hv; rfl⟩
theorem u16_ok {T : List Int} (h : ∀ z ∈ T, 0 ≤ z ∧ z ≤ 65535) {i : Nat} {z : Int} (hs : T[i]? = some z) : 0 ≤ z ∧ z ≤ 65535 := h z (List.mem_of_getElem? hs)
def ap (T : List Int) (g : Int) (i n : Nat) : Xs := (T.take i).map (fun v => ((1, g, v) : Fl)) ++ List.replicate (n - i) (0, g, 0)
def apL (g : Int) (i : Nat) : List Ky := (List.range i).map fun j : Nat => ((1, (j : Int), g) : Ky)
theorem apL_len (g : Int) (i : Nat) : (apL g i).length = i := by simp [apL]
theorem apL_el {g : Int} {i j : Nat} {x : Ky} (hx : (apL g i)[j]? = some x) (h : j < i) : x.1 = 1 ∧ x.2.1 = (j : Int) ∧ x.2.2 = g := by
  unfold apL at hx
  rw [List.getElem?_map, List.getElem?_range h] at hx
  obtain rfl := Option.some.inj hx
  exact ⟨rfl, rfl, rfl⟩
section
variable {T : List Int} {g : Int} {i n : Nat}
theorem ap_zero : List.replicate n (0, g, 0) = ap T g 0 n := by simp [ap]
theorem ap_pl (hi : i ≤ T.length) : ((T.take i).map fun v => ((1, g, v) : Fl)).length = i := by rw [List.length_map, List.length_take, Nat.min_eq_left hi]
theorem ap_at (hi : i ≤ T.length) (h : i < n) : (ap T g i n)[i]? = some (0, g, 0) := by
  unfold ap
  rw [List.getElem?_append_right (by rw [ap_pl hi]; exact Nat.le_refl _), ap_pl hi, Nat.sub_self, show n - i = (n - (i + 1)) + 1 from by omega]
  rfl
theorem ap_get {j : Nat} {v : Int} (h : j < i) (hv : T[j]? = some v) : (ap T g i n)[j]? = some (1, g, v) := by
  unfold ap
  have hj := (List.getElem?_eq_some_iff.1 hv).1
  rw [List.getElem?_append_left (by rw [List.length_map, List.length_take]; omega), List.getElem?_map, List.getElem?_take, if_pos h, hv]
  rfl
theorem ap_set {v : Int} (h : i < n) (hv : T[i]? = some v) : (ap T g i n).set i (1, g, v) = ap T g (i + 1) n := by
  have hj := (List.getElem?_eq_some_iff.1 hv).1
  unfold ap
  rw [List.set_append_right _ _ (by rw [ap_pl (by omega)]; exact Nat.le_refl _), ap_pl (by omega), Nat.sub_self, show n - i = (n - (i + 1)) + 1 from by omega, List.replicate_succ, List.set_cons_zero, List.take_add_one, hv, List.map_append, List.append_assoc]
  rfl
theorem inS_pre (q : Int) (l : List Int) : ∀ (k : Nat), inS q (As (l.map fun v => ((1, g, v) : Fl))) k = if (1 : Int) = q then (List.range' k l.length).map (fun j => (j, g)) else [] := by
  induction l with
  | nil =>
    intro k
    split <;> rfl
  | cons a l ih =>
    intro k
    show (if (1 : Int) = q then (k, g) :: inS q (As (l.map _)) (k + 1) else inS q (As (l.map _)) (k + 1)) = _
    rw [ih (k + 1)]
    by_cases h : (1 : Int) = q
    · rw [if_pos h, if_pos h, if_pos h, List.length_cons, List.range'_succ, List.map_cons]
    · rw [if_neg h, if_neg h, if_neg h]
theorem ap_take (hi : i ≤ T.length) : (As (ap T g i n)).take i = As ((T.take i).map fun v => ((1, g, v) : Fl)) := by
  unfold ap
  rw [as_app, List.take_append_of_le_length (by rw [as_len, ap_pl hi]; exact Nat.le_refl _), List.take_of_length_le (by rw [as_len, ap_pl hi]; exact Nat.le_refl _)]
theorem ap_cnt (hi : i ≤ T.length) : cnt 0 (As (ap T g i n)) i = 0 := by
  unfold cnt
  rw [ap_take hi, inS_pre, if_neg (by decide)]
  rfl
theorem ap_in (hi : i ≤ T.length) : inS 1 (As (ap T g i n)) 0 = (List.range i).map fun j => (j, g) := by
  unfold ap
  rw [as_app, inS_app, inS_rep g 0 (by decide), List.append_nil, inS_pre, if_pos rfl, List.length_take, Nat.min_eq_left hi, List.range_eq_range']
theorem ap_all (hi : i ≤ T.length) : allX (ap T g i n) = apL g i := by
  unfold allX apL
  rw [ap_in hi, List.map_map]
  rfl
theorem ap_len (hi : i ≤ T.length) : (inS 1 (As (ap T g i n)) 0).length = i := by rw [ap_in hi]; simp
/-- One that is open is closed. -/
theorem inS_era {A : List Sl2} {q : Nat} {z z' e : Int} (h : A[q]? = some (1, z)) (he : e ≠ 1) : inS 1 (A.set q (e, z')) 0 = (inS 1 A 0).eraseIdx (cnt 1 A q) := by
  have hq := (List.getElem?_eq_some_iff.1 h).1
  have h1 : A = A.take q ++ (1, z) :: A.drop (q + 1) := by
    have := List.take_append_drop q A
    rw [List.drop_eq_getElem_cons hq, (List.getElem?_eq_some_iff.1 h).2] at this
    exact this.symm
  have hl : (A.take q).length = q := by rw [List.length_take]; omega
  have h2 : A.set q (e, z') = A.take q ++ (e, z') :: A.drop (q + 1) := by
    conv => lhs; rw [h1]
    rw [List.set_append_right _ _ (by omega), hl, Nat.sub_self]
    rfl
  have h3 : inS 1 A 0 = inS 1 (A.take q) 0 ++ (q, z) :: inS 1 (A.drop (q + 1)) (q + 1) := by
    conv => lhs; rw [h1]
    rw [inS_app, hl, Nat.zero_add]
    rfl
  rw [h2, inS_app, hl, Nat.zero_add, h3, List.eraseIdx_append_of_length_le (by unfold cnt; exact Nat.le_refl _)]
  unfold cnt
  rw [Nat.sub_self]
  show inS 1 (A.take q) 0 ++ (if e = 1 then _ else _) = _
  rw [if_neg he]
  rfl
theorem cl_all {X : Xs} {q : Nat} {x : Fl} {e z' v' : Int} (hx : X[q]? = some x) (h1 : x.1 = 1) (he : e ≠ 1) : allX (X.set q (e, z', v')) = (allX X).eraseIdx (cnt 1 (As X) q) := by
  unfold allX
  rw [as_set, inS_era (z := x.2.1) (by rw [as_get hx, h1]) he, List.eraseIdx_eq_take_drop_succ, List.eraseIdx_eq_take_drop_succ, List.map_append, List.map_take, List.map_drop]
theorem ap_cnt1 {k : Nat} (hi : i ≤ T.length) (hk : k < i) : cnt 1 (As (ap T g i n)) k = k := by
  unfold cnt
  have h1 : (As (ap T g i n)).take k = As ((T.take k).map fun v => ((1, g, v) : Fl)) := by
    have h2 : (As (ap T g i n)).take k = ((As (ap T g i n)).take i).take k := by rw [List.take_take, Nat.min_eq_left (by omega)]
    rw [h2, ap_take hi]
    unfold As
    rw [← List.map_take, ← List.map_take, List.take_take, Nat.min_eq_left (by omega)]
  rw [h1, inS_pre, if_pos rfl, List.length_map, List.length_range', List.length_take, Nat.min_eq_left (by omega)]
theorem ap_call {k : Nat} {v e z' v' : Int} (hi : i ≤ T.length) (hk : k < i) (hv : T[k]? = some v) (he : e ≠ 1) : allX ((ap T g i n).set k (e, z', v')) = (apL g i).eraseIdx k := by
  rw [cl_all (ap_get hk hv) rfl he, ap_cnt1 hi hk, ap_all hi]
theorem ap_clen {k : Nat} {v e z' v' : Int} (hi : i ≤ T.length) (hk : k < i) (hv : T[k]? = some v) (he : e ≠ 1) : (inS 1 (As ((ap T g i n).set k (e, z', v'))) 0).length = i - 1 := by
  rw [← allX_len, ap_call hi hk hv he, List.length_eraseIdx, apL_len, if_pos hk]
theorem set_at2 {α : Type} {l : List α} {i j : Nat} {x y : α} (h : j = i) (hx : l[i]? = some x) : (l.set i y)[j]? = some y := by rw [h]; exact set_at hx
theorem set_ne {α : Type} {l : List α} {i j : Nat} {x y : α} (h : i ≠ j) (hx : l[j]? = some x) : (l.set i y)[j]? = some x := by rw [List.getElem?_set_ne h]; exact hx
end
end Go.Proofs.Ytcgpkhdocakloaa
