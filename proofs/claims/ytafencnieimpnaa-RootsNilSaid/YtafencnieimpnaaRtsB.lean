/-
  The stacks of roots as assertions, and plain facts on their cells.
-/
import Derived.Test.YtafencnieimpnaaLst
import Derived.Test.YtafencnieimpnaaRows
namespace Go.Proofs.Ytafencnieimpnaa

abbrev Rf := Int × Int
def flat : List Rf → List Value
  | [] => []
  | r :: L => .int .i64 r.1 :: .int .u32 r.2 :: flat L
theorem flat_len (L : List Rf) : (flat L).length = L.length * 2 := by
  induction L with
  | nil => rfl
  | cons r L ih => simp only [flat, List.length_cons, ih]; omega
theorem flat_app (L M : List Rf) : flat (L ++ M) = flat L ++ flat M := by
  induction L with
  | nil => rfl
  | cons r L ih => simp [flat, ih]
theorem flat_one (L : List Rf) : ∀ v ∈ flat L, v.oneCell' = true := by
  induction L with
  | nil => intro v hv; cases hv
  | cons r L ih =>
    intro v hv
    simp only [flat, List.mem_cons] at hv
    rcases hv with rfl | rfl | hv
    · rfl
    · rfl
    · exact ih v hv
theorem flat_0 {L : List Rf} {k : Nat} {r : Rf} (h : L[k]? = some r) : (flat L)[k * 2]? = some (.int .i64 r.1) := by
  induction L generalizing k with
  | nil => simp at h
  | cons x L ih =>
    cases k with
    | zero => simp at h; subst h; rfl
    | succ k =>
      have := ih (k := k) (by simpa using h)
      rw [show (k + 1) * 2 = k * 2 + 1 + 1 from by omega]
      simpa [flat] using this
theorem flat_1 {L : List Rf} {k : Nat} {r : Rf} (h : L[k]? = some r) : (flat L)[k * 2 + 1]? = some (.int .u32 r.2) := by
  induction L generalizing k with
  | nil => simp at h
  | cons x L ih =>
    cases k with
    | zero => simp at h; subst h; rfl
    | succ k =>
      have := ih (k := k) (by simpa using h)
      rw [show (k + 1) * 2 + 1 = k * 2 + 1 + 1 + 1 from by omega]
      simpa [flat] using this
theorem flat_take (L : List Rf) (k : Nat) : (flat L).take (k * 2) = flat (L.take k) := by
  induction L generalizing k with
  | nil => simp [flat]
  | cons x L ih =>
    cases k with
    | zero => simp [flat]
    | succ k =>
      rw [show (k + 1) * 2 = k * 2 + 1 + 1 from by omega]
      simp [flat, ih]
theorem flat_drop (L : List Rf) (k : Nat) : (flat L).drop (k * 2) = flat (L.drop k) := by
  induction L generalizing k with
  | nil => simp [flat]
  | cons x L ih =>
    cases k with
    | zero => simp [flat]
    | succ k =>
      rw [show (k + 1) * 2 = k * 2 + 1 + 1 from by omega]
      simp [flat, ih]
theorem flat_set (L : List Rf) (k : Nat) (r : Rf) : ((flat L).set (k * 2) (.int .i64 r.1)).set (k * 2 + 1) (.int .u32 r.2) = flat (L.set k r) := by
  induction L generalizing k with
  | nil => simp [flat]
  | cons x L ih =>
    cases k with
    | zero => rfl
    | succ k =>
      rw [show (k + 1) * 2 + 1 = k * 2 + 1 + 1 + 1 from by omega, show (k + 1) * 2 = k * 2 + 1 + 1 from by omega]
      simp [flat, ih]

/-- The program's stack: a flag, a number, 32 places. -/
def stk (n : Nat) (A : List Rf) : List Value := .bool true :: .int .i64 (n : Int) :: flat A
def PStk (b : Nat) (L : List Rf) : Assn := fun h => ∃ T, (L ++ T).length = 32 ∧ Cl b (stk L.length (L ++ T)) 57 h
theorem stk_len (n : Nat) (A : List Rf) : (stk n A).length = A.length * 2 + 2 := by simp [stk, flat_len]
theorem stk_0 {n k : Nat} {A : List Rf} {r : Rf} (h : A[k]? = some r) : (stk n A)[k * 2 + 2]? = some (.int .i64 r.1) := by
  simpa [stk] using flat_0 h
theorem stk_1 {n k : Nat} {A : List Rf} {r : Rf} (h : A[k]? = some r) : (stk n A)[k * 2 + 3]? = some (.int .u32 r.2) := by
  simpa [stk] using flat_1 h
theorem stk_put (n k : Nat) (A : List Rf) (r : Rf) : setL (stk n A) [(k * 2 + 2, .int .i64 r.1), (k * 2 + 3, .int .u32 r.2)] = stk n (A.set k r) := by
  have := flat_set A k r
  simp only [setL, stk]
  simp [this]
theorem stk_num (n m : Nat) (A : List Rf) (z : Int) (h : z = (m : Int)) : setL (stk n A) [(1, .int .i64 z)] = stk m A := by rw [h]; rfl
theorem set_at (L : List Rf) (T : List Rf) (r : Rf) (h : 0 < T.length) : (L ++ T).set L.length r = (L ++ [r]) ++ T.drop 1 := by
  cases T with
  | nil => simp at h
  | cons x T => simp [List.set_append_right]

theorem drop_cells {L : List Rf} {i o2 : Nat} (n : Nat) (T : List Rf) (ho : o2 = (i + 1) * 2 + 2 ∨ L.length = i + 1 := by first | (left; (try split) <;> omega) | (split <;> omega)) :
    ∀ j u, (flat (L.drop (i + 1)))[j]? = some u → (stk n (L ++ T))[o2 + j]? = some u := by
  intro j u hj
  rcases ho with ho | ho
  · rw [ho, show (i + 1) * 2 + 2 + j = ((i + 1) * 2 + j) + 1 + 1 from by omega]
    simp only [stk, List.getElem?_cons_succ, flat_app]
    rw [← flat_drop, List.getElem?_drop] at hj
    rw [List.getElem?_append_left (List.getElem?_eq_some_iff.1 hj).1]
    exact hj
  · rw [List.drop_eq_nil_of_le (by omega)] at hj
    simp [flat] at hj
theorem stk_drop {L : List Rf} {i : Nat} (n : Nat) (hi : i < L.length) (T : List Rf) :
    (stk n (L ++ T)).take (i * 2 + 2) ++ flat (L.drop (i + 1)) ++ (stk n (L ++ T)).drop (i * 2 + 2 + (flat (L.drop (i + 1))).length) = stk n (L.eraseIdx i ++ (L.drop (L.length - 1) ++ T)) := by
  have h1 : (stk n (L ++ T)).take (i * 2 + 2) = .bool true :: .int .i64 (n : Int) :: flat (L.take i) := by
    simp only [stk, List.take_succ_cons, flat_app]
    rw [List.take_append_of_le_length (by rw [flat_len]; omega), flat_take]
  have h2 : (stk n (L ++ T)).drop (i * 2 + 2 + (flat (L.drop (i + 1))).length) = flat (L.drop (L.length - 1) ++ T) := by
    rw [flat_len, List.length_drop, show i * 2 + 2 + (L.length - (i + 1)) * 2 = (L.length - 1) * 2 + 1 + 1 from by omega]
    simp only [stk, List.drop_succ_cons, flat_drop]
    rw [List.drop_append_of_le_length (by omega)]
  rw [h1, h2, List.eraseIdx_eq_take_drop_succ]
  simp only [stk, flat_app, List.cons_append, List.append_assoc]

/-- Where an object is first. -/
def Fi (L : List Rf) (r : Rf) (z : Int) : Prop := (∃ k : Nat, z = (k : Int) ∧ L[k]? = some r ∧ ∀ j, j < k → L[j]? ≠ some r) ∨ (z = -1 ∧ r ∉ L)

theorem fi_pos {L : List Rf} {r : Rf} {z : Int} (h : Fi L r z) (hr : r ∈ L) : 0 ≤ z := by
  rcases h with ⟨k, rfl, _⟩ | ⟨_, h⟩
  · omega
  · exact absurd hr h
theorem fi_neg {L : List Rf} {r : Rf} {z : Int} (h : Fi L r z) (hr : r ∉ L) : z ≤ -1 := by
  rcases h with ⟨k, _, h, _⟩ | ⟨h, _⟩
  · exact absurd (List.mem_of_getElem? h) hr
  · omega
theorem fi_no {L : List Rf} {r : Rf} {z : Int} (h : Fi L r z) (hr : r ∉ L) : z = -1 := by
  rcases h with ⟨k, _, h, _⟩ | ⟨h, _⟩
  · exact absurd (List.mem_of_getElem? h) hr
  · exact h
theorem fi_at {L : List Rf} {r : Rf} {z : Int} {k : Nat} (h : Fi L r z) (hr : L[k]? = some r) (hm : ∀ j : Nat, j < k → L[j]? ≠ some r) : z = (k : Int) := by
  rcases h with ⟨j, rfl, h1, h2⟩ | ⟨_, h⟩
  · rcases Nat.lt_trichotomy j k with h3 | h3 | h3
    · exact absurd h1 (hm j h3)
    · rw [h3]
    · exact absurd hr (h2 k h3)
  · exact absurd (List.mem_of_getElem? hr) h
theorem view_stk (n : Nat) (L T : List Rf) : ∀ (k : Nat) (x : Rf), L[k]? = some x → (stk n (L ++ T))[2 + k * 2]? = some (Value.int .i64 x.1) ∧ (stk n (L ++ T))[2 + k * 2 + 1]? = some (Value.int .u32 x.2) := by
  intro k x h
  have h' : (L ++ T)[k]? = some x := by rw [List.getElem?_append_left (List.getElem?_eq_some_iff.1 h).1]; exact h
  exact ⟨by rw [Nat.add_comm]; exact stk_0 h', by rw [show 2 + k * 2 + 1 = k * 2 + 3 from by omega]; exact stk_1 h'⟩
theorem viewc_stk (n : Nat) (L T : List Rf) : ∀ (j : Nat) (u : Value), (flat L)[j]? = some u → (stk n (L ++ T))[2 + j]? = some u := by
  intro j u h
  rw [show 2 + j = j + 1 + 1 from by omega]
  simp only [stk, List.getElem?_cons_succ, flat_app]
  rw [List.getElem?_append_left (List.getElem?_eq_some_iff.1 h).1]
  exact h
theorem no_step {L : List Rf} {r x : Rf} {k : Nat} (h : ∀ j : Nat, j < k → L[j]? ≠ some r) (hx : L[k]? = some x) (hn : r ≠ x) : ∀ j : Nat, j < k + 1 → L[j]? ≠ some r := by
  intro j hj
  rcases Nat.lt_or_ge j k with h1 | h1
  · exact h j h1
  · have : j = k := by omega
    subst this
    rw [hx]
    intro e
    exact hn (Option.some.inj e).symm
theorem no_all {L : List Rf} {r : Rf} {k : Nat} (h : ∀ j : Nat, j < k → L[j]? ≠ some r) (hk : L.length ≤ k) : r ∉ L := by
  intro hm
  obtain ⟨j, hj⟩ := List.getElem?_of_mem hm
  exact h j (Nat.lt_of_lt_of_le (List.getElem?_eq_some_iff.1 hj).1 hk) hj

/- the loop of RootsKnown -/
def kn : Nat → List Rf := fun k => (List.range k).map fun (j : Nat) => ((255 : Int) - (j:Int), (4294967295 : Int))
theorem kn_len (k : Nat) : (kn k).length = k := by simp [kn]
theorem kn_succ (k : Nat) : kn (k + 1) = kn k ++ [(255 - (k:Int), 4294967295)] := by simp only [kn, List.range_succ, List.map_append, List.map_cons, List.map_nil]
theorem kn_32 : kn 32 = [(255, 4294967295), (254, 4294967295), (253, 4294967295), (252, 4294967295), (251, 4294967295), (250, 4294967295), (249, 4294967295), (248, 4294967295), (247, 4294967295), (246, 4294967295), (245, 4294967295), (244, 4294967295), (243, 4294967295), (242, 4294967295), (241, 4294967295), (240, 4294967295), (239, 4294967295), (238, 4294967295), (237, 4294967295), (236, 4294967295), (235, 4294967295), (234, 4294967295), (233, 4294967295), (232, 4294967295), (231, 4294967295), (230, 4294967295), (229, 4294967295), (228, 4294967295), (227, 4294967295), (226, 4294967295), (225, 4294967295), (224, 4294967295)] := by rfl

/- lists of references, and turns -/
abbrev eR : Rf → List Value := fun r => [.int .i64 r.1, .int .u32 r.2]
theorem eR_ok : Enc 2 eR := ⟨fun _ => rfl, fun x v hv => by simp only [eR, List.mem_cons, List.not_mem_nil, or_false] at hv; rcases hv with rfl | rfl <;> rfl⟩
theorem flat_fl (L : List Rf) : flat L = fl eR L := by
  induction L with
  | nil => rfl
  | cons r L ih => rw [flat, fl, ih]; rfl
structure Tn where
  d : Bool
  s : Int
  g : Int
abbrev eT : Tn → List Value := fun t => [.bool t.d, .int .u8 t.s, .int .u8 t.g]
theorem eT_ok : Enc 3 eT := ⟨fun _ => rfl, fun x v hv => by simp only [eT, List.mem_cons, List.not_mem_nil, or_false] at hv; rcases hv with rfl | rfl | rfl <;> rfl⟩
def TnOk (T : List Tn) : Prop := ∀ t ∈ T, 0 ≤ t.s ∧ t.s ≤ 255 ∧ 0 ≤ t.g ∧ t.g ≤ 255
def RfOk (L : List Rf) : Prop := ∀ r ∈ L, 0 ≤ r.1 ∧ r.1 ≤ 255 ∧ 1 ≤ r.2 ∧ r.2 ≤ 256
theorem rfOk_nil : RfOk [] := fun _ h => by cases h
theorem rfOk_push {L : List Rf} (h : RfOk L) (s g : Int) (h1 : 0 ≤ s) (h2 : s ≤ 255) (h3 : 1 ≤ g) (h4 : g ≤ 256) : RfOk (L ++ [(s, g)]) := by
  intro r hr
  rcases List.mem_append.1 hr with hr | hr
  · exact h r hr
  · rcases List.mem_singleton.1 hr with rfl
    exact ⟨h1, h2, h3, h4⟩
theorem rfOk_erase {L : List Rf} (h : RfOk L) (k : Nat) : RfOk (L.eraseIdx k) := fun r hr => h r (List.mem_of_mem_eraseIdx hr)
theorem er_eq {L : List Rf} {k m : Nat} (h : L.length ≤ m + k + 1) : (L.drop 0).take k ++ (L.drop (k + 1)).take m = L.eraseIdx k := by
  rw [List.drop_zero, List.eraseIdx_eq_take_drop_succ, List.take_of_length_le (l := L.drop (k + 1)) (by rw [List.length_drop]; omega)]
theorem er_len {L : List Rf} {k m : Nat} (h : k < L.length) (hm : m + 1 = L.length) : (L.eraseIdx k).length = m := by
  rw [List.length_eraseIdx_of_lt h]; omega

theorem stk_one (n : Nat) (A : List Rf) : ∀ v ∈ stk n A, v.oneCell' = true := by
  intro v hv
  simp only [stk, List.mem_cons] at hv
  rcases hv with rfl | rfl | hv
  · rfl
  · rfl
  · exact flat_one A v hv

/- counting -/
theorem cnt_eq {L : List Rf} {k : Nat} {x r : Rf} (h : L[k]? = some x) (e : x.1 = r.1 ∧ x.2 = r.2) : (L.take (k + 1)).count r = (L.take k).count r + 1 := by
  have : x = r := Prod.ext e.1 e.2
  subst this
  rw [List.take_add_one, h]; simp
theorem cnt_ne {L : List Rf} {k : Nat} {x r : Rf} (h : L[k]? = some x) (e : ¬ (x.1 = r.1 ∧ x.2 = r.2)) : (L.take (k + 1)).count r = (L.take k).count r := by
  have : x ≠ r := fun h => e (by rw [h]; exact ⟨rfl, rfl⟩)
  rw [List.take_add_one, h]; simp [this]
theorem first_of {L : List Rf} {r : Rf} (h : 0 < L.count r) : ∃ i, i < L.length ∧ L[i]? = some r ∧ ∀ j : Nat, j < i → L[j]? ≠ some r := by
  induction L with
  | nil => simp at h
  | cons x L ih =>
    by_cases e : x = r
    · exact ⟨0, by simp, by simp [e], fun j hj => by omega⟩
    · obtain ⟨i, h0, h1, h2⟩ := ih (by simpa [List.count_cons, e] using h)
      refine ⟨i + 1, by simpa using h0, by simpa using h1, fun j hj => ?_⟩
      cases j with
      | zero => simpa using e
      | succ j => simpa using h2 j (by omega)
theorem cnt_erase {L : List Rf} {r : Rf} {i : Nat} (h : L[i]? = some r) : (L.eraseIdx i).count r + 1 = L.count r := by
  induction L generalizing i with
  | nil => simp at h
  | cons x L ih =>
    cases i with
    | zero => simp at h; simp [h]
    | succ i =>
      have := ih (i := i) (by simpa using h)
      simp only [List.eraseIdx_cons_succ, List.count_cons]
      omega
theorem cnt_no {L : List Rf} {r : Rf} (h : L.count r = 0) : r ∉ L := fun hm => by have := List.count_pos_iff.2 hm; omega
theorem cnt_yes {L : List Rf} {r : Rf} (h : 0 < L.count r) : r ∈ L := List.count_pos_iff.1 h

theorem stk_le {g w : World} {A : List Assn} {j b : Nat} {L : List Rf} (hs : sat g w A) (hj : A[j]? = some (PStk b L)) : L.length ≤ 32 :=
  sat_use hs hj fun h ha _ => by obtain ⟨T, hT, _⟩ := ha; rw [List.length_append] at hT; omega
theorem first_le {L : List Rf} {i : Nat} {x : Rf} (h : L[i]? = some x) : ∃ k, k ≤ i ∧ L[k]? = some x ∧ ∀ j : Nat, j < k → L[j]? ≠ some x := by
  induction L generalizing i with
  | nil => simp at h
  | cons y L ih =>
    by_cases e : y = x
    · exact ⟨0, by omega, by simp [e], fun j hj => by omega⟩
    · cases i with
      | zero => simp at h; exact absurd h e
      | succ i =>
        obtain ⟨k, h0, h1, h2⟩ := ih (i := i) (by simpa using h)
        refine ⟨k + 1, by omega, by simpa using h1, fun j hj => ?_⟩
        cases j with
        | zero => simpa using e
        | succ j => simpa using h2 j (by omega)
theorem rf_ne {x y : Rf} (h : some y ≠ some x) : ¬ (y.1 = x.1 ∧ y.2 = x.2) := fun e => h (congrArg some (Prod.ext e.1 e.2))

end Go.Proofs.Ytafencnieimpnaa
