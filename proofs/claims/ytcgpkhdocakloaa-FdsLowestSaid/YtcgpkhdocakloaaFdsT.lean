/-
  The smallest free id: what holds while files are opened and closed. No program in sight.
-/
import Derived.Test.YtcgpkhdocakloaaFdsU
namespace Go.Proofs.Ytcgpkhdocakloaa
abbrev Mv := Bool × Int
def eMv (x : Mv) : List Value := [.bool x.1, .int .u16 x.2]
theorem eMv_ok : Enc 2 eMv := ⟨fun _ => rfl, fun x v hv => by simp [eMv] at hv; rcases hv with rfl | rfl <;> rfl⟩
def MvOk (x : Mv) : Prop := 0 ≤ x.2 ∧ x.2 ≤ 65535
theorem mv_ok {T : List Mv} (h : ∀ z ∈ T, MvOk z) {i : Nat} {z : Mv} (hs : T[i]? = some z) : 0 ≤ z.2 ∧ z.2 ≤ 65535 := h z (List.mem_of_getElem? hs)
/-- What holds: the ids, the files that are open, their numbers, and the files that ever were. -/
structure Lo (g0 : Int) (i n : Nat) (X : Xs) (O : List Ky) (E1 E2 : Mm) : Prop where
  len : X.length = n
  lw : ∀ x ∈ X, (x.1 = 0 ∨ x.1 = 1) ∧ 1 ≤ x.2.1 ∧ x.2.1 ≤ g0 + (i : Int)
  perm : O.Perm (allX X)
  num : Nums X E1
  ev : ∀ (j : Nat) (x : Fl) (g : Int), X[j]? = some x → (mget E2 (1, (j : Int), g)).isSome = true → g ≤ x.2.1 ∧ (x.1 = 0 → g < x.2.1)
theorem all_iff {X : Xs} {o : Ky} : o ∈ allX X ↔ ∃ (j : Nat) (v : Int), o.1 = 1 ∧ o.2.1 = (j : Int) ∧ X[j]? = some (1, o.2.2, v) := by
  constructor
  · intro h
    obtain ⟨r, hr, rfl⟩ := List.mem_map.1 h
    obtain ⟨k, hk⟩ := List.getElem?_of_mem hr
    obtain ⟨j, z⟩ := r
    have h1 := (inS_mem hk).2
    rw [Nat.sub_zero] at h1
    unfold As at h1
    rw [List.getElem?_map] at h1
    cases hx : X[j]? with
    | none => rw [hx] at h1; cases h1
    | some x =>
      rw [hx] at h1
      have h2 := Option.some.inj h1
      obtain ⟨a, b, c⟩ := x
      simp only [sl2, Prod.mk.injEq] at h2
      obtain ⟨rfl, rfl⟩ := h2
      exact ⟨j, c, rfl, rfl, hx⟩
  · rintro ⟨j, v, h1, h2, h3⟩
    obtain ⟨a, b, c⟩ := o
    simp only at h1 h2 h3
    subst h1
    subst h2
    have h4 := inS_at (q := 1) (as_get h3) rfl
    exact List.mem_map.2 ⟨(j, c), List.mem_of_getElem? h4, rfl⟩
theorem inS_sorted (q : Int) : ∀ (A : List Sl2) (k : Nat), (∀ r ∈ inS q A k, k ≤ r.1) ∧ (inS q A k).Pairwise fun a b => a.1 < b.1
  | [], k => ⟨fun _ h => (by cases h), List.Pairwise.nil⟩
  | s :: A, k => by
    obtain ⟨h1, h2⟩ := inS_sorted q A (k + 1)
    simp only [inS]
    split
    · refine ⟨fun r hr => ?_, List.Pairwise.cons (fun r hr => h1 r hr) h2⟩
      rcases List.mem_cons.1 hr with rfl | hr
      · exact Nat.le_refl _
      · exact Nat.le_of_succ_le (h1 r hr)
    · exact ⟨fun r hr => Nat.le_of_succ_le (h1 r hr), h2⟩
theorem all_sorted (X : Xs) : (allX X).Pairwise fun a b => a.2.1 < b.2.1 := by
  unfold allX
  rw [List.pairwise_map]
  exact (inS_sorted 1 (As X) 0).2.imp fun h => by show ((_ : Nat) : Int) < ((_ : Nat) : Int); omega
theorem sorted_eq : ∀ {L M : List Ky}, L.Perm M → (L.Pairwise fun a b => a.2.1 ≤ b.2.1) → (M.Pairwise fun a b => a.2.1 < b.2.1) → L = M
  | [], M, hp, _, _ => (List.nil_perm.1 hp).symm
  | a :: L, [], hp, _, _ => absurd hp.symm (by intro h; exact absurd (List.nil_perm.1 h) (by simp))
  | a :: L, b :: M, hp, h1, h2 => by
    have hab : a = b := by
      have ha : a ∈ b :: M := hp.subset (List.mem_cons_self)
      have hb : b ∈ a :: L := hp.symm.subset (List.mem_cons_self)
      rcases List.mem_cons.1 ha with h | h
      · exact h
      · rcases List.mem_cons.1 hb with h' | h'
        · exact h'.symm
        · have e1 := (List.pairwise_cons.1 h2).1 a h
          have e2 := (List.pairwise_cons.1 h1).1 b h'
          omega
    subst hab
    rw [sorted_eq (List.Perm.cons_inv hp) (List.pairwise_cons.1 h1).2 (List.pairwise_cons.1 h2).2]
theorem perm_era {α : Type} : ∀ {L : List α} {k : Nat} {x : α}, L[k]? = some x → L.Perm (x :: L.eraseIdx k)
  | [], k, x, h => by cases h
  | a :: L, 0, x, h => by
    obtain rfl := Option.some.inj h
    exact List.Perm.refl _
  | a :: L, k + 1, x, h => by
    have := perm_era (L := L) (k := k) (x := x) (by simpa using h)
    exact (List.Perm.cons a this).trans (List.Perm.swap x a _)
/-- A free id is opened. -/
theorem inS_ins {A : List Sl2} {q : Nat} {e z z' : Int} (h : A[q]? = some (e, z)) (he : e ≠ 1) : (inS 1 (A.set q (1, z')) 0).Perm ((q, z') :: inS 1 A 0) := by
  have hq := (List.getElem?_eq_some_iff.1 h).1
  have h1 : A = A.take q ++ (e, z) :: A.drop (q + 1) := by
    have := List.take_append_drop q A
    rw [List.drop_eq_getElem_cons hq, (List.getElem?_eq_some_iff.1 h).2] at this
    exact this.symm
  have hl : (A.take q).length = q := by rw [List.length_take]; omega
  have h2 : A.set q (1, z') = A.take q ++ (1, z') :: A.drop (q + 1) := by
    conv => lhs; rw [h1]
    rw [List.set_append_right _ _ (by omega), hl, Nat.sub_self]
    rfl
  have h3 : inS 1 A 0 = inS 1 (A.take q) 0 ++ inS 1 (A.drop (q + 1)) (q + 1) := by
    conv => lhs; rw [h1]
    rw [inS_app, hl, Nat.zero_add]
    show _ ++ (if e = 1 then _ else _) = _
    rw [if_neg he]
  rw [h2, inS_app, hl, Nat.zero_add, h3]
  show (inS 1 (A.take q) 0 ++ (if (1 : Int) = 1 then _ else _)).Perm _
  rw [if_pos rfl]
  exact List.perm_middle
theorem all_ins {X : Xs} {q : Nat} {x : Fl} {g v : Int} (hx : X[q]? = some x) (h1 : x.1 ≠ 1) : (allX (X.set q (1, g, v))).Perm ((1, (q : Int), g) :: allX X) := by
  unfold allX
  rw [as_set]
  exact (inS_ins (as_get hx) h1).map fun r => ((1, (r.1 : Int), r.2) : Ky)
section
variable {g0 : Int} {i n : Nat} {X : Xs} {O : List Ky} {E1 E2 : Mm}
theorem st_begin {g : Int} (hg : 1 ≤ g) : Lo g 0 n (List.replicate n (0, g, 0)) [] [] [] where
  len := List.length_replicate
  lw x hx := by
    rw [List.eq_of_mem_replicate hx]
    exact ⟨.inl rfl, hg, by show g ≤ g + ((0 : Nat) : Int); omega⟩
  perm := by
    have : allX (List.replicate n (0, g, 0)) = [] := by
      unfold allX
      rw [inS_rep g 0 (by decide)]
      rfl
    rw [this]
  num := nums_nil
  ev j x g' _ h := by cases h
theorem st_el (h : Lo g0 i n X O E1 E2) {k : Nat} {o : Ky} (ho : O[k]? = some o) : o.1 = 1 ∧ 0 ≤ o.2.1 ∧ o.2.1 < (n : Int) ∧ 1 ≤ o.2.2 ∧ o.2.2 ≤ g0 + (i : Int) ∧ ∃ (j : Nat) (v : Int), o.2.1 = (j : Int) ∧ X[j]? = some (1, o.2.2, v) := by
  obtain ⟨j, v, h1, h2, h3⟩ := all_iff.1 (h.perm.subset (List.mem_of_getElem? ho))
  have hj := (List.getElem?_eq_some_iff.1 h3).1
  have hw := h.lw _ (List.mem_of_getElem? h3)
  have hl := h.len
  exact ⟨h1, by omega, by omega, hw.2.1, hw.2.2, j, v, h2, h3⟩
theorem err_zero {o : Ky} {j : Nat} {v : Int} (h1 : o.1 = 1) (h2 : o.2.1 = (j : Int)) (h3 : X[j]? = some (1, o.2.2, v)) (hn : o.2.1 ≤ 63) (hg : 1 ≤ o.2.2) : errA (As X) o = 0 := by
  obtain ⟨a, b, c⟩ := o
  exact chk_ok (As X) (q := j) (s := (1, c)) h1 hn hg h2 (as_get h3) ⟨rfl, rfl⟩
theorem st_close (h : Lo g0 i n X O E1 E2) (hn : n ≤ 64) (hg : g0 + (i : Int) < 4294967295) {k : Nat} {o : Ky} (ho : O[k]? = some o) : errA (As X) o = 0 ∧ Lo g0 (i + 1) n (clsX X o) (O.eraseIdx k) E1 E2 := by
  obtain ⟨h1, h2, h3, h4, h5, j, v, h6, h7⟩ := st_el h ho
  have he := err_zero h1 h6 h7 (by omega) h4
  have hX : clsX X o = X.set j (0, o.2.2 + 1, 0) := by
    unfold clsX
    rw [if_pos he, h6, Int.toNat_natCast, shut_lt (by omega)]
  refine ⟨he, ?_⟩
  rw [hX]
  constructor
  · rw [List.length_set]
    exact h.len
  · intro x hx
    rcases List.mem_or_eq_of_mem_set hx with hx | rfl
    · have := h.lw x hx
      exact ⟨this.1, this.2.1, by omega⟩
    · exact ⟨.inl rfl, by show 1 ≤ o.2.2 + 1; omega, by show o.2.2 + 1 ≤ g0 + ((i + 1 : Nat) : Int); omega⟩
  · rw [cl_all h7 rfl (by decide)]
    have hat : (allX X)[cnt 1 (As X) j]? = some o := by
      have h8 := inS_at (q := 1) (as_get h7) rfl
      unfold allX
      rw [List.getElem?_map, h8]
      obtain ⟨a, b, c⟩ := o
      simp only at h1 h6
      subst h1
      subst h6
      rfl
    exact List.Perm.cons_inv (((perm_era ho).symm.trans h.perm).trans (perm_era hat))
  · intro q g u hq
    rcases set_cases hq with ⟨_, h8⟩ | ⟨_, h8⟩
    · exact absurd (congrArg Prod.fst h8) (by show ¬ (1 : Int) = 0; decide)
    · exact h.num q g u h8
  · intro q x g hq hs
    rcases set_cases hq with ⟨rfl, rfl⟩ | ⟨_, h8⟩
    · have := (h.ev q _ g h7 hs).1
      exact ⟨by show g ≤ o.2.2 + 1; have h9 : g ≤ o.2.2 := this; omega, fun _ => by show g < o.2.2 + 1; have h9 : g ≤ o.2.2 := this; omega⟩
    · exact h.ev q x g h8 hs
theorem st_mono (h : Lo g0 i n X O E1 E2) : Lo g0 (i + 1) n X O E1 E2 := ⟨h.len, fun x hx => ⟨(h.lw x hx).1, (h.lw x hx).2.1, by have := (h.lw x hx).2.2; omega⟩, h.perm, h.num, h.ev⟩
theorem lw_le (h : Lo g0 i n X O E1 E2) {w : Nat} (hw : ∀ j : Nat, j < w → ∃ o ∈ O, o.2.1 = (j : Int)) : w ≤ n := by
  rcases Nat.lt_or_ge n w with h0 | h0
  · obtain ⟨o, ho, h1⟩ := hw n h0
    obtain ⟨k, hk⟩ := List.getElem?_of_mem ho
    have := (st_el h hk).2.2.1
    omega
  · exact h0
theorem lw_one (h : Lo g0 i n X O E1 E2) {w : Nat} (hw : ∀ j : Nat, j < w → ∃ o ∈ O, o.2.1 = (j : Int)) {j : Nat} (hj : j < w) : ∃ g v, X[j]? = some (1, g, v) := by
  obtain ⟨o, ho, h1⟩ := hw j hj
  obtain ⟨k, hk⟩ := List.getElem?_of_mem ho
  obtain ⟨q, v, h2, h3⟩ := (st_el h hk).2.2.2.2.2
  obtain rfl : q = j := by omega
  exact ⟨_, v, h3⟩
theorem inS_zero : ∀ {A : List Sl2} {k : Nat}, (∀ s ∈ A, s.1 = 1) → inS 0 A k = []
  | [], k, _ => rfl
  | s :: A, k, h => by
    show (if s.1 = 0 then _ else _) = _
    rw [if_neg (by rw [h s (List.mem_cons_self)]; decide)]
    exact inS_zero fun x hx => h x (List.mem_cons_of_mem _ hx)
theorem cnt_ones {w : Nat} (h : ∀ j, j < w → ∃ g v, X[j]? = some (1, g, v)) : inS 0 ((As X).take w) 0 = [] := inS_zero fun s hs => by
  obtain ⟨j, hj⟩ := List.getElem?_of_mem hs
  rw [List.getElem?_take] at hj
  split at hj
  · rename_i hjw
    obtain ⟨g, v, hx⟩ := h j hjw
    rw [as_get hx] at hj
    obtain rfl := Option.some.inj hj
    rfl
  · cases hj
theorem lw_next (h : Lo g0 i n X O E1 E2) {w : Nat} (hw : ∀ j : Nat, j < w → ∃ o ∈ O, o.2.1 = (j : Int)) (hno : ∀ o ∈ O, o.2.1 ≠ (w : Int)) :
    (w = n ∧ (inS 0 (As X) 0).length = 0) ∨ (w < n ∧ ∃ g v, X[w]? = some (0, g, v) ∧ cnt 0 (As X) w = 0 ∧ mget E2 (1, (w : Int), g) = none ∧ 1 ≤ g ∧ g ≤ g0 + (i : Int)) := by
  have hle := lw_le h hw
  have hc := cnt_ones (w := w) fun j hj => lw_one h hw hj
  rcases Nat.lt_or_ge w n with h0 | h0
  · right
    have hl := h.len
    obtain ⟨⟨e, g, v⟩, hx⟩ : ∃ x, X[w]? = some x := ⟨_, List.getElem?_eq_getElem (by omega)⟩
    have hlw := h.lw _ (List.mem_of_getElem? hx)
    have he : e = 0 := by
      rcases hlw.1 with h1 | h1
      · exact h1
      · exfalso
        have h1' : e = 1 := h1
        subst h1'
        exact hno (1, (w : Int), g) (h.perm.symm.subset (all_iff.2 ⟨w, v, rfl, rfl, hx⟩)) rfl
    subst he
    refine ⟨h0, g, v, hx, by unfold cnt; rw [hc]; rfl, ?_, hlw.2.1, hlw.2.2⟩
    cases hm : mget E2 (1, (w : Int), g) with
    | none => rfl
    | some z =>
      exfalso
      have := (h.ev w _ g hx (by rw [hm]; rfl)).2 rfl
      exact absurd this (Int.lt_irrefl _)
  · left
    obtain rfl : w = n := by omega
    refine ⟨rfl, ?_⟩
    rw [List.take_of_length_le (by rw [as_len, h.len]; exact Nat.le_refl _)] at hc
    rw [hc]
    rfl
theorem st_open (h : Lo g0 i n X O E1 E2) {w : Nat} {g v0 v : Int} (hx : X[w]? = some (0, g, v0)) : Lo g0 (i + 1) n (X.set w (1, g, v)) (O ++ [(1, (w : Int), g)]) (mset E1 (1, (w : Int), g) v) (mset E2 (1, (w : Int), g) 1) := by
  constructor
  · rw [List.length_set]
    exact h.len
  · intro x hx'
    rcases List.mem_or_eq_of_mem_set hx' with hx' | rfl
    · have := h.lw x hx'
      exact ⟨this.1, this.2.1, by omega⟩
    · have := h.lw _ (List.mem_of_getElem? hx)
      exact ⟨.inr rfl, this.2.1, by have h2 : g ≤ g0 + (i : Int) := this.2.2; show g ≤ g0 + ((i + 1 : Nat) : Int); omega⟩
  · exact ((List.perm_append_comm (l₁ := O) (l₂ := [(1, (w : Int), g)])).trans (List.Perm.cons _ h.perm)).trans (all_ins (v := v) hx (by show ¬ (0 : Int) = 1; decide)).symm
  · exact nums_open h.num
  · intro q x g' hq hs
    rw [mget_set] at hs
    rcases set_cases hq with ⟨rfl, rfl⟩ | ⟨hne, h8⟩
    · by_cases hg : ((1, (q : Int), g') : Ky) = (1, (q : Int), g)
      · simp only [Prod.mk.injEq, true_and] at hg
        exact ⟨by show g' ≤ g; omega, fun h0 => absurd h0 (by show ¬ (1 : Int) = 0; decide)⟩
      · rw [if_neg hg] at hs
        have := (h.ev q _ g' hx hs).1
        exact ⟨this, fun h0 => absurd h0 (by show ¬ (1 : Int) = 0; decide)⟩
    · rw [if_neg (by simp only [Prod.mk.injEq, not_and]; intro _ h3; omega)] at hs
      exact h.ev q x g' h8 hs
theorem st_sorted (h : Lo g0 i n X O E1 E2) {M : List Ky} (hp : M.Perm O) (hs : M.Pairwise fun a b => a.2.1 ≤ b.2.1) : M = allX X := sorted_eq (hp.trans h.perm) hs (all_sorted X)
theorem st_ids (h : Lo g0 i n X O E1 E2) (hn : n ≤ 64) : ∀ o ∈ O, o.1 = 1 ∧ 0 ≤ o.2.1 ∧ o.2.1 < 64 := fun o ho => by
  obtain ⟨k, hk⟩ := List.getElem?_of_mem ho
  have := st_el h hk
  exact ⟨this.1, this.2.1, by omega⟩
theorem lo_len (h : Lo g0 i n X O E1 E2) : O.length ≤ n := by
  rw [h.perm.length_eq, allX_len]
  have := inS_len 1 (As X) 0
  rw [as_len, h.len] at this
  exact this
theorem st_all (h : Lo g0 i n X O E1 E2) : Lo g0 i n X (allX X) E1 E2 := ⟨h.len, h.lw, List.Perm.refl _, h.num, h.ev⟩
theorem st_err (h : Lo g0 i n X O E1 E2) (hn : n ≤ 64) {k : Nat} {o : Ky} (ho : (allX X)[k]? = some o) : errA (As X) o = 0 := by
  obtain ⟨h1, h2, h3, h4, h5, j, v, h6, h7⟩ := st_el (st_all h) ho
  exact err_zero h1 h6 h7 (by omega) h4
theorem st_num (h : Lo g0 i n X O E1 E2) {o : Ky} (he : errA (As X) o = 0) : (mget E1 o).getD 0 = numX X o := (num_ok he).symm.trans (nums_num h.num o)
end
theorem all_of_idx {L : List Ky} {k : Nat} {P : Ky → Prop} (h : ∀ (j : Nat) (o : Ky), j < k → L[j]? = some o → P o) (hk : L.length ≤ k) : ∀ o ∈ L, P o := fun o ho => by
  obtain ⟨j, hj⟩ := List.getElem?_of_mem ho
  exact h j o (Nat.lt_of_lt_of_le (List.getElem?_eq_some_iff.1 hj).1 hk) hj
theorem idx_go {L : List Ky} {k : Nat} {P : Ky → Prop} {x : Ky} (h : ∀ (j : Nat) (o : Ky), j < k → L[j]? = some o → P o) (hx : L[k]? = some x) (hp : P x) : ∀ (j : Nat) (o : Ky), j < k + 1 → L[j]? = some o → P o := fun j o hj ho => by
  rcases Nat.lt_succ_iff_lt_or_eq.1 hj with h1 | rfl
  · exact h j o h1 ho
  · rw [hx] at ho
    obtain rfl := Option.some.inj ho
    exact hp
theorem want_go {O : List Ky} {w : Nat} (hw : ∀ j : Nat, j < w → ∃ o ∈ O, o.2.1 = (j : Int)) (h : ∃ o ∈ O, o.2.1 = (w : Int)) : ∀ j : Nat, j < w + 1 → ∃ o ∈ O, o.2.1 = (j : Int) := fun j hj => by
  rcases Nat.lt_succ_iff_lt_or_eq.1 hj with h1 | rfl
  · exact hw j h1
  · exact h
end Go.Proofs.Ytcgpkhdocakloaa
