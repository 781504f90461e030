/-
  The order of tags by runes is the order by bytes. No program in sight.
-/
import Derived.Test.YtfoliffeieeihaaGreatDoorBundle38
namespace Go.Proofs.YtfoliffeieeihaaGreatDoor
theorem u8lt {a b : Nat} (ha : a < 256) (hb : b < 256) (h : a < b) : UInt8.ofNat a < UInt8.ofNat b := by
  rw [UInt8.lt_iff_toNat_lt, UInt8.toNat_ofNat', UInt8.toNat_ofNat', Nat.mod_eq_of_lt ha, Nat.mod_eq_of_lt hb]
  exact h
theorem lx {a b : Nat} {s t : List UInt8} (ha : a < 256) (hb : b < 256) (h : a < b ∨ (a = b ∧ s < t)) : UInt8.ofNat a :: s < UInt8.ofNat b :: t := by
  rw [List.cons_lt_cons_iff]
  rcases h with h | ⟨rfl, h⟩
  · exact .inl (u8lt ha hb h)
  · exact .inr ⟨rfl, h⟩
theorem enc_lt {x y : Nat} (h : x < y) (hy : y ≤ 1114111) (s t : List UInt8) : encU x ++ s < encU y ++ t := by
  unfold encU
  by_cases x1 : x < 128
  · rw [if_pos x1]
    by_cases y1 : y < 128
    · rw [if_pos y1]
      exact lx (by omega) (by omega) (.inl (by omega))
    · rw [if_neg y1]
      by_cases y2 : y < 2048
      · rw [if_pos y2]
        exact lx (by omega) (by omega) (.inl (by omega))
      · rw [if_neg y2]
        by_cases y3 : y < 65536
        · rw [if_pos y3]
          exact lx (by omega) (by omega) (.inl (by omega))
        · rw [if_neg y3]
          exact lx (by omega) (by omega) (.inl (by omega))
  · rw [if_neg x1, if_neg (show ¬ y < 128 by omega)]
    by_cases x2 : x < 2048
    · rw [if_pos x2]
      by_cases y2 : y < 2048
      · rw [if_pos y2]
        refine lx (by omega) (by omega) ?_
        by_cases e : x / 64 = y / 64
        · exact .inr ⟨by omega, lx (by omega) (by omega) (.inl (by omega))⟩
        · exact .inl (by omega)
      · rw [if_neg y2]
        by_cases y3 : y < 65536
        · rw [if_pos y3]
          exact lx (by omega) (by omega) (.inl (by omega))
        · rw [if_neg y3]
          exact lx (by omega) (by omega) (.inl (by omega))
    · rw [if_neg x2, if_neg (show ¬ y < 2048 by omega)]
      by_cases x3 : x < 65536
      · rw [if_pos x3]
        by_cases y3 : y < 65536
        · rw [if_pos y3]
          refine lx (by omega) (by omega) ?_
          by_cases e : x / 4096 = y / 4096
          · refine .inr ⟨by omega, lx (by omega) (by omega) ?_⟩
            by_cases e2 : x / 64 % 64 = y / 64 % 64
            · exact .inr ⟨by omega, lx (by omega) (by omega) (.inl (by omega))⟩
            · exact .inl (by omega)
          · exact .inl (by omega)
        · rw [if_neg y3]
          exact lx (by omega) (by omega) (.inl (by omega))
      · rw [if_neg x3, if_neg (show ¬ y < 65536 by omega)]
        refine lx (by omega) (by omega) ?_
        by_cases e : x / 262144 = y / 262144
        · refine .inr ⟨by omega, lx (by omega) (by omega) ?_⟩
          by_cases e2 : x / 4096 % 64 = y / 4096 % 64
          · refine .inr ⟨by omega, lx (by omega) (by omega) ?_⟩
            by_cases e3 : x / 64 % 64 = y / 64 % 64
            · exact .inr ⟨by omega, lx (by omega) (by omega) (.inl (by omega))⟩
            · exact .inl (by omega)
          · exact .inl (by omega)
        · exact .inl (by omega)
theorem app_lt : ∀ (P : List UInt8) {s t : List UInt8}, s < t → P ++ s < P ++ t
  | [], _, _, h => h
  | a :: P, _, _, h => by
    rw [List.cons_append, List.cons_append, List.cons_lt_cons_iff]
    exact .inr ⟨rfl, app_lt P h⟩
theorem enc_ne (r : Nat) (s : List UInt8) : ∃ a t, encU r ++ s = a :: t := by
  unfold encU
  split
  · exact ⟨_, _, rfl⟩
  · split
    · exact ⟨_, _, rfl⟩
    · split <;> exact ⟨_, _, rfl⟩
theorem rn_enc {L : List UInt8} : ∀ (f p : Nat) (l : List Nat), L.length ≤ p + f → rnD L f p = some l → L.drop p = l.flatMap encU ∧ ∀ r ∈ l, r ≤ 1114111 := by
  intro f
  induction f with
  | zero =>
    intro p l hf h
    rw [rn_end (by omega)] at h
    obtain rfl := Option.some.inj h
    exact ⟨List.drop_eq_nil_of_le (by omega), fun _ h => nomatch h⟩
  | succ f ih =>
    intro p l hf h
    by_cases hp : p < L.length
    · by_cases hb : (runeD L p).2 = 0
      · rw [rn_bad hp hf hb] at h
        cases h
      · rw [rn_go hp hf hb, Nat.add_sub_cancel] at h
        obtain ⟨m, hm, rfl⟩ := Option.map_eq_some_iff.1 h
        have hr := enc_rune hp hb
        have hd : dec L p = runeD L p := by
          have := runeD_dec L p
          split at this
          · rw [this] at hb
            exact absurd rfl hb
          · exact this.symm
        have hw := dec_pos hp
        rw [hd] at hw
        obtain ⟨h1, h2⟩ := ih (p + (runeD L p).2) m (by omega) hm
        refine ⟨?_, fun r hr' => ?_⟩
        · rw [List.flatMap_cons, ← h1, hr.2.1, ← List.drop_drop, List.take_append_drop]
        · rcases List.mem_cons.1 hr' with rfl | hr'
          · rw [← hd]
            exact dec_max L p
          · exact h2 r hr'
    · rw [rn_end (by omega)] at h
      obtain rfl := Option.some.inj h
      exact ⟨List.drop_eq_nil_of_le (by omega), fun _ h => nomatch h⟩
theorem rn_all {L : List UInt8} {l : List Nat} (h : rnD L L.length 0 = some l) : L = l.flatMap encU ∧ ∀ r ∈ l, r ≤ 1114111 := by
  have := rn_enc L.length 0 l (by omega) h
  rw [List.drop_zero] at this
  exact this
theorem at_split {l : List Nat} {i x : Nat} (h : l[i]? = some x) : l = l.take i ++ x :: l.drop (i + 1) := by
  obtain ⟨hi, rfl⟩ := List.getElem?_eq_some_iff.1 h
  rw [← List.drop_eq_getElem_cons hi, List.take_append_drop]
theorem fm_lt {l m : List Nat} {i x y : Nat} (hx : l[i]? = some x) (hy : m[i]? = some y) (hp : l.take i = m.take i) (h : x < y) (hm : ∀ r ∈ m, r ≤ 1114111) : l.flatMap encU < m.flatMap encU := by
  rw [at_split hx, at_split hy, hp, List.flatMap_append, List.flatMap_append, List.flatMap_cons, List.flatMap_cons]
  exact app_lt _ (enc_lt h (hm y (List.mem_of_getElem? hy)) _ _)
theorem fm_pre {l m : List Nat} {i : Nat} (hl : l.length = i) (hm : i < m.length) (hp : l.take i = m.take i) : l.flatMap encU < m.flatMap encU := by
  have hy : m[i]? = some m[i] := List.getElem?_eq_getElem hm
  have e : l = m.take i := by rw [← hp, List.take_of_length_le (by omega)]
  rw [at_split hy, List.flatMap_append, ← e, List.flatMap_cons]
  obtain ⟨a, t, h⟩ := enc_ne m[i] ((m.drop (i + 1)).flatMap encU)
  rw [h]
  have := app_lt (l.flatMap encU) (show ([] : List UInt8) < a :: t from List.nil_lt_cons _ _)
  rwa [List.append_nil] at this
theorem od_lt {a b : List UInt8} (ha : tagE a = 0) (hb : tagE b = 0) (h : a < b) : ordT a b = -1 := by
  unfold ordT ordB Go.Sort.ltStr
  rw [if_pos ⟨ha, hb⟩]
  simp only [decide_eq_true_eq]
  rw [if_pos h]
theorem od_gt {a b : List UInt8} (ha : tagE a = 0) (hb : tagE b = 0) (h : b < a) : ordT a b = 1 := by
  unfold ordT ordB Go.Sort.ltStr
  rw [if_pos ⟨ha, hb⟩]
  simp only [decide_eq_true_eq]
  rw [if_neg (fun q => List.lt_irrefl a (List.lt_trans q h)), if_pos h]
theorem od_eq {a b : List UInt8} (ha : tagE a = 0) (hb : tagE b = 0) (h : a = b) : ordT a b = 0 := by
  subst h
  unfold ordT ordB Go.Sort.ltStr
  rw [if_pos ⟨ha, hb⟩]
  simp only [decide_eq_true_eq]
  rw [if_neg (List.lt_irrefl a), if_neg (List.lt_irrefl a)]
section
variable {a b : List UInt8} {l m : List Nat} {i x y : Nat} (ha : tagE a = 0) (hb : tagE b = 0) (hl : rnD a a.length 0 = some l) (hm : rnD b b.length 0 = some m)
include ha hb hl hm
theorem dz_lt (hx : l[i]? = some x) (hy : m[i]? = some y) (hp : l.take i = m.take i) (h : x < y) : ordT a b = -1 := by
  obtain ⟨e1, _⟩ := rn_all hl
  obtain ⟨e2, h2⟩ := rn_all hm
  exact od_lt ha hb (by rw [e1, e2]; exact fm_lt hx hy hp h h2)
theorem dz_gt (hx : l[i]? = some x) (hy : m[i]? = some y) (hp : l.take i = m.take i) (h : y < x) : ordT a b = 1 := by
  obtain ⟨e1, h1⟩ := rn_all hl
  obtain ⟨e2, _⟩ := rn_all hm
  exact od_gt ha hb (by rw [e1, e2]; exact fm_lt hy hx hp.symm h h1)
theorem dz_pl (h1 : l.length = i) (h2 : i < m.length) (hp : l.take i = m.take i) : ordT a b = -1 := by
  exact od_lt ha hb (by rw [(rn_all hl).1, (rn_all hm).1]; exact fm_pre h1 h2 hp)
theorem dz_pg (h1 : m.length = i) (h2 : i < l.length) (hp : l.take i = m.take i) : ordT a b = 1 := by
  exact od_gt ha hb (by rw [(rn_all hl).1, (rn_all hm).1]; exact fm_pre h1 h2 hp.symm)
theorem dz_eq (h1 : l.length = i) (h2 : m.length = i) (hp : l.take i = m.take i) : ordT a b = 0 := by
  refine od_eq ha hb ?_
  rw [List.take_of_length_le (by omega), List.take_of_length_le (by omega)] at hp
  rw [(rn_all hl).1, (rn_all hm).1, hp]
end
theorem ordT_lt {a b : List UInt8} (ha : tagE a = 0) (hb : tagE b = 0) : ordT a b < 0 ↔ a < b := by
  have h := lt_ordT a b
  unfold Go.Proofs.ltOf at h
  rw [decide_eq_true_eq] at h
  rw [h]
  constructor
  · rintro (⟨_, _, q⟩ | ⟨q, _⟩)
    · exact q
    · exact absurd ha q
  · intro q
    exact .inl ⟨ha, hb, q⟩
theorem tk_same {l m : List Nat} {i x : Nat} (hx : l[i]? = some x) (hy : m[i]? = some x) (hp : l.take i = m.take i) : l.take (i + 1) = m.take (i + 1) := by rw [List.take_add_one, List.take_add_one, hx, hy, hp]
-- the document's list of tags
theorem tg_uniq {S : Rp} {T U : List (List UInt8)} (h1 : Tg S T) (h2 : Tg S U) : T = U := by
  have key : ∀ {l m : List (List UInt8)}, l.Pairwise (fun a b => a < b) → m.Pairwise (fun a b => a < b) → (∀ x, x ∈ l ↔ x ∈ m) → l = m := by
    intro l
    induction l with
    | nil =>
      intro m _ _ h
      cases m with
      | nil => rfl
      | cons b m => have := (h b).2 (by simp); cases this
    | cons a l ih =>
      intro m h1 h2 h
      cases m with
      | nil => have := (h a).1 (by simp); cases this
      | cons b m =>
        rw [List.pairwise_cons] at h1 h2
        have hab : a = b := by
          rcases List.mem_cons.1 ((h a).1 (by simp)) with e | e
          · exact e
          · rcases List.mem_cons.1 ((h b).2 (by simp)) with e2 | e2
            · exact e2.symm
            · exact absurd (List.lt_trans (h1.1 b e2) (h2.1 a e)) (List.lt_irrefl a)
        subst hab
        rw [ih h1.2 h2.2 fun x => ?_]
        have hx := h x
        simp only [List.mem_cons] at hx
        constructor
        · intro hl
          rcases hx.1 (.inr hl) with e | e
          · subst e; exact absurd (h1.1 x hl) (List.lt_irrefl x)
          · exact e
        · intro hm
          rcases hx.2 (.inr hm) with e | e
          · subst e; exact absurd (h2.1 x hm) (List.lt_irrefl x)
          · exact e
  exact key h1.so h2.so fun x => (h1.mem x).trans (h2.mem x).symm
/-- Tags of the first leaks, in order. -/
structure Dt (L : List Lk) (i : Nat) (T : List (List UInt8)) : Prop where
  so : T.Pairwise fun a b => a < b
  mem : ∀ t, t ∈ T ↔ ∃ x ∈ L.take i, x.tag = t
  le : T.length ≤ i
theorem dt_0 (L : List Lk) : Dt L 0 [] := ⟨List.Pairwise.nil, fun t => by simp, Nat.le_refl _⟩
theorem tk_mem {L : List Lk} {i : Nat} {x : Lk} (hx : L[i]? = some x) (t : List UInt8) : (∃ y ∈ L.take (i + 1), y.tag = t) ↔ (∃ y ∈ L.take i, y.tag = t) ∨ x.tag = t := by
  rw [List.take_add_one, hx]
  simp only [List.mem_append, Option.toList_some, List.mem_singleton]
  constructor
  · rintro ⟨y, h | rfl, e⟩
    · exact .inl ⟨y, h, e⟩
    · exact .inr e
  · rintro (⟨y, h, e⟩ | e)
    · exact ⟨y, .inl h, e⟩
    · exact ⟨x, .inr rfl, e⟩
theorem dt_old {L : List Lk} {i j : Nat} {T : List (List UInt8)} {x : Lk} {q : List UInt8} (h : Dt L i T) (hx : L[i]? = some x) (hq : T[j]? = some q) (e : q = x.tag) : Dt L (i + 1) T := by
  refine ⟨h.so, fun t => ?_, by have := h.le; omega⟩
  rw [tk_mem hx, ← h.mem]
  constructor
  · exact .inl
  · rintro (h1 | h1)
    · exact h1
    · rw [← h1, ← e]
      exact List.mem_of_getElem? hq
theorem dt_new {L : List Lk} {i k : Nat} {T : List (List UInt8)} {x : Lk} (h : Dt L i T) (hx : L[i]? = some x) (hlo : ∀ (j : Nat) q, j < k → T[j]? = some q → q < x.tag) (hhi : T.length ≤ k ∨ ∃ q, T[k]? = some q ∧ x.tag < q) : Dt L (i + 1) ((T.take k ++ [x.tag]) ++ T.drop k) := by
  have h1 : ∀ q ∈ T.take k, q < x.tag := fun q hq => by
    obtain ⟨j, hj, rfl⟩ := List.mem_iff_getElem.1 hq
    rw [List.length_take] at hj
    exact hlo j _ (by omega) (by rw [List.getElem_take]; exact List.getElem?_eq_getElem (by omega))
  have h2 : ∀ q ∈ T.drop k, x.tag < q := fun q hq => by
    rcases hhi with h3 | ⟨u, hu, hlt⟩
    · rw [List.drop_eq_nil_of_le h3] at hq
      cases hq
    · have hk := (List.getElem?_eq_some_iff.1 hu).1
      rw [List.drop_eq_getElem_cons hk, (List.getElem?_eq_some_iff.1 hu).2] at hq
      rcases List.mem_cons.1 hq with rfl | hq
      · exact hlt
      · obtain ⟨j, hj, rfl⟩ := List.mem_iff_getElem.1 hq
        rw [List.length_drop] at hj
        have h4 := List.pairwise_iff_getElem.1 h.so k (k + 1 + j) hk (by omega) (by omega)
        rw [(List.getElem?_eq_some_iff.1 hu).2] at h4
        rw [List.getElem_drop]
        exact List.lt_trans hlt h4
  refine ⟨?_, fun t => ?_, ?_⟩
  · have hs := h.so
    rw [← List.take_append_drop k T, List.pairwise_append] at hs
    rw [List.pairwise_append, List.pairwise_append]
    refine ⟨⟨hs.1, List.pairwise_singleton _ _, fun a ha b hb => ?_⟩, hs.2.1, fun a ha b hb => ?_⟩
    · rw [List.mem_singleton.1 hb]
      exact h1 a ha
    · rcases List.mem_append.1 ha with ha | ha
      · exact hs.2.2 a ha b hb
      · rw [List.mem_singleton.1 ha]
        exact h2 b hb
  · rw [tk_mem hx, ← h.mem]
    have e : t ∈ T ↔ t ∈ T.take k ∨ t ∈ T.drop k := by rw [← List.mem_append, List.take_append_drop]
    rw [e, List.mem_append, List.mem_append, List.mem_singleton]
    constructor
    · rintro ((h | h) | h)
      · exact .inl (.inl h)
      · exact .inr h.symm
      · exact .inl (.inr h)
    · rintro ((h | h) | h)
      · exact .inl (.inl h)
      · exact .inr h
      · exact .inl (.inr h.symm)
  · have := h.le
    simp only [List.length_append, List.length_take, List.length_drop, List.length_cons, List.length_nil]
    omega
theorem dt_end {S : Rp} {i : Nat} {T : List (List UInt8)} (h : Dt (lks S) i T) (hi : (lks S).length ≤ i) : Tg S T := ⟨h.so, fun t => by rw [h.mem, List.take_of_length_le hi]⟩
theorem not_lt_ne {a b : List UInt8} (h1 : ¬ a < b) (h2 : ¬ a = b) : b < a := Classical.byContradiction fun h3 => h2 (List.le_antisymm (List.not_lt.1 h3) (List.not_lt.1 h1))
end Go.Proofs.YtfoliffeieeihaaGreatDoor
