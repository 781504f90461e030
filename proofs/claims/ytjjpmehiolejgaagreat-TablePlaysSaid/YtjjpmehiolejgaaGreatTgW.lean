/-
  The document's lists and the table's entries, as plain functions. No program in sight.
-/
import Derived.Test.YtjjpmehiolejgaaGreatZ6
import Derived.Test.YtjjpmehiolejgaaGreatBundle28
namespace Go.Proofs.YtjjpmehiolejgaaGreat
variable {n : Nat} {S : Ts}
theorem all_at (W : Wf n S) {i : Nat} {e : Ety} (h : (allE S.E)[i]? = some e) : gget S.E e.d.2.1 = some e := by
  obtain ⟨k, _, hk⟩ := mem_allE.1 (List.mem_of_getElem? h)
  rw [(W.ent _ _ hk).2.1]
  exact hk
theorem fnd_hit (W : Wf n S) {i : Nat} {e : Ety} {d : Ky} (hg : goodD d) (h : (allE S.E)[i]? = some e) (he : e.d = d) : fndE S d = 0 ∧ fndX S d = e := by
  have h1 := all_at W h
  rw [he] at h1
  exact fndX_ok hg h1 he
theorem fnd_miss (W : Wf n S) {d : Ky} (hg : goodD d) (h : ((allE S.E).any fun e => decide (e.d = d)) = false) : fndE S d = 7 ∧ fndX S d = noE := fndX_no hg fun e he hd => by
  have := List.any_eq_false.1 h e (wf_all W he)
  simp only [hd, decide_true, not_true_eq_false] at this
theorem at_hit (W : Wf n S) {i : Nat} {e : Ety} {v : Int} (h : (allE S.E)[i]? = some e) (he : e.d.2.1 = v) : gget S.E v = some e := by
  have h1 := all_at W h
  rw [he] at h1
  exact h1
theorem at_miss (W : Wf n S) {v : Int} (h : ((allE S.E).any fun e => decide (e.d.2.1 = v)) = false) : gget S.E v = none := by
  cases hg : gget S.E v with
  | none => rfl
  | some e =>
    have := List.any_eq_false.1 h e (wf_all W hg)
    simp only [(W.ent _ _ hg).2.1, decide_true, not_true_eq_false] at this
theorem hasX_eq (E : Tm) (h : Int × Int) : hasX (allE E) h = decide (hasH E h) := by
  unfold hasX hasH
  cases h1 : (allE E).any fun e => decide (e.h = h) with
  | true =>
    obtain ⟨e, he, hh⟩ := List.any_eq_true.1 h1
    exact (decide_eq_true ⟨e, he, of_decide_eq_true hh⟩).symm
  | false =>
    refine (decide_eq_false ?_).symm
    rintro ⟨e, he, hh⟩
    exact absurd (decide_eq_true hh) (List.any_eq_false.1 h1 e he)
theorem hasP_eq (R : List Rs) (o : Ky) : hasP R o = decide (hasO R o) := by
  unfold hasP hasO
  cases h1 : R.any fun r => decide (r.out = o) with
  | true =>
    obtain ⟨e, he, hh⟩ := List.any_eq_true.1 h1
    exact (decide_eq_true ⟨e, he, of_decide_eq_true hh⟩).symm
  | false =>
    refine (decide_eq_false ?_).symm
    rintro ⟨e, he, hh⟩
    exact absurd (decide_eq_true hh) (List.any_eq_false.1 h1 e he)
/-- Entries whose slots are their keys. -/
def Kyd (E : Tm) : Prop := ∀ (k : Int) (e : Ety), gget E k = some e → e.d.2.1 = k
theorem some_lt {E : Tm} (hk : Kyd E) {k : Nat} : ∀ e ∈ someE E k, e.d.2.1 < (k : Int) := fun e he => by
  unfold someE at he
  obtain ⟨j, hj, h⟩ := List.mem_filterMap.1 he
  rw [hk _ _ h]
  have := List.mem_range.1 hj
  omega
theorem insX_cons (x : Ety) (X : List Ety) (j : Nat) (e : Ety) : insX (x :: X) j e = if x.d.2.1 < (j : Int) then x :: insX X j e else e :: x :: X := rfl
theorem ins_app {X Y : List Ety} {j : Nat} {e : Ety} (hX : ∀ x ∈ X, x.d.2.1 < (j : Int)) : insX (X ++ Y) j e = X ++ insX Y j e := by
  induction X with
  | nil => rfl
  | cons x X ih =>
    show insX (x :: (X ++ Y)) j e = _
    rw [insX_cons, if_pos (hX x List.mem_cons_self), ih fun y hy => hX y (List.mem_cons_of_mem _ hy)]
    rfl
theorem ins_hd {Y : List Ety} {j : Nat} {e : Ety} (hY : ∀ y ∈ Y, (j : Int) ≤ y.d.2.1) : insX Y j e = e :: Y := by
  cases Y with
  | nil => rfl
  | cons y Y =>
    rw [insX_cons, if_neg (by have := hY y List.mem_cons_self; omega)]
/-- What lies behind a slot. -/
def tailE (E : Tm) (j : Nat) : Nat → List Ety
  | 0 => []
  | m + 1 => match gget E ((j : Int)) with
    | some e => e :: tailE E (j + 1) m
    | none => tailE E (j + 1) m
theorem tailE_succ (E : Tm) (j m : Nat) : tailE E j (m + 1) = match gget E ((j : Int)) with
    | some e => e :: tailE E (j + 1) m
    | none => tailE E (j + 1) m := rfl
theorem some_tail (E : Tm) : ∀ (m j : Nat), someE E (j + m) = someE E j ++ tailE E j m
  | 0, j => by simp [tailE]
  | m + 1, j => by
    have ih := some_tail E m (j + 1)
    rw [show j + (m + 1) = j + 1 + m from by omega, ih, tailE_succ]
    cases hg : gget E (j : Int) with
    | none => rw [someE_no hg]
    | some e => rw [someE_go hg, List.append_assoc]; rfl
theorem tail_ge {E : Tm} (hk : Kyd E) : ∀ (m j : Nat), ∀ e ∈ tailE E j m, (j : Int) ≤ e.d.2.1
  | 0, j, e, h => by cases h
  | m + 1, j, e, h => by
    rw [tailE_succ] at h
    cases hg : gget E (j : Int) with
    | none =>
      rw [hg] at h
      have := tail_ge hk m (j + 1) e h
      omega
    | some x =>
      rw [hg] at h
      rcases List.mem_cons.1 h with rfl | h
      · rw [hk _ _ hg]
        exact Int.le_refl _
      · have := tail_ge hk m (j + 1) e h
        omega
theorem tail_set {E : Tm} {e : Ety} {i : Nat} : ∀ (m j : Nat), i < j → tailE (gset E (i : Int) e) j m = tailE E j m
  | 0, _, _ => rfl
  | m + 1, j, h => by
    rw [tailE_succ, tailE_succ, gget_set, if_neg (by omega), tail_set m (j + 1) (by omega)]
theorem tail_del {E : Tm} {i : Nat} : ∀ (m j : Nat), i < j → tailE (gdel E (i : Int)) j m = tailE E j m
  | 0, _, _ => rfl
  | m + 1, j, h => by
    rw [tailE_succ, tailE_succ, gget_del (by omega), tail_del m (j + 1) (by omega)]
theorem some_cong {E E2 : Tm} : ∀ (k : Nat), (∀ j : Nat, j < k → gget E2 (j : Int) = gget E (j : Int)) → someE E2 k = someE E k
  | 0, _ => rfl
  | k + 1, h => by
    have ih := some_cong k fun j hj => h j (by omega)
    have h1 := h k (by omega)
    cases hg : gget E (k : Int) with
    | none => rw [someE_no hg, someE_no (h1.trans hg), ih]
    | some e => rw [someE_go hg, someE_go (h1.trans hg), ih]
theorem some_set {E : Tm} {e : Ety} {i k : Nat} (h : k ≤ i) : someE (gset E (i : Int) e) k = someE E k := some_cong k fun j hj => by rw [gget_set, if_neg (by omega)]
theorem some_del {E : Tm} {i k : Nat} (h : k ≤ i) : someE (gdel E (i : Int)) k = someE E k := some_cong k fun j hj => gget_del (by omega)
theorem all_split (E : Tm) {j : Nat} (h : j < 256) : allE E = someE E j ++ tailE E j (256 - j) := by
  have := some_tail E (256 - j) j
  rw [show j + (256 - j) = 256 from by omega] at this
  exact this
theorem tail_one {E : Tm} {j m : Nat} (h : 0 < m) : tailE E j m = (match gget E (j : Int) with | some e => [e] | none => []) ++ tailE E (j + 1) (m - 1) := by
  cases m with
  | zero => omega
  | succ m =>
    rw [tailE_succ]
    cases gget E (j : Int) <;> rfl
/-- A new entry. -/
theorem ins_all {E : Tm} (hk : Kyd E) {j : Nat} {e : Ety} (hj : j < 256) (hn : gget E (j : Int) = none) : insX (allE E) j e = allE (gset E (j : Int) e) := by
  rw [all_split E hj, ins_app (some_lt hk), ins_hd (tail_ge hk _ _), all_split (gset E (j : Int) e) hj, some_set (Nat.le_refl j), tail_one (E := E) (by omega), hn, tail_one (E := gset E (j : Int) e) (by omega), gget_set, if_pos rfl, tail_set _ _ (by omega)]
  rfl
/-- An entry less. -/
theorem del_all {E : Tm} (hk : Kyd E) (hn : KN E) {j i : Nat} {e : Ety} (hj : j < 256) (hg : gget E (j : Int) = some e) (hi : (allE E)[i]? = some e) : (allE E).take i ++ (allE E).drop (i + 1) = allE (gdel E (j : Int)) := by
  have hL : ∀ x ∈ someE E j, x.d.2.1 < (j : Int) := some_lt hk
  have hT := tail_ge hk (256 - j - 1) (j + 1)
  have he := hk _ _ hg
  have h1 : allE E = someE E j ++ (e :: tailE E (j + 1) (256 - j - 1)) := by
    rw [all_split E hj, tail_one (E := E) (by omega), hg]
    rfl
  have hil : i = (someE E j).length := by
    rw [h1] at hi
    rcases Nat.lt_trichotomy i (someE E j).length with h2 | h2 | h2
    · rw [List.getElem?_append_left h2] at hi
      have := hL e (List.mem_of_getElem? hi)
      omega
    · exact h2
    · rw [List.getElem?_append_right (by omega)] at hi
      obtain ⟨q, hq⟩ : ∃ q, i - (someE E j).length = q + 1 := ⟨i - (someE E j).length - 1, by omega⟩
      rw [hq, List.getElem?_cons_succ] at hi
      have := hT e (List.mem_of_getElem? hi)
      omega
  have h2 : allE (gdel E (j : Int)) = someE E j ++ tailE E (j + 1) (256 - j - 1) := by
    rw [all_split (gdel E (j : Int)) hj, some_del (Nat.le_refl j), tail_one (E := gdel E (j : Int)) (by omega), gget_del_self hn, tail_del _ _ (by omega)]
    rfl
  rw [h2, h1, hil, List.take_left, show (someE E j).length + 1 = (someE E j).length + 1 from rfl, List.drop_append, List.drop_eq_nil_of_le (by omega), List.nil_append, show (someE E j).length + 1 - (someE E j).length = 1 from by omega]
  rfl
theorem wf_kyd (W : Wf n S) : Kyd S.E := fun k e h => (W.ent k e h).2.1
end Go.Proofs.YtjjpmehiolejgaaGreat
