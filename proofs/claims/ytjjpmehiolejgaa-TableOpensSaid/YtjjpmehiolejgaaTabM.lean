/-
  The entries of a table of resources, as plain functions. No program in sight.
-/
import Derived.Test.YtjjpmehiolejgaaTabR
import Derived.Test.YtjjpmehiolejgaaMpg
import Derived.Test.YtjjpmehiolejgaaRf2
import Derived.Test.YtjjpmehiolejgaaFdsP
namespace Go.Proofs.Ytjjpmehiolejgaa
structure Ety where
  d : Ky
  num : Int
  h : Int × Int
def vE (e : Ety) : Value := .agg #[.int .i64 e.d.1, .int .i64 e.d.2.1, .int .u32 e.d.2.2, .int .i64 e.num, .int .i64 e.h.1, .int .u32 e.h.2]
abbrev Tm := List (Int × Ety)
def KN (E : Tm) : Prop := (E.map (·.1)).Nodup
/-- The same entries, in whatever order. -/
def Meq (E0 E : Tm) : Prop := KN E0 ∧ KN E ∧ ∀ k : Int, gget E0 k = gget E k
theorem gget_none {E : Tm} {k : Int} : gget E k = none ↔ k ∉ E.map (·.1) := by
  induction E with
  | nil => simp [gget]
  | cons q E ih =>
    obtain ⟨a, v⟩ := q
    simp only [gget, List.map_cons, List.mem_cons, not_or]
    split
    · rename_i h
      subst h
      simp
    · rename_i h
      rw [ih]
      exact ⟨fun h2 => ⟨h, h2⟩, fun h2 => h2.2⟩
theorem keys_set (E : Tm) (k : Int) (v : Ety) : ∀ a, a ∈ (gset E k v).map (·.1) ↔ a = k ∨ a ∈ E.map (·.1) := by
  induction E with
  | nil => intro a; simp [gset]
  | cons q E ih =>
    intro a
    obtain ⟨b, u⟩ := q
    simp only [gset]
    split
    · rename_i h
      subst h
      simp only [List.map_cons, List.mem_cons]
      constructor
      · rintro (h | h)
        · exact .inl h
        · exact .inr (.inr h)
      · rintro (h | h | h)
        · exact .inl h
        · exact .inl h
        · exact .inr h
    · simp only [List.map_cons, List.mem_cons, ih a]
      constructor
      · rintro (h | h | h)
        · exact .inr (.inl h)
        · exact .inl h
        · exact .inr (.inr h)
      · rintro (h | h | h)
        · exact .inr (.inl h)
        · exact .inl h
        · exact .inr (.inr h)
theorem kn_set {E : Tm} {k : Int} {v : Ety} (h : KN E) : KN (gset E k v) := by
  induction E with
  | nil => exact List.nodup_cons.2 ⟨by simp, List.nodup_nil⟩
  | cons q E ih =>
    obtain ⟨b, u⟩ := q
    have h' : (b :: E.map (·.1)).Nodup := h
    obtain ⟨h1, h2⟩ := List.nodup_cons.1 h'
    unfold KN
    simp only [gset]
    split
    · exact h
    · rename_i hk
      refine List.nodup_cons.2 ⟨fun hm => ?_, ih h2⟩
      rcases (keys_set E k v b).1 hm with h3 | h3
      · exact hk h3.symm
      · exact h1 h3
theorem del_sub (E : Tm) (k : Int) : ((gdel E k).map (·.1)).Sublist (E.map (·.1)) := by
  induction E with
  | nil => exact List.Sublist.refl _
  | cons q E ih =>
    obtain ⟨b, u⟩ := q
    simp only [gdel]
    split
    · exact List.sublist_cons_self _ _
    · exact List.Sublist.cons_cons _ ih
theorem kn_del {E : Tm} {k : Int} (h : KN E) : KN (gdel E k) := List.Nodup.sublist (del_sub E k) h
theorem gget_del_self {E : Tm} {k : Int} (h : KN E) : gget (gdel E k) k = none := by
  induction E with
  | nil => rfl
  | cons q E ih =>
    obtain ⟨b, u⟩ := q
    have h' : (b :: E.map (·.1)).Nodup := h
    obtain ⟨h1, h2⟩ := List.nodup_cons.1 h'
    simp only [gdel]
    split
    · rename_i hk
      subst hk
      exact gget_none.2 h1
    · rename_i hk
      simp only [gget]
      rw [if_neg hk]
      exact ih h2
theorem meq_refl {E : Tm} (h : KN E) : Meq E E := ⟨h, h, fun _ => rfl⟩
theorem meq_set {E0 E : Tm} (h : Meq E0 E) (k : Int) (v : Ety) : Meq (gset E0 k v) (gset E k v) := ⟨kn_set h.1, kn_set h.2.1, fun a => by rw [gget_set, gget_set, h.2.2]⟩
theorem meq_del {E0 E : Tm} (h : Meq E0 E) (k : Int) : Meq (gdel E0 k) (gdel E k) := ⟨kn_del h.1, kn_del h.2.1, fun a => by
  by_cases ha : a = k
  · subst ha
    rw [gget_del_self h.1, gget_del_self h.2.1]
  · rw [gget_del ha, gget_del ha, h.2.2]⟩
/-- The entries by their slots. -/
def someE (E : Tm) (k : Nat) : List Ety := (List.range k).filterMap fun j : Nat => gget E (j : Int)
def allE (E : Tm) : List Ety := someE E 256
theorem someE_go {E : Tm} {k : Nat} {e : Ety} (h : gget E (k : Int) = some e) : someE E (k + 1) = someE E k ++ [e] := by
  unfold someE
  rw [List.range_succ, List.filterMap_append]
  simp [h]
theorem someE_no {E : Tm} {k : Nat} (h : gget E (k : Int) = none) : someE E (k + 1) = someE E k := by
  unfold someE
  rw [List.range_succ, List.filterMap_append]
  simp [h]
theorem someE_pre {E : Tm} {k m : Nat} (h : k ≤ m) : ∃ T, someE E m = someE E k ++ T := by
  obtain ⟨d, rfl⟩ : ∃ d, m = k + d := ⟨m - k, by omega⟩
  induction d with
  | zero => exact ⟨[], by simp⟩
  | succ d ih =>
    obtain ⟨T, hT⟩ := ih (by omega)
    cases hg : gget E ((k + d : Nat) : Int) with
    | none => exact ⟨T, by rw [← Nat.add_assoc, someE_no hg, hT]⟩
    | some e => exact ⟨T ++ [e], by rw [← Nat.add_assoc, someE_go hg, hT, List.append_assoc]⟩
theorem allE_at {E : Tm} {k : Nat} {e : Ety} (h : gget E (k : Int) = some e) (hk : k < 256) : (allE E)[(someE E k).length]? = some e := by
  obtain ⟨T, hT⟩ := someE_pre (E := E) (k := k + 1) (m := 256) hk
  unfold allE
  rw [hT, someE_go h, List.append_assoc, List.getElem?_append_right (Nat.le_refl _), Nat.sub_self]
  rfl
theorem cntE_go {E : Tm} {k : Nat} {e : Ety} (h : gget E (k : Int) = some e) : (someE E (k + 1)).length = (someE E k).length + 1 := by rw [someE_go h, List.length_append]; rfl
theorem cntE_no {E : Tm} {k : Nat} (h : gget E (k : Int) = none) : (someE E (k + 1)).length = (someE E k).length := by rw [someE_no h]
theorem cntE_le (E : Tm) : ∀ k, (someE E k).length ≤ k
  | 0 => Nat.le_refl _
  | k + 1 => by
    have := cntE_le E k
    cases hg : gget E (k : Int) with
    | none => rw [cntE_no hg]; omega
    | some e => rw [cntE_go hg]; omega
def noE : Ety := ⟨(0, 0, 0), 0, (0, 0)⟩
theorem getD_mem {α : Type} {L : List α} {i : Nat} {d : α} (h : i < L.length) : L.getD i d ∈ L := by
  rw [getD_some (List.getElem?_eq_getElem h)]
  exact List.getElem_mem h
theorem getD_all {α : Type} {L : List α} {d : α} {P : α → Prop} (h : ∀ j : Nat, j < L.length → P (L.getD j d)) : ∀ e ∈ L, P e := fun e he => by
  obtain ⟨j, hj⟩ := List.getElem?_of_mem he
  have := h j (List.getElem?_eq_some_iff.1 hj).1
  rw [getD_some hj] at this
  exact this
theorem upto_go {P : Nat → Prop} {i : Nat} (h : ∀ j : Nat, j < i → P j) (hi : P i) : ∀ j : Nat, j < i + 1 → P j := fun j hj => by
  rcases Nat.lt_succ_iff_lt_or_eq.1 hj with h1 | rfl
  · exact h j h1
  · exact hi
theorem ne_pair {p : Int × Int} {a b : Int} (h : ¬ (p.1 = a ∧ p.2 = b)) : p ≠ (a, b) := by
  rintro rfl
  exact h ⟨rfl, rfl⟩
/-- The descriptors of a resource among the first entries. -/
def descT (E : Tm) (v : Int) (i : Nat) : List Ky := ((allE E).take i).filterMap fun e => if e.num = v then some e.d else none
def descs (E : Tm) (v : Int) : List Ky := (allE E).filterMap fun e => if e.num = v then some e.d else none
theorem descT_all (E : Tm) (v : Int) : descT E v (allE E).length = descs E v := by unfold descT descs; rw [List.take_length]
theorem descT_go {E : Tm} {v : Int} {i : Nat} (hi : i < (allE E).length) (h : ((allE E).getD i noE).num = v) : descT E v i ++ [((allE E).getD i noE).d] = descT E v (i + 1) := by
  unfold descT
  rw [← take_getD (d := noE) hi, List.filterMap_append]
  simp only [List.filterMap_cons, List.filterMap_nil, if_pos h]
theorem descT_no {E : Tm} {v : Int} {i : Nat} (hi : i < (allE E).length) (h : ((allE E).getD i noE).num ≠ v) : descT E v i = descT E v (i + 1) := by
  unfold descT
  rw [← take_getD (d := noE) hi, List.filterMap_append]
  simp only [List.filterMap_cons, List.filterMap_nil, if_neg h, List.append_nil]
end Go.Proofs.Ytjjpmehiolejgaa
