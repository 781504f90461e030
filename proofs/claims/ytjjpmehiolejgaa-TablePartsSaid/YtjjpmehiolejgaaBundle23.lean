/-
  The entries of a table of resources, as plain functions. No program in sight.
-/
import Derived.Test.YtjjpmehiolejgaaBundle21
import Derived.Test.YtjjpmehiolejgaaMpg
import Derived.Test.YtjjpmehiolejgaaRf2
import Derived.Test.YtjjpmehiolejgaaFdsP
namespace Go.Proofs.Ytjjpmehiolejgaa
structure Ety where
  d : Ky
  num : Int
  h : Int × Int
def vE (e : Ety) : Value := .agg #[.int .i64 e.d.1, .int .i64 e.d.2.1, .int .u32 e.d.2.2, .int .i64 e.num, .int .i64 e.h.1, .int .u32 e.h.2]
abbrev Tm := List (Int × Ety)
def KN (E : Tm) : Prop := (E.map (·.1)).Nodup
/-- The same entries, in whatever order. -/
def Meq (E0 E : Tm) : Prop := KN E0 ∧ KN E ∧ ∀ k : Int, gget E0 k = gget E k
theorem gget_none {E : Tm} {k : Int} : gget E k = none ↔ k ∉ E.map (·.1) := by
  induction E with
  | nil => simp [gget]
  | cons q E ih =>
    obtain ⟨a, v⟩ := q
    simp only [gget, List.map_cons, List.mem_cons, not_or]
    split
    · rename_i h
      subst h
      simp
    · rename_i h
      rw [ih]
      exact ⟨fun h2 => ⟨h, h2⟩, fun h2 => h2.2⟩
theorem keys_set (E : Tm) (k : Int) (v : Ety) : ∀ a, a ∈ (gset E k v).map (·.1) ↔ a = k ∨ a ∈ E.map (·.1) := by
  induction E with
  | nil => intro a; simp [gset]
  | cons q E ih =>
    intro a
    obtain ⟨b, u⟩ := q
    simp only [gset]
    split
    · rename_i h
      subst h
      simp only [List.map_cons, List.mem_cons]
      constructor
      · rintro (h | h)
        · exact .inl h
        · exact .inr (.inr h)
      · rintro (h | h | h)
        · exact .inl h
        · exact .inl h
        · exact .inr h
    · simp only [List.map_cons, List.mem_cons, ih a]
      constructor
      · rintro (h | h | h)
        · exact .inr (.inl h)
        · exact .inl h
        · exact .inr (.inr h)
      · rintro (h | h | h)
        · exact .inr (.inl h)
        · exact .inl h
        · exact .inr (.inr h)
theorem kn_set {E : Tm} {k : Int} {v : Ety} (h : KN E) : KN (gset E k v) := by
  induction E with
  | nil => exact List.nodup_cons.2 ⟨by simp, List.nodup_nil⟩
  | cons q E ih =>
    obtain ⟨b, u⟩ := q
    have h' : (b :: E.map (·.1)).Nodup := h
    obtain ⟨h1, h2⟩ := List.nodup_cons.1 h'
    unfold KN
    simp only [gset]
    split
    · exact h
    · rename_i hk
      refine List.nodup_cons.2 ⟨fun hm => ?_, ih h2⟩
      rcases (keys_set E k v b).1 hm with h3 | h3
      · exact hk h3.symm
      · exact h1 h3
theorem del_sub (E : Tm) (k : Int) : ((gdel E k).map (·.1)).Sublist (E.map (·.1)) := by
  induction E with
  | nil => exact List.Sublist.refl _
  | cons q E ih =>
    obtain ⟨b, u⟩ := q
    simp only [gdel]
    split
    · exact List.sublist_cons_self _ _
    · exact List.Sublist.cons_cons _ ih
theorem kn_del {E : Tm} {k : Int} (h : KN E) : KN (gdel E k) := List.Nodup.sublist (del_sub E k) h
theorem gget_del_self {E : Tm} {k : Int} (h : KN E) : gget (gdel E k) k = none := by
  induction E with
  | nil => rfl
  | cons q E ih =>
    obtain ⟨b, u⟩ := q
    have h' : (b :: E.map (·.1)).Nodup := h
    obtain ⟨h1, h2⟩ := List.nodup_cons.1 h'
    simp only [gdel]
    split
    · rename_i hk
      subst hk
      exact gget_none.2 h1
    · rename_i hk
      simp only [gget]
      rw [if_neg hk]
      exact ih h2
theorem meq_refl {E : Tm} (h : KN E) : Meq E E := ⟨h, h, fun _ => rfl⟩
theorem meq_set {E0 E : Tm} (h : Meq E0 E) (k : Int) (v : Ety) : Meq (gset E0 k v) (gset E k v) := ⟨kn_set h.1, kn_set h.2.1, fun a => by rw [gget_set, gget_set, h.2.2]⟩
theorem meq_del {E0 E : Tm} (h : Meq E0 E) (k : Int) : Meq (gdel E0 k) (gdel E k) := ⟨kn_del h.1, kn_del h.2.1, fun a => by
  by_cases ha : a = k
  · subst ha
    rw [gget_del_self h.1, gget_del_self h.2.1]
  · rw [gget_del ha, gget_del ha, h.2.2]⟩
/-- The entries by their slots. -/
def someE (E : Tm) (k : Nat) : List Ety := (List.range k).filterMap fun j : Nat => gget E (j : Int)
def allE (E : Tm) : List Ety := someE E 256
theorem someE_go {E : Tm} {k : Nat} {e : Ety} (h : gget E (k : Int) = some e) : someE E (k + 1) = someE E k ++ [e] := by
  unfold someE
  rw [List.range_succ, List.filterMap_append]
  simp [h]
theorem someE_no {E : Tm} {k : Nat} (h : gget E (k : Int) = none) : someE E (k + 1) = someE E k := by
  unfold someE
  rw [List.range_succ, List.filterMap_append]
  simp [h]
theorem someE_pre {E : Tm} {k m : Nat} (h : k ≤ m) : ∃ T, someE E m = someE E k ++ T := by
  obtain ⟨d, rfl⟩ : ∃ d, m = k + d := ⟨m - k, by omega⟩
  induction d with
  | zero => exact ⟨[], by simp⟩
  | succ d ih =>
    obtain ⟨T, hT⟩ := ih (by omega)
    cases hg : gget E ((k + d : Nat) : Int) with
    | none => exact ⟨T, by rw [← Nat.add_assoc, someE_no hg, hT]⟩
    | some e => exact ⟨T ++ [e], by rw [← Nat.add_assoc, someE_go hg, hT, List.append_assoc]⟩
theorem allE_at {E : Tm} {k : Nat} {e : Ety} (h : gget E (k : Int) = some e) (hk : k < 256) : (allE E)[(someE E k).length]? = some e := by
  obtain ⟨T, hT⟩ := someE_pre (E := E) (k := k + 1) (m := 256) hk
  unfold allE
  rw [hT, someE_go h, List.append_assoc, List.getElem?_append_right (Nat.le_refl _), Nat.sub_self]
  rfl
theorem cntE_go {E : Tm} {k : Nat} {e : Ety} (h : gget E (k : Int) = some e) : (someE E (k + 1)).length = (someE E k).length + 1 := by rw [someE_go h, List.length_append]; rfl
theorem cntE_no {E : Tm} {k : Nat} (h : gget E (k : Int) = none) : (someE E (k + 1)).length = (someE E k).length := by rw [someE_no h]
theorem cntE_le (E : Tm) : ∀ k, (someE E k).length ≤ k
  | 0 => Nat.le_refl _
  | k + 1 => by
    have := cntE_le E k
    cases hg : gget E (k : Int) with
    | none => rw [cntE_no hg]; omega
    | some e => rw [cntE_go hg]; omega
def noE : Ety := ⟨(0, 0, 0), 0, (0, 0)⟩
theorem getD_mem {α : Type} {L : List α} {i : Nat} {d : α} (h : i < L.length) : L.getD i d ∈ L := by
  rw [getD_some (List.getElem?_eq_getElem h)]
  exact List.getElem_mem h
theorem getD_all {α : Type} {L : List α} {d : α} {P : α → Prop} (h : ∀ j : Nat, j < L.length → P (L.getD j d)) : ∀ e ∈ L, P e := fun e he => by
  obtain ⟨j, hj⟩ := List.getElem?_of_mem he
  have := h j (List.getElem?_eq_some_iff.1 hj).1
  rw [getD_some hj] at this
  exact this
theorem upto_go {P : Nat → Prop} {i : Nat} (h : ∀ j : Nat, j < i → P j) (hi : P i) : ∀ j : Nat, j < i + 1 → P j := fun j hj => by
  rcases Nat.lt_succ_iff_lt_or_eq.1 hj with h1 | rfl
  · exact h j h1
  · exact hi
theorem ne_pair {p : Int × Int} {a b : Int} (h : ¬ (p.1 = a ∧ p.2 = b)) : p ≠ (a, b) := by
  rintro rfl
  exact h ⟨rfl, rfl⟩
/-- The descriptors of a resource among the first entries. -/
def descT (E : Tm) (v : Int) (i : Nat) : List Ky := ((allE E).take i).filterMap fun e => if e.num = v then some e.d else none
def descs (E : Tm) (v : Int) : List Ky := (allE E).filterMap fun e => if e.num = v then some e.d else none
theorem descT_all (E : Tm) (v : Int) : descT E v (allE E).length = descs E v := by unfold descT descs; rw [List.take_length]
theorem descT_go {E : Tm} {v : Int} {i : Nat} (hi : i < (allE E).length) (h : ((allE E).getD i noE).num = v) : descT E v i ++ [((allE E).getD i noE).d] = descT E v (i + 1) := by
  unfold descT
  rw [← take_getD (d := noE) hi, List.filterMap_append]
  simp only [List.filterMap_cons, List.filterMap_nil, if_pos h]
theorem descT_no {E : Tm} {v : Int} {i : Nat} (hi : i < (allE E).length) (h : ((allE E).getD i noE).num ≠ v) : descT E v i = descT E v (i + 1) := by
  unfold descT
  rw [← take_getD (d := noE) hi, List.filterMap_append]
  simp only [List.filterMap_cons, List.filterMap_nil, if_neg h, List.append_nil]
end Go.Proofs.Ytjjpmehiolejgaa

/- Walks, printed by my generator gen9.py. -/
namespace Go.Proofs.Ytjjpmehiolejgaa
/-- A table of resources. -/
def Tab (b n : Nat) (A : List Sl2) (E : Tm) (R : List Rs) : Assn := fun h => ∃ x : Nat × Nat × Option Addr × Nat × Tm, (Meq x.2.2.2.2 E ∧ R.length ≤ 2000) ∧
  star [Cl b [.pointer (some ⟨x.1, 0, none⟩), .map (some x.2.1), .slice x.2.2.1 R.length x.2.2.2.1] 76, Tb x.1 n A, Gp kI vE x.2.1 x.2.2.2.2, Sl 42 8 x.2.2.1 R.length x.2.2.2.1 (fl eRs R)] h
section
variable {g w : World} {L : List Assn} {b n : Nat} {A : List Sl2} {E : Tm} {R : List Rs}
theorem tab_open (h : sat g w (Tab b n A E R :: L)) : ∃ s m p c E0, (Meq E0 E ∧ R.length ≤ 2000) ∧ sat g w (Cl b [.pointer (some ⟨s, 0, none⟩), .map (some m), .slice p R.length c] 76 :: Tb s n A :: Gp kI vE m E0 :: Sl 42 8 p R.length c (fl eRs R) :: L) := by
  obtain ⟨⟨s, m, p, c, E0⟩, h1, h2⟩ := sat_open (X := Nat × Nat × Option Addr × Nat × Tm) (p := fun x => Meq x.2.2.2.2 E ∧ R.length ≤ 2000) (B := fun x => star [Cl b [.pointer (some ⟨x.1, 0, none⟩), .map (some x.2.1), .slice x.2.2.1 R.length x.2.2.2.1] 76, Tb x.1 n A, Gp kI vE x.2.1 x.2.2.2.2, Sl 42 8 x.2.2.1 R.length x.2.2.2.1 (fl eRs R)]) h (fun k hk => hk)
  exact ⟨s, m, p, c, E0, h1, sat_unstar h2⟩
theorem tab_close {s m c k : Nat} {p : Option Addr} {E0 : Tm} (h1 : Meq E0 E) (h2 : R.length ≤ 2000) (hk : k = R.length) (h : sat g w (Cl b [.pointer (some ⟨s, 0, none⟩), .map (some m), .slice p k c] 76 :: Tb s n A :: Gp kI vE m E0 :: Sl 42 8 p k c (fl eRs R) :: L)) : sat g w (Tab b n A E R :: L) := by
  subst hk
  exact sat_imp (sat_star (K := [Cl b [.pointer (some ⟨s, 0, none⟩), .map (some m), .slice p R.length c] 76, Tb s n A, Gp kI vE m E0, Sl 42 8 p R.length c (fl eRs R)]) h) fun k hk => ⟨(s, m, p, c, E0), ⟨h1, h2⟩, hk⟩
end
/-- A table of which one knows where the list of its resources lies. -/
def TabX (b n : Nat) (A : List Sl2) (E : Tm) (R : List Rs) (p : Option Addr) (k c : Nat) : Assn := fun h => ∃ x : Nat × Nat × Tm, (Meq x.2.2 E ∧ R.length ≤ 2000) ∧
  star [Cl b [.pointer (some ⟨x.1, 0, none⟩), .map (some x.2.1), .slice p k c] 76, Tb x.1 n A, Gp kI vE x.2.1 x.2.2, Sl 42 8 p k c (fl eRs R)] h
section
variable {g w : World} {L : List Assn} {b n k : Nat} {A : List Sl2} {E : Tm} {R : List Rs} {p : Option Addr} {c : Nat}
theorem tabx_open (h : sat g w (TabX b n A E R p k c :: L)) : ∃ s m E0, (Meq E0 E ∧ R.length ≤ 2000) ∧ sat g w (Cl b [.pointer (some ⟨s, 0, none⟩), .map (some m), .slice p k c] 76 :: Tb s n A :: Gp kI vE m E0 :: Sl 42 8 p k c (fl eRs R) :: L) := by
  obtain ⟨⟨s, m, E0⟩, h1, h2⟩ := sat_open (X := Nat × Nat × Tm) (p := fun x => Meq x.2.2 E ∧ R.length ≤ 2000) (B := fun x => star [Cl b [.pointer (some ⟨x.1, 0, none⟩), .map (some x.2.1), .slice p k c] 76, Tb x.1 n A, Gp kI vE x.2.1 x.2.2, Sl 42 8 p k c (fl eRs R)]) h (fun k hk => hk)
  exact ⟨s, m, E0, h1, sat_unstar h2⟩
theorem tabx_close {s m : Nat} {E0 : Tm} (h1 : Meq E0 E) (h2 : R.length ≤ 2000) (h : sat g w (Cl b [.pointer (some ⟨s, 0, none⟩), .map (some m), .slice p k c] 76 :: Tb s n A :: Gp kI vE m E0 :: Sl 42 8 p k c (fl eRs R) :: L)) : sat g w (TabX b n A E R p k c :: L) :=
  sat_imp (sat_star (K := [Cl b [.pointer (some ⟨s, 0, none⟩), .map (some m), .slice p k c] 76, Tb s n A, Gp kI vE m E0, Sl 42 8 p k c (fl eRs R)]) h) fun k hk => ⟨(s, m, E0), ⟨h1, h2⟩, hk⟩
end
theorem kyI : KyOk Try.prog 3 kI := kyInt Try.underlying3
set_option maxHeartbeats 4000000 in
theorem tvalid_ht (b n : Nat) (A : List Sl2) (E : Tm) (RL : List Rs) : HT Try.prog 36 [Value.pointer (some ⟨b, 0, none⟩)] [Tab b n A E RL] (fun v K => v = Value.bool true ∧ K = [Tab b n A E RL]) := by
 refine hi_in 12 ([(0, pV b)] : Fr) Try.func36 (by kernel_rfl) Try.ntmps36 rfl rfl ?_
 intro g w0 R h0
 refine ySq ?_
 refine yPl [0] ?_
 refine yB0 [] [0] [(2, .bool false)] (.mk ?_)
 refine yK [(0, pV b)] fun lr1 => ?_
 refine ySq ?_
 refine yPl [0, 1, 2, 3, 4, 5, 6, 7, 8, 9] ?_
 obtain ⟨s2, m3, p4, c5, E6, hM7, h8⟩ := tab_open h0
 have hRl_ := hM7.2
 refine yBb [] [(2, .bool true), (11, .bool true), (10, .bool true), (9, .map (some m3)), (8, .pointer (some ⟨b, 1, none⟩)), (7, pV b), (6, pV b), (5, .bool true), (4, .bool true), (3, pV b)] [e0 0, e0 1, e0 2, e0 3, e0 4, e0 5, e2 6 [.map (some m3)], e0 7, e0 8, e0 9] [(6, ⟨b, 1, none⟩, .map (some m3))] [] trivial (kC (sat_cell h8 0 rfl rfl) nC) (.mk ?_)
 refine yK [(2, .bool true)] fun lr9 => ?_
 refine yRt ?_
 repeat (first | simp only [Exit.inBlock] | simp only [Exit.then])
 have h10 : sat g w0 [Tab b n A E RL, R] := tab_close hM7.1 (by omega) (by first | rfl | omega) h8
 refine hi_out [] (.bool true) [] (by kernel_rfl) (by intro q hq; cases hq) ?_
 exact ⟨.bool true, [Tab b n A E RL], rfl, ⟨rfl, rfl⟩, h10⟩

set_option maxHeartbeats 4000000 in
theorem obj_t (i gn : Int) (h : 0 ≤ i ∧ i ≤ 255 ∧ 1 ≤ gn) : HT Try.prog 38 [Value.agg #[Value.int IntKind.i64 i, Value.int IntKind.u32 gn]] [] (fun v K => v = Value.bool true ∧ K = []) := by
 refine hi_in 16 ([(0, .agg #[iV i, uV gn])] : Fr) Try.func38 (by kernel_rfl) Try.ntmps38 rfl rfl ?_
 intro g w0 R h0
 refine ySq ?_
 refine yPl [0, 1] ?_
 refine yA ?_
 refine yNp 1 34 [iV i, uV gn] h0 fun r1 w2 h3 => ?_
 refine yB0 [] [1] [(2, .bool false)] (.mk ?_)
 refine yK [(1, pV r1)] fun lr4 => ?_
 refine ySq ?_
 refine yPl [0, 1, 2, 3, 4, 5, 6, 7, 8, 9, 10, 11, 12, 13] ?_
 refine yBb [] [(2, .bool true), (15, .bool true), (14, .bool true), (13, uV gn), (12, .pointer (some ⟨r1, 1, none⟩)), (11, .bool true), (10, .bool true), (9, .bool true), (8, iV i), (7, pV r1), (6, .bool true), (5, .bool true), (4, iV i), (3, pV r1)] [e0 0, e2 1 [iV i], e1 2 (.bool true), e0 3, e0 4, e2 5 [iV i], e1 6 (.bool true), e0 7, e0 8, e0 9, e2 10 [uV gn], e1 11 (.bool true), e0 12, e0 13] [(10, ⟨r1, 1, none⟩, uV gn), (5, ⟨r1, 0, none⟩, iV i), (1, ⟨r1, 0, none⟩, iV i)] [(.bool (decide (i ≥ 0)), .bool true), (.bool (decide (i < 256)), .bool true), (.bool (decide (gn > 0)), .bool true)] ⟨(ov_t (by omega)), (ov_t (by omega)), (ov_t (by omega)), trivial⟩ (kC (sat_cell h3 0 rfl rfl) (kC (sat_cell h3 0 rfl rfl) (kC (sat_cell h3 0 rfl rfl) nC))) (.mk ?_)
 refine yK [(2, .bool true)] fun lr5 => ?_
 refine yRt ?_
 repeat (first | simp only [Exit.inBlock] | simp only [Exit.then])
 have h6 := tk1 (sf1 h3)
 refine hi_out [] (.bool true) [] (by kernel_rfl) (by intro q hq; cases hq) ?_
 exact ⟨.bool true, [], rfl, ⟨rfl, rfl⟩, h6⟩

set_option maxHeartbeats 4000000 in
theorem obj_f (i gn : Int) (h : i < 0 ∨ 255 < i ∨ gn ≤ 0) : HT Try.prog 38 [Value.agg #[Value.int IntKind.i64 i, Value.int IntKind.u32 gn]] [] (fun v K => v = Value.bool false ∧ K = []) := by
 refine hi_in 16 ([(0, .agg #[iV i, uV gn])] : Fr) Try.func38 (by kernel_rfl) Try.ntmps38 rfl rfl ?_
 intro g w0 R h0
 refine ySq ?_
 refine yPl [0, 1] ?_
 refine yA ?_
 refine yNp 1 34 [iV i, uV gn] h0 fun r1 w2 h3 => ?_
 refine yB0 [] [1] [(2, .bool false)] (.mk ?_)
 refine yK [(1, pV r1)] fun lr4 => ?_
 refine ySq ?_
 refine yPl [0, 1, 2, 3, 4, 5, 6, 7, 8, 9, 10, 11, 12, 13] ?_
 refine yBb [2, 3, 4, 5, 6, 7, 8, 9, 10, 11, 12, 13] [(4, iV i), (3, pV r1)] [e0 0, e2 1 [iV i]] [(1, ⟨r1, 0, none⟩, iV i)] [] trivial (kC (sat_cell h3 0 rfl rfl) nC) ?_
 by_cases c5 : i ≥ 0
 ·
  refine yBb [6, 7, 8, 9, 10, 11, 12, 13] [(8, iV i), (7, pV r1), (6, .bool true), (5, .bool true)] [e1 2 (.bool true), e0 3, e0 4, e2 5 [iV i]] [(5, ⟨r1, 0, none⟩, iV i)] [(.bool (decide (i ≥ 0)), .bool true)] ⟨(ov_t (by omega)), trivial⟩ (kC (sat_cell h3 0 rfl rfl) nC) ?_
  by_cases c6 : i < 256
  ·
   refine yBb [] [(2, .bool false), (15, .bool false), (14, .bool false), (13, uV gn), (12, .pointer (some ⟨r1, 1, none⟩)), (11, .bool true), (10, .bool true), (9, .bool true)] [e1 6 (.bool true), e0 7, e0 8, e0 9, e2 10 [uV gn], e1 11 (.bool false), e0 12, e0 13] [(10, ⟨r1, 1, none⟩, uV gn)] [(.bool (decide (i < 256)), .bool true), (.bool (decide (gn > 0)), .bool false)] ⟨(ov_t (by omega)), (ov_f (by omega)), trivial⟩ (kC (sat_cell h3 0 rfl rfl) nC) (.mk ?_)
   refine yK [(2, .bool false)] fun lr7 => ?_
   refine yRt ?_
   repeat (first | simp only [Exit.inBlock] | simp only [Exit.then])
   have h8 := tk1 (sf1 h3)
   refine hi_out [] (.bool false) [] (by kernel_rfl) (by intro q hq; cases hq) ?_
   exact ⟨.bool false, [], rfl, ⟨rfl, rfl⟩, h8⟩
  ·
   refine yBb [] [(2, .bool false), (15, .bool false), (14, undef), (13, undef), (12, undef), (11, .bool false), (10, .bool false), (9, .bool false)] [e1 6 (.bool false), e0 7, e0 8, e0 9, e0 10, e0 11, e0 12, e0 13] [] [(.bool (decide (i < 256)), .bool false)] ⟨(ov_f (by omega)), trivial⟩ nC (.mk ?_)
   refine yK [(2, .bool false)] fun lr9 => ?_
   refine yRt ?_
   repeat (first | simp only [Exit.inBlock] | simp only [Exit.then])
   have h10 := tk1 (sf1 h3)
   refine hi_out [] (.bool false) [] (by kernel_rfl) (by intro q hq; cases hq) ?_
   exact ⟨.bool false, [], rfl, ⟨rfl, rfl⟩, h10⟩
 ·
  refine yBb [] [(2, .bool false), (15, .bool false), (14, undef), (13, undef), (12, undef), (11, .bool false), (10, .bool false), (9, undef), (8, undef), (7, undef), (6, .bool false), (5, .bool false)] [e1 2 (.bool false), e0 3, e0 4, e0 5, e0 6, e0 7, e0 8, e0 9, e0 10, e0 11, e0 12, e0 13] [] [(.bool (decide (i ≥ 0)), .bool false)] ⟨(ov_f (by omega)), trivial⟩ nC (.mk ?_)
  refine yK [(2, .bool false)] fun lr11 => ?_
  refine yRt ?_
  repeat (first | simp only [Exit.inBlock] | simp only [Exit.then])
  have h12 := tk1 (sf1 h3)
  refine hi_out [] (.bool false) [] (by kernel_rfl) (by intro q hq; cases hq) ?_
  exact ⟨.bool false, [], rfl, ⟨rfl, rfl⟩, h12⟩

set_option maxHeartbeats 4000000 in
theorem tall1_ht (b : Nat) : HT Try.prog 48 [Value.pointer (some ⟨b, 0, none⟩)] [] (fun v K => ∃ c : Nat, v = Value.func (Fn.func 62) #[] #[Value.pointer (some ⟨c, 0, none⟩)] ∧ K = [Cl c [Value.pointer (some ⟨b, 0, none⟩)] 22]) := by
 refine hi_in 4 ([(0, pV b)] : Fr) Try.func48 (by kernel_rfl) Try.ntmps48 rfl rfl ?_
 intro g w0 R h0
 refine ySq ?_
 refine yPl [0, 1] ?_
 refine yA ?_
 refine yNp 1 22 [pV b] h0 fun r1 w2 h3 => ?_
 refine yB0 [] [1] [(2, Value.nilFunc)] (.mk ?_)
 refine yK [(1, pV r1)] fun lr4 => ?_
 refine ySq ?_
 refine yPl [0, 1] ?_
 refine yB0 [] [0, 1] [(2, .func (Fn.func 62) #[] #[pV r1]), (3, .func (Fn.func 62) #[] #[pV r1])] (.mk ?_)
 refine yK [(2, .func (Fn.func 62) #[] #[pV r1])] fun lr5 => ?_
 refine yRt ?_
 repeat (first | simp only [Exit.inBlock] | simp only [Exit.then])
 refine hi_out [] (.func (Fn.func 62) #[] #[pV r1]) [] (by kernel_rfl) (by intro q hq; cases hq) ?_
 exact ⟨.func (Fn.func 62) #[] #[pV r1], [Cl r1 [pV b] 22], rfl, ⟨r1, rfl, rfl⟩, h3⟩

set_option maxHeartbeats 4000000 in
theorem tall_it (c b n : Nat) (A : List Sl2) (E : Tm) (RL : List Rs) : IT Try.prog 62 [Value.pointer (some ⟨c, 0, none⟩)] (((allE E).length)) ((fun i => [vE ((allE E).getD i noE)])) [Cl c [Value.pointer (some ⟨b, 0, none⟩)] 22, Tab b n A E RL] := by
 refine it_in 26 (fun k_ => ([(0, .func (Fn.yield k_) #[] #[]), (1, pV c)] : Fr)) Try.func62 (by kernel_rfl) Try.ntmps62 rfl (fun _ => rfl) ?_
 intro g w0 R k_ J_ E_ hY h0
 have h1 : sat g w0 [J_ 0, Cl c [pV b] 22, Tab b n A E RL, R] := h0
 change WP _ _ (CA Try.f62 []) _ (mk 26 (([(0, .func (Fn.yield k_) #[] #[]), (1, pV c)] : Fr))) _
 refine ySq ?_
 refine yPl [0] ?_
 refine yB0 [] [0] [(6, iV 0)] (.mk ?_)
 refine yK [(0, .func (Fn.yield k_) #[] #[]), (1, pV c), (6, iV 0)] fun lr2 => ?_
 refine yBk 0 ?_
 refine gi_lp (x := CA Try.f62 [1, 0, 0]) (by kernel_rfl) (fun mz_ a w => ∃ k : Nat, ∃ lr : Fr, mz_ = 256 - k ∧ (k ≤ 256) ∧ a = mk 26 (([(0, .func (Fn.yield k_) #[] #[]), (1, pV c), (6, iV (k : Int))] : Fr) ++ lr) ∧ sat g w [J_ (((someE E k).length)), Cl c [pV b] 22, Tab b n A E RL, R]) (256 - 0) ⟨0, _, rfl, (Nat.zero_le _), (mk_live [(0, .func (Fn.yield k_) #[] #[]), (1, pV c), (6, iV (0 : Int))] ⟨rfl, rfl, (ov_int (by omega)), trivial⟩), h1⟩ ?_
 rintro m4 a5 w6 ⟨k, lr3, rfl, hk, rfl, h7⟩
 refine ySq ?_
 refine yPl [0] ?_
 by_cases c8 : (k : Int) < 256
 ·
  refine yBb [] [(7, .bool true)] [e1 0 (.bool true)] [] [(.bool (decide ((k : Int) < 256)), .bool true)] ⟨(ov_t (by omega)), trivial⟩ nC (.mk ?_)
  refine yK [(0, .func (Fn.yield k_) #[] #[]), (1, pV c), (6, iV (k : Int)), (7, .bool true)] fun lr9 => ?_
  refine ySq ?_
  refine yCt ?_
  refine ySk ?_
  refine ySq ?_
  refine yBk 1 ?_
  refine ySq ?_
  refine yPl [0, 1] ?_
  refine yB0 [] [0, 1] [(3, iV (k : Int)), (8, iV (k : Int))] (.mk ?_)
  refine yK [(0, .func (Fn.yield k_) #[] #[]), (1, pV c), (3, iV (k : Int)), (6, iV (k : Int))] fun lr10 => ?_
  refine ySq ?_
  refine yPl [0, 1, 2, 3, 4, 5, 6, 7, 8, 9, 10, 11] ?_
  have h11 := tk4 (sf3 (sf2 (sf2 (sf3 h7))))
  obtain ⟨s12, m13, p14, c15, E16, hM17, h18⟩ := tab_open h11
  have hRl_ := hM17.2
  refine yBb [5, 6, 7, 8, 9, 10, 11] [(14, iV (k : Int)), (13, .map (some m13)), (12, .pointer (some ⟨b, 1, none⟩)), (11, pV b), (10, pV b)] [e2 0 [pV b], e0 1, e0 2, e2 3 [.map (some m13)], e0 4] [(3, ⟨b, 1, none⟩, .map (some m13)), (0, ⟨c, 0, none⟩, pV b)] [] trivial (kC (sat_cell h18 0 rfl rfl) (kC (sat_cell h7 1 rfl rfl) nC)) ?_
  rcases hg20 : gget E (k : Int) with _ | e19
  ·
   refine yA ?_
   refine act_law (d := 15) (.tuple #[.agg #[iV 0, iV 0, uV 0, iV 0, iV 0, uV 0], .bool false]) (by kernel_rfl) rfl (law_lookupOk (t := 73) (z := .agg #[iV 0, iV 0, uV 0, iV 0, iV 0, uV 0]) (m := (Operand.tmp 13)) (x := (Operand.tmp 14)) (kv := kI) (ve := vE) (by kernel_rfl) Try.underlying73 kyI (by kernel_rfl) (k : Int) (by kernel_rfl) (by kernel_rfl) (j := 2) h18 rfl (.agg #[iV 0, iV 0, uV 0, iV 0, iV 0, uV 0]) false (by rw [hM17.1.2.2 (k : Int), hg20]; exact ⟨rfl, rfl⟩)) ?_
   refine yB0 [9, 10, 11] [6, 7, 8] [(17, .bool false), (16, .agg #[iV 0, iV 0, uV 0, iV 0, iV 0, uV 0]), (9, .tuple #[.agg #[iV 0, iV 0, uV 0, iV 0, iV 0, uV 0], .bool false])] ?_
   refine yA ?_
   refine yNp 4 90 [iV 0, iV 0, uV 0, iV 0, iV 0, uV 0] h18 fun r21 w22 h23 => ?_
   refine yA ?_
   refine yS [(0, iV 0), (1, iV 0), (2, uV 0), (3, iV 0), (4, iV 0), (5, uV 0)] [iV 0, iV 0, uV 0, iV 0, iV 0, uV 0] h23 fun w24 h25 => ?_
   refine yB0 [] [11] [(5, .bool false)] (.mk ?_)
   refine yK [(0, .func (Fn.yield k_) #[] #[]), (1, pV c), (4, pV r21), (5, .bool false), (6, iV (k : Int))] fun lr26 => ?_
   refine ySq ?_
   have h27 := tk8 (sf7 (sf7 (sf7 (sf7 (sf3 (sf7 (sf7 (sf7 h25))))))))
   have h28 : sat g w24 [Tab b n A E RL, Cl r21 [iV 0, iV 0, uV 0, iV 0, iV 0, uV 0] 90, J_ (((someE E k).length)), Cl c [pV b] 22, R] := tab_close hM17.1 (by omega) (by first | rfl | omega) h27
   refine gi_ply (id := 4) (ops := RA Try.f62 [1, 0, 0, 1, 1, 0, 0, 1, 1, 0]) [0, 1, 2, 3] [4, 5, 6] (by kernel_rfl) (by kernel_rfl) (by kernel_rfl) ?_
   refine yB0 [] [0, 1, 2, 3] [(21, undef), (20, undef), (19, .bool false), (18, .bool false)] (.mk ?_)
   refine yp_skip (by kernel_rfl) ?_
   refine plain_skip (by kernel_rfl : chkN (RA Try.f62 [1, 0, 0, 1, 1, 0, 0, 1, 1, 0]) 26 _ 4 = some (some 22)) rfl ?_
   refine yB0 [] [5, 6] [(24, .bool false), (23, undef)] (.mk ?_)
   refine yK [(0, .func (Fn.yield k_) #[] #[]), (1, pV c), (6, iV (k : Int)), (24, .bool false)] fun lr29 => ?_
   refine yCf ?_
   refine ySk ?_
   refine yPl [0, 1] ?_
   refine yBb [] [(6, iV ((k : Int) + 1)), (25, iV ((k : Int) + 1))] [e1 0 (iV ((k : Int) + 1)), e0 1] [] [(iV (IntKind.wrap .i64 ((k : Int) + 1)), iV ((k : Int) + 1))] ⟨(ov_i64 (by omega) (by omega) (by omega)), trivial⟩ nC (.mk ?_)
   have h30 := tk5 (sf4 (sf3 (sf3 (sf4 (sf4 h28)))))
   have h31 : sat g w24 [J_ (((someE E (k + 1)).length)), Tab b n A E RL, Cl r21 [iV 0, iV 0, uV 0, iV 0, iV 0, uV 0] 90, Cl c [pV b] 22, R] := (show ((someE E k).length) = (someE E (k + 1)).length from (cntE_no hg20).symm) ▸ h30
   have h32 := tk5 (sf4 (sf4 (sf3 (sf4 (sf2 h31)))))
   have h33 := tk4 h32
   change ∃ n', n' < _ ∧ _
   refine ⟨(256 - (k + 1)), by omega, (k + 1), _, rfl, (by omega), (mk_live [(0, .func (Fn.yield k_) #[] #[]), (1, pV c), (6, iV ((((k + 1) : Nat) : Int)))] ⟨rfl, rfl, (ov_int (by omega)), trivial⟩), h33⟩
  ·
   refine yA ?_
   refine act_law (d := 15) (.tuple #[.agg #[iV e19.d.1, iV e19.d.2.1, uV e19.d.2.2, iV e19.num, iV e19.h.1, uV e19.h.2], .bool true]) (by kernel_rfl) rfl (law_lookupOk (t := 73) (z := .agg #[iV 0, iV 0, uV 0, iV 0, iV 0, uV 0]) (m := (Operand.tmp 13)) (x := (Operand.tmp 14)) (kv := kI) (ve := vE) (by kernel_rfl) Try.underlying73 kyI (by kernel_rfl) (k : Int) (by kernel_rfl) (by kernel_rfl) (j := 2) h18 rfl (.agg #[iV e19.d.1, iV e19.d.2.1, uV e19.d.2.2, iV e19.num, iV e19.h.1, uV e19.h.2]) true (by rw [hM17.1.2.2 (k : Int), hg20]; exact ⟨rfl, rfl⟩)) ?_
   refine yB0 [9, 10, 11] [6, 7, 8] [(17, .bool true), (16, .agg #[iV e19.d.1, iV e19.d.2.1, uV e19.d.2.2, iV e19.num, iV e19.h.1, uV e19.h.2]), (9, .tuple #[.agg #[iV e19.d.1, iV e19.d.2.1, uV e19.d.2.2, iV e19.num, iV e19.h.1, uV e19.h.2], .bool true])] ?_
   refine yA ?_
   refine yNp 4 90 [iV 0, iV 0, uV 0, iV 0, iV 0, uV 0] h18 fun r34 w35 h36 => ?_
   refine yA ?_
   refine yS [(0, iV e19.d.1), (1, iV e19.d.2.1), (2, uV e19.d.2.2), (3, iV e19.num), (4, iV e19.h.1), (5, uV e19.h.2)] [iV e19.d.1, iV e19.d.2.1, uV e19.d.2.2, iV e19.num, iV e19.h.1, uV e19.h.2] h36 fun w37 h38 => ?_
   refine yB0 [] [11] [(5, .bool true)] (.mk ?_)
   refine yK [(0, .func (Fn.yield k_) #[] #[]), (1, pV c), (4, pV r34), (5, .bool true), (6, iV (k : Int))] fun lr39 => ?_
   refine ySq ?_
   have h40 := tk8 (sf7 (sf7 (sf7 (sf7 (sf3 (sf7 (sf7 (sf7 h38))))))))
   have h41 : sat g w37 [Tab b n A E RL, Cl r34 [iV e19.d.1, iV e19.d.2.1, uV e19.d.2.2, iV e19.num, iV e19.h.1, uV e19.h.2] 90, J_ (((someE E k).length)), Cl c [pV b] 22, R] := tab_close hM17.1 (by omega) (by first | rfl | omega) h40
   refine gi_ply (id := 4) (ops := RA Try.f62 [1, 0, 0, 1, 1, 0, 0, 1, 1, 0]) [0, 1, 2, 3] [4, 5, 6] (by kernel_rfl) (by kernel_rfl) (by kernel_rfl) ?_
   refine yBb [] [(21, .agg #[iV e19.d.1, iV e19.d.2.1, uV e19.d.2.2, iV e19.num, iV e19.h.1, uV e19.h.2]), (20, .func (Fn.yield k_) #[] #[]), (19, .bool true), (18, .bool true)] [e0 0, e0 1, e0 2, e2 3 [iV e19.d.1, iV e19.d.2.1, uV e19.d.2.2, iV e19.num, iV e19.h.1, uV e19.h.2]] [(3, ⟨r34, 0, none⟩, iV e19.d.1), (3, ⟨r34, 1, none⟩, iV e19.d.2.1), (3, ⟨r34, 2, none⟩, uV e19.d.2.2), (3, ⟨r34, 3, none⟩, iV e19.num), (3, ⟨r34, 4, none⟩, iV e19.h.1), (3, ⟨r34, 5, none⟩, uV e19.h.2)] [] trivial (kC (sat_cell h41 1 rfl rfl) (kC (sat_cell h41 1 rfl rfl) (kC (sat_cell h41 1 rfl rfl) (kC (sat_cell h41 1 rfl rfl) (kC (sat_cell h41 1 rfl rfl) (kC (sat_cell h41 1 rfl rfl) nC)))))) (.mk ?_)
   have h42 := tk5 (sf4 (sf4 (sf2 (sf2 (sf4 h41)))))
   change YP _ (RA Try.f62 [1, 0, 0, 1, 1, 0, 0, 1, 1, 0]) _ [4, 5, 6] (mk 26 (([(21, .agg #[iV e19.d.1, iV e19.d.2.1, uV e19.d.2.2, iV e19.num, iV e19.h.1, uV e19.h.2]), (20, .func (Fn.yield k_) #[] #[]), (19, .bool true), (18, .bool true), (0, .func (Fn.yield k_) #[] #[]), (1, pV c), (4, pV r34), (5, .bool true), (6, iV (k : Int))] : Fr) ++ lr39)) _
   refine yp_yield (d := some 22) (k := k_) (args := [Value.agg #[Value.int IntKind.i64 e19.d.1, Value.int IntKind.i64 e19.d.2.1, Value.int IntKind.u32 e19.d.2.2, Value.int IntKind.i64 e19.num, Value.int IntKind.i64 e19.h.1, Value.int IntKind.u32 e19.h.2]]) (xa := ((fun i => [vE ((allE E).getD i noE)])) (((someE E k).length))) (S1 := fun w => sat g w [J_ (((someE E k).length) + 1), Cl c [Value.pointer (some ⟨b, 0, none⟩)] 22, Tab b n A E RL, Cl r34 [Value.int IntKind.i64 e19.d.1, Value.int IntKind.i64 e19.d.2.1, Value.int IntKind.u32 e19.d.2.2, Value.int IntKind.i64 e19.num, Value.int IntKind.i64 e19.h.1, Value.int IntKind.u32 e19.h.2] 90, R]) (S2 := fun w => sat g w [E_ (((someE E k).length)), Cl r34 [Value.int IntKind.i64 e19.d.1, Value.int IntKind.i64 e19.d.2.1, Value.int IntKind.u32 e19.d.2.2, Value.int IntKind.i64 e19.num, Value.int IntKind.i64 e19.h.1, Value.int IntKind.u32 e19.h.2] 90, R]) (by kernel_rfl) (by kernel_rfl) (by kernel_rfl) ((by show [vE ((allE E).getD (((someE E k).length)) noE)] = _; rw [getD_some (allE_at hg20 (by omega))]; rfl)) (hY (((someE E k).length)) ((List.getElem?_eq_some_iff.1 (allE_at hg20 (by omega))).1) _ [Cl r34 [Value.int IntKind.i64 e19.d.1, Value.int IntKind.i64 e19.d.2.1, Value.int IntKind.u32 e19.d.2.2, Value.int IntKind.i64 e19.num, Value.int IntKind.i64 e19.h.1, Value.int IntKind.u32 e19.h.2] 90, R] h42) ?_ ?_
   ·
    intro w43 h44
    refine ⟨_, rfl, ?_⟩
    have h45 : sat g w43 [J_ (((someE E k).length) + 1), Cl c [pV b] 22, Tab b n A E RL, Cl r34 [iV e19.d.1, iV e19.d.2.1, uV e19.d.2.2, iV e19.num, iV e19.h.1, uV e19.h.2] 90, R] := h44
    have hlt46 := ((List.getElem?_eq_some_iff.1 (allE_at hg20 (by omega))).1 : ((someE E k).length) < ((allE E).length))
    refine yB0 [] [5, 6] [(24, .bool false), (23, .bool false)] (.mk ?_)
    refine yK [(0, .func (Fn.yield k_) #[] #[]), (1, pV c), (6, iV (k : Int)), (24, .bool false)] fun lr47 => ?_
    refine yCf ?_
    refine ySk ?_
    refine yPl [0, 1] ?_
    refine yBb [] [(6, iV ((k : Int) + 1)), (25, iV ((k : Int) + 1))] [e1 0 (iV ((k : Int) + 1)), e0 1] [] [(iV (IntKind.wrap .i64 ((k : Int) + 1)), iV ((k : Int) + 1))] ⟨(ov_i64 (by omega) (by omega) (by omega)), trivial⟩ nC (.mk ?_)
    have h48 : sat g w43 [J_ (((someE E (k + 1)).length)), Cl c [pV b] 22, Tab b n A E RL, Cl r34 [iV e19.d.1, iV e19.d.2.1, uV e19.d.2.2, iV e19.num, iV e19.h.1, uV e19.h.2] 90, R] := (show ((someE E k).length) + 1 = (someE E (k + 1)).length from (cntE_go hg20).symm) ▸ h45
    have h49 := tk5 (sf4 (sf4 (sf4 (sf4 (sf3 h48)))))
    have h50 := tk4 h49
    change ∃ n', n' < _ ∧ _
    refine ⟨(256 - (k + 1)), by omega, (k + 1), _, rfl, (by omega), (mk_live [(0, .func (Fn.yield k_) #[] #[]), (1, pV c), (6, iV ((((k + 1) : Nat) : Int)))] ⟨rfl, rfl, (ov_int (by omega)), trivial⟩), h50⟩
   ·
    intro w51 h52
    refine ⟨_, rfl, ?_⟩
    have h53 : sat g w51 [E_ (((someE E k).length)), Cl r34 [iV e19.d.1, iV e19.d.2.1, uV e19.d.2.2, iV e19.num, iV e19.h.1, uV e19.h.2] 90, R] := h52
    have hlt54 := ((List.getElem?_eq_some_iff.1 (allE_at hg20 (by omega))).1 : ((someE E k).length) < ((allE E).length))
    refine yB0 [] [5, 6] [(24, .bool true), (23, .bool true)] (.mk ?_)
    refine yK [(0, .func (Fn.yield k_) #[] #[]), (1, pV c), (6, iV (k : Int)), (24, .bool true)] fun lr55 => ?_
    refine yCt ?_
    refine yRt ?_
    repeat (first | simp only [Exit.inBlock] | simp only [Exit.then])
    refine hi_out [] (.tuple #[]) [] (by kernel_rfl) (by intro q hq; cases hq) ⟨⟨_, rfl⟩, ?_⟩
    have h56 := tk3 (sf2 (sf2 (sf1 h53)))
    have h57 := tk2 h56
    exact .inr ⟨((someE E k).length), (by omega), h57⟩
 ·
  refine yBb [] [(7, .bool false)] [e1 0 (.bool false)] [] [(.bool (decide ((k : Int) < 256)), .bool false)] ⟨(ov_f (by omega)), trivial⟩ nC (.mk ?_)
  refine yK [(0, .func (Fn.yield k_) #[] #[]), (1, pV c), (6, iV (k : Int)), (7, .bool false)] fun lr58 => ?_
  refine ySq ?_
  refine yCf ?_
  refine yEx 0 ?_
  repeat (first | simp only [Exit.inBlock] | simp only [Exit.then])
  refine hi_outn [] (.tuple #[]) [] (by kernel_rfl) (by intro q hq; cases hq) ⟨⟨_, rfl⟩, ?_⟩
  have he_ : ((someE E k).length) = ((allE E).length) := (by show _ = (someE E 256).length; rw [show k = 256 from by omega])
  exact .inl (he_ ▸ h7)

end Go.Proofs.Ytjjpmehiolejgaa

/- Walks, printed by my generator gen10.py. -/
namespace Go.Proofs.Ytjjpmehiolejgaa
theorem seq28_neq_t {n : Nat} {l : Fr} {o : Oper} {x y : Operand} (a0 : Int) (a1 : Int) (a2 : Int) (c0 : Int) (c1 : Int) (c2 : Int) (ho : o.op = .binOp .neq 28 x y 28) (hx : fe n l x = .agg #[.int .i64 a0, .int .i64 a1, .int .u32 a2]) (hy : fe n l y = .agg #[.int .i64 c0, .int .i64 c1, .int .u32 c2]) (h : a0 = c0 ∧ a1 = c1 ∧ a2 = c2) (w : World) : (execOp (fe n l) o).run Try.prog w = .ok (.value (.bool false)) w := by
  obtain ⟨rfl, rfl, rfl⟩ := h
  simp [execOp, ho, hx, hy, go_sem]
theorem seq28_neq_f {n : Nat} {l : Fr} {o : Oper} {x y : Operand} (a0 : Int) (a1 : Int) (a2 : Int) (c0 : Int) (c1 : Int) (c2 : Int) (ho : o.op = .binOp .neq 28 x y 28) (hx : fe n l x = .agg #[.int .i64 a0, .int .i64 a1, .int .u32 a2]) (hy : fe n l y = .agg #[.int .i64 c0, .int .i64 c1, .int .u32 c2]) (h : ¬ (a0 = c0 ∧ a1 = c1 ∧ a2 = c2)) (w : World) : (execOp (fe n l) o).run Try.prog w = .ok (.value (.bool true)) w := by
  by_cases h0 : a0 = c0
  · skip
    by_cases h1 : a1 = c1
    · skip
      by_cases h2 : a2 = c2
      · exact absurd ⟨h0, h1, h2⟩ h
      · simp [execOp, ho, hx, hy, go_sem, h0, h1, h2]
    · simp [execOp, ho, hx, hy, go_sem, h0, h1]
  · simp [execOp, ho, hx, hy, go_sem, h0]
set_option maxHeartbeats 4000000 in
theorem tfind_bad (b n : Nat) (A : List Sl2) (E : Tm) (RL : List Rs) (x y z : Int) (hz0 : 0 ≤ z) (hz1 : z ≤ 4294967295) (ho : ¬ (1 ≤ x ∧ x ≤ 3 ∧ 0 ≤ y ∧ y ≤ 255 ∧ 1 ≤ z)) : HT Try.prog 44 [Value.pointer (some ⟨b, 0, none⟩), Value.agg #[Value.int IntKind.i64 x, Value.int IntKind.i64 y, Value.int IntKind.u32 z]] [Tab b n A E RL] (fun v K => v = Value.tuple #[Value.agg #[Value.int IntKind.i64 0, Value.int IntKind.i64 0, Value.int IntKind.u32 0, Value.int IntKind.i64 0, Value.int IntKind.i64 0, Value.int IntKind.u32 0], Value.int IntKind.i64 2] ∧ K = [Tab b n A E RL]) := by
 refine hi_in 38 ([(0, pV b), (1, .agg #[iV x, iV y, uV z])] : Fr) Try.func44 (by kernel_rfl) Try.ntmps44 rfl rfl ?_
 intro g w0 R h0
 refine ySq ?_
 refine yPl [0, 1, 2] ?_
 refine yA ?_
 refine yNp 3 28 [iV x, iV y, uV z] h0 fun r1 w2 h3 => ?_
 refine yA ?_
 refine yNp 4 90 [iV 0, iV 0, uV 0, iV 0, iV 0, uV 0] h3 fun r4 w5 h6 => ?_
 refine yB0 [] [2] [(5, iV 0)] (.mk ?_)
 refine yK [(0, pV b), (3, pV r1), (4, pV r4)] fun lr7 => ?_
 refine ySq ?_
 refine yBk 0 ?_
 refine ySq ?_
 refine yPl [0, 1, 2, 3] ?_
 refine yB0 [1, 2, 3] [0] [(9, pV b)] ?_
 have h8 := tk4 (sf3 (sf2 (sf2 (sf3 h6))))
 refine yA ?_
 refine yCl 10 Try.call36 (tvalid_ht b n A E RL) h8 ?_
 rintro v K w9 (⟨rfl, rfl⟩) h10
 refine ⟨_, rfl, ?_⟩
 have h11 := ap1 h10
 refine yB0 [] [2, 3] [(8, .bool false), (11, .bool false)] (.mk ?_)
 refine yK [(0, pV b), (3, pV r1), (4, pV r4), (8, .bool false)] fun lr12 => ?_
 refine yCf ?_
 refine ySq ?_
 refine yPl [0, 1, 2, 3] ?_
 refine yBb [1, 2, 3] [(14, .agg #[iV x, iV y, uV z])] [e2 0 [iV x, iV y, uV z]] [(0, ⟨r1, 0, none⟩, iV x), (0, ⟨r1, 1, none⟩, iV y), (0, ⟨r1, 2, none⟩, uV z)] [] trivial (kC (sat_cell h11 2 rfl rfl) (kC (sat_cell h11 2 rfl rfl) (kC (sat_cell h11 2 rfl rfl) nC))) ?_
 by_cases c13 : 1 ≤ x
 ·
  by_cases c14 : x ≤ 3
  ·
   by_cases c15 : 0 ≤ y
   ·
    by_cases c16 : y ≤ 255
    ·
     refine yA ?_
     refine yCl 15 Try.call27 (cdesc_no x y z (by omega) (by omega) (by omega)) h11 ?_
     rintro v K w17 (⟨rfl, rfl⟩) h18
     refine ⟨_, rfl, ?_⟩
     have h19 := ap0 h18
     refine yB0 [] [2, 3] [(13, .bool true), (16, .bool true)] (.mk ?_)
     refine yK [(0, pV b), (3, pV r1), (4, pV r4), (13, .bool true)] fun lr20 => ?_
     refine yCt ?_
     refine ySq ?_
     refine yPl [0, 1, 2] ?_
     refine yB0 [1, 2] [0] [(17, .agg #[iV 0, iV 0, uV 0, iV 0, iV 0, uV 0])] ?_
     have h21 := tk4 (sf3 (sf2 (sf3 (sf3 h19))))
     refine yA ?_
     refine yS [(0, iV 0), (1, iV 0), (2, uV 0), (3, iV 0), (4, iV 0), (5, uV 0)] [iV 0, iV 0, uV 0, iV 0, iV 0, uV 0] h21 fun w22 h23 => ?_
     refine yB0 [] [2] [(5, iV 2)] (.mk ?_)
     refine yK [(4, pV r4), (5, iV 2)] fun lr24 => ?_
     refine yRt ?_
     repeat (first | simp only [Exit.inBlock] | simp only [Exit.then])
     have h25 := tk4 (sf3 (sf2 (sf3 (sf3 h23))))
     have h26 := tk2 (sf1 (sf3 h25))
     refine hi_out [iV 0, iV 0, uV 0, iV 0, iV 0, uV 0] (.tuple #[.agg #[iV 0, iV 0, uV 0, iV 0, iV 0, uV 0], iV 2]) [(⟨r4, 0, none⟩, iV 0), (⟨r4, 1, none⟩, iV 0), (⟨r4, 2, none⟩, uV 0), (⟨r4, 3, none⟩, iV 0), (⟨r4, 4, none⟩, iV 0), (⟨r4, 5, none⟩, uV 0)] (by kernel_rfl) (allq ⟨sat_cell h23 0 rfl rfl, sat_cell h23 0 rfl rfl, sat_cell h23 0 rfl rfl, sat_cell h23 0 rfl rfl, sat_cell h23 0 rfl rfl, sat_cell h23 0 rfl rfl, trivial⟩) ?_
     exact ⟨.tuple #[.agg #[iV 0, iV 0, uV 0, iV 0, iV 0, uV 0], iV 2], [Tab b n A E RL], rfl, ⟨rfl, rfl⟩, h26⟩
    ·
     refine yA ?_
     refine yCl 15 Try.call27 (cdesc_no x y z (by omega) (by omega) (by omega)) h11 ?_
     rintro v K w27 (⟨rfl, rfl⟩) h28
     refine ⟨_, rfl, ?_⟩
     have h29 := ap0 h28
     refine yB0 [] [2, 3] [(13, .bool true), (16, .bool true)] (.mk ?_)
     refine yK [(0, pV b), (3, pV r1), (4, pV r4), (13, .bool true)] fun lr30 => ?_
     refine yCt ?_
     refine ySq ?_
     refine yPl [0, 1, 2] ?_
     refine yB0 [1, 2] [0] [(17, .agg #[iV 0, iV 0, uV 0, iV 0, iV 0, uV 0])] ?_
     have h31 := tk4 (sf3 (sf2 (sf3 (sf3 h29))))
     refine yA ?_
     refine yS [(0, iV 0), (1, iV 0), (2, uV 0), (3, iV 0), (4, iV 0), (5, uV 0)] [iV 0, iV 0, uV 0, iV 0, iV 0, uV 0] h31 fun w32 h33 => ?_
     refine yB0 [] [2] [(5, iV 2)] (.mk ?_)
     refine yK [(4, pV r4), (5, iV 2)] fun lr34 => ?_
     refine yRt ?_
     repeat (first | simp only [Exit.inBlock] | simp only [Exit.then])
     have h35 := tk4 (sf3 (sf2 (sf3 (sf3 h33))))
     have h36 := tk2 (sf1 (sf3 h35))
     refine hi_out [iV 0, iV 0, uV 0, iV 0, iV 0, uV 0] (.tuple #[.agg #[iV 0, iV 0, uV 0, iV 0, iV 0, uV 0], iV 2]) [(⟨r4, 0, none⟩, iV 0), (⟨r4, 1, none⟩, iV 0), (⟨r4, 2, none⟩, uV 0), (⟨r4, 3, none⟩, iV 0), (⟨r4, 4, none⟩, iV 0), (⟨r4, 5, none⟩, uV 0)] (by kernel_rfl) (allq ⟨sat_cell h33 0 rfl rfl, sat_cell h33 0 rfl rfl, sat_cell h33 0 rfl rfl, sat_cell h33 0 rfl rfl, sat_cell h33 0 rfl rfl, sat_cell h33 0 rfl rfl, trivial⟩) ?_
     exact ⟨.tuple #[.agg #[iV 0, iV 0, uV 0, iV 0, iV 0, uV 0], iV 2], [Tab b n A E RL], rfl, ⟨rfl, rfl⟩, h36⟩
   ·
    refine yA ?_
    refine yCl 15 Try.call27 (cdesc_no x y z (by omega) (by omega) (by omega)) h11 ?_
    rintro v K w37 (⟨rfl, rfl⟩) h38
    refine ⟨_, rfl, ?_⟩
    have h39 := ap0 h38
    refine yB0 [] [2, 3] [(13, .bool true), (16, .bool true)] (.mk ?_)
    refine yK [(0, pV b), (3, pV r1), (4, pV r4), (13, .bool true)] fun lr40 => ?_
    refine yCt ?_
    refine ySq ?_
    refine yPl [0, 1, 2] ?_
    refine yB0 [1, 2] [0] [(17, .agg #[iV 0, iV 0, uV 0, iV 0, iV 0, uV 0])] ?_
    have h41 := tk4 (sf3 (sf2 (sf3 (sf3 h39))))
    refine yA ?_
    refine yS [(0, iV 0), (1, iV 0), (2, uV 0), (3, iV 0), (4, iV 0), (5, uV 0)] [iV 0, iV 0, uV 0, iV 0, iV 0, uV 0] h41 fun w42 h43 => ?_
    refine yB0 [] [2] [(5, iV 2)] (.mk ?_)
    refine yK [(4, pV r4), (5, iV 2)] fun lr44 => ?_
    refine yRt ?_
    repeat (first | simp only [Exit.inBlock] | simp only [Exit.then])
    have h45 := tk4 (sf3 (sf2 (sf3 (sf3 h43))))
    have h46 := tk2 (sf1 (sf3 h45))
    refine hi_out [iV 0, iV 0, uV 0, iV 0, iV 0, uV 0] (.tuple #[.agg #[iV 0, iV 0, uV 0, iV 0, iV 0, uV 0], iV 2]) [(⟨r4, 0, none⟩, iV 0), (⟨r4, 1, none⟩, iV 0), (⟨r4, 2, none⟩, uV 0), (⟨r4, 3, none⟩, iV 0), (⟨r4, 4, none⟩, iV 0), (⟨r4, 5, none⟩, uV 0)] (by kernel_rfl) (allq ⟨sat_cell h43 0 rfl rfl, sat_cell h43 0 rfl rfl, sat_cell h43 0 rfl rfl, sat_cell h43 0 rfl rfl, sat_cell h43 0 rfl rfl, sat_cell h43 0 rfl rfl, trivial⟩) ?_
    exact ⟨.tuple #[.agg #[iV 0, iV 0, uV 0, iV 0, iV 0, uV 0], iV 2], [Tab b n A E RL], rfl, ⟨rfl, rfl⟩, h46⟩
  ·
   refine yA ?_
   refine yCl 15 Try.call27 (cdesc_no x y z (by omega) (by omega) (by omega)) h11 ?_
   rintro v K w47 (⟨rfl, rfl⟩) h48
   refine ⟨_, rfl, ?_⟩
   have h49 := ap0 h48
   refine yB0 [] [2, 3] [(13, .bool true), (16, .bool true)] (.mk ?_)
   refine yK [(0, pV b), (3, pV r1), (4, pV r4), (13, .bool true)] fun lr50 => ?_
   refine yCt ?_
   refine ySq ?_
   refine yPl [0, 1, 2] ?_
   refine yB0 [1, 2] [0] [(17, .agg #[iV 0, iV 0, uV 0, iV 0, iV 0, uV 0])] ?_
   have h51 := tk4 (sf3 (sf2 (sf3 (sf3 h49))))
   refine yA ?_
   refine yS [(0, iV 0), (1, iV 0), (2, uV 0), (3, iV 0), (4, iV 0), (5, uV 0)] [iV 0, iV 0, uV 0, iV 0, iV 0, uV 0] h51 fun w52 h53 => ?_
   refine yB0 [] [2] [(5, iV 2)] (.mk ?_)
   refine yK [(4, pV r4), (5, iV 2)] fun lr54 => ?_
   refine yRt ?_
   repeat (first | simp only [Exit.inBlock] | simp only [Exit.then])
   have h55 := tk4 (sf3 (sf2 (sf3 (sf3 h53))))
   have h56 := tk2 (sf1 (sf3 h55))
   refine hi_out [iV 0, iV 0, uV 0, iV 0, iV 0, uV 0] (.tuple #[.agg #[iV 0, iV 0, uV 0, iV 0, iV 0, uV 0], iV 2]) [(⟨r4, 0, none⟩, iV 0), (⟨r4, 1, none⟩, iV 0), (⟨r4, 2, none⟩, uV 0), (⟨r4, 3, none⟩, iV 0), (⟨r4, 4, none⟩, iV 0), (⟨r4, 5, none⟩, uV 0)] (by kernel_rfl) (allq ⟨sat_cell h53 0 rfl rfl, sat_cell h53 0 rfl rfl, sat_cell h53 0 rfl rfl, sat_cell h53 0 rfl rfl, sat_cell h53 0 rfl rfl, sat_cell h53 0 rfl rfl, trivial⟩) ?_
   exact ⟨.tuple #[.agg #[iV 0, iV 0, uV 0, iV 0, iV 0, uV 0], iV 2], [Tab b n A E RL], rfl, ⟨rfl, rfl⟩, h56⟩
 ·
  refine yA ?_
  refine yCl 15 Try.call27 (cdesc_no x y z (by omega) (by omega) (by omega)) h11 ?_
  rintro v K w57 (⟨rfl, rfl⟩) h58
  refine ⟨_, rfl, ?_⟩
  have h59 := ap0 h58
  refine yB0 [] [2, 3] [(13, .bool true), (16, .bool true)] (.mk ?_)
  refine yK [(0, pV b), (3, pV r1), (4, pV r4), (13, .bool true)] fun lr60 => ?_
  refine yCt ?_
  refine ySq ?_
  refine yPl [0, 1, 2] ?_
  refine yB0 [1, 2] [0] [(17, .agg #[iV 0, iV 0, uV 0, iV 0, iV 0, uV 0])] ?_
  have h61 := tk4 (sf3 (sf2 (sf3 (sf3 h59))))
  refine yA ?_
  refine yS [(0, iV 0), (1, iV 0), (2, uV 0), (3, iV 0), (4, iV 0), (5, uV 0)] [iV 0, iV 0, uV 0, iV 0, iV 0, uV 0] h61 fun w62 h63 => ?_
  refine yB0 [] [2] [(5, iV 2)] (.mk ?_)
  refine yK [(4, pV r4), (5, iV 2)] fun lr64 => ?_
  refine yRt ?_
  repeat (first | simp only [Exit.inBlock] | simp only [Exit.then])
  have h65 := tk4 (sf3 (sf2 (sf3 (sf3 h63))))
  have h66 := tk2 (sf1 (sf3 h65))
  refine hi_out [iV 0, iV 0, uV 0, iV 0, iV 0, uV 0] (.tuple #[.agg #[iV 0, iV 0, uV 0, iV 0, iV 0, uV 0], iV 2]) [(⟨r4, 0, none⟩, iV 0), (⟨r4, 1, none⟩, iV 0), (⟨r4, 2, none⟩, uV 0), (⟨r4, 3, none⟩, iV 0), (⟨r4, 4, none⟩, iV 0), (⟨r4, 5, none⟩, uV 0)] (by kernel_rfl) (allq ⟨sat_cell h63 0 rfl rfl, sat_cell h63 0 rfl rfl, sat_cell h63 0 rfl rfl, sat_cell h63 0 rfl rfl, sat_cell h63 0 rfl rfl, sat_cell h63 0 rfl rfl, trivial⟩) ?_
  exact ⟨.tuple #[.agg #[iV 0, iV 0, uV 0, iV 0, iV 0, uV 0], iV 2], [Tab b n A E RL], rfl, ⟨rfl, rfl⟩, h66⟩

set_option maxHeartbeats 4000000 in
theorem tfind_none (b n : Nat) (A : List Sl2) (E : Tm) (RL : List Rs) (x y z : Int) (hz0 : 0 ≤ z) (hz1 : z ≤ 4294967295) (ho : 1 ≤ x ∧ x ≤ 3 ∧ 0 ≤ y ∧ y ≤ 255 ∧ 1 ≤ z) (hg_ : gget E y = none) : HT Try.prog 44 [Value.pointer (some ⟨b, 0, none⟩), Value.agg #[Value.int IntKind.i64 x, Value.int IntKind.i64 y, Value.int IntKind.u32 z]] [Tab b n A E RL] (fun v K => v = Value.tuple #[Value.agg #[Value.int IntKind.i64 0, Value.int IntKind.i64 0, Value.int IntKind.u32 0, Value.int IntKind.i64 0, Value.int IntKind.i64 0, Value.int IntKind.u32 0], Value.int IntKind.i64 7] ∧ K = [Tab b n A E RL]) := by
 refine hi_in 38 ([(0, pV b), (1, .agg #[iV x, iV y, uV z])] : Fr) Try.func44 (by kernel_rfl) Try.ntmps44 rfl rfl ?_
 intro g w0 R h0
 refine ySq ?_
 refine yPl [0, 1, 2] ?_
 refine yA ?_
 refine yNp 3 28 [iV x, iV y, uV z] h0 fun r1 w2 h3 => ?_
 refine yA ?_
 refine yNp 4 90 [iV 0, iV 0, uV 0, iV 0, iV 0, uV 0] h3 fun r4 w5 h6 => ?_
 refine yB0 [] [2] [(5, iV 0)] (.mk ?_)
 refine yK [(0, pV b), (3, pV r1), (4, pV r4)] fun lr7 => ?_
 refine ySq ?_
 refine yBk 0 ?_
 refine ySq ?_
 refine yPl [0, 1, 2, 3] ?_
 refine yB0 [1, 2, 3] [0] [(9, pV b)] ?_
 have h8 := tk4 (sf3 (sf2 (sf2 (sf3 h6))))
 refine yA ?_
 refine yCl 10 Try.call36 (tvalid_ht b n A E RL) h8 ?_
 rintro v K w9 (⟨rfl, rfl⟩) h10
 refine ⟨_, rfl, ?_⟩
 have h11 := ap1 h10
 refine yB0 [] [2, 3] [(8, .bool false), (11, .bool false)] (.mk ?_)
 refine yK [(0, pV b), (3, pV r1), (4, pV r4), (8, .bool false)] fun lr12 => ?_
 refine yCf ?_
 refine ySq ?_
 refine yPl [0, 1, 2, 3] ?_
 refine yBb [1, 2, 3] [(14, .agg #[iV x, iV y, uV z])] [e2 0 [iV x, iV y, uV z]] [(0, ⟨r1, 0, none⟩, iV x), (0, ⟨r1, 1, none⟩, iV y), (0, ⟨r1, 2, none⟩, uV z)] [] trivial (kC (sat_cell h11 2 rfl rfl) (kC (sat_cell h11 2 rfl rfl) (kC (sat_cell h11 2 rfl rfl) nC))) ?_
 refine yA ?_
 refine yCl 15 Try.call27 (cdesc_ok x y z (by omega) (by omega) (by omega)) h11 ?_
 rintro v K w13 (⟨rfl, rfl⟩) h14
 refine ⟨_, rfl, ?_⟩
 have h15 := ap0 h14
 refine yB0 [] [2, 3] [(13, .bool false), (16, .bool false)] (.mk ?_)
 refine yK [(0, pV b), (3, pV r1), (4, pV r4), (13, .bool false)] fun lr16 => ?_
 refine yCf ?_
 refine ySk ?_
 refine ySq ?_
 refine gi_drw (id := 5) (ops := RA Try.f44 [1, 1, 0]) (Tr.fl 0 (Tr.fl 1 (Tr.fl 2 (Tr.fl 3 (Tr.fl 4 (Tr.fl 5 (Tr.an2 6 (Tr.fl 7 (Tr.fl 8 (Tr.fl 9 (Tr.an 10 (Tr.an 11 (Tr.fl 12 Tr.nil)))))) 10 (Tr.an 6 (Tr.fl 7 (Tr.fl 8 (Tr.fl 9 (Tr.an 11 (Tr.fl 12 Tr.nil))))))))))))) (by kernel_rfl) (by kernel_rfl) (by kernel_rfl) (by kernel_rfl) (by kernel_rfl) (fun _ _ d _ _ h => by cases d <;> exact h) h15 ?_
 intro w17 h18
 obtain ⟨s19, m20, p21, c22, E23, hM24, h25⟩ := tab_open h18
 have hRl_ := hM24.2
 refine yD _ [(24, iV y), (23, .pointer (some ⟨r1, 1, none⟩)), (22, .map (some m20)), (21, .pointer (some ⟨b, 1, none⟩)), (20, pV b), (19, pV b)] [e0 0, e0 1, e0 2, e2 3 [.map (some m20)], e0 4, e2 5 [iV y]] [(5, ⟨r1, 1, none⟩, iV y), (3, ⟨b, 1, none⟩, .map (some m20))] [] trivial (kC (sat_cell h25 5 rfl rfl) (kC (sat_cell h25 0 rfl rfl) nC)) ?_
 refine ⟨?_, ?_⟩
 ·
  refine draw_act (i := 6) [] (by kernel_rfl) (by kernel_rfl) ?_
  refine act_law (d := 25) (.tuple #[.agg #[iV 0, iV 0, uV 0, iV 0, iV 0, uV 0], .bool false]) (by kernel_rfl) rfl (law_lookupOk (t := 73) (z := .agg #[iV 0, iV 0, uV 0, iV 0, iV 0, uV 0]) (m := (Operand.tmp 22)) (x := (Operand.tmp 24)) (kv := kI) (ve := vE) (by kernel_rfl) Try.underlying73 kyI (by kernel_rfl) y (by kernel_rfl) (by kernel_rfl) (j := 2) h25 rfl (.agg #[iV 0, iV 0, uV 0, iV 0, iV 0, uV 0]) false (by rw [hM24.1.2.2 y, hg_]; exact ⟨rfl, rfl⟩)) ?_
  refine ⟨(AllC_nil _), ?_⟩
  refine yD _ [(27, .bool false), (26, .agg #[iV 0, iV 0, uV 0, iV 0, iV 0, uV 0]), (18, .tuple #[.agg #[iV 0, iV 0, uV 0, iV 0, iV 0, uV 0], .bool false])] [e0 7, e0 8, e0 9] [] [] trivial nC ?_
  refine draw_act (i := 10) [] (by kernel_rfl) (by kernel_rfl) ?_
  refine yNp 6 90 [iV 0, iV 0, uV 0, iV 0, iV 0, uV 0] h25 fun r26 w27 h28 => ?_
  refine ⟨(AllC_nil _), ?_⟩
  refine draw_act (i := 11) [] (by kernel_rfl) (by kernel_rfl) ?_
  refine yS [(0, iV 0), (1, iV 0), (2, uV 0), (3, iV 0), (4, iV 0), (5, uV 0)] [iV 0, iV 0, uV 0, iV 0, iV 0, uV 0] h28 fun w29 h30 => ?_
  refine ⟨(AllC_nil _), ?_⟩
  refine yD _ [(7, .bool false)] [e0 12] [] [] trivial nC ?_
  refine yK [(3, pV r1), (4, pV r4), (6, pV r26), (7, .bool false)] fun lr31 => ?_
  refine ySq ?_
  refine ySq ?_
  refine yPl [0, 1, 2, 3, 4, 5, 6, 7] ?_
  refine yB0 [] [0, 1, 2, 3, 4, 5, 6, 7] [(35, .bool true), (34, undef), (33, undef), (32, undef), (31, undef), (30, .bool true), (29, .bool true), (28, .bool false)] (.mk ?_)
  refine yK [(4, pV r4), (6, pV r26), (35, .bool true)] fun lr32 => ?_
  refine yCt ?_
  refine ySq ?_
  refine yPl [0, 1, 2] ?_
  refine yB0 [1, 2] [0] [(36, .agg #[iV 0, iV 0, uV 0, iV 0, iV 0, uV 0])] ?_
  have h33 := tk8 (sf7 (sf6 (sf6 (sf6 (sf6 (sf6 (sf7 (sf7 h30))))))))
  refine yA ?_
  refine yS [(0, iV 0), (1, iV 0), (2, uV 0), (3, iV 0), (4, iV 0), (5, uV 0)] [iV 0, iV 0, uV 0, iV 0, iV 0, uV 0] h33 fun w34 h35 => ?_
  refine yB0 [] [2] [(5, iV 7)] (.mk ?_)
  refine yK [(4, pV r4), (5, iV 7)] fun lr36 => ?_
  refine yRt ?_
  repeat (first | simp only [Exit.inBlock] | simp only [Exit.then])
  have h37 := tk8 (sf7 (sf7 (sf7 (sf7 (sf3 (sf3 (sf7 (sf7 h35))))))))
  have h38 : sat g w34 [Tab b n A E RL, Cl r4 [iV 0, iV 0, uV 0, iV 0, iV 0, uV 0] 90, Cl r26 [iV 0, iV 0, uV 0, iV 0, iV 0, uV 0] 90, Cl r1 [iV x, iV y, uV z] 28, R] := tab_close hM24.1 (by omega) (by first | rfl | omega) h37
  have h39 := tk2 (sf1 (sf4 h38))
  refine hi_out [iV 0, iV 0, uV 0, iV 0, iV 0, uV 0] (.tuple #[.agg #[iV 0, iV 0, uV 0, iV 0, iV 0, uV 0], iV 7]) [(⟨r4, 0, none⟩, iV 0), (⟨r4, 1, none⟩, iV 0), (⟨r4, 2, none⟩, uV 0), (⟨r4, 3, none⟩, iV 0), (⟨r4, 4, none⟩, iV 0), (⟨r4, 5, none⟩, uV 0)] (by kernel_rfl) (allq ⟨sat_cell h35 0 rfl rfl, sat_cell h35 0 rfl rfl, sat_cell h35 0 rfl rfl, sat_cell h35 0 rfl rfl, sat_cell h35 0 rfl rfl, sat_cell h35 0 rfl rfl, trivial⟩) ?_
  exact ⟨.tuple #[.agg #[iV 0, iV 0, uV 0, iV 0, iV 0, uV 0], iV 7], [Tab b n A E RL], rfl, ⟨rfl, rfl⟩, h39⟩
 ·
  refine draw_act (i := 10) [(5, ⟨r1, 1, none⟩, iV y), (3, ⟨b, 1, none⟩, .map (some m20))] (by kernel_rfl) (by kernel_rfl) ?_
  refine yNp 6 90 [iV 0, iV 0, uV 0, iV 0, iV 0, uV 0] h25 fun r40 w41 h42 => ?_
  refine ⟨(AllC_cons (sat_cell h42 6 rfl rfl) (AllC_cons (sat_cell h42 1 rfl rfl) (AllC_nil _))), ?_⟩
  refine draw_act (i := 6) [] (by kernel_rfl) (by kernel_rfl) ?_
  refine act_law (d := 25) (.tuple #[.agg #[iV 0, iV 0, uV 0, iV 0, iV 0, uV 0], .bool false]) (by kernel_rfl) rfl (law_lookupOk (t := 73) (z := .agg #[iV 0, iV 0, uV 0, iV 0, iV 0, uV 0]) (m := (Operand.tmp 22)) (x := (Operand.tmp 24)) (kv := kI) (ve := vE) (by kernel_rfl) Try.underlying73 kyI (by kernel_rfl) y (by kernel_rfl) (by kernel_rfl) (j := 3) h42 rfl (.agg #[iV 0, iV 0, uV 0, iV 0, iV 0, uV 0]) false (by rw [hM24.1.2.2 y, hg_]; exact ⟨rfl, rfl⟩)) ?_
  refine ⟨(AllC_nil _), ?_⟩
  refine yD _ [(27, .bool false), (26, .agg #[iV 0, iV 0, uV 0, iV 0, iV 0, uV 0]), (18, .tuple #[.agg #[iV 0, iV 0, uV 0, iV 0, iV 0, uV 0], .bool false])] [e0 7, e0 8, e0 9] [] [] trivial nC ?_
  refine draw_act (i := 11) [] (by kernel_rfl) (by kernel_rfl) ?_
  refine yS [(0, iV 0), (1, iV 0), (2, uV 0), (3, iV 0), (4, iV 0), (5, uV 0)] [iV 0, iV 0, uV 0, iV 0, iV 0, uV 0] h42 fun w43 h44 => ?_
  refine ⟨(AllC_nil _), ?_⟩
  refine yD _ [(7, .bool false)] [e0 12] [] [] trivial nC ?_
  refine yK [(3, pV r1), (4, pV r4), (6, pV r40), (7, .bool false)] fun lr45 => ?_
  refine ySq ?_
  refine ySq ?_
  refine yPl [0, 1, 2, 3, 4, 5, 6, 7] ?_
  refine yB0 [] [0, 1, 2, 3, 4, 5, 6, 7] [(35, .bool true), (34, undef), (33, undef), (32, undef), (31, undef), (30, .bool true), (29, .bool true), (28, .bool false)] (.mk ?_)
  refine yK [(4, pV r4), (6, pV r40), (35, .bool true)] fun lr46 => ?_
  refine yCt ?_
  refine ySq ?_
  refine yPl [0, 1, 2] ?_
  refine yB0 [1, 2] [0] [(36, .agg #[iV 0, iV 0, uV 0, iV 0, iV 0, uV 0])] ?_
  have h47 := tk8 (sf7 (sf6 (sf6 (sf6 (sf6 (sf6 (sf7 (sf7 h44))))))))
  refine yA ?_
  refine yS [(0, iV 0), (1, iV 0), (2, uV 0), (3, iV 0), (4, iV 0), (5, uV 0)] [iV 0, iV 0, uV 0, iV 0, iV 0, uV 0] h47 fun w48 h49 => ?_
  refine yB0 [] [2] [(5, iV 7)] (.mk ?_)
  refine yK [(4, pV r4), (5, iV 7)] fun lr50 => ?_
  refine yRt ?_
  repeat (first | simp only [Exit.inBlock] | simp only [Exit.then])
  have h51 := tk8 (sf7 (sf7 (sf7 (sf7 (sf3 (sf3 (sf7 (sf7 h49))))))))
  have h52 : sat g w48 [Tab b n A E RL, Cl r4 [iV 0, iV 0, uV 0, iV 0, iV 0, uV 0] 90, Cl r40 [iV 0, iV 0, uV 0, iV 0, iV 0, uV 0] 90, Cl r1 [iV x, iV y, uV z] 28, R] := tab_close hM24.1 (by omega) (by first | rfl | omega) h51
  have h53 := tk2 (sf1 (sf4 h52))
  refine hi_out [iV 0, iV 0, uV 0, iV 0, iV 0, uV 0] (.tuple #[.agg #[iV 0, iV 0, uV 0, iV 0, iV 0, uV 0], iV 7]) [(⟨r4, 0, none⟩, iV 0), (⟨r4, 1, none⟩, iV 0), (⟨r4, 2, none⟩, uV 0), (⟨r4, 3, none⟩, iV 0), (⟨r4, 4, none⟩, iV 0), (⟨r4, 5, none⟩, uV 0)] (by kernel_rfl) (allq ⟨sat_cell h49 0 rfl rfl, sat_cell h49 0 rfl rfl, sat_cell h49 0 rfl rfl, sat_cell h49 0 rfl rfl, sat_cell h49 0 rfl rfl, sat_cell h49 0 rfl rfl, trivial⟩) ?_
  exact ⟨.tuple #[.agg #[iV 0, iV 0, uV 0, iV 0, iV 0, uV 0], iV 7], [Tab b n A E RL], rfl, ⟨rfl, rfl⟩, h53⟩

set_option maxHeartbeats 4000000 in
theorem tfind_ok (b n : Nat) (A : List Sl2) (E : Tm) (RL : List Rs) (x y z : Int) (e : Ety) (hz0 : 0 ≤ z) (hz1 : z ≤ 4294967295) (ho : 1 ≤ x ∧ x ≤ 3 ∧ 0 ≤ y ∧ y ≤ 255 ∧ 1 ≤ z) (hg_ : gget E y = some e) (hd_ : e.d.1 = x ∧ e.d.2.1 = y ∧ e.d.2.2 = z) : HT Try.prog 44 [Value.pointer (some ⟨b, 0, none⟩), Value.agg #[Value.int IntKind.i64 x, Value.int IntKind.i64 y, Value.int IntKind.u32 z]] [Tab b n A E RL] (fun v K => v = Value.tuple #[Value.agg #[Value.int IntKind.i64 e.d.1, Value.int IntKind.i64 e.d.2.1, Value.int IntKind.u32 e.d.2.2, Value.int IntKind.i64 e.num, Value.int IntKind.i64 e.h.1, Value.int IntKind.u32 e.h.2], Value.int IntKind.i64 0] ∧ K = [Tab b n A E RL]) := by
 refine hi_in 38 ([(0, pV b), (1, .agg #[iV x, iV y, uV z])] : Fr) Try.func44 (by kernel_rfl) Try.ntmps44 rfl rfl ?_
 intro g w0 R h0
 refine ySq ?_
 refine yPl [0, 1, 2] ?_
 refine yA ?_
 refine yNp 3 28 [iV x, iV y, uV z] h0 fun r1 w2 h3 => ?_
 refine yA ?_
 refine yNp 4 90 [iV 0, iV 0, uV 0, iV 0, iV 0, uV 0] h3 fun r4 w5 h6 => ?_
 refine yB0 [] [2] [(5, iV 0)] (.mk ?_)
 refine yK [(0, pV b), (3, pV r1), (4, pV r4)] fun lr7 => ?_
 refine ySq ?_
 refine yBk 0 ?_
 refine ySq ?_
 refine yPl [0, 1, 2, 3] ?_
 refine yB0 [1, 2, 3] [0] [(9, pV b)] ?_
 have h8 := tk4 (sf3 (sf2 (sf2 (sf3 h6))))
 refine yA ?_
 refine yCl 10 Try.call36 (tvalid_ht b n A E RL) h8 ?_
 rintro v K w9 (⟨rfl, rfl⟩) h10
 refine ⟨_, rfl, ?_⟩
 have h11 := ap1 h10
 refine yB0 [] [2, 3] [(8, .bool false), (11, .bool false)] (.mk ?_)
 refine yK [(0, pV b), (3, pV r1), (4, pV r4), (8, .bool false)] fun lr12 => ?_
 refine yCf ?_
 refine ySq ?_
 refine yPl [0, 1, 2, 3] ?_
 refine yBb [1, 2, 3] [(14, .agg #[iV x, iV y, uV z])] [e2 0 [iV x, iV y, uV z]] [(0, ⟨r1, 0, none⟩, iV x), (0, ⟨r1, 1, none⟩, iV y), (0, ⟨r1, 2, none⟩, uV z)] [] trivial (kC (sat_cell h11 2 rfl rfl) (kC (sat_cell h11 2 rfl rfl) (kC (sat_cell h11 2 rfl rfl) nC))) ?_
 refine yA ?_
 refine yCl 15 Try.call27 (cdesc_ok x y z (by omega) (by omega) (by omega)) h11 ?_
 rintro v K w13 (⟨rfl, rfl⟩) h14
 refine ⟨_, rfl, ?_⟩
 have h15 := ap0 h14
 refine yB0 [] [2, 3] [(13, .bool false), (16, .bool false)] (.mk ?_)
 refine yK [(0, pV b), (3, pV r1), (4, pV r4), (13, .bool false)] fun lr16 => ?_
 refine yCf ?_
 refine ySk ?_
 refine ySq ?_
 refine gi_drw (id := 5) (ops := RA Try.f44 [1, 1, 0]) (Tr.fl 0 (Tr.fl 1 (Tr.fl 2 (Tr.fl 3 (Tr.fl 4 (Tr.fl 5 (Tr.an2 6 (Tr.fl 7 (Tr.fl 8 (Tr.fl 9 (Tr.an 10 (Tr.an 11 (Tr.fl 12 Tr.nil)))))) 10 (Tr.an 6 (Tr.fl 7 (Tr.fl 8 (Tr.fl 9 (Tr.an 11 (Tr.fl 12 Tr.nil))))))))))))) (by kernel_rfl) (by kernel_rfl) (by kernel_rfl) (by kernel_rfl) (by kernel_rfl) (fun _ _ d _ _ h => by cases d <;> exact h) h15 ?_
 intro w17 h18
 obtain ⟨s19, m20, p21, c22, E23, hM24, h25⟩ := tab_open h18
 have hRl_ := hM24.2
 refine yD _ [(24, iV y), (23, .pointer (some ⟨r1, 1, none⟩)), (22, .map (some m20)), (21, .pointer (some ⟨b, 1, none⟩)), (20, pV b), (19, pV b)] [e0 0, e0 1, e0 2, e2 3 [.map (some m20)], e0 4, e2 5 [iV y]] [(5, ⟨r1, 1, none⟩, iV y), (3, ⟨b, 1, none⟩, .map (some m20))] [] trivial (kC (sat_cell h25 5 rfl rfl) (kC (sat_cell h25 0 rfl rfl) nC)) ?_
 refine ⟨?_, ?_⟩
 ·
  refine draw_act (i := 6) [] (by kernel_rfl) (by kernel_rfl) ?_
  refine act_law (d := 25) (.tuple #[.agg #[iV e.d.1, iV e.d.2.1, uV e.d.2.2, iV e.num, iV e.h.1, uV e.h.2], .bool true]) (by kernel_rfl) rfl (law_lookupOk (t := 73) (z := .agg #[iV 0, iV 0, uV 0, iV 0, iV 0, uV 0]) (m := (Operand.tmp 22)) (x := (Operand.tmp 24)) (kv := kI) (ve := vE) (by kernel_rfl) Try.underlying73 kyI (by kernel_rfl) y (by kernel_rfl) (by kernel_rfl) (j := 2) h25 rfl (.agg #[iV e.d.1, iV e.d.2.1, uV e.d.2.2, iV e.num, iV e.h.1, uV e.h.2]) true (by rw [hM24.1.2.2 y, hg_]; exact ⟨rfl, rfl⟩)) ?_
  refine ⟨(AllC_nil _), ?_⟩
  refine yD _ [(27, .bool true), (26, .agg #[iV e.d.1, iV e.d.2.1, uV e.d.2.2, iV e.num, iV e.h.1, uV e.h.2]), (18, .tuple #[.agg #[iV e.d.1, iV e.d.2.1, uV e.d.2.2, iV e.num, iV e.h.1, uV e.h.2], .bool true])] [e0 7, e0 8, e0 9] [] [] trivial nC ?_
  refine draw_act (i := 10) [] (by kernel_rfl) (by kernel_rfl) ?_
  refine yNp 6 90 [iV 0, iV 0, uV 0, iV 0, iV 0, uV 0] h25 fun r26 w27 h28 => ?_
  refine ⟨(AllC_nil _), ?_⟩
  refine draw_act (i := 11) [] (by kernel_rfl) (by kernel_rfl) ?_
  refine yS [(0, iV e.d.1), (1, iV e.d.2.1), (2, uV e.d.2.2), (3, iV e.num), (4, iV e.h.1), (5, uV e.h.2)] [iV e.d.1, iV e.d.2.1, uV e.d.2.2, iV e.num, iV e.h.1, uV e.h.2] h28 fun w29 h30 => ?_
  refine ⟨(AllC_nil _), ?_⟩
  refine yD _ [(7, .bool true)] [e0 12] [] [] trivial nC ?_
  refine yK [(3, pV r1), (4, pV r4), (6, pV r26), (7, .bool true)] fun lr31 => ?_
  refine ySq ?_
  refine ySq ?_
  refine yPl [0, 1, 2, 3, 4, 5, 6, 7] ?_
  refine yBb [6, 7] [(33, .agg #[iV x, iV y, uV z]), (32, .agg #[iV e.d.1, iV e.d.2.1, uV e.d.2.2]), (31, pV r26), (30, .bool false), (29, .bool false), (28, .bool true)] [e0 0, e0 1, e0 2, e0 3, e2 4 [iV e.d.1, iV e.d.2.1, uV e.d.2.2], e2 5 [iV x, iV y, uV z]] [(5, ⟨r1, 0, none⟩, iV x), (5, ⟨r1, 1, none⟩, iV y), (5, ⟨r1, 2, none⟩, uV z), (4, ⟨r26, 0, none⟩, iV e.d.1), (4, ⟨r26, 1, none⟩, iV e.d.2.1), (4, ⟨r26, 2, none⟩, uV e.d.2.2)] [] trivial (kC (sat_cell h30 6 rfl rfl) (kC (sat_cell h30 6 rfl rfl) (kC (sat_cell h30 6 rfl rfl) (kC (sat_cell h30 0 rfl rfl) (kC (sat_cell h30 0 rfl rfl) (kC (sat_cell h30 0 rfl rfl) nC)))))) ?_
  refine plain_law (i := 6) 34 (.bool false) (by kernel_rfl) (seq28_neq_t (o := opA (RA Try.f44 [1, 1, 1, 0, 0]) 6) (x := (Operand.tmp 32)) (y := (Operand.tmp 33)) e.d.1 e.d.2.1 e.d.2.2 x y z (by kernel_rfl) (by kernel_rfl) (by kernel_rfl) ⟨(by omega), (by omega), (by omega)⟩ _) ?_
  refine yB0 [] [7] [(35, .bool false)] (.mk ?_)
  refine yK [(4, pV r4), (6, pV r26), (35, .bool false)] fun lr32 => ?_
  refine yCf ?_
  refine ySk ?_
  refine ySq ?_
  refine yPl [0, 1, 2] ?_
  refine yBb [1, 2] [(37, .agg #[iV e.d.1, iV e.d.2.1, uV e.d.2.2, iV e.num, iV e.h.1, uV e.h.2])] [e2 0 [iV e.d.1, iV e.d.2.1, uV e.d.2.2, iV e.num, iV e.h.1, uV e.h.2]] [(0, ⟨r26, 0, none⟩, iV e.d.1), (0, ⟨r26, 1, none⟩, iV e.d.2.1), (0, ⟨r26, 2, none⟩, uV e.d.2.2), (0, ⟨r26, 3, none⟩, iV e.num), (0, ⟨r26, 4, none⟩, iV e.h.1), (0, ⟨r26, 5, none⟩, uV e.h.2)] [] trivial (kC (sat_cell h30 0 rfl rfl) (kC (sat_cell h30 0 rfl rfl) (kC (sat_cell h30 0 rfl rfl) (kC (sat_cell h30 0 rfl rfl) (kC (sat_cell h30 0 rfl rfl) (kC (sat_cell h30 0 rfl rfl) nC)))))) ?_
  have h33 := tk8 (sf7 (sf6 (sf6 (sf6 (sf6 (sf6 (sf7 (sf7 h30))))))))
  refine yA ?_
  refine yS [(0, iV e.d.1), (1, iV e.d.2.1), (2, uV e.d.2.2), (3, iV e.num), (4, iV e.h.1), (5, uV e.h.2)] [iV e.d.1, iV e.d.2.1, uV e.d.2.2, iV e.num, iV e.h.1, uV e.h.2] h33 fun w34 h35 => ?_
  refine yB0 [] [2] [(5, iV 0)] (.mk ?_)
  refine yK [(4, pV r4), (5, iV 0)] fun lr36 => ?_
  refine yRt ?_
  repeat (first | simp only [Exit.inBlock] | simp only [Exit.then])
  have h37 := tk8 (sf7 (sf7 (sf7 (sf7 (sf3 (sf3 (sf7 (sf7 h35))))))))
  have h38 : sat g w34 [Tab b n A E RL, Cl r4 [iV e.d.1, iV e.d.2.1, uV e.d.2.2, iV e.num, iV e.h.1, uV e.h.2] 90, Cl r26 [iV e.d.1, iV e.d.2.1, uV e.d.2.2, iV e.num, iV e.h.1, uV e.h.2] 90, Cl r1 [iV x, iV y, uV z] 28, R] := tab_close hM24.1 (by omega) (by first | rfl | omega) h37
  have h39 := tk2 (sf1 (sf4 h38))
  refine hi_out [iV e.d.1, iV e.d.2.1, uV e.d.2.2, iV e.num, iV e.h.1, uV e.h.2] (.tuple #[.agg #[iV e.d.1, iV e.d.2.1, uV e.d.2.2, iV e.num, iV e.h.1, uV e.h.2], iV 0]) [(⟨r4, 0, none⟩, iV e.d.1), (⟨r4, 1, none⟩, iV e.d.2.1), (⟨r4, 2, none⟩, uV e.d.2.2), (⟨r4, 3, none⟩, iV e.num), (⟨r4, 4, none⟩, iV e.h.1), (⟨r4, 5, none⟩, uV e.h.2)] (by kernel_rfl) (allq ⟨sat_cell h35 0 rfl rfl, sat_cell h35 0 rfl rfl, sat_cell h35 0 rfl rfl, sat_cell h35 0 rfl rfl, sat_cell h35 0 rfl rfl, sat_cell h35 0 rfl rfl, trivial⟩) ?_
  exact ⟨.tuple #[.agg #[iV e.d.1, iV e.d.2.1, uV e.d.2.2, iV e.num, iV e.h.1, uV e.h.2], iV 0], [Tab b n A E RL], rfl, ⟨rfl, rfl⟩, h39⟩
 ·
  refine draw_act (i := 10) [(5, ⟨r1, 1, none⟩, iV y), (3, ⟨b, 1, none⟩, .map (some m20))] (by kernel_rfl) (by kernel_rfl) ?_
  refine yNp 6 90 [iV 0, iV 0, uV 0, iV 0, iV 0, uV 0] h25 fun r40 w41 h42 => ?_
  refine ⟨(AllC_cons (sat_cell h42 6 rfl rfl) (AllC_cons (sat_cell h42 1 rfl rfl) (AllC_nil _))), ?_⟩
  refine draw_act (i := 6) [] (by kernel_rfl) (by kernel_rfl) ?_
  refine act_law (d := 25) (.tuple #[.agg #[iV e.d.1, iV e.d.2.1, uV e.d.2.2, iV e.num, iV e.h.1, uV e.h.2], .bool true]) (by kernel_rfl) rfl (law_lookupOk (t := 73) (z := .agg #[iV 0, iV 0, uV 0, iV 0, iV 0, uV 0]) (m := (Operand.tmp 22)) (x := (Operand.tmp 24)) (kv := kI) (ve := vE) (by kernel_rfl) Try.underlying73 kyI (by kernel_rfl) y (by kernel_rfl) (by kernel_rfl) (j := 3) h42 rfl (.agg #[iV e.d.1, iV e.d.2.1, uV e.d.2.2, iV e.num, iV e.h.1, uV e.h.2]) true (by rw [hM24.1.2.2 y, hg_]; exact ⟨rfl, rfl⟩)) ?_
  refine ⟨(AllC_nil _), ?_⟩
  refine yD _ [(27, .bool true), (26, .agg #[iV e.d.1, iV e.d.2.1, uV e.d.2.2, iV e.num, iV e.h.1, uV e.h.2]), (18, .tuple #[.agg #[iV e.d.1, iV e.d.2.1, uV e.d.2.2, iV e.num, iV e.h.1, uV e.h.2], .bool true])] [e0 7, e0 8, e0 9] [] [] trivial nC ?_
  refine draw_act (i := 11) [] (by kernel_rfl) (by kernel_rfl) ?_
  refine yS [(0, iV e.d.1), (1, iV e.d.2.1), (2, uV e.d.2.2), (3, iV e.num), (4, iV e.h.1), (5, uV e.h.2)] [iV e.d.1, iV e.d.2.1, uV e.d.2.2, iV e.num, iV e.h.1, uV e.h.2] h42 fun w43 h44 => ?_
  refine ⟨(AllC_nil _), ?_⟩
  refine yD _ [(7, .bool true)] [e0 12] [] [] trivial nC ?_
  refine yK [(3, pV r1), (4, pV r4), (6, pV r40), (7, .bool true)] fun lr45 => ?_
  refine ySq ?_
  refine ySq ?_
  refine yPl [0, 1, 2, 3, 4, 5, 6, 7] ?_
  refine yBb [6, 7] [(33, .agg #[iV x, iV y, uV z]), (32, .agg #[iV e.d.1, iV e.d.2.1, uV e.d.2.2]), (31, pV r40), (30, .bool false), (29, .bool false), (28, .bool true)] [e0 0, e0 1, e0 2, e0 3, e2 4 [iV e.d.1, iV e.d.2.1, uV e.d.2.2], e2 5 [iV x, iV y, uV z]] [(5, ⟨r1, 0, none⟩, iV x), (5, ⟨r1, 1, none⟩, iV y), (5, ⟨r1, 2, none⟩, uV z), (4, ⟨r40, 0, none⟩, iV e.d.1), (4, ⟨r40, 1, none⟩, iV e.d.2.1), (4, ⟨r40, 2, none⟩, uV e.d.2.2)] [] trivial (kC (sat_cell h44 6 rfl rfl) (kC (sat_cell h44 6 rfl rfl) (kC (sat_cell h44 6 rfl rfl) (kC (sat_cell h44 0 rfl rfl) (kC (sat_cell h44 0 rfl rfl) (kC (sat_cell h44 0 rfl rfl) nC)))))) ?_
  refine plain_law (i := 6) 34 (.bool false) (by kernel_rfl) (seq28_neq_t (o := opA (RA Try.f44 [1, 1, 1, 0, 0]) 6) (x := (Operand.tmp 32)) (y := (Operand.tmp 33)) e.d.1 e.d.2.1 e.d.2.2 x y z (by kernel_rfl) (by kernel_rfl) (by kernel_rfl) ⟨(by omega), (by omega), (by omega)⟩ _) ?_
  refine yB0 [] [7] [(35, .bool false)] (.mk ?_)
  refine yK [(4, pV r4), (6, pV r40), (35, .bool false)] fun lr46 => ?_
  refine yCf ?_
  refine ySk ?_
  refine ySq ?_
  refine yPl [0, 1, 2] ?_
  refine yBb [1, 2] [(37, .agg #[iV e.d.1, iV e.d.2.1, uV e.d.2.2, iV e.num, iV e.h.1, uV e.h.2])] [e2 0 [iV e.d.1, iV e.d.2.1, uV e.d.2.2, iV e.num, iV e.h.1, uV e.h.2]] [(0, ⟨r40, 0, none⟩, iV e.d.1), (0, ⟨r40, 1, none⟩, iV e.d.2.1), (0, ⟨r40, 2, none⟩, uV e.d.2.2), (0, ⟨r40, 3, none⟩, iV e.num), (0, ⟨r40, 4, none⟩, iV e.h.1), (0, ⟨r40, 5, none⟩, uV e.h.2)] [] trivial (kC (sat_cell h44 0 rfl rfl) (kC (sat_cell h44 0 rfl rfl) (kC (sat_cell h44 0 rfl rfl) (kC (sat_cell h44 0 rfl rfl) (kC (sat_cell h44 0 rfl rfl) (kC (sat_cell h44 0 rfl rfl) nC)))))) ?_
  have h47 := tk8 (sf7 (sf6 (sf6 (sf6 (sf6 (sf6 (sf7 (sf7 h44))))))))
  refine yA ?_
  refine yS [(0, iV e.d.1), (1, iV e.d.2.1), (2, uV e.d.2.2), (3, iV e.num), (4, iV e.h.1), (5, uV e.h.2)] [iV e.d.1, iV e.d.2.1, uV e.d.2.2, iV e.num, iV e.h.1, uV e.h.2] h47 fun w48 h49 => ?_
  refine yB0 [] [2] [(5, iV 0)] (.mk ?_)
  refine yK [(4, pV r4), (5, iV 0)] fun lr50 => ?_
  refine yRt ?_
  repeat (first | simp only [Exit.inBlock] | simp only [Exit.then])
  have h51 := tk8 (sf7 (sf7 (sf7 (sf7 (sf3 (sf3 (sf7 (sf7 h49))))))))
  have h52 : sat g w48 [Tab b n A E RL, Cl r4 [iV e.d.1, iV e.d.2.1, uV e.d.2.2, iV e.num, iV e.h.1, uV e.h.2] 90, Cl r40 [iV e.d.1, iV e.d.2.1, uV e.d.2.2, iV e.num, iV e.h.1, uV e.h.2] 90, Cl r1 [iV x, iV y, uV z] 28, R] := tab_close hM24.1 (by omega) (by first | rfl | omega) h51
  have h53 := tk2 (sf1 (sf4 h52))
  refine hi_out [iV e.d.1, iV e.d.2.1, uV e.d.2.2, iV e.num, iV e.h.1, uV e.h.2] (.tuple #[.agg #[iV e.d.1, iV e.d.2.1, uV e.d.2.2, iV e.num, iV e.h.1, uV e.h.2], iV 0]) [(⟨r4, 0, none⟩, iV e.d.1), (⟨r4, 1, none⟩, iV e.d.2.1), (⟨r4, 2, none⟩, uV e.d.2.2), (⟨r4, 3, none⟩, iV e.num), (⟨r4, 4, none⟩, iV e.h.1), (⟨r4, 5, none⟩, uV e.h.2)] (by kernel_rfl) (allq ⟨sat_cell h49 0 rfl rfl, sat_cell h49 0 rfl rfl, sat_cell h49 0 rfl rfl, sat_cell h49 0 rfl rfl, sat_cell h49 0 rfl rfl, sat_cell h49 0 rfl rfl, trivial⟩) ?_
  exact ⟨.tuple #[.agg #[iV e.d.1, iV e.d.2.1, uV e.d.2.2, iV e.num, iV e.h.1, uV e.h.2], iV 0], [Tab b n A E RL], rfl, ⟨rfl, rfl⟩, h53⟩

set_option maxHeartbeats 4000000 in
theorem tfind_diff (b n : Nat) (A : List Sl2) (E : Tm) (RL : List Rs) (x y z : Int) (e : Ety) (hz0 : 0 ≤ z) (hz1 : z ≤ 4294967295) (ho : 1 ≤ x ∧ x ≤ 3 ∧ 0 ≤ y ∧ y ≤ 255 ∧ 1 ≤ z) (hg_ : gget E y = some e) (hd_ : ¬ (e.d.1 = x ∧ e.d.2.1 = y ∧ e.d.2.2 = z)) : HT Try.prog 44 [Value.pointer (some ⟨b, 0, none⟩), Value.agg #[Value.int IntKind.i64 x, Value.int IntKind.i64 y, Value.int IntKind.u32 z]] [Tab b n A E RL] (fun v K => v = Value.tuple #[Value.agg #[Value.int IntKind.i64 0, Value.int IntKind.i64 0, Value.int IntKind.u32 0, Value.int IntKind.i64 0, Value.int IntKind.i64 0, Value.int IntKind.u32 0], Value.int IntKind.i64 7] ∧ K = [Tab b n A E RL]) := by
 refine hi_in 38 ([(0, pV b), (1, .agg #[iV x, iV y, uV z])] : Fr) Try.func44 (by kernel_rfl) Try.ntmps44 rfl rfl ?_
 intro g w0 R h0
 refine ySq ?_
 refine yPl [0, 1, 2] ?_
 refine yA ?_
 refine yNp 3 28 [iV x, iV y, uV z] h0 fun r1 w2 h3 => ?_
 refine yA ?_
 refine yNp 4 90 [iV 0, iV 0, uV 0, iV 0, iV 0, uV 0] h3 fun r4 w5 h6 => ?_
 refine yB0 [] [2] [(5, iV 0)] (.mk ?_)
 refine yK [(0, pV b), (3, pV r1), (4, pV r4)] fun lr7 => ?_
 refine ySq ?_
 refine yBk 0 ?_
 refine ySq ?_
 refine yPl [0, 1, 2, 3] ?_
 refine yB0 [1, 2, 3] [0] [(9, pV b)] ?_
 have h8 := tk4 (sf3 (sf2 (sf2 (sf3 h6))))
 refine yA ?_
 refine yCl 10 Try.call36 (tvalid_ht b n A E RL) h8 ?_
 rintro v K w9 (⟨rfl, rfl⟩) h10
 refine ⟨_, rfl, ?_⟩
 have h11 := ap1 h10
 refine yB0 [] [2, 3] [(8, .bool false), (11, .bool false)] (.mk ?_)
 refine yK [(0, pV b), (3, pV r1), (4, pV r4), (8, .bool false)] fun lr12 => ?_
 refine yCf ?_
 refine ySq ?_
 refine yPl [0, 1, 2, 3] ?_
 refine yBb [1, 2, 3] [(14, .agg #[iV x, iV y, uV z])] [e2 0 [iV x, iV y, uV z]] [(0, ⟨r1, 0, none⟩, iV x), (0, ⟨r1, 1, none⟩, iV y), (0, ⟨r1, 2, none⟩, uV z)] [] trivial (kC (sat_cell h11 2 rfl rfl) (kC (sat_cell h11 2 rfl rfl) (kC (sat_cell h11 2 rfl rfl) nC))) ?_
 refine yA ?_
 refine yCl 15 Try.call27 (cdesc_ok x y z (by omega) (by omega) (by omega)) h11 ?_
 rintro v K w13 (⟨rfl, rfl⟩) h14
 refine ⟨_, rfl, ?_⟩
 have h15 := ap0 h14
 refine yB0 [] [2, 3] [(13, .bool false), (16, .bool false)] (.mk ?_)
 refine yK [(0, pV b), (3, pV r1), (4, pV r4), (13, .bool false)] fun lr16 => ?_
 refine yCf ?_
 refine ySk ?_
 refine ySq ?_
 refine gi_drw (id := 5) (ops := RA Try.f44 [1, 1, 0]) (Tr.fl 0 (Tr.fl 1 (Tr.fl 2 (Tr.fl 3 (Tr.fl 4 (Tr.fl 5 (Tr.an2 6 (Tr.fl 7 (Tr.fl 8 (Tr.fl 9 (Tr.an 10 (Tr.an 11 (Tr.fl 12 Tr.nil)))))) 10 (Tr.an 6 (Tr.fl 7 (Tr.fl 8 (Tr.fl 9 (Tr.an 11 (Tr.fl 12 Tr.nil))))))))))))) (by kernel_rfl) (by kernel_rfl) (by kernel_rfl) (by kernel_rfl) (by kernel_rfl) (fun _ _ d _ _ h => by cases d <;> exact h) h15 ?_
 intro w17 h18
 obtain ⟨s19, m20, p21, c22, E23, hM24, h25⟩ := tab_open h18
 have hRl_ := hM24.2
 refine yD _ [(24, iV y), (23, .pointer (some ⟨r1, 1, none⟩)), (22, .map (some m20)), (21, .pointer (some ⟨b, 1, none⟩)), (20, pV b), (19, pV b)] [e0 0, e0 1, e0 2, e2 3 [.map (some m20)], e0 4, e2 5 [iV y]] [(5, ⟨r1, 1, none⟩, iV y), (3, ⟨b, 1, none⟩, .map (some m20))] [] trivial (kC (sat_cell h25 5 rfl rfl) (kC (sat_cell h25 0 rfl rfl) nC)) ?_
 refine ⟨?_, ?_⟩
 ·
  refine draw_act (i := 6) [] (by kernel_rfl) (by kernel_rfl) ?_
  refine act_law (d := 25) (.tuple #[.agg #[iV e.d.1, iV e.d.2.1, uV e.d.2.2, iV e.num, iV e.h.1, uV e.h.2], .bool true]) (by kernel_rfl) rfl (law_lookupOk (t := 73) (z := .agg #[iV 0, iV 0, uV 0, iV 0, iV 0, uV 0]) (m := (Operand.tmp 22)) (x := (Operand.tmp 24)) (kv := kI) (ve := vE) (by kernel_rfl) Try.underlying73 kyI (by kernel_rfl) y (by kernel_rfl) (by kernel_rfl) (j := 2) h25 rfl (.agg #[iV e.d.1, iV e.d.2.1, uV e.d.2.2, iV e.num, iV e.h.1, uV e.h.2]) true (by rw [hM24.1.2.2 y, hg_]; exact ⟨rfl, rfl⟩)) ?_
  refine ⟨(AllC_nil _), ?_⟩
  refine yD _ [(27, .bool true), (26, .agg #[iV e.d.1, iV e.d.2.1, uV e.d.2.2, iV e.num, iV e.h.1, uV e.h.2]), (18, .tuple #[.agg #[iV e.d.1, iV e.d.2.1, uV e.d.2.2, iV e.num, iV e.h.1, uV e.h.2], .bool true])] [e0 7, e0 8, e0 9] [] [] trivial nC ?_
  refine draw_act (i := 10) [] (by kernel_rfl) (by kernel_rfl) ?_
  refine yNp 6 90 [iV 0, iV 0, uV 0, iV 0, iV 0, uV 0] h25 fun r26 w27 h28 => ?_
  refine ⟨(AllC_nil _), ?_⟩
  refine draw_act (i := 11) [] (by kernel_rfl) (by kernel_rfl) ?_
  refine yS [(0, iV e.d.1), (1, iV e.d.2.1), (2, uV e.d.2.2), (3, iV e.num), (4, iV e.h.1), (5, uV e.h.2)] [iV e.d.1, iV e.d.2.1, uV e.d.2.2, iV e.num, iV e.h.1, uV e.h.2] h28 fun w29 h30 => ?_
  refine ⟨(AllC_nil _), ?_⟩
  refine yD _ [(7, .bool true)] [e0 12] [] [] trivial nC ?_
  refine yK [(3, pV r1), (4, pV r4), (6, pV r26), (7, .bool true)] fun lr31 => ?_
  refine ySq ?_
  refine ySq ?_
  refine yPl [0, 1, 2, 3, 4, 5, 6, 7] ?_
  refine yBb [6, 7] [(33, .agg #[iV x, iV y, uV z]), (32, .agg #[iV e.d.1, iV e.d.2.1, uV e.d.2.2]), (31, pV r26), (30, .bool false), (29, .bool false), (28, .bool true)] [e0 0, e0 1, e0 2, e0 3, e2 4 [iV e.d.1, iV e.d.2.1, uV e.d.2.2], e2 5 [iV x, iV y, uV z]] [(5, ⟨r1, 0, none⟩, iV x), (5, ⟨r1, 1, none⟩, iV y), (5, ⟨r1, 2, none⟩, uV z), (4, ⟨r26, 0, none⟩, iV e.d.1), (4, ⟨r26, 1, none⟩, iV e.d.2.1), (4, ⟨r26, 2, none⟩, uV e.d.2.2)] [] trivial (kC (sat_cell h30 6 rfl rfl) (kC (sat_cell h30 6 rfl rfl) (kC (sat_cell h30 6 rfl rfl) (kC (sat_cell h30 0 rfl rfl) (kC (sat_cell h30 0 rfl rfl) (kC (sat_cell h30 0 rfl rfl) nC)))))) ?_
  by_cases c32 : e.d.1 = x
  ·
   by_cases c33 : e.d.2.1 = y
   ·
    refine plain_law (i := 6) 34 (.bool true) (by kernel_rfl) (seq28_neq_f (o := opA (RA Try.f44 [1, 1, 1, 0, 0]) 6) (x := (Operand.tmp 32)) (y := (Operand.tmp 33)) e.d.1 e.d.2.1 e.d.2.2 x y z (by kernel_rfl) (by kernel_rfl) (by kernel_rfl) (by omega) _) ?_
    refine yB0 [] [7] [(35, .bool true)] (.mk ?_)
    refine yK [(4, pV r4), (6, pV r26), (35, .bool true)] fun lr34 => ?_
    refine yCt ?_
    refine ySq ?_
    refine yPl [0, 1, 2] ?_
    refine yB0 [1, 2] [0] [(36, .agg #[iV 0, iV 0, uV 0, iV 0, iV 0, uV 0])] ?_
    have h35 := tk8 (sf7 (sf6 (sf6 (sf6 (sf6 (sf6 (sf7 (sf7 h30))))))))
    refine yA ?_
    refine yS [(0, iV 0), (1, iV 0), (2, uV 0), (3, iV 0), (4, iV 0), (5, uV 0)] [iV 0, iV 0, uV 0, iV 0, iV 0, uV 0] h35 fun w36 h37 => ?_
    refine yB0 [] [2] [(5, iV 7)] (.mk ?_)
    refine yK [(4, pV r4), (5, iV 7)] fun lr38 => ?_
    refine yRt ?_
    repeat (first | simp only [Exit.inBlock] | simp only [Exit.then])
    have h39 := tk8 (sf7 (sf7 (sf7 (sf7 (sf3 (sf3 (sf7 (sf7 h37))))))))
    have h40 : sat g w36 [Tab b n A E RL, Cl r4 [iV 0, iV 0, uV 0, iV 0, iV 0, uV 0] 90, Cl r26 [iV e.d.1, iV e.d.2.1, uV e.d.2.2, iV e.num, iV e.h.1, uV e.h.2] 90, Cl r1 [iV x, iV y, uV z] 28, R] := tab_close hM24.1 (by omega) (by first | rfl | omega) h39
    have h41 := tk2 (sf1 (sf4 h40))
    refine hi_out [iV 0, iV 0, uV 0, iV 0, iV 0, uV 0] (.tuple #[.agg #[iV 0, iV 0, uV 0, iV 0, iV 0, uV 0], iV 7]) [(⟨r4, 0, none⟩, iV 0), (⟨r4, 1, none⟩, iV 0), (⟨r4, 2, none⟩, uV 0), (⟨r4, 3, none⟩, iV 0), (⟨r4, 4, none⟩, iV 0), (⟨r4, 5, none⟩, uV 0)] (by kernel_rfl) (allq ⟨sat_cell h37 0 rfl rfl, sat_cell h37 0 rfl rfl, sat_cell h37 0 rfl rfl, sat_cell h37 0 rfl rfl, sat_cell h37 0 rfl rfl, sat_cell h37 0 rfl rfl, trivial⟩) ?_
    exact ⟨.tuple #[.agg #[iV 0, iV 0, uV 0, iV 0, iV 0, uV 0], iV 7], [Tab b n A E RL], rfl, ⟨rfl, rfl⟩, h41⟩
   ·
    refine plain_law (i := 6) 34 (.bool true) (by kernel_rfl) (seq28_neq_f (o := opA (RA Try.f44 [1, 1, 1, 0, 0]) 6) (x := (Operand.tmp 32)) (y := (Operand.tmp 33)) e.d.1 e.d.2.1 e.d.2.2 x y z (by kernel_rfl) (by kernel_rfl) (by kernel_rfl) (by omega) _) ?_
    refine yB0 [] [7] [(35, .bool true)] (.mk ?_)
    refine yK [(4, pV r4), (6, pV r26), (35, .bool true)] fun lr42 => ?_
    refine yCt ?_
    refine ySq ?_
    refine yPl [0, 1, 2] ?_
    refine yB0 [1, 2] [0] [(36, .agg #[iV 0, iV 0, uV 0, iV 0, iV 0, uV 0])] ?_
    have h43 := tk8 (sf7 (sf6 (sf6 (sf6 (sf6 (sf6 (sf7 (sf7 h30))))))))
    refine yA ?_
    refine yS [(0, iV 0), (1, iV 0), (2, uV 0), (3, iV 0), (4, iV 0), (5, uV 0)] [iV 0, iV 0, uV 0, iV 0, iV 0, uV 0] h43 fun w44 h45 => ?_
    refine yB0 [] [2] [(5, iV 7)] (.mk ?_)
    refine yK [(4, pV r4), (5, iV 7)] fun lr46 => ?_
    refine yRt ?_
    repeat (first | simp only [Exit.inBlock] | simp only [Exit.then])
    have h47 := tk8 (sf7 (sf7 (sf7 (sf7 (sf3 (sf3 (sf7 (sf7 h45))))))))
    have h48 : sat g w44 [Tab b n A E RL, Cl r4 [iV 0, iV 0, uV 0, iV 0, iV 0, uV 0] 90, Cl r26 [iV e.d.1, iV e.d.2.1, uV e.d.2.2, iV e.num, iV e.h.1, uV e.h.2] 90, Cl r1 [iV x, iV y, uV z] 28, R] := tab_close hM24.1 (by omega) (by first | rfl | omega) h47
    have h49 := tk2 (sf1 (sf4 h48))
    refine hi_out [iV 0, iV 0, uV 0, iV 0, iV 0, uV 0] (.tuple #[.agg #[iV 0, iV 0, uV 0, iV 0, iV 0, uV 0], iV 7]) [(⟨r4, 0, none⟩, iV 0), (⟨r4, 1, none⟩, iV 0), (⟨r4, 2, none⟩, uV 0), (⟨r4, 3, none⟩, iV 0), (⟨r4, 4, none⟩, iV 0), (⟨r4, 5, none⟩, uV 0)] (by kernel_rfl) (allq ⟨sat_cell h45 0 rfl rfl, sat_cell h45 0 rfl rfl, sat_cell h45 0 rfl rfl, sat_cell h45 0 rfl rfl, sat_cell h45 0 rfl rfl, sat_cell h45 0 rfl rfl, trivial⟩) ?_
    exact ⟨.tuple #[.agg #[iV 0, iV 0, uV 0, iV 0, iV 0, uV 0], iV 7], [Tab b n A E RL], rfl, ⟨rfl, rfl⟩, h49⟩
  ·
   refine plain_law (i := 6) 34 (.bool true) (by kernel_rfl) (seq28_neq_f (o := opA (RA Try.f44 [1, 1, 1, 0, 0]) 6) (x := (Operand.tmp 32)) (y := (Operand.tmp 33)) e.d.1 e.d.2.1 e.d.2.2 x y z (by kernel_rfl) (by kernel_rfl) (by kernel_rfl) (by omega) _) ?_
   refine yB0 [] [7] [(35, .bool true)] (.mk ?_)
   refine yK [(4, pV r4), (6, pV r26), (35, .bool true)] fun lr50 => ?_
   refine yCt ?_
   refine ySq ?_
   refine yPl [0, 1, 2] ?_
   refine yB0 [1, 2] [0] [(36, .agg #[iV 0, iV 0, uV 0, iV 0, iV 0, uV 0])] ?_
   have h51 := tk8 (sf7 (sf6 (sf6 (sf6 (sf6 (sf6 (sf7 (sf7 h30))))))))
   refine yA ?_
   refine yS [(0, iV 0), (1, iV 0), (2, uV 0), (3, iV 0), (4, iV 0), (5, uV 0)] [iV 0, iV 0, uV 0, iV 0, iV 0, uV 0] h51 fun w52 h53 => ?_
   refine yB0 [] [2] [(5, iV 7)] (.mk ?_)
   refine yK [(4, pV r4), (5, iV 7)] fun lr54 => ?_
   refine yRt ?_
   repeat (first | simp only [Exit.inBlock] | simp only [Exit.then])
   have h55 := tk8 (sf7 (sf7 (sf7 (sf7 (sf3 (sf3 (sf7 (sf7 h53))))))))
   have h56 : sat g w52 [Tab b n A E RL, Cl r4 [iV 0, iV 0, uV 0, iV 0, iV 0, uV 0] 90, Cl r26 [iV e.d.1, iV e.d.2.1, uV e.d.2.2, iV e.num, iV e.h.1, uV e.h.2] 90, Cl r1 [iV x, iV y, uV z] 28, R] := tab_close hM24.1 (by omega) (by first | rfl | omega) h55
   have h57 := tk2 (sf1 (sf4 h56))
   refine hi_out [iV 0, iV 0, uV 0, iV 0, iV 0, uV 0] (.tuple #[.agg #[iV 0, iV 0, uV 0, iV 0, iV 0, uV 0], iV 7]) [(⟨r4, 0, none⟩, iV 0), (⟨r4, 1, none⟩, iV 0), (⟨r4, 2, none⟩, uV 0), (⟨r4, 3, none⟩, iV 0), (⟨r4, 4, none⟩, iV 0), (⟨r4, 5, none⟩, uV 0)] (by kernel_rfl) (allq ⟨sat_cell h53 0 rfl rfl, sat_cell h53 0 rfl rfl, sat_cell h53 0 rfl rfl, sat_cell h53 0 rfl rfl, sat_cell h53 0 rfl rfl, sat_cell h53 0 rfl rfl, trivial⟩) ?_
   exact ⟨.tuple #[.agg #[iV 0, iV 0, uV 0, iV 0, iV 0, uV 0], iV 7], [Tab b n A E RL], rfl, ⟨rfl, rfl⟩, h57⟩
 ·
  refine draw_act (i := 10) [(5, ⟨r1, 1, none⟩, iV y), (3, ⟨b, 1, none⟩, .map (some m20))] (by kernel_rfl) (by kernel_rfl) ?_
  refine yNp 6 90 [iV 0, iV 0, uV 0, iV 0, iV 0, uV 0] h25 fun r58 w59 h60 => ?_
  refine ⟨(AllC_cons (sat_cell h60 6 rfl rfl) (AllC_cons (sat_cell h60 1 rfl rfl) (AllC_nil _))), ?_⟩
  refine draw_act (i := 6) [] (by kernel_rfl) (by kernel_rfl) ?_
  refine act_law (d := 25) (.tuple #[.agg #[iV e.d.1, iV e.d.2.1, uV e.d.2.2, iV e.num, iV e.h.1, uV e.h.2], .bool true]) (by kernel_rfl) rfl (law_lookupOk (t := 73) (z := .agg #[iV 0, iV 0, uV 0, iV 0, iV 0, uV 0]) (m := (Operand.tmp 22)) (x := (Operand.tmp 24)) (kv := kI) (ve := vE) (by kernel_rfl) Try.underlying73 kyI (by kernel_rfl) y (by kernel_rfl) (by kernel_rfl) (j := 3) h60 rfl (.agg #[iV e.d.1, iV e.d.2.1, uV e.d.2.2, iV e.num, iV e.h.1, uV e.h.2]) true (by rw [hM24.1.2.2 y, hg_]; exact ⟨rfl, rfl⟩)) ?_
  refine ⟨(AllC_nil _), ?_⟩
  refine yD _ [(27, .bool true), (26, .agg #[iV e.d.1, iV e.d.2.1, uV e.d.2.2, iV e.num, iV e.h.1, uV e.h.2]), (18, .tuple #[.agg #[iV e.d.1, iV e.d.2.1, uV e.d.2.2, iV e.num, iV e.h.1, uV e.h.2], .bool true])] [e0 7, e0 8, e0 9] [] [] trivial nC ?_
  refine draw_act (i := 11) [] (by kernel_rfl) (by kernel_rfl) ?_
  refine yS [(0, iV e.d.1), (1, iV e.d.2.1), (2, uV e.d.2.2), (3, iV e.num), (4, iV e.h.1), (5, uV e.h.2)] [iV e.d.1, iV e.d.2.1, uV e.d.2.2, iV e.num, iV e.h.1, uV e.h.2] h60 fun w61 h62 => ?_
  refine ⟨(AllC_nil _), ?_⟩
  refine yD _ [(7, .bool true)] [e0 12] [] [] trivial nC ?_
  refine yK [(3, pV r1), (4, pV r4), (6, pV r58), (7, .bool true)] fun lr63 => ?_
  refine ySq ?_
  refine ySq ?_
  refine yPl [0, 1, 2, 3, 4, 5, 6, 7] ?_
  refine yBb [6, 7] [(33, .agg #[iV x, iV y, uV z]), (32, .agg #[iV e.d.1, iV e.d.2.1, uV e.d.2.2]), (31, pV r58), (30, .bool false), (29, .bool false), (28, .bool true)] [e0 0, e0 1, e0 2, e0 3, e2 4 [iV e.d.1, iV e.d.2.1, uV e.d.2.2], e2 5 [iV x, iV y, uV z]] [(5, ⟨r1, 0, none⟩, iV x), (5, ⟨r1, 1, none⟩, iV y), (5, ⟨r1, 2, none⟩, uV z), (4, ⟨r58, 0, none⟩, iV e.d.1), (4, ⟨r58, 1, none⟩, iV e.d.2.1), (4, ⟨r58, 2, none⟩, uV e.d.2.2)] [] trivial (kC (sat_cell h62 6 rfl rfl) (kC (sat_cell h62 6 rfl rfl) (kC (sat_cell h62 6 rfl rfl) (kC (sat_cell h62 0 rfl rfl) (kC (sat_cell h62 0 rfl rfl) (kC (sat_cell h62 0 rfl rfl) nC)))))) ?_
  by_cases c64 : e.d.1 = x
  ·
   by_cases c65 : e.d.2.1 = y
   ·
    refine plain_law (i := 6) 34 (.bool true) (by kernel_rfl) (seq28_neq_f (o := opA (RA Try.f44 [1, 1, 1, 0, 0]) 6) (x := (Operand.tmp 32)) (y := (Operand.tmp 33)) e.d.1 e.d.2.1 e.d.2.2 x y z (by kernel_rfl) (by kernel_rfl) (by kernel_rfl) (by omega) _) ?_
    refine yB0 [] [7] [(35, .bool true)] (.mk ?_)
    refine yK [(4, pV r4), (6, pV r58), (35, .bool true)] fun lr66 => ?_
    refine yCt ?_
    refine ySq ?_
    refine yPl [0, 1, 2] ?_
    refine yB0 [1, 2] [0] [(36, .agg #[iV 0, iV 0, uV 0, iV 0, iV 0, uV 0])] ?_
    have h67 := tk8 (sf7 (sf6 (sf6 (sf6 (sf6 (sf6 (sf7 (sf7 h62))))))))
    refine yA ?_
    refine yS [(0, iV 0), (1, iV 0), (2, uV 0), (3, iV 0), (4, iV 0), (5, uV 0)] [iV 0, iV 0, uV 0, iV 0, iV 0, uV 0] h67 fun w68 h69 => ?_
    refine yB0 [] [2] [(5, iV 7)] (.mk ?_)
    refine yK [(4, pV r4), (5, iV 7)] fun lr70 => ?_
    refine yRt ?_
    repeat (first | simp only [Exit.inBlock] | simp only [Exit.then])
    have h71 := tk8 (sf7 (sf7 (sf7 (sf7 (sf3 (sf3 (sf7 (sf7 h69))))))))
    have h72 : sat g w68 [Tab b n A E RL, Cl r4 [iV 0, iV 0, uV 0, iV 0, iV 0, uV 0] 90, Cl r58 [iV e.d.1, iV e.d.2.1, uV e.d.2.2, iV e.num, iV e.h.1, uV e.h.2] 90, Cl r1 [iV x, iV y, uV z] 28, R] := tab_close hM24.1 (by omega) (by first | rfl | omega) h71
    have h73 := tk2 (sf1 (sf4 h72))
    refine hi_out [iV 0, iV 0, uV 0, iV 0, iV 0, uV 0] (.tuple #[.agg #[iV 0, iV 0, uV 0, iV 0, iV 0, uV 0], iV 7]) [(⟨r4, 0, none⟩, iV 0), (⟨r4, 1, none⟩, iV 0), (⟨r4, 2, none⟩, uV 0), (⟨r4, 3, none⟩, iV 0), (⟨r4, 4, none⟩, iV 0), (⟨r4, 5, none⟩, uV 0)] (by kernel_rfl) (allq ⟨sat_cell h69 0 rfl rfl, sat_cell h69 0 rfl rfl, sat_cell h69 0 rfl rfl, sat_cell h69 0 rfl rfl, sat_cell h69 0 rfl rfl, sat_cell h69 0 rfl rfl, trivial⟩) ?_
    exact ⟨.tuple #[.agg #[iV 0, iV 0, uV 0, iV 0, iV 0, uV 0], iV 7], [Tab b n A E RL], rfl, ⟨rfl, rfl⟩, h73⟩
   ·
    refine plain_law (i := 6) 34 (.bool true) (by kernel_rfl) (seq28_neq_f (o := opA (RA Try.f44 [1, 1, 1, 0, 0]) 6) (x := (Operand.tmp 32)) (y := (Operand.tmp 33)) e.d.1 e.d.2.1 e.d.2.2 x y z (by kernel_rfl) (by kernel_rfl) (by kernel_rfl) (by omega) _) ?_
    refine yB0 [] [7] [(35, .bool true)] (.mk ?_)
    refine yK [(4, pV r4), (6, pV r58), (35, .bool true)] fun lr74 => ?_
    refine yCt ?_
    refine ySq ?_
    refine yPl [0, 1, 2] ?_
    refine yB0 [1, 2] [0] [(36, .agg #[iV 0, iV 0, uV 0, iV 0, iV 0, uV 0])] ?_
    have h75 := tk8 (sf7 (sf6 (sf6 (sf6 (sf6 (sf6 (sf7 (sf7 h62))))))))
    refine yA ?_
    refine yS [(0, iV 0), (1, iV 0), (2, uV 0), (3, iV 0), (4, iV 0), (5, uV 0)] [iV 0, iV 0, uV 0, iV 0, iV 0, uV 0] h75 fun w76 h77 => ?_
    refine yB0 [] [2] [(5, iV 7)] (.mk ?_)
    refine yK [(4, pV r4), (5, iV 7)] fun lr78 => ?_
    refine yRt ?_
    repeat (first | simp only [Exit.inBlock] | simp only [Exit.then])
    have h79 := tk8 (sf7 (sf7 (sf7 (sf7 (sf3 (sf3 (sf7 (sf7 h77))))))))
    have h80 : sat g w76 [Tab b n A E RL, Cl r4 [iV 0, iV 0, uV 0, iV 0, iV 0, uV 0] 90, Cl r58 [iV e.d.1, iV e.d.2.1, uV e.d.2.2, iV e.num, iV e.h.1, uV e.h.2] 90, Cl r1 [iV x, iV y, uV z] 28, R] := tab_close hM24.1 (by omega) (by first | rfl | omega) h79
    have h81 := tk2 (sf1 (sf4 h80))
    refine hi_out [iV 0, iV 0, uV 0, iV 0, iV 0, uV 0] (.tuple #[.agg #[iV 0, iV 0, uV 0, iV 0, iV 0, uV 0], iV 7]) [(⟨r4, 0, none⟩, iV 0), (⟨r4, 1, none⟩, iV 0), (⟨r4, 2, none⟩, uV 0), (⟨r4, 3, none⟩, iV 0), (⟨r4, 4, none⟩, iV 0), (⟨r4, 5, none⟩, uV 0)] (by kernel_rfl) (allq ⟨sat_cell h77 0 rfl rfl, sat_cell h77 0 rfl rfl, sat_cell h77 0 rfl rfl, sat_cell h77 0 rfl rfl, sat_cell h77 0 rfl rfl, sat_cell h77 0 rfl rfl, trivial⟩) ?_
    exact ⟨.tuple #[.agg #[iV 0, iV 0, uV 0, iV 0, iV 0, uV 0], iV 7], [Tab b n A E RL], rfl, ⟨rfl, rfl⟩, h81⟩
  ·
   refine plain_law (i := 6) 34 (.bool true) (by kernel_rfl) (seq28_neq_f (o := opA (RA Try.f44 [1, 1, 1, 0, 0]) 6) (x := (Operand.tmp 32)) (y := (Operand.tmp 33)) e.d.1 e.d.2.1 e.d.2.2 x y z (by kernel_rfl) (by kernel_rfl) (by kernel_rfl) (by omega) _) ?_
   refine yB0 [] [7] [(35, .bool true)] (.mk ?_)
   refine yK [(4, pV r4), (6, pV r58), (35, .bool true)] fun lr82 => ?_
   refine yCt ?_
   refine ySq ?_
   refine yPl [0, 1, 2] ?_
   refine yB0 [1, 2] [0] [(36, .agg #[iV 0, iV 0, uV 0, iV 0, iV 0, uV 0])] ?_
   have h83 := tk8 (sf7 (sf6 (sf6 (sf6 (sf6 (sf6 (sf7 (sf7 h62))))))))
   refine yA ?_
   refine yS [(0, iV 0), (1, iV 0), (2, uV 0), (3, iV 0), (4, iV 0), (5, uV 0)] [iV 0, iV 0, uV 0, iV 0, iV 0, uV 0] h83 fun w84 h85 => ?_
   refine yB0 [] [2] [(5, iV 7)] (.mk ?_)
   refine yK [(4, pV r4), (5, iV 7)] fun lr86 => ?_
   refine yRt ?_
   repeat (first | simp only [Exit.inBlock] | simp only [Exit.then])
   have h87 := tk8 (sf7 (sf7 (sf7 (sf7 (sf3 (sf3 (sf7 (sf7 h85))))))))
   have h88 : sat g w84 [Tab b n A E RL, Cl r4 [iV 0, iV 0, uV 0, iV 0, iV 0, uV 0] 90, Cl r58 [iV e.d.1, iV e.d.2.1, uV e.d.2.2, iV e.num, iV e.h.1, uV e.h.2] 90, Cl r1 [iV x, iV y, uV z] 28, R] := tab_close hM24.1 (by omega) (by first | rfl | omega) h87
   have h89 := tk2 (sf1 (sf4 h88))
   refine hi_out [iV 0, iV 0, uV 0, iV 0, iV 0, uV 0] (.tuple #[.agg #[iV 0, iV 0, uV 0, iV 0, iV 0, uV 0], iV 7]) [(⟨r4, 0, none⟩, iV 0), (⟨r4, 1, none⟩, iV 0), (⟨r4, 2, none⟩, uV 0), (⟨r4, 3, none⟩, iV 0), (⟨r4, 4, none⟩, iV 0), (⟨r4, 5, none⟩, uV 0)] (by kernel_rfl) (allq ⟨sat_cell h85 0 rfl rfl, sat_cell h85 0 rfl rfl, sat_cell h85 0 rfl rfl, sat_cell h85 0 rfl rfl, sat_cell h85 0 rfl rfl, sat_cell h85 0 rfl rfl, trivial⟩) ?_
   exact ⟨.tuple #[.agg #[iV 0, iV 0, uV 0, iV 0, iV 0, uV 0], iV 7], [Tab b n A E RL], rfl, ⟨rfl, rfl⟩, h89⟩

set_option maxHeartbeats 4000000 in
theorem tlen_ht (b n : Nat) (A : List Sl2) (E : Tm) (RL : List Rs) : HT Try.prog 22 [Value.pointer (some ⟨b, 0, none⟩)] [Tab b n A E RL] (fun v K => v = Value.int IntKind.i64 (((RL.length : Nat) : Int)) ∧ K = [Tab b n A E RL]) := by
 refine hi_in 11 ([(0, pV b)] : Fr) Try.func22 (by kernel_rfl) Try.ntmps22 rfl rfl ?_
 intro g w0 R h0
 refine ySq ?_
 refine yPl [0] ?_
 refine yB0 [] [0] [(2, iV 0)] (.mk ?_)
 refine yK [(0, pV b)] fun lr1 => ?_
 refine ySq ?_
 refine ySq ?_
 refine yPl [0, 1, 2] ?_
 refine yB0 [1, 2] [0] [(3, pV b)] ?_
 refine yA ?_
 refine yCl 4 Try.call36 (tvalid_ht b n A E RL) h0 ?_
 rintro v K w2 (⟨rfl, rfl⟩) h3
 refine ⟨_, rfl, ?_⟩
 have h4 := ap1 h3
 refine yB0 [] [2] [(5, .bool false)] (.mk ?_)
 refine yK [(0, pV b), (5, .bool false)] fun lr5 => ?_
 refine yCf ?_
 refine ySk ?_
 refine ySq ?_
 refine yPl [0, 1, 2, 3, 4, 5] ?_
 obtain ⟨s6, m7, p8, c9, E10, hM11, h12⟩ := tab_open h4
 have hRl_ := hM11.2
 refine yBb [] [(2, iV (((RL.length : Nat) : Int))), (10, iV (((RL.length : Nat) : Int))), (9, .slice p8 RL.length c9), (8, .pointer (some ⟨b, 2, none⟩)), (7, pV b), (6, pV b)] [e0 0, e0 1, e0 2, e2 3 [.slice p8 RL.length c9], e0 4, e0 5] [(3, ⟨b, 2, none⟩, .slice p8 RL.length c9)] [] trivial (kC (sat_cell h12 0 rfl rfl) nC) (.mk ?_)
 refine yK [(2, iV (((RL.length : Nat) : Int)))] fun lr13 => ?_
 refine yRt ?_
 repeat (first | simp only [Exit.inBlock] | simp only [Exit.then])
 have h14 : sat g w2 [Tab b n A E RL, R] := tab_close hM11.1 (by omega) (by first | rfl | omega) h12
 refine hi_out [] (iV (((RL.length : Nat) : Int))) [] (by kernel_rfl) (by intro q hq; cases hq) ?_
 exact ⟨iV (((RL.length : Nat) : Int)), [Tab b n A E RL], rfl, ⟨rfl, rfl⟩, h14⟩

set_option maxHeartbeats 4000000 in
theorem troom_ht (b n : Nat) (A : List Sl2) (E : Tm) (RL : List Rs) : HT Try.prog 29 [Value.pointer (some ⟨b, 0, none⟩)] [Tab b n A E RL] (fun v K => v = Value.int IntKind.i64 ((((inS 0 A 0).length : Nat) : Int)) ∧ K = [Tab b n A E RL]) := by
 refine hi_in 11 ([(0, pV b)] : Fr) Try.func29 (by kernel_rfl) Try.ntmps29 rfl rfl ?_
 intro g w0 R h0
 refine ySq ?_
 refine yPl [0] ?_
 refine yB0 [] [0] [(2, iV 0)] (.mk ?_)
 refine yK [(0, pV b)] fun lr1 => ?_
 refine ySq ?_
 refine ySq ?_
 refine yPl [0, 1, 2] ?_
 refine yB0 [1, 2] [0] [(3, pV b)] ?_
 refine yA ?_
 refine yCl 4 Try.call36 (tvalid_ht b n A E RL) h0 ?_
 rintro v K w2 (⟨rfl, rfl⟩) h3
 refine ⟨_, rfl, ?_⟩
 have h4 := ap1 h3
 refine yB0 [] [2] [(5, .bool false)] (.mk ?_)
 refine yK [(0, pV b), (5, .bool false)] fun lr5 => ?_
 refine yCf ?_
 refine ySk ?_
 refine ySq ?_
 refine yPl [0, 1, 2, 3, 4, 5] ?_
 obtain ⟨s6, m7, p8, c9, E10, hM11, h12⟩ := tab_open h4
 have hRl_ := hM11.2
 refine yBb [4, 5] [(9, pV s6), (8, pV b), (7, pV b), (6, pV b)] [e0 0, e0 1, e0 2, e2 3 [pV s6]] [(3, ⟨b, 0, none⟩, pV s6)] [] trivial (kC (sat_cell h12 0 rfl rfl) nC) ?_
 have h13 := tk5 (sf4 (sf3 (sf4 (sf4 (sf4 h12)))))
 refine yA ?_
 refine yCl 10 Try.call42 (sfree_ht s6 n A) h13 ?_
 rintro v K w14 (⟨rfl, rfl⟩) h15
 refine ⟨_, rfl, ?_⟩
 have h16 := ap1 h15
 refine yB0 [] [5] [(2, iV ((((inS 0 A 0).length : Nat) : Int)))] (.mk ?_)
 refine yK [(2, iV ((((inS 0 A 0).length : Nat) : Int)))] fun lr17 => ?_
 refine yRt ?_
 repeat (first | simp only [Exit.inBlock] | simp only [Exit.then])
 have h18 := tk5 (sf4 (sf3 (sf4 (sf4 (sf4 h16)))))
 have h19 : sat g w14 [Tab b n A E RL, R] := tab_close hM11.1 (by omega) (by first | rfl | omega) h18
 refine hi_out [] (iV ((((inS 0 A 0).length : Nat) : Int))) [] (by kernel_rfl) (by intro q hq; cases hq) ?_
 exact ⟨iV ((((inS 0 A 0).length : Nat) : Int)), [Tab b n A E RL], rfl, ⟨rfl, rfl⟩, h19⟩

set_option maxHeartbeats 4000000 in
theorem tcheck_ok (b n : Nat) (A : List Sl2) (E : Tm) (RL : List Rs) (v : Int) (h : 1 ≤ v ∧ v ≤ (RL.length : Int)) : HT Try.prog 47 [Value.pointer (some ⟨b, 0, none⟩), Value.int IntKind.i64 v] [Tab b n A E RL] (fun v K => v = Value.int IntKind.i64 0 ∧ K = [Tab b n A E RL]) := by
 refine hi_in 21 ([(0, pV b), (1, iV v)] : Fr) Try.func47 (by kernel_rfl) Try.ntmps47 rfl rfl ?_
 intro g w0 R h0
 refine ySq ?_
 refine yPl [0] ?_
 refine yB0 [] [0] [(4, iV 0)] (.mk ?_)
 refine yK [(0, pV b), (1, iV v)] fun lr1 => ?_
 refine ySq ?_
 refine yBk 0 ?_
 refine ySq ?_
 refine yPl [0, 1, 2, 3] ?_
 refine yB0 [1, 2, 3] [0] [(6, pV b)] ?_
 refine yA ?_
 refine yCl 7 Try.call36 (tvalid_ht b n A E RL) h0 ?_
 rintro v K w2 (⟨rfl, rfl⟩) h3
 refine ⟨_, rfl, ?_⟩
 have h4 := ap1 h3
 refine yB0 [] [2, 3] [(5, .bool false), (8, .bool false)] (.mk ?_)
 refine yK [(0, pV b), (1, iV v), (5, .bool false)] fun lr5 => ?_
 refine yCf ?_
 refine ySq ?_
 refine yPl [0, 1, 2, 3, 4, 5, 6, 7, 8, 9, 10, 11] ?_
 obtain ⟨s6, m7, p8, c9, E10, hM11, h12⟩ := tab_open h4
 have hRl_ := hM11.2
 refine yBb [] [(9, .bool false), (20, .bool false), (19, .bool false), (18, iV (((RL.length : Nat) : Int))), (17, .slice p8 RL.length c9), (16, .pointer (some ⟨b, 2, none⟩)), (15, pV b), (14, pV b), (13, iV v), (12, .bool false), (11, .bool false), (10, iV v)] [e0 0, e1 1 (.bool false), e0 2, e0 3, e0 4, e0 5, e0 6, e2 7 [.slice p8 RL.length c9], e0 8, e1 9 (.bool false), e0 10, e0 11] [(7, ⟨b, 2, none⟩, .slice p8 RL.length c9)] [(.bool (decide (v < 1)), .bool false), (.bool (decide (v > ((RL.length : Nat) : Int))), .bool false)] ⟨(ov_f (by omega)), (ov_f (by omega)), trivial⟩ (kC (sat_cell h12 0 rfl rfl) nC) (.mk ?_)
 refine yK [(9, .bool false)] fun lr13 => ?_
 refine yCf ?_
 refine ySk ?_
 refine ySq ?_
 refine yPl [0] ?_
 refine yB0 [] [0] [(4, iV 0)] (.mk ?_)
 refine yK [(4, iV 0)] fun lr14 => ?_
 refine yRt ?_
 repeat (first | simp only [Exit.inBlock] | simp only [Exit.then])
 have h15 : sat g w2 [Tab b n A E RL, R] := tab_close hM11.1 (by omega) (by first | rfl | omega) h12
 refine hi_out [] (iV 0) [] (by kernel_rfl) (by intro q hq; cases hq) ?_
 exact ⟨iV 0, [Tab b n A E RL], rfl, ⟨rfl, rfl⟩, h15⟩

set_option maxHeartbeats 4000000 in
theorem tcheck_no (b n : Nat) (A : List Sl2) (E : Tm) (RL : List Rs) (v : Int) (h : v < 1 ∨ (RL.length : Int) < v) : HT Try.prog 47 [Value.pointer (some ⟨b, 0, none⟩), Value.int IntKind.i64 v] [Tab b n A E RL] (fun v K => v = Value.int IntKind.i64 3 ∧ K = [Tab b n A E RL]) := by
 refine hi_in 21 ([(0, pV b), (1, iV v)] : Fr) Try.func47 (by kernel_rfl) Try.ntmps47 rfl rfl ?_
 intro g w0 R h0
 refine ySq ?_
 refine yPl [0] ?_
 refine yB0 [] [0] [(4, iV 0)] (.mk ?_)
 refine yK [(0, pV b), (1, iV v)] fun lr1 => ?_
 refine ySq ?_
 refine yBk 0 ?_
 refine ySq ?_
 refine yPl [0, 1, 2, 3] ?_
 refine yB0 [1, 2, 3] [0] [(6, pV b)] ?_
 refine yA ?_
 refine yCl 7 Try.call36 (tvalid_ht b n A E RL) h0 ?_
 rintro v K w2 (⟨rfl, rfl⟩) h3
 refine ⟨_, rfl, ?_⟩
 have h4 := ap1 h3
 refine yB0 [] [2, 3] [(5, .bool false), (8, .bool false)] (.mk ?_)
 refine yK [(0, pV b), (1, iV v), (5, .bool false)] fun lr5 => ?_
 refine yCf ?_
 refine ySq ?_
 refine yPl [0, 1, 2, 3, 4, 5, 6, 7, 8, 9, 10, 11] ?_
 refine yB0 [1, 2, 3, 4, 5, 6, 7, 8, 9, 10, 11] [0] [(10, iV v)] ?_
 by_cases c6 : v < 1
 ·
  refine yBb [] [(9, .bool true), (20, .bool true), (19, undef), (18, undef), (17, undef), (16, undef), (15, undef), (14, undef), (13, undef), (12, .bool true), (11, .bool true)] [e1 1 (.bool true), e0 2, e0 3, e0 4, e0 5, e0 6, e0 7, e0 8, e0 9, e0 10, e0 11] [] [(.bool (decide (v < 1)), .bool true)] ⟨(ov_t (by omega)), trivial⟩ nC (.mk ?_)
  refine yK [(9, .bool true)] fun lr7 => ?_
  refine yCt ?_
  refine ySq ?_
  refine yPl [0] ?_
  refine yB0 [] [0] [(4, iV 3)] (.mk ?_)
  refine yK [(4, iV 3)] fun lr8 => ?_
  refine yRt ?_
  repeat (first | simp only [Exit.inBlock] | simp only [Exit.then])
  refine hi_out [] (iV 3) [] (by kernel_rfl) (by intro q hq; cases hq) ?_
  exact ⟨iV 3, [Tab b n A E RL], rfl, ⟨rfl, rfl⟩, h4⟩
 ·
  obtain ⟨s9, m10, p11, c12, E13, hM14, h15⟩ := tab_open h4
  have hRl_ := hM14.2
  refine yBb [] [(9, .bool true), (20, .bool true), (19, .bool true), (18, iV (((RL.length : Nat) : Int))), (17, .slice p11 RL.length c12), (16, .pointer (some ⟨b, 2, none⟩)), (15, pV b), (14, pV b), (13, iV v), (12, .bool false), (11, .bool false)] [e1 1 (.bool false), e0 2, e0 3, e0 4, e0 5, e0 6, e2 7 [.slice p11 RL.length c12], e0 8, e1 9 (.bool true), e0 10, e0 11] [(7, ⟨b, 2, none⟩, .slice p11 RL.length c12)] [(.bool (decide (v < 1)), .bool false), (.bool (decide (v > ((RL.length : Nat) : Int))), .bool true)] ⟨(ov_f (by omega)), (ov_t (by omega)), trivial⟩ (kC (sat_cell h15 0 rfl rfl) nC) (.mk ?_)
  refine yK [(9, .bool true)] fun lr16 => ?_
  refine yCt ?_
  refine ySq ?_
  refine yPl [0] ?_
  refine yB0 [] [0] [(4, iV 3)] (.mk ?_)
  refine yK [(4, iV 3)] fun lr17 => ?_
  refine yRt ?_
  repeat (first | simp only [Exit.inBlock] | simp only [Exit.then])
  have h18 : sat g w2 [Tab b n A E RL, R] := tab_close hM14.1 (by omega) (by first | rfl | omega) h15
  refine hi_out [] (iV 3) [] (by kernel_rfl) (by intro q hq; cases hq) ?_
  exact ⟨iV 3, [Tab b n A E RL], rfl, ⟨rfl, rfl⟩, h18⟩

end Go.Proofs.Ytjjpmehiolejgaa

/- Walks, printed by my generator gen11.py. -/
namespace Go.Proofs.Ytjjpmehiolejgaa
theorem take_n (b n : Nat) (A : List Sl2) (h : (inS 0 A 0).length = 0) : HT Try.prog 59 [Value.pointer (some ⟨b, 0, none⟩)] [Tb b n A] (fun v K => v = Value.tuple #[Value.agg #[Value.int .i64 0, Value.int .u32 0], Value.int .i64 4] ∧ K = [Tb b n A]) :=
  (take_ht b n A).mono fun v K hP => by
    rw [(take_none h).1, (take_none h).2] at hP
    exact hP
theorem take_j (b n : Nat) (A : List Sl2) (j : Nat) (gj : Int) (h : (inS 0 A 0)[0]? = some (j, gj)) : HT Try.prog 59 [Value.pointer (some ⟨b, 0, none⟩)] [Tb b n A] (fun v K => v = Value.tuple #[Value.agg #[Value.int .i64 (j : Int), Value.int .u32 gj], Value.int .i64 0] ∧ K = [Tb b n (A.set j (1, gj))]) :=
  (take_ht b n A).mono fun v K hP => by
    have hl := (List.getElem?_eq_some_iff.1 h).1
    rw [(take_some hl).1, (take_some hl).2, getD_some h] at hP
    exact hP
set_option maxHeartbeats 4000000 in
theorem tat_none (b n : Nat) (A : List Sl2) (E : Tm) (RL : List Rs) (vn : Int) (hg_ : gget E vn = none) : HT Try.prog 34 [Value.pointer (some ⟨b, 0, none⟩), Value.int IntKind.i64 vn] [Tab b n A E RL] (fun v K => v = Value.tuple #[Value.agg #[Value.int IntKind.i64 0, Value.int IntKind.i64 0, Value.int IntKind.u32 0], Value.bool false] ∧ K = [Tab b n A E RL]) := by
 refine hi_in 24 ([(0, pV b), (1, iV vn)] : Fr) Try.func34 (by kernel_rfl) Try.ntmps34 rfl rfl ?_
 intro g w0 R h0
 refine ySq ?_
 refine yPl [0, 1] ?_
 refine yA ?_
 refine yNp 4 28 [iV 0, iV 0, uV 0] h0 fun r1 w2 h3 => ?_
 refine yB0 [] [1] [(5, .bool false)] (.mk ?_)
 refine yK [(0, pV b), (1, iV vn), (4, pV r1)] fun lr4 => ?_
 refine ySq ?_
 refine ySq ?_
 refine yPl [0, 1, 2] ?_
 refine yB0 [1, 2] [0] [(8, pV b)] ?_
 have h5 := tk3 (sf2 (sf1 (sf2 h3)))
 refine yA ?_
 refine yCl 9 Try.call36 (tvalid_ht b n A E RL) h5 ?_
 rintro v K w6 (⟨rfl, rfl⟩) h7
 refine ⟨_, rfl, ?_⟩
 have h8 := ap1 h7
 refine yB0 [] [2] [(10, .bool false)] (.mk ?_)
 refine yK [(0, pV b), (1, iV vn), (4, pV r1), (10, .bool false)] fun lr9 => ?_
 refine yCf ?_
 refine ySk ?_
 refine ySq ?_
 refine yPl [0, 1, 2, 3, 4, 5, 6, 7, 8, 9, 10, 11] ?_
 obtain ⟨s10, m11, p12, c13, E14, hM15, h16⟩ := tab_open h8
 have hRl_ := hM15.2
 refine yBb [5, 6, 7, 8, 9, 10, 11] [(17, iV vn), (16, .map (some m11)), (15, .pointer (some ⟨b, 1, none⟩)), (14, pV b), (13, pV b)] [e0 0, e0 1, e0 2, e2 3 [.map (some m11)], e0 4] [(3, ⟨b, 1, none⟩, .map (some m11))] [] trivial (kC (sat_cell h16 0 rfl rfl) nC) ?_
 refine yA ?_
 refine act_law (d := 18) (.tuple #[.agg #[iV 0, iV 0, uV 0, iV 0, iV 0, uV 0], .bool false]) (by kernel_rfl) rfl (law_lookupOk (t := 73) (z := .agg #[iV 0, iV 0, uV 0, iV 0, iV 0, uV 0]) (m := (Operand.tmp 16)) (x := (Operand.tmp 17)) (kv := kI) (ve := vE) (by kernel_rfl) Try.underlying73 kyI (by kernel_rfl) vn (by kernel_rfl) (by kernel_rfl) (j := 2) h16 rfl (.agg #[iV 0, iV 0, uV 0, iV 0, iV 0, uV 0]) false (by rw [hM15.1.2.2 vn, hg_]; exact ⟨rfl, rfl⟩)) ?_
 refine yB0 [9, 10, 11] [6, 7, 8] [(20, .bool false), (19, .agg #[iV 0, iV 0, uV 0, iV 0, iV 0, uV 0]), (12, .tuple #[.agg #[iV 0, iV 0, uV 0, iV 0, iV 0, uV 0], .bool false])] ?_
 refine yA ?_
 refine yNp 6 90 [iV 0, iV 0, uV 0, iV 0, iV 0, uV 0] h16 fun r17 w18 h19 => ?_
 refine yA ?_
 refine yS [(0, iV 0), (1, iV 0), (2, uV 0), (3, iV 0), (4, iV 0), (5, uV 0)] [iV 0, iV 0, uV 0, iV 0, iV 0, uV 0] h19 fun w20 h21 => ?_
 refine yB0 [] [11] [(7, .bool false)] (.mk ?_)
 refine yK [(4, pV r1), (6, pV r17), (7, .bool false)] fun lr22 => ?_
 refine ySq ?_
 refine yPl [0, 1, 2, 3, 4] ?_
 refine yBb [3, 4] [(23, .bool false), (22, .agg #[iV 0, iV 0, uV 0]), (21, pV r17)] [e0 0, e2 1 [iV 0, iV 0, uV 0], e0 2] [(1, ⟨r17, 0, none⟩, iV 0), (1, ⟨r17, 1, none⟩, iV 0), (1, ⟨r17, 2, none⟩, uV 0)] [] trivial (kC (sat_cell h21 0 rfl rfl) (kC (sat_cell h21 0 rfl rfl) (kC (sat_cell h21 0 rfl rfl) nC))) ?_
 have h23 := tk7 (sf6 (sf5 (sf5 (sf5 (sf5 (sf5 (sf6 h21)))))))
 refine yA ?_
 refine yS [(0, iV 0), (1, iV 0), (2, uV 0)] [iV 0, iV 0, uV 0] h23 fun w24 h25 => ?_
 refine yB0 [] [4] [(5, .bool false)] (.mk ?_)
 refine yK [(4, pV r1), (5, .bool false)] fun lr26 => ?_
 refine yRt ?_
 repeat (first | simp only [Exit.inBlock] | simp only [Exit.then])
 have h27 := tk7 (sf6 (sf6 (sf6 (sf6 (sf2 (sf2 (sf6 h25)))))))
 have h28 : sat g w24 [Tab b n A E RL, Cl r1 [iV 0, iV 0, uV 0] 28, Cl r17 [iV 0, iV 0, uV 0, iV 0, iV 0, uV 0] 90, R] := tab_close hM15.1 (by omega) (by first | rfl | omega) h27
 have h29 := tk2 (sf1 (sf3 h28))
 refine hi_out [iV 0, iV 0, uV 0] (.tuple #[.agg #[iV 0, iV 0, uV 0], .bool false]) [(⟨r1, 0, none⟩, iV 0), (⟨r1, 1, none⟩, iV 0), (⟨r1, 2, none⟩, uV 0)] (by kernel_rfl) (allq ⟨sat_cell h25 0 rfl rfl, sat_cell h25 0 rfl rfl, sat_cell h25 0 rfl rfl, trivial⟩) ?_
 exact ⟨.tuple #[.agg #[iV 0, iV 0, uV 0], .bool false], [Tab b n A E RL], rfl, ⟨rfl, rfl⟩, h29⟩

set_option maxHeartbeats 4000000 in
theorem tat_ok (b n : Nat) (A : List Sl2) (E : Tm) (RL : List Rs) (vn : Int) (e : Ety) (hg_ : gget E vn = some e) : HT Try.prog 34 [Value.pointer (some ⟨b, 0, none⟩), Value.int IntKind.i64 vn] [Tab b n A E RL] (fun v K => v = Value.tuple #[Value.agg #[Value.int IntKind.i64 e.d.1, Value.int IntKind.i64 e.d.2.1, Value.int IntKind.u32 e.d.2.2], Value.bool true] ∧ K = [Tab b n A E RL]) := by
 refine hi_in 24 ([(0, pV b), (1, iV vn)] : Fr) Try.func34 (by kernel_rfl) Try.ntmps34 rfl rfl ?_
 intro g w0 R h0
 refine ySq ?_
 refine yPl [0, 1] ?_
 refine yA ?_
 refine yNp 4 28 [iV 0, iV 0, uV 0] h0 fun r1 w2 h3 => ?_
 refine yB0 [] [1] [(5, .bool false)] (.mk ?_)
 refine yK [(0, pV b), (1, iV vn), (4, pV r1)] fun lr4 => ?_
 refine ySq ?_
 refine ySq ?_
 refine yPl [0, 1, 2] ?_
 refine yB0 [1, 2] [0] [(8, pV b)] ?_
 have h5 := tk3 (sf2 (sf1 (sf2 h3)))
 refine yA ?_
 refine yCl 9 Try.call36 (tvalid_ht b n A E RL) h5 ?_
 rintro v K w6 (⟨rfl, rfl⟩) h7
 refine ⟨_, rfl, ?_⟩
 have h8 := ap1 h7
 refine yB0 [] [2] [(10, .bool false)] (.mk ?_)
 refine yK [(0, pV b), (1, iV vn), (4, pV r1), (10, .bool false)] fun lr9 => ?_
 refine yCf ?_
 refine ySk ?_
 refine ySq ?_
 refine yPl [0, 1, 2, 3, 4, 5, 6, 7, 8, 9, 10, 11] ?_
 obtain ⟨s10, m11, p12, c13, E14, hM15, h16⟩ := tab_open h8
 have hRl_ := hM15.2
 refine yBb [5, 6, 7, 8, 9, 10, 11] [(17, iV vn), (16, .map (some m11)), (15, .pointer (some ⟨b, 1, none⟩)), (14, pV b), (13, pV b)] [e0 0, e0 1, e0 2, e2 3 [.map (some m11)], e0 4] [(3, ⟨b, 1, none⟩, .map (some m11))] [] trivial (kC (sat_cell h16 0 rfl rfl) nC) ?_
 refine yA ?_
 refine act_law (d := 18) (.tuple #[.agg #[iV e.d.1, iV e.d.2.1, uV e.d.2.2, iV e.num, iV e.h.1, uV e.h.2], .bool true]) (by kernel_rfl) rfl (law_lookupOk (t := 73) (z := .agg #[iV 0, iV 0, uV 0, iV 0, iV 0, uV 0]) (m := (Operand.tmp 16)) (x := (Operand.tmp 17)) (kv := kI) (ve := vE) (by kernel_rfl) Try.underlying73 kyI (by kernel_rfl) vn (by kernel_rfl) (by kernel_rfl) (j := 2) h16 rfl (.agg #[iV e.d.1, iV e.d.2.1, uV e.d.2.2, iV e.num, iV e.h.1, uV e.h.2]) true (by rw [hM15.1.2.2 vn, hg_]; exact ⟨rfl, rfl⟩)) ?_
 refine yB0 [9, 10, 11] [6, 7, 8] [(20, .bool true), (19, .agg #[iV e.d.1, iV e.d.2.1, uV e.d.2.2, iV e.num, iV e.h.1, uV e.h.2]), (12, .tuple #[.agg #[iV e.d.1, iV e.d.2.1, uV e.d.2.2, iV e.num, iV e.h.1, uV e.h.2], .bool true])] ?_
 refine yA ?_
 refine yNp 6 90 [iV 0, iV 0, uV 0, iV 0, iV 0, uV 0] h16 fun r17 w18 h19 => ?_
 refine yA ?_
 refine yS [(0, iV e.d.1), (1, iV e.d.2.1), (2, uV e.d.2.2), (3, iV e.num), (4, iV e.h.1), (5, uV e.h.2)] [iV e.d.1, iV e.d.2.1, uV e.d.2.2, iV e.num, iV e.h.1, uV e.h.2] h19 fun w20 h21 => ?_
 refine yB0 [] [11] [(7, .bool true)] (.mk ?_)
 refine yK [(4, pV r1), (6, pV r17), (7, .bool true)] fun lr22 => ?_
 refine ySq ?_
 refine yPl [0, 1, 2, 3, 4] ?_
 refine yBb [3, 4] [(23, .bool true), (22, .agg #[iV e.d.1, iV e.d.2.1, uV e.d.2.2]), (21, pV r17)] [e0 0, e2 1 [iV e.d.1, iV e.d.2.1, uV e.d.2.2], e0 2] [(1, ⟨r17, 0, none⟩, iV e.d.1), (1, ⟨r17, 1, none⟩, iV e.d.2.1), (1, ⟨r17, 2, none⟩, uV e.d.2.2)] [] trivial (kC (sat_cell h21 0 rfl rfl) (kC (sat_cell h21 0 rfl rfl) (kC (sat_cell h21 0 rfl rfl) nC))) ?_
 have h23 := tk7 (sf6 (sf5 (sf5 (sf5 (sf5 (sf5 (sf6 h21)))))))
 refine yA ?_
 refine yS [(0, iV e.d.1), (1, iV e.d.2.1), (2, uV e.d.2.2)] [iV e.d.1, iV e.d.2.1, uV e.d.2.2] h23 fun w24 h25 => ?_
 refine yB0 [] [4] [(5, .bool true)] (.mk ?_)
 refine yK [(4, pV r1), (5, .bool true)] fun lr26 => ?_
 refine yRt ?_
 repeat (first | simp only [Exit.inBlock] | simp only [Exit.then])
 have h27 := tk7 (sf6 (sf6 (sf6 (sf6 (sf2 (sf2 (sf6 h25)))))))
 have h28 : sat g w24 [Tab b n A E RL, Cl r1 [iV e.d.1, iV e.d.2.1, uV e.d.2.2] 28, Cl r17 [iV e.d.1, iV e.d.2.1, uV e.d.2.2, iV e.num, iV e.h.1, uV e.h.2] 90, R] := tab_close hM15.1 (by omega) (by first | rfl | omega) h27
 have h29 := tk2 (sf1 (sf3 h28))
 refine hi_out [iV e.d.1, iV e.d.2.1, uV e.d.2.2] (.tuple #[.agg #[iV e.d.1, iV e.d.2.1, uV e.d.2.2], .bool true]) [(⟨r1, 0, none⟩, iV e.d.1), (⟨r1, 1, none⟩, iV e.d.2.1), (⟨r1, 2, none⟩, uV e.d.2.2)] (by kernel_rfl) (allq ⟨sat_cell h25 0 rfl rfl, sat_cell h25 0 rfl rfl, sat_cell h25 0 rfl rfl, trivial⟩) ?_
 exact ⟨.tuple #[.agg #[iV e.d.1, iV e.d.2.1, uV e.d.2.2], .bool true], [Tab b n A E RL], rfl, ⟨rfl, rfl⟩, h29⟩

set_option maxHeartbeats 4000000 in
theorem tget_no (b n : Nat) (A : List Sl2) (E : Tm) (RL : List Rs) (vn : Int) (h : vn < 1 ∨ (RL.length : Int) < vn) : HT Try.prog 20 [Value.pointer (some ⟨b, 0, none⟩), Value.int IntKind.i64 vn] [Tab b n A E RL] (fun v K => v = Value.tuple #[Value.agg #[Value.int IntKind.i64 0, Value.int IntKind.i64 0, Value.int IntKind.u32 0, Value.int IntKind.i64 0, Value.int IntKind.i64 0, Value.int IntKind.i64 0, Value.int IntKind.i64 0, Value.string (St [])], Value.int IntKind.i64 3] ∧ K = [Tab b n A E RL]) := by
 refine hi_in 22 ([(0, pV b), (1, iV vn)] : Fr) Try.func20 (by kernel_rfl) Try.ntmps20 rfl rfl ?_
 intro g w0 R h0
 refine ySq ?_
 refine yPl [0, 1] ?_
 refine yA ?_
 refine yNp 4 42 [iV 0, iV 0, uV 0, iV 0, iV 0, iV 0, iV 0, .string (St [])] h0 fun r1 w2 h3 => ?_
 refine yB0 [] [1] [(5, iV 0)] (.mk ?_)
 refine yK [(0, pV b), (1, iV vn), (4, pV r1)] fun lr4 => ?_
 refine ySq ?_
 refine ySq ?_
 refine yPl [0, 1, 2, 3] ?_
 refine yB0 [2, 3] [0, 1] [(8, iV vn), (7, pV b)] ?_
 by_cases c5 : 1 ≤ vn
 ·
  have h6 := tk3 (sf2 (sf1 (sf2 h3)))
  refine yA ?_
  refine yCl 9 Try.call47 (tcheck_no b n A E RL vn (by omega)) h6 ?_
  rintro v K w7 (⟨rfl, rfl⟩) h8
  refine ⟨_, rfl, ?_⟩
  have h9 := ap1 h8
  refine yB0 [] [3] [(6, iV 3)] (.mk ?_)
  refine yK [(0, pV b), (1, iV vn), (4, pV r1), (6, iV 3)] fun lr10 => ?_
  refine ySq ?_
  refine yPl [0, 1] ?_
  refine yB0 [] [0, 1] [(11, .bool true), (10, iV 3)] (.mk ?_)
  refine yK [(0, pV b), (1, iV vn), (4, pV r1), (6, iV 3), (11, .bool true)] fun lr11 => ?_
  refine yCt ?_
  refine ySq ?_
  refine yPl [0, 1, 2, 3] ?_
  refine yB0 [2, 3] [0, 1] [(13, iV 3), (12, .agg #[iV 0, iV 0, uV 0, iV 0, iV 0, iV 0, iV 0, .string (St [])])] ?_
  have h12 := tk3 (sf2 (sf1 (sf2 h9)))
  refine yA ?_
  refine yS [(0, iV 0), (1, iV 0), (2, uV 0), (3, iV 0), (4, iV 0), (5, iV 0), (6, iV 0), (7, .string (St []))] [iV 0, iV 0, uV 0, iV 0, iV 0, iV 0, iV 0, .string (St [])] h12 fun w13 h14 => ?_
  refine yB0 [] [3] [(5, iV 3)] (.mk ?_)
  refine yK [(4, pV r1), (5, iV 3)] fun lr15 => ?_
  refine yRt ?_
  repeat (first | simp only [Exit.inBlock] | simp only [Exit.then])
  have h16 := tk3 (sf2 (sf1 (sf2 h14)))
  have h17 := tk2 (sf1 (sf2 h16))
  refine hi_out [iV 0, iV 0, uV 0, iV 0, iV 0, iV 0, iV 0, .string (St [])] (.tuple #[.agg #[iV 0, iV 0, uV 0, iV 0, iV 0, iV 0, iV 0, .string (St [])], iV 3]) [(⟨r1, 0, none⟩, iV 0), (⟨r1, 1, none⟩, iV 0), (⟨r1, 2, none⟩, uV 0), (⟨r1, 3, none⟩, iV 0), (⟨r1, 4, none⟩, iV 0), (⟨r1, 5, none⟩, iV 0), (⟨r1, 6, none⟩, iV 0), (⟨r1, 7, none⟩, .string (St []))] (by kernel_rfl) (allq ⟨sat_cell h14 0 rfl rfl, sat_cell h14 0 rfl rfl, sat_cell h14 0 rfl rfl, sat_cell h14 0 rfl rfl, sat_cell h14 0 rfl rfl, sat_cell h14 0 rfl rfl, sat_cell h14 0 rfl rfl, sat_cell h14 0 rfl rfl, trivial⟩) ?_
  exact ⟨.tuple #[.agg #[iV 0, iV 0, uV 0, iV 0, iV 0, iV 0, iV 0, .string (St [])], iV 3], [Tab b n A E RL], rfl, ⟨rfl, rfl⟩, h17⟩
 ·
  have h18 := tk3 (sf2 (sf1 (sf2 h3)))
  refine yA ?_
  refine yCl 9 Try.call47 (tcheck_no b n A E RL vn (by omega)) h18 ?_
  rintro v K w19 (⟨rfl, rfl⟩) h20
  refine ⟨_, rfl, ?_⟩
  have h21 := ap1 h20
  refine yB0 [] [3] [(6, iV 3)] (.mk ?_)
  refine yK [(0, pV b), (1, iV vn), (4, pV r1), (6, iV 3)] fun lr22 => ?_
  refine ySq ?_
  refine yPl [0, 1] ?_
  refine yB0 [] [0, 1] [(11, .bool true), (10, iV 3)] (.mk ?_)
  refine yK [(0, pV b), (1, iV vn), (4, pV r1), (6, iV 3), (11, .bool true)] fun lr23 => ?_
  refine yCt ?_
  refine ySq ?_
  refine yPl [0, 1, 2, 3] ?_
  refine yB0 [2, 3] [0, 1] [(13, iV 3), (12, .agg #[iV 0, iV 0, uV 0, iV 0, iV 0, iV 0, iV 0, .string (St [])])] ?_
  have h24 := tk3 (sf2 (sf1 (sf2 h21)))
  refine yA ?_
  refine yS [(0, iV 0), (1, iV 0), (2, uV 0), (3, iV 0), (4, iV 0), (5, iV 0), (6, iV 0), (7, .string (St []))] [iV 0, iV 0, uV 0, iV 0, iV 0, iV 0, iV 0, .string (St [])] h24 fun w25 h26 => ?_
  refine yB0 [] [3] [(5, iV 3)] (.mk ?_)
  refine yK [(4, pV r1), (5, iV 3)] fun lr27 => ?_
  refine yRt ?_
  repeat (first | simp only [Exit.inBlock] | simp only [Exit.then])
  have h28 := tk3 (sf2 (sf1 (sf2 h26)))
  have h29 := tk2 (sf1 (sf2 h28))
  refine hi_out [iV 0, iV 0, uV 0, iV 0, iV 0, iV 0, iV 0, .string (St [])] (.tuple #[.agg #[iV 0, iV 0, uV 0, iV 0, iV 0, iV 0, iV 0, .string (St [])], iV 3]) [(⟨r1, 0, none⟩, iV 0), (⟨r1, 1, none⟩, iV 0), (⟨r1, 2, none⟩, uV 0), (⟨r1, 3, none⟩, iV 0), (⟨r1, 4, none⟩, iV 0), (⟨r1, 5, none⟩, iV 0), (⟨r1, 6, none⟩, iV 0), (⟨r1, 7, none⟩, .string (St []))] (by kernel_rfl) (allq ⟨sat_cell h26 0 rfl rfl, sat_cell h26 0 rfl rfl, sat_cell h26 0 rfl rfl, sat_cell h26 0 rfl rfl, sat_cell h26 0 rfl rfl, sat_cell h26 0 rfl rfl, sat_cell h26 0 rfl rfl, sat_cell h26 0 rfl rfl, trivial⟩) ?_
  exact ⟨.tuple #[.agg #[iV 0, iV 0, uV 0, iV 0, iV 0, iV 0, iV 0, .string (St [])], iV 3], [Tab b n A E RL], rfl, ⟨rfl, rfl⟩, h29⟩

set_option maxHeartbeats 4000000 in
theorem tget_ok (b n : Nat) (A : List Sl2) (E : Tm) (RL : List Rs) (vn : Int) (q : Nat) (r : Rs) (hr : RL[q]? = some r) (hv : vn = (q : Int) + 1) : HT Try.prog 20 [Value.pointer (some ⟨b, 0, none⟩), Value.int IntKind.i64 vn] [Tab b n A E RL] (fun v K => v = Value.tuple #[Value.agg #[Value.int IntKind.i64 r.out.1, Value.int IntKind.i64 r.out.2.1, Value.int IntKind.u32 r.out.2.2, Value.int IntKind.i64 r.st, Value.int IntKind.i64 r.why, Value.int IntKind.i64 r.tr, Value.int IntKind.i64 r.nx, Value.string (St r.tag)], Value.int IntKind.i64 0] ∧ K = [Tab b n A E RL]) := by
 refine hi_in 22 ([(0, pV b), (1, iV vn)] : Fr) Try.func20 (by kernel_rfl) Try.ntmps20 rfl rfl ?_
 intro g w0 R h0
 have hq_ := (List.getElem?_eq_some_iff.1 hr).1
 refine ySq ?_
 refine yPl [0, 1] ?_
 refine yA ?_
 refine yNp 4 42 [iV 0, iV 0, uV 0, iV 0, iV 0, iV 0, iV 0, .string (St [])] h0 fun r1 w2 h3 => ?_
 refine yB0 [] [1] [(5, iV 0)] (.mk ?_)
 refine yK [(0, pV b), (1, iV vn), (4, pV r1)] fun lr4 => ?_
 refine ySq ?_
 refine ySq ?_
 refine yPl [0, 1, 2, 3] ?_
 refine yB0 [2, 3] [0, 1] [(8, iV vn), (7, pV b)] ?_
 have h5 := tk3 (sf2 (sf1 (sf2 h3)))
 refine yA ?_
 refine yCl 9 Try.call47 (tcheck_ok b n A E RL vn (by omega)) h5 ?_
 rintro v K w6 (⟨rfl, rfl⟩) h7
 refine ⟨_, rfl, ?_⟩
 have h8 := ap1 h7
 refine yB0 [] [3] [(6, iV 0)] (.mk ?_)
 refine yK [(0, pV b), (1, iV vn), (4, pV r1), (6, iV 0)] fun lr9 => ?_
 refine ySq ?_
 refine yPl [0, 1] ?_
 refine yB0 [] [0, 1] [(11, .bool false), (10, iV 0)] (.mk ?_)
 refine yK [(0, pV b), (1, iV vn), (4, pV r1), (6, iV 0), (11, .bool false)] fun lr10 => ?_
 refine yCf ?_
 refine ySk ?_
 refine ySq ?_
 refine yPl [0, 1, 2, 3, 4, 5, 6, 7, 8, 9] ?_
 obtain ⟨s11, m12, p13, c14, E15, hM16, h17⟩ := tab_open h8
 have hRl_ := hM16.2
 obtain ⟨b18, hp19⟩ := sl_ptr0 (j := 3) h17 rfl (by omega)
 refine yBb [6, 7, 8, 9] [(19, iV (vn - 1)), (18, iV vn), (17, .slice p13 RL.length c14), (16, .pointer (some ⟨b, 2, none⟩)), (15, pV b), (14, pV b)] [e0 0, e0 1, e0 2, e2 3 [.slice p13 RL.length c14], e0 4, e1 5 (iV (vn - 1))] [(3, ⟨b, 2, none⟩, .slice p13 RL.length c14)] [(iV (IntKind.wrap .i64 (vn - 1)), iV (vn - 1))] ⟨(ov_i64 (by omega) (by omega) (by omega)), trivial⟩ (kC (sat_cell h17 0 rfl rfl) nC) ?_
 refine plain_law (i := 6) 20 (.pointer (some ⟨b18, q * 8, none⟩)) (by kernel_rfl) (law_indexSlP (o := opA (RA Try.f20 [1, 1, 0]) 6) (x := (Operand.tmp 17)) (i := (Operand.tmp 19)) (p := p13) (b := b18) (off := 0) (z := (vn - 1)) (len := RL.length) (cap := c14) (by kernel_rfl) Try.underlying74 8 (by kernel_rfl) q (by kernel_rfl) hp19 (by kernel_rfl) (by omega) (by omega) (q * 8) (by omega) _) ?_
 have h20 := tk6 (sf5 (sf4 (sf4 (sf4 (sf5 (sf5 h17))))))
 have hl21 := fl_n eRs_ok (by decide) h20
 refine yBb [8, 9] [(21, .agg #[iV r.out.1, iV r.out.2.1, uV r.out.2.2, iV r.st, iV r.why, iV r.tr, iV r.nx, .string (St r.tag)])] [e2 7 [iV r.out.1, iV r.out.2.1, uV r.out.2.2, iV r.st, iV r.why, iV r.tr, iV r.nx, .string (St r.tag)]] [(7, ⟨b18, q * 8, none⟩, iV r.out.1), (7, ⟨b18, q * 8 + 1, none⟩, iV r.out.2.1), (7, ⟨b18, q * 8 + 2, none⟩, uV r.out.2.2), (7, ⟨b18, q * 8 + 3, none⟩, iV r.st), (7, ⟨b18, q * 8 + 4, none⟩, iV r.why), (7, ⟨b18, q * 8 + 5, none⟩, iV r.tr), (7, ⟨b18, q * 8 + 6, none⟩, iV r.nx), (7, ⟨b18, q * 8 + 7, none⟩, .string (St r.tag))] [] trivial (kC (gv_cell (j := 0) h20 rfl (gv_sl _ _ _) hp19 (fl_get eRs_ok (j := 0) (v := iV r.out.1) hr rfl) (q * 8) (by omega)) (kC (gv_cell (j := 0) h20 rfl (gv_sl _ _ _) hp19 (fl_get eRs_ok (j := 1) (v := iV r.out.2.1) hr rfl) (q * 8 + 1) (by omega)) (kC (gv_cell (j := 0) h20 rfl (gv_sl _ _ _) hp19 (fl_get eRs_ok (j := 2) (v := uV r.out.2.2) hr rfl) (q * 8 + 2) (by omega)) (kC (gv_cell (j := 0) h20 rfl (gv_sl _ _ _) hp19 (fl_get eRs_ok (j := 3) (v := iV r.st) hr rfl) (q * 8 + 3) (by omega)) (kC (gv_cell (j := 0) h20 rfl (gv_sl _ _ _) hp19 (fl_get eRs_ok (j := 4) (v := iV r.why) hr rfl) (q * 8 + 4) (by omega)) (kC (gv_cell (j := 0) h20 rfl (gv_sl _ _ _) hp19 (fl_get eRs_ok (j := 5) (v := iV r.tr) hr rfl) (q * 8 + 5) (by omega)) (kC (gv_cell (j := 0) h20 rfl (gv_sl _ _ _) hp19 (fl_get eRs_ok (j := 6) (v := iV r.nx) hr rfl) (q * 8 + 6) (by omega)) (kC (gv_cell (j := 0) h20 rfl (gv_sl _ _ _) hp19 (fl_get eRs_ok (j := 7) (v := .string (St r.tag)) hr rfl) (q * 8 + 7) (by omega)) nC)))))))) ?_
 have h22 := tk6 (sf5 (sf4 (sf4 (sf4 (sf4 (sf5 h20))))))
 refine yA ?_
 refine yS [(0, iV r.out.1), (1, iV r.out.2.1), (2, uV r.out.2.2), (3, iV r.st), (4, iV r.why), (5, iV r.tr), (6, iV r.nx), (7, .string (St r.tag))] [iV r.out.1, iV r.out.2.1, uV r.out.2.2, iV r.st, iV r.why, iV r.tr, iV r.nx, .string (St r.tag)] h22 fun w23 h24 => ?_
 refine yB0 [] [9] [(5, iV 0)] (.mk ?_)
 refine yK [(4, pV r1), (5, iV 0)] fun lr25 => ?_
 refine yRt ?_
 repeat (first | simp only [Exit.inBlock] | simp only [Exit.then])
 have h26 := tk6 (sf5 (sf5 (sf5 (sf2 (sf1 (sf5 h24))))))
 have h27 : sat g w23 [Tab b n A E RL, Cl r1 [iV r.out.1, iV r.out.2.1, uV r.out.2.2, iV r.st, iV r.why, iV r.tr, iV r.nx, .string (St r.tag)] 42, R] := tab_close hM16.1 (by omega) (by first | rfl | omega) h26
 have h28 := tk2 (sf1 (sf2 h27))
 refine hi_out [iV r.out.1, iV r.out.2.1, uV r.out.2.2, iV r.st, iV r.why, iV r.tr, iV r.nx, .string (St r.tag)] (.tuple #[.agg #[iV r.out.1, iV r.out.2.1, uV r.out.2.2, iV r.st, iV r.why, iV r.tr, iV r.nx, .string (St r.tag)], iV 0]) [(⟨r1, 0, none⟩, iV r.out.1), (⟨r1, 1, none⟩, iV r.out.2.1), (⟨r1, 2, none⟩, uV r.out.2.2), (⟨r1, 3, none⟩, iV r.st), (⟨r1, 4, none⟩, iV r.why), (⟨r1, 5, none⟩, iV r.tr), (⟨r1, 6, none⟩, iV r.nx), (⟨r1, 7, none⟩, .string (St r.tag))] (by kernel_rfl) (allq ⟨sat_cell h24 0 rfl rfl, sat_cell h24 0 rfl rfl, sat_cell h24 0 rfl rfl, sat_cell h24 0 rfl rfl, sat_cell h24 0 rfl rfl, sat_cell h24 0 rfl rfl, sat_cell h24 0 rfl rfl, sat_cell h24 0 rfl rfl, trivial⟩) ?_
 exact ⟨.tuple #[.agg #[iV r.out.1, iV r.out.2.1, uV r.out.2.2, iV r.st, iV r.why, iV r.tr, iV r.nx, .string (St r.tag)], iV 0], [Tab b n A E RL], rfl, ⟨rfl, rfl⟩, h28⟩

set_option maxHeartbeats 4000000 in
theorem tdrop_ht (b n : Nat) (A : List Sl2) (E : Tm) (RL : List Rs) (x y z : Int) (hz0 : 0 ≤ z) (hz1 : z ≤ 4294967295) (q : Nat) (s : Sl2) (hs : A[q]? = some s) (hd_ : y = (q : Int) ∧ s.1 = 1 ∧ s.2 = z) : HT Try.prog 45 [Value.pointer (some ⟨b, 0, none⟩), Value.agg #[Value.int IntKind.i64 x, Value.int IntKind.i64 y, Value.int IntKind.u32 z]] [Tab b n A E RL] (fun v K => v = Value.tuple #[] ∧ K = [Tab b n (giveA A q z) (gdel E y) RL]) := by
 refine hi_in 20 ([(0, pV b), (1, .agg #[iV x, iV y, uV z])] : Fr) Try.func45 (by kernel_rfl) Try.ntmps45 rfl rfl ?_
 intro g w0 R h0
 refine ySq ?_
 refine yPl [0] ?_
 refine yA ?_
 refine yNp 3 28 [iV x, iV y, uV z] h0 fun r1 w2 h3 => ?_
 refine PO.mk ?_
 refine yK [(0, pV b), (3, pV r1)] fun lr4 => ?_
 refine ySq ?_
 refine gi_drw (id := 1) (ops := RA Try.f45 [1, 0]) (Tr.fl 0 (Tr.fl 1 (Tr.fl 2 (Tr.fl 3 (Tr.fl 4 (Tr.fl 5 (Tr.an 6 Tr.nil))))))) (by kernel_rfl) (by kernel_rfl) (by kernel_rfl) (by kernel_rfl) (by kernel_rfl) (fun _ _ d _ _ h => by cases d <;> exact h) h3 ?_
 intro w5 h6
 have h7 := tk3 (sf2 (sf1 (sf2 h6)))
 obtain ⟨s8, m9, p10, c11, E12, hM13, h14⟩ := tab_open h7
 have hRl_ := hM13.2
 refine yD _ [(9, iV y), (8, .pointer (some ⟨r1, 1, none⟩)), (7, .map (some m9)), (6, .pointer (some ⟨b, 1, none⟩)), (5, pV b), (4, pV b)] [e0 0, e0 1, e0 2, e2 3 [.map (some m9)], e0 4, e2 5 [iV y]] [(5, ⟨r1, 1, none⟩, iV y), (3, ⟨b, 1, none⟩, .map (some m9))] [] trivial (kC (sat_cell h14 4 rfl rfl) (kC (sat_cell h14 0 rfl rfl) nC)) ?_
 have h15 := tk6 (sf5 (sf4 (sf4 (sf5 (sf5 (sf5 h14))))))
 refine draw_act (i := 6) [] (by kernel_rfl) (by kernel_rfl) ?_
 refine ag_delete (t := 73) (t2 := 3) (d := none) (m := (Operand.tmp 7)) (x := (Operand.tmp 9)) (kv := kI) (ve := vE) (by kernel_rfl) Try.underlying73 kyI y (by kernel_rfl) (by kernel_rfl) h15 (by kernel_rfl) (gdel E12 y) rfl ?_
 intro w16 h17
 refine ⟨_, rfl, ?_⟩
 have h18 : sat g w16 [Gp kI vE m9 (gdel E12 y), Cl b [pV s8, .map (some m9), .slice p10 RL.length c11] 76, Tb s8 n A, Sl 42 8 p10 RL.length c11 (fl eRs RL), Cl r1 [iV x, iV y, uV z] 28, R] := h17
 refine ⟨(AllC_nil _), ?_⟩
 refine yK [(0, pV b), (3, pV r1)] fun lr19 => ?_
 refine gi_drw (id := 2) (ops := RA Try.f45 [1, 1]) (Tr.fl 0 (Tr.fl 1 (Tr.fl 2 (Tr.fl 3 (Tr.fl 4 (Tr.fl 5 (Tr.fl 6 (Tr.fl 7 (Tr.fl 8 (Tr.an 9 Tr.nil)))))))))) (by kernel_rfl) (by kernel_rfl) (by kernel_rfl) (by kernel_rfl) (by kernel_rfl) (fun _ _ d _ _ h => by cases d <;> exact h) h18 ?_
 intro w20 h21
 refine yD _ [(18, .agg #[iV y, uV z]), (17, uV z), (16, .pointer (some ⟨r1, 2, none⟩)), (15, iV y), (14, .pointer (some ⟨r1, 1, none⟩)), (13, pV s8), (12, pV b), (11, pV b), (10, pV b)] [e0 0, e0 1, e0 2, e2 3 [pV s8], e0 4, e2 5 [iV y], e0 6, e2 7 [uV z], e0 8] [(7, ⟨r1, 2, none⟩, uV z), (5, ⟨r1, 1, none⟩, iV y), (3, ⟨b, 0, none⟩, pV s8)] [] trivial (kC (sat_cell h21 4 rfl rfl) (kC (sat_cell h21 4 rfl rfl) (kC (sat_cell h21 1 rfl rfl) nC))) ?_
 have h22 := tk6 (sf5 (sf4 (sf4 (sf5 (sf5 (sf5 h21))))))
 refine draw_act (i := 9) [(7, ⟨r1, 2, none⟩, uV z), (5, ⟨r1, 1, none⟩, iV y)] (by kernel_rfl) (by kernel_rfl) ?_
 refine yCl 19 Try.call60 (give_ht s8 n A q s hs y z (by omega)) h22 ?_
 rintro v K w23 (⟨rfl, rfl⟩) h24
 refine ⟨_, rfl, ?_⟩
 have h25 := ap1 h24
 refine ⟨(AllC_cons (sat_cell h25 4 rfl rfl) (AllC_cons (sat_cell h25 4 rfl rfl) (AllC_nil _))), ?_⟩
 repeat (first | simp only [Exit.inBlock] | simp only [Exit.then])
 have h26 := tk6 (sf5 (sf4 (sf4 (sf5 (sf5 (sf5 h25))))))
 have h27 : sat g w23 [Tab b n (giveA A q z) (gdel E y) RL, Cl r1 [iV x, iV y, uV z] 28, R] := tab_close (meq_del hM13.1 y) (by omega) (by first | rfl | omega) h26
 have h28 := tk2 (sf1 (sf2 h27))
 refine hi_outn [] (.tuple #[]) [] (by kernel_rfl) (by intro q hq; cases hq) ?_
 exact ⟨.tuple #[], [Tab b n (giveA A q z) (gdel E y) RL], rfl, ⟨rfl, rfl⟩, h28⟩

set_option maxHeartbeats 4000000 in
theorem tadd_full (b n : Nat) (A : List Sl2) (E : Tm) (RL : List Rs) (vn hx hy : Int) (q : Nat) (r : Rs) (hr : RL[q]? = some r) (hv : vn = (q : Int) + 1) (hf : (inS 0 A 0).length = 0) : HT Try.prog 43 [Value.pointer (some ⟨b, 0, none⟩), Value.int IntKind.i64 vn, Value.agg #[Value.int IntKind.i64 hx, Value.int IntKind.u32 hy]] [Tab b n A E RL] (fun v K => v = Value.tuple #[Value.agg #[Value.int IntKind.i64 0, Value.int IntKind.i64 0, Value.int IntKind.u32 0], Value.int IntKind.i64 4] ∧ K = [Tab b n A E RL]) := by
 refine hi_in 49 ([(0, pV b), (1, iV vn), (2, .agg #[iV hx, uV hy])] : Fr) Try.func43 (by kernel_rfl) Try.ntmps43 rfl rfl ?_
 intro g w0 R h0
 have hq_ := (List.getElem?_eq_some_iff.1 hr).1
 refine ySq ?_
 refine yPl [0, 1, 2] ?_
 refine yA ?_
 refine yNp 5 34 [iV hx, uV hy] h0 fun r1 w2 h3 => ?_
 refine yA ?_
 refine yNp 6 28 [iV 0, iV 0, uV 0] h3 fun r4 w5 h6 => ?_
 refine yB0 [] [2] [(7, iV 0)] (.mk ?_)
 refine yK [(0, pV b), (1, iV vn), (5, pV r1), (6, pV r4)] fun lr7 => ?_
 refine ySq ?_
 refine yPl [0, 1, 2, 3, 4, 5, 6, 7, 8, 9, 10] ?_
 have h8 := tk4 (sf3 (sf2 (sf2 (sf3 h6))))
 obtain ⟨s9, m10, p11, c12, E13, hM14, h15⟩ := tab_open h8
 have hRl_ := hM14.2
 refine yBb [4, 5, 6, 7, 8, 9, 10] [(15, pV s9), (14, pV b), (13, pV b), (12, pV b)] [e0 0, e0 1, e0 2, e2 3 [pV s9]] [(3, ⟨b, 0, none⟩, pV s9)] [] trivial (kC (sat_cell h15 0 rfl rfl) nC) ?_
 have h16 := tk7 (sf6 (sf5 (sf6 (sf6 (sf6 (sf6 (sf6 h15)))))))
 refine yA ?_
 refine yCl 16 Try.call59 (take_n s9 n A (by omega)) h16 ?_
 rintro v K w17 (⟨rfl, rfl⟩) h18
 refine ⟨_, rfl, ?_⟩
 have h19 := ap1 h18
 refine yB0 [8, 9, 10] [5, 6, 7] [(18, iV 4), (17, .agg #[iV 0, uV 0]), (11, .tuple #[.agg #[iV 0, uV 0], iV 4])] ?_
 refine yA ?_
 refine yNp 8 34 [iV 0, uV 0] h19 fun r20 w21 h22 => ?_
 refine yA ?_
 refine yS [(0, iV 0), (1, uV 0)] [iV 0, uV 0] h22 fun w23 h24 => ?_
 refine yB0 [] [10] [(9, iV 4)] (.mk ?_)
 refine yK [(0, pV b), (1, iV vn), (5, pV r1), (6, pV r4), (8, pV r20), (9, iV 4)] fun lr25 => ?_
 refine ySq ?_
 refine ySq ?_
 refine yPl [0, 1] ?_
 refine yB0 [] [0, 1] [(20, .bool true), (19, iV 4)] (.mk ?_)
 refine yK [(0, pV b), (1, iV vn), (5, pV r1), (6, pV r4), (8, pV r20), (9, iV 4), (20, .bool true)] fun lr26 => ?_
 refine yCt ?_
 refine ySq ?_
 refine yPl [0, 1, 2, 3] ?_
 refine yB0 [2, 3] [0, 1] [(22, iV 4), (21, .agg #[iV 0, iV 0, uV 0])] ?_
 have h27 := tk8 (sf7 (sf6 (sf6 (sf6 (sf6 (sf6 (sf7 (sf7 h24))))))))
 refine yA ?_
 refine yS [(0, iV 0), (1, iV 0), (2, uV 0)] [iV 0, iV 0, uV 0] h27 fun w28 h29 => ?_
 refine yB0 [] [3] [(7, iV 4)] (.mk ?_)
 refine yK [(6, pV r4), (7, iV 4)] fun lr30 => ?_
 refine yRt ?_
 repeat (first | simp only [Exit.inBlock] | simp only [Exit.then])
 have h31 := tk8 (sf7 (sf6 (sf7 (sf7 (sf3 (sf3 (sf7 (sf7 h29))))))))
 have h32 : sat g w28 [Tab b n A E RL, Cl r4 [iV 0, iV 0, uV 0] 28, Cl r20 [iV 0, uV 0] 34, Cl r1 [iV hx, uV hy] 34, R] := tab_close hM14.1 (by omega) (by first | rfl | omega) h31
 have h33 := tk2 (sf1 (sf4 h32))
 refine hi_out [iV 0, iV 0, uV 0] (.tuple #[.agg #[iV 0, iV 0, uV 0], iV 4]) [(⟨r4, 0, none⟩, iV 0), (⟨r4, 1, none⟩, iV 0), (⟨r4, 2, none⟩, uV 0)] (by kernel_rfl) (allq ⟨sat_cell h29 0 rfl rfl, sat_cell h29 0 rfl rfl, sat_cell h29 0 rfl rfl, trivial⟩) ?_
 exact ⟨.tuple #[.agg #[iV 0, iV 0, uV 0], iV 4], [Tab b n A E RL], rfl, ⟨rfl, rfl⟩, h33⟩

set_option maxHeartbeats 4000000 in
theorem tadd_ok (b n : Nat) (A : List Sl2) (E : Tm) (RL : List Rs) (vn hx hy : Int) (q : Nat) (r : Rs) (hr : RL[q]? = some r) (hv : vn = (q : Int) + 1) (j : Nat) (gj : Int) (hj : (inS 0 A 0)[0]? = some (j, gj)) : HT Try.prog 43 [Value.pointer (some ⟨b, 0, none⟩), Value.int IntKind.i64 vn, Value.agg #[Value.int IntKind.i64 hx, Value.int IntKind.u32 hy]] [Tab b n A E RL] (fun v K => v = Value.tuple #[Value.agg #[Value.int IntKind.i64 r.out.1, Value.int IntKind.i64 (((j : Nat) : Int)), Value.int IntKind.u32 gj], Value.int IntKind.i64 0] ∧ K = [Tab b n (A.set j (1, gj)) (gset E (j : Int) ⟨(r.out.1, (j : Int), gj), vn, (hx, hy)⟩) RL]) := by
 have hfl_ := (List.getElem?_eq_some_iff.1 hj).1
 refine hi_in 49 ([(0, pV b), (1, iV vn), (2, .agg #[iV hx, uV hy])] : Fr) Try.func43 (by kernel_rfl) Try.ntmps43 rfl rfl ?_
 intro g w0 R h0
 have hq_ := (List.getElem?_eq_some_iff.1 hr).1
 refine ySq ?_
 refine yPl [0, 1, 2] ?_
 refine yA ?_
 refine yNp 5 34 [iV hx, uV hy] h0 fun r1 w2 h3 => ?_
 refine yA ?_
 refine yNp 6 28 [iV 0, iV 0, uV 0] h3 fun r4 w5 h6 => ?_
 refine yB0 [] [2] [(7, iV 0)] (.mk ?_)
 refine yK [(0, pV b), (1, iV vn), (5, pV r1), (6, pV r4)] fun lr7 => ?_
 refine ySq ?_
 refine yPl [0, 1, 2, 3, 4, 5, 6, 7, 8, 9, 10] ?_
 have h8 := tk4 (sf3 (sf2 (sf2 (sf3 h6))))
 obtain ⟨s9, m10, p11, c12, E13, hM14, h15⟩ := tab_open h8
 have hRl_ := hM14.2
 refine yBb [4, 5, 6, 7, 8, 9, 10] [(15, pV s9), (14, pV b), (13, pV b), (12, pV b)] [e0 0, e0 1, e0 2, e2 3 [pV s9]] [(3, ⟨b, 0, none⟩, pV s9)] [] trivial (kC (sat_cell h15 0 rfl rfl) nC) ?_
 have h16 := tk7 (sf6 (sf5 (sf6 (sf6 (sf6 (sf6 (sf6 h15)))))))
 refine yA ?_
 refine yCl 16 Try.call59 (take_j s9 n A j gj hj) h16 ?_
 rintro v K w17 (⟨rfl, rfl⟩) h18
 refine ⟨_, rfl, ?_⟩
 have h19 := ap1 h18
 refine yB0 [8, 9, 10] [5, 6, 7] [(18, iV 0), (17, .agg #[iV (j : Int), uV gj]), (11, .tuple #[.agg #[iV (j : Int), uV gj], iV 0])] ?_
 refine yA ?_
 refine yNp 8 34 [iV 0, uV 0] h19 fun r20 w21 h22 => ?_
 refine yA ?_
 refine yS [(0, iV (j : Int)), (1, uV gj)] [iV (j : Int), uV gj] h22 fun w23 h24 => ?_
 refine yB0 [] [10] [(9, iV 0)] (.mk ?_)
 refine yK [(0, pV b), (1, iV vn), (5, pV r1), (6, pV r4), (8, pV r20), (9, iV 0)] fun lr25 => ?_
 refine ySq ?_
 refine ySq ?_
 refine yPl [0, 1] ?_
 refine yB0 [] [0, 1] [(20, .bool false), (19, iV 0)] (.mk ?_)
 refine yK [(0, pV b), (1, iV vn), (5, pV r1), (6, pV r4), (8, pV r20), (9, iV 0), (20, .bool false)] fun lr26 => ?_
 refine yCf ?_
 refine ySk ?_
 refine ySq ?_
 refine gi_drw (id := 4) (ops := RA Try.f43 [1, 1, 1, 0]) (Tr.fl 0 (Tr.fl 1 (Tr.fl 2 (Tr.fl 3 (Tr.fl 4 (Tr.fl 5 (Tr.fl 6 (Tr.fl 7 (Tr.fl 8 (Tr.fl 9 (Tr.fl 10 (Tr.fl 11 (Tr.fl 12 (Tr.fl 13 (Tr.fl 14 (Tr.an 15 (Tr.an 16 Tr.nil))))))))))))))))) (by kernel_rfl) (by kernel_rfl) (by kernel_rfl) (by kernel_rfl) (by kernel_rfl) (fun _ _ d _ _ h => by cases d <;> exact h) h24 ?_
 intro w27 h28
 obtain ⟨b29, hp30⟩ := sl_ptr0 (j := 4) h28 rfl (by omega)
 refine yD _ [(28, iV (vn - 1)), (27, iV vn), (26, .slice p11 RL.length c12), (25, .pointer (some ⟨b, 2, none⟩)), (24, pV b), (23, pV b)] [e0 0, e0 1, e0 2, e2 3 [.slice p11 RL.length c12], e0 4, e1 5 (iV (vn - 1))] [(3, ⟨b, 2, none⟩, .slice p11 RL.length c12)] [(iV (IntKind.wrap .i64 (vn - 1)), iV (vn - 1))] ⟨(ov_i64 (by omega) (by omega) (by omega)), trivial⟩ (kC (sat_cell h28 2 rfl rfl) nC) ?_
 refine draw_law (i := 6) 29 (.pointer (some ⟨b29, q * 8, none⟩)) [] (by kernel_rfl) (fun _ _ => law_indexSlP (o := opA (RA Try.f43 [1, 1, 1, 0]) 6) (x := (Operand.tmp 26)) (i := (Operand.tmp 28)) (p := p11) (b := b29) (off := 0) (z := (vn - 1)) (len := RL.length) (cap := c12) (by kernel_rfl) Try.underlying74 8 (by kernel_rfl) q (by kernel_rfl) hp30 (by kernel_rfl) (by omega) (by omega) (q * 8) (by omega) _) (by intro q hq; cases hq) ?_
 have h31 := tk8 (sf7 (sf6 (sf6 (sf6 (sf6 (sf7 (sf7 (sf7 h28))))))))
 have hl32 := fl_n eRs_ok (by decide) h31
 refine yD _ [(37, .agg #[iV r.out.1, iV (j : Int), uV gj]), (36, uV gj), (35, .pointer (some ⟨r20, 1, none⟩)), (34, iV (j : Int)), (33, pV r20), (32, iV r.out.1), (31, .pointer (some ⟨b29, q * 8, none⟩)), (30, .pointer (some ⟨b29, q * 8, none⟩))] [e0 7, e0 8, e2 9 [iV r.out.1], e0 10, e2 11 [iV (j : Int)], e0 12, e2 13 [uV gj], e0 14] [(13, ⟨r20, 1, none⟩, uV gj), (11, ⟨r20, 0, none⟩, iV (j : Int)), (9, ⟨b29, q * 8, none⟩, iV r.out.1)] [] trivial (kC (sat_cell h31 1 rfl rfl) (kC (sat_cell h31 1 rfl rfl) (kC (gv_cell (j := 0) h31 rfl (gv_sl _ _ _) hp30 (fl_get eRs_ok (j := 0) (v := iV r.out.1) hr rfl) (q * 8) (by omega)) nC))) ?_
 refine draw_act (i := 15) [(13, ⟨r20, 1, none⟩, uV gj), (11, ⟨r20, 0, none⟩, iV (j : Int)), (9, ⟨b29, q * 8, none⟩, iV r.out.1), (3, ⟨b, 2, none⟩, .slice p11 RL.length c12)] (by kernel_rfl) (by kernel_rfl) ?_
 refine yNp 10 28 [iV 0, iV 0, uV 0] h31 fun r33 w34 h35 => ?_
 refine ⟨(AllC_cons (sat_cell h35 2 rfl rfl) (AllC_cons (sat_cell h35 2 rfl rfl) (AllC_cons (gv_cell (j := 1) h35 rfl (gv_sl _ _ _) hp30 (fl_get eRs_ok (j := 0) (v := iV r.out.1) hr rfl) (q * 8) (by omega)) (AllC_cons (sat_cell h35 4 rfl rfl) (AllC_nil _))))), ?_⟩
 refine draw_act (i := 16) [] (by kernel_rfl) (by kernel_rfl) ?_
 refine yS [(0, iV r.out.1), (1, iV (j : Int)), (2, uV gj)] [iV r.out.1, iV (j : Int), uV gj] h35 fun w36 h37 => ?_
 refine ⟨(AllC_nil _), ?_⟩
 refine yK [(0, pV b), (1, iV vn), (5, pV r1), (6, pV r4), (8, pV r20), (10, pV r33)] fun lr38 => ?_
 refine ySq ?_
 refine gi_drw (id := 5) (ops := RA Try.f43 [1, 1, 1, 1, 0]) (Tr.fl 0 (Tr.fl 1 (Tr.fl 2 (Tr.fl 3 (Tr.fl 4 (Tr.fl 5 (Tr.fl 6 (Tr.fl 7 (Tr.fl 8 (Tr.fl 9 (Tr.an 10 Tr.nil))))))))))) (by kernel_rfl) (by kernel_rfl) (by kernel_rfl) (by kernel_rfl) (by kernel_rfl) (fun _ _ d _ _ h => by cases d <;> exact h) h37 ?_
 intro w39 h40
 refine yD _ [(47, .agg #[iV r.out.1, iV (j : Int), uV gj, iV vn, iV hx, uV hy]), (46, .agg #[iV hx, uV hy]), (45, iV vn), (44, .agg #[iV r.out.1, iV (j : Int), uV gj]), (43, iV (j : Int)), (42, pV r20), (41, .map (some m10)), (40, .pointer (some ⟨b, 1, none⟩)), (39, pV b), (38, pV b)] [e0 0, e0 1, e0 2, e2 3 [.map (some m10)], e0 4, e2 5 [iV (j : Int)], e2 6 [iV r.out.1, iV (j : Int), uV gj], e0 7, e2 8 [iV hx, uV hy], e0 9] [(8, ⟨r1, 0, none⟩, iV hx), (8, ⟨r1, 1, none⟩, uV hy), (6, ⟨r33, 0, none⟩, iV r.out.1), (6, ⟨r33, 1, none⟩, iV (j : Int)), (6, ⟨r33, 2, none⟩, uV gj), (5, ⟨r20, 0, none⟩, iV (j : Int)), (3, ⟨b, 1, none⟩, .map (some m10))] [] trivial (kC (sat_cell h40 7 rfl rfl) (kC (sat_cell h40 7 rfl rfl) (kC (sat_cell h40 0 rfl rfl) (kC (sat_cell h40 0 rfl rfl) (kC (sat_cell h40 0 rfl rfl) (kC (sat_cell h40 2 rfl rfl) (kC (sat_cell h40 4 rfl rfl) nC))))))) ?_
 have h41 := tk9 (sf8 (sf7 (sf7 (sf7 (sf7 (sf7 (sf8 (sf8 (sf8 h40)))))))))
 refine draw_act (i := 10) [] (by kernel_rfl) (by kernel_rfl) ?_
 refine ag_mapUpdate (t := 73) (m := (Operand.tmp 41)) (x := (Operand.tmp 43)) (y := (Operand.tmp 47)) (kv := kI) (ve := vE) (by kernel_rfl) (by kernel_rfl) Try.underlying73 kyI (j : Int) (⟨(r.out.1, (j : Int), gj), vn, (hx, hy)⟩ : Ety) (by kernel_rfl) (by kernel_rfl) (by kernel_rfl) h41 (gset E13 (j : Int) ⟨(r.out.1, (j : Int), gj), vn, (hx, hy)⟩) rfl ?_
 intro w42 h43
 refine ⟨(AllC_nil _), ?_⟩
 refine yK [(6, pV r4), (10, pV r33)] fun lr44 => ?_
 refine ySq ?_
 refine yPl [0, 1, 2] ?_
 refine yBb [1, 2] [(48, .agg #[iV r.out.1, iV (j : Int), uV gj])] [e2 0 [iV r.out.1, iV (j : Int), uV gj]] [(0, ⟨r33, 0, none⟩, iV r.out.1), (0, ⟨r33, 1, none⟩, iV (j : Int)), (0, ⟨r33, 2, none⟩, uV gj)] [] trivial (kC (sat_cell h43 1 rfl rfl) (kC (sat_cell h43 1 rfl rfl) (kC (sat_cell h43 1 rfl rfl) nC))) ?_
 have h45 := tk9 (sf8 (sf7 (sf7 (sf7 (sf7 (sf7 (sf7 (sf8 (sf8 h43)))))))))
 refine yA ?_
 refine yS [(0, iV r.out.1), (1, iV (j : Int)), (2, uV gj)] [iV r.out.1, iV (j : Int), uV gj] h45 fun w46 h47 => ?_
 refine yB0 [] [2] [(7, iV 0)] (.mk ?_)
 refine yK [(6, pV r4), (7, iV 0)] fun lr48 => ?_
 refine yRt ?_
 repeat (first | simp only [Exit.inBlock] | simp only [Exit.then])
 have h49 := tk9 (sf8 (sf7 (sf6 (sf6 (sf4 (sf5 (sf6 (sf8 (sf8 h47)))))))))
 have h50 : sat g w46 [Tab b n (A.set j (1, gj)) (gset E (j : Int) ⟨(r.out.1, (j : Int), gj), vn, (hx, hy)⟩) RL, Cl r4 [iV r.out.1, iV (j : Int), uV gj] 28, Cl r33 [iV r.out.1, iV (j : Int), uV gj] 28, Cl r20 [iV (j : Int), uV gj] 34, Cl r1 [iV hx, uV hy] 34, R] := tab_close (meq_set hM14.1 (j : Int) ⟨(r.out.1, (j : Int), gj), vn, (hx, hy)⟩) (by omega) (by first | rfl | omega) h49
 have h51 := tk2 (sf1 (sf5 h50))
 refine hi_out [iV r.out.1, iV (j : Int), uV gj] (.tuple #[.agg #[iV r.out.1, iV (j : Int), uV gj], iV 0]) [(⟨r4, 0, none⟩, iV r.out.1), (⟨r4, 1, none⟩, iV (j : Int)), (⟨r4, 2, none⟩, uV gj)] (by kernel_rfl) (allq ⟨sat_cell h47 0 rfl rfl, sat_cell h47 0 rfl rfl, sat_cell h47 0 rfl rfl, trivial⟩) ?_
 exact ⟨.tuple #[.agg #[iV r.out.1, iV (j : Int), uV gj], iV 0], [Tab b n (A.set j (1, gj)) (gset E (j : Int) ⟨(r.out.1, (j : Int), gj), vn, (hx, hy)⟩) RL], rfl, ⟨rfl, rfl⟩, h51⟩

set_option maxHeartbeats 4000000 in
theorem taddx_ok (p0 : Option Addr) (k0 c0 : Nat) (b n : Nat) (A : List Sl2) (E : Tm) (RL : List Rs) (vn hx hy : Int) (q : Nat) (r : Rs) (hr : RL[q]? = some r) (hv : vn = (q : Int) + 1) (j : Nat) (gj : Int) (hj : (inS 0 A 0)[0]? = some (j, gj)) : HT Try.prog 43 [Value.pointer (some ⟨b, 0, none⟩), Value.int IntKind.i64 vn, Value.agg #[Value.int IntKind.i64 hx, Value.int IntKind.u32 hy]] [TabX b n A E RL p0 k0 c0] (fun v K => v = Value.tuple #[Value.agg #[Value.int IntKind.i64 r.out.1, Value.int IntKind.i64 (((j : Nat) : Int)), Value.int IntKind.u32 gj], Value.int IntKind.i64 0] ∧ K = [TabX b n (A.set j (1, gj)) (gset E (j : Int) ⟨(r.out.1, (j : Int), gj), vn, (hx, hy)⟩) RL p0 k0 c0]) := by
 have hfl_ := (List.getElem?_eq_some_iff.1 hj).1
 refine hi_in 49 ([(0, pV b), (1, iV vn), (2, .agg #[iV hx, uV hy])] : Fr) Try.func43 (by kernel_rfl) Try.ntmps43 rfl rfl ?_
 intro g w0 R h0
 have hq_ := (List.getElem?_eq_some_iff.1 hr).1
 refine ySq ?_
 refine yPl [0, 1, 2] ?_
 refine yA ?_
 refine yNp 5 34 [iV hx, uV hy] h0 fun r1 w2 h3 => ?_
 refine yA ?_
 refine yNp 6 28 [iV 0, iV 0, uV 0] h3 fun r4 w5 h6 => ?_
 refine yB0 [] [2] [(7, iV 0)] (.mk ?_)
 refine yK [(0, pV b), (1, iV vn), (5, pV r1), (6, pV r4)] fun lr7 => ?_
 refine ySq ?_
 refine yPl [0, 1, 2, 3, 4, 5, 6, 7, 8, 9, 10] ?_
 have h8 := tk4 (sf3 (sf2 (sf2 (sf3 h6))))
 obtain ⟨s9, m10, E13, hM14, h15⟩ := tabx_open h8
 have hRl_ := hM14.2
 have h16 := tk7 (sf6 (sf5 (sf5 (sf5 (sf6 (sf6 (sf6 h15)))))))
 have hl17 := fl_n eRs_ok (by decide) h16
 have h18 := tk7 (sf6 (sf6 (sf6 (sf3 (sf6 (sf6 (sf6 h16)))))))
 refine yBb [4, 5, 6, 7, 8, 9, 10] [(15, pV s9), (14, pV b), (13, pV b), (12, pV b)] [e0 0, e0 1, e0 2, e2 3 [pV s9]] [(3, ⟨b, 0, none⟩, pV s9)] [] trivial (kC (sat_cell h18 0 rfl rfl) nC) ?_
 have h19 := tk7 (sf6 (sf5 (sf6 (sf6 (sf6 (sf6 (sf6 h18)))))))
 refine yA ?_
 refine yCl 16 Try.call59 (take_j s9 n A j gj hj) h19 ?_
 rintro v K w20 (⟨rfl, rfl⟩) h21
 refine ⟨_, rfl, ?_⟩
 have h22 := ap1 h21
 refine yB0 [8, 9, 10] [5, 6, 7] [(18, iV 0), (17, .agg #[iV (j : Int), uV gj]), (11, .tuple #[.agg #[iV (j : Int), uV gj], iV 0])] ?_
 refine yA ?_
 refine yNp 8 34 [iV 0, uV 0] h22 fun r23 w24 h25 => ?_
 refine yA ?_
 refine yS [(0, iV (j : Int)), (1, uV gj)] [iV (j : Int), uV gj] h25 fun w26 h27 => ?_
 refine yB0 [] [10] [(9, iV 0)] (.mk ?_)
 refine yK [(0, pV b), (1, iV vn), (5, pV r1), (6, pV r4), (8, pV r23), (9, iV 0)] fun lr28 => ?_
 refine ySq ?_
 refine ySq ?_
 refine yPl [0, 1] ?_
 refine yB0 [] [0, 1] [(20, .bool false), (19, iV 0)] (.mk ?_)
 refine yK [(0, pV b), (1, iV vn), (5, pV r1), (6, pV r4), (8, pV r23), (9, iV 0), (20, .bool false)] fun lr29 => ?_
 refine yCf ?_
 refine ySk ?_
 refine ySq ?_
 refine gi_drw (id := 4) (ops := RA Try.f43 [1, 1, 1, 0]) (Tr.fl 0 (Tr.fl 1 (Tr.fl 2 (Tr.fl 3 (Tr.fl 4 (Tr.fl 5 (Tr.fl 6 (Tr.fl 7 (Tr.fl 8 (Tr.fl 9 (Tr.fl 10 (Tr.fl 11 (Tr.fl 12 (Tr.fl 13 (Tr.fl 14 (Tr.an 15 (Tr.an 16 Tr.nil))))))))))))))))) (by kernel_rfl) (by kernel_rfl) (by kernel_rfl) (by kernel_rfl) (by kernel_rfl) (fun _ _ d _ _ h => by cases d <;> exact h) h27 ?_
 intro w30 h31
 obtain ⟨b32, hp33⟩ := sl_ptr0 (j := 4) h31 rfl (by omega)
 refine yD _ [(28, iV (vn - 1)), (27, iV vn), (26, .slice p0 k0 c0), (25, .pointer (some ⟨b, 2, none⟩)), (24, pV b), (23, pV b)] [e0 0, e0 1, e0 2, e2 3 [.slice p0 k0 c0], e0 4, e1 5 (iV (vn - 1))] [(3, ⟨b, 2, none⟩, .slice p0 k0 c0)] [(iV (IntKind.wrap .i64 (vn - 1)), iV (vn - 1))] ⟨(ov_i64 (by omega) (by omega) (by omega)), trivial⟩ (kC (sat_cell h31 2 rfl rfl) nC) ?_
 refine draw_law (i := 6) 29 (.pointer (some ⟨b32, q * 8, none⟩)) [] (by kernel_rfl) (fun _ _ => law_indexSlP (o := opA (RA Try.f43 [1, 1, 1, 0]) 6) (x := (Operand.tmp 26)) (i := (Operand.tmp 28)) (p := p0) (b := b32) (off := 0) (z := (vn - 1)) (len := k0) (cap := c0) (by kernel_rfl) Try.underlying74 8 (by kernel_rfl) q (by kernel_rfl) hp33 (by kernel_rfl) (by omega) (by omega) (q * 8) (by omega) _) (by intro q hq; cases hq) ?_
 refine yD _ [(37, .agg #[iV r.out.1, iV (j : Int), uV gj]), (36, uV gj), (35, .pointer (some ⟨r23, 1, none⟩)), (34, iV (j : Int)), (33, pV r23), (32, iV r.out.1), (31, .pointer (some ⟨b32, q * 8, none⟩)), (30, .pointer (some ⟨b32, q * 8, none⟩))] [e0 7, e0 8, e2 9 [iV r.out.1], e0 10, e2 11 [iV (j : Int)], e0 12, e2 13 [uV gj], e0 14] [(13, ⟨r23, 1, none⟩, uV gj), (11, ⟨r23, 0, none⟩, iV (j : Int)), (9, ⟨b32, q * 8, none⟩, iV r.out.1)] [] trivial (kC (sat_cell h31 0 rfl rfl) (kC (sat_cell h31 0 rfl rfl) (kC (gv_cell (j := 4) h31 rfl (gv_sl _ _ _) hp33 (fl_get eRs_ok (j := 0) (v := iV r.out.1) hr rfl) (q * 8) (by omega)) nC))) ?_
 refine draw_act (i := 15) [(13, ⟨r23, 1, none⟩, uV gj), (11, ⟨r23, 0, none⟩, iV (j : Int)), (9, ⟨b32, q * 8, none⟩, iV r.out.1), (3, ⟨b, 2, none⟩, .slice p0 k0 c0)] (by kernel_rfl) (by kernel_rfl) ?_
 refine yNp 10 28 [iV 0, iV 0, uV 0] h31 fun r34 w35 h36 => ?_
 refine ⟨(AllC_cons (sat_cell h36 1 rfl rfl) (AllC_cons (sat_cell h36 1 rfl rfl) (AllC_cons (gv_cell (j := 5) h36 rfl (gv_sl _ _ _) hp33 (fl_get eRs_ok (j := 0) (v := iV r.out.1) hr rfl) (q * 8) (by omega)) (AllC_cons (sat_cell h36 3 rfl rfl) (AllC_nil _))))), ?_⟩
 refine draw_act (i := 16) [] (by kernel_rfl) (by kernel_rfl) ?_
 refine yS [(0, iV r.out.1), (1, iV (j : Int)), (2, uV gj)] [iV r.out.1, iV (j : Int), uV gj] h36 fun w37 h38 => ?_
 refine ⟨(AllC_nil _), ?_⟩
 refine yK [(0, pV b), (1, iV vn), (5, pV r1), (6, pV r4), (8, pV r23), (10, pV r34)] fun lr39 => ?_
 refine ySq ?_
 refine gi_drw (id := 5) (ops := RA Try.f43 [1, 1, 1, 1, 0]) (Tr.fl 0 (Tr.fl 1 (Tr.fl 2 (Tr.fl 3 (Tr.fl 4 (Tr.fl 5 (Tr.fl 6 (Tr.fl 7 (Tr.fl 8 (Tr.fl 9 (Tr.an 10 Tr.nil))))))))))) (by kernel_rfl) (by kernel_rfl) (by kernel_rfl) (by kernel_rfl) (by kernel_rfl) (fun _ _ d _ _ h => by cases d <;> exact h) h38 ?_
 intro w40 h41
 refine yD _ [(47, .agg #[iV r.out.1, iV (j : Int), uV gj, iV vn, iV hx, uV hy]), (46, .agg #[iV hx, uV hy]), (45, iV vn), (44, .agg #[iV r.out.1, iV (j : Int), uV gj]), (43, iV (j : Int)), (42, pV r23), (41, .map (some m10)), (40, .pointer (some ⟨b, 1, none⟩)), (39, pV b), (38, pV b)] [e0 0, e0 1, e0 2, e2 3 [.map (some m10)], e0 4, e2 5 [iV (j : Int)], e2 6 [iV r.out.1, iV (j : Int), uV gj], e0 7, e2 8 [iV hx, uV hy], e0 9] [(8, ⟨r1, 0, none⟩, iV hx), (8, ⟨r1, 1, none⟩, uV hy), (6, ⟨r34, 0, none⟩, iV r.out.1), (6, ⟨r34, 1, none⟩, iV (j : Int)), (6, ⟨r34, 2, none⟩, uV gj), (5, ⟨r23, 0, none⟩, iV (j : Int)), (3, ⟨b, 1, none⟩, .map (some m10))] [] trivial (kC (sat_cell h41 7 rfl rfl) (kC (sat_cell h41 7 rfl rfl) (kC (sat_cell h41 0 rfl rfl) (kC (sat_cell h41 0 rfl rfl) (kC (sat_cell h41 0 rfl rfl) (kC (sat_cell h41 1 rfl rfl) (kC (sat_cell h41 3 rfl rfl) nC))))))) ?_
 have h42 := tk9 (sf8 (sf7 (sf7 (sf7 (sf7 (sf8 (sf8 (sf8 (sf8 h41)))))))))
 refine draw_act (i := 10) [] (by kernel_rfl) (by kernel_rfl) ?_
 refine ag_mapUpdate (t := 73) (m := (Operand.tmp 41)) (x := (Operand.tmp 43)) (y := (Operand.tmp 47)) (kv := kI) (ve := vE) (by kernel_rfl) (by kernel_rfl) Try.underlying73 kyI (j : Int) (⟨(r.out.1, (j : Int), gj), vn, (hx, hy)⟩ : Ety) (by kernel_rfl) (by kernel_rfl) (by kernel_rfl) h42 (gset E13 (j : Int) ⟨(r.out.1, (j : Int), gj), vn, (hx, hy)⟩) rfl ?_
 intro w43 h44
 refine ⟨(AllC_nil _), ?_⟩
 refine yK [(6, pV r4), (10, pV r34)] fun lr45 => ?_
 refine ySq ?_
 refine yPl [0, 1, 2] ?_
 refine yBb [1, 2] [(48, .agg #[iV r.out.1, iV (j : Int), uV gj])] [e2 0 [iV r.out.1, iV (j : Int), uV gj]] [(0, ⟨r34, 0, none⟩, iV r.out.1), (0, ⟨r34, 1, none⟩, iV (j : Int)), (0, ⟨r34, 2, none⟩, uV gj)] [] trivial (kC (sat_cell h44 1 rfl rfl) (kC (sat_cell h44 1 rfl rfl) (kC (sat_cell h44 1 rfl rfl) nC))) ?_
 have h46 := tk9 (sf8 (sf7 (sf7 (sf7 (sf7 (sf7 (sf7 (sf8 (sf8 h44)))))))))
 refine yA ?_
 refine yS [(0, iV r.out.1), (1, iV (j : Int)), (2, uV gj)] [iV r.out.1, iV (j : Int), uV gj] h46 fun w47 h48 => ?_
 refine yB0 [] [2] [(7, iV 0)] (.mk ?_)
 refine yK [(6, pV r4), (7, iV 0)] fun lr49 => ?_
 refine yRt ?_
 repeat (first | simp only [Exit.inBlock] | simp only [Exit.then])
 have h50 := tk9 (sf8 (sf7 (sf6 (sf8 (sf4 (sf5 (sf5 (sf8 (sf8 h48)))))))))
 have h51 : sat g w47 [TabX b n (A.set j (1, gj)) (gset E (j : Int) ⟨(r.out.1, (j : Int), gj), vn, (hx, hy)⟩) RL p0 k0 c0, Cl r4 [iV r.out.1, iV (j : Int), uV gj] 28, Cl r34 [iV r.out.1, iV (j : Int), uV gj] 28, Cl r23 [iV (j : Int), uV gj] 34, Cl r1 [iV hx, uV hy] 34, R] := tabx_close (meq_set hM14.1 (j : Int) ⟨(r.out.1, (j : Int), gj), vn, (hx, hy)⟩) (by omega)  h50
 have h52 := tk2 (sf1 (sf5 h51))
 refine hi_out [iV r.out.1, iV (j : Int), uV gj] (.tuple #[.agg #[iV r.out.1, iV (j : Int), uV gj], iV 0]) [(⟨r4, 0, none⟩, iV r.out.1), (⟨r4, 1, none⟩, iV (j : Int)), (⟨r4, 2, none⟩, uV gj)] (by kernel_rfl) (allq ⟨sat_cell h48 0 rfl rfl, sat_cell h48 0 rfl rfl, sat_cell h48 0 rfl rfl, trivial⟩) ?_
 exact ⟨.tuple #[.agg #[iV r.out.1, iV (j : Int), uV gj], iV 0], [TabX b n (A.set j (1, gj)) (gset E (j : Int) ⟨(r.out.1, (j : Int), gj), vn, (hx, hy)⟩) RL p0 k0 c0], rfl, ⟨rfl, rfl⟩, h52⟩

end Go.Proofs.Ytjjpmehiolejgaa

/- Walks, printed by my generator gen13.py. -/
namespace Go.Proofs.Ytjjpmehiolejgaa
theorem seq34_eql_t {n : Nat} {l : Fr} {o : Oper} {x y : Operand} (a0 : Int) (a1 : Int) (c0 : Int) (c1 : Int) (ho : o.op = .binOp .eql 34 x y 34) (hx : fe n l x = .agg #[.int .i64 a0, .int .u32 a1]) (hy : fe n l y = .agg #[.int .i64 c0, .int .u32 c1]) (h : a0 = c0 ∧ a1 = c1) (w : World) : (execOp (fe n l) o).run Try.prog w = .ok (.value (.bool true)) w := by
  obtain ⟨rfl, rfl⟩ := h
  simp [execOp, ho, hx, hy, go_sem]
theorem seq34_eql_f {n : Nat} {l : Fr} {o : Oper} {x y : Operand} (a0 : Int) (a1 : Int) (c0 : Int) (c1 : Int) (ho : o.op = .binOp .eql 34 x y 34) (hx : fe n l x = .agg #[.int .i64 a0, .int .u32 a1]) (hy : fe n l y = .agg #[.int .i64 c0, .int .u32 c1]) (h : ¬ (a0 = c0 ∧ a1 = c1)) (w : World) : (execOp (fe n l) o).run Try.prog w = .ok (.value (.bool false)) w := by
  by_cases h0 : a0 = c0
  · skip
    by_cases h1 : a1 = c1
    · exact absurd ⟨h0, h1⟩ h
    · simp [execOp, ho, hx, hy, go_sem, h0, h1]
  · simp [execOp, ho, hx, hy, go_sem, h0]
set_option maxHeartbeats 4000000 in
theorem thas_ht (b n : Nat) (A : List Sl2) (E : Tm) (RL : List Rs) (hx hy : Int) : HT Try.prog 41 [Value.pointer (some ⟨b, 0, none⟩), Value.agg #[Value.int IntKind.i64 hx, Value.int IntKind.u32 hy]] [Tab b n A E RL] (fun v K => (v = Value.bool true ∧ (∃ e ∈ allE E, e.h = (hx, hy)) ∧ K = [Tab b n A E RL]) ∨ (v = Value.bool false ∧ (∀ e ∈ allE E, e.h ≠ (hx, hy)) ∧ K = [Tab b n A E RL])) := by
 refine hi_in 13 ([(0, pV b), (1, .agg #[iV hx, uV hy])] : Fr) Try.func41 (by kernel_rfl) Try.ntmps41 rfl rfl ?_
 intro g w0 R h0
 refine ySq ?_
 refine yPl [0, 1] ?_
 refine yA ?_
 refine yNp 3 34 [iV hx, uV hy] h0 fun r1 w2 h3 => ?_
 refine yA ?_
 refine yNp 4 4 [.bool false] h3 fun r4 w5 h6 => ?_
 refine PO.mk ?_
 refine yK [(0, pV b), (1, .agg #[iV hx, uV hy]), (3, pV r1), (4, pV r4)] fun lr7 => ?_
 refine ySq ?_
 refine ySq ?_
 refine yPl [0, 1] ?_
 refine yB0 [1] [0] [(6, pV b)] ?_
 refine yA ?_
 refine yCl 7 Try.call48 (tall1_ht b) h6 ?_
 rintro v K w9 (⟨b8, rfl, rfl⟩) h10
 refine ⟨_, rfl, ?_⟩
 have h11 := ap1 h10
 refine PO.mk ?_
 refine yK [(0, pV b), (1, .agg #[iV hx, uV hy]), (3, pV r1), (4, pV r4), (7, .func (Fn.func 62) #[] #[pV b8])] fun lr12 => ?_
 refine yBk 0 ?_
 have h18 := tk5 (sf4 (sf3 (sf2 (sf4 (sf4 h11)))))
 refine gi_rf2 (x := (Operand.tmp 7)) (ps := #[8]) (asg := CA Try.f41 [1, 0, 1, 0, 1]) (bd := CA Try.f41 [1, 0, 1, 0, 0]) (gf := 62) (cap := [pV b8]) (N := ((allE E).length)) (xs := fun i => [.agg #[iV (((allE E).getD i noE).d.1), iV (((allE E).getD i noE).d.2.1), uV (((allE E).getD i noE).d.2.2), iV (((allE E).getD i noE).num), iV (((allE E).getD i noE).h.1), uV (((allE E).getD i noE).h.2)]]) (At := [Cl b8 [pV b] 22, Tab b n A E RL]) (K0 := [Cl r1 [iV hx, uV hy] 34, Cl r4 [.bool false] 4]) (L := [R]) (fun i => [(8, .agg #[iV (((allE E).getD i noE).d.1), iV (((allE E).getD i noE).d.2.1), uV (((allE E).getD i noE).d.2.2), iV (((allE E).getD i noE).num), iV (((allE E).getD i noE).h.1), uV (((allE E).getD i noE).h.2)])] ++ (([(0, pV b), (1, .agg #[iV hx, uV hy]), (3, pV r1), (4, pV r4), (7, .func (Fn.func 62) #[] #[pV b8])] : Fr) ++ lr12)) (fun i rb_ => ([(5, pV rb_), (8, .agg #[iV (((allE E).getD i noE).d.1), iV (((allE E).getD i noE).d.2.1), uV (((allE E).getD i noE).d.2.2), iV (((allE E).getD i noE).num), iV (((allE E).getD i noE).h.1), uV (((allE E).getD i noE).h.2)])] : Fr) ++ (([(0, pV b), (1, .agg #[iV hx, uV hy]), (3, pV r1), (4, pV r4), (7, .func (Fn.func 62) #[] #[pV b8])] : Fr) ++ lr12)) (fun i rb_ K => (∀ j : Nat, j < i → ((allE E).getD j noE).h ≠ (hx, hy)) ∧ K = [Cl rb_ [iV (((allE E).getD i noE).d.1), iV (((allE E).getD i noE).d.2.1), uV (((allE E).getD i noE).d.2.2), iV (((allE E).getD i noE).num), iV (((allE E).getD i noE).h.1), uV (((allE E).getD i noE).h.2)] 90, Cl r1 [iV hx, uV hy] 34, Cl r4 [.bool false] 4]) (fun i K => (∀ j : Nat, j < i → ((allE E).getD j noE).h ≠ (hx, hy)) ∧ K = [Cl r1 [iV hx, uV hy] 34, Cl r4 [.bool false] 4]) (fun c i K => (c = Code.ret ∧ (∃ e ∈ allE E, e.h = (hx, hy)) ∧ K = [Cl r1 [iV hx, uV hy] 34, Cl r4 [.bool true] 4, Tab b n A E RL])) (by kernel_rfl) (by kernel_rfl) Try.call62 (tall_it b8 b n A E RL) ⟨(fun j h => absurd h (Nat.not_lt_zero _)), rfl⟩ h18 (fun _ _ => rfl) (fun _ _ => rf_frame1 rfl) ?_ ?_ ?_ ?_
 ·
  rintro i hi_ lp_ w19 K_ G ⟨hall_, rfl⟩ h20
  have h21 : sat g w19 [Cl r1 [iV hx, uV hy] 34, Cl r4 [.bool false] 4, Cl b8 [pV b] 22, Tab b n A E RL, G] := h20
  change WP _ _ (CA Try.f41 [1, 0, 1, 0, 1]) _ (mk 13 (([(8, .agg #[iV (((allE E).getD i noE).d.1), iV (((allE E).getD i noE).d.2.1), uV (((allE E).getD i noE).d.2.2), iV (((allE E).getD i noE).num), iV (((allE E).getD i noE).h.1), uV (((allE E).getD i noE).h.2)]), (0, pV b), (1, .agg #[iV hx, uV hy]), (3, pV r1), (4, pV r4), (7, .func (Fn.func 62) #[] #[pV b8])] : Fr) ++ lr12)) _
  refine yPl [0, 1] ?_
  refine yA ?_
  refine yNp 5 90 [iV 0, iV 0, uV 0, iV 0, iV 0, uV 0] h21 fun r22 w23 h24 => ?_
  refine yA ?_
  refine yS [(0, iV (((allE E).getD i noE).d.1)), (1, iV (((allE E).getD i noE).d.2.1)), (2, uV (((allE E).getD i noE).d.2.2)), (3, iV (((allE E).getD i noE).num)), (4, iV (((allE E).getD i noE).h.1)), (5, uV (((allE E).getD i noE).h.2))] [iV (((allE E).getD i noE).d.1), iV (((allE E).getD i noE).d.2.1), uV (((allE E).getD i noE).d.2.2), iV (((allE E).getD i noE).num), iV (((allE E).getD i noE).h.1), uV (((allE E).getD i noE).h.2)] h24 fun w25 h26 => ?_
  refine PO.mk ?_
  repeat (first | simp only [Exit.inBlock] | simp only [Exit.then])
  exact ⟨r22, _, rfl, ⟨hall_, rfl⟩, h26⟩
 ·
  rintro i hi29 lp_ w27 rb_ K_ G ⟨hall_, rfl⟩ h28
  have h30 : sat g w27 [Cl rb_ [iV (((allE E).getD i noE).d.1), iV (((allE E).getD i noE).d.2.1), uV (((allE E).getD i noE).d.2.2), iV (((allE E).getD i noE).num), iV (((allE E).getD i noE).h.1), uV (((allE E).getD i noE).h.2)] 90, Cl r1 [iV hx, uV hy] 34, Cl r4 [.bool false] 4, Cl b8 [pV b] 22, Tab b n A E RL, G] := h28
  change WP _ _ (CA Try.f41 [1, 0, 1, 0, 0]) _ (mk 13 (([(5, pV rb_), (8, .agg #[iV (((allE E).getD i noE).d.1), iV (((allE E).getD i noE).d.2.1), uV (((allE E).getD i noE).d.2.2), iV (((allE E).getD i noE).num), iV (((allE E).getD i noE).h.1), uV (((allE E).getD i noE).h.2)]), (0, pV b), (1, .agg #[iV hx, uV hy]), (3, pV r1), (4, pV r4), (7, .func (Fn.func 62) #[] #[pV b8])] : Fr) ++ lr12)) _
  refine yBk 1 ?_
  refine ySq ?_
  refine yPl [0, 1, 2, 3] ?_
  refine yBb [3] [(11, .agg #[iV hx, uV hy]), (10, .agg #[iV (((allE E).getD i noE).h.1), uV (((allE E).getD i noE).h.2)]), (9, .pointer (some ⟨rb_, 4, none⟩))] [e0 0, e2 1 [iV (((allE E).getD i noE).h.1), uV (((allE E).getD i noE).h.2)], e2 2 [iV hx, uV hy]] [(2, ⟨r1, 0, none⟩, iV hx), (2, ⟨r1, 1, none⟩, uV hy), (1, ⟨rb_, 4, none⟩, iV (((allE E).getD i noE).h.1)), (1, ⟨rb_, 5, none⟩, uV (((allE E).getD i noE).h.2))] [] trivial (kC (sat_cell h30 1 rfl rfl) (kC (sat_cell h30 1 rfl rfl) (kC (sat_cell h30 0 rfl rfl) (kC (sat_cell h30 0 rfl rfl) nC)))) ?_
  by_cases c31 : ((allE E).getD i noE).h.1 = hx
  ·
   by_cases c32 : ((allE E).getD i noE).h.2 = hy
   ·
    refine plain_law (i := 3) 12 (.bool true) (by kernel_rfl) (seq34_eql_t (o := opA (RA Try.f41 [1, 0, 1, 0, 0, 0, 0]) 3) (x := (Operand.tmp 10)) (y := (Operand.tmp 11)) (((allE E).getD i noE).h.1) (((allE E).getD i noE).h.2) hx hy (by kernel_rfl) (by kernel_rfl) (by kernel_rfl) ⟨(by omega), (by omega)⟩ _) (.mk ?_)
    refine yK [(0, pV b), (1, .agg #[iV hx, uV hy]), (3, pV r1), (4, pV r4), (5, pV rb_), (7, .func (Fn.func 62) #[] #[pV b8]), (8, .agg #[iV (((allE E).getD i noE).d.1), iV (((allE E).getD i noE).d.2.1), uV (((allE E).getD i noE).d.2.2), iV (((allE E).getD i noE).num), iV (((allE E).getD i noE).h.1), uV (((allE E).getD i noE).h.2)]), (12, .bool true)] fun lr33 => ?_
    refine yCt ?_
    refine ySq ?_
    refine yPl [0] ?_
    have h34 := tk6 (sf5 (sf4 (sf4 (sf5 (sf5 (sf5 h30))))))
    refine yA ?_
    refine yS [(0, .bool true)] [.bool true] h34 fun w35 h36 => ?_
    refine PO.mk ?_
    refine yK [(0, pV b), (1, .agg #[iV hx, uV hy]), (3, pV r1), (4, pV r4), (5, pV rb_), (7, .func (Fn.func 62) #[] #[pV b8]), (8, .agg #[iV (((allE E).getD i noE).d.1), iV (((allE E).getD i noE).d.2.1), uV (((allE E).getD i noE).d.2.2), iV (((allE E).getD i noE).num), iV (((allE E).getD i noE).h.1), uV (((allE E).getD i noE).h.2)]), (12, .bool true)] fun lr37 => ?_
    refine yRt ?_
    repeat (first | simp only [Exit.inBlock] | simp only [Exit.then])
    have h38 := tk6 (sf5 (sf4 (sf5 (sf5 (sf2 (sf3 h36))))))
    have h39 := tk4 h38
    exact ⟨_, ⟨rfl, ⟨_, getD_mem hi29, Prod.ext (show ((allE E).getD i noE).h.1 = hx from by omega) (show ((allE E).getD i noE).h.2 = hy from by omega)⟩, rfl⟩, h39⟩
   ·
    refine plain_law (i := 3) 12 (.bool false) (by kernel_rfl) (seq34_eql_f (o := opA (RA Try.f41 [1, 0, 1, 0, 0, 0, 0]) 3) (x := (Operand.tmp 10)) (y := (Operand.tmp 11)) (((allE E).getD i noE).h.1) (((allE E).getD i noE).h.2) hx hy (by kernel_rfl) (by kernel_rfl) (by kernel_rfl) (by omega) _) (.mk ?_)
    refine yK [(0, pV b), (1, .agg #[iV hx, uV hy]), (3, pV r1), (4, pV r4), (5, pV rb_), (7, .func (Fn.func 62) #[] #[pV b8]), (8, .agg #[iV (((allE E).getD i noE).d.1), iV (((allE E).getD i noE).d.2.1), uV (((allE E).getD i noE).d.2.2), iV (((allE E).getD i noE).num), iV (((allE E).getD i noE).h.1), uV (((allE E).getD i noE).h.2)]), (12, .bool false)] fun lr40 => ?_
    refine yCf ?_
    refine ySk ?_
    repeat (first | simp only [Exit.inBlock] | simp only [Exit.then])
    have h41 := tk6 (sf5 (sf5 (sf5 (sf5 (sf5 h30)))))
    have h42 := tk5 h41
    exact ⟨_, ⟨(upto_go hall_ (ne_pair (by omega))), rfl⟩, h42⟩
  ·
   refine plain_law (i := 3) 12 (.bool false) (by kernel_rfl) (seq34_eql_f (o := opA (RA Try.f41 [1, 0, 1, 0, 0, 0, 0]) 3) (x := (Operand.tmp 10)) (y := (Operand.tmp 11)) (((allE E).getD i noE).h.1) (((allE E).getD i noE).h.2) hx hy (by kernel_rfl) (by kernel_rfl) (by kernel_rfl) (by omega) _) (.mk ?_)
   refine yK [(0, pV b), (1, .agg #[iV hx, uV hy]), (3, pV r1), (4, pV r4), (5, pV rb_), (7, .func (Fn.func 62) #[] #[pV b8]), (8, .agg #[iV (((allE E).getD i noE).d.1), iV (((allE E).getD i noE).d.2.1), uV (((allE E).getD i noE).d.2.2), iV (((allE E).getD i noE).num), iV (((allE E).getD i noE).h.1), uV (((allE E).getD i noE).h.2)]), (12, .bool false)] fun lr43 => ?_
   refine yCf ?_
   refine ySk ?_
   repeat (first | simp only [Exit.inBlock] | simp only [Exit.then])
   have h44 := tk6 (sf5 (sf5 (sf5 (sf5 (sf5 h30)))))
   have h45 := tk5 h44
   exact ⟨_, ⟨(upto_go hall_ (ne_pair (by omega))), rfl⟩, h45⟩
 ·
  rintro D46 w47 K_ ⟨hall_, rfl⟩ h48
  have h49 : sat g w47 [pt D46 (Obj.deferred (some [])), Cl r1 [iV hx, uV hy] 34, Cl r4 [.bool false] 4, Cl b8 [pV b] 22, Tab b n A E RL, R] := h48
  refine yK [(4, pV r4)] fun lr50 => ?_
  refine ySq ?_
  refine yPl [0] ?_
  have h51 := tk6 (sf5 (sf4 (sf4 (sf5 (sf5 (sf5 h49))))))
  refine yA ?_
  refine yS [(0, .bool false)] [.bool false] h51 fun w52 h53 => ?_
  refine PO.mk ?_
  refine yK [(4, pV r4)] fun lr54 => ?_
  refine yRt ?_
  repeat (first | simp only [Exit.inBlock] | simp only [Exit.then])
  have h55 := tk6 (sf5 (sf4 (sf5 (sf5 (sf5 (sf5 h53))))))
  refine hi_out1 h55 [.bool false] (.bool false) [(⟨r4, 0, none⟩, .bool false)] (by kernel_rfl) (fun w57 h56 => ⟨?_, ?_⟩)
  · exact (allq ⟨sat_cell h56 1 rfl rfl, trivial⟩)
  ·
   have h58 : sat g w57 [pt D46 (Obj.deferred none), Cl r4 [.bool false] 4, Cl r1 [iV hx, uV hy] 34, Cl b8 [pV b] 22, Tab b n A E RL, R] := h56
   have h59 := tk6 (sf5 (sf4 (sf4 (sf4 (sf4 (sf5 h58))))))
   have h60 := tk2 (sf1 (sf5 h59))
   exact ⟨.bool false, [Tab b n A E RL], rfl, (.inr ⟨rfl, getD_all hall_, rfl⟩), h60⟩
 ·
  rintro D61 w62 ex_ i K_ hi64 (⟨rfl, hex_, rfl⟩) h63
  ·
   have h65 : sat g w62 [pt D61 (Obj.deferred (some [])), Cl r1 [iV hx, uV hy] 34, Cl r4 [.bool true] 4, Tab b n A E RL, R] := h63
   refine gi_rt rfl ?_
   repeat (first | simp only [Exit.inBlock] | simp only [Exit.then])
   refine hi_out1 h65 [.bool true] (.bool true) [(⟨r4, 0, none⟩, .bool true)] (by kernel_rfl) (fun w67 h66 => ⟨?_, ?_⟩)
   · exact (allq ⟨sat_cell h66 2 rfl rfl, trivial⟩)
   ·
    have h68 : sat g w67 [pt D61 (Obj.deferred none), Cl r1 [iV hx, uV hy] 34, Cl r4 [.bool true] 4, Tab b n A E RL, R] := h66
    have h69 := tk5 (sf4 (sf3 (sf3 (sf3 (sf4 h68)))))
    have h70 := tk2 (sf1 (sf4 h69))
    exact ⟨.bool true, [Tab b n A E RL], rfl, (.inl ⟨rfl, hex_, rfl⟩), h70⟩

set_option maxHeartbeats 4000000 in
theorem tdescs_ok (b n : Nat) (A : List Sl2) (E : Tm) (RL : List Rs) (vn : Int) (h : 1 ≤ vn ∧ vn ≤ (RL.length : Int)) : HT Try.prog 21 [Value.pointer (some ⟨b, 0, none⟩), Value.int IntKind.i64 vn] [Tab b n A E RL] (fun v K => ∃ (p : Option Addr) (c : Nat), v = Value.tuple #[Value.slice p (descs E vn).length c, Value.int .i64 0] ∧ K = [Tab b n A E RL, Sl 28 3 p (((descs E vn).length)) c (fl eO (descs E vn))]) := by
 refine hi_in 28 ([(0, pV b), (1, iV vn)] : Fr) Try.func21 (by kernel_rfl) Try.ntmps21 rfl rfl ?_
 intro g w0 R h0
 refine ySq ?_
 refine yPl [0, 1, 2] ?_
 refine yA ?_
 refine yNp 3 3 [iV vn] h0 fun r1 w2 h3 => ?_
 refine yB0 [] [1, 2] [(5, iV 0), (4, .slice none 0 0)] (.mk ?_)
 refine yK [(0, pV b), (1, iV vn), (3, pV r1), (4, .slice none 0 0), (5, iV 0)] fun lr4 => ?_
 refine ySq ?_
 refine ySq ?_
 refine yPl [0, 1, 2, 3] ?_
 refine yBb [2, 3] [(10, iV vn), (9, pV b)] [e0 0, e2 1 [iV vn]] [(1, ⟨r1, 0, none⟩, iV vn)] [] trivial (kC (sat_cell h3 0 rfl rfl) nC) ?_
 have h5 := tk3 (sf2 (sf1 (sf2 h3)))
 refine yA ?_
 refine yCl 11 Try.call47 (tcheck_ok b n A E RL vn (by omega)) h5 ?_
 rintro v K w6 (⟨rfl, rfl⟩) h7
 refine ⟨_, rfl, ?_⟩
 have h8 := ap1 h7
 refine yB0 [] [3] [(6, iV 0)] (.mk ?_)
 refine yK [(0, pV b), (1, iV vn), (3, pV r1), (4, .slice none 0 0), (5, iV 0), (6, iV 0)] fun lr9 => ?_
 refine ySq ?_
 refine yPl [0, 1] ?_
 refine yB0 [] [0, 1] [(13, .bool false), (12, iV 0)] (.mk ?_)
 refine yK [(0, pV b), (1, iV vn), (3, pV r1), (4, .slice none 0 0), (5, iV 0), (6, iV 0), (13, .bool false)] fun lr10 => ?_
 refine yCf ?_
 refine ySk ?_
 refine ySq ?_
 refine yPl [0] ?_
 refine yA ?_
 refine yNp 7 45 [.slice none 0 0] h8 fun r11 w12 h13 => ?_
 refine PO.mk ?_
 refine yK [(0, pV b), (1, iV vn), (3, pV r1), (4, .slice none 0 0), (5, iV 0), (6, iV 0), (7, pV r11), (13, .bool false)] fun lr14 => ?_
 refine ySq ?_
 refine ySq ?_
 refine yPl [0, 1] ?_
 refine yB0 [1] [0] [(15, pV b)] ?_
 refine yA ?_
 refine yCl 16 Try.call48 (tall1_ht b) h13 ?_
 rintro v K w16 (⟨b15, rfl, rfl⟩) h17
 refine ⟨_, rfl, ?_⟩
 have h18 := ap1 h17
 refine PO.mk ?_
 refine yK [(0, pV b), (1, iV vn), (3, pV r1), (4, .slice none 0 0), (5, iV 0), (6, iV 0), (7, pV r11), (13, .bool false), (16, .func (Fn.func 62) #[] #[pV b15])] fun lr19 => ?_
 refine yBk 0 ?_
 have hal_ : (allE E).length ≤ 256 := cntE_le E 256
 have h25 : sat g w16 [Sl 28 3 none 0 0 (fl eO []), Cl b15 [pV b] 22, Cl r11 [.slice none 0 0] 45, Tab b n A E RL, Cl r1 [iV vn] 3, R] := sl_nil 28 3 h18
 have h26 := tk6 (sf5 (sf4 (sf3 (sf3 (sf4 (sf5 h25))))))
 refine gi_rf2 (x := (Operand.tmp 16)) (ps := #[17]) (asg := CA Try.f21 [1, 1, 1, 0, 1, 0, 1]) (bd := CA Try.f21 [1, 1, 1, 0, 1, 0, 0]) (gf := 62) (cap := [pV b15]) (N := ((allE E).length)) (xs := fun i => [.agg #[iV (((allE E).getD i noE).d.1), iV (((allE E).getD i noE).d.2.1), uV (((allE E).getD i noE).d.2.2), iV (((allE E).getD i noE).num), iV (((allE E).getD i noE).h.1), uV (((allE E).getD i noE).h.2)]]) (At := [Cl b15 [pV b] 22, Tab b n A E RL]) (K0 := [Cl r1 [iV vn] 3, Cl r11 [.slice none 0 0] 45, Sl 28 3 none 0 0 (fl eO [])]) (L := [R]) (fun i => [(17, .agg #[iV (((allE E).getD i noE).d.1), iV (((allE E).getD i noE).d.2.1), uV (((allE E).getD i noE).d.2.2), iV (((allE E).getD i noE).num), iV (((allE E).getD i noE).h.1), uV (((allE E).getD i noE).h.2)])] ++ (([(0, pV b), (1, iV vn), (3, pV r1), (4, .slice none 0 0), (5, iV 0), (6, iV 0), (7, pV r11), (13, .bool false), (16, .func (Fn.func 62) #[] #[pV b15])] : Fr) ++ lr19)) (fun i rb_ => ([(8, pV rb_), (17, .agg #[iV (((allE E).getD i noE).d.1), iV (((allE E).getD i noE).d.2.1), uV (((allE E).getD i noE).d.2.2), iV (((allE E).getD i noE).num), iV (((allE E).getD i noE).h.1), uV (((allE E).getD i noE).h.2)])] : Fr) ++ (([(0, pV b), (1, iV vn), (3, pV r1), (4, .slice none 0 0), (5, iV 0), (6, iV 0), (7, pV r11), (13, .bool false), (16, .func (Fn.func 62) #[] #[pV b15])] : Fr) ++ lr19)) (fun i rb_ K => ∃ p : Option Addr, ∃ k : Nat, ∃ c : Nat, (k ≤ i) ∧ K = [Cl rb_ [iV (((allE E).getD i noE).d.1), iV (((allE E).getD i noE).d.2.1), uV (((allE E).getD i noE).d.2.2), iV (((allE E).getD i noE).num), iV (((allE E).getD i noE).h.1), uV (((allE E).getD i noE).h.2)] 90, Cl r1 [iV vn] 3, Cl r11 [.slice p k c] 45, Sl 28 3 p k c (fl eO (descT E vn i))]) (fun i K => ∃ p : Option Addr, ∃ k : Nat, ∃ c : Nat, (k ≤ i) ∧ K = [Cl r1 [iV vn] 3, Cl r11 [.slice p k c] 45, Sl 28 3 p k c (fl eO (descT E vn i))]) (fun c i K => False) (by kernel_rfl) (by kernel_rfl) Try.call62 (tall_it b15 b n A E RL) ⟨none, 0, 0, (Nat.le_refl _), rfl⟩ h26 (fun _ _ => rfl) (fun _ _ => rf_frame1 rfl) ?_ ?_ ?_ ?_
 ·
  rintro i hi_ lp_ w27 K_ G ⟨p, k, c, hk_, rfl⟩ h28
  have h29 : sat g w27 [Cl r1 [iV vn] 3, Cl r11 [.slice p k c] 45, Sl 28 3 p k c (fl eO (descT E vn i)), Cl b15 [pV b] 22, Tab b n A E RL, G] := h28
  change WP _ _ (CA Try.f21 [1, 1, 1, 0, 1, 0, 1]) _ (mk 28 (([(17, .agg #[iV (((allE E).getD i noE).d.1), iV (((allE E).getD i noE).d.2.1), uV (((allE E).getD i noE).d.2.2), iV (((allE E).getD i noE).num), iV (((allE E).getD i noE).h.1), uV (((allE E).getD i noE).h.2)]), (0, pV b), (1, iV vn), (3, pV r1), (4, .slice none 0 0), (5, iV 0), (6, iV 0), (7, pV r11), (13, .bool false), (16, .func (Fn.func 62) #[] #[pV b15])] : Fr) ++ lr19)) _
  refine yPl [0, 1] ?_
  refine yA ?_
  refine yNp 8 90 [iV 0, iV 0, uV 0, iV 0, iV 0, uV 0] h29 fun r30 w31 h32 => ?_
  refine yA ?_
  refine yS [(0, iV (((allE E).getD i noE).d.1)), (1, iV (((allE E).getD i noE).d.2.1)), (2, uV (((allE E).getD i noE).d.2.2)), (3, iV (((allE E).getD i noE).num)), (4, iV (((allE E).getD i noE).h.1)), (5, uV (((allE E).getD i noE).h.2))] [iV (((allE E).getD i noE).d.1), iV (((allE E).getD i noE).d.2.1), uV (((allE E).getD i noE).d.2.2), iV (((allE E).getD i noE).num), iV (((allE E).getD i noE).h.1), uV (((allE E).getD i noE).h.2)] h32 fun w33 h34 => ?_
  refine PO.mk ?_
  repeat (first | simp only [Exit.inBlock] | simp only [Exit.then])
  exact ⟨r30, _, rfl, ⟨p, k, c, hk_, rfl⟩, h34⟩
 ·
  rintro i hi37 lp_ w35 rb_ K_ G ⟨p, k, c, hk_, rfl⟩ h36
  have h38 : sat g w35 [Cl rb_ [iV (((allE E).getD i noE).d.1), iV (((allE E).getD i noE).d.2.1), uV (((allE E).getD i noE).d.2.2), iV (((allE E).getD i noE).num), iV (((allE E).getD i noE).h.1), uV (((allE E).getD i noE).h.2)] 90, Cl r1 [iV vn] 3, Cl r11 [.slice p k c] 45, Sl 28 3 p k c (fl eO (descT E vn i)), Cl b15 [pV b] 22, Tab b n A E RL, G] := h36
  change WP _ _ (CA Try.f21 [1, 1, 1, 0, 1, 0, 0]) _ (mk 28 (([(8, pV rb_), (17, .agg #[iV (((allE E).getD i noE).d.1), iV (((allE E).getD i noE).d.2.1), uV (((allE E).getD i noE).d.2.2), iV (((allE E).getD i noE).num), iV (((allE E).getD i noE).h.1), uV (((allE E).getD i noE).h.2)]), (0, pV b), (1, iV vn), (3, pV r1), (4, .slice none 0 0), (5, iV 0), (6, iV 0), (7, pV r11), (13, .bool false), (16, .func (Fn.func 62) #[] #[pV b15])] : Fr) ++ lr19)) _
  refine yBk 1 ?_
  refine ySq ?_
  refine yPl [0, 1, 2, 3] ?_
  refine yBb [3] [(20, iV vn), (19, iV (((allE E).getD i noE).num)), (18, .pointer (some ⟨rb_, 3, none⟩))] [e0 0, e2 1 [iV (((allE E).getD i noE).num)], e2 2 [iV vn]] [(2, ⟨r1, 0, none⟩, iV vn), (1, ⟨rb_, 3, none⟩, iV (((allE E).getD i noE).num))] [] trivial (kC (sat_cell h38 1 rfl rfl) (kC (sat_cell h38 0 rfl rfl) nC)) ?_
  by_cases c39 : ((allE E).getD i noE).num = vn
  ·
   refine yBb [] [(21, .bool true)] [e1 3 (.bool true)] [] [(.bool ((((allE E).getD i noE).num) == vn), .bool true)] ⟨(ov_et (by omega)), trivial⟩ nC (.mk ?_)
   refine yK [(0, pV b), (1, iV vn), (3, pV r1), (4, .slice none 0 0), (5, iV 0), (6, iV 0), (7, pV r11), (8, pV rb_), (13, .bool false), (16, .func (Fn.func 62) #[] #[pV b15]), (17, .agg #[iV (((allE E).getD i noE).d.1), iV (((allE E).getD i noE).d.2.1), uV (((allE E).getD i noE).d.2.2), iV (((allE E).getD i noE).num), iV (((allE E).getD i noE).h.1), uV (((allE E).getD i noE).h.2)]), (21, .bool true)] fun lr40 => ?_
   refine yCt ?_
   refine yPl [0, 1, 2, 3, 4, 5] ?_
   refine yBb [3, 4, 5] [(24, .agg #[iV (((allE E).getD i noE).d.1), iV (((allE E).getD i noE).d.2.1), uV (((allE E).getD i noE).d.2.2)]), (23, pV rb_), (22, .slice p k c)] [e2 0 [.slice p k c], e0 1, e2 2 [iV (((allE E).getD i noE).d.1), iV (((allE E).getD i noE).d.2.1), uV (((allE E).getD i noE).d.2.2)]] [(2, ⟨rb_, 0, none⟩, iV (((allE E).getD i noE).d.1)), (2, ⟨rb_, 1, none⟩, iV (((allE E).getD i noE).d.2.1)), (2, ⟨rb_, 2, none⟩, uV (((allE E).getD i noE).d.2.2)), (0, ⟨r11, 0, none⟩, .slice p k c)] [] trivial (kC (sat_cell h38 0 rfl rfl) (kC (sat_cell h38 0 rfl rfl) (kC (sat_cell h38 0 rfl rfl) (kC (sat_cell h38 2 rfl rfl) nC)))) ?_
   refine yA ?_
   refine an_new (d := 25) (fun xb_ => .slice (some ⟨xb_, 0, none⟩) 1 1) (fun xb_ => Obj.cells [iV (((allE E).getD i noE).d.1), iV (((allE E).getD i noE).d.2.1), uV (((allE E).getD i noE).d.2.2)].toArray 28 (0, 0)) (fun xb_ => by kernel_rfl) (by kernel_rfl) rfl h38 ?_
   intro r41 w42 (h43 : sat g w42 [Cl r41 [iV (((allE E).getD i noE).d.1), iV (((allE E).getD i noE).d.2.1), uV (((allE E).getD i noE).d.2.2)] 28, Cl rb_ [iV (((allE E).getD i noE).d.1), iV (((allE E).getD i noE).d.2.1), uV (((allE E).getD i noE).d.2.2), iV (((allE E).getD i noE).num), iV (((allE E).getD i noE).h.1), uV (((allE E).getD i noE).h.2)] 90, Cl r1 [iV vn] 3, Cl r11 [.slice p k c] 45, Sl 28 3 p k c (fl eO (descT E vn i)), Cl b15 [pV b] 22, Tab b n A E RL, G])
   have h44 := tk8 (sf7 (sf6 (sf6 (sf6 (sf6 (sf7 (sf7 (sf7 h43))))))))
   refine yA ?_
   refine an_append (d := 26) (sz := 3) (s := (Operand.tmp 22)) (x := (Operand.tmp 25)) (z := .agg #[iV 0, iV 0, uV 0]) (p := p) (m := k) (c := c) (k := 1) (c2 := 1) (a := ⟨r41, 0, none⟩) (by_ := 24) (by kernel_rfl) (by kernel_rfl) rfl Try.underlying45 (by kernel_rfl) rfl (by decide) (by kernel_rfl) (by kernel_rfl) h44 (fl eO [(((allE E).getD i noE).d.1, ((allE E).getD i noE).d.2.1, ((allE E).getD i noE).d.2.2)]) rfl (fun j u hj => by rw [add_off]; exact sat_cell h44 1 rfl (by rw [Nat.zero_add]; exact hj)) (fl_one eO_ok _) (by omega) (by omega) (k + 1) (by omega) ?_
   intro p45 cap46 w47 h48
   have h49 : sat g w47 [Sl 28 3 p45 (k + 1) cap46 (fl eO ((descT E vn i) ++ [(((allE E).getD i noE).d.1, ((allE E).getD i noE).d.2.1, ((allE E).getD i noE).d.2.2)])), Cl r41 [iV (((allE E).getD i noE).d.1), iV (((allE E).getD i noE).d.2.1), uV (((allE E).getD i noE).d.2.2)] 28, Cl rb_ [iV (((allE E).getD i noE).d.1), iV (((allE E).getD i noE).d.2.1), uV (((allE E).getD i noE).d.2.2), iV (((allE E).getD i noE).num), iV (((allE E).getD i noE).h.1), uV (((allE E).getD i noE).h.2)] 90, Cl r1 [iV vn] 3, Cl r11 [.slice p k c] 45, Cl b15 [pV b] 22, Tab b n A E RL, G] := sat_imp h48 (fun _ hh => by rw [fl_app]; exact hh)
   obtain ⟨hn50, hn51⟩ := sl_le h49
   have h52 := tk8 (sf7 (sf6 (sf6 (sf6 (sf6 (sf7 (sf7 (sf7 h49))))))))
   refine yA ?_
   refine yS [(0, .slice p45 (k + 1) cap46)] [.slice p45 (k + 1) cap46] h52 fun w53 h54 => ?_
   refine PO.mk ?_
   repeat (first | simp only [Exit.inBlock] | simp only [Exit.then])
   have h55 := tk8 (sf7 (sf6 (sf7 (sf7 (sf7 (sf7 (sf7 (sf7 h54))))))))
   have h56 : sat g w53 [Sl 28 3 p45 (k + 1) cap46 (fl eO (descT E vn (i + 1))), Cl r11 [.slice p45 (k + 1) cap46] 45, Cl r41 [iV (((allE E).getD i noE).d.1), iV (((allE E).getD i noE).d.2.1), uV (((allE E).getD i noE).d.2.2)] 28, Cl rb_ [iV (((allE E).getD i noE).d.1), iV (((allE E).getD i noE).d.2.1), uV (((allE E).getD i noE).d.2.2), iV (((allE E).getD i noE).num), iV (((allE E).getD i noE).h.1), uV (((allE E).getD i noE).h.2)] 90, Cl r1 [iV vn] 3, Cl b15 [pV b] 22, Tab b n A E RL, G] := sat_imp h55 (fun _ hh_ => by rw [show (((descT E vn i) ++ [(((allE E).getD i noE).d.1, ((allE E).getD i noE).d.2.1, ((allE E).getD i noE).d.2.2)]) : List Ky) = (descT E vn (i + 1)) from descT_go hi37 (by omega)] at hh_; exact hh_)
   have h57 := tk8 (sf7 (sf6 (sf5 (sf7 (sf7 (sf7 (sf3 (sf3 h56))))))))
   have h58 := tk6 h57
   exact ⟨_, ⟨p45, k + 1, cap46, (by omega), rfl⟩, h58⟩
  ·
   refine yBb [] [(21, .bool false)] [e1 3 (.bool false)] [] [(.bool ((((allE E).getD i noE).num) == vn), .bool false)] ⟨(ov_ef (by omega)), trivial⟩ nC (.mk ?_)
   refine yK [(0, pV b), (1, iV vn), (3, pV r1), (4, .slice none 0 0), (5, iV 0), (6, iV 0), (7, pV r11), (8, pV rb_), (13, .bool false), (16, .func (Fn.func 62) #[] #[pV b15]), (17, .agg #[iV (((allE E).getD i noE).d.1), iV (((allE E).getD i noE).d.2.1), uV (((allE E).getD i noE).d.2.2), iV (((allE E).getD i noE).num), iV (((allE E).getD i noE).h.1), uV (((allE E).getD i noE).h.2)]), (21, .bool false)] fun lr59 => ?_
   refine yCf ?_
   refine ySk ?_
   repeat (first | simp only [Exit.inBlock] | simp only [Exit.then])
   have h60 := tk7 (sf6 (sf5 (sf5 (sf5 (sf6 (sf6 (sf6 h38)))))))
   have h61 : sat g w35 [Sl 28 3 p k c (fl eO (descT E vn (i + 1))), Cl rb_ [iV (((allE E).getD i noE).d.1), iV (((allE E).getD i noE).d.2.1), uV (((allE E).getD i noE).d.2.2), iV (((allE E).getD i noE).num), iV (((allE E).getD i noE).h.1), uV (((allE E).getD i noE).h.2)] 90, Cl r1 [iV vn] 3, Cl r11 [.slice p k c] 45, Cl b15 [pV b] 22, Tab b n A E RL, G] := sat_imp h60 (fun _ hh_ => by rw [show ((descT E vn i) : List Ky) = (descT E vn (i + 1)) from descT_no hi37 (by omega)] at hh_; exact hh_)
   have h62 := tk7 (sf6 (sf6 (sf4 (sf6 (sf6 (sf6 (sf1 h61)))))))
   have h63 := tk6 h62
   exact ⟨_, ⟨p, k, c, (by omega), rfl⟩, h63⟩
 ·
  rintro D64 w65 K_ ⟨p, k, c, hk_, rfl⟩ h66
  have h67 : sat g w65 [pt D64 (Obj.deferred (some [])), Cl r1 [iV vn] 3, Cl r11 [.slice p k c] 45, Sl 28 3 p k c (fl eO (descT E vn (((allE E).length)))), Cl b15 [pV b] 22, Tab b n A E RL, R] := h66
  refine yK [(7, pV r11)] fun lr68 => ?_
  refine ySq ?_
  refine yPl [0, 1, 2] ?_
  refine yBb [] [(5, iV 0), (4, .slice p k c), (27, .slice p k c)] [e2 0 [.slice p k c], e0 1, e0 2] [(0, ⟨r11, 0, none⟩, .slice p k c)] [] trivial (kC (sat_cell h67 2 rfl rfl) nC) (.mk ?_)
  refine yK [(4, .slice p k c), (5, iV 0)] fun lr69 => ?_
  refine yRt ?_
  repeat (first | simp only [Exit.inBlock] | simp only [Exit.then])
  have h70 := tk7 (sf6 (sf5 (sf5 (sf5 (sf6 (sf6 (sf6 h67)))))))
  have h71 : sat g w65 [Sl 28 3 p k c (fl eO (descs E vn)), pt D64 (Obj.deferred (some [])), Cl r1 [iV vn] 3, Cl r11 [.slice p k c] 45, Cl b15 [pV b] 22, Tab b n A E RL, R] := sat_imp h70 (fun _ hh_ => by rw [show ((descT E vn (((allE E).length))) : List Ky) = (descs E vn) from descT_all E vn] at hh_; exact hh_)
  have hl72 := fl_n eO_ok (by decide) h71
  have h73 : sat g w65 [Sl 28 3 p (((descs E vn).length)) c (fl eO (descs E vn)), pt D64 (Obj.deferred (some [])), Cl r1 [iV vn] 3, Cl r11 [.slice p k c] 45, Cl b15 [pV b] 22, Tab b n A E RL, R] := sat_imp h71 (fun _ hh_ => by rw [hl72]; exact hh_)
  have h74 := tk7 (sf6 (sf5 (sf6 (sf6 (sf6 (sf6 (sf6 h73)))))))
  refine hi_out1 h74 [] (.tuple #[.slice p k c, iV 0]) [] (by kernel_rfl) (fun w76 h75 => ⟨?_, ?_⟩)
  · exact (by intro q hq; cases hq)
  ·
   have h77 : sat g w76 [pt D64 (Obj.deferred none), Sl 28 3 p (((descs E vn).length)) c (fl eO (descs E vn)), Cl r1 [iV vn] 3, Cl r11 [.slice p k c] 45, Cl b15 [pV b] 22, Tab b n A E RL, R] := h75
   have h78 := tk7 (sf6 (sf5 (sf4 (sf5 (sf5 (sf5 (sf6 h77)))))))
   have h79 := tk3 (sf2 (sf2 (sf6 h78)))
   exact ⟨.tuple #[.slice p k c, iV 0], [Tab b n A E RL, Sl 28 3 p (((descs E vn).length)) c (fl eO (descs E vn))], rfl, ⟨p, c, by rw [hl72], rfl⟩, h79⟩
 ·
  intro _ _ _ _ _ _ hf_; exact hf_.elim

set_option maxHeartbeats 4000000 in
theorem tdescs_no (b n : Nat) (A : List Sl2) (E : Tm) (RL : List Rs) (vn : Int) (h : vn < 1 ∨ (RL.length : Int) < vn) : HT Try.prog 21 [Value.pointer (some ⟨b, 0, none⟩), Value.int IntKind.i64 vn] [Tab b n A E RL] (fun v K => v = Value.tuple #[Value.slice none 0 0, Value.int IntKind.i64 3] ∧ K = [Tab b n A E RL]) := by
 refine hi_in 28 ([(0, pV b), (1, iV vn)] : Fr) Try.func21 (by kernel_rfl) Try.ntmps21 rfl rfl ?_
 intro g w0 R h0
 refine ySq ?_
 refine yPl [0, 1, 2] ?_
 refine yA ?_
 refine yNp 3 3 [iV vn] h0 fun r1 w2 h3 => ?_
 refine yB0 [] [1, 2] [(5, iV 0), (4, .slice none 0 0)] (.mk ?_)
 refine yK [(0, pV b), (1, iV vn), (3, pV r1), (4, .slice none 0 0), (5, iV 0)] fun lr4 => ?_
 refine ySq ?_
 refine ySq ?_
 refine yPl [0, 1, 2, 3] ?_
 refine yBb [2, 3] [(10, iV vn), (9, pV b)] [e0 0, e2 1 [iV vn]] [(1, ⟨r1, 0, none⟩, iV vn)] [] trivial (kC (sat_cell h3 0 rfl rfl) nC) ?_
 by_cases c5 : 1 ≤ vn
 ·
  have h6 := tk3 (sf2 (sf1 (sf2 h3)))
  refine yA ?_
  refine yCl 11 Try.call47 (tcheck_no b n A E RL vn (by omega)) h6 ?_
  rintro v K w7 (⟨rfl, rfl⟩) h8
  refine ⟨_, rfl, ?_⟩
  have h9 := ap1 h8
  refine yB0 [] [3] [(6, iV 3)] (.mk ?_)
  refine yK [(0, pV b), (1, iV vn), (3, pV r1), (4, .slice none 0 0), (5, iV 0), (6, iV 3)] fun lr10 => ?_
  refine ySq ?_
  refine yPl [0, 1] ?_
  refine yB0 [] [0, 1] [(13, .bool true), (12, iV 3)] (.mk ?_)
  refine yK [(0, pV b), (1, iV vn), (3, pV r1), (4, .slice none 0 0), (5, iV 0), (6, iV 3), (13, .bool true)] fun lr11 => ?_
  refine yCt ?_
  refine ySq ?_
  refine yPl [0, 1, 2] ?_
  refine yB0 [] [0, 1, 2] [(5, iV 3), (4, .slice none 0 0), (14, iV 3)] (.mk ?_)
  refine yK [(4, .slice none 0 0), (5, iV 3)] fun lr12 => ?_
  refine yRt ?_
  repeat (first | simp only [Exit.inBlock] | simp only [Exit.then])
  have h13 := tk2 (sf1 (sf2 h9))
  refine hi_out [] (.tuple #[.slice none 0 0, iV 3]) [] (by kernel_rfl) (by intro q hq; cases hq) ?_
  exact ⟨.tuple #[.slice none 0 0, iV 3], [Tab b n A E RL], rfl, ⟨rfl, rfl⟩, h13⟩
 ·
  have h14 := tk3 (sf2 (sf1 (sf2 h3)))
  refine yA ?_
  refine yCl 11 Try.call47 (tcheck_no b n A E RL vn (by omega)) h14 ?_
  rintro v K w15 (⟨rfl, rfl⟩) h16
  refine ⟨_, rfl, ?_⟩
  have h17 := ap1 h16
  refine yB0 [] [3] [(6, iV 3)] (.mk ?_)
  refine yK [(0, pV b), (1, iV vn), (3, pV r1), (4, .slice none 0 0), (5, iV 0), (6, iV 3)] fun lr18 => ?_
  refine ySq ?_
  refine yPl [0, 1] ?_
  refine yB0 [] [0, 1] [(13, .bool true), (12, iV 3)] (.mk ?_)
  refine yK [(0, pV b), (1, iV vn), (3, pV r1), (4, .slice none 0 0), (5, iV 0), (6, iV 3), (13, .bool true)] fun lr19 => ?_
  refine yCt ?_
  refine ySq ?_
  refine yPl [0, 1, 2] ?_
  refine yB0 [] [0, 1, 2] [(5, iV 3), (4, .slice none 0 0), (14, iV 3)] (.mk ?_)
  refine yK [(4, .slice none 0 0), (5, iV 3)] fun lr20 => ?_
  refine yRt ?_
  repeat (first | simp only [Exit.inBlock] | simp only [Exit.then])
  have h21 := tk2 (sf1 (sf2 h17))
  refine hi_out [] (.tuple #[.slice none 0 0, iV 3]) [] (by kernel_rfl) (by intro q hq; cases hq) ?_
  exact ⟨.tuple #[.slice none 0 0, iV 3], [Tab b n A E RL], rfl, ⟨rfl, rfl⟩, h21⟩

end Go.Proofs.Ytjjpmehiolejgaa

/- Walks, printed by my generator gen14.py. -/
namespace Go.Proofs.Ytjjpmehiolejgaa
theorem thas_t (b n : Nat) (A : List Sl2) (E : Tm) (RL : List Rs) (hx hy : Int) (h : ∃ e ∈ allE E, e.h = (hx, hy)) : HT Try.prog 41 [Value.pointer (some ⟨b, 0, none⟩), Value.agg #[Value.int IntKind.i64 hx, Value.int IntKind.u32 hy]] [Tab b n A E RL] (fun v K => v = Value.bool true ∧ K = [Tab b n A E RL]) :=
  (thas_ht b n A E RL hx hy).mono fun v K hP => by
    rcases hP with ⟨hv, h1, hK⟩ | ⟨hv, h1, hK⟩
    · exact ⟨hv, hK⟩
    · obtain ⟨e, he, h2⟩ := h; exact absurd h2 (h1 e he)
theorem thas_f (b n : Nat) (A : List Sl2) (E : Tm) (RL : List Rs) (hx hy : Int) (h : ∀ e ∈ allE E, e.h ≠ (hx, hy)) : HT Try.prog 41 [Value.pointer (some ⟨b, 0, none⟩), Value.agg #[Value.int IntKind.i64 hx, Value.int IntKind.u32 hy]] [Tab b n A E RL] (fun v K => v = Value.bool false ∧ K = [Tab b n A E RL]) :=
  (thas_ht b n A E RL hx hy).mono fun v K hP => by
    rcases hP with ⟨hv, h1, hK⟩ | ⟨hv, h1, hK⟩
    · obtain ⟨e, he, h1⟩ := h1; exact absurd h1 (h e he)
    · exact ⟨hv, hK⟩
theorem ne_trip {p : Ky} {a b c : Int} (h : ¬ (p.1 = a ∧ p.2.1 = b ∧ p.2.2 = c)) : p ≠ (a, b, c) := by
  rintro rfl
  exact h ⟨rfl, rfl, rfl⟩
theorem ridx_go {L : List Rs} {k : Nat} {P : Rs → Prop} {x : Rs} (h : ∀ (j : Nat) (o : Rs), j < k → L[j]? = some o → P o) (hx : L[k]? = some x) (hp : P x) : ∀ (j : Nat) (o : Rs), j < k + 1 → L[j]? = some o → P o := fun j o hj ho => by
  rcases Nat.lt_succ_iff_lt_or_eq.1 hj with h1 | rfl
  · exact h j o h1 ho
  · rw [hx] at ho
    obtain rfl := Option.some.inj ho
    exact hp
theorem rall_idx {L : List Rs} {k : Nat} {P : Rs → Prop} (h : ∀ (j : Nat) (o : Rs), j < k → L[j]? = some o → P o) (hk : L.length ≤ k) : ∀ o ∈ L, P o := fun o ho => by
  obtain ⟨j, hj⟩ := List.getElem?_of_mem ho
  exact h j o (Nat.lt_of_lt_of_le (List.getElem?_eq_some_iff.1 hj).1 hk) hj
theorem seq32_eql_t {n : Nat} {l : Fr} {o : Oper} {x y : Operand} (a0 : Int) (a1 : Int) (a2 : Int) (c0 : Int) (c1 : Int) (c2 : Int) (ho : o.op = .binOp .eql 32 x y 32) (hx : fe n l x = .agg #[.int .i64 a0, .int .i64 a1, .int .u32 a2]) (hy : fe n l y = .agg #[.int .i64 c0, .int .i64 c1, .int .u32 c2]) (h : a0 = c0 ∧ a1 = c1 ∧ a2 = c2) (w : World) : (execOp (fe n l) o).run Try.prog w = .ok (.value (.bool true)) w := by
  obtain ⟨rfl, rfl, rfl⟩ := h
  simp [execOp, ho, hx, hy, go_sem]
theorem seq32_eql_f {n : Nat} {l : Fr} {o : Oper} {x y : Operand} (a0 : Int) (a1 : Int) (a2 : Int) (c0 : Int) (c1 : Int) (c2 : Int) (ho : o.op = .binOp .eql 32 x y 32) (hx : fe n l x = .agg #[.int .i64 a0, .int .i64 a1, .int .u32 a2]) (hy : fe n l y = .agg #[.int .i64 c0, .int .i64 c1, .int .u32 c2]) (h : ¬ (a0 = c0 ∧ a1 = c1 ∧ a2 = c2)) (w : World) : (execOp (fe n l) o).run Try.prog w = .ok (.value (.bool false)) w := by
  by_cases h0 : a0 = c0
  · skip
    by_cases h1 : a1 = c1
    · skip
      by_cases h2 : a2 = c2
      · exact absurd ⟨h0, h1, h2⟩ h
      · simp [execOp, ho, hx, hy, go_sem, h0, h1, h2]
    · simp [execOp, ho, hx, hy, go_sem, h0, h1]
  · simp [execOp, ho, hx, hy, go_sem, h0]
set_option maxHeartbeats 4000000 in
theorem op1_t (b : Nat) (u1 u2 u3 s1 s2 s3 s4 : Int) (tg : List UInt8) (x y z : Int) (h : u1 = x ∧ u2 = y ∧ u3 = z) : HT Try.prog 40 [Value.agg #[Value.int IntKind.i64 u1, Value.int IntKind.i64 u2, Value.int IntKind.u32 u3, Value.int IntKind.i64 s1, Value.int IntKind.i64 s2, Value.int IntKind.i64 s3, Value.int IntKind.i64 s4, Value.string (St tg)], Value.pointer (some ⟨b, 0, none⟩)] [Cl b [Value.int IntKind.i64 x, Value.int IntKind.i64 y, Value.int IntKind.u32 z] 32] (fun v K => v = Value.bool true ∧ K = [Cl b [Value.int IntKind.i64 x, Value.int IntKind.i64 y, Value.int IntKind.u32 z] 32]) := by
 refine hi_in 8 ([(0, .agg #[iV u1, iV u2, uV u3, iV s1, iV s2, iV s3, iV s4, .string (St tg)]), (1, pV b)] : Fr) Try.func40 (by kernel_rfl) Try.ntmps40 rfl rfl ?_
 intro g w0 R h0
 refine ySq ?_
 refine yPl [0, 1] ?_
 refine yA ?_
 refine yNp 2 42 [iV u1, iV u2, uV u3, iV s1, iV s2, iV s3, iV s4, .string (St tg)] h0 fun r1 w2 h3 => ?_
 refine yB0 [] [1] [(3, .bool false)] (.mk ?_)
 refine yK [(1, pV b), (2, pV r1)] fun lr4 => ?_
 refine ySq ?_
 refine yPl [0, 1, 2, 3, 4] ?_
 refine yBb [3, 4] [(6, .agg #[iV x, iV y, uV z]), (5, .agg #[iV u1, iV u2, uV u3]), (4, pV r1)] [e0 0, e2 1 [iV u1, iV u2, uV u3], e2 2 [iV x, iV y, uV z]] [(2, ⟨b, 0, none⟩, iV x), (2, ⟨b, 1, none⟩, iV y), (2, ⟨b, 2, none⟩, uV z), (1, ⟨r1, 0, none⟩, iV u1), (1, ⟨r1, 1, none⟩, iV u2), (1, ⟨r1, 2, none⟩, uV u3)] [] trivial (kC (sat_cell h3 1 rfl rfl) (kC (sat_cell h3 1 rfl rfl) (kC (sat_cell h3 1 rfl rfl) (kC (sat_cell h3 0 rfl rfl) (kC (sat_cell h3 0 rfl rfl) (kC (sat_cell h3 0 rfl rfl) nC)))))) ?_
 refine plain_law (i := 3) 7 (.bool true) (by kernel_rfl) (seq32_eql_t (o := opA (RA Try.f40 [1, 0]) 3) (x := (Operand.tmp 5)) (y := (Operand.tmp 6)) u1 u2 u3 x y z (by kernel_rfl) (by kernel_rfl) (by kernel_rfl) ⟨(by omega), (by omega), (by omega)⟩ _) ?_
 refine yB0 [] [4] [(3, .bool true)] (.mk ?_)
 refine yK [(3, .bool true)] fun lr5 => ?_
 refine yRt ?_
 repeat (first | simp only [Exit.inBlock] | simp only [Exit.then])
 have h6 := tk3 (sf2 (sf1 (sf2 h3)))
 have h7 := tk2 (sf1 (sf2 h6))
 refine hi_out [] (.bool true) [] (by kernel_rfl) (by intro q hq; cases hq) ?_
 exact ⟨.bool true, [Cl b [iV x, iV y, uV z] 32], rfl, ⟨rfl, rfl⟩, h7⟩

set_option maxHeartbeats 4000000 in
theorem op1_f (b : Nat) (u1 u2 u3 s1 s2 s3 s4 : Int) (tg : List UInt8) (x y z : Int) (h : ¬ (u1 = x ∧ u2 = y ∧ u3 = z)) : HT Try.prog 40 [Value.agg #[Value.int IntKind.i64 u1, Value.int IntKind.i64 u2, Value.int IntKind.u32 u3, Value.int IntKind.i64 s1, Value.int IntKind.i64 s2, Value.int IntKind.i64 s3, Value.int IntKind.i64 s4, Value.string (St tg)], Value.pointer (some ⟨b, 0, none⟩)] [Cl b [Value.int IntKind.i64 x, Value.int IntKind.i64 y, Value.int IntKind.u32 z] 32] (fun v K => v = Value.bool false ∧ K = [Cl b [Value.int IntKind.i64 x, Value.int IntKind.i64 y, Value.int IntKind.u32 z] 32]) := by
 refine hi_in 8 ([(0, .agg #[iV u1, iV u2, uV u3, iV s1, iV s2, iV s3, iV s4, .string (St tg)]), (1, pV b)] : Fr) Try.func40 (by kernel_rfl) Try.ntmps40 rfl rfl ?_
 intro g w0 R h0
 refine ySq ?_
 refine yPl [0, 1] ?_
 refine yA ?_
 refine yNp 2 42 [iV u1, iV u2, uV u3, iV s1, iV s2, iV s3, iV s4, .string (St tg)] h0 fun r1 w2 h3 => ?_
 refine yB0 [] [1] [(3, .bool false)] (.mk ?_)
 refine yK [(1, pV b), (2, pV r1)] fun lr4 => ?_
 refine ySq ?_
 refine yPl [0, 1, 2, 3, 4] ?_
 refine yBb [3, 4] [(6, .agg #[iV x, iV y, uV z]), (5, .agg #[iV u1, iV u2, uV u3]), (4, pV r1)] [e0 0, e2 1 [iV u1, iV u2, uV u3], e2 2 [iV x, iV y, uV z]] [(2, ⟨b, 0, none⟩, iV x), (2, ⟨b, 1, none⟩, iV y), (2, ⟨b, 2, none⟩, uV z), (1, ⟨r1, 0, none⟩, iV u1), (1, ⟨r1, 1, none⟩, iV u2), (1, ⟨r1, 2, none⟩, uV u3)] [] trivial (kC (sat_cell h3 1 rfl rfl) (kC (sat_cell h3 1 rfl rfl) (kC (sat_cell h3 1 rfl rfl) (kC (sat_cell h3 0 rfl rfl) (kC (sat_cell h3 0 rfl rfl) (kC (sat_cell h3 0 rfl rfl) nC)))))) ?_
 by_cases c5 : u1 = x
 ·
  by_cases c6 : u2 = y
  ·
   refine plain_law (i := 3) 7 (.bool false) (by kernel_rfl) (seq32_eql_f (o := opA (RA Try.f40 [1, 0]) 3) (x := (Operand.tmp 5)) (y := (Operand.tmp 6)) u1 u2 u3 x y z (by kernel_rfl) (by kernel_rfl) (by kernel_rfl) (by omega) _) ?_
   refine yB0 [] [4] [(3, .bool false)] (.mk ?_)
   refine yK [(3, .bool false)] fun lr7 => ?_
   refine yRt ?_
   repeat (first | simp only [Exit.inBlock] | simp only [Exit.then])
   have h8 := tk3 (sf2 (sf1 (sf2 h3)))
   have h9 := tk2 (sf1 (sf2 h8))
   refine hi_out [] (.bool false) [] (by kernel_rfl) (by intro q hq; cases hq) ?_
   exact ⟨.bool false, [Cl b [iV x, iV y, uV z] 32], rfl, ⟨rfl, rfl⟩, h9⟩
  ·
   refine plain_law (i := 3) 7 (.bool false) (by kernel_rfl) (seq32_eql_f (o := opA (RA Try.f40 [1, 0]) 3) (x := (Operand.tmp 5)) (y := (Operand.tmp 6)) u1 u2 u3 x y z (by kernel_rfl) (by kernel_rfl) (by kernel_rfl) (by omega) _) ?_
   refine yB0 [] [4] [(3, .bool false)] (.mk ?_)
   refine yK [(3, .bool false)] fun lr10 => ?_
   refine yRt ?_
   repeat (first | simp only [Exit.inBlock] | simp only [Exit.then])
   have h11 := tk3 (sf2 (sf1 (sf2 h3)))
   have h12 := tk2 (sf1 (sf2 h11))
   refine hi_out [] (.bool false) [] (by kernel_rfl) (by intro q hq; cases hq) ?_
   exact ⟨.bool false, [Cl b [iV x, iV y, uV z] 32], rfl, ⟨rfl, rfl⟩, h12⟩
 ·
  refine plain_law (i := 3) 7 (.bool false) (by kernel_rfl) (seq32_eql_f (o := opA (RA Try.f40 [1, 0]) 3) (x := (Operand.tmp 5)) (y := (Operand.tmp 6)) u1 u2 u3 x y z (by kernel_rfl) (by kernel_rfl) (by kernel_rfl) (by omega) _) ?_
  refine yB0 [] [4] [(3, .bool false)] (.mk ?_)
  refine yK [(3, .bool false)] fun lr13 => ?_
  refine yRt ?_
  repeat (first | simp only [Exit.inBlock] | simp only [Exit.then])
  have h14 := tk3 (sf2 (sf1 (sf2 h3)))
  have h15 := tk2 (sf1 (sf2 h14))
  refine hi_out [] (.bool false) [] (by kernel_rfl) (by intro q hq; cases hq) ?_
  exact ⟨.bool false, [Cl b [iV x, iV y, uV z] 32], rfl, ⟨rfl, rfl⟩, h15⟩

set_option maxHeartbeats 4000000 in
theorem r_index (p : Option Addr) (m c b : Nat) (L : List Rs) (x y z : Int) (hm : m ≤ 1000000) : HT Try.prog 56 [Value.slice p m c, Value.func (Fn.func 40) #[] #[Value.pointer (some ⟨b, 0, none⟩)]] [Sl 42 8 p m c (fl eRs L), Cl b [Value.int IntKind.i64 x, Value.int IntKind.i64 y, Value.int IntKind.u32 z] 32] (fun v K => (∃ k : Nat, v = Value.int .i64 (k : Int) ∧ (∃ r ∈ L, r.out = (x, y, z)) ∧ K = [Sl 42 8 p m c (fl eRs L), Cl b [Value.int IntKind.i64 x, Value.int IntKind.i64 y, Value.int IntKind.u32 z] 32]) ∨ (v = Value.int .i64 (-1) ∧ (∀ r ∈ L, r.out ≠ (x, y, z)) ∧ K = [Sl 42 8 p m c (fl eRs L), Cl b [Value.int IntKind.i64 x, Value.int IntKind.i64 y, Value.int IntKind.u32 z] 32])) := by
 refine hi_in 19 ([(0, .slice p m c), (1, .func (Fn.func 40) #[] #[pV b])] : Fr) Try.func56 (by kernel_rfl) Try.ntmps56 rfl rfl ?_
 intro g w0 R h0
 refine ySq ?_
 refine yPl [0] ?_
 refine yB0 [] [0] [(4, iV 0)] (.mk ?_)
 refine yK [(0, .slice p m c), (1, .func (Fn.func 40) #[] #[pV b])] fun lr1 => ?_
 refine ySq ?_
 refine ySq ?_
 refine yPl [0, 1, 2] ?_
 refine yB0 [] [0, 1, 2] [(8, iV 0), (7, iV (m : Int)), (6, .slice p m c)] (.mk ?_)
 refine yK [(0, .slice p m c), (1, .func (Fn.func 40) #[] #[pV b]), (7, iV (m : Int)), (8, iV 0)] fun lr2 => ?_
 refine yBk 0 ?_
 have hl3 := fl_n eRs_ok (by decide) h0
 refine gi_lp (x := CA Try.f56 [1, 0, 1, 0, 0]) (by kernel_rfl) (fun mz_ a w => ∃ k : Nat, ∃ lr : Fr, mz_ = m - k ∧ (k ≤ m) ∧ (∀ (j : Nat) (o : Rs), j < k → L[j]? = some o → o.out ≠ (x, y, z)) ∧ a = mk 19 (([(0, .slice p m c), (1, .func (Fn.func 40) #[] #[pV b]), (7, iV (m : Int)), (8, iV (k : Int))] : Fr) ++ lr) ∧ sat g w [Sl 42 8 p m c (fl eRs L), Cl b [iV x, iV y, uV z] 32, R]) (m - 0) ⟨0, _, rfl, (Nat.zero_le _), (fun j o h _ => absurd h (Nat.not_lt_zero _)), (mk_live [(0, .slice p m c), (1, .func (Fn.func 40) #[] #[pV b]), (7, iV (m : Int)), (8, iV (0 : Int))] ⟨rfl, rfl, rfl, (ov_int (by omega)), trivial⟩), h0⟩ ?_
 rintro m5 a6 w7 ⟨k, lr4, rfl, hk, hall_, rfl, h8⟩
 refine ySq ?_
 refine yPl [0] ?_
 by_cases c9 : (k : Int) < (m : Int)
 ·
  refine yBb [] [(9, .bool true)] [e1 0 (.bool true)] [] [(.bool (decide ((k : Int) < (m : Int))), .bool true)] ⟨(ov_t (by omega)), trivial⟩ nC (.mk ?_)
  refine yK [(0, .slice p m c), (1, .func (Fn.func 40) #[] #[pV b]), (7, iV (m : Int)), (8, iV (k : Int)), (9, .bool true)] fun lr10 => ?_
  refine ySq ?_
  refine yCt ?_
  refine ySk ?_
  refine ySq ?_
  refine yBk 1 ?_
  refine ySq ?_
  refine yPl [0, 1] ?_
  refine yB0 [] [0, 1] [(5, iV (k : Int)), (10, iV (k : Int))] (.mk ?_)
  refine yK [(0, .slice p m c), (1, .func (Fn.func 40) #[] #[pV b]), (5, iV (k : Int)), (7, iV (m : Int)), (8, iV (k : Int))] fun lr11 => ?_
  refine ySq ?_
  refine yPl [0, 1, 2, 3, 4, 5] ?_
  obtain ⟨b12, hp13⟩ := sl_ptr0 (j := 0) h8 rfl (by omega)
  refine yB0 [3, 4, 5] [0, 1, 2] [(13, iV (k : Int)), (12, .slice p m c), (11, .func (Fn.func 40) #[] #[pV b])] ?_
  refine plain_law (i := 3) 14 (.pointer (some ⟨b12, k * 8, none⟩)) (by kernel_rfl) (law_indexSlP (o := opA (RA Try.f56 [1, 0, 1, 0, 0, 1, 1, 0, 0, 1, 0]) 3) (x := (Operand.tmp 12)) (i := (Operand.tmp 13)) (p := p) (b := b12) (off := 0) (z := (k : Int)) (len := m) (cap := c) (by kernel_rfl) Try.underlying74 8 (by kernel_rfl) k (by kernel_rfl) hp13 (by kernel_rfl) (by omega) (by omega) (k * 8) (by omega) _) ?_
  obtain ⟨x14, hx15⟩ : ∃ x, L[k]? = some x := ⟨_, List.getElem?_eq_getElem (by rw [hl3]; omega)⟩
  refine yBb [5] [(15, .agg #[iV x14.out.1, iV x14.out.2.1, uV x14.out.2.2, iV x14.st, iV x14.why, iV x14.tr, iV x14.nx, .string (St x14.tag)])] [e2 4 [iV x14.out.1, iV x14.out.2.1, uV x14.out.2.2, iV x14.st, iV x14.why, iV x14.tr, iV x14.nx, .string (St x14.tag)]] [(4, ⟨b12, k * 8, none⟩, iV x14.out.1), (4, ⟨b12, k * 8 + 1, none⟩, iV x14.out.2.1), (4, ⟨b12, k * 8 + 2, none⟩, uV x14.out.2.2), (4, ⟨b12, k * 8 + 3, none⟩, iV x14.st), (4, ⟨b12, k * 8 + 4, none⟩, iV x14.why), (4, ⟨b12, k * 8 + 5, none⟩, iV x14.tr), (4, ⟨b12, k * 8 + 6, none⟩, iV x14.nx), (4, ⟨b12, k * 8 + 7, none⟩, .string (St x14.tag))] [] trivial (kC (gv_cell (j := 0) h8 rfl (gv_sl _ _ _) hp13 (fl_get eRs_ok (j := 0) (v := iV x14.out.1) hx15 rfl) (k * 8) (by omega)) (kC (gv_cell (j := 0) h8 rfl (gv_sl _ _ _) hp13 (fl_get eRs_ok (j := 1) (v := iV x14.out.2.1) hx15 rfl) (k * 8 + 1) (by omega)) (kC (gv_cell (j := 0) h8 rfl (gv_sl _ _ _) hp13 (fl_get eRs_ok (j := 2) (v := uV x14.out.2.2) hx15 rfl) (k * 8 + 2) (by omega)) (kC (gv_cell (j := 0) h8 rfl (gv_sl _ _ _) hp13 (fl_get eRs_ok (j := 3) (v := iV x14.st) hx15 rfl) (k * 8 + 3) (by omega)) (kC (gv_cell (j := 0) h8 rfl (gv_sl _ _ _) hp13 (fl_get eRs_ok (j := 4) (v := iV x14.why) hx15 rfl) (k * 8 + 4) (by omega)) (kC (gv_cell (j := 0) h8 rfl (gv_sl _ _ _) hp13 (fl_get eRs_ok (j := 5) (v := iV x14.tr) hx15 rfl) (k * 8 + 5) (by omega)) (kC (gv_cell (j := 0) h8 rfl (gv_sl _ _ _) hp13 (fl_get eRs_ok (j := 6) (v := iV x14.nx) hx15 rfl) (k * 8 + 6) (by omega)) (kC (gv_cell (j := 0) h8 rfl (gv_sl _ _ _) hp13 (fl_get eRs_ok (j := 7) (v := .string (St x14.tag)) hx15 rfl) (k * 8 + 7) (by omega)) nC)))))))) ?_
  by_cases c16 : x14.out.1 = x
  ·
   by_cases c17 : x14.out.2.1 = y
   ·
    by_cases c18 : x14.out.2.2 = z
    ·
     have h19 := tk3 (sf2 (sf1 (sf2 h8)))
     refine yA ?_
     refine yCl 16 Try.call40 (op1_t b x14.out.1 x14.out.2.1 x14.out.2.2 x14.st x14.why x14.tr x14.nx x14.tag x y z (by omega)) h19 ?_
     rintro v K w20 (⟨rfl, rfl⟩) h21
     refine ⟨_, rfl, ?_⟩
     have h22 := ap1 h21
     refine PO.mk ?_
     refine yK [(0, .slice p m c), (1, .func (Fn.func 40) #[] #[pV b]), (5, iV (k : Int)), (7, iV (m : Int)), (8, iV (k : Int)), (16, .bool true)] fun lr23 => ?_
     refine yCt ?_
     refine ySq ?_
     refine yPl [0, 1] ?_
     refine yB0 [] [0, 1] [(4, iV (k : Int)), (17, iV (k : Int))] (.mk ?_)
     refine yK [(4, iV (k : Int))] fun lr24 => ?_
     refine yRt ?_
     repeat (first | simp only [Exit.inBlock] | simp only [Exit.then])
     have h25 := tk3 (sf2 (sf1 (sf2 h22)))
     refine hi_out [] (iV (k : Int)) [] (by kernel_rfl) (by intro q hq; cases hq) ?_
     exact ⟨iV (k : Int), [Sl 42 8 p m c (fl eRs L), Cl b [iV x, iV y, uV z] 32], rfl, (.inl ⟨k, rfl, ⟨x14, List.mem_of_getElem? hx15, Prod.ext (show x14.out.1 = x from by omega) (Prod.ext (show x14.out.2.1 = y from by omega) (show x14.out.2.2 = z from by omega))⟩, rfl⟩), h25⟩
    ·
     have h26 := tk3 (sf2 (sf1 (sf2 h8)))
     refine yA ?_
     refine yCl 16 Try.call40 (op1_f b x14.out.1 x14.out.2.1 x14.out.2.2 x14.st x14.why x14.tr x14.nx x14.tag x y z (by omega)) h26 ?_
     rintro v K w27 (⟨rfl, rfl⟩) h28
     refine ⟨_, rfl, ?_⟩
     have h29 := ap1 h28
     refine PO.mk ?_
     refine yK [(0, .slice p m c), (1, .func (Fn.func 40) #[] #[pV b]), (5, iV (k : Int)), (7, iV (m : Int)), (8, iV (k : Int)), (16, .bool false)] fun lr30 => ?_
     refine yCf ?_
     refine ySk ?_
     refine yPl [0, 1] ?_
     refine yBb [] [(8, iV ((k : Int) + 1)), (18, iV ((k : Int) + 1))] [e1 0 (iV ((k : Int) + 1)), e0 1] [] [(iV (IntKind.wrap .i64 ((k : Int) + 1)), iV ((k : Int) + 1))] ⟨(ov_i64 (by omega) (by omega) (by omega)), trivial⟩ nC (.mk ?_)
     have h31 := tk3 (sf2 (sf1 (sf2 h29)))
     change ∃ n', n' < _ ∧ _
     refine ⟨(m - (k + 1)), by omega, (k + 1), _, rfl, (by omega), (ridx_go hall_ hx15 (ne_trip (by omega))), (mk_live [(0, .slice p m c), (1, .func (Fn.func 40) #[] #[pV b]), (7, iV (m : Int)), (8, iV ((((k + 1) : Nat) : Int)))] ⟨rfl, rfl, rfl, (ov_int (by omega)), trivial⟩), h31⟩
   ·
    have h32 := tk3 (sf2 (sf1 (sf2 h8)))
    refine yA ?_
    refine yCl 16 Try.call40 (op1_f b x14.out.1 x14.out.2.1 x14.out.2.2 x14.st x14.why x14.tr x14.nx x14.tag x y z (by omega)) h32 ?_
    rintro v K w33 (⟨rfl, rfl⟩) h34
    refine ⟨_, rfl, ?_⟩
    have h35 := ap1 h34
    refine PO.mk ?_
    refine yK [(0, .slice p m c), (1, .func (Fn.func 40) #[] #[pV b]), (5, iV (k : Int)), (7, iV (m : Int)), (8, iV (k : Int)), (16, .bool false)] fun lr36 => ?_
    refine yCf ?_
    refine ySk ?_
    refine yPl [0, 1] ?_
    refine yBb [] [(8, iV ((k : Int) + 1)), (18, iV ((k : Int) + 1))] [e1 0 (iV ((k : Int) + 1)), e0 1] [] [(iV (IntKind.wrap .i64 ((k : Int) + 1)), iV ((k : Int) + 1))] ⟨(ov_i64 (by omega) (by omega) (by omega)), trivial⟩ nC (.mk ?_)
    have h37 := tk3 (sf2 (sf1 (sf2 h35)))
    change ∃ n', n' < _ ∧ _
    refine ⟨(m - (k + 1)), by omega, (k + 1), _, rfl, (by omega), (ridx_go hall_ hx15 (ne_trip (by omega))), (mk_live [(0, .slice p m c), (1, .func (Fn.func 40) #[] #[pV b]), (7, iV (m : Int)), (8, iV ((((k + 1) : Nat) : Int)))] ⟨rfl, rfl, rfl, (ov_int (by omega)), trivial⟩), h37⟩
  ·
   have h38 := tk3 (sf2 (sf1 (sf2 h8)))
   refine yA ?_
   refine yCl 16 Try.call40 (op1_f b x14.out.1 x14.out.2.1 x14.out.2.2 x14.st x14.why x14.tr x14.nx x14.tag x y z (by omega)) h38 ?_
   rintro v K w39 (⟨rfl, rfl⟩) h40
   refine ⟨_, rfl, ?_⟩
   have h41 := ap1 h40
   refine PO.mk ?_
   refine yK [(0, .slice p m c), (1, .func (Fn.func 40) #[] #[pV b]), (5, iV (k : Int)), (7, iV (m : Int)), (8, iV (k : Int)), (16, .bool false)] fun lr42 => ?_
   refine yCf ?_
   refine ySk ?_
   refine yPl [0, 1] ?_
   refine yBb [] [(8, iV ((k : Int) + 1)), (18, iV ((k : Int) + 1))] [e1 0 (iV ((k : Int) + 1)), e0 1] [] [(iV (IntKind.wrap .i64 ((k : Int) + 1)), iV ((k : Int) + 1))] ⟨(ov_i64 (by omega) (by omega) (by omega)), trivial⟩ nC (.mk ?_)
   have h43 := tk3 (sf2 (sf1 (sf2 h41)))
   change ∃ n', n' < _ ∧ _
   refine ⟨(m - (k + 1)), by omega, (k + 1), _, rfl, (by omega), (ridx_go hall_ hx15 (ne_trip (by omega))), (mk_live [(0, .slice p m c), (1, .func (Fn.func 40) #[] #[pV b]), (7, iV (m : Int)), (8, iV ((((k + 1) : Nat) : Int)))] ⟨rfl, rfl, rfl, (ov_int (by omega)), trivial⟩), h43⟩
 ·
  refine yBb [] [(9, .bool false)] [e1 0 (.bool false)] [] [(.bool (decide ((k : Int) < (m : Int))), .bool false)] ⟨(ov_f (by omega)), trivial⟩ nC (.mk ?_)
  refine yK [(0, .slice p m c), (1, .func (Fn.func 40) #[] #[pV b]), (7, iV (m : Int)), (8, iV (k : Int)), (9, .bool false)] fun lr44 => ?_
  refine ySq ?_
  refine yCf ?_
  refine yEx 0 ?_
  refine ySq ?_
  refine yPl [0] ?_
  refine yB0 [] [0] [(4, iV (-1))] (.mk ?_)
  refine yK [(4, iV (-1))] fun lr45 => ?_
  refine yRt ?_
  repeat (first | simp only [Exit.inBlock] | simp only [Exit.then])
  refine hi_out [] (iV (-1)) [] (by kernel_rfl) (by intro q hq; cases hq) ?_
  exact ⟨iV (-1), [Sl 42 8 p m c (fl eRs L), Cl b [iV x, iV y, uV z] 32], rfl, (.inr ⟨rfl, rall_idx (k := k) hall_ (by omega), rfl⟩), h8⟩

set_option maxHeartbeats 4000000 in
theorem r_has (p : Option Addr) (m c b : Nat) (L : List Rs) (x y z : Int) (hm : m ≤ 1000000) : HT Try.prog 39 [Value.slice p m c, Value.func (Fn.func 40) #[] #[Value.pointer (some ⟨b, 0, none⟩)]] [Sl 42 8 p m c (fl eRs L), Cl b [Value.int IntKind.i64 x, Value.int IntKind.i64 y, Value.int IntKind.u32 z] 32] (fun v K => (v = Value.bool true ∧ (∃ r ∈ L, r.out = (x, y, z)) ∧ K = [Sl 42 8 p m c (fl eRs L), Cl b [Value.int IntKind.i64 x, Value.int IntKind.i64 y, Value.int IntKind.u32 z] 32]) ∨ (v = Value.bool false ∧ (∀ r ∈ L, r.out ≠ (x, y, z)) ∧ K = [Sl 42 8 p m c (fl eRs L), Cl b [Value.int IntKind.i64 x, Value.int IntKind.i64 y, Value.int IntKind.u32 z] 32])) := by
 refine hi_in 9 ([(0, .slice p m c), (1, .func (Fn.func 40) #[] #[pV b])] : Fr) Try.func39 (by kernel_rfl) Try.ntmps39 rfl rfl ?_
 intro g w0 R h0
 refine ySq ?_
 refine yPl [0] ?_
 refine yB0 [] [0] [(4, .bool false)] (.mk ?_)
 refine yK [(0, .slice p m c), (1, .func (Fn.func 40) #[] #[pV b])] fun lr1 => ?_
 refine ySq ?_
 refine yPl [0, 1, 2, 3, 4] ?_
 refine yB0 [2, 3, 4] [0, 1] [(6, .func (Fn.func 40) #[] #[pV b]), (5, .slice p m c)] ?_
 refine yA ?_
 refine yCl 7 Try.call56 (r_index p m c b L x y z (by omega)) h0 ?_
 rintro v K w4 (⟨k2, rfl, hf3, rfl⟩ | ⟨rfl, hf3, rfl⟩) h5
 ·
  refine ⟨_, rfl, ?_⟩
  have h6 := ap2 h5
  refine yBb [] [(4, .bool true), (8, .bool true)] [e1 3 (.bool true), e0 4] [] [(.bool (decide ((k2 : Int) ≥ 0)), .bool true)] ⟨(ov_t (by omega)), trivial⟩ nC (.mk ?_)
  refine yK [(4, .bool true)] fun lr7 => ?_
  refine yRt ?_
  repeat (first | simp only [Exit.inBlock] | simp only [Exit.then])
  refine hi_out [] (.bool true) [] (by kernel_rfl) (by intro q hq; cases hq) ?_
  exact ⟨.bool true, [Sl 42 8 p m c (fl eRs L), Cl b [iV x, iV y, uV z] 32], rfl, (.inl ⟨rfl, hf3, rfl⟩), h6⟩
 ·
  refine ⟨_, rfl, ?_⟩
  have h8 := ap2 h5
  refine yB0 [] [3, 4] [(4, .bool false), (8, .bool false)] (.mk ?_)
  refine yK [(4, .bool false)] fun lr9 => ?_
  refine yRt ?_
  repeat (first | simp only [Exit.inBlock] | simp only [Exit.then])
  refine hi_out [] (.bool false) [] (by kernel_rfl) (by intro q hq; cases hq) ?_
  exact ⟨.bool false, [Sl 42 8 p m c (fl eRs L), Cl b [iV x, iV y, uV z] 32], rfl, (.inr ⟨rfl, hf3, rfl⟩), h8⟩

theorem rhas_t (p : Option Addr) (m c b : Nat) (L : List Rs) (x y z : Int) (h : ∃ r ∈ L, r.out = (x, y, z)) (hm : m ≤ 1000000) : HT Try.prog 39 [Value.slice p m c, Value.func (Fn.func 40) #[] #[Value.pointer (some ⟨b, 0, none⟩)]] [Sl 42 8 p m c (fl eRs L), Cl b [Value.int IntKind.i64 x, Value.int IntKind.i64 y, Value.int IntKind.u32 z] 32] (fun v K => v = Value.bool true ∧ K = [Sl 42 8 p m c (fl eRs L), Cl b [Value.int IntKind.i64 x, Value.int IntKind.i64 y, Value.int IntKind.u32 z] 32]) :=
  (r_has p m c b L x y z hm).mono fun v K hP => by
    rcases hP with ⟨hv, h1, hK⟩ | ⟨hv, h1, hK⟩
    · exact ⟨hv, hK⟩
    · obtain ⟨e, he, h2⟩ := h; exact absurd h2 (h1 e he)

theorem rhas_f (p : Option Addr) (m c b : Nat) (L : List Rs) (x y z : Int) (h : ∀ r ∈ L, r.out ≠ (x, y, z)) (hm : m ≤ 1000000) : HT Try.prog 39 [Value.slice p m c, Value.func (Fn.func 40) #[] #[Value.pointer (some ⟨b, 0, none⟩)]] [Sl 42 8 p m c (fl eRs L), Cl b [Value.int IntKind.i64 x, Value.int IntKind.i64 y, Value.int IntKind.u32 z] 32] (fun v K => v = Value.bool false ∧ K = [Sl 42 8 p m c (fl eRs L), Cl b [Value.int IntKind.i64 x, Value.int IntKind.i64 y, Value.int IntKind.u32 z] 32]) :=
  (r_has p m c b L x y z hm).mono fun v K hP => by
    rcases hP with ⟨hv, h1, hK⟩ | ⟨hv, h1, hK⟩
    · obtain ⟨e, he, h1⟩ := h1; exact absurd h1 (h e he)
    · exact ⟨hv, hK⟩

end Go.Proofs.Ytjjpmehiolejgaa

/- Walks, printed by my generator gen12.py. -/
namespace Go.Proofs.Ytjjpmehiolejgaa
set_option maxHeartbeats 4000000 in
theorem tnum_bad (b n : Nat) (A : List Sl2) (E : Tm) (RL : List Rs) (x y z : Int) (hz0 : 0 ≤ z) (hz1 : z ≤ 4294967295) (ho : ¬ (1 ≤ x ∧ x ≤ 3 ∧ 0 ≤ y ∧ y ≤ 255 ∧ 1 ≤ z)) : HT Try.prog 25 [Value.pointer (some ⟨b, 0, none⟩), Value.agg #[Value.int IntKind.i64 x, Value.int IntKind.i64 y, Value.int IntKind.u32 z]] [Tab b n A E RL] (fun v K => v = Value.tuple #[Value.int IntKind.i64 0, Value.int IntKind.i64 2] ∧ K = [Tab b n A E RL]) := by
 refine hi_in 17 ([(0, pV b), (1, .agg #[iV x, iV y, uV z])] : Fr) Try.func25 (by kernel_rfl) Try.ntmps25 rfl rfl ?_
 intro g w0 R h0
 refine ySq ?_
 refine yPl [0, 1, 2] ?_
 refine yA ?_
 refine yNp 3 28 [iV x, iV y, uV z] h0 fun r1 w2 h3 => ?_
 refine yB0 [] [1, 2] [(5, iV 0), (4, iV 0)] (.mk ?_)
 refine yK [(0, pV b), (3, pV r1)] fun lr4 => ?_
 refine ySq ?_
 refine yPl [0, 1, 2, 3, 4, 5, 6, 7, 8] ?_
 refine yBb [2, 3, 4, 5, 6, 7, 8] [(10, .agg #[iV x, iV y, uV z]), (9, pV b)] [e0 0, e2 1 [iV x, iV y, uV z]] [(1, ⟨r1, 0, none⟩, iV x), (1, ⟨r1, 1, none⟩, iV y), (1, ⟨r1, 2, none⟩, uV z)] [] trivial (kC (sat_cell h3 0 rfl rfl) (kC (sat_cell h3 0 rfl rfl) (kC (sat_cell h3 0 rfl rfl) nC))) ?_
 have h5 := tk3 (sf2 (sf1 (sf2 h3)))
 refine yA ?_
 refine yCl 11 Try.call44 (tfind_bad b n A E RL x y z (by omega) (by omega) (by omega)) h5 ?_
 rintro v K w6 (⟨rfl, rfl⟩) h7
 refine ⟨_, rfl, ?_⟩
 have h8 := ap1 h7
 refine yB0 [6, 7, 8] [3, 4, 5] [(13, iV 2), (12, .agg #[iV 0, iV 0, uV 0, iV 0, iV 0, uV 0]), (8, .tuple #[.agg #[iV 0, iV 0, uV 0, iV 0, iV 0, uV 0], iV 2])] ?_
 refine yA ?_
 refine yNp 6 90 [iV 0, iV 0, uV 0, iV 0, iV 0, uV 0] h8 fun r9 w10 h11 => ?_
 refine yA ?_
 refine yS [(0, iV 0), (1, iV 0), (2, uV 0), (3, iV 0), (4, iV 0), (5, uV 0)] [iV 0, iV 0, uV 0, iV 0, iV 0, uV 0] h11 fun w12 h13 => ?_
 refine yB0 [] [8] [(7, iV 2)] (.mk ?_)
 refine yK [(6, pV r9), (7, iV 2)] fun lr14 => ?_
 refine ySq ?_
 refine yPl [0, 1, 2, 3, 4] ?_
 refine yBb [] [(5, iV 2), (4, iV 0), (16, iV 2), (15, iV 0), (14, .pointer (some ⟨r9, 3, none⟩))] [e0 0, e2 1 [iV 0], e0 2, e0 3, e0 4] [(1, ⟨r9, 3, none⟩, iV 0)] [] trivial (kC (sat_cell h13 0 rfl rfl) nC) (.mk ?_)
 refine yK [(4, iV 0), (5, iV 2)] fun lr15 => ?_
 refine yRt ?_
 repeat (first | simp only [Exit.inBlock] | simp only [Exit.then])
 have h16 := tk4 (sf3 (sf2 (sf3 (sf3 h13))))
 have h17 := tk2 (sf1 (sf3 h16))
 refine hi_out [] (.tuple #[iV 0, iV 2]) [] (by kernel_rfl) (by intro q hq; cases hq) ?_
 exact ⟨.tuple #[iV 0, iV 2], [Tab b n A E RL], rfl, ⟨rfl, rfl⟩, h17⟩

set_option maxHeartbeats 4000000 in
theorem tnum_none (b n : Nat) (A : List Sl2) (E : Tm) (RL : List Rs) (x y z : Int) (hz0 : 0 ≤ z) (hz1 : z ≤ 4294967295) (ho : 1 ≤ x ∧ x ≤ 3 ∧ 0 ≤ y ∧ y ≤ 255 ∧ 1 ≤ z) (hg_ : gget E y = none) : HT Try.prog 25 [Value.pointer (some ⟨b, 0, none⟩), Value.agg #[Value.int IntKind.i64 x, Value.int IntKind.i64 y, Value.int IntKind.u32 z]] [Tab b n A E RL] (fun v K => v = Value.tuple #[Value.int IntKind.i64 0, Value.int IntKind.i64 7] ∧ K = [Tab b n A E RL]) := by
 refine hi_in 17 ([(0, pV b), (1, .agg #[iV x, iV y, uV z])] : Fr) Try.func25 (by kernel_rfl) Try.ntmps25 rfl rfl ?_
 intro g w0 R h0
 refine ySq ?_
 refine yPl [0, 1, 2] ?_
 refine yA ?_
 refine yNp 3 28 [iV x, iV y, uV z] h0 fun r1 w2 h3 => ?_
 refine yB0 [] [1, 2] [(5, iV 0), (4, iV 0)] (.mk ?_)
 refine yK [(0, pV b), (3, pV r1)] fun lr4 => ?_
 refine ySq ?_
 refine yPl [0, 1, 2, 3, 4, 5, 6, 7, 8] ?_
 refine yBb [2, 3, 4, 5, 6, 7, 8] [(10, .agg #[iV x, iV y, uV z]), (9, pV b)] [e0 0, e2 1 [iV x, iV y, uV z]] [(1, ⟨r1, 0, none⟩, iV x), (1, ⟨r1, 1, none⟩, iV y), (1, ⟨r1, 2, none⟩, uV z)] [] trivial (kC (sat_cell h3 0 rfl rfl) (kC (sat_cell h3 0 rfl rfl) (kC (sat_cell h3 0 rfl rfl) nC))) ?_
 have h5 := tk3 (sf2 (sf1 (sf2 h3)))
 refine yA ?_
 refine yCl 11 Try.call44 (tfind_none b n A E RL x y z (by omega) (by omega) (by omega) hg_) h5 ?_
 rintro v K w6 (⟨rfl, rfl⟩) h7
 refine ⟨_, rfl, ?_⟩
 have h8 := ap1 h7
 refine yB0 [6, 7, 8] [3, 4, 5] [(13, iV 7), (12, .agg #[iV 0, iV 0, uV 0, iV 0, iV 0, uV 0]), (8, .tuple #[.agg #[iV 0, iV 0, uV 0, iV 0, iV 0, uV 0], iV 7])] ?_
 refine yA ?_
 refine yNp 6 90 [iV 0, iV 0, uV 0, iV 0, iV 0, uV 0] h8 fun r9 w10 h11 => ?_
 refine yA ?_
 refine yS [(0, iV 0), (1, iV 0), (2, uV 0), (3, iV 0), (4, iV 0), (5, uV 0)] [iV 0, iV 0, uV 0, iV 0, iV 0, uV 0] h11 fun w12 h13 => ?_
 refine yB0 [] [8] [(7, iV 7)] (.mk ?_)
 refine yK [(6, pV r9), (7, iV 7)] fun lr14 => ?_
 refine ySq ?_
 refine yPl [0, 1, 2, 3, 4] ?_
 refine yBb [] [(5, iV 7), (4, iV 0), (16, iV 7), (15, iV 0), (14, .pointer (some ⟨r9, 3, none⟩))] [e0 0, e2 1 [iV 0], e0 2, e0 3, e0 4] [(1, ⟨r9, 3, none⟩, iV 0)] [] trivial (kC (sat_cell h13 0 rfl rfl) nC) (.mk ?_)
 refine yK [(4, iV 0), (5, iV 7)] fun lr15 => ?_
 refine yRt ?_
 repeat (first | simp only [Exit.inBlock] | simp only [Exit.then])
 have h16 := tk4 (sf3 (sf2 (sf3 (sf3 h13))))
 have h17 := tk2 (sf1 (sf3 h16))
 refine hi_out [] (.tuple #[iV 0, iV 7]) [] (by kernel_rfl) (by intro q hq; cases hq) ?_
 exact ⟨.tuple #[iV 0, iV 7], [Tab b n A E RL], rfl, ⟨rfl, rfl⟩, h17⟩

set_option maxHeartbeats 4000000 in
theorem tnum_ok (b n : Nat) (A : List Sl2) (E : Tm) (RL : List Rs) (x y z : Int) (e : Ety) (hz0 : 0 ≤ z) (hz1 : z ≤ 4294967295) (ho : 1 ≤ x ∧ x ≤ 3 ∧ 0 ≤ y ∧ y ≤ 255 ∧ 1 ≤ z) (hg_ : gget E y = some e) (hd_ : e.d.1 = x ∧ e.d.2.1 = y ∧ e.d.2.2 = z) : HT Try.prog 25 [Value.pointer (some ⟨b, 0, none⟩), Value.agg #[Value.int IntKind.i64 x, Value.int IntKind.i64 y, Value.int IntKind.u32 z]] [Tab b n A E RL] (fun v K => v = Value.tuple #[Value.int IntKind.i64 e.num, Value.int IntKind.i64 0] ∧ K = [Tab b n A E RL]) := by
 refine hi_in 17 ([(0, pV b), (1, .agg #[iV x, iV y, uV z])] : Fr) Try.func25 (by kernel_rfl) Try.ntmps25 rfl rfl ?_
 intro g w0 R h0
 refine ySq ?_
 refine yPl [0, 1, 2] ?_
 refine yA ?_
 refine yNp 3 28 [iV x, iV y, uV z] h0 fun r1 w2 h3 => ?_
 refine yB0 [] [1, 2] [(5, iV 0), (4, iV 0)] (.mk ?_)
 refine yK [(0, pV b), (3, pV r1)] fun lr4 => ?_
 refine ySq ?_
 refine yPl [0, 1, 2, 3, 4, 5, 6, 7, 8] ?_
 refine yBb [2, 3, 4, 5, 6, 7, 8] [(10, .agg #[iV x, iV y, uV z]), (9, pV b)] [e0 0, e2 1 [iV x, iV y, uV z]] [(1, ⟨r1, 0, none⟩, iV x), (1, ⟨r1, 1, none⟩, iV y), (1, ⟨r1, 2, none⟩, uV z)] [] trivial (kC (sat_cell h3 0 rfl rfl) (kC (sat_cell h3 0 rfl rfl) (kC (sat_cell h3 0 rfl rfl) nC))) ?_
 have h5 := tk3 (sf2 (sf1 (sf2 h3)))
 refine yA ?_
 refine yCl 11 Try.call44 (tfind_ok b n A E RL x y z e (by omega) (by omega) (by omega) hg_ (by omega)) h5 ?_
 rintro v K w6 (⟨rfl, rfl⟩) h7
 refine ⟨_, rfl, ?_⟩
 have h8 := ap1 h7
 refine yB0 [6, 7, 8] [3, 4, 5] [(13, iV 0), (12, .agg #[iV e.d.1, iV e.d.2.1, uV e.d.2.2, iV e.num, iV e.h.1, uV e.h.2]), (8, .tuple #[.agg #[iV e.d.1, iV e.d.2.1, uV e.d.2.2, iV e.num, iV e.h.1, uV e.h.2], iV 0])] ?_
 refine yA ?_
 refine yNp 6 90 [iV 0, iV 0, uV 0, iV 0, iV 0, uV 0] h8 fun r9 w10 h11 => ?_
 refine yA ?_
 refine yS [(0, iV e.d.1), (1, iV e.d.2.1), (2, uV e.d.2.2), (3, iV e.num), (4, iV e.h.1), (5, uV e.h.2)] [iV e.d.1, iV e.d.2.1, uV e.d.2.2, iV e.num, iV e.h.1, uV e.h.2] h11 fun w12 h13 => ?_
 refine yB0 [] [8] [(7, iV 0)] (.mk ?_)
 refine yK [(6, pV r9), (7, iV 0)] fun lr14 => ?_
 refine ySq ?_
 refine yPl [0, 1, 2, 3, 4] ?_
 refine yBb [] [(5, iV 0), (4, iV e.num), (16, iV 0), (15, iV e.num), (14, .pointer (some ⟨r9, 3, none⟩))] [e0 0, e2 1 [iV e.num], e0 2, e0 3, e0 4] [(1, ⟨r9, 3, none⟩, iV e.num)] [] trivial (kC (sat_cell h13 0 rfl rfl) nC) (.mk ?_)
 refine yK [(4, iV e.num), (5, iV 0)] fun lr15 => ?_
 refine yRt ?_
 repeat (first | simp only [Exit.inBlock] | simp only [Exit.then])
 have h16 := tk4 (sf3 (sf2 (sf3 (sf3 h13))))
 have h17 := tk2 (sf1 (sf3 h16))
 refine hi_out [] (.tuple #[iV e.num, iV 0]) [] (by kernel_rfl) (by intro q hq; cases hq) ?_
 exact ⟨.tuple #[iV e.num, iV 0], [Tab b n A E RL], rfl, ⟨rfl, rfl⟩, h17⟩

set_option maxHeartbeats 4000000 in
theorem tnum_diff (b n : Nat) (A : List Sl2) (E : Tm) (RL : List Rs) (x y z : Int) (e : Ety) (hz0 : 0 ≤ z) (hz1 : z ≤ 4294967295) (ho : 1 ≤ x ∧ x ≤ 3 ∧ 0 ≤ y ∧ y ≤ 255 ∧ 1 ≤ z) (hg_ : gget E y = some e) (hd_ : ¬ (e.d.1 = x ∧ e.d.2.1 = y ∧ e.d.2.2 = z)) : HT Try.prog 25 [Value.pointer (some ⟨b, 0, none⟩), Value.agg #[Value.int IntKind.i64 x, Value.int IntKind.i64 y, Value.int IntKind.u32 z]] [Tab b n A E RL] (fun v K => v = Value.tuple #[Value.int IntKind.i64 0, Value.int IntKind.i64 7] ∧ K = [Tab b n A E RL]) := by
 refine hi_in 17 ([(0, pV b), (1, .agg #[iV x, iV y, uV z])] : Fr) Try.func25 (by kernel_rfl) Try.ntmps25 rfl rfl ?_
 intro g w0 R h0
 refine ySq ?_
 refine yPl [0, 1, 2] ?_
 refine yA ?_
 refine yNp 3 28 [iV x, iV y, uV z] h0 fun r1 w2 h3 => ?_
 refine yB0 [] [1, 2] [(5, iV 0), (4, iV 0)] (.mk ?_)
 refine yK [(0, pV b), (3, pV r1)] fun lr4 => ?_
 refine ySq ?_
 refine yPl [0, 1, 2, 3, 4, 5, 6, 7, 8] ?_
 refine yBb [2, 3, 4, 5, 6, 7, 8] [(10, .agg #[iV x, iV y, uV z]), (9, pV b)] [e0 0, e2 1 [iV x, iV y, uV z]] [(1, ⟨r1, 0, none⟩, iV x), (1, ⟨r1, 1, none⟩, iV y), (1, ⟨r1, 2, none⟩, uV z)] [] trivial (kC (sat_cell h3 0 rfl rfl) (kC (sat_cell h3 0 rfl rfl) (kC (sat_cell h3 0 rfl rfl) nC))) ?_
 have h5 := tk3 (sf2 (sf1 (sf2 h3)))
 refine yA ?_
 refine yCl 11 Try.call44 (tfind_diff b n A E RL x y z e (by omega) (by omega) (by omega) hg_ (by omega)) h5 ?_
 rintro v K w6 (⟨rfl, rfl⟩) h7
 refine ⟨_, rfl, ?_⟩
 have h8 := ap1 h7
 refine yB0 [6, 7, 8] [3, 4, 5] [(13, iV 7), (12, .agg #[iV 0, iV 0, uV 0, iV 0, iV 0, uV 0]), (8, .tuple #[.agg #[iV 0, iV 0, uV 0, iV 0, iV 0, uV 0], iV 7])] ?_
 refine yA ?_
 refine yNp 6 90 [iV 0, iV 0, uV 0, iV 0, iV 0, uV 0] h8 fun r9 w10 h11 => ?_
 refine yA ?_
 refine yS [(0, iV 0), (1, iV 0), (2, uV 0), (3, iV 0), (4, iV 0), (5, uV 0)] [iV 0, iV 0, uV 0, iV 0, iV 0, uV 0] h11 fun w12 h13 => ?_
 refine yB0 [] [8] [(7, iV 7)] (.mk ?_)
 refine yK [(6, pV r9), (7, iV 7)] fun lr14 => ?_
 refine ySq ?_
 refine yPl [0, 1, 2, 3, 4] ?_
 refine yBb [] [(5, iV 7), (4, iV 0), (16, iV 7), (15, iV 0), (14, .pointer (some ⟨r9, 3, none⟩))] [e0 0, e2 1 [iV 0], e0 2, e0 3, e0 4] [(1, ⟨r9, 3, none⟩, iV 0)] [] trivial (kC (sat_cell h13 0 rfl rfl) nC) (.mk ?_)
 refine yK [(4, iV 0), (5, iV 7)] fun lr15 => ?_
 refine yRt ?_
 repeat (first | simp only [Exit.inBlock] | simp only [Exit.then])
 have h16 := tk4 (sf3 (sf2 (sf3 (sf3 h13))))
 have h17 := tk2 (sf1 (sf3 h16))
 refine hi_out [] (.tuple #[iV 0, iV 7]) [] (by kernel_rfl) (by intro q hq; cases hq) ?_
 exact ⟨.tuple #[iV 0, iV 7], [Tab b n A E RL], rfl, ⟨rfl, rfl⟩, h17⟩

set_option maxHeartbeats 4000000 in
theorem thnd_bad (b n : Nat) (A : List Sl2) (E : Tm) (RL : List Rs) (x y z : Int) (hz0 : 0 ≤ z) (hz1 : z ≤ 4294967295) (ho : ¬ (1 ≤ x ∧ x ≤ 3 ∧ 0 ≤ y ∧ y ≤ 255 ∧ 1 ≤ z)) : HT Try.prog 26 [Value.pointer (some ⟨b, 0, none⟩), Value.agg #[Value.int IntKind.i64 x, Value.int IntKind.i64 y, Value.int IntKind.u32 z]] [Tab b n A E RL] (fun v K => v = Value.tuple #[Value.agg #[Value.int IntKind.i64 0, Value.int IntKind.u32 0], Value.int IntKind.i64 2] ∧ K = [Tab b n A E RL]) := by
 refine hi_in 17 ([(0, pV b), (1, .agg #[iV x, iV y, uV z])] : Fr) Try.func26 (by kernel_rfl) Try.ntmps26 rfl rfl ?_
 intro g w0 R h0
 refine ySq ?_
 refine yPl [0, 1, 2] ?_
 refine yA ?_
 refine yNp 3 28 [iV x, iV y, uV z] h0 fun r1 w2 h3 => ?_
 refine yA ?_
 refine yNp 4 34 [iV 0, uV 0] h3 fun r4 w5 h6 => ?_
 refine yB0 [] [2] [(5, iV 0)] (.mk ?_)
 refine yK [(0, pV b), (3, pV r1), (4, pV r4)] fun lr7 => ?_
 refine ySq ?_
 refine yPl [0, 1, 2, 3, 4, 5, 6, 7, 8] ?_
 refine yBb [2, 3, 4, 5, 6, 7, 8] [(10, .agg #[iV x, iV y, uV z]), (9, pV b)] [e0 0, e2 1 [iV x, iV y, uV z]] [(1, ⟨r1, 0, none⟩, iV x), (1, ⟨r1, 1, none⟩, iV y), (1, ⟨r1, 2, none⟩, uV z)] [] trivial (kC (sat_cell h6 1 rfl rfl) (kC (sat_cell h6 1 rfl rfl) (kC (sat_cell h6 1 rfl rfl) nC))) ?_
 have h8 := tk4 (sf3 (sf2 (sf2 (sf3 h6))))
 refine yA ?_
 refine yCl 11 Try.call44 (tfind_bad b n A E RL x y z (by omega) (by omega) (by omega)) h8 ?_
 rintro v K w9 (⟨rfl, rfl⟩) h10
 refine ⟨_, rfl, ?_⟩
 have h11 := ap1 h10
 refine yB0 [6, 7, 8] [3, 4, 5] [(13, iV 2), (12, .agg #[iV 0, iV 0, uV 0, iV 0, iV 0, uV 0]), (8, .tuple #[.agg #[iV 0, iV 0, uV 0, iV 0, iV 0, uV 0], iV 2])] ?_
 refine yA ?_
 refine yNp 6 90 [iV 0, iV 0, uV 0, iV 0, iV 0, uV 0] h11 fun r12 w13 h14 => ?_
 refine yA ?_
 refine yS [(0, iV 0), (1, iV 0), (2, uV 0), (3, iV 0), (4, iV 0), (5, uV 0)] [iV 0, iV 0, uV 0, iV 0, iV 0, uV 0] h14 fun w15 h16 => ?_
 refine yB0 [] [8] [(7, iV 2)] (.mk ?_)
 refine yK [(4, pV r4), (6, pV r12), (7, iV 2)] fun lr17 => ?_
 refine ySq ?_
 refine yPl [0, 1, 2, 3, 4] ?_
 refine yBb [3, 4] [(16, iV 2), (15, .agg #[iV 0, uV 0]), (14, .pointer (some ⟨r12, 4, none⟩))] [e0 0, e2 1 [iV 0, uV 0], e0 2] [(1, ⟨r12, 4, none⟩, iV 0), (1, ⟨r12, 5, none⟩, uV 0)] [] trivial (kC (sat_cell h16 0 rfl rfl) (kC (sat_cell h16 0 rfl rfl) nC)) ?_
 have h18 := tk5 (sf4 (sf3 (sf3 (sf4 (sf4 h16)))))
 refine yA ?_
 refine yS [(0, iV 0), (1, uV 0)] [iV 0, uV 0] h18 fun w19 h20 => ?_
 refine yB0 [] [4] [(5, iV 2)] (.mk ?_)
 refine yK [(4, pV r4), (5, iV 2)] fun lr21 => ?_
 refine yRt ?_
 repeat (first | simp only [Exit.inBlock] | simp only [Exit.then])
 have h22 := tk5 (sf4 (sf3 (sf3 (sf4 (sf4 h20)))))
 have h23 := tk2 (sf1 (sf4 h22))
 refine hi_out [iV 0, uV 0] (.tuple #[.agg #[iV 0, uV 0], iV 2]) [(⟨r4, 0, none⟩, iV 0), (⟨r4, 1, none⟩, uV 0)] (by kernel_rfl) (allq ⟨sat_cell h20 0 rfl rfl, sat_cell h20 0 rfl rfl, trivial⟩) ?_
 exact ⟨.tuple #[.agg #[iV 0, uV 0], iV 2], [Tab b n A E RL], rfl, ⟨rfl, rfl⟩, h23⟩

set_option maxHeartbeats 4000000 in
theorem thnd_none (b n : Nat) (A : List Sl2) (E : Tm) (RL : List Rs) (x y z : Int) (hz0 : 0 ≤ z) (hz1 : z ≤ 4294967295) (ho : 1 ≤ x ∧ x ≤ 3 ∧ 0 ≤ y ∧ y ≤ 255 ∧ 1 ≤ z) (hg_ : gget E y = none) : HT Try.prog 26 [Value.pointer (some ⟨b, 0, none⟩), Value.agg #[Value.int IntKind.i64 x, Value.int IntKind.i64 y, Value.int IntKind.u32 z]] [Tab b n A E RL] (fun v K => v = Value.tuple #[Value.agg #[Value.int IntKind.i64 0, Value.int IntKind.u32 0], Value.int IntKind.i64 7] ∧ K = [Tab b n A E RL]) := by
 refine hi_in 17 ([(0, pV b), (1, .agg #[iV x, iV y, uV z])] : Fr) Try.func26 (by kernel_rfl) Try.ntmps26 rfl rfl ?_
 intro g w0 R h0
 refine ySq ?_
 refine yPl [0, 1, 2] ?_
 refine yA ?_
 refine yNp 3 28 [iV x, iV y, uV z] h0 fun r1 w2 h3 => ?_
 refine yA ?_
 refine yNp 4 34 [iV 0, uV 0] h3 fun r4 w5 h6 => ?_
 refine yB0 [] [2] [(5, iV 0)] (.mk ?_)
 refine yK [(0, pV b), (3, pV r1), (4, pV r4)] fun lr7 => ?_
 refine ySq ?_
 refine yPl [0, 1, 2, 3, 4, 5, 6, 7, 8] ?_
 refine yBb [2, 3, 4, 5, 6, 7, 8] [(10, .agg #[iV x, iV y, uV z]), (9, pV b)] [e0 0, e2 1 [iV x, iV y, uV z]] [(1, ⟨r1, 0, none⟩, iV x), (1, ⟨r1, 1, none⟩, iV y), (1, ⟨r1, 2, none⟩, uV z)] [] trivial (kC (sat_cell h6 1 rfl rfl) (kC (sat_cell h6 1 rfl rfl) (kC (sat_cell h6 1 rfl rfl) nC))) ?_
 have h8 := tk4 (sf3 (sf2 (sf2 (sf3 h6))))
 refine yA ?_
 refine yCl 11 Try.call44 (tfind_none b n A E RL x y z (by omega) (by omega) (by omega) hg_) h8 ?_
 rintro v K w9 (⟨rfl, rfl⟩) h10
 refine ⟨_, rfl, ?_⟩
 have h11 := ap1 h10
 refine yB0 [6, 7, 8] [3, 4, 5] [(13, iV 7), (12, .agg #[iV 0, iV 0, uV 0, iV 0, iV 0, uV 0]), (8, .tuple #[.agg #[iV 0, iV 0, uV 0, iV 0, iV 0, uV 0], iV 7])] ?_
 refine yA ?_
 refine yNp 6 90 [iV 0, iV 0, uV 0, iV 0, iV 0, uV 0] h11 fun r12 w13 h14 => ?_
 refine yA ?_
 refine yS [(0, iV 0), (1, iV 0), (2, uV 0), (3, iV 0), (4, iV 0), (5, uV 0)] [iV 0, iV 0, uV 0, iV 0, iV 0, uV 0] h14 fun w15 h16 => ?_
 refine yB0 [] [8] [(7, iV 7)] (.mk ?_)
 refine yK [(4, pV r4), (6, pV r12), (7, iV 7)] fun lr17 => ?_
 refine ySq ?_
 refine yPl [0, 1, 2, 3, 4] ?_
 refine yBb [3, 4] [(16, iV 7), (15, .agg #[iV 0, uV 0]), (14, .pointer (some ⟨r12, 4, none⟩))] [e0 0, e2 1 [iV 0, uV 0], e0 2] [(1, ⟨r12, 4, none⟩, iV 0), (1, ⟨r12, 5, none⟩, uV 0)] [] trivial (kC (sat_cell h16 0 rfl rfl) (kC (sat_cell h16 0 rfl rfl) nC)) ?_
 have h18 := tk5 (sf4 (sf3 (sf3 (sf4 (sf4 h16)))))
 refine yA ?_
 refine yS [(0, iV 0), (1, uV 0)] [iV 0, uV 0] h18 fun w19 h20 => ?_
 refine yB0 [] [4] [(5, iV 7)] (.mk ?_)
 refine yK [(4, pV r4), (5, iV 7)] fun lr21 => ?_
 refine yRt ?_
 repeat (first | simp only [Exit.inBlock] | simp only [Exit.then])
 have h22 := tk5 (sf4 (sf3 (sf3 (sf4 (sf4 h20)))))
 have h23 := tk2 (sf1 (sf4 h22))
 refine hi_out [iV 0, uV 0] (.tuple #[.agg #[iV 0, uV 0], iV 7]) [(⟨r4, 0, none⟩, iV 0), (⟨r4, 1, none⟩, uV 0)] (by kernel_rfl) (allq ⟨sat_cell h20 0 rfl rfl, sat_cell h20 0 rfl rfl, trivial⟩) ?_
 exact ⟨.tuple #[.agg #[iV 0, uV 0], iV 7], [Tab b n A E RL], rfl, ⟨rfl, rfl⟩, h23⟩

set_option maxHeartbeats 4000000 in
theorem thnd_ok (b n : Nat) (A : List Sl2) (E : Tm) (RL : List Rs) (x y z : Int) (e : Ety) (hz0 : 0 ≤ z) (hz1 : z ≤ 4294967295) (ho : 1 ≤ x ∧ x ≤ 3 ∧ 0 ≤ y ∧ y ≤ 255 ∧ 1 ≤ z) (hg_ : gget E y = some e) (hd_ : e.d.1 = x ∧ e.d.2.1 = y ∧ e.d.2.2 = z) : HT Try.prog 26 [Value.pointer (some ⟨b, 0, none⟩), Value.agg #[Value.int IntKind.i64 x, Value.int IntKind.i64 y, Value.int IntKind.u32 z]] [Tab b n A E RL] (fun v K => v = Value.tuple #[Value.agg #[Value.int IntKind.i64 e.h.1, Value.int IntKind.u32 e.h.2], Value.int IntKind.i64 0] ∧ K = [Tab b n A E RL]) := by
 refine hi_in 17 ([(0, pV b), (1, .agg #[iV x, iV y, uV z])] : Fr) Try.func26 (by kernel_rfl) Try.ntmps26 rfl rfl ?_
 intro g w0 R h0
 refine ySq ?_
 refine yPl [0, 1, 2] ?_
 refine yA ?_
 refine yNp 3 28 [iV x, iV y, uV z] h0 fun r1 w2 h3 => ?_
 refine yA ?_
 refine yNp 4 34 [iV 0, uV 0] h3 fun r4 w5 h6 => ?_
 refine yB0 [] [2] [(5, iV 0)] (.mk ?_)
 refine yK [(0, pV b), (3, pV r1), (4, pV r4)] fun lr7 => ?_
 refine ySq ?_
 refine yPl [0, 1, 2, 3, 4, 5, 6, 7, 8] ?_
 refine yBb [2, 3, 4, 5, 6, 7, 8] [(10, .agg #[iV x, iV y, uV z]), (9, pV b)] [e0 0, e2 1 [iV x, iV y, uV z]] [(1, ⟨r1, 0, none⟩, iV x), (1, ⟨r1, 1, none⟩, iV y), (1, ⟨r1, 2, none⟩, uV z)] [] trivial (kC (sat_cell h6 1 rfl rfl) (kC (sat_cell h6 1 rfl rfl) (kC (sat_cell h6 1 rfl rfl) nC))) ?_
 have h8 := tk4 (sf3 (sf2 (sf2 (sf3 h6))))
 refine yA ?_
 refine yCl 11 Try.call44 (tfind_ok b n A E RL x y z e (by omega) (by omega) (by omega) hg_ (by omega)) h8 ?_
 rintro v K w9 (⟨rfl, rfl⟩) h10
 refine ⟨_, rfl, ?_⟩
 have h11 := ap1 h10
 refine yB0 [6, 7, 8] [3, 4, 5] [(13, iV 0), (12, .agg #[iV e.d.1, iV e.d.2.1, uV e.d.2.2, iV e.num, iV e.h.1, uV e.h.2]), (8, .tuple #[.agg #[iV e.d.1, iV e.d.2.1, uV e.d.2.2, iV e.num, iV e.h.1, uV e.h.2], iV 0])] ?_
 refine yA ?_
 refine yNp 6 90 [iV 0, iV 0, uV 0, iV 0, iV 0, uV 0] h11 fun r12 w13 h14 => ?_
 refine yA ?_
 refine yS [(0, iV e.d.1), (1, iV e.d.2.1), (2, uV e.d.2.2), (3, iV e.num), (4, iV e.h.1), (5, uV e.h.2)] [iV e.d.1, iV e.d.2.1, uV e.d.2.2, iV e.num, iV e.h.1, uV e.h.2] h14 fun w15 h16 => ?_
 refine yB0 [] [8] [(7, iV 0)] (.mk ?_)
 refine yK [(4, pV r4), (6, pV r12), (7, iV 0)] fun lr17 => ?_
 refine ySq ?_
 refine yPl [0, 1, 2, 3, 4] ?_
 refine yBb [3, 4] [(16, iV 0), (15, .agg #[iV e.h.1, uV e.h.2]), (14, .pointer (some ⟨r12, 4, none⟩))] [e0 0, e2 1 [iV e.h.1, uV e.h.2], e0 2] [(1, ⟨r12, 4, none⟩, iV e.h.1), (1, ⟨r12, 5, none⟩, uV e.h.2)] [] trivial (kC (sat_cell h16 0 rfl rfl) (kC (sat_cell h16 0 rfl rfl) nC)) ?_
 have h18 := tk5 (sf4 (sf3 (sf3 (sf4 (sf4 h16)))))
 refine yA ?_
 refine yS [(0, iV e.h.1), (1, uV e.h.2)] [iV e.h.1, uV e.h.2] h18 fun w19 h20 => ?_
 refine yB0 [] [4] [(5, iV 0)] (.mk ?_)
 refine yK [(4, pV r4), (5, iV 0)] fun lr21 => ?_
 refine yRt ?_
 repeat (first | simp only [Exit.inBlock] | simp only [Exit.then])
 have h22 := tk5 (sf4 (sf3 (sf3 (sf4 (sf4 h20)))))
 have h23 := tk2 (sf1 (sf4 h22))
 refine hi_out [iV e.h.1, uV e.h.2] (.tuple #[.agg #[iV e.h.1, uV e.h.2], iV 0]) [(⟨r4, 0, none⟩, iV e.h.1), (⟨r4, 1, none⟩, uV e.h.2)] (by kernel_rfl) (allq ⟨sat_cell h20 0 rfl rfl, sat_cell h20 0 rfl rfl, trivial⟩) ?_
 exact ⟨.tuple #[.agg #[iV e.h.1, uV e.h.2], iV 0], [Tab b n A E RL], rfl, ⟨rfl, rfl⟩, h23⟩

set_option maxHeartbeats 4000000 in
theorem thnd_diff (b n : Nat) (A : List Sl2) (E : Tm) (RL : List Rs) (x y z : Int) (e : Ety) (hz0 : 0 ≤ z) (hz1 : z ≤ 4294967295) (ho : 1 ≤ x ∧ x ≤ 3 ∧ 0 ≤ y ∧ y ≤ 255 ∧ 1 ≤ z) (hg_ : gget E y = some e) (hd_ : ¬ (e.d.1 = x ∧ e.d.2.1 = y ∧ e.d.2.2 = z)) : HT Try.prog 26 [Value.pointer (some ⟨b, 0, none⟩), Value.agg #[Value.int IntKind.i64 x, Value.int IntKind.i64 y, Value.int IntKind.u32 z]] [Tab b n A E RL] (fun v K => v = Value.tuple #[Value.agg #[Value.int IntKind.i64 0, Value.int IntKind.u32 0], Value.int IntKind.i64 7] ∧ K = [Tab b n A E RL]) := by
 refine hi_in 17 ([(0, pV b), (1, .agg #[iV x, iV y, uV z])] : Fr) Try.func26 (by kernel_rfl) Try.ntmps26 rfl rfl ?_
 intro g w0 R h0
 refine ySq ?_
 refine yPl [0, 1, 2] ?_
 refine yA ?_
 refine yNp 3 28 [iV x, iV y, uV z] h0 fun r1 w2 h3 => ?_
 refine yA ?_
 refine yNp 4 34 [iV 0, uV 0] h3 fun r4 w5 h6 => ?_
 refine yB0 [] [2] [(5, iV 0)] (.mk ?_)
 refine yK [(0, pV b), (3, pV r1), (4, pV r4)] fun lr7 => ?_
 refine ySq ?_
 refine yPl [0, 1, 2, 3, 4, 5, 6, 7, 8] ?_
 refine yBb [2, 3, 4, 5, 6, 7, 8] [(10, .agg #[iV x, iV y, uV z]), (9, pV b)] [e0 0, e2 1 [iV x, iV y, uV z]] [(1, ⟨r1, 0, none⟩, iV x), (1, ⟨r1, 1, none⟩, iV y), (1, ⟨r1, 2, none⟩, uV z)] [] trivial (kC (sat_cell h6 1 rfl rfl) (kC (sat_cell h6 1 rfl rfl) (kC (sat_cell h6 1 rfl rfl) nC))) ?_
 have h8 := tk4 (sf3 (sf2 (sf2 (sf3 h6))))
 refine yA ?_
 refine yCl 11 Try.call44 (tfind_diff b n A E RL x y z e (by omega) (by omega) (by omega) hg_ (by omega)) h8 ?_
 rintro v K w9 (⟨rfl, rfl⟩) h10
 refine ⟨_, rfl, ?_⟩
 have h11 := ap1 h10
 refine yB0 [6, 7, 8] [3, 4, 5] [(13, iV 7), (12, .agg #[iV 0, iV 0, uV 0, iV 0, iV 0, uV 0]), (8, .tuple #[.agg #[iV 0, iV 0, uV 0, iV 0, iV 0, uV 0], iV 7])] ?_
 refine yA ?_
 refine yNp 6 90 [iV 0, iV 0, uV 0, iV 0, iV 0, uV 0] h11 fun r12 w13 h14 => ?_
 refine yA ?_
 refine yS [(0, iV 0), (1, iV 0), (2, uV 0), (3, iV 0), (4, iV 0), (5, uV 0)] [iV 0, iV 0, uV 0, iV 0, iV 0, uV 0] h14 fun w15 h16 => ?_
 refine yB0 [] [8] [(7, iV 7)] (.mk ?_)
 refine yK [(4, pV r4), (6, pV r12), (7, iV 7)] fun lr17 => ?_
 refine ySq ?_
 refine yPl [0, 1, 2, 3, 4] ?_
 refine yBb [3, 4] [(16, iV 7), (15, .agg #[iV 0, uV 0]), (14, .pointer (some ⟨r12, 4, none⟩))] [e0 0, e2 1 [iV 0, uV 0], e0 2] [(1, ⟨r12, 4, none⟩, iV 0), (1, ⟨r12, 5, none⟩, uV 0)] [] trivial (kC (sat_cell h16 0 rfl rfl) (kC (sat_cell h16 0 rfl rfl) nC)) ?_
 have h18 := tk5 (sf4 (sf3 (sf3 (sf4 (sf4 h16)))))
 refine yA ?_
 refine yS [(0, iV 0), (1, uV 0)] [iV 0, uV 0] h18 fun w19 h20 => ?_
 refine yB0 [] [4] [(5, iV 7)] (.mk ?_)
 refine yK [(4, pV r4), (5, iV 7)] fun lr21 => ?_
 refine yRt ?_
 repeat (first | simp only [Exit.inBlock] | simp only [Exit.then])
 have h22 := tk5 (sf4 (sf3 (sf3 (sf4 (sf4 h20)))))
 have h23 := tk2 (sf1 (sf4 h22))
 refine hi_out [iV 0, uV 0] (.tuple #[.agg #[iV 0, uV 0], iV 7]) [(⟨r4, 0, none⟩, iV 0), (⟨r4, 1, none⟩, uV 0)] (by kernel_rfl) (allq ⟨sat_cell h20 0 rfl rfl, sat_cell h20 0 rfl rfl, trivial⟩) ?_
 exact ⟨.tuple #[.agg #[iV 0, uV 0], iV 7], [Tab b n A E RL], rfl, ⟨rfl, rfl⟩, h23⟩

end Go.Proofs.Ytjjpmehiolejgaa
