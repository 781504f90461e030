/-
  The entries of a table of resources, as plain functions. No program in sight.
-/
import Derived.Test.YtehlamblpekmkaaGreatDoorBundle23
import Derived.Test.YtehlamblpekmkaaGreatDoorMpg
import Derived.Test.YtehlamblpekmkaaGreatDoorRf2
import Derived.Test.YtehlamblpekmkaaGreatDoorFdsP
import Derived.Test.YtehlamblpekmkaaGreatDoorBundle20
namespace Go.Proofs.YtehlamblpekmkaaGreatDoor
set_option maxHeartbeats 4000000
structure Ety where
  d : Ky
  num : Int
  h : Int × Int
def vE (e : Ety) : Value := .agg #[.int .i64 e.d.1, .int .i64 e.d.2.1, .int .u32 e.d.2.2, .int .i64 e.num, .int .i64 e.h.1, .int .u32 e.h.2]
abbrev Tm := List (Int × Ety)
def KN (E : Tm) : Prop := (E.map (·.1)).Nodup
def Meq (E0 E : Tm) : Prop := KN E0 ∧ KN E ∧ ∀ k : Int, gget E0 k = gget E k
theorem gget_none {E : Tm} {k : Int} : gget E k = none ↔ k ∉ E.map (·.1) := by
  induction E with
  | nil => simp [gget]
  | cons q E ih =>
    obtain ⟨a, v⟩ := q
    simp only [gget, List.map_cons, List.mem_cons, not_or]
    split
    · rename_i h
      subst h
      simp
    · rename_i h
      rw [ih]
      exact ⟨fun h2 => ⟨h, h2⟩, fun h2 => h2.2⟩
theorem keys_set (E : Tm) (k : Int) (v : Ety) : ∀ a, a ∈ (gset E k v).map (·.1) ↔ a = k ∨ a ∈ E.map (·.1) := by
  induction E with
  | nil => intro a; simp [gset]
  | cons q E ih =>
    intro a
    obtain ⟨b, u⟩ := q
    simp only [gset]
    split
    · rename_i h
      subst h
      simp only [List.map_cons, List.mem_cons]
      constructor
      · rintro (h | h)
        · exact .inl h
        · exact .inr (.inr h)
      · rintro (h | h | h)
        · exact .inl h
        · exact .inl h
        · exact .inr h
    · simp only [List.map_cons, List.mem_cons, ih a]
      constructor
      · rintro (h | h | h)
        · exact .inr (.inl h)
        · exact .inl h
        · exact .inr (.inr h)
      · rintro (h | h | h)
        · exact .inr (.inl h)
        · exact .inl h
        · exact .inr (.inr h)
theorem kn_set {E : Tm} {k : Int} {v : Ety} (h : KN E) : KN (gset E k v) := by
  induction E with
  | nil => exact List.nodup_cons.2 ⟨by simp, List.nodup_nil⟩
  | cons q E ih =>
    obtain ⟨b, u⟩ := q
    have h' : (b :: E.map (·.1)).Nodup := h
    obtain ⟨h1, h2⟩ := List.nodup_cons.1 h'
    unfold KN
    simp only [gset]
    split
    · exact h
    · rename_i hk
      refine List.nodup_cons.2 ⟨fun hm => ?_, ih h2⟩
      rcases (keys_set E k v b).1 hm with h3 | h3
      · exact hk h3.symm
      · exact h1 h3
theorem del_sub (E : Tm) (k : Int) : ((gdel E k).map (·.1)).Sublist (E.map (·.1)) := by
  induction E with
  | nil => exact List.Sublist.refl _
  | cons q E ih =>
    obtain ⟨b, u⟩ := q
    simp only [gdel]
    split
    · exact List.sublist_cons_self _ _
    · exact List.Sublist.cons_cons _ ih
theorem kn_del {E : Tm} {k : Int} (h : KN E) : KN (gdel E k) := List.Nodup.sublist (del_sub E k) h
theorem gget_del_self {E : Tm} {k : Int} (h : KN E) : gget (gdel E k) k = none := by
  induction E with
  | nil => rfl
  | cons q E ih =>
    obtain ⟨b, u⟩ := q
    have h' : (b :: E.map (·.1)).Nodup := h
    obtain ⟨h1, h2⟩ := List.nodup_cons.1 h'
    simp only [gdel]
    split
    · rename_i hk
      subst hk
      exact gget_none.2 h1
    · rename_i hk
      simp only [gget]
      rw [if_neg hk]
      exact ih h2
theorem meq_refl {E : Tm} (h : KN E) : Meq E E := ⟨h, h, fun _ => rfl⟩
theorem meq_set {E0 E : Tm} (h : Meq E0 E) (k : Int) (v : Ety) : Meq (gset E0 k v) (gset E k v) := ⟨kn_set h.1, kn_set h.2.1, fun a => by rw [gget_set, gget_set, h.2.2]⟩
theorem meq_del {E0 E : Tm} (h : Meq E0 E) (k : Int) : Meq (gdel E0 k) (gdel E k) := ⟨kn_del h.1, kn_del h.2.1, fun a => by
  by_cases ha : a = k
  · subst ha
    rw [gget_del_self h.1, gget_del_self h.2.1]
  · rw [gget_del ha, gget_del ha, h.2.2]⟩
def someE (E : Tm) (k : Nat) : List Ety := (List.range k).filterMap fun j : Nat => gget E (j : Int)
def allE (E : Tm) : List Ety := someE E 256
theorem someE_go {E : Tm} {k : Nat} {e : Ety} (h : gget E (k : Int) = some e) : someE E (k + 1) = someE E k ++ [e] := by
  unfold someE
  rw [List.range_succ, List.filterMap_append]
  simp [h]
theorem someE_no {E : Tm} {k : Nat} (h : gget E (k : Int) = none) : someE E (k + 1) = someE E k := by
  unfold someE
  rw [List.range_succ, List.filterMap_append]
  simp [h]
theorem someE_pre {E : Tm} {k m : Nat} (h : k ≤ m) : ∃ T, someE E m = someE E k ++ T := by
  obtain ⟨d, rfl⟩ : ∃ d, m = k + d := ⟨m - k, by omega⟩
  induction d with
  | zero => exact ⟨[], by simp⟩
  | succ d ih =>
    obtain ⟨T, hT⟩ := ih (by omega)
    cases hg : gget E ((k + d : Nat) : Int) with
    | none => exact ⟨T, by rw [← Nat.add_assoc, someE_no hg, hT]⟩
    | some e => exact ⟨T ++ [e], by rw [← Nat.add_assoc, someE_go hg, hT, List.append_assoc]⟩
theorem allE_at {E : Tm} {k : Nat} {e : Ety} (h : gget E (k : Int) = some e) (hk : k < 256) : (allE E)[(someE E k).length]? = some e := by
  obtain ⟨T, hT⟩ := someE_pre (E := E) (k := k + 1) (m := 256) hk
  unfold allE
  rw [hT, someE_go h, List.append_assoc, List.getElem?_append_right (Nat.le_refl _), Nat.sub_self]
  rfl
theorem cntE_go {E : Tm} {k : Nat} {e : Ety} (h : gget E (k : Int) = some e) : (someE E (k + 1)).length = (someE E k).length + 1 := by rw [someE_go h, List.length_append]; rfl
theorem cntE_no {E : Tm} {k : Nat} (h : gget E (k : Int) = none) : (someE E (k + 1)).length = (someE E k).length := by rw [someE_no h]
theorem cntE_le (E : Tm) : ∀ k, (someE E k).length ≤ k
  | 0 => Nat.le_refl _
  | k + 1 => by
    have := cntE_le E k
    cases hg : gget E (k : Int) with
    | none => rw [cntE_no hg]; omega
    | some e => rw [cntE_go hg]; omega
def noE : Ety := ⟨(0, 0, 0), 0, (0, 0)⟩
theorem getD_mem {α : Type} {L : List α} {i : Nat} {d : α} (h : i < L.length) : L.getD i d ∈ L := by
  rw [getD_some (List.getElem?_eq_getElem h)]
  exact List.getElem_mem h
theorem getD_all {α : Type} {L : List α} {d : α} {P : α → Prop} (h : ∀ j : Nat, j < L.length → P (L.getD j d)) : ∀ e ∈ L, P e := fun e he => by
  obtain ⟨j, hj⟩ := List.getElem?_of_mem he
  have := h j (List.getElem?_eq_some_iff.1 hj).1
  rw [getD_some hj] at this
  exact this
theorem upto_go {P : Nat → Prop} {i : Nat} (h : ∀ j : Nat, j < i → P j) (hi : P i) : ∀ j : Nat, j < i + 1 → P j := fun j hj => by
  rcases Nat.lt_succ_iff_lt_or_eq.1 hj with h1 | rfl
  · exact h j h1
  · exact hi
theorem ne_pair {p : Int × Int} {a b : Int} (h : ¬ (p.1 = a ∧ p.2 = b)) : p ≠ (a, b) := by
  rintro rfl
  exact h ⟨rfl, rfl⟩
def descT (E : Tm) (v : Int) (i : Nat) : List Ky := ((allE E).take i).filterMap fun e => if e.num = v then some e.d else none
def descs (E : Tm) (v : Int) : List Ky := (allE E).filterMap fun e => if e.num = v then some e.d else none
theorem descT_all (E : Tm) (v : Int) : descT E v (allE E).length = descs E v := by unfold descT descs; rw [List.take_length]
theorem descT_go {E : Tm} {v : Int} {i : Nat} (hi : i < (allE E).length) (h : ((allE E).getD i noE).num = v) : descT E v i ++ [((allE E).getD i noE).d] = descT E v (i + 1) := by
  unfold descT
  rw [← take_getD (d := noE) hi, List.filterMap_append]
  simp only [List.filterMap_cons, List.filterMap_nil, if_pos h]
theorem descT_no {E : Tm} {v : Int} {i : Nat} (hi : i < (allE E).length) (h : ((allE E).getD i noE).num ≠ v) : descT E v i = descT E v (i + 1) := by
  unfold descT
  rw [← take_getD (d := noE) hi, List.filterMap_append]
  simp only [List.filterMap_cons, List.filterMap_nil, if_neg h, List.append_nil]
end Go.Proofs.YtehlamblpekmkaaGreatDoor

/- Walks, printed by my generator P:../tab/gen9.py. -/
namespace Go.Proofs.YtehlamblpekmkaaGreatDoor
set_option maxHeartbeats 4000000
def Tab (b n : Nat) (A : List Sl2) (E : Tm) (R : List Rs) : Assn := fun h => ∃ x : Nat × Nat × Option Addr × Nat × Tm, (Meq x.2.2.2.2 E ∧ R.length ≤ 2000) ∧
  star [Cl b [.pointer (some ⟨x.1, 0, none⟩), .map (some x.2.1), .slice x.2.2.1 R.length x.2.2.2.1] 35, Tb x.1 n A, Gp kI vE x.2.1 x.2.2.2.2, Sl 82 8 x.2.2.1 R.length x.2.2.2.1 (fl eRs R)] h
section
variable {g w : World} {L : List Assn} {b n : Nat} {A : List Sl2} {E : Tm} {R : List Rs}
theorem tab_open (h : sat g w (Tab b n A E R :: L)) : ∃ s m p c E0, (Meq E0 E ∧ R.length ≤ 2000) ∧ sat g w (Cl b [.pointer (some ⟨s, 0, none⟩), .map (some m), .slice p R.length c] 35 :: Tb s n A :: Gp kI vE m E0 :: Sl 82 8 p R.length c (fl eRs R) :: L) := by
  obtain ⟨⟨s, m, p, c, E0⟩, h1, h2⟩ := sat_open (X := Nat × Nat × Option Addr × Nat × Tm) (p := fun x => Meq x.2.2.2.2 E ∧ R.length ≤ 2000) (B := fun x => star [Cl b [.pointer (some ⟨x.1, 0, none⟩), .map (some x.2.1), .slice x.2.2.1 R.length x.2.2.2.1] 35, Tb x.1 n A, Gp kI vE x.2.1 x.2.2.2.2, Sl 82 8 x.2.2.1 R.length x.2.2.2.1 (fl eRs R)]) h (fun k hk => hk)
  exact ⟨s, m, p, c, E0, h1, sat_unstar h2⟩
theorem tab_close {s m c k : Nat} {p : Option Addr} {E0 : Tm} (h1 : Meq E0 E) (h2 : R.length ≤ 2000) (hk : k = R.length) (h : sat g w (Cl b [.pointer (some ⟨s, 0, none⟩), .map (some m), .slice p k c] 35 :: Tb s n A :: Gp kI vE m E0 :: Sl 82 8 p k c (fl eRs R) :: L)) : sat g w (Tab b n A E R :: L) := by
  subst hk
  exact sat_imp (sat_star (K := [Cl b [.pointer (some ⟨s, 0, none⟩), .map (some m), .slice p R.length c] 35, Tb s n A, Gp kI vE m E0, Sl 82 8 p R.length c (fl eRs R)]) h) fun k hk => ⟨(s, m, p, c, E0), ⟨h1, h2⟩, hk⟩
end
def TabX (b n : Nat) (A : List Sl2) (E : Tm) (R : List Rs) (p : Option Addr) (k c : Nat) : Assn := fun h => ∃ x : Nat × Nat × Tm, (Meq x.2.2 E ∧ R.length ≤ 2000) ∧
  star [Cl b [.pointer (some ⟨x.1, 0, none⟩), .map (some x.2.1), .slice p k c] 35, Tb x.1 n A, Gp kI vE x.2.1 x.2.2, Sl 82 8 p k c (fl eRs R)] h
section
variable {g w : World} {L : List Assn} {b n k : Nat} {A : List Sl2} {E : Tm} {R : List Rs} {p : Option Addr} {c : Nat}
theorem tabx_open (h : sat g w (TabX b n A E R p k c :: L)) : ∃ s m E0, (Meq E0 E ∧ R.length ≤ 2000) ∧ sat g w (Cl b [.pointer (some ⟨s, 0, none⟩), .map (some m), .slice p k c] 35 :: Tb s n A :: Gp kI vE m E0 :: Sl 82 8 p k c (fl eRs R) :: L) := by
  obtain ⟨⟨s, m, E0⟩, h1, h2⟩ := sat_open (X := Nat × Nat × Tm) (p := fun x => Meq x.2.2 E ∧ R.length ≤ 2000) (B := fun x => star [Cl b [.pointer (some ⟨x.1, 0, none⟩), .map (some x.2.1), .slice p k c] 35, Tb x.1 n A, Gp kI vE x.2.1 x.2.2, Sl 82 8 p k c (fl eRs R)]) h (fun k hk => hk)
  exact ⟨s, m, E0, h1, sat_unstar h2⟩
theorem tabx_close {s m : Nat} {E0 : Tm} (h1 : Meq E0 E) (h2 : R.length ≤ 2000) (h : sat g w (Cl b [.pointer (some ⟨s, 0, none⟩), .map (some m), .slice p k c] 35 :: Tb s n A :: Gp kI vE m E0 :: Sl 82 8 p k c (fl eRs R) :: L)) : sat g w (TabX b n A E R p k c :: L) :=
  sat_imp (sat_star (K := [Cl b [.pointer (some ⟨s, 0, none⟩), .map (some m), .slice p k c] 35, Tb s n A, Gp kI vE m E0, Sl 82 8 p k c (fl eRs R)]) h) fun k hk => ⟨(s, m, E0), ⟨h1, h2⟩, hk⟩
end
theorem kyI : KyOk Tryz.prog 3 kI := kyInt Tryz.underlying3
theorem tvalid_ht (b n : Nat) (A : List Sl2) (E : Tm) (RL : List Rs) : HT Tryz.prog 121 [pV b] [Tab b n A E RL] (fun v K => v = .bool true ∧ K = [Tab b n A E RL]) := by
 refine hiS Tryz.func121 Tryz.ntmps121 fun g w0 R h0 => ?_
 obtain ⟨s10, m11, p12, c13, E14, hM15, h16⟩ := tab_open h0
 have hRl_ := hM15.2
 refine go [rd 1 6 0 1 1 h16] ?_
 have h17 : sat g w0 [Tab b n A E RL, R] := tab_close hM15.1 (by omega) (by first | rfl | omega) h16
 exact en (.bool true) [] ⟨_, _, rfl, ⟨rfl, rfl⟩, h17⟩

theorem obj_t (i gn : Int) (h : 0 ≤ i ∧ i ≤ 255 ∧ 1 ≤ gn) : HT Tryz.prog 139 [.agg #[iV i, uV gn]] [] (fun v K => v = .bool true ∧ K = []) := by
 refine hiS Tryz.func139 Tryz.ntmps139 fun g w0 R h0 => go [] <| nP 148 [iV i, uV gn] h0 (fun _ _ h12 => ?_)
 refine go [rd 1 1 0 0 1 h12, .v 1 2 (oT (i ≥ 0)), rd 1 5 0 0 1 h12, .v 1 6 (oT (i < 256)), rd 1 10 0 1 1 h12, .v 1 11 (oT (gn > 0))] ?_
 exact en (.bool true) [] ⟨_, _, rfl, ⟨rfl, rfl⟩, (tk1 (sf1 h12))⟩

theorem obj_f (i gn : Int) (h : i < 0 ∨ 255 < i ∨ gn ≤ 0) : HT Tryz.prog 139 [.agg #[iV i, uV gn]] [] (fun v K => v = .bool false ∧ K = []) := by
 refine hiS Tryz.func139 Tryz.ntmps139 fun g w0 R h0 => go [] <| nP 148 [iV i, uV gn] h0 (fun _ _ h12 => ?_)
 refine go [rd 1 1 0 0 1 h12, .s 1 2] ?_
 by_cases c13 : i ≥ 0
 ·
  refine go [.v 1 2 (oT (i ≥ 0)), rd 1 5 0 0 1 h12, .s 1 6] ?_
  by_cases c14 : i < 256
  ·
   refine go [.v 1 6 (oT (i < 256)), rd 1 10 0 1 1 h12, .v 1 11 (oF (gn > 0))] ?_
   exact en (.bool false) [] ⟨_, _, rfl, ⟨rfl, rfl⟩, (tk1 (sf1 h12))⟩
  refine go [.v 1 6 (oF (i < 256))] ?_
  exact en (.bool false) [] ⟨_, _, rfl, ⟨rfl, rfl⟩, (tk1 (sf1 h12))⟩
 refine go [.v 1 2 (oF (i ≥ 0))] ?_
 exact en (.bool false) [] ⟨_, _, rfl, ⟨rfl, rfl⟩, (tk1 (sf1 h12))⟩

theorem tall1_ht (b : Nat) : HT Tryz.prog 196 [pV b] [] (fun v K => ∃ c : Nat, v = .func (Fn.func 247) #[] #[pV c] ∧ K = [Cl c [pV b] 25]) := by
 refine hiS Tryz.func196 Tryz.ntmps196 fun g w0 R h0 => go [] <| nP 25 [pV b] h0 (fun r10 _ h12 => ?_)
 refine go [] ?_
 exact en (.func (Fn.func 247) #[] #[pV r10]) [] ⟨_, _, rfl, ⟨r10, rfl, rfl⟩, h12⟩

theorem tall_it (c b n : Nat) (A : List Sl2) (E : Tm) (RL : List Rs) : IT Tryz.prog 247 [Value.pointer (some ⟨c, 0, none⟩)] (((allE E).length)) ((fun i => [vE ((allE E).getD i noE)])) [Cl c [Value.pointer (some ⟨b, 0, none⟩)] 25, Tab b n A E RL] := by
 refine it_in 26 (fun k_ => ([(0, .func (Fn.yield k_) #[] #[]), (1, pV c)] : Fr)) Tryz.func247 (by kernel_rfl) Tryz.ntmps247 rfl (fun _ => rfl) ?_
 intro g w0 R k_ J_ E_ hY h0
 have h1 : sat g w0 [J_ 0, Cl c [pV b] 25, Tab b n A E RL, R] := h0
 change WP _ _ (CA Tryz.f247 []) _ (mk 26 (([(0, .func (Fn.yield k_) #[] #[]), (1, pV c)] : Fr))) _
 refine ySq ?_
 refine yPl [0] ?_
 refine yB0 [] [0] [(6, iV 0)] (.mk ?_)
 refine yK [(0, .func (Fn.yield k_) #[] #[]), (1, pV c), (6, iV 0)] fun lr2 => ?_
 refine yBk 0 ?_
 refine gi_lp (x := CA Tryz.f247 [1, 0, 0]) (by kernel_rfl) (fun mz_ a w => ∃ k : Nat, ∃ lr : Fr, mz_ = 256 - k ∧ (k ≤ 256) ∧ a = mk 26 (([(0, .func (Fn.yield k_) #[] #[]), (1, pV c), (6, iV (k : Int))] : Fr) ++ lr) ∧ sat g w [J_ (((someE E k).length)), Cl c [pV b] 25, Tab b n A E RL, R]) (256 - 0) ⟨0, _, rfl, (Nat.zero_le _), (mk_live [(0, .func (Fn.yield k_) #[] #[]), (1, pV c), (6, iV (0 : Int))] ⟨rfl, rfl, (ov_int (by omega)), trivial⟩), h1⟩ ?_
 rintro m4 a5 w6 ⟨k, lr3, rfl, hk, rfl, h7⟩
 refine ySq ?_
 refine yPl [0] ?_
 by_cases c8 : (k : Int) < 256
 ·
  refine yBb [] [(7, .bool true)] [e1 0 (.bool true)] [] [(.bool (decide ((k : Int) < 256)), .bool true)] ⟨(ov_t (by omega)), trivial⟩ nC (.mk ?_)
  refine yK [(0, .func (Fn.yield k_) #[] #[]), (1, pV c), (6, iV (k : Int)), (7, .bool true)] fun lr9 => ?_
  refine ySq ?_
  refine yCt ?_
  refine ySk ?_
  refine ySq ?_
  refine yBk 1 ?_
  refine ySq ?_
  refine yPl [0, 1] ?_
  refine yB0 [] [0, 1] [(3, iV (k : Int)), (8, iV (k : Int))] (.mk ?_)
  refine yK [(0, .func (Fn.yield k_) #[] #[]), (1, pV c), (3, iV (k : Int)), (6, iV (k : Int))] fun lr10 => ?_
  refine ySq ?_
  refine yPl [0, 1, 2, 3, 4, 5, 6, 7, 8, 9, 10, 11] ?_
  have h11 := tk4 (sf3 (sf2 (sf2 (sf3 h7))))
  obtain ⟨s12, m13, p14, c15, E16, hM17, h18⟩ := tab_open h11
  have hRl_ := hM17.2
  refine yBb [5, 6, 7, 8, 9, 10, 11] [(14, iV (k : Int)), (13, .map (some m13)), (12, .pointer (some ⟨b, 1, none⟩)), (11, pV b), (10, pV b)] [e2 0 [pV b], e0 1, e0 2, e2 3 [.map (some m13)], e0 4] [(3, ⟨b, 1, none⟩, .map (some m13)), (0, ⟨c, 0, none⟩, pV b)] [] trivial (kC (sat_cell h18 0 rfl rfl) (kC (sat_cell h7 1 rfl rfl) nC)) ?_
  rcases hg20 : gget E (k : Int) with _ | e19
  ·
   refine yA ?_
   refine act_law (d := 15) (.tuple #[.agg #[iV 0, iV 0, uV 0, iV 0, iV 0, uV 0], .bool false]) (by kernel_rfl) rfl (law_lookupOk (t := 32) (z := .agg #[iV 0, iV 0, uV 0, iV 0, iV 0, uV 0]) (m := (Operand.tmp 13)) (x := (Operand.tmp 14)) (kv := kI) (ve := vE) (by kernel_rfl) Tryz.underlying32 kyI (by kernel_rfl) (k : Int) (by kernel_rfl) (by kernel_rfl) (j := 2) h18 rfl (.agg #[iV 0, iV 0, uV 0, iV 0, iV 0, uV 0]) false (by rw [hM17.1.2.2 (k : Int), hg20]; exact ⟨rfl, rfl⟩)) ?_
   refine yB0 [9, 10, 11] [6, 7, 8] [(17, .bool false), (16, .agg #[iV 0, iV 0, uV 0, iV 0, iV 0, uV 0]), (9, .tuple #[.agg #[iV 0, iV 0, uV 0, iV 0, iV 0, uV 0], .bool false])] ?_
   refine yA ?_
   refine yNp 4 269 [iV 0, iV 0, uV 0, iV 0, iV 0, uV 0] h18 fun r21 w22 h23 => ?_
   refine yA ?_
   refine yS [(0, iV 0), (1, iV 0), (2, uV 0), (3, iV 0), (4, iV 0), (5, uV 0)] [iV 0, iV 0, uV 0, iV 0, iV 0, uV 0] h23 fun w24 h25 => ?_
   refine yB0 [] [11] [(5, .bool false)] (.mk ?_)
   refine yK [(0, .func (Fn.yield k_) #[] #[]), (1, pV c), (4, pV r21), (5, .bool false), (6, iV (k : Int))] fun lr26 => ?_
   refine ySq ?_
   have h27 := tk8 (sf7 (sf7 (sf7 (sf7 (sf3 (sf7 (sf7 (sf7 h25))))))))
   have h28 : sat g w24 [Tab b n A E RL, Cl r21 [iV 0, iV 0, uV 0, iV 0, iV 0, uV 0] 269, J_ (((someE E k).length)), Cl c [pV b] 25, R] := tab_close hM17.1 (by omega) (by first | rfl | omega) h27
   refine gi_ply (id := 4) (ops := RA Tryz.f247 [1, 0, 0, 1, 1, 0, 0, 1, 1, 0]) [0, 1, 2, 3] [4, 5, 6] (by kernel_rfl) (by kernel_rfl) (by kernel_rfl) ?_
   refine yB0 [] [0, 1, 2, 3] [(21, undef), (20, undef), (19, .bool false), (18, .bool false)] (.mk ?_)
   refine yp_skip (by kernel_rfl) ?_
   refine plain_skip (by kernel_rfl : chkN (RA Tryz.f247 [1, 0, 0, 1, 1, 0, 0, 1, 1, 0]) 26 _ 4 = some (some 22)) rfl ?_
   refine yB0 [] [5, 6] [(24, .bool false), (23, undef)] (.mk ?_)
   refine yK [(0, .func (Fn.yield k_) #[] #[]), (1, pV c), (6, iV (k : Int)), (24, .bool false)] fun lr29 => ?_
   refine yCf ?_
   refine ySk ?_
   refine yPl [0, 1] ?_
   refine yBb [] [(6, iV ((k : Int) + 1)), (25, iV ((k : Int) + 1))] [e1 0 (iV ((k : Int) + 1)), e0 1] [] [(iV (IntKind.wrap .i64 ((k : Int) + 1)), iV ((k : Int) + 1))] ⟨(ov_i64 (by omega) (by omega) (by omega)), trivial⟩ nC (.mk ?_)
   have h30 := tk5 (sf4 (sf3 (sf3 (sf4 (sf4 h28)))))
   have h31 : sat g w24 [J_ (((someE E (k + 1)).length)), Tab b n A E RL, Cl r21 [iV 0, iV 0, uV 0, iV 0, iV 0, uV 0] 269, Cl c [pV b] 25, R] := (show ((someE E k).length) = (someE E (k + 1)).length from (cntE_no hg20).symm) ▸ h30
   have h32 := tk5 (sf4 (sf4 (sf3 (sf4 (sf2 h31)))))
   have h33 := tk4 h32
   change ∃ n', n' < _ ∧ _
   refine ⟨(256 - (k + 1)), by omega, (k + 1), _, rfl, (by omega), (mk_live [(0, .func (Fn.yield k_) #[] #[]), (1, pV c), (6, iV ((((k + 1) : Nat) : Int)))] ⟨rfl, rfl, (ov_int (by omega)), trivial⟩), h33⟩
  ·
   refine yA ?_
   refine act_law (d := 15) (.tuple #[.agg #[iV e19.d.1, iV e19.d.2.1, uV e19.d.2.2, iV e19.num, iV e19.h.1, uV e19.h.2], .bool true]) (by kernel_rfl) rfl (law_lookupOk (t := 32) (z := .agg #[iV 0, iV 0, uV 0, iV 0, iV 0, uV 0]) (m := (Operand.tmp 13)) (x := (Operand.tmp 14)) (kv := kI) (ve := vE) (by kernel_rfl) Tryz.underlying32 kyI (by kernel_rfl) (k : Int) (by kernel_rfl) (by kernel_rfl) (j := 2) h18 rfl (.agg #[iV e19.d.1, iV e19.d.2.1, uV e19.d.2.2, iV e19.num, iV e19.h.1, uV e19.h.2]) true (by rw [hM17.1.2.2 (k : Int), hg20]; exact ⟨rfl, rfl⟩)) ?_
   refine yB0 [9, 10, 11] [6, 7, 8] [(17, .bool true), (16, .agg #[iV e19.d.1, iV e19.d.2.1, uV e19.d.2.2, iV e19.num, iV e19.h.1, uV e19.h.2]), (9, .tuple #[.agg #[iV e19.d.1, iV e19.d.2.1, uV e19.d.2.2, iV e19.num, iV e19.h.1, uV e19.h.2], .bool true])] ?_
   refine yA ?_
   refine yNp 4 269 [iV 0, iV 0, uV 0, iV 0, iV 0, uV 0] h18 fun r34 w35 h36 => ?_
   refine yA ?_
   refine yS [(0, iV e19.d.1), (1, iV e19.d.2.1), (2, uV e19.d.2.2), (3, iV e19.num), (4, iV e19.h.1), (5, uV e19.h.2)] [iV e19.d.1, iV e19.d.2.1, uV e19.d.2.2, iV e19.num, iV e19.h.1, uV e19.h.2] h36 fun w37 h38 => ?_
   refine yB0 [] [11] [(5, .bool true)] (.mk ?_)
   refine yK [(0, .func (Fn.yield k_) #[] #[]), (1, pV c), (4, pV r34), (5, .bool true), (6, iV (k : Int))] fun lr39 => ?_
   refine ySq ?_
   have h40 := tk8 (sf7 (sf7 (sf7 (sf7 (sf3 (sf7 (sf7 (sf7 h38))))))))
   have h41 : sat g w37 [Tab b n A E RL, Cl r34 [iV e19.d.1, iV e19.d.2.1, uV e19.d.2.2, iV e19.num, iV e19.h.1, uV e19.h.2] 269, J_ (((someE E k).length)), Cl c [pV b] 25, R] := tab_close hM17.1 (by omega) (by first | rfl | omega) h40
   refine gi_ply (id := 4) (ops := RA Tryz.f247 [1, 0, 0, 1, 1, 0, 0, 1, 1, 0]) [0, 1, 2, 3] [4, 5, 6] (by kernel_rfl) (by kernel_rfl) (by kernel_rfl) ?_
   refine yBb [] [(21, .agg #[iV e19.d.1, iV e19.d.2.1, uV e19.d.2.2, iV e19.num, iV e19.h.1, uV e19.h.2]), (20, .func (Fn.yield k_) #[] #[]), (19, .bool true), (18, .bool true)] [e0 0, e0 1, e0 2, e2 3 [iV e19.d.1, iV e19.d.2.1, uV e19.d.2.2, iV e19.num, iV e19.h.1, uV e19.h.2]] [(3, ⟨r34, 0, none⟩, iV e19.d.1), (3, ⟨r34, 1, none⟩, iV e19.d.2.1), (3, ⟨r34, 2, none⟩, uV e19.d.2.2), (3, ⟨r34, 3, none⟩, iV e19.num), (3, ⟨r34, 4, none⟩, iV e19.h.1), (3, ⟨r34, 5, none⟩, uV e19.h.2)] [] trivial (kC (sat_cell h41 1 rfl rfl) (kC (sat_cell h41 1 rfl rfl) (kC (sat_cell h41 1 rfl rfl) (kC (sat_cell h41 1 rfl rfl) (kC (sat_cell h41 1 rfl rfl) (kC (sat_cell h41 1 rfl rfl) nC)))))) (.mk ?_)
   have h42 := tk5 (sf4 (sf4 (sf2 (sf2 (sf4 h41)))))
   change YP _ (RA Tryz.f247 [1, 0, 0, 1, 1, 0, 0, 1, 1, 0]) _ [4, 5, 6] (mk 26 (([(21, .agg #[iV e19.d.1, iV e19.d.2.1, uV e19.d.2.2, iV e19.num, iV e19.h.1, uV e19.h.2]), (20, .func (Fn.yield k_) #[] #[]), (19, .bool true), (18, .bool true), (0, .func (Fn.yield k_) #[] #[]), (1, pV c), (4, pV r34), (5, .bool true), (6, iV (k : Int))] : Fr) ++ lr39)) _
   refine yp_yield (d := some 22) (k := k_) (args := [Value.agg #[Value.int IntKind.i64 e19.d.1, Value.int IntKind.i64 e19.d.2.1, Value.int IntKind.u32 e19.d.2.2, Value.int IntKind.i64 e19.num, Value.int IntKind.i64 e19.h.1, Value.int IntKind.u32 e19.h.2]]) (xa := ((fun i => [vE ((allE E).getD i noE)])) (((someE E k).length))) (S1 := fun w => sat g w [J_ (((someE E k).length) + 1), Cl c [Value.pointer (some ⟨b, 0, none⟩)] 25, Tab b n A E RL, Cl r34 [Value.int IntKind.i64 e19.d.1, Value.int IntKind.i64 e19.d.2.1, Value.int IntKind.u32 e19.d.2.2, Value.int IntKind.i64 e19.num, Value.int IntKind.i64 e19.h.1, Value.int IntKind.u32 e19.h.2] 269, R]) (S2 := fun w => sat g w [E_ (((someE E k).length)), Cl r34 [Value.int IntKind.i64 e19.d.1, Value.int IntKind.i64 e19.d.2.1, Value.int IntKind.u32 e19.d.2.2, Value.int IntKind.i64 e19.num, Value.int IntKind.i64 e19.h.1, Value.int IntKind.u32 e19.h.2] 269, R]) (by kernel_rfl) (by kernel_rfl) (by kernel_rfl) ((by show [vE ((allE E).getD (((someE E k).length)) noE)] = _; rw [getD_some (allE_at hg20 (by omega))]; rfl)) (hY (((someE E k).length)) ((List.getElem?_eq_some_iff.1 (allE_at hg20 (by omega))).1) _ [Cl r34 [Value.int IntKind.i64 e19.d.1, Value.int IntKind.i64 e19.d.2.1, Value.int IntKind.u32 e19.d.2.2, Value.int IntKind.i64 e19.num, Value.int IntKind.i64 e19.h.1, Value.int IntKind.u32 e19.h.2] 269, R] h42) ?_ ?_
   ·
    intro w43 h44
    refine ⟨_, rfl, ?_⟩
    have h45 : sat g w43 [J_ (((someE E k).length) + 1), Cl c [pV b] 25, Tab b n A E RL, Cl r34 [iV e19.d.1, iV e19.d.2.1, uV e19.d.2.2, iV e19.num, iV e19.h.1, uV e19.h.2] 269, R] := h44
    have hlt46 := ((List.getElem?_eq_some_iff.1 (allE_at hg20 (by omega))).1 : ((someE E k).length) < ((allE E).length))
    refine yB0 [] [5, 6] [(24, .bool false), (23, .bool false)] (.mk ?_)
    refine yK [(0, .func (Fn.yield k_) #[] #[]), (1, pV c), (6, iV (k : Int)), (24, .bool false)] fun lr47 => ?_
    refine yCf ?_
    refine ySk ?_
    refine yPl [0, 1] ?_
    refine yBb [] [(6, iV ((k : Int) + 1)), (25, iV ((k : Int) + 1))] [e1 0 (iV ((k : Int) + 1)), e0 1] [] [(iV (IntKind.wrap .i64 ((k : Int) + 1)), iV ((k : Int) + 1))] ⟨(ov_i64 (by omega) (by omega) (by omega)), trivial⟩ nC (.mk ?_)
    have h48 : sat g w43 [J_ (((someE E (k + 1)).length)), Cl c [pV b] 25, Tab b n A E RL, Cl r34 [iV e19.d.1, iV e19.d.2.1, uV e19.d.2.2, iV e19.num, iV e19.h.1, uV e19.h.2] 269, R] := (show ((someE E k).length) + 1 = (someE E (k + 1)).length from (cntE_go hg20).symm) ▸ h45
    have h49 := tk5 (sf4 (sf4 (sf4 (sf4 (sf3 h48)))))
    have h50 := tk4 h49
    change ∃ n', n' < _ ∧ _
    refine ⟨(256 - (k + 1)), by omega, (k + 1), _, rfl, (by omega), (mk_live [(0, .func (Fn.yield k_) #[] #[]), (1, pV c), (6, iV ((((k + 1) : Nat) : Int)))] ⟨rfl, rfl, (ov_int (by omega)), trivial⟩), h50⟩
   ·
    intro w51 h52
    refine ⟨_, rfl, ?_⟩
    have h53 : sat g w51 [E_ (((someE E k).length)), Cl r34 [iV e19.d.1, iV e19.d.2.1, uV e19.d.2.2, iV e19.num, iV e19.h.1, uV e19.h.2] 269, R] := h52
    have hlt54 := ((List.getElem?_eq_some_iff.1 (allE_at hg20 (by omega))).1 : ((someE E k).length) < ((allE E).length))
    refine yB0 [] [5, 6] [(24, .bool true), (23, .bool true)] (.mk ?_)
    refine yK [(0, .func (Fn.yield k_) #[] #[]), (1, pV c), (6, iV (k : Int)), (24, .bool true)] fun lr55 => ?_
    refine yCt ?_
    refine yRt ?_
    repeat (first | simp only [Exit.inBlock] | simp only [Exit.then])
    refine hi_out [] (.tuple #[]) [] (by kernel_rfl) (by intro q hq; cases hq) ⟨⟨_, rfl⟩, ?_⟩
    have h56 := tk3 (sf2 (sf2 (sf1 h53)))
    have h57 := tk2 h56
    exact .inr ⟨((someE E k).length), (by omega), h57⟩
 ·
  refine yBb [] [(7, .bool false)] [e1 0 (.bool false)] [] [(.bool (decide ((k : Int) < 256)), .bool false)] ⟨(ov_f (by omega)), trivial⟩ nC (.mk ?_)
  refine yK [(0, .func (Fn.yield k_) #[] #[]), (1, pV c), (6, iV (k : Int)), (7, .bool false)] fun lr58 => ?_
  refine ySq ?_
  refine yCf ?_
  refine yEx 0 ?_
  repeat (first | simp only [Exit.inBlock] | simp only [Exit.then])
  refine hi_outn [] (.tuple #[]) [] (by kernel_rfl) (by intro q hq; cases hq) ⟨⟨_, rfl⟩, ?_⟩
  have he_ : ((someE E k).length) = ((allE E).length) := (by show _ = (someE E 256).length; rw [show k = 256 from by omega])
  exact .inl (he_ ▸ h7)

end Go.Proofs.YtehlamblpekmkaaGreatDoor

/- Walks, printed by my generator P:../tab/gen10.py. -/
namespace Go.Proofs.YtehlamblpekmkaaGreatDoor
set_option maxHeartbeats 4000000
theorem tlen_ht (b n : Nat) (A : List Sl2) (E : Tm) (RL : List Rs) : HT Tryz.prog 64 [pV b] [Tab b n A E RL] (fun v K => v = iV (((RL.length : Nat) : Int)) ∧ K = [Tab b n A E RL]) := by
 refine hiS Tryz.func64 Tryz.ntmps64 fun g w0 R h0 => go [] <| cl1 Tryz.call121 (tvalid_ht b n A E RL) h0 fun w10 h11 => ?_
 obtain ⟨s12, m13, p14, c15, E16, hM17, h18⟩ := tab_open h11
 have hRl_ := hM17.2
 refine go [rd 3 3 0 2 1 h18] ?_
 have h19 : sat g w10 [Tab b n A E RL, R] := tab_close hM17.1 (by omega) (by first | rfl | omega) h18
 exact en (iV (((RL.length : Nat) : Int))) [] ⟨_, _, rfl, ⟨rfl, rfl⟩, h19⟩

theorem tcheck_ok (b n : Nat) (A : List Sl2) (E : Tm) (RL : List Rs) (v : Int) (h : 1 ≤ v ∧ v ≤ (RL.length : Int)) : HT Tryz.prog 110 [pV b, iV v] [Tab b n A E RL] (fun v K => v = iV 0 ∧ K = [Tab b n A E RL]) := by
 refine hiS Tryz.func110 Tryz.ntmps110 fun g w0 R h0 => go [] <| cl1 Tryz.call121 (tvalid_ht b n A E RL) h0 fun w10 h11 => ?_
 obtain ⟨s12, m13, p14, c15, E16, hM17, h18⟩ := tab_open h11
 have hRl_ := hM17.2
 refine go [.v 3 1 (oF (v < 1)), rd 3 7 0 2 1 h18, .v 3 9 (oF (v > ((RL.length : Nat) : Int)))] ?_
 have h19 : sat g w10 [Tab b n A E RL, R] := tab_close hM17.1 (by omega) (by first | rfl | omega) h18
 exact en (iV 0) [] ⟨_, _, rfl, ⟨rfl, rfl⟩, h19⟩

theorem tcheck_no (b n : Nat) (A : List Sl2) (E : Tm) (RL : List Rs) (v : Int) (h : v < 1 ∨ (RL.length : Int) < v) : HT Tryz.prog 110 [pV b, iV v] [Tab b n A E RL] (fun v K => v = iV 3 ∧ K = [Tab b n A E RL]) := by
 refine hiS Tryz.func110 Tryz.ntmps110 fun g w0 R h0 => go [] <| cl1 Tryz.call121 (tvalid_ht b n A E RL) h0 fun w10 h11 => go [.s 3 1] ?_
 by_cases c12 : v < 1
 ·
  refine go [.v 3 1 (oT (v < 1))] ?_
  exact en (iV 3) [] ⟨_, _, rfl, ⟨rfl, rfl⟩, h11⟩
 obtain ⟨s13, m14, p15, c16, E17, hM18, h19⟩ := tab_open h11
 have hRl_ := hM18.2
 refine go [.v 3 1 (oF (v < 1)), rd 3 7 0 2 1 h19, .v 3 9 (oT (v > ((RL.length : Nat) : Int)))] ?_
 have h20 : sat g w10 [Tab b n A E RL, R] := tab_close hM18.1 (by omega) (by first | rfl | omega) h19
 exact en (iV 3) [] ⟨_, _, rfl, ⟨rfl, rfl⟩, h20⟩

end Go.Proofs.YtehlamblpekmkaaGreatDoor

/- Walks, printed by my generator P:../tab/gen11.py. -/
namespace Go.Proofs.YtehlamblpekmkaaGreatDoor
set_option maxHeartbeats 4000000
theorem take_j (b n : Nat) (A : List Sl2) (j : Nat) (gj : Int) (h : (inS 0 A 0)[0]? = some (j, gj)) : HT Tryz.prog 207 [Value.pointer (some ⟨b, 0, none⟩)] [Tb b n A] (fun v K => v = Value.tuple #[Value.agg #[Value.int .i64 (j : Int), Value.int .u32 gj], Value.int .i64 0] ∧ K = [Tb b n (A.set j (1, gj))]) :=
  (take_ht b n A).mono fun v K hP => by
    have hl := (List.getElem?_eq_some_iff.1 h).1
    rw [(take_some hl).1, (take_some hl).2, getD_some h] at hP
    exact hP
theorem tget_no (b n : Nat) (A : List Sl2) (E : Tm) (RL : List Rs) (vn : Int) (h : vn < 1 ∨ (RL.length : Int) < vn) : HT Tryz.prog 45 [pV b, iV vn] [Tab b n A E RL] (fun v K => v = .tuple #[.agg #[iV 0, iV 0, uV 0, iV 0, iV 0, iV 0, iV 0, .string (St [])], iV 3] ∧ K = [Tab b n A E RL]) := by
 refine hiS Tryz.func45 Tryz.ntmps45 fun g w0 R h0 => go [] <| nP 82 [iV 0, iV 0, uV 0, iV 0, iV 0, iV 0, iV 0, .string (St [])] h0 (fun _ _ h12 => ?_)
 refine go [] ?_
 by_cases c13 : 1 ≤ vn
 ·
  refine cl1 Tryz.call110 (tcheck_no b n A E RL vn (by omega)) (tk3 (sf2 (sf1 (sf2 h12)))) fun _ h16 => ?_
  have h17 := tk3 (sf2 (sf1 (sf2 h16)))
  refine go [] <| sP [(0, iV 0), (1, iV 0), (2, uV 0), (3, iV 0), (4, iV 0), (5, iV 0), (6, iV 0), (7, .string (St []))] [iV 0, iV 0, uV 0, iV 0, iV 0, iV 0, iV 0, .string (St [])] h17 fun _ h19 => go [] ?_
  exact en (.tuple #[.agg #[iV 0, iV 0, uV 0, iV 0, iV 0, iV 0, iV 0, .string (St [])], iV 3]) [rd 0 0 0 0 8 h19] ⟨_, _, rfl, ⟨rfl, rfl⟩, (tk2 (sf1 (sf2 (tk3 (sf2 (sf1 (sf2 h19)))))))⟩
 refine cl1 Tryz.call110 (tcheck_no b n A E RL vn (by omega)) (tk3 (sf2 (sf1 (sf2 h12)))) fun _ h24 => ?_
 have h25 := tk3 (sf2 (sf1 (sf2 h24)))
 refine go [] <| sP [(0, iV 0), (1, iV 0), (2, uV 0), (3, iV 0), (4, iV 0), (5, iV 0), (6, iV 0), (7, .string (St []))] [iV 0, iV 0, uV 0, iV 0, iV 0, iV 0, iV 0, .string (St [])] h25 fun _ h27 => go [] ?_
 exact en (.tuple #[.agg #[iV 0, iV 0, uV 0, iV 0, iV 0, iV 0, iV 0, .string (St [])], iV 3]) [rd 0 0 0 0 8 h27] ⟨_, _, rfl, ⟨rfl, rfl⟩, (tk2 (sf1 (sf2 (tk3 (sf2 (sf1 (sf2 h27)))))))⟩

theorem tget_ok (b n : Nat) (A : List Sl2) (E : Tm) (RL : List Rs) (vn : Int) (q : Nat) (r : Rs) (hr : RL[q]? = some r) (hv : vn = (q : Int) + 1) : HT Tryz.prog 45 [pV b, iV vn] [Tab b n A E RL] (fun v K => v = .tuple #[.agg #[iV r.out.1, iV r.out.2.1, uV r.out.2.2, iV r.st, iV r.why, iV r.tr, iV r.nx, .string (St r.tag)], iV 0] ∧ K = [Tab b n A E RL]) := by
 refine hiS Tryz.func45 Tryz.ntmps45 fun g w0 R h0 => ?_
 have hq_ := (List.getElem?_eq_some_iff.1 hr).1
 refine go [] <| nP 82 [iV 0, iV 0, uV 0, iV 0, iV 0, iV 0, iV 0, .string (St [])] h0 (fun r10 _ h12 => ?_)
 have h13 := tk3 (sf2 (sf1 (sf2 h12)))
 refine go [] <| cl1 Tryz.call110 (tcheck_ok b n A E RL vn (by omega)) h13 fun _ h15 => ?_
 obtain ⟨s16, m17, p18, c19, E20, hM21, h22⟩ := tab_open h15
 have hRl_ := hM21.2
 obtain ⟨b23, hp24⟩ := sl_ptr0 (j := 3) h22 rfl (by omega)
 refine go [rd 4 3 0 2 1 h22, .v 4 5 (oIr (vn - 1)), .s 4 6] <| lwP (.pointer (some ⟨b23, q * 8, none⟩)) (law_indexSlP (x := (Operand.tmp 17)) (i := (Operand.tmp 19)) (p := p18) (b := b23) (off := 0) (z := (vn - 1)) (len := RL.length) (cap := c19) (by kernel_rfl) Tryz.underlying33 8 (by kernel_rfl) q (by kernel_rfl) hp24 (by kernel_rfl) (by omega) (by omega) (q * 8) (by omega) _) ?_
 have h25 := tk6 (sf5 (sf4 (sf4 (sf4 (sf5 (sf5 h22))))))
 have hl26 := fl_n eRs_ok (by decide) h25
 have h27 := tk6 (sf5 (sf4 (sf4 (sf4 (sf4 (sf5 h25))))))
 refine go [.r 4 7 b23 (q * 8) [iV r.out.1, iV r.out.2.1, uV r.out.2.2, iV r.st, iV r.why, iV r.tr, iV r.nx, .string (St r.tag)] ⟨gv_cell (j := 0) h25 rfl (gv_sl _ _ _) hp24 (fl_get eRs_ok (j := 0) (v := iV r.out.1) hr rfl) (q * 8) (by omega), gv_cell (j := 0) h25 rfl (gv_sl _ _ _) hp24 (fl_get eRs_ok (j := 1) (v := iV r.out.2.1) hr rfl) (q * 8 + 1) (by omega), gv_cell (j := 0) h25 rfl (gv_sl _ _ _) hp24 (fl_get eRs_ok (j := 2) (v := uV r.out.2.2) hr rfl) (q * 8 + 2) (by omega), gv_cell (j := 0) h25 rfl (gv_sl _ _ _) hp24 (fl_get eRs_ok (j := 3) (v := iV r.st) hr rfl) (q * 8 + 3) (by omega), gv_cell (j := 0) h25 rfl (gv_sl _ _ _) hp24 (fl_get eRs_ok (j := 4) (v := iV r.why) hr rfl) (q * 8 + 4) (by omega), gv_cell (j := 0) h25 rfl (gv_sl _ _ _) hp24 (fl_get eRs_ok (j := 5) (v := iV r.tr) hr rfl) (q * 8 + 5) (by omega), gv_cell (j := 0) h25 rfl (gv_sl _ _ _) hp24 (fl_get eRs_ok (j := 6) (v := iV r.nx) hr rfl) (q * 8 + 6) (by omega), gv_cell (j := 0) h25 rfl (gv_sl _ _ _) hp24 (fl_get eRs_ok (j := 7) (v := .string (St r.tag)) hr rfl) (q * 8 + 7) (by omega), trivial⟩] <| sP [(0, iV r.out.1), (1, iV r.out.2.1), (2, uV r.out.2.2), (3, iV r.st), (4, iV r.why), (5, iV r.tr), (6, iV r.nx), (7, .string (St r.tag))] [iV r.out.1, iV r.out.2.1, uV r.out.2.2, iV r.st, iV r.why, iV r.tr, iV r.nx, .string (St r.tag)] h27 fun w28 h29 => go [] ?_
 have h31 : sat g w28 [Tab b n A E RL, Cl r10 [iV r.out.1, iV r.out.2.1, uV r.out.2.2, iV r.st, iV r.why, iV r.tr, iV r.nx, .string (St r.tag)] 82, R] := tab_close hM21.1 (by omega) (by first | rfl | omega) (tk6 (sf5 (sf5 (sf5 (sf2 (sf1 (sf5 h29)))))))
 exact en (.tuple #[.agg #[iV r.out.1, iV r.out.2.1, uV r.out.2.2, iV r.st, iV r.why, iV r.tr, iV r.nx, .string (St r.tag)], iV 0]) [rd 0 0 0 0 8 h29] ⟨_, _, rfl, ⟨rfl, rfl⟩, (tk2 (sf1 (sf2 h31)))⟩

theorem tdrop_ht (b n : Nat) (A : List Sl2) (E : Tm) (RL : List Rs) (x y z : Int) (hz0 : 0 ≤ z) (hz1 : z ≤ 4294967295) (q : Nat) (s : Sl2) (hs : A[q]? = some s) (hd_ : y = (q : Int) ∧ s.1 = 1 ∧ s.2 = z) : HT Tryz.prog 124 [pV b, .agg #[iV x, iV y, uV z]] [Tab b n A E RL] (fun v K => v = .tuple #[] ∧ K = [Tab b n (giveA A q z) (gdel E y) RL]) := by
 refine hiS Tryz.func124 Tryz.ntmps124 fun g w0 R h0 => go [] <| nP 144 [iV x, iV y, uV z] h0 (fun r10 _ h12 => ?_)
 refine go [] <| dw (fls [0, 1, 2, 3, 4, 5] (Tr.an 6 Tr.nil)) h12 fun _ h14 => ?_
 obtain ⟨s16, m17, p18, c19, E20, hM21, h22⟩ := tab_open (tk3 (sf2 (sf1 (sf2 h14))))
 have hRl_ := hM21.2
 have h23 := tk6 (sf5 (sf4 (sf4 (sf5 (sf5 (sf5 h22))))))
 refine go [rd 1 3 0 1 1 h22, rd 1 5 4 1 1 h22] ?_
 refine actG ?_
 refine ag_delete (t := 32) (t2 := 3) (d := none) (m := (Operand.tmp 7)) (x := (Operand.tmp 9)) (kv := kI) (ve := vE) (by kernel_rfl) Tryz.underlying32 kyI y (by kernel_rfl) (by kernel_rfl) h23 (by kernel_rfl) (gdel E20 y) rfl ?_
 intro w24 h25
 refine ⟨_, rfl, ?_⟩
 have h26 : sat g w24 [Gp kI vE m17 (gdel E20 y), Cl b [pV s16, .map (some m17), .slice p18 RL.length c19] 35, Tb s16 n A, Sl 82 8 p18 RL.length c19 (fl eRs RL), Cl r10 [iV x, iV y, uV z] 144, R] := h25
 refine ⟨kd [], nxN ?_⟩
 refine go [] <| dw (fls [0, 1, 2, 3, 4, 5, 6, 7, 8] (Tr.an 9 Tr.nil)) h26 fun _ h28 => ?_
 have h29 := tk6 (sf5 (sf4 (sf4 (sf5 (sf5 (sf5 h28))))))
 refine go [rd 2 3 1 0 1 h28, rd 2 5 4 1 1 h28, rd 2 7 4 2 1 h28] <| cw1 Tryz.call197 (give_ht s16 n A q s hs y z (by omega)) h29 fun w30 h31 => ⟨kd [], ?_⟩
 refine go [] ?_
 have h33 : sat g w30 [Tab b n (giveA A q z) (gdel E y) RL, Cl r10 [iV x, iV y, uV z] 144, R] := tab_close (meq_del hM21.1 y) (by omega) (by first | rfl | omega) (tk6 (sf5 (sf4 (sf4 (sf5 (sf5 (sf5 h31)))))))
 exact en (.tuple #[]) [] ⟨_, _, rfl, ⟨rfl, rfl⟩, (tk2 (sf1 (sf2 h33)))⟩

theorem taddx_ok (p0 : Option Addr) (k0 c0 : Nat) (b n : Nat) (A : List Sl2) (E : Tm) (RL : List Rs) (vn hx hy : Int) (q : Nat) (r : Rs) (hr : RL[q]? = some r) (hv : vn = (q : Int) + 1) (j : Nat) (gj : Int) (hj : (inS 0 A 0)[0]? = some (j, gj)) : HT Tryz.prog 144 [pV b, iV vn, .agg #[iV hx, uV hy]] [TabX b n A E RL p0 k0 c0] (fun v K => v = .tuple #[.agg #[iV r.out.1, iV (((j : Nat) : Int)), uV gj], iV 0] ∧ K = [TabX b n (A.set j (1, gj)) (gset E (j : Int) ⟨(r.out.1, (j : Int), gj), vn, (hx, hy)⟩) RL p0 k0 c0]) := by
 have hfl_ := (List.getElem?_eq_some_iff.1 hj).1
 refine hiS Tryz.func144 Tryz.ntmps144 fun g w0 R h0 => ?_
 have hq_ := (List.getElem?_eq_some_iff.1 hr).1
 refine go [] <| nP 148 [iV hx, uV hy] h0 (fun r10 _ h12 => ?_)
 refine nP 144 [iV 0, iV 0, uV 0] h12 (fun r13 _ h15 => ?_)
 obtain ⟨s17, m18, E21, hM22, h23⟩ := tabx_open (tk4 (sf3 (sf2 (sf2 (sf3 h15)))))
 have hRl_ := hM22.2
 have h24 := tk7 (sf6 (sf5 (sf5 (sf5 (sf6 (sf6 (sf6 h23)))))))
 have hl25 := fl_n eRs_ok (by decide) h24
 have h26 := tk7 (sf6 (sf6 (sf6 (sf3 (sf6 (sf6 (sf6 h24)))))))
 have h27 := tk7 (sf6 (sf5 (sf6 (sf6 (sf6 (sf6 (sf6 h26)))))))
 refine go [rd 1 3 0 0 1 h26] <| cl1 Tryz.call207 (take_j s17 n A j gj hj) h27 fun _ h29 => go [] <| nP 148 [iV 0, uV 0] h29 (fun r30 _ h32 => ?_)
 refine sP [(0, iV (j : Int)), (1, uV gj)] [iV (j : Int), uV gj] h32 fun _ h34 => go [] <| dw (fls [0, 1, 2, 3, 4, 5, 6, 7, 8, 9, 10, 11, 12, 13, 14] (Tr.an 15 (Tr.an 16 Tr.nil))) h34 fun _ h36 => ?_
 obtain ⟨b37, hp38⟩ := sl_ptr0 (j := 4) h36 rfl (by omega)
 refine go [rd 4 3 2 2 1 h36, .v 4 5 (oIr (vn - 1)), .s 4 6] <| lw (.pointer (some ⟨b37, q * 8, none⟩)) (fun _ => law_indexSlP (x := (Operand.tmp 26)) (i := (Operand.tmp 28)) (p := p0) (b := b37) (off := 0) (z := (vn - 1)) (len := k0) (cap := c0) (by kernel_rfl) Tryz.underlying33 8 (by kernel_rfl) q (by kernel_rfl) hp38 (by kernel_rfl) (by omega) (by omega) (q * 8) (by omega) _) <| go [.r 4 9 b37 (q * 8) [iV r.out.1] ⟨gv_cell (j := 4) h36 rfl (gv_sl _ _ _) hp38 (fl_get eRs_ok (j := 0) (v := iV r.out.1) hr rfl) (q * 8) (by omega), trivial⟩, rd 4 11 0 0 1 h36, rd 4 13 0 1 1 h36] <| nG (fun q_ => pV q_) 144 [iV 0, iV 0, uV 0] h36 (fun r39 _ h41 => ⟨kd [rd 0 13 1 1 1 h41, rd 0 11 1 0 1 h41, .r 0 9 b37 (q * 8) [iV r.out.1] ⟨gv_cell (j := 5) h41 rfl (gv_sl _ _ _) hp38 (fl_get eRs_ok (j := 0) (v := iV r.out.1) hr rfl) (q * 8) (by omega), trivial⟩, rd 0 3 3 2 1 h41], ?_⟩)
 refine sG [(0, iV r.out.1), (1, iV (j : Int)), (2, uV gj)] [iV r.out.1, iV (j : Int), uV gj] h41 fun _ h43 => ⟨kd [], ?_⟩
 refine go [] <| dw (fls [0, 1, 2, 3, 4, 5, 6, 7, 8, 9] (Tr.an 10 Tr.nil)) h43 fun _ h45 => ?_
 have h46 := tk9 (sf8 (sf7 (sf7 (sf7 (sf7 (sf8 (sf8 (sf8 (sf8 h45)))))))))
 refine go [rd 5 3 3 1 1 h45, rd 5 5 1 0 1 h45, rd 5 6 0 0 3 h45, rd 5 8 7 0 2 h45] ?_
 refine actG ?_
 refine ag_mapUpdate (t := 32) (m := (Operand.tmp 41)) (x := (Operand.tmp 43)) (y := (Operand.tmp 47)) (kv := kI) (ve := vE) (by kernel_rfl) (by kernel_rfl) Tryz.underlying32 kyI (j : Int) (⟨(r.out.1, (j : Int), gj), vn, (hx, hy)⟩ : Ety) (by kernel_rfl) (by kernel_rfl) (by kernel_rfl) h46 (gset E21 (j : Int) ⟨(r.out.1, (j : Int), gj), vn, (hx, hy)⟩) rfl ?_
 intro _ h48
 refine ⟨kd [], nxN ?_⟩
 have h49 := tk9 (sf8 (sf7 (sf7 (sf7 (sf7 (sf7 (sf7 (sf8 (sf8 h48)))))))))
 refine go [rd 6 0 1 0 3 h48] <| sP [(0, iV r.out.1), (1, iV (j : Int)), (2, uV gj)] [iV r.out.1, iV (j : Int), uV gj] h49 fun w50 h51 => go [] ?_
 have h53 : sat g w50 [TabX b n (A.set j (1, gj)) (gset E (j : Int) ⟨(r.out.1, (j : Int), gj), vn, (hx, hy)⟩) RL p0 k0 c0, Cl r13 [iV r.out.1, iV (j : Int), uV gj] 144, Cl r39 [iV r.out.1, iV (j : Int), uV gj] 144, Cl r30 [iV (j : Int), uV gj] 148, Cl r10 [iV hx, uV hy] 148, R] := tabx_close (meq_set hM22.1 (j : Int) ⟨(r.out.1, (j : Int), gj), vn, (hx, hy)⟩) (by omega)  (tk9 (sf8 (sf7 (sf6 (sf8 (sf4 (sf5 (sf5 (sf8 (sf8 h51))))))))))
 exact en (.tuple #[.agg #[iV r.out.1, iV (j : Int), uV gj], iV 0]) [rd 0 0 0 0 3 h51] ⟨_, _, rfl, ⟨rfl, rfl⟩, (tk2 (sf1 (sf5 h53)))⟩

end Go.Proofs.YtehlamblpekmkaaGreatDoor

/- Walks, printed by my generator P:../tab/gen13.py. -/
namespace Go.Proofs.YtehlamblpekmkaaGreatDoor
set_option maxHeartbeats 4000000
theorem seq148_eql_t {n : Nat} {l : Fr} {o : Oper} {x y : Operand} (a0 : Int) (a1 : Int) (c0 : Int) (c1 : Int) (ho : o.op = .binOp .eql 148 x y 148) (hx : fe n l x = .agg #[.int .i64 a0, .int .u32 a1]) (hy : fe n l y = .agg #[.int .i64 c0, .int .u32 c1]) (h : a0 = c0 ∧ a1 = c1) (w : World) : (execOp (fe n l) o).run Tryz.prog w = .ok (.value (.bool true)) w := by
  obtain ⟨rfl, rfl⟩ := h
  simp [execOp, ho, hx, hy, go_sem]
theorem seq148_eql_f {n : Nat} {l : Fr} {o : Oper} {x y : Operand} (a0 : Int) (a1 : Int) (c0 : Int) (c1 : Int) (ho : o.op = .binOp .eql 148 x y 148) (hx : fe n l x = .agg #[.int .i64 a0, .int .u32 a1]) (hy : fe n l y = .agg #[.int .i64 c0, .int .u32 c1]) (h : ¬ (a0 = c0 ∧ a1 = c1)) (w : World) : (execOp (fe n l) o).run Tryz.prog w = .ok (.value (.bool false)) w := by
  by_cases h0 : a0 = c0
  · skip
    by_cases h1 : a1 = c1
    · exact absurd ⟨h0, h1⟩ h
    · simp [execOp, ho, hx, hy, go_sem, h0, h1]
  · simp [execOp, ho, hx, hy, go_sem, h0]
theorem thas_ht (b n : Nat) (A : List Sl2) (E : Tm) (RL : List Rs) (hx hy : Int) : HT Tryz.prog 142 [Value.pointer (some ⟨b, 0, none⟩), Value.agg #[Value.int IntKind.i64 hx, Value.int IntKind.u32 hy]] [Tab b n A E RL] (fun v K => (v = Value.bool true ∧ (∃ e ∈ allE E, e.h = (hx, hy)) ∧ K = [Tab b n A E RL]) ∨ (v = Value.bool false ∧ (∀ e ∈ allE E, e.h ≠ (hx, hy)) ∧ K = [Tab b n A E RL])) := by
 refine hi_in 13 ([(0, pV b), (1, .agg #[iV hx, uV hy])] : Fr) Tryz.func142 (by kernel_rfl) Tryz.ntmps142 rfl rfl ?_
 intro g w0 R h0
 refine ySq ?_
 refine yPl [0, 1] ?_
 refine yA ?_
 refine yNp 3 148 [iV hx, uV hy] h0 fun r1 w2 h3 => ?_
 refine yA ?_
 refine yNp 4 4 [.bool false] h3 fun r4 w5 h6 => ?_
 refine PO.mk ?_
 refine yK [(0, pV b), (1, .agg #[iV hx, uV hy]), (3, pV r1), (4, pV r4)] fun lr7 => ?_
 refine ySq ?_
 refine ySq ?_
 refine yPl [0, 1] ?_
 refine yB0 [1] [0] [(6, pV b)] ?_
 refine yA ?_
 refine yCl 7 Tryz.call196 (tall1_ht b) h6 ?_
 rintro v K w9 (⟨b8, rfl, rfl⟩) h10
 refine ⟨_, rfl, ?_⟩
 have h11 := ap1 h10
 refine PO.mk ?_
 refine yK [(0, pV b), (1, .agg #[iV hx, uV hy]), (3, pV r1), (4, pV r4), (7, .func (Fn.func 247) #[] #[pV b8])] fun lr12 => ?_
 refine yBk 0 ?_
 have h18 := tk5 (sf4 (sf3 (sf2 (sf4 (sf4 h11)))))
 refine gi_rf2 (x := (Operand.tmp 7)) (ps := #[8]) (asg := CA Tryz.f142 [1, 0, 1, 0, 1]) (bd := CA Tryz.f142 [1, 0, 1, 0, 0]) (gf := 247) (cap := [pV b8]) (N := ((allE E).length)) (xs := fun i => [.agg #[iV (((allE E).getD i noE).d.1), iV (((allE E).getD i noE).d.2.1), uV (((allE E).getD i noE).d.2.2), iV (((allE E).getD i noE).num), iV (((allE E).getD i noE).h.1), uV (((allE E).getD i noE).h.2)]]) (At := [Cl b8 [pV b] 25, Tab b n A E RL]) (K0 := [Cl r1 [iV hx, uV hy] 148, Cl r4 [.bool false] 4]) (L := [R]) (fun i => [(8, .agg #[iV (((allE E).getD i noE).d.1), iV (((allE E).getD i noE).d.2.1), uV (((allE E).getD i noE).d.2.2), iV (((allE E).getD i noE).num), iV (((allE E).getD i noE).h.1), uV (((allE E).getD i noE).h.2)])] ++ (([(0, pV b), (1, .agg #[iV hx, uV hy]), (3, pV r1), (4, pV r4), (7, .func (Fn.func 247) #[] #[pV b8])] : Fr) ++ lr12)) (fun i rb_ => ([(5, pV rb_), (8, .agg #[iV (((allE E).getD i noE).d.1), iV (((allE E).getD i noE).d.2.1), uV (((allE E).getD i noE).d.2.2), iV (((allE E).getD i noE).num), iV (((allE E).getD i noE).h.1), uV (((allE E).getD i noE).h.2)])] : Fr) ++ (([(0, pV b), (1, .agg #[iV hx, uV hy]), (3, pV r1), (4, pV r4), (7, .func (Fn.func 247) #[] #[pV b8])] : Fr) ++ lr12)) (fun i rb_ K => (∀ j : Nat, j < i → ((allE E).getD j noE).h ≠ (hx, hy)) ∧ K = [Cl rb_ [iV (((allE E).getD i noE).d.1), iV (((allE E).getD i noE).d.2.1), uV (((allE E).getD i noE).d.2.2), iV (((allE E).getD i noE).num), iV (((allE E).getD i noE).h.1), uV (((allE E).getD i noE).h.2)] 269, Cl r1 [iV hx, uV hy] 148, Cl r4 [.bool false] 4]) (fun i K => (∀ j : Nat, j < i → ((allE E).getD j noE).h ≠ (hx, hy)) ∧ K = [Cl r1 [iV hx, uV hy] 148, Cl r4 [.bool false] 4]) (fun c i K => (c = Code.ret ∧ (∃ e ∈ allE E, e.h = (hx, hy)) ∧ K = [Cl r1 [iV hx, uV hy] 148, Cl r4 [.bool true] 4, Tab b n A E RL])) (by kernel_rfl) (by kernel_rfl) Tryz.call247 (tall_it b8 b n A E RL) ⟨(fun j h => absurd h (Nat.not_lt_zero _)), rfl⟩ h18 (fun _ _ => rfl) (fun _ _ => rf_frame1 rfl) ?_ ?_ ?_ ?_
 ·
  rintro i hi_ lp_ w19 K_ G ⟨hall_, rfl⟩ h20
  have h21 : sat g w19 [Cl r1 [iV hx, uV hy] 148, Cl r4 [.bool false] 4, Cl b8 [pV b] 25, Tab b n A E RL, G] := h20
  change WP _ _ (CA Tryz.f142 [1, 0, 1, 0, 1]) _ (mk 13 (([(8, .agg #[iV (((allE E).getD i noE).d.1), iV (((allE E).getD i noE).d.2.1), uV (((allE E).getD i noE).d.2.2), iV (((allE E).getD i noE).num), iV (((allE E).getD i noE).h.1), uV (((allE E).getD i noE).h.2)]), (0, pV b), (1, .agg #[iV hx, uV hy]), (3, pV r1), (4, pV r4), (7, .func (Fn.func 247) #[] #[pV b8])] : Fr) ++ lr12)) _
  refine yPl [0, 1] ?_
  refine yA ?_
  refine yNp 5 269 [iV 0, iV 0, uV 0, iV 0, iV 0, uV 0] h21 fun r22 w23 h24 => ?_
  refine yA ?_
  refine yS [(0, iV (((allE E).getD i noE).d.1)), (1, iV (((allE E).getD i noE).d.2.1)), (2, uV (((allE E).getD i noE).d.2.2)), (3, iV (((allE E).getD i noE).num)), (4, iV (((allE E).getD i noE).h.1)), (5, uV (((allE E).getD i noE).h.2))] [iV (((allE E).getD i noE).d.1), iV (((allE E).getD i noE).d.2.1), uV (((allE E).getD i noE).d.2.2), iV (((allE E).getD i noE).num), iV (((allE E).getD i noE).h.1), uV (((allE E).getD i noE).h.2)] h24 fun w25 h26 => ?_
  refine PO.mk ?_
  repeat (first | simp only [Exit.inBlock] | simp only [Exit.then])
  exact ⟨r22, _, rfl, ⟨hall_, rfl⟩, h26⟩
 ·
  rintro i hi29 lp_ w27 rb_ K_ G ⟨hall_, rfl⟩ h28
  have h30 : sat g w27 [Cl rb_ [iV (((allE E).getD i noE).d.1), iV (((allE E).getD i noE).d.2.1), uV (((allE E).getD i noE).d.2.2), iV (((allE E).getD i noE).num), iV (((allE E).getD i noE).h.1), uV (((allE E).getD i noE).h.2)] 269, Cl r1 [iV hx, uV hy] 148, Cl r4 [.bool false] 4, Cl b8 [pV b] 25, Tab b n A E RL, G] := h28
  change WP _ _ (CA Tryz.f142 [1, 0, 1, 0, 0]) _ (mk 13 (([(5, pV rb_), (8, .agg #[iV (((allE E).getD i noE).d.1), iV (((allE E).getD i noE).d.2.1), uV (((allE E).getD i noE).d.2.2), iV (((allE E).getD i noE).num), iV (((allE E).getD i noE).h.1), uV (((allE E).getD i noE).h.2)]), (0, pV b), (1, .agg #[iV hx, uV hy]), (3, pV r1), (4, pV r4), (7, .func (Fn.func 247) #[] #[pV b8])] : Fr) ++ lr12)) _
  refine yBk 1 ?_
  refine ySq ?_
  refine yPl [0, 1, 2, 3] ?_
  refine yBb [3] [(11, .agg #[iV hx, uV hy]), (10, .agg #[iV (((allE E).getD i noE).h.1), uV (((allE E).getD i noE).h.2)]), (9, .pointer (some ⟨rb_, 4, none⟩))] [e0 0, e2 1 [iV (((allE E).getD i noE).h.1), uV (((allE E).getD i noE).h.2)], e2 2 [iV hx, uV hy]] [(2, ⟨r1, 0, none⟩, iV hx), (2, ⟨r1, 1, none⟩, uV hy), (1, ⟨rb_, 4, none⟩, iV (((allE E).getD i noE).h.1)), (1, ⟨rb_, 5, none⟩, uV (((allE E).getD i noE).h.2))] [] trivial (kC (sat_cell h30 1 rfl rfl) (kC (sat_cell h30 1 rfl rfl) (kC (sat_cell h30 0 rfl rfl) (kC (sat_cell h30 0 rfl rfl) nC)))) ?_
  by_cases c31 : ((allE E).getD i noE).h.1 = hx
  ·
   by_cases c32 : ((allE E).getD i noE).h.2 = hy
   ·
    refine plain_law (i := 3) 12 (.bool true) (by kernel_rfl) (seq148_eql_t (o := opA (RA Tryz.f142 [1, 0, 1, 0, 0, 0, 0]) 3) (x := (Operand.tmp 10)) (y := (Operand.tmp 11)) (((allE E).getD i noE).h.1) (((allE E).getD i noE).h.2) hx hy (by kernel_rfl) (by kernel_rfl) (by kernel_rfl) ⟨(by omega), (by omega)⟩ _) (.mk ?_)
    refine yK [(0, pV b), (1, .agg #[iV hx, uV hy]), (3, pV r1), (4, pV r4), (5, pV rb_), (7, .func (Fn.func 247) #[] #[pV b8]), (8, .agg #[iV (((allE E).getD i noE).d.1), iV (((allE E).getD i noE).d.2.1), uV (((allE E).getD i noE).d.2.2), iV (((allE E).getD i noE).num), iV (((allE E).getD i noE).h.1), uV (((allE E).getD i noE).h.2)]), (12, .bool true)] fun lr33 => ?_
    refine yCt ?_
    refine ySq ?_
    refine yPl [0] ?_
    have h34 := tk6 (sf5 (sf4 (sf4 (sf5 (sf5 (sf5 h30))))))
    refine yA ?_
    refine yS [(0, .bool true)] [.bool true] h34 fun w35 h36 => ?_
    refine PO.mk ?_
    refine yK [(0, pV b), (1, .agg #[iV hx, uV hy]), (3, pV r1), (4, pV r4), (5, pV rb_), (7, .func (Fn.func 247) #[] #[pV b8]), (8, .agg #[iV (((allE E).getD i noE).d.1), iV (((allE E).getD i noE).d.2.1), uV (((allE E).getD i noE).d.2.2), iV (((allE E).getD i noE).num), iV (((allE E).getD i noE).h.1), uV (((allE E).getD i noE).h.2)]), (12, .bool true)] fun lr37 => ?_
    refine yRt ?_
    repeat (first | simp only [Exit.inBlock] | simp only [Exit.then])
    have h38 := tk6 (sf5 (sf4 (sf5 (sf5 (sf2 (sf3 h36))))))
    have h39 := tk4 h38
    exact ⟨_, ⟨rfl, ⟨_, getD_mem hi29, Prod.ext (show ((allE E).getD i noE).h.1 = hx from by omega) (show ((allE E).getD i noE).h.2 = hy from by omega)⟩, rfl⟩, h39⟩
   ·
    refine plain_law (i := 3) 12 (.bool false) (by kernel_rfl) (seq148_eql_f (o := opA (RA Tryz.f142 [1, 0, 1, 0, 0, 0, 0]) 3) (x := (Operand.tmp 10)) (y := (Operand.tmp 11)) (((allE E).getD i noE).h.1) (((allE E).getD i noE).h.2) hx hy (by kernel_rfl) (by kernel_rfl) (by kernel_rfl) (by omega) _) (.mk ?_)
    refine yK [(0, pV b), (1, .agg #[iV hx, uV hy]), (3, pV r1), (4, pV r4), (5, pV rb_), (7, .func (Fn.func 247) #[] #[pV b8]), (8, .agg #[iV (((allE E).getD i noE).d.1), iV (((allE E).getD i noE).d.2.1), uV (((allE E).getD i noE).d.2.2), iV (((allE E).getD i noE).num), iV (((allE E).getD i noE).h.1), uV (((allE E).getD i noE).h.2)]), (12, .bool false)] fun lr40 => ?_
    refine yCf ?_
    refine ySk ?_
    repeat (first | simp only [Exit.inBlock] | simp only [Exit.then])
    have h41 := tk6 (sf5 (sf5 (sf5 (sf5 (sf5 h30)))))
    have h42 := tk5 h41
    exact ⟨_, ⟨(upto_go hall_ (ne_pair (by omega))), rfl⟩, h42⟩
  ·
   refine plain_law (i := 3) 12 (.bool false) (by kernel_rfl) (seq148_eql_f (o := opA (RA Tryz.f142 [1, 0, 1, 0, 0, 0, 0]) 3) (x := (Operand.tmp 10)) (y := (Operand.tmp 11)) (((allE E).getD i noE).h.1) (((allE E).getD i noE).h.2) hx hy (by kernel_rfl) (by kernel_rfl) (by kernel_rfl) (by omega) _) (.mk ?_)
   refine yK [(0, pV b), (1, .agg #[iV hx, uV hy]), (3, pV r1), (4, pV r4), (5, pV rb_), (7, .func (Fn.func 247) #[] #[pV b8]), (8, .agg #[iV (((allE E).getD i noE).d.1), iV (((allE E).getD i noE).d.2.1), uV (((allE E).getD i noE).d.2.2), iV (((allE E).getD i noE).num), iV (((allE E).getD i noE).h.1), uV (((allE E).getD i noE).h.2)]), (12, .bool false)] fun lr43 => ?_
   refine yCf ?_
   refine ySk ?_
   repeat (first | simp only [Exit.inBlock] | simp only [Exit.then])
   have h44 := tk6 (sf5 (sf5 (sf5 (sf5 (sf5 h30)))))
   have h45 := tk5 h44
   exact ⟨_, ⟨(upto_go hall_ (ne_pair (by omega))), rfl⟩, h45⟩
 ·
  rintro D46 w47 K_ ⟨hall_, rfl⟩ h48
  have h49 : sat g w47 [pt D46 (Obj.deferred (some [])), Cl r1 [iV hx, uV hy] 148, Cl r4 [.bool false] 4, Cl b8 [pV b] 25, Tab b n A E RL, R] := h48
  refine yK [(4, pV r4)] fun lr50 => ?_
  refine ySq ?_
  refine yPl [0] ?_
  have h51 := tk6 (sf5 (sf4 (sf4 (sf5 (sf5 (sf5 h49))))))
  refine yA ?_
  refine yS [(0, .bool false)] [.bool false] h51 fun w52 h53 => ?_
  refine PO.mk ?_
  refine yK [(4, pV r4)] fun lr54 => ?_
  refine yRt ?_
  repeat (first | simp only [Exit.inBlock] | simp only [Exit.then])
  have h55 := tk6 (sf5 (sf4 (sf5 (sf5 (sf5 (sf5 h53))))))
  refine hi_out1 h55 [.bool false] (.bool false) [(⟨r4, 0, none⟩, .bool false)] (by kernel_rfl) (fun w57 h56 => ⟨?_, ?_⟩)
  · exact (allq ⟨sat_cell h56 1 rfl rfl, trivial⟩)
  ·
   have h58 : sat g w57 [pt D46 (Obj.deferred none), Cl r4 [.bool false] 4, Cl r1 [iV hx, uV hy] 148, Cl b8 [pV b] 25, Tab b n A E RL, R] := h56
   have h59 := tk6 (sf5 (sf4 (sf4 (sf4 (sf4 (sf5 h58))))))
   have h60 := tk2 (sf1 (sf5 h59))
   exact ⟨.bool false, [Tab b n A E RL], rfl, (.inr ⟨rfl, getD_all hall_, rfl⟩), h60⟩
 ·
  rintro D61 w62 ex_ i K_ hi64 (⟨rfl, hex_, rfl⟩) h63
  ·
   have h65 : sat g w62 [pt D61 (Obj.deferred (some [])), Cl r1 [iV hx, uV hy] 148, Cl r4 [.bool true] 4, Tab b n A E RL, R] := h63
   refine gi_rt rfl ?_
   repeat (first | simp only [Exit.inBlock] | simp only [Exit.then])
   refine hi_out1 h65 [.bool true] (.bool true) [(⟨r4, 0, none⟩, .bool true)] (by kernel_rfl) (fun w67 h66 => ⟨?_, ?_⟩)
   · exact (allq ⟨sat_cell h66 2 rfl rfl, trivial⟩)
   ·
    have h68 : sat g w67 [pt D61 (Obj.deferred none), Cl r1 [iV hx, uV hy] 148, Cl r4 [.bool true] 4, Tab b n A E RL, R] := h66
    have h69 := tk5 (sf4 (sf3 (sf3 (sf3 (sf4 h68)))))
    have h70 := tk2 (sf1 (sf4 h69))
    exact ⟨.bool true, [Tab b n A E RL], rfl, (.inl ⟨rfl, hex_, rfl⟩), h70⟩

theorem tdescs_ok (b n : Nat) (A : List Sl2) (E : Tm) (RL : List Rs) (vn : Int) (h : 1 ≤ vn ∧ vn ≤ (RL.length : Int)) : HT Tryz.prog 123 [Value.pointer (some ⟨b, 0, none⟩), Value.int IntKind.i64 vn] [Tab b n A E RL] (fun v K => ∃ (p : Option Addr) (c : Nat), v = Value.tuple #[Value.slice p (descs E vn).length c, Value.int .i64 0] ∧ K = [Tab b n A E RL, Sl 144 3 p (((descs E vn).length)) c (fl eO (descs E vn))]) := by
 refine hi_in 28 ([(0, pV b), (1, iV vn)] : Fr) Tryz.func123 (by kernel_rfl) Tryz.ntmps123 rfl rfl ?_
 intro g w0 R h0
 refine ySq ?_
 refine yPl [0, 1, 2] ?_
 refine yA ?_
 refine yNp 3 3 [iV vn] h0 fun r1 w2 h3 => ?_
 refine yB0 [] [1, 2] [(5, iV 0), (4, .slice none 0 0)] (.mk ?_)
 refine yK [(0, pV b), (1, iV vn), (3, pV r1), (4, .slice none 0 0), (5, iV 0)] fun lr4 => ?_
 refine ySq ?_
 refine ySq ?_
 refine yPl [0, 1, 2, 3] ?_
 refine yBb [2, 3] [(10, iV vn), (9, pV b)] [e0 0, e2 1 [iV vn]] [(1, ⟨r1, 0, none⟩, iV vn)] [] trivial (kC (sat_cell h3 0 rfl rfl) nC) ?_
 have h5 := tk3 (sf2 (sf1 (sf2 h3)))
 refine yA ?_
 refine yCl 11 Tryz.call110 (tcheck_ok b n A E RL vn (by omega)) h5 ?_
 rintro v K w6 (⟨rfl, rfl⟩) h7
 refine ⟨_, rfl, ?_⟩
 have h8 := ap1 h7
 refine yB0 [] [3] [(6, iV 0)] (.mk ?_)
 refine yK [(0, pV b), (1, iV vn), (3, pV r1), (4, .slice none 0 0), (5, iV 0), (6, iV 0)] fun lr9 => ?_
 refine ySq ?_
 refine yPl [0, 1] ?_
 refine yB0 [] [0, 1] [(13, .bool false), (12, iV 0)] (.mk ?_)
 refine yK [(0, pV b), (1, iV vn), (3, pV r1), (4, .slice none 0 0), (5, iV 0), (6, iV 0), (13, .bool false)] fun lr10 => ?_
 refine yCf ?_
 refine ySk ?_
 refine ySq ?_
 refine yPl [0] ?_
 refine yA ?_
 refine yNp 7 120 [.slice none 0 0] h8 fun r11 w12 h13 => ?_
 refine PO.mk ?_
 refine yK [(0, pV b), (1, iV vn), (3, pV r1), (4, .slice none 0 0), (5, iV 0), (6, iV 0), (7, pV r11), (13, .bool false)] fun lr14 => ?_
 refine ySq ?_
 refine ySq ?_
 refine yPl [0, 1] ?_
 refine yB0 [1] [0] [(15, pV b)] ?_
 refine yA ?_
 refine yCl 16 Tryz.call196 (tall1_ht b) h13 ?_
 rintro v K w16 (⟨b15, rfl, rfl⟩) h17
 refine ⟨_, rfl, ?_⟩
 have h18 := ap1 h17
 refine PO.mk ?_
 refine yK [(0, pV b), (1, iV vn), (3, pV r1), (4, .slice none 0 0), (5, iV 0), (6, iV 0), (7, pV r11), (13, .bool false), (16, .func (Fn.func 247) #[] #[pV b15])] fun lr19 => ?_
 refine yBk 0 ?_
 have hal_ : (allE E).length ≤ 256 := cntE_le E 256
 have h25 : sat g w16 [Sl 144 3 none 0 0 (fl eO []), Cl b15 [pV b] 25, Cl r11 [.slice none 0 0] 120, Tab b n A E RL, Cl r1 [iV vn] 3, R] := sl_nil 144 3 h18
 have h26 := tk6 (sf5 (sf4 (sf3 (sf3 (sf4 (sf5 h25))))))
 refine gi_rf2 (x := (Operand.tmp 16)) (ps := #[17]) (asg := CA Tryz.f123 [1, 1, 1, 0, 1, 0, 1]) (bd := CA Tryz.f123 [1, 1, 1, 0, 1, 0, 0]) (gf := 247) (cap := [pV b15]) (N := ((allE E).length)) (xs := fun i => [.agg #[iV (((allE E).getD i noE).d.1), iV (((allE E).getD i noE).d.2.1), uV (((allE E).getD i noE).d.2.2), iV (((allE E).getD i noE).num), iV (((allE E).getD i noE).h.1), uV (((allE E).getD i noE).h.2)]]) (At := [Cl b15 [pV b] 25, Tab b n A E RL]) (K0 := [Cl r1 [iV vn] 3, Cl r11 [.slice none 0 0] 120, Sl 144 3 none 0 0 (fl eO [])]) (L := [R]) (fun i => [(17, .agg #[iV (((allE E).getD i noE).d.1), iV (((allE E).getD i noE).d.2.1), uV (((allE E).getD i noE).d.2.2), iV (((allE E).getD i noE).num), iV (((allE E).getD i noE).h.1), uV (((allE E).getD i noE).h.2)])] ++ (([(0, pV b), (1, iV vn), (3, pV r1), (4, .slice none 0 0), (5, iV 0), (6, iV 0), (7, pV r11), (13, .bool false), (16, .func (Fn.func 247) #[] #[pV b15])] : Fr) ++ lr19)) (fun i rb_ => ([(8, pV rb_), (17, .agg #[iV (((allE E).getD i noE).d.1), iV (((allE E).getD i noE).d.2.1), uV (((allE E).getD i noE).d.2.2), iV (((allE E).getD i noE).num), iV (((allE E).getD i noE).h.1), uV (((allE E).getD i noE).h.2)])] : Fr) ++ (([(0, pV b), (1, iV vn), (3, pV r1), (4, .slice none 0 0), (5, iV 0), (6, iV 0), (7, pV r11), (13, .bool false), (16, .func (Fn.func 247) #[] #[pV b15])] : Fr) ++ lr19)) (fun i rb_ K => ∃ p : Option Addr, ∃ k : Nat, ∃ c : Nat, (k ≤ i) ∧ K = [Cl rb_ [iV (((allE E).getD i noE).d.1), iV (((allE E).getD i noE).d.2.1), uV (((allE E).getD i noE).d.2.2), iV (((allE E).getD i noE).num), iV (((allE E).getD i noE).h.1), uV (((allE E).getD i noE).h.2)] 269, Cl r1 [iV vn] 3, Cl r11 [.slice p k c] 120, Sl 144 3 p k c (fl eO (descT E vn i))]) (fun i K => ∃ p : Option Addr, ∃ k : Nat, ∃ c : Nat, (k ≤ i) ∧ K = [Cl r1 [iV vn] 3, Cl r11 [.slice p k c] 120, Sl 144 3 p k c (fl eO (descT E vn i))]) (fun c i K => False) (by kernel_rfl) (by kernel_rfl) Tryz.call247 (tall_it b15 b n A E RL) ⟨none, 0, 0, (Nat.le_refl _), rfl⟩ h26 (fun _ _ => rfl) (fun _ _ => rf_frame1 rfl) ?_ ?_ ?_ ?_
 ·
  rintro i hi_ lp_ w27 K_ G ⟨p, k, c, hk_, rfl⟩ h28
  have h29 : sat g w27 [Cl r1 [iV vn] 3, Cl r11 [.slice p k c] 120, Sl 144 3 p k c (fl eO (descT E vn i)), Cl b15 [pV b] 25, Tab b n A E RL, G] := h28
  change WP _ _ (CA Tryz.f123 [1, 1, 1, 0, 1, 0, 1]) _ (mk 28 (([(17, .agg #[iV (((allE E).getD i noE).d.1), iV (((allE E).getD i noE).d.2.1), uV (((allE E).getD i noE).d.2.2), iV (((allE E).getD i noE).num), iV (((allE E).getD i noE).h.1), uV (((allE E).getD i noE).h.2)]), (0, pV b), (1, iV vn), (3, pV r1), (4, .slice none 0 0), (5, iV 0), (6, iV 0), (7, pV r11), (13, .bool false), (16, .func (Fn.func 247) #[] #[pV b15])] : Fr) ++ lr19)) _
  refine yPl [0, 1] ?_
  refine yA ?_
  refine yNp 8 269 [iV 0, iV 0, uV 0, iV 0, iV 0, uV 0] h29 fun r30 w31 h32 => ?_
  refine yA ?_
  refine yS [(0, iV (((allE E).getD i noE).d.1)), (1, iV (((allE E).getD i noE).d.2.1)), (2, uV (((allE E).getD i noE).d.2.2)), (3, iV (((allE E).getD i noE).num)), (4, iV (((allE E).getD i noE).h.1)), (5, uV (((allE E).getD i noE).h.2))] [iV (((allE E).getD i noE).d.1), iV (((allE E).getD i noE).d.2.1), uV (((allE E).getD i noE).d.2.2), iV (((allE E).getD i noE).num), iV (((allE E).getD i noE).h.1), uV (((allE E).getD i noE).h.2)] h32 fun w33 h34 => ?_
  refine PO.mk ?_
  repeat (first | simp only [Exit.inBlock] | simp only [Exit.then])
  exact ⟨r30, _, rfl, ⟨p, k, c, hk_, rfl⟩, h34⟩
 ·
  rintro i hi37 lp_ w35 rb_ K_ G ⟨p, k, c, hk_, rfl⟩ h36
  have h38 : sat g w35 [Cl rb_ [iV (((allE E).getD i noE).d.1), iV (((allE E).getD i noE).d.2.1), uV (((allE E).getD i noE).d.2.2), iV (((allE E).getD i noE).num), iV (((allE E).getD i noE).h.1), uV (((allE E).getD i noE).h.2)] 269, Cl r1 [iV vn] 3, Cl r11 [.slice p k c] 120, Sl 144 3 p k c (fl eO (descT E vn i)), Cl b15 [pV b] 25, Tab b n A E RL, G] := h36
  change WP _ _ (CA Tryz.f123 [1, 1, 1, 0, 1, 0, 0]) _ (mk 28 (([(8, pV rb_), (17, .agg #[iV (((allE E).getD i noE).d.1), iV (((allE E).getD i noE).d.2.1), uV (((allE E).getD i noE).d.2.2), iV (((allE E).getD i noE).num), iV (((allE E).getD i noE).h.1), uV (((allE E).getD i noE).h.2)]), (0, pV b), (1, iV vn), (3, pV r1), (4, .slice none 0 0), (5, iV 0), (6, iV 0), (7, pV r11), (13, .bool false), (16, .func (Fn.func 247) #[] #[pV b15])] : Fr) ++ lr19)) _
  refine yBk 1 ?_
  refine ySq ?_
  refine yPl [0, 1, 2, 3] ?_
  refine yBb [3] [(20, iV vn), (19, iV (((allE E).getD i noE).num)), (18, .pointer (some ⟨rb_, 3, none⟩))] [e0 0, e2 1 [iV (((allE E).getD i noE).num)], e2 2 [iV vn]] [(2, ⟨r1, 0, none⟩, iV vn), (1, ⟨rb_, 3, none⟩, iV (((allE E).getD i noE).num))] [] trivial (kC (sat_cell h38 1 rfl rfl) (kC (sat_cell h38 0 rfl rfl) nC)) ?_
  by_cases c39 : ((allE E).getD i noE).num = vn
  ·
   refine yBb [] [(21, .bool true)] [e1 3 (.bool true)] [] [(.bool ((((allE E).getD i noE).num) == vn), .bool true)] ⟨(ov_et (by omega)), trivial⟩ nC (.mk ?_)
   refine yK [(0, pV b), (1, iV vn), (3, pV r1), (4, .slice none 0 0), (5, iV 0), (6, iV 0), (7, pV r11), (8, pV rb_), (13, .bool false), (16, .func (Fn.func 247) #[] #[pV b15]), (17, .agg #[iV (((allE E).getD i noE).d.1), iV (((allE E).getD i noE).d.2.1), uV (((allE E).getD i noE).d.2.2), iV (((allE E).getD i noE).num), iV (((allE E).getD i noE).h.1), uV (((allE E).getD i noE).h.2)]), (21, .bool true)] fun lr40 => ?_
   refine yCt ?_
   refine yPl [0, 1, 2, 3, 4, 5] ?_
   refine yBb [3, 4, 5] [(24, .agg #[iV (((allE E).getD i noE).d.1), iV (((allE E).getD i noE).d.2.1), uV (((allE E).getD i noE).d.2.2)]), (23, pV rb_), (22, .slice p k c)] [e2 0 [.slice p k c], e0 1, e2 2 [iV (((allE E).getD i noE).d.1), iV (((allE E).getD i noE).d.2.1), uV (((allE E).getD i noE).d.2.2)]] [(2, ⟨rb_, 0, none⟩, iV (((allE E).getD i noE).d.1)), (2, ⟨rb_, 1, none⟩, iV (((allE E).getD i noE).d.2.1)), (2, ⟨rb_, 2, none⟩, uV (((allE E).getD i noE).d.2.2)), (0, ⟨r11, 0, none⟩, .slice p k c)] [] trivial (kC (sat_cell h38 0 rfl rfl) (kC (sat_cell h38 0 rfl rfl) (kC (sat_cell h38 0 rfl rfl) (kC (sat_cell h38 2 rfl rfl) nC)))) ?_
   refine yA ?_
   refine an_new (d := 25) (fun xb_ => .slice (some ⟨xb_, 0, none⟩) 1 1) (fun xb_ => Obj.cells [iV (((allE E).getD i noE).d.1), iV (((allE E).getD i noE).d.2.1), uV (((allE E).getD i noE).d.2.2)].toArray 144 (0, 0)) (fun xb_ => by kernel_rfl) (by kernel_rfl) rfl h38 ?_
   intro r41 w42 (h43 : sat g w42 [Cl r41 [iV (((allE E).getD i noE).d.1), iV (((allE E).getD i noE).d.2.1), uV (((allE E).getD i noE).d.2.2)] 144, Cl rb_ [iV (((allE E).getD i noE).d.1), iV (((allE E).getD i noE).d.2.1), uV (((allE E).getD i noE).d.2.2), iV (((allE E).getD i noE).num), iV (((allE E).getD i noE).h.1), uV (((allE E).getD i noE).h.2)] 269, Cl r1 [iV vn] 3, Cl r11 [.slice p k c] 120, Sl 144 3 p k c (fl eO (descT E vn i)), Cl b15 [pV b] 25, Tab b n A E RL, G])
   have h44 := tk8 (sf7 (sf6 (sf6 (sf6 (sf6 (sf7 (sf7 (sf7 h43))))))))
   refine yA ?_
   refine an_append (d := 26) (sz := 3) (s := (Operand.tmp 22)) (x := (Operand.tmp 25)) (z := .agg #[iV 0, iV 0, uV 0]) (p := p) (m := k) (c := c) (k := 1) (c2 := 1) (a := ⟨r41, 0, none⟩) (by_ := 24) (by kernel_rfl) (by kernel_rfl) rfl Tryz.underlying120 (by kernel_rfl) rfl (by decide) (by kernel_rfl) (by kernel_rfl) h44 (fl eO [(((allE E).getD i noE).d.1, ((allE E).getD i noE).d.2.1, ((allE E).getD i noE).d.2.2)]) rfl (fun j u hj => by rw [add_off]; exact sat_cell h44 1 rfl (by rw [Nat.zero_add]; exact hj)) (fl_one eO_ok _) (by omega) (by omega) (k + 1) (by omega) ?_
   intro p45 cap46 w47 h48
   have h49 : sat g w47 [Sl 144 3 p45 (k + 1) cap46 (fl eO ((descT E vn i) ++ [(((allE E).getD i noE).d.1, ((allE E).getD i noE).d.2.1, ((allE E).getD i noE).d.2.2)])), Cl r41 [iV (((allE E).getD i noE).d.1), iV (((allE E).getD i noE).d.2.1), uV (((allE E).getD i noE).d.2.2)] 144, Cl rb_ [iV (((allE E).getD i noE).d.1), iV (((allE E).getD i noE).d.2.1), uV (((allE E).getD i noE).d.2.2), iV (((allE E).getD i noE).num), iV (((allE E).getD i noE).h.1), uV (((allE E).getD i noE).h.2)] 269, Cl r1 [iV vn] 3, Cl r11 [.slice p k c] 120, Cl b15 [pV b] 25, Tab b n A E RL, G] := sat_imp h48 (fun _ hh => by rw [fl_app]; exact hh)
   obtain ⟨hn50, hn51⟩ := sl_le h49
   have h52 := tk8 (sf7 (sf6 (sf6 (sf6 (sf6 (sf7 (sf7 (sf7 h49))))))))
   refine yA ?_
   refine yS [(0, .slice p45 (k + 1) cap46)] [.slice p45 (k + 1) cap46] h52 fun w53 h54 => ?_
   refine PO.mk ?_
   repeat (first | simp only [Exit.inBlock] | simp only [Exit.then])
   have h55 := tk8 (sf7 (sf6 (sf7 (sf7 (sf7 (sf7 (sf7 (sf7 h54))))))))
   have h56 : sat g w53 [Sl 144 3 p45 (k + 1) cap46 (fl eO (descT E vn (i + 1))), Cl r11 [.slice p45 (k + 1) cap46] 120, Cl r41 [iV (((allE E).getD i noE).d.1), iV (((allE E).getD i noE).d.2.1), uV (((allE E).getD i noE).d.2.2)] 144, Cl rb_ [iV (((allE E).getD i noE).d.1), iV (((allE E).getD i noE).d.2.1), uV (((allE E).getD i noE).d.2.2), iV (((allE E).getD i noE).num), iV (((allE E).getD i noE).h.1), uV (((allE E).getD i noE).h.2)] 269, Cl r1 [iV vn] 3, Cl b15 [pV b] 25, Tab b n A E RL, G] := sat_imp h55 (fun _ hh_ => by rw [show (((descT E vn i) ++ [(((allE E).getD i noE).d.1, ((allE E).getD i noE).d.2.1, ((allE E).getD i noE).d.2.2)]) : List Ky) = (descT E vn (i + 1)) from descT_go hi37 (by omega)] at hh_; exact hh_)
   have h57 := tk8 (sf7 (sf6 (sf5 (sf7 (sf7 (sf7 (sf3 (sf3 h56))))))))
   have h58 := tk6 h57
   exact ⟨_, ⟨p45, k + 1, cap46, (by omega), rfl⟩, h58⟩
  ·
   refine yBb [] [(21, .bool false)] [e1 3 (.bool false)] [] [(.bool ((((allE E).getD i noE).num) == vn), .bool false)] ⟨(ov_ef (by omega)), trivial⟩ nC (.mk ?_)
   refine yK [(0, pV b), (1, iV vn), (3, pV r1), (4, .slice none 0 0), (5, iV 0), (6, iV 0), (7, pV r11), (8, pV rb_), (13, .bool false), (16, .func (Fn.func 247) #[] #[pV b15]), (17, .agg #[iV (((allE E).getD i noE).d.1), iV (((allE E).getD i noE).d.2.1), uV (((allE E).getD i noE).d.2.2), iV (((allE E).getD i noE).num), iV (((allE E).getD i noE).h.1), uV (((allE E).getD i noE).h.2)]), (21, .bool false)] fun lr59 => ?_
   refine yCf ?_
   refine ySk ?_
   repeat (first | simp only [Exit.inBlock] | simp only [Exit.then])
   have h60 := tk7 (sf6 (sf5 (sf5 (sf5 (sf6 (sf6 (sf6 h38)))))))
   have h61 : sat g w35 [Sl 144 3 p k c (fl eO (descT E vn (i + 1))), Cl rb_ [iV (((allE E).getD i noE).d.1), iV (((allE E).getD i noE).d.2.1), uV (((allE E).getD i noE).d.2.2), iV (((allE E).getD i noE).num), iV (((allE E).getD i noE).h.1), uV (((allE E).getD i noE).h.2)] 269, Cl r1 [iV vn] 3, Cl r11 [.slice p k c] 120, Cl b15 [pV b] 25, Tab b n A E RL, G] := sat_imp h60 (fun _ hh_ => by rw [show ((descT E vn i) : List Ky) = (descT E vn (i + 1)) from descT_no hi37 (by omega)] at hh_; exact hh_)
   have h62 := tk7 (sf6 (sf6 (sf4 (sf6 (sf6 (sf6 (sf1 h61)))))))
   have h63 := tk6 h62
   exact ⟨_, ⟨p, k, c, (by omega), rfl⟩, h63⟩
 ·
  rintro D64 w65 K_ ⟨p, k, c, hk_, rfl⟩ h66
  have h67 : sat g w65 [pt D64 (Obj.deferred (some [])), Cl r1 [iV vn] 3, Cl r11 [.slice p k c] 120, Sl 144 3 p k c (fl eO (descT E vn (((allE E).length)))), Cl b15 [pV b] 25, Tab b n A E RL, R] := h66
  refine yK [(7, pV r11)] fun lr68 => ?_
  refine ySq ?_
  refine yPl [0, 1, 2] ?_
  refine yBb [] [(5, iV 0), (4, .slice p k c), (27, .slice p k c)] [e2 0 [.slice p k c], e0 1, e0 2] [(0, ⟨r11, 0, none⟩, .slice p k c)] [] trivial (kC (sat_cell h67 2 rfl rfl) nC) (.mk ?_)
  refine yK [(4, .slice p k c), (5, iV 0)] fun lr69 => ?_
  refine yRt ?_
  repeat (first | simp only [Exit.inBlock] | simp only [Exit.then])
  have h70 := tk7 (sf6 (sf5 (sf5 (sf5 (sf6 (sf6 (sf6 h67)))))))
  have h71 : sat g w65 [Sl 144 3 p k c (fl eO (descs E vn)), pt D64 (Obj.deferred (some [])), Cl r1 [iV vn] 3, Cl r11 [.slice p k c] 120, Cl b15 [pV b] 25, Tab b n A E RL, R] := sat_imp h70 (fun _ hh_ => by rw [show ((descT E vn (((allE E).length))) : List Ky) = (descs E vn) from descT_all E vn] at hh_; exact hh_)
  have hl72 := fl_n eO_ok (by decide) h71
  have h73 : sat g w65 [Sl 144 3 p (((descs E vn).length)) c (fl eO (descs E vn)), pt D64 (Obj.deferred (some [])), Cl r1 [iV vn] 3, Cl r11 [.slice p k c] 120, Cl b15 [pV b] 25, Tab b n A E RL, R] := sat_imp h71 (fun _ hh_ => by rw [hl72]; exact hh_)
  have h74 := tk7 (sf6 (sf5 (sf6 (sf6 (sf6 (sf6 (sf6 h73)))))))
  refine hi_out1 h74 [] (.tuple #[.slice p k c, iV 0]) [] (by kernel_rfl) (fun w76 h75 => ⟨?_, ?_⟩)
  · exact (by intro q hq; cases hq)
  ·
   have h77 : sat g w76 [pt D64 (Obj.deferred none), Sl 144 3 p (((descs E vn).length)) c (fl eO (descs E vn)), Cl r1 [iV vn] 3, Cl r11 [.slice p k c] 120, Cl b15 [pV b] 25, Tab b n A E RL, R] := h75
   have h78 := tk7 (sf6 (sf5 (sf4 (sf5 (sf5 (sf5 (sf6 h77)))))))
   have h79 := tk3 (sf2 (sf2 (sf6 h78)))
   exact ⟨.tuple #[.slice p k c, iV 0], [Tab b n A E RL, Sl 144 3 p (((descs E vn).length)) c (fl eO (descs E vn))], rfl, ⟨p, c, by rw [hl72], rfl⟩, h79⟩
 ·
  intro _ _ _ _ _ _ hf_; exact hf_.elim

theorem tdescs_no (b n : Nat) (A : List Sl2) (E : Tm) (RL : List Rs) (vn : Int) (h : vn < 1 ∨ (RL.length : Int) < vn) : HT Tryz.prog 123 [Value.pointer (some ⟨b, 0, none⟩), Value.int IntKind.i64 vn] [Tab b n A E RL] (fun v K => v = Value.tuple #[Value.slice none 0 0, Value.int IntKind.i64 3] ∧ K = [Tab b n A E RL]) := by
 refine hi_in 28 ([(0, pV b), (1, iV vn)] : Fr) Tryz.func123 (by kernel_rfl) Tryz.ntmps123 rfl rfl ?_
 intro g w0 R h0
 refine ySq ?_
 refine yPl [0, 1, 2] ?_
 refine yA ?_
 refine yNp 3 3 [iV vn] h0 fun r1 w2 h3 => ?_
 refine yB0 [] [1, 2] [(5, iV 0), (4, .slice none 0 0)] (.mk ?_)
 refine yK [(0, pV b), (1, iV vn), (3, pV r1), (4, .slice none 0 0), (5, iV 0)] fun lr4 => ?_
 refine ySq ?_
 refine ySq ?_
 refine yPl [0, 1, 2, 3] ?_
 refine yBb [2, 3] [(10, iV vn), (9, pV b)] [e0 0, e2 1 [iV vn]] [(1, ⟨r1, 0, none⟩, iV vn)] [] trivial (kC (sat_cell h3 0 rfl rfl) nC) ?_
 by_cases c5 : 1 ≤ vn
 ·
  have h6 := tk3 (sf2 (sf1 (sf2 h3)))
  refine yA ?_
  refine yCl 11 Tryz.call110 (tcheck_no b n A E RL vn (by omega)) h6 ?_
  rintro v K w7 (⟨rfl, rfl⟩) h8
  refine ⟨_, rfl, ?_⟩
  have h9 := ap1 h8
  refine yB0 [] [3] [(6, iV 3)] (.mk ?_)
  refine yK [(0, pV b), (1, iV vn), (3, pV r1), (4, .slice none 0 0), (5, iV 0), (6, iV 3)] fun lr10 => ?_
  refine ySq ?_
  refine yPl [0, 1] ?_
  refine yB0 [] [0, 1] [(13, .bool true), (12, iV 3)] (.mk ?_)
  refine yK [(0, pV b), (1, iV vn), (3, pV r1), (4, .slice none 0 0), (5, iV 0), (6, iV 3), (13, .bool true)] fun lr11 => ?_
  refine yCt ?_
  refine ySq ?_
  refine yPl [0, 1, 2] ?_
  refine yB0 [] [0, 1, 2] [(5, iV 3), (4, .slice none 0 0), (14, iV 3)] (.mk ?_)
  refine yK [(4, .slice none 0 0), (5, iV 3)] fun lr12 => ?_
  refine yRt ?_
  repeat (first | simp only [Exit.inBlock] | simp only [Exit.then])
  have h13 := tk2 (sf1 (sf2 h9))
  refine hi_out [] (.tuple #[.slice none 0 0, iV 3]) [] (by kernel_rfl) (by intro q hq; cases hq) ?_
  exact ⟨.tuple #[.slice none 0 0, iV 3], [Tab b n A E RL], rfl, ⟨rfl, rfl⟩, h13⟩
 ·
  have h14 := tk3 (sf2 (sf1 (sf2 h3)))
  refine yA ?_
  refine yCl 11 Tryz.call110 (tcheck_no b n A E RL vn (by omega)) h14 ?_
  rintro v K w15 (⟨rfl, rfl⟩) h16
  refine ⟨_, rfl, ?_⟩
  have h17 := ap1 h16
  refine yB0 [] [3] [(6, iV 3)] (.mk ?_)
  refine yK [(0, pV b), (1, iV vn), (3, pV r1), (4, .slice none 0 0), (5, iV 0), (6, iV 3)] fun lr18 => ?_
  refine ySq ?_
  refine yPl [0, 1] ?_
  refine yB0 [] [0, 1] [(13, .bool true), (12, iV 3)] (.mk ?_)
  refine yK [(0, pV b), (1, iV vn), (3, pV r1), (4, .slice none 0 0), (5, iV 0), (6, iV 3), (13, .bool true)] fun lr19 => ?_
  refine yCt ?_
  refine ySq ?_
  refine yPl [0, 1, 2] ?_
  refine yB0 [] [0, 1, 2] [(5, iV 3), (4, .slice none 0 0), (14, iV 3)] (.mk ?_)
  refine yK [(4, .slice none 0 0), (5, iV 3)] fun lr20 => ?_
  refine yRt ?_
  repeat (first | simp only [Exit.inBlock] | simp only [Exit.then])
  have h21 := tk2 (sf1 (sf2 h17))
  refine hi_out [] (.tuple #[.slice none 0 0, iV 3]) [] (by kernel_rfl) (by intro q hq; cases hq) ?_
  exact ⟨.tuple #[.slice none 0 0, iV 3], [Tab b n A E RL], rfl, ⟨rfl, rfl⟩, h21⟩

end Go.Proofs.YtehlamblpekmkaaGreatDoor

/- Walks, printed by my generator P:../tab/gen14.py. -/
namespace Go.Proofs.YtehlamblpekmkaaGreatDoor
set_option maxHeartbeats 4000000
theorem thas_t (b n : Nat) (A : List Sl2) (E : Tm) (RL : List Rs) (hx hy : Int) (h : ∃ e ∈ allE E, e.h = (hx, hy)) : HT Tryz.prog 142 [Value.pointer (some ⟨b, 0, none⟩), Value.agg #[Value.int IntKind.i64 hx, Value.int IntKind.u32 hy]] [Tab b n A E RL] (fun v K => v = Value.bool true ∧ K = [Tab b n A E RL]) :=
  (thas_ht b n A E RL hx hy).mono fun v K hP => by
    rcases hP with ⟨hv, h1, hK⟩ | ⟨hv, h1, hK⟩
    · exact ⟨hv, hK⟩
    · obtain ⟨e, he, h2⟩ := h; exact absurd h2 (h1 e he)
theorem thas_f (b n : Nat) (A : List Sl2) (E : Tm) (RL : List Rs) (hx hy : Int) (h : ∀ e ∈ allE E, e.h ≠ (hx, hy)) : HT Tryz.prog 142 [Value.pointer (some ⟨b, 0, none⟩), Value.agg #[Value.int IntKind.i64 hx, Value.int IntKind.u32 hy]] [Tab b n A E RL] (fun v K => v = Value.bool false ∧ K = [Tab b n A E RL]) :=
  (thas_ht b n A E RL hx hy).mono fun v K hP => by
    rcases hP with ⟨hv, h1, hK⟩ | ⟨hv, h1, hK⟩
    · obtain ⟨e, he, h1⟩ := h1; exact absurd h1 (h e he)
    · exact ⟨hv, hK⟩
theorem ne_trip {p : Ky} {a b c : Int} (h : ¬ (p.1 = a ∧ p.2.1 = b ∧ p.2.2 = c)) : p ≠ (a, b, c) := by
  rintro rfl
  exact h ⟨rfl, rfl, rfl⟩
theorem ridx_go {L : List Rs} {k : Nat} {P : Rs → Prop} {x : Rs} (h : ∀ (j : Nat) (o : Rs), j < k → L[j]? = some o → P o) (hx : L[k]? = some x) (hp : P x) : ∀ (j : Nat) (o : Rs), j < k + 1 → L[j]? = some o → P o := fun j o hj ho => by
  rcases Nat.lt_succ_iff_lt_or_eq.1 hj with h1 | rfl
  · exact h j o h1 ho
  · rw [hx] at ho
    obtain rfl := Option.some.inj ho
    exact hp
theorem rall_idx {L : List Rs} {k : Nat} {P : Rs → Prop} (h : ∀ (j : Nat) (o : Rs), j < k → L[j]? = some o → P o) (hk : L.length ≤ k) : ∀ o ∈ L, P o := fun o ho => by
  obtain ⟨j, hj⟩ := List.getElem?_of_mem ho
  exact h j o (Nat.lt_of_lt_of_le (List.getElem?_eq_some_iff.1 hj).1 hk) hj
theorem tseq72_eql_t {n : Nat} {l : Fr} {o : Oper} {x y : Operand} (a0 : Int) (a1 : Int) (a2 : Int) (c0 : Int) (c1 : Int) (c2 : Int) (ho : o.op = .binOp .eql 72 x y 72) (hx : fe n l x = .agg #[.int .i64 a0, .int .i64 a1, .int .u32 a2]) (hy : fe n l y = .agg #[.int .i64 c0, .int .i64 c1, .int .u32 c2]) (h : a0 = c0 ∧ a1 = c1 ∧ a2 = c2) (w : World) : (execOp (fe n l) o).run Tryz.prog w = .ok (.value (.bool true)) w := by
  obtain ⟨rfl, rfl, rfl⟩ := h
  simp [execOp, ho, hx, hy, go_sem]
theorem tseq72_eql_f {n : Nat} {l : Fr} {o : Oper} {x y : Operand} (a0 : Int) (a1 : Int) (a2 : Int) (c0 : Int) (c1 : Int) (c2 : Int) (ho : o.op = .binOp .eql 72 x y 72) (hx : fe n l x = .agg #[.int .i64 a0, .int .i64 a1, .int .u32 a2]) (hy : fe n l y = .agg #[.int .i64 c0, .int .i64 c1, .int .u32 c2]) (h : ¬ (a0 = c0 ∧ a1 = c1 ∧ a2 = c2)) (w : World) : (execOp (fe n l) o).run Tryz.prog w = .ok (.value (.bool false)) w := by
  by_cases h0 : a0 = c0
  · skip
    by_cases h1 : a1 = c1
    · skip
      by_cases h2 : a2 = c2
      · exact absurd ⟨h0, h1, h2⟩ h
      · simp [execOp, ho, hx, hy, go_sem, h0, h1, h2]
    · simp [execOp, ho, hx, hy, go_sem, h0, h1]
  · simp [execOp, ho, hx, hy, go_sem, h0]
theorem op1_t (b : Nat) (u1 u2 u3 s1 s2 s3 s4 : Int) (tg : List UInt8) (x y z : Int) (h : u1 = x ∧ u2 = y ∧ u3 = z) : HT Tryz.prog 141 [.agg #[iV u1, iV u2, uV u3, iV s1, iV s2, iV s3, iV s4, .string (St tg)], pV b] [Cl b [iV x, iV y, uV z] 72] (fun v K => v = .bool true ∧ K = [Cl b [iV x, iV y, uV z] 72]) := by
 refine hiS Tryz.func141 Tryz.ntmps141 fun g w0 R h0 => go [] <| nP 82 [iV u1, iV u2, uV u3, iV s1, iV s2, iV s3, iV s4, .string (St tg)] h0 (fun _ _ h12 => ?_)
 refine go [rd 1 1 0 0 3 h12, rd 1 2 1 0 3 h12, .s 1 3] <| lwP (.bool true) (tseq72_eql_t (x := (Operand.tmp 5)) (y := (Operand.tmp 6)) u1 u2 u3 x y z (by kernel_rfl) (by kernel_rfl) (by kernel_rfl) ⟨(by omega), (by omega), (by omega)⟩ _) <| go [] ?_
 exact en (.bool true) [] ⟨_, _, rfl, ⟨rfl, rfl⟩, (tk2 (sf1 (sf2 (tk3 (sf2 (sf1 (sf2 h12)))))))⟩

theorem op1_f (b : Nat) (u1 u2 u3 s1 s2 s3 s4 : Int) (tg : List UInt8) (x y z : Int) (h : ¬ (u1 = x ∧ u2 = y ∧ u3 = z)) : HT Tryz.prog 141 [.agg #[iV u1, iV u2, uV u3, iV s1, iV s2, iV s3, iV s4, .string (St tg)], pV b] [Cl b [iV x, iV y, uV z] 72] (fun v K => v = .bool false ∧ K = [Cl b [iV x, iV y, uV z] 72]) := by
 refine hiS Tryz.func141 Tryz.ntmps141 fun g w0 R h0 => go [] <| nP 82 [iV u1, iV u2, uV u3, iV s1, iV s2, iV s3, iV s4, .string (St tg)] h0 (fun _ _ h12 => ?_)
 refine go [rd 1 1 0 0 3 h12, rd 1 2 1 0 3 h12, .s 1 3] ?_
 by_cases c13 : u1 = x
 ·
  by_cases c14 : u2 = y
  ·
   refine lwP (.bool false) (tseq72_eql_f (x := (Operand.tmp 5)) (y := (Operand.tmp 6)) u1 u2 u3 x y z (by kernel_rfl) (by kernel_rfl) (by kernel_rfl) (by omega) _) <| go [] ?_
   exact en (.bool false) [] ⟨_, _, rfl, ⟨rfl, rfl⟩, (tk2 (sf1 (sf2 (tk3 (sf2 (sf1 (sf2 h12)))))))⟩
  refine lwP (.bool false) (tseq72_eql_f (x := (Operand.tmp 5)) (y := (Operand.tmp 6)) u1 u2 u3 x y z (by kernel_rfl) (by kernel_rfl) (by kernel_rfl) (by omega) _) <| go [] ?_
  exact en (.bool false) [] ⟨_, _, rfl, ⟨rfl, rfl⟩, (tk2 (sf1 (sf2 (tk3 (sf2 (sf1 (sf2 h12)))))))⟩
 refine lwP (.bool false) (tseq72_eql_f (x := (Operand.tmp 5)) (y := (Operand.tmp 6)) u1 u2 u3 x y z (by kernel_rfl) (by kernel_rfl) (by kernel_rfl) (by omega) _) <| go [] ?_
 exact en (.bool false) [] ⟨_, _, rfl, ⟨rfl, rfl⟩, (tk2 (sf1 (sf2 (tk3 (sf2 (sf1 (sf2 h12)))))))⟩

theorem r_index (p : Option Addr) (m c b : Nat) (L : List Rs) (x y z : Int) (hm : m ≤ 1000000) : HT Tryz.prog 204 [.slice p m c, .func (Fn.func 141) #[] #[pV b]] [Sl 82 8 p m c (fl eRs L), Cl b [iV x, iV y, uV z] 72] (fun v K => (∃ k : Nat, v = iV (k : Int) ∧ (∃ r ∈ L, r.out = (x, y, z)) ∧ K = [Sl 82 8 p m c (fl eRs L), Cl b [iV x, iV y, uV z] 72]) ∨ (v = iV (-1) ∧ (∀ r ∈ L, r.out ≠ (x, y, z)) ∧ K = [Sl 82 8 p m c (fl eRs L), Cl b [iV x, iV y, uV z] 72])) := by
 refine hiS Tryz.func204 Tryz.ntmps204 fun g w0 R h0 => go [] ?_
 have hl10 := fl_n eRs_ok (by decide) h0
 refine lpS (fun mz_ a w => ∃ k : Nat, ∃ lr : Fr, mz_ = m - k ∧ (k ≤ m) ∧ (∀ (j : Nat) (o : Rs), j < k → L[j]? = some o → o.out ≠ (x, y, z)) ∧ a = mk 19 (([(0, .slice p m c), (1, .func (Fn.func 141) #[] #[pV b]), (7, iV (m : Int)), (8, iV (k : Int))] : Fr) ++ lr) ∧ sat g w [Sl 82 8 p m c (fl eRs L), Cl b [iV x, iV y, uV z] 72, R]) (m - 0) ⟨0, _, rfl, (Nat.zero_le _), (fun j o h _ => absurd h (Nat.not_lt_zero _)), (lvF [.k 0 (.slice p m c), .k 1 (.func (Fn.func 141) #[] #[pV b]), .k 7 (iV (m : Int)), .o 8 (oJ .i64 0 (0 : Int))]), h0⟩ ?_
 rintro m12 a13 w14 ⟨k, lr11, rfl, hk, hall_, rfl, h15⟩
 refine ga <| go [.s 2 0] ?_
 by_cases c16 : (k : Int) < (m : Int)
 ·
  obtain ⟨b17, hp18⟩ := sl_ptr0 (j := 0) h15 rfl (by omega)
  refine go [.v 2 0 (oT ((k : Int) < (m : Int))), .s 4 3] <| lwP (.pointer (some ⟨b17, k * 8, none⟩)) (law_indexSlP (x := (Operand.tmp 12)) (i := (Operand.tmp 13)) (p := p) (b := b17) (off := 0) (z := (k : Int)) (len := m) (cap := c) (by kernel_rfl) Tryz.underlying33 8 (by kernel_rfl) k (by kernel_rfl) hp18 (by kernel_rfl) (by omega) (by omega) (k * 8) (by omega) _) ?_
  obtain ⟨x19, hx20⟩ : ∃ x, L[k]? = some x := ⟨_, List.getElem?_eq_getElem (by rw [hl10]; omega)⟩
  refine go [.r 4 4 b17 (k * 8) [iV x19.out.1, iV x19.out.2.1, uV x19.out.2.2, iV x19.st, iV x19.why, iV x19.tr, iV x19.nx, .string (St x19.tag)] ⟨gv_cell (j := 0) h15 rfl (gv_sl _ _ _) hp18 (fl_get eRs_ok (j := 0) (v := iV x19.out.1) hx20 rfl) (k * 8) (by omega), gv_cell (j := 0) h15 rfl (gv_sl _ _ _) hp18 (fl_get eRs_ok (j := 1) (v := iV x19.out.2.1) hx20 rfl) (k * 8 + 1) (by omega), gv_cell (j := 0) h15 rfl (gv_sl _ _ _) hp18 (fl_get eRs_ok (j := 2) (v := uV x19.out.2.2) hx20 rfl) (k * 8 + 2) (by omega), gv_cell (j := 0) h15 rfl (gv_sl _ _ _) hp18 (fl_get eRs_ok (j := 3) (v := iV x19.st) hx20 rfl) (k * 8 + 3) (by omega), gv_cell (j := 0) h15 rfl (gv_sl _ _ _) hp18 (fl_get eRs_ok (j := 4) (v := iV x19.why) hx20 rfl) (k * 8 + 4) (by omega), gv_cell (j := 0) h15 rfl (gv_sl _ _ _) hp18 (fl_get eRs_ok (j := 5) (v := iV x19.tr) hx20 rfl) (k * 8 + 5) (by omega), gv_cell (j := 0) h15 rfl (gv_sl _ _ _) hp18 (fl_get eRs_ok (j := 6) (v := iV x19.nx) hx20 rfl) (k * 8 + 6) (by omega), gv_cell (j := 0) h15 rfl (gv_sl _ _ _) hp18 (fl_get eRs_ok (j := 7) (v := .string (St x19.tag)) hx20 rfl) (k * 8 + 7) (by omega), trivial⟩] ?_
  by_cases c21 : x19.out.1 = x
  ·
   by_cases c22 : x19.out.2.1 = y
   ·
    by_cases c23 : x19.out.2.2 = z
    ·
     refine cl1 Tryz.call141 (op1_t b x19.out.1 x19.out.2.1 x19.out.2.2 x19.st x19.why x19.tr x19.nx x19.tag x y z (by omega)) (tk3 (sf2 (sf1 (sf2 h15)))) fun _ h26 => go [] <| up <| go [] ?_
     exact en (iV (k : Int)) [] ⟨_, [Sl 82 8 p m c (fl eRs L), Cl b [iV x, iV y, uV z] 72], rfl, (.inl ⟨k, rfl, ⟨x19, List.mem_of_getElem? hx20, Prod.ext (show x19.out.1 = x from by omega) (Prod.ext (show x19.out.2.1 = y from by omega) (show x19.out.2.2 = z from by omega))⟩, rfl⟩), (tk3 (sf2 (sf1 (sf2 h26))))⟩
    refine cl1 Tryz.call141 (op1_f b x19.out.1 x19.out.2.1 x19.out.2.2 x19.st x19.why x19.tr x19.nx x19.tag x y z (by omega)) (tk3 (sf2 (sf1 (sf2 h15)))) fun _ h30 => go [.v 6 0 (oIr ((k : Int) + 1))] ?_
    refine enL ?_
    have h31 := tk3 (sf2 (sf1 (sf2 h30)))
    change ∃ n', n' < _ ∧ _
    refine ⟨(m - (k + 1)), by omega, (k + 1), _, rfl, (by omega), (ridx_go hall_ hx20 (ne_trip (by omega))), (lvF [.k 0 (.slice p m c), .k 1 (.func (Fn.func 141) #[] #[pV b]), .k 7 (iV (m : Int)), .o 8 (oJ .i64 ((k : Int) + 1) ((((k + 1) : Nat) : Int)))]), h31⟩
   refine cl1 Tryz.call141 (op1_f b x19.out.1 x19.out.2.1 x19.out.2.2 x19.st x19.why x19.tr x19.nx x19.tag x y z (by omega)) (tk3 (sf2 (sf1 (sf2 h15)))) fun _ h34 => go [.v 6 0 (oIr ((k : Int) + 1))] ?_
   refine enL ?_
   have h35 := tk3 (sf2 (sf1 (sf2 h34)))
   change ∃ n', n' < _ ∧ _
   refine ⟨(m - (k + 1)), by omega, (k + 1), _, rfl, (by omega), (ridx_go hall_ hx20 (ne_trip (by omega))), (lvF [.k 0 (.slice p m c), .k 1 (.func (Fn.func 141) #[] #[pV b]), .k 7 (iV (m : Int)), .o 8 (oJ .i64 ((k : Int) + 1) ((((k + 1) : Nat) : Int)))]), h35⟩
  refine cl1 Tryz.call141 (op1_f b x19.out.1 x19.out.2.1 x19.out.2.2 x19.st x19.why x19.tr x19.nx x19.tag x y z (by omega)) (tk3 (sf2 (sf1 (sf2 h15)))) fun _ h38 => go [.v 6 0 (oIr ((k : Int) + 1))] ?_
  refine enL ?_
  have h39 := tk3 (sf2 (sf1 (sf2 h38)))
  change ∃ n', n' < _ ∧ _
  refine ⟨(m - (k + 1)), by omega, (k + 1), _, rfl, (by omega), (ridx_go hall_ hx20 (ne_trip (by omega))), (lvF [.k 0 (.slice p m c), .k 1 (.func (Fn.func 141) #[] #[pV b]), .k 7 (iV (m : Int)), .o 8 (oJ .i64 ((k : Int) + 1) ((((k + 1) : Nat) : Int)))]), h39⟩
 refine go [.v 2 0 (oF ((k : Int) < (m : Int)))] <| up <| go [] ?_
 exact en (iV (-1)) [] ⟨_, [Sl 82 8 p m c (fl eRs L), Cl b [iV x, iV y, uV z] 72], rfl, (.inr ⟨rfl, rall_idx (k := k) hall_ (by omega), rfl⟩), h15⟩

theorem r_has (p : Option Addr) (m c b : Nat) (L : List Rs) (x y z : Int) (hm : m ≤ 1000000) : HT Tryz.prog 140 [.slice p m c, .func (Fn.func 141) #[] #[pV b]] [Sl 82 8 p m c (fl eRs L), Cl b [iV x, iV y, uV z] 72] (fun v K => (v = .bool true ∧ (∃ r ∈ L, r.out = (x, y, z)) ∧ K = [Sl 82 8 p m c (fl eRs L), Cl b [iV x, iV y, uV z] 72]) ∨ (v = .bool false ∧ (∀ r ∈ L, r.out ≠ (x, y, z)) ∧ K = [Sl 82 8 p m c (fl eRs L), Cl b [iV x, iV y, uV z] 72])) := by
 refine hiS Tryz.func140 Tryz.ntmps140 fun g w0 R h0 => go [] <| cP Tryz.call204 (r_index p m c b L x y z (by omega)) h0 ?_
 rintro v K _ (⟨k10, rfl, hf11, rfl⟩ | ⟨rfl, hf11, rfl⟩) h13
 ·
  have h14 := ap2 h13
  refine go [.v 1 3 (oT ((k10 : Int) ≥ 0))] ?_
  exact en (.bool true) [] ⟨_, [Sl 82 8 p m c (fl eRs L), Cl b [iV x, iV y, uV z] 72], rfl, (.inl ⟨rfl, hf11, rfl⟩), h14⟩
 have h15 := ap2 h13
 refine go [] ?_
 exact en (.bool false) [] ⟨_, [Sl 82 8 p m c (fl eRs L), Cl b [iV x, iV y, uV z] 72], rfl, (.inr ⟨rfl, hf11, rfl⟩), h15⟩

theorem rhas_t (p : Option Addr) (m c b : Nat) (L : List Rs) (x y z : Int) (h : ∃ r ∈ L, r.out = (x, y, z)) (hm : m ≤ 1000000) : HT Tryz.prog 140 [Value.slice p m c, Value.func (Fn.func 141) #[] #[Value.pointer (some ⟨b, 0, none⟩)]] [Sl 82 8 p m c (fl eRs L), Cl b [Value.int IntKind.i64 x, Value.int IntKind.i64 y, Value.int IntKind.u32 z] 72] (fun v K => v = Value.bool true ∧ K = [Sl 82 8 p m c (fl eRs L), Cl b [Value.int IntKind.i64 x, Value.int IntKind.i64 y, Value.int IntKind.u32 z] 72]) :=
  (r_has p m c b L x y z hm).mono fun v K hP => by
    rcases hP with ⟨hv, h1, hK⟩ | ⟨hv, h1, hK⟩
    · exact ⟨hv, hK⟩
    · obtain ⟨e, he, h2⟩ := h; exact absurd h2 (h1 e he)

theorem rhas_f (p : Option Addr) (m c b : Nat) (L : List Rs) (x y z : Int) (h : ∀ r ∈ L, r.out ≠ (x, y, z)) (hm : m ≤ 1000000) : HT Tryz.prog 140 [Value.slice p m c, Value.func (Fn.func 141) #[] #[Value.pointer (some ⟨b, 0, none⟩)]] [Sl 82 8 p m c (fl eRs L), Cl b [Value.int IntKind.i64 x, Value.int IntKind.i64 y, Value.int IntKind.u32 z] 72] (fun v K => v = Value.bool false ∧ K = [Sl 82 8 p m c (fl eRs L), Cl b [Value.int IntKind.i64 x, Value.int IntKind.i64 y, Value.int IntKind.u32 z] 72]) :=
  (r_has p m c b L x y z hm).mono fun v K hP => by
    rcases hP with ⟨hv, h1, hK⟩ | ⟨hv, h1, hK⟩
    · obtain ⟨e, he, h1⟩ := h1; exact absurd h1 (h e he)
    · exact ⟨hv, hK⟩

end Go.Proofs.YtehlamblpekmkaaGreatDoor

/- Walks, printed by my generator P:../tab/gen15.py. -/
namespace Go.Proofs.YtehlamblpekmkaaGreatDoor
set_option maxHeartbeats 4000000
theorem tnew_ok (n : Nat) (gn : Int) (hn : 1 ≤ n ∧ n ≤ 256) (hgn : 1 ≤ gn ∧ gn ≤ 4294967295) : HT Tryz.prog 41 [iV (((n : Nat) : Int)), uV gn] [] (fun v K => ∃ b : Nat, v = .tuple #[pV b, iV 0] ∧ K = [Tab b n (List.replicate n (0, gn)) [] []]) := by
 refine hiS Tryz.func41 Tryz.ntmps41 fun g w0 R h0 => go [] <| cP Tryz.call96 (snew_ok n (by omega) gn (by omega)) h0 ?_
 rintro v K _ (⟨b10, rfl, rfl⟩) h12
 have h13 := ap1 h12
 refine go [] ?_
 refine actG ?_
 refine ag_makeMap (t := 32) (d := 18) kI vE (by kernel_rfl) (by kernel_rfl) rfl h13 ?_
 intro r14 _ h16
 refine nxA <| go [] <| nP 35 [pV b10, .map (some r14), .slice none 0 0] h16 (fun r17 w18 h19 => ?_)
 refine go [] ?_
 have h20 : sat g w18 [Sl 82 8 none 0 0 (fl eRs []), Cl r17 [pV b10, .map (some r14), .slice none 0 0] 35, Gp kI vE r14 [], Tb b10 n (List.replicate n (0, gn)), R] := sl_nil 82 8 h19
 have h22 : sat g w18 [Tab r17 n (List.replicate n (0, gn)) [] [], R] := tab_close (meq_refl List.nodup_nil) (by decide) (by first | rfl | omega) (tk5 (sf4 (sf4 (sf3 (sf1 (sf4 h20))))))
 exact en (.tuple #[pV r17, iV 0]) [] ⟨_, _, rfl, ⟨r17, rfl, rfl⟩, h22⟩

end Go.Proofs.YtehlamblpekmkaaGreatDoor

/- Walks, printed by my generator P:../tab/gen16.py. -/
namespace Go.Proofs.YtehlamblpekmkaaGreatDoor
set_option maxHeartbeats 4000000
theorem topen_tag (b n : Nat) (A : List Sl2) (E : Tm) (RL : List Rs) (x y z hx hy : Int) (L : List UInt8) (hz0 : 0 ≤ z) (hz1 : z ≤ 4294967295) (hm : L.length ≤ 1099511627776) (ho : 1 ≤ x ∧ x ≤ 3 ∧ 0 ≤ y ∧ y ≤ 63 ∧ 1 ≤ z) (ht : ¬ tagE L = 0) : HT Tryz.prog 69 [pV b, .agg #[iV x, iV y, uV z], .string (St L), .agg #[iV hx, uV hy]] [Tab b n A E RL] (fun v K => v = .tuple #[.agg #[iV 0, iV 0, uV 0], iV 16] ∧ K = [Tab b n A E RL]) := by
 refine hiS Tryz.func69 Tryz.ntmps69 fun g w0 R h0 => go [] <| nP 72 [iV x, iV y, uV z] h0 (fun _ _ h12 => ?_)
 refine nP 148 [iV hx, uV hy] h12 (fun _ _ h15 => ?_)
 refine nP 144 [iV 0, iV 0, uV 0] h15 (fun _ _ h18 => ?_)
 have h19 := tk5 (sf4 (sf3 (sf3 (sf3 (sf4 h18)))))
 refine go [] <| cl1 Tryz.call121 (tvalid_ht b n A E RL) h19 fun _ h21 => go [rd 3 0 3 0 3 h21] <| cl0 Tryz.call138 (rnew_tag x y z L (by omega) (by omega) (by omega) (by omega) (by omega)) h21 fun _ h23 => go [] <| nP 82 [iV 0, iV 0, uV 0, iV 0, iV 0, iV 0, iV 0, .string (St [])] h23 (fun _ _ h26 => ?_)
 refine sP [(0, iV 0), (1, iV 0), (2, uV 0), (3, iV 0), (4, iV 0), (5, iV 0), (6, iV 0), (7, .string (St []))] [iV 0, iV 0, uV 0, iV 0, iV 0, iV 0, iV 0, .string (St [])] h26 fun _ h28 => ?_
 have h29 := tk6 (sf5 (sf4 (sf4 (sf5 (sf5 (sf5 h28))))))
 refine go [] <| sP [(0, iV 0), (1, iV 0), (2, uV 0)] [iV 0, iV 0, uV 0] h29 fun _ h31 => go [] ?_
 exact en (.tuple #[.agg #[iV 0, iV 0, uV 0], iV 16]) [rd 0 0 0 0 3 h31] ⟨_, _, rfl, ⟨rfl, rfl⟩, (tk2 (sf1 (sf5 (tk6 (sf5 (sf4 (sf4 (sf5 (sf5 (sf5 h31))))))))))⟩

theorem topen_out (b n : Nat) (A : List Sl2) (E : Tm) (RL : List Rs) (x y z hx hy : Int) (L : List UInt8) (hz0 : 0 ≤ z) (hz1 : z ≤ 4294967295) (hm : L.length ≤ 1099511627776) (ho : ¬ (1 ≤ x ∧ x ≤ 3 ∧ 0 ≤ y ∧ y ≤ 63 ∧ 1 ≤ z)) : HT Tryz.prog 69 [pV b, .agg #[iV x, iV y, uV z], .string (St L), .agg #[iV hx, uV hy]] [Tab b n A E RL] (fun v K => v = .tuple #[.agg #[iV 0, iV 0, uV 0], iV 2] ∧ K = [Tab b n A E RL]) := by
 refine hiS Tryz.func69 Tryz.ntmps69 fun g w0 R h0 => go [] <| nP 72 [iV x, iV y, uV z] h0 (fun _ _ h12 => ?_)
 refine nP 148 [iV hx, uV hy] h12 (fun _ _ h15 => ?_)
 refine nP 144 [iV 0, iV 0, uV 0] h15 (fun _ _ h18 => ?_)
 have h19 := tk5 (sf4 (sf3 (sf3 (sf3 (sf4 h18)))))
 refine go [] <| cl1 Tryz.call121 (tvalid_ht b n A E RL) h19 fun _ h21 => go [rd 3 0 3 0 3 h21] <| cl0 Tryz.call138 (rnew_no x y z L (by omega) (by omega) (by omega) (by omega)) h21 fun _ h23 => go [] <| nP 82 [iV 0, iV 0, uV 0, iV 0, iV 0, iV 0, iV 0, .string (St [])] h23 (fun _ _ h26 => ?_)
 refine sP [(0, iV 0), (1, iV 0), (2, uV 0), (3, iV 0), (4, iV 0), (5, iV 0), (6, iV 0), (7, .string (St []))] [iV 0, iV 0, uV 0, iV 0, iV 0, iV 0, iV 0, .string (St [])] h26 fun _ h28 => ?_
 have h29 := tk6 (sf5 (sf4 (sf4 (sf5 (sf5 (sf5 h28))))))
 refine go [] <| sP [(0, iV 0), (1, iV 0), (2, uV 0)] [iV 0, iV 0, uV 0] h29 fun _ h31 => go [] ?_
 exact en (.tuple #[.agg #[iV 0, iV 0, uV 0], iV 2]) [rd 0 0 0 0 3 h31] ⟨_, _, rfl, ⟨rfl, rfl⟩, (tk2 (sf1 (sf5 (tk6 (sf5 (sf4 (sf4 (sf5 (sf5 (sf5 h31))))))))))⟩

theorem topen_arg (b n : Nat) (A : List Sl2) (E : Tm) (RL : List Rs) (x y z hx hy : Int) (L : List UInt8) (hz0 : 0 ≤ z) (hz1 : z ≤ 4294967295) (hm : L.length ≤ 1099511627776) (ho : 1 ≤ x ∧ x ≤ 3 ∧ 0 ≤ y ∧ y ≤ 63 ∧ 1 ≤ z) (ht : tagE L = 0) (hob : hx < 0 ∨ 255 < hx ∨ hy ≤ 0) : HT Tryz.prog 69 [pV b, .agg #[iV x, iV y, uV z], .string (St L), .agg #[iV hx, uV hy]] [Tab b n A E RL] (fun v K => v = .tuple #[.agg #[iV 0, iV 0, uV 0], iV 2] ∧ K = [Tab b n A E RL]) := by
 refine hiS Tryz.func69 Tryz.ntmps69 fun g w0 R h0 => go [] <| nP 72 [iV x, iV y, uV z] h0 (fun _ _ h12 => ?_)
 refine nP 148 [iV hx, uV hy] h12 (fun _ _ h15 => ?_)
 refine nP 144 [iV 0, iV 0, uV 0] h15 (fun _ _ h18 => ?_)
 have h19 := tk5 (sf4 (sf3 (sf3 (sf3 (sf4 h18)))))
 refine go [] <| cl1 Tryz.call121 (tvalid_ht b n A E RL) h19 fun _ h21 => go [rd 3 0 3 0 3 h21] <| cl0 Tryz.call138 (rnew_ok x y z L (by omega) (by omega) (by omega) (by omega) (by omega)) h21 fun _ h23 => go [] <| nP 82 [iV 0, iV 0, uV 0, iV 0, iV 0, iV 0, iV 0, .string (St [])] h23 (fun _ _ h26 => ?_)
 refine sP [(0, iV x), (1, iV y), (2, uV z), (3, iV 1), (4, iV 0), (5, iV 0), (6, iV 0), (7, .string (St L))] [iV x, iV y, uV z, iV 1, iV 0, iV 0, iV 0, .string (St L)] h26 fun _ h28 => go [rd 6 0 3 0 2 h28] ?_
 by_cases c29 : 0 ≤ hx
 ·
  by_cases c30 : hx ≤ 255
  ·
   refine cl0 Tryz.call139 (obj_f hx hy (by omega)) h28 fun _ h32 => ?_
   have h33 := tk6 (sf5 (sf4 (sf4 (sf5 (sf5 (sf5 h32))))))
   refine go [] <| sP [(0, iV 0), (1, iV 0), (2, uV 0)] [iV 0, iV 0, uV 0] h33 fun _ h35 => go [] ?_
   exact en (.tuple #[.agg #[iV 0, iV 0, uV 0], iV 2]) [rd 0 0 0 0 3 h35] ⟨_, _, rfl, ⟨rfl, rfl⟩, (tk2 (sf1 (sf5 (tk6 (sf5 (sf4 (sf4 (sf5 (sf5 (sf5 h35))))))))))⟩
  refine cl0 Tryz.call139 (obj_f hx hy (by omega)) h28 fun _ h39 => ?_
  have h40 := tk6 (sf5 (sf4 (sf4 (sf5 (sf5 (sf5 h39))))))
  refine go [] <| sP [(0, iV 0), (1, iV 0), (2, uV 0)] [iV 0, iV 0, uV 0] h40 fun _ h42 => go [] ?_
  exact en (.tuple #[.agg #[iV 0, iV 0, uV 0], iV 2]) [rd 0 0 0 0 3 h42] ⟨_, _, rfl, ⟨rfl, rfl⟩, (tk2 (sf1 (sf5 (tk6 (sf5 (sf4 (sf4 (sf5 (sf5 (sf5 h42))))))))))⟩
 refine cl0 Tryz.call139 (obj_f hx hy (by omega)) h28 fun _ h46 => ?_
 have h47 := tk6 (sf5 (sf4 (sf4 (sf5 (sf5 (sf5 h46))))))
 refine go [] <| sP [(0, iV 0), (1, iV 0), (2, uV 0)] [iV 0, iV 0, uV 0] h47 fun _ h49 => go [] ?_
 exact en (.tuple #[.agg #[iV 0, iV 0, uV 0], iV 2]) [rd 0 0 0 0 3 h49] ⟨_, _, rfl, ⟨rfl, rfl⟩, (tk2 (sf1 (sf5 (tk6 (sf5 (sf4 (sf4 (sf5 (sf5 (sf5 h49))))))))))⟩

theorem topen_out2 (b n : Nat) (A : List Sl2) (E : Tm) (RL : List Rs) (x y z hx hy : Int) (L : List UInt8) (hz0 : 0 ≤ z) (hz1 : z ≤ 4294967295) (hm : L.length ≤ 1099511627776) (ho : 1 ≤ x ∧ x ≤ 3 ∧ 0 ≤ y ∧ y ≤ 63 ∧ 1 ≤ z) (ht : tagE L = 0) (hob : 0 ≤ hx ∧ hx ≤ 255 ∧ 1 ≤ hy) (hc : ∃ r ∈ RL, r.out = (x, y, z)) : HT Tryz.prog 69 [pV b, .agg #[iV x, iV y, uV z], .string (St L), .agg #[iV hx, uV hy]] [Tab b n A E RL] (fun v K => v = .tuple #[.agg #[iV 0, iV 0, uV 0], iV 6] ∧ K = [Tab b n A E RL]) := by
 refine hiS Tryz.func69 Tryz.ntmps69 fun g w0 R h0 => go [] <| nP 72 [iV x, iV y, uV z] h0 (fun r10 _ h12 => ?_)
 refine nP 148 [iV hx, uV hy] h12 (fun r13 _ h15 => ?_)
 refine nP 144 [iV 0, iV 0, uV 0] h15 (fun r16 _ h18 => ?_)
 have h19 := tk5 (sf4 (sf3 (sf3 (sf3 (sf4 h18)))))
 refine go [] <| cl1 Tryz.call121 (tvalid_ht b n A E RL) h19 fun _ h21 => go [rd 3 0 3 0 3 h21] <| cl0 Tryz.call138 (rnew_ok x y z L (by omega) (by omega) (by omega) (by omega) (by omega)) h21 fun _ h23 => go [] <| nP 82 [iV 0, iV 0, uV 0, iV 0, iV 0, iV 0, iV 0, .string (St [])] h23 (fun r24 _ h26 => ?_)
 refine sP [(0, iV x), (1, iV y), (2, uV z), (3, iV 1), (4, iV 0), (5, iV 0), (6, iV 0), (7, .string (St L))] [iV x, iV y, uV z, iV 1, iV 0, iV 0, iV 0, .string (St L)] h26 fun _ h28 => go [rd 6 0 3 0 2 h28] <| cl0 Tryz.call139 (obj_t hx hy (by omega)) h28 fun _ h30 => ?_
 obtain ⟨s32, m33, p34, c35, E36, hM37, h38⟩ := tab_open (tk6 (sf5 (sf4 (sf5 (sf5 (sf5 (sf5 h30)))))))
 have hRl_ := hM37.2
 have h39 := tk9 (sf8 (sf8 (sf6 (sf6 (sf6 (sf7 (sf7 (sf7 (sf8 h38)))))))))
 refine go [rd 8 3 0 2 1 h38] <| cl2 Tryz.call140 (rhas_t p34 RL.length c35 r10 RL x y z hc (by omega)) h39 fun _ h41 => ?_
 have h42 := tk9 (sf8 (sf7 (sf7 (sf7 (sf7 (sf7 (sf7 (sf8 (sf8 h41)))))))))
 refine go [] <| sP [(0, iV 0), (1, iV 0), (2, uV 0)] [iV 0, iV 0, uV 0] h42 fun w43 h44 => go [] ?_
 have h46 : sat g w43 [Tab b n A E RL, Cl r16 [iV 0, iV 0, uV 0] 144, Cl r10 [iV x, iV y, uV z] 72, Cl r24 [iV x, iV y, uV z, iV 1, iV 0, iV 0, iV 0, .string (St L)] 82, Cl r13 [iV hx, uV hy] 148, R] := tab_close hM37.1 (by omega) (by first | rfl | omega) (tk9 (sf8 (sf8 (sf8 (sf5 (sf4 (sf5 (sf8 (sf8 (sf8 h44))))))))))
 exact en (.tuple #[.agg #[iV 0, iV 0, uV 0], iV 6]) [rd 0 0 0 0 3 h44] ⟨_, _, rfl, ⟨rfl, rfl⟩, (tk2 (sf1 (sf5 h46)))⟩

theorem topen_have (b n : Nat) (A : List Sl2) (E : Tm) (RL : List Rs) (x y z hx hy : Int) (L : List UInt8) (hz0 : 0 ≤ z) (hz1 : z ≤ 4294967295) (hm : L.length ≤ 1099511627776) (ho : 1 ≤ x ∧ x ≤ 3 ∧ 0 ≤ y ∧ y ≤ 63 ∧ 1 ≤ z) (ht : tagE L = 0) (hob : 0 ≤ hx ∧ hx ≤ 255 ∧ 1 ≤ hy) (hc : ∀ r ∈ RL, r.out ≠ (x, y, z)) (hh : ∃ e ∈ allE E, e.h = (hx, hy)) : HT Tryz.prog 69 [pV b, .agg #[iV x, iV y, uV z], .string (St L), .agg #[iV hx, uV hy]] [Tab b n A E RL] (fun v K => v = .tuple #[.agg #[iV 0, iV 0, uV 0], iV 6] ∧ K = [Tab b n A E RL]) := by
 refine hiS Tryz.func69 Tryz.ntmps69 fun g w0 R h0 => go [] <| nP 72 [iV x, iV y, uV z] h0 (fun r10 _ h12 => ?_)
 refine nP 148 [iV hx, uV hy] h12 (fun r13 _ h15 => ?_)
 refine nP 144 [iV 0, iV 0, uV 0] h15 (fun r16 _ h18 => ?_)
 have h19 := tk5 (sf4 (sf3 (sf3 (sf3 (sf4 h18)))))
 refine go [] <| cl1 Tryz.call121 (tvalid_ht b n A E RL) h19 fun _ h21 => go [rd 3 0 3 0 3 h21] <| cl0 Tryz.call138 (rnew_ok x y z L (by omega) (by omega) (by omega) (by omega) (by omega)) h21 fun _ h23 => go [] <| nP 82 [iV 0, iV 0, uV 0, iV 0, iV 0, iV 0, iV 0, .string (St [])] h23 (fun r24 _ h26 => ?_)
 refine sP [(0, iV x), (1, iV y), (2, uV z), (3, iV 1), (4, iV 0), (5, iV 0), (6, iV 0), (7, .string (St L))] [iV x, iV y, uV z, iV 1, iV 0, iV 0, iV 0, .string (St L)] h26 fun _ h28 => go [rd 6 0 3 0 2 h28] <| cl0 Tryz.call139 (obj_t hx hy (by omega)) h28 fun _ h30 => ?_
 obtain ⟨s32, m33, p34, c35, E36, hM37, h38⟩ := tab_open (tk6 (sf5 (sf4 (sf5 (sf5 (sf5 (sf5 h30)))))))
 have hRl_ := hM37.2
 have h39 := tk9 (sf8 (sf8 (sf6 (sf6 (sf6 (sf7 (sf7 (sf7 (sf8 h38)))))))))
 refine go [rd 8 3 0 2 1 h38] <| cl2 Tryz.call140 (rhas_f p34 RL.length c35 r10 RL x y z hc (by omega)) h39 fun w40 h41 => ?_
 have h43 : sat g w40 [Tab b n A E RL, Cl r10 [iV x, iV y, uV z] 72, Cl r24 [iV x, iV y, uV z, iV 1, iV 0, iV 0, iV 0, .string (St L)] 82, Cl r16 [iV 0, iV 0, uV 0] 144, Cl r13 [iV hx, uV hy] 148, R] := tab_close hM37.1 (by omega) (by first | rfl | omega) (tk9 (sf8 (sf8 (sf8 (sf5 (sf5 (sf8 (sf8 (sf8 (sf8 h41))))))))))
 refine go [rd 8 8 7 0 2 h41] <| cl1 Tryz.call142 (thas_t b n A E RL hx hy hh) h43 fun _ h45 => ?_
 have h46 := tk6 (sf5 (sf4 (sf4 (sf4 (sf5 (sf5 h45))))))
 refine go [] <| sP [(0, iV 0), (1, iV 0), (2, uV 0)] [iV 0, iV 0, uV 0] h46 fun _ h48 => go [] ?_
 exact en (.tuple #[.agg #[iV 0, iV 0, uV 0], iV 6]) [rd 0 0 0 0 3 h48] ⟨_, _, rfl, ⟨rfl, rfl⟩, (tk2 (sf1 (sf5 (tk6 (sf5 (sf4 (sf5 (sf5 (sf5 (sf5 h48))))))))))⟩

theorem topen_full (b n : Nat) (A : List Sl2) (E : Tm) (RL : List Rs) (x y z hx hy : Int) (L : List UInt8) (hz0 : 0 ≤ z) (hz1 : z ≤ 4294967295) (hm : L.length ≤ 1099511627776) (ho : 1 ≤ x ∧ x ≤ 3 ∧ 0 ≤ y ∧ y ≤ 63 ∧ 1 ≤ z) (ht : tagE L = 0) (hob : 0 ≤ hx ∧ hx ≤ 255 ∧ 1 ≤ hy) (hc : ∀ r ∈ RL, r.out ≠ (x, y, z)) (hh : ∀ e ∈ allE E, e.h ≠ (hx, hy)) (hl : RL.length = 2000 ∨ (inS 0 A 0).length = 0) : HT Tryz.prog 69 [pV b, .agg #[iV x, iV y, uV z], .string (St L), .agg #[iV hx, uV hy]] [Tab b n A E RL] (fun v K => v = .tuple #[.agg #[iV 0, iV 0, uV 0], iV 4] ∧ K = [Tab b n A E RL]) := by
 refine hiS Tryz.func69 Tryz.ntmps69 fun g w0 R h0 => go [] <| nP 72 [iV x, iV y, uV z] h0 (fun r10 _ h12 => ?_)
 refine nP 148 [iV hx, uV hy] h12 (fun r13 _ h15 => ?_)
 refine nP 144 [iV 0, iV 0, uV 0] h15 (fun r16 _ h18 => ?_)
 have h19 := tk5 (sf4 (sf3 (sf3 (sf3 (sf4 h18)))))
 refine go [] <| cl1 Tryz.call121 (tvalid_ht b n A E RL) h19 fun _ h21 => go [rd 3 0 3 0 3 h21] <| cl0 Tryz.call138 (rnew_ok x y z L (by omega) (by omega) (by omega) (by omega) (by omega)) h21 fun _ h23 => go [] <| nP 82 [iV 0, iV 0, uV 0, iV 0, iV 0, iV 0, iV 0, .string (St [])] h23 (fun r24 _ h26 => ?_)
 refine sP [(0, iV x), (1, iV y), (2, uV z), (3, iV 1), (4, iV 0), (5, iV 0), (6, iV 0), (7, .string (St L))] [iV x, iV y, uV z, iV 1, iV 0, iV 0, iV 0, .string (St L)] h26 fun _ h28 => go [rd 6 0 3 0 2 h28] <| cl0 Tryz.call139 (obj_t hx hy (by omega)) h28 fun _ h30 => ?_
 obtain ⟨s32, m33, p34, c35, E36, hM37, h38⟩ := tab_open (tk6 (sf5 (sf4 (sf5 (sf5 (sf5 (sf5 h30)))))))
 have hRl_ := hM37.2
 have h39 := tk9 (sf8 (sf8 (sf6 (sf6 (sf6 (sf7 (sf7 (sf7 (sf8 h38)))))))))
 refine go [rd 8 3 0 2 1 h38] <| cl2 Tryz.call140 (rhas_f p34 RL.length c35 r10 RL x y z hc (by omega)) h39 fun w40 h41 => ?_
 have h43 : sat g w40 [Tab b n A E RL, Cl r10 [iV x, iV y, uV z] 72, Cl r24 [iV x, iV y, uV z, iV 1, iV 0, iV 0, iV 0, .string (St L)] 82, Cl r16 [iV 0, iV 0, uV 0] 144, Cl r13 [iV hx, uV hy] 148, R] := tab_close hM37.1 (by omega) (by first | rfl | omega) (tk9 (sf8 (sf8 (sf8 (sf5 (sf5 (sf8 (sf8 (sf8 (sf8 h41))))))))))
 refine go [rd 8 8 7 0 2 h41] <| cl1 Tryz.call142 (thas_f b n A E RL hx hy hh) h43 fun _ h45 => ?_
 obtain ⟨s46, m47, p48, c49, E50, hM51, h52⟩ := tab_open h45
 have hRl_ := hM51.2
 refine go [rd 10 3 0 2 1 h52, .s 10 5] ?_
 by_cases c53 : ((RL.length : Nat) : Int) ≥ 2000
 ·
  have h54 := tk9 (sf8 (sf7 (sf7 (sf7 (sf7 (sf7 (sf7 (sf8 (sf8 h52)))))))))
  refine go [.v 10 5 (oT (((RL.length : Nat) : Int) ≥ 2000))] <| sP [(0, iV 0), (1, iV 0), (2, uV 0)] [iV 0, iV 0, uV 0] h54 fun w55 h56 => go [] ?_
  have h58 : sat g w55 [Tab b n A E RL, Cl r16 [iV 0, iV 0, uV 0] 144, Cl r10 [iV x, iV y, uV z] 72, Cl r24 [iV x, iV y, uV z, iV 1, iV 0, iV 0, iV 0, .string (St L)] 82, Cl r13 [iV hx, uV hy] 148, R] := tab_close hM51.1 (by omega) (by first | rfl | omega) (tk9 (sf8 (sf8 (sf8 (sf8 (sf4 (sf8 (sf8 (sf8 (sf8 h56))))))))))
  exact en (.tuple #[.agg #[iV 0, iV 0, uV 0], iV 4]) [rd 0 0 0 0 3 h56] ⟨_, _, rfl, ⟨rfl, rfl⟩, (tk2 (sf1 (sf5 h58)))⟩
 have h60 := tk9 (sf8 (sf7 (sf8 (sf8 (sf8 (sf8 (sf8 (sf8 (sf8 h52)))))))))
 refine go [.v 10 5 (oF (((RL.length : Nat) : Int) ≥ 2000)), rd 10 10 0 0 1 h52] <| cl1 Tryz.call143 (sfree_ht s46 n A) h60 fun _ h62 => ?_
 have h63 := tk9 (sf8 (sf7 (sf7 (sf7 (sf7 (sf7 (sf7 (sf8 (sf8 h62)))))))))
 refine go [.v 10 12 (qeT ((((inS 0 A 0).length : Nat) : Int)) 0)] <| sP [(0, iV 0), (1, iV 0), (2, uV 0)] [iV 0, iV 0, uV 0] h63 fun w64 h65 => go [] ?_
 have h67 : sat g w64 [Tab b n A E RL, Cl r16 [iV 0, iV 0, uV 0] 144, Cl r10 [iV x, iV y, uV z] 72, Cl r24 [iV x, iV y, uV z, iV 1, iV 0, iV 0, iV 0, .string (St L)] 82, Cl r13 [iV hx, uV hy] 148, R] := tab_close hM51.1 (by omega) (by first | rfl | omega) (tk9 (sf8 (sf7 (sf8 (sf8 (sf4 (sf8 (sf8 (sf8 (sf8 h65))))))))))
 exact en (.tuple #[.agg #[iV 0, iV 0, uV 0], iV 4]) [rd 0 0 0 0 3 h65] ⟨_, _, rfl, ⟨rfl, rfl⟩, (tk2 (sf1 (sf5 h67)))⟩

theorem topen_ok (b n : Nat) (A : List Sl2) (E : Tm) (RL : List Rs) (x y z hx hy : Int) (L : List UInt8) (hz0 : 0 ≤ z) (hz1 : z ≤ 4294967295) (hm : L.length ≤ 1099511627776) (ho : 1 ≤ x ∧ x ≤ 3 ∧ 0 ≤ y ∧ y ≤ 63 ∧ 1 ≤ z) (ht : tagE L = 0) (hob : 0 ≤ hx ∧ hx ≤ 255 ∧ 1 ≤ hy) (hc : ∀ r ∈ RL, r.out ≠ (x, y, z)) (hh : ∀ e ∈ allE E, e.h ≠ (hx, hy)) (hl : RL.length < 2000) (j : Nat) (gj : Int) (hj : (inS 0 A 0)[0]? = some (j, gj)) (hfl_ : 1 ≤ (inS 0 A 0).length) : HT Tryz.prog 69 [pV b, .agg #[iV x, iV y, uV z], .string (St L), .agg #[iV hx, uV hy]] [Tab b n A E RL] (fun v K => v = .tuple #[.agg #[iV x, iV (((j : Nat) : Int)), uV gj], iV 0] ∧ K = [Tab b n (A.set j (1, gj)) (gset E (j : Int) ⟨(x, (j : Int), gj), (RL.length : Int) + 1, (hx, hy)⟩) (RL ++ [(⟨(x, y, z), 1, 0, 0, 0, L⟩ : Rs)])]) := by
 refine hiS Tryz.func69 Tryz.ntmps69 fun g w0 R h0 => go [] <| nP 72 [iV x, iV y, uV z] h0 (fun r10 _ h12 => ?_)
 refine nP 148 [iV hx, uV hy] h12 (fun r13 _ h15 => ?_)
 refine nP 144 [iV 0, iV 0, uV 0] h15 (fun r16 _ h18 => ?_)
 have h19 := tk5 (sf4 (sf3 (sf3 (sf3 (sf4 h18)))))
 refine go [] <| cl1 Tryz.call121 (tvalid_ht b n A E RL) h19 fun _ h21 => go [rd 3 0 3 0 3 h21] <| cl0 Tryz.call138 (rnew_ok x y z L (by omega) (by omega) (by omega) (by omega) (by omega)) h21 fun _ h23 => go [] <| nP 82 [iV 0, iV 0, uV 0, iV 0, iV 0, iV 0, iV 0, .string (St [])] h23 (fun r24 _ h26 => ?_)
 refine sP [(0, iV x), (1, iV y), (2, uV z), (3, iV 1), (4, iV 0), (5, iV 0), (6, iV 0), (7, .string (St L))] [iV x, iV y, uV z, iV 1, iV 0, iV 0, iV 0, .string (St L)] h26 fun _ h28 => go [rd 6 0 3 0 2 h28] <| cl0 Tryz.call139 (obj_t hx hy (by omega)) h28 fun _ h30 => ?_
 obtain ⟨s32, m33, p34, c35, E36, hM37, h38⟩ := tab_open (tk6 (sf5 (sf4 (sf5 (sf5 (sf5 (sf5 h30)))))))
 have hRl_ := hM37.2
 have h39 := tk9 (sf8 (sf8 (sf6 (sf6 (sf6 (sf7 (sf7 (sf7 (sf8 h38)))))))))
 refine go [rd 8 3 0 2 1 h38] <| cl2 Tryz.call140 (rhas_f p34 RL.length c35 r10 RL x y z hc (by omega)) h39 fun w40 h41 => ?_
 have h43 : sat g w40 [Tab b n A E RL, Cl r10 [iV x, iV y, uV z] 72, Cl r24 [iV x, iV y, uV z, iV 1, iV 0, iV 0, iV 0, .string (St L)] 82, Cl r16 [iV 0, iV 0, uV 0] 144, Cl r13 [iV hx, uV hy] 148, R] := tab_close hM37.1 (by omega) (by first | rfl | omega) (tk9 (sf8 (sf8 (sf8 (sf5 (sf5 (sf8 (sf8 (sf8 (sf8 h41))))))))))
 refine go [rd 8 8 7 0 2 h41] <| cl1 Tryz.call142 (thas_f b n A E RL hx hy hh) h43 fun _ h45 => ?_
 obtain ⟨s46, m47, p48, c49, E50, hM51, h52⟩ := tab_open h45
 have hRl_ := hM51.2
 have h53 := tk9 (sf8 (sf7 (sf8 (sf8 (sf8 (sf8 (sf8 (sf8 (sf8 h52)))))))))
 refine go [rd 10 3 0 2 1 h52, .v 10 5 (oF (((RL.length : Nat) : Int) ≥ 2000)), rd 10 10 0 0 1 h52] <| cl1 Tryz.call143 (sfree_ht s46 n A) h53 fun _ h55 => go [.v 10 12 (qeF ((((inS 0 A 0).length : Nat) : Int)) 0)] <| dw (fls [0, 1, 2, 3, 4, 5] (Tr.an 6 (Tr.an 7 (fls [8, 9] (Tr.an 10 Tr.nil))))) h55 fun _ h57 => go [rd 12 4 1 2 1 h57, rd 12 5 5 0 8 h57] <| nG (fun q_ => .slice (some ⟨q_, 0, none⟩) 1 1) 82 [iV x, iV y, uV z, iV 1, iV 0, iV 0, iV 0, .string (St L)] h57 (fun r58 _ h60 => ⟨kd [rd 0 4 2 2 1 h60], ?_⟩)
 have h61 := tk10 (sf9 (sf8 (sf8 (sf8 (sf8 (sf9 (sf9 (sf9 (sf9 (sf9 h60))))))))))
 refine actG ?_
 refine an_append (d := 67) (sz := 8) (s := (Operand.tmp 64)) (x := (Operand.tmp 66)) (z := .agg #[iV 0, iV 0, uV 0, iV 0, iV 0, iV 0, iV 0, .string (St [])]) (p := p48) (m := RL.length) (c := c49) (k := 1) (c2 := 1) (a := ⟨r58, 0, none⟩) (by_ := 72) (by kernel_rfl) (by kernel_rfl) rfl Tryz.underlying33 (by kernel_rfl) rfl (by decide) (by kernel_rfl) (by kernel_rfl) h61 (fl eRs [(⟨(x, y, z), 1, 0, 0, 0, L⟩ : Rs)]) rfl (fun j u hj => by rw [add_off]; exact sat_cell h61 1 rfl (by rw [Nat.zero_add]; exact hj)) (fl_one eRs_ok _) (by omega) (by omega) (RL.length + 1) (by omega) ?_
 intro p62 cap63 w64 h65
 have h66 : sat g w64 [Sl 82 8 p62 (RL.length + 1) cap63 (fl eRs (RL ++ [(⟨(x, y, z), 1, 0, 0, 0, L⟩ : Rs)])), Cl r58 [iV x, iV y, uV z, iV 1, iV 0, iV 0, iV 0, .string (St L)] 82, Tb s46 n A, Cl b [pV s46, .map (some m47), .slice p48 RL.length c49] 35, Gp kI vE m47 E50, Cl r10 [iV x, iV y, uV z] 72, Cl r24 [iV x, iV y, uV z, iV 1, iV 0, iV 0, iV 0, .string (St L)] 82, Cl r16 [iV 0, iV 0, uV 0] 144, Cl r13 [iV hx, uV hy] 148, R] := sat_imp h65 (fun _ hh => by rw [fl_app]; exact hh)
 obtain ⟨hn67, hn68⟩ := sl_le h66
 refine ⟨kd [], nxG ?_⟩
 have h69 := tk10 (sf9 (sf8 (sf8 (sf8 (sf9 (sf9 (sf9 (sf9 (sf9 (sf9 h66))))))))))
 refine go [] <| sG [(2, .slice p62 (RL.length + 1) cap63)] [pV s46, .map (some m47), .slice p62 (RL.length + 1) cap63] h69 fun _ h71 => ⟨kd [], ?_⟩
 refine go [] <| dw (fls [0, 1, 2, 3, 4, 5, 6] (Tr.an 7 (fls [8, 9] (Tr.an 10 (Tr.fl 11 Tr.nil))))) h71 fun w72 h73 => ?_
 have h75 : sat g w72 [TabX b n A E (RL ++ [(⟨(x, y, z), 1, 0, 0, 0, L⟩ : Rs)]) p62 (RL.length + 1) cap63, Cl r58 [iV x, iV y, uV z, iV 1, iV 0, iV 0, iV 0, .string (St L)] 82, Cl r10 [iV x, iV y, uV z] 72, Cl r24 [iV x, iV y, uV z, iV 1, iV 0, iV 0, iV 0, .string (St L)] 82, Cl r16 [iV 0, iV 0, uV 0] 144, Cl r13 [iV hx, uV hy] 148, R] := tabx_close hM51.1 (by simp only [List.length_append, List.length_set, List.length_cons, List.length_nil]; omega)  (tk10 (sf9 (sf9 (sf9 (sf7 (sf7 (sf9 (sf9 (sf9 (sf9 (sf9 h73)))))))))))
 refine go [rd 13 4 0 2 1 h73, .v 13 5 (oJ .i64 ((RL.length + 1 : Nat) : Int) (((RL.length : Nat) : Int) + 1)), rd 13 6 8 0 2 h73] <| cw1 Tryz.call144 (taddx_ok p62 (RL.length + 1) cap63 b n A E (RL ++ [(⟨(x, y, z), 1, 0, 0, 0, L⟩ : Rs)]) (((RL.length : Nat) : Int) + 1) hx hy RL.length (⟨(x, y, z), 1, 0, 0, 0, L⟩ : Rs) (show (RL ++ [(⟨(x, y, z), 1, 0, 0, 0, L⟩ : Rs)])[RL.length]? = some ((⟨(x, y, z), 1, 0, 0, 0, L⟩ : Rs) : Rs) from List.getElem?_concat_length) (by omega) j gj hj) h75 fun _ h77 => ⟨kd [], ?_⟩
 have h78 := tk7 (sf6 (sf5 (sf5 (sf5 (sf5 (sf6 (sf6 h77)))))))
 refine go [] <| sG [(0, iV x), (1, iV (j : Int)), (2, uV gj)] [iV x, iV (j : Int), uV gj] h78 fun w79 h80 => ⟨kd [], ?_⟩
 refine go [] ?_
 obtain ⟨s82, m83, E86, hM87, h88⟩ := tabx_open (tk7 (sf6 (sf5 (sf6 (sf6 (sf6 (sf6 (sf6 h80))))))))
 have hRl_ := hM87.2
 have h89 := tk10 (sf9 (sf8 (sf8 (sf8 (sf9 (sf9 (sf9 (sf9 (sf9 (sf9 h88))))))))))
 have hl90 := fl_n eRs_ok (by decide) h89
 have h92 : sat g w79 [Tab b n (A.set j (1, gj)) (gset E (j : Int) ⟨(x, (j : Int), gj), ((RL.length : Nat) : Int) + 1, (hx, hy)⟩) (RL ++ [(⟨(x, y, z), 1, 0, 0, 0, L⟩ : Rs)]), Cl r16 [iV x, iV (j : Int), uV gj] 144, Cl r58 [iV x, iV y, uV z, iV 1, iV 0, iV 0, iV 0, .string (St L)] 82, Cl r10 [iV x, iV y, uV z] 72, Cl r24 [iV x, iV y, uV z, iV 1, iV 0, iV 0, iV 0, .string (St L)] 82, Cl r13 [iV hx, uV hy] 148, R] := tab_close hM87.1 (by simp only [List.length_append, List.length_set, List.length_cons, List.length_nil]; omega) (by simp only [List.length_append, List.length_set, List.length_cons, List.length_nil]) (tk10 (sf9 (sf9 (sf9 (sf6 (sf9 (sf9 (sf9 (sf9 (sf9 (sf9 h89)))))))))))
 exact en (.tuple #[.agg #[iV x, iV (j : Int), uV gj], iV 0]) [rd 0 0 0 0 3 h80] ⟨_, _, rfl, ⟨rfl, rfl⟩, (tk2 (sf1 (sf6 h92)))⟩

end Go.Proofs.YtehlamblpekmkaaGreatDoor

/- Walks, printed by my generator P:../tab/gen17.py. -/
namespace Go.Proofs.YtehlamblpekmkaaGreatDoor
set_option maxHeartbeats 4000000
theorem tset_no (b n : Nat) (A : List Sl2) (E : Tm) (RL : List Rs) (vn x y z st why tr nx : Int) (L : List UInt8) (h : vn < 1 ∨ (RL.length : Int) < vn) : HT Tryz.prog 54 [pV b, iV vn, .agg #[iV x, iV y, uV z, iV st, iV why, iV tr, iV nx, .string (St L)]] [Tab b n A E RL] (fun v K => v = iV 3 ∧ K = [Tab b n A E RL]) := by
 refine hiS Tryz.func54 Tryz.ntmps54 fun g w0 R h0 => go [] <| nP 82 [iV x, iV y, uV z, iV st, iV why, iV tr, iV nx, .string (St L)] h0 (fun _ _ h12 => ?_)
 have h13 := tk3 (sf2 (sf1 (sf2 h12)))
 refine go [] <| cl1 Tryz.call45 (tget_no b n A E RL vn (by omega)) h13 fun _ h15 => go [] <| nP 82 [iV 0, iV 0, uV 0, iV 0, iV 0, iV 0, iV 0, .string (St [])] h15 (fun _ _ h18 => ?_)
 refine sP [(0, iV 0), (1, iV 0), (2, uV 0), (3, iV 0), (4, iV 0), (5, iV 0), (6, iV 0), (7, .string (St []))] [iV 0, iV 0, uV 0, iV 0, iV 0, iV 0, iV 0, .string (St [])] h18 fun _ h20 => go [] ?_
 exact en (iV 3) [] ⟨_, _, rfl, ⟨rfl, rfl⟩, (tk2 (sf1 (sf3 (tk4 (sf3 (sf2 (sf3 (sf3 h20))))))))⟩

theorem tset_chk (b n : Nat) (A : List Sl2) (E : Tm) (RL : List Rs) (vn x y z st why tr nx : Int) (L : List UInt8) (hz0 : 0 ≤ z) (hz1 : z ≤ 4294967295) (hm : L.length ≤ 1099511627776) (q : Nat) (r : Rs) (hr : RL[q]? = some r) (hv : vn = (q : Int) + 1) (hne : ¬ resE x y z st why tr nx L = 0) : HT Tryz.prog 54 [pV b, iV vn, .agg #[iV x, iV y, uV z, iV st, iV why, iV tr, iV nx, .string (St L)]] [Tab b n A E RL] (fun v K => v = iV ((resE x y z st why tr nx L)) ∧ K = [Tab b n A E RL]) := by
 have hq_ := (List.getElem?_eq_some_iff.1 hr).1
 refine hiS Tryz.func54 Tryz.ntmps54 fun g w0 R h0 => go [] <| nP 82 [iV x, iV y, uV z, iV st, iV why, iV tr, iV nx, .string (St L)] h0 (fun _ _ h12 => ?_)
 have h13 := tk3 (sf2 (sf1 (sf2 h12)))
 refine go [] <| cl1 Tryz.call45 (tget_ok b n A E RL vn q r hr (by omega)) h13 fun _ h15 => go [] <| nP 82 [iV 0, iV 0, uV 0, iV 0, iV 0, iV 0, iV 0, .string (St [])] h15 (fun _ _ h18 => ?_)
 refine sP [(0, iV r.out.1), (1, iV r.out.2.1), (2, uV r.out.2.2), (3, iV r.st), (4, iV r.why), (5, iV r.tr), (6, iV r.nx), (7, .string (St r.tag))] [iV r.out.1, iV r.out.2.1, uV r.out.2.2, iV r.st, iV r.why, iV r.tr, iV r.nx, .string (St r.tag)] h18 fun _ h20 => go [rd 4 0 2 0 8 h20] <| cl0 Tryz.call125 (rchk_ht x y z st why tr nx L (by omega) (by omega) (by omega)) h20 fun _ h22 => go [.v 5 1 (qnT ((resE x y z st why tr nx L)) 0)] ?_
 exact en (iV ((resE x y z st why tr nx L))) [] ⟨_, _, rfl, ⟨rfl, rfl⟩, (tk2 (sf1 (sf3 (tk4 (sf3 (sf2 (sf3 (sf3 h22))))))))⟩

end Go.Proofs.YtehlamblpekmkaaGreatDoor

/-
  A table of resources as a whole: what each of its functions answers and leaves, as plain functions. No program in sight.
-/
namespace Go.Proofs.YtehlamblpekmkaaGreatDoor
set_option maxHeartbeats 4000000
structure Ts where
  A : List Sl2
  E : Tm
  R : List Rs
def goodD (d : Ky) : Prop := 1 ≤ d.1 ∧ d.1 ≤ 3 ∧ 0 ≤ d.2.1 ∧ d.2.1 ≤ 255 ∧ 1 ≤ d.2.2
instance (d : Ky) : Decidable (goodD d) := by unfold goodD; infer_instance
def objH (h : Int × Int) : Prop := 0 ≤ h.1 ∧ h.1 ≤ 255 ∧ 1 ≤ h.2
instance (h : Int × Int) : Decidable (objH h) := by unfold objH; infer_instance
def rs0 : Rs := ⟨(0, 0, 0), 0, 0, 0, 0, []⟩
def resR (r : Rs) : Int := resE r.out.1 r.out.2.1 r.out.2.2 r.st r.why r.tr r.nx r.tag
def freeS (A : List Sl2) : Option (Nat × Int) := (inS 0 A 0)[0]?
def hasH (E : Tm) (h : Int × Int) : Prop := ∃ e ∈ allE E, e.h = h
instance (E : Tm) (h : Int × Int) : Decidable (hasH E h) := by unfold hasH; infer_instance
def hasO (R : List Rs) (o : Ky) : Prop := ∃ r ∈ R, r.out = o
instance (R : List Rs) (o : Ky) : Decidable (hasO R o) := by unfold hasO; infer_instance
def addS (S : Ts) (k num : Int) (h : Int × Int) : Ts := match freeS S.A with
  | some (j, g) => ⟨S.A.set j (1, g), gset S.E (j : Int) ⟨(k, (j : Int), g), num, h⟩, S.R⟩
  | none => S
def addD (A : List Sl2) (k : Int) : Ky := match freeS A with
  | some (j, g) => (k, (j : Int), g)
  | none => (0, 0, 0)
def newE (o : Ky) (L : List UInt8) : Int := resE o.1 o.2.1 o.2.2 1 0 0 0 L
def topE (S : Ts) (o : Ky) (L : List UInt8) (h : Int × Int) : Int := if newE o L ≠ 0 then newE o L else if ¬ objH h then 2 else if hasO S.R o ∨ hasH S.E h then 6 else if 2000 ≤ S.R.length ∨ freeS S.A = none then 4 else 0
def opnS (S : Ts) (o : Ky) (L : List UInt8) (h : Int × Int) : Ts := if topE S o L h = 0 then addS ⟨S.A, S.E, S.R ++ [⟨o, 1, 0, 0, 0, L⟩]⟩ o.1 ((S.R.length : Int) + 1) h else S
def opnD (S : Ts) (o : Ky) (L : List UInt8) (h : Int × Int) : Ky := if topE S o L h = 0 then addD S.A o.1 else (0, 0, 0)
def dropS (S : Ts) (d : Ky) : Ts := ⟨giveA S.A d.2.1.toNat d.2.2, gdel S.E d.2.1, S.R⟩
def nE (S : Ts) (v : Int) : Int := if 1 ≤ v ∧ v ≤ (S.R.length : Int) then 0 else 3
def getR (S : Ts) (v : Int) : Rs := if 1 ≤ v then (S.R[(v - 1).toNat]?).getD rs0 else rs0
def expS (S : Ts) (v : Int) : Ts := (descs S.E v).foldl dropS S
def setE (S : Ts) (v : Int) (r : Rs) : Int := if nE S v ≠ 0 then 3 else if resR r ≠ 0 then resR r else if r.out ≠ (getR S v).out ∨ r.tag ≠ (getR S v).tag then 2 else if r.st ≠ 1 ∧ 0 < (descs S.E v).length then 8 else 0
def setS (S : Ts) (v : Int) (r : Rs) : Ts := if setE S v r = 0 then ⟨S.A, S.E, S.R.set (v - 1).toNat r⟩ else S
def numsT (R : List Rs) (st : Int) (k : Nat) : List Int := ((List.range k).filter fun i => (R[i]?).any fun r => r.st == st).map fun i : Nat => (i : Int) + 1
def nums (R : List Rs) (st : Int) : List Int := numsT R st R.length
structure Wf (n : Nat) (S : Ts) : Prop where
  len : S.A.length = n
  bd : 1 ≤ n ∧ n ≤ 256
  ok : SlOk S.A
  rl : S.R.length ≤ 2000
  nd : KN S.E
  ent : ∀ (k : Int) (e : Ety), gget S.E k = some e → (∃ q : Nat, k = (q : Int) ∧ S.A[q]? = some (1, e.d.2.2)) ∧ e.d.2.1 = k ∧ (∃ (q : Nat) (r : Rs), S.R[q]? = some r ∧ e.num = (q : Int) + 1 ∧ r.out.1 = e.d.1 ∧ r.st = 1) ∧ objH e.h
  tak : ∀ (q : Nat) (g : Int), S.A[q]? = some (1, g) → ∃ e, gget S.E (q : Int) = some e
  res : ∀ r ∈ S.R, resR r = 0
  out : (S.R.map (·.out)).Nodup
  og : ∀ r ∈ S.R, r.out.2.2 ≤ 4294967295
  hnd : ∀ (k1 k2 : Int) (e1 e2 : Ety), gget S.E k1 = some e1 → gget S.E k2 = some e2 → e1.h = e2.h → k1 = k2
theorem mem_allE {E : Tm} {e : Ety} : e ∈ allE E ↔ ∃ k : Nat, k < 256 ∧ gget E (k : Int) = some e := by
  unfold allE someE
  rw [List.mem_filterMap]
  constructor
  · rintro ⟨k, hk, he⟩; exact ⟨k, List.mem_range.1 hk, he⟩
  · rintro ⟨k, hk, he⟩; exact ⟨k, List.mem_range.2 hk, he⟩
theorem freeS_some {A : List Sl2} {j : Nat} {g : Int} (h : freeS A = some (j, g)) : A[j]? = some (0, g) := by
  have := (inS_mem h).2
  simpa using this
theorem freeS_none {A : List Sl2} : freeS A = none ↔ (inS 0 A 0).length = 0 := by
  unfold freeS
  rw [List.getElem?_eq_none_iff]
  omega
theorem giveA_get {A : List Sl2} {q : Nat} {z : Int} {j : Nat} (h : j ≠ q) : (giveA A q z)[j]? = A[j]? := by
  unfold giveA
  split
  · rw [List.getElem?_set_ne (Ne.symm h)]
  · rw [List.getElem?_set_ne (Ne.symm h)]
theorem giveA_self {A : List Sl2} {q : Nat} {z : Int} (h : q < A.length) : (giveA A q z)[q]? = some (if z < 4294967295 then (0, z + 1) else (2, z)) := by
  unfold giveA
  split
  · rw [List.getElem?_set_self h]
  · rw [List.getElem?_set_self h]
theorem giveA_len (A : List Sl2) (q : Nat) (z : Int) : (giveA A q z).length = A.length := by unfold giveA; split <;> rw [List.length_set]
theorem wf_slot {n : Nat} {S : Ts} (W : Wf n S) {k : Int} {e : Ety} (h : gget S.E k = some e) : ∃ q : Nat, k = (q : Int) ∧ q < n ∧ S.A[q]? = some (1, e.d.2.2) := by
  obtain ⟨⟨q, h1, h2⟩, _⟩ := W.ent k e h
  exact ⟨q, h1, by have := (List.getElem?_eq_some_iff.1 h2).1; rw [W.len] at this; exact this, h2⟩
theorem wf_all {n : Nat} {S : Ts} (W : Wf n S) {k : Int} {e : Ety} (h : gget S.E k = some e) : e ∈ allE S.E := by
  obtain ⟨q, h1, h2, _⟩ := wf_slot W h
  exact mem_allE.2 ⟨q, by have := W.bd.2; omega, by rw [← h1]; exact h⟩
theorem wf_good {n : Nat} {S : Ts} (W : Wf n S) {k : Int} {e : Ety} (h : gget S.E k = some e) : goodD e.d := by
  obtain ⟨⟨q, h1, h2⟩, h3, ⟨p, r, hp, _, hk, _⟩, _⟩ := W.ent k e h
  obtain ⟨q', h1', h2', _⟩ := wf_slot W h
  have hr := W.res r (List.mem_of_getElem? hp)
  have hs := W.ok _ (List.mem_of_getElem? h2)
  have hb := W.bd.2
  unfold resR resE at hr
  split at hr
  · rename_i hpos
    have hx := hpos.1
    unfold goodD
    simp only at hs
    omega
  · omega
theorem wf_add {n : Nat} {S : Ts} (W : Wf n S) {k num : Int} {h : Int × Int} {q : Nat} {r : Rs} (hr : S.R[q]? = some r) (hn : num = (q : Int) + 1) (hk : r.out.1 = k) (hst : r.st = 1) (ho : objH h) (hh : ¬ hasH S.E h) : Wf n (addS S k num h) := by
  unfold addS
  cases hf : freeS S.A with
  | none => exact W
  | some p =>
    obtain ⟨j, g⟩ := p
    have hj := freeS_some hf
    have hjl := (List.getElem?_eq_some_iff.1 hj).1
    have hno : gget S.E (j : Int) = none := by
      cases hg : gget S.E (j : Int) with
      | none => rfl
      | some e =>
        obtain ⟨q2, h1, _, h2⟩ := wf_slot W hg
        obtain rfl : j = q2 := by omega
        rw [hj] at h2
        simp at h2
    refine ⟨by simp only [List.length_set]; exact W.len, W.bd, slOk_set W.ok (by have := W.ok _ (List.mem_of_getElem? hj); simp only at this ⊢; omega), W.rl, kn_set W.nd, ?_, ?_, W.res, W.out, W.og, ?_⟩
    · intro k2 e2 he
      simp only at he
      rw [gget_set] at he
      split at he
      · rename_i hk2
        obtain rfl := Option.some.inj he
        refine ⟨⟨j, hk2, List.getElem?_set_self hjl⟩, hk2.symm, ⟨q, r, hr, hn, hk, hst⟩, ho⟩
      · rename_i hk2
        obtain ⟨⟨q2, h1, h2⟩, h3, h4, h5⟩ := W.ent k2 e2 he
        refine ⟨⟨q2, h1, ?_⟩, h3, h4, h5⟩
        simp only
        rw [List.getElem?_set_ne (by rintro rfl; exact hk2 h1)]
        exact h2
    · intro q2 g2 hq
      simp only at hq ⊢
      rw [gget_set]
      split
      · exact ⟨_, rfl⟩
      · rename_i hq2
        rw [List.getElem?_set_ne (by rintro rfl; exact hq2 rfl)] at hq
        exact W.tak q2 g2 hq
    · intro k1 k2 e1 e2 h1 h2 he
      simp only at h1 h2
      rw [gget_set] at h1 h2
      split at h1
      · rename_i hk1
        split at h2
        · rename_i hk2; rw [hk1, hk2]
        · obtain rfl := Option.some.inj h1
          exact absurd ⟨e2, wf_all W h2, he.symm⟩ hh
      · split at h2
        · obtain rfl := Option.some.inj h2
          exact absurd ⟨e1, wf_all W h1, he⟩ hh
        · exact W.hnd k1 k2 e1 e2 h1 h2 he
theorem newE_cases (o : Ky) (L : List UInt8) : (¬ (1 ≤ o.1 ∧ o.1 ≤ 3 ∧ 0 ≤ o.2.1 ∧ o.2.1 ≤ 63 ∧ 1 ≤ o.2.2) ∧ newE o L = 2) ∨ ((1 ≤ o.1 ∧ o.1 ≤ 3 ∧ 0 ≤ o.2.1 ∧ o.2.1 ≤ 63 ∧ 1 ≤ o.2.2) ∧ newE o L = tagE L) := by
  unfold newE resE posP
  by_cases h : 1 ≤ o.1 ∧ o.1 ≤ 3 ∧ 0 ≤ o.2.1 ∧ o.2.1 ≤ 63 ∧ 1 ≤ o.2.2
  · exact .inr ⟨h, if_pos ⟨h, .inl ⟨rfl, rfl, rfl, rfl⟩⟩⟩
  · exact .inl ⟨h, if_neg fun h2 => h h2.1⟩
theorem opnE_ok {S : Ts} {o : Ky} {L : List UInt8} {h : Int × Int} (h0 : topE S o L h = 0) : newE o L = 0 ∧ objH h ∧ ¬ hasO S.R o ∧ ¬ hasH S.E h ∧ S.R.length < 2000 ∧ ∃ j g, freeS S.A = some (j, g) := by
  unfold topE at h0
  by_cases h1 : newE o L = 0
  · rw [if_neg (by omega)] at h0
    by_cases h2 : objH h
    · rw [if_neg (by simpa using h2)] at h0
      split at h0
      · omega
      · rename_i h3
        split at h0
        · omega
        · rename_i h4
          refine ⟨h1, h2, fun hh => h3 (.inl hh), fun hh => h3 (.inr hh), by omega, ?_⟩
          cases hf : freeS S.A with
          | none => exact absurd (.inr hf) h4
          | some p => exact ⟨p.1, p.2, rfl⟩
    · rw [if_pos h2] at h0; omega
  · rw [if_pos h1] at h0; omega
theorem wf_app {n : Nat} {S : Ts} (W : Wf n S) {r : Rs} (hl : S.R.length < 2000) (hr : resR r = 0) (ho : ¬ hasO S.R r.out) (hg : r.out.2.2 ≤ 4294967295) : Wf n ⟨S.A, S.E, S.R ++ [r]⟩ := by
  refine ⟨W.len, W.bd, W.ok, by simp only [List.length_append, List.length_cons, List.length_nil]; omega, W.nd, ?_, W.tak, ?_, ?_, ?_, W.hnd⟩
  · intro k e he
    obtain ⟨h1, h2, ⟨q, r2, h3, h4⟩, h5⟩ := W.ent k e he
    exact ⟨h1, h2, ⟨q, r2, by simp only; rw [List.getElem?_append_left (List.getElem?_eq_some_iff.1 h3).1]; exact h3, h4⟩, h5⟩
  · intro r2 h2
    rcases List.mem_append.1 h2 with h3 | h3
    · exact W.res r2 h3
    · rw [List.mem_singleton.1 h3]; exact hr
  · simp only [List.map_append, List.map_cons, List.map_nil]
    refine List.nodup_append.2 ⟨W.out, by simp, ?_⟩
    intro a ha b hb hab
    obtain ⟨r2, h3, h4⟩ := List.mem_map.1 ha
    rw [List.mem_singleton.1 hb] at hab
    exact ho ⟨r2, h3, h4.trans hab⟩
  · intro r2 h2
    rcases List.mem_append.1 h2 with h3 | h3
    · exact W.og r2 h3
    · rw [List.mem_singleton.1 h3]; exact hg
theorem wf_opn {n : Nat} {S : Ts} (W : Wf n S) {o : Ky} (hg : o.2.2 ≤ 4294967295) (L : List UInt8) (h : Int × Int) : Wf n (opnS S o L h) := by
  unfold opnS
  split
  · rename_i h0
    obtain ⟨h1, h2, h3, h4, h5, _⟩ := opnE_ok h0
    have W2 := wf_app W (r := ⟨o, 1, 0, 0, 0, L⟩) h5 h1 h3 hg
    exact wf_add W2 (q := S.R.length) (r := ⟨o, 1, 0, 0, 0, L⟩) (by simp) rfl rfl rfl h2 h4
  · exact W
theorem wf_drop {n : Nat} {S : Ts} (W : Wf n S) {d : Ky} {e : Ety} (he : gget S.E d.2.1 = some e) (hd : e.d = d) : Wf n (dropS S d) := by
  obtain ⟨q, h1, h2, h3⟩ := wf_slot W he
  have hq : d.2.1.toNat = q := by omega
  have hql : q < S.A.length := by rw [W.len]; exact h2
  have hg := wf_good W he
  rw [hd] at hg h3
  have hd4 := W.ok _ (List.mem_of_getElem? h3)
  simp only at hd4
  unfold dropS
  rw [hq]
  refine ⟨by simp only; rw [giveA_len]; exact W.len, W.bd, slOk_give W.ok h3 rfl, W.rl, kn_del W.nd, ?_, ?_, W.res, W.out, W.og, ?_⟩
  · intro k2 e2 h5
    simp only at h5
    by_cases hk : k2 = d.2.1
    · subst hk; rw [gget_del_self W.nd] at h5; cases h5
    · rw [gget_del hk] at h5
      obtain ⟨⟨q2, h6, h7⟩, h8⟩ := W.ent k2 e2 h5
      refine ⟨⟨q2, h6, ?_⟩, h8⟩
      simp only
      rw [giveA_get (by rintro rfl; exact hk (h6.trans h1.symm))]
      exact h7
  · intro q2 g2 h5
    simp only at h5 ⊢
    by_cases hk : q2 = q
    · subst hk
      rw [giveA_self hql] at h5
      split at h5 <;> simp at h5
    · rw [giveA_get hk] at h5
      rw [gget_del (by omega)]
      exact W.tak q2 g2 h5
  · intro k1 k2 e1 e2 h5 h6 h7
    simp only at h5 h6
    by_cases hk1 : k1 = d.2.1
    · subst hk1; rw [gget_del_self W.nd] at h5; cases h5
    · by_cases hk2 : k2 = d.2.1
      · subst hk2; rw [gget_del_self W.nd] at h6; cases h6
      · rw [gget_del hk1] at h5
        rw [gget_del hk2] at h6
        exact W.hnd k1 k2 e1 e2 h5 h6 h7
theorem mem_descs {E : Tm} {v : Int} {d : Ky} : d ∈ descs E v ↔ ∃ e ∈ allE E, e.num = v ∧ e.d = d := by
  unfold descs
  rw [List.mem_filterMap]
  constructor
  · rintro ⟨e, h1, h2⟩
    split at h2
    · rename_i h3; exact ⟨e, h1, h3, Option.some.inj h2⟩
    · cases h2
  · rintro ⟨e, h1, h2, h3⟩
    exact ⟨e, h1, by rw [if_pos h2, h3]⟩
theorem wf_mem {n : Nat} {S : Ts} (W : Wf n S) {e : Ety} (h : e ∈ allE S.E) : gget S.E e.d.2.1 = some e := by
  obtain ⟨k, hk, he⟩ := mem_allE.1 h
  rw [(W.ent _ e he).2.1]
  exact he
theorem someE_lt {n : Nat} {S : Ts} (W : Wf n S) (k : Nat) : ((someE S.E k).map (·.d.2.1)).Pairwise (· < ·) ∧ ∀ e ∈ someE S.E k, e.d.2.1 < (k : Int) := by
  induction k with
  | zero => exact ⟨List.Pairwise.nil, fun e he => by simp [someE] at he⟩
  | succ k ih =>
    cases hg : gget S.E (k : Int) with
    | none => rw [someE_no hg]; exact ⟨ih.1, fun e he => by have := ih.2 e he; omega⟩
    | some e =>
      have hk := (W.ent _ e hg).2.1
      rw [someE_go hg]
      constructor
      · rw [List.map_append, List.pairwise_append]
        refine ⟨ih.1, by simp, ?_⟩
        intro a ha b hb
        obtain ⟨x, h1, rfl⟩ := List.mem_map.1 ha
        simp only [List.map_cons, List.map_nil, List.mem_singleton] at hb
        rw [hb, hk]
        exact ih.2 x h1
      · intro x hx
        rcases List.mem_append.1 hx with h1 | h1
        · have := ih.2 x h1; omega
        · rw [List.mem_singleton.1 h1, hk]; omega
theorem allE_lt {n : Nat} {S : Ts} (W : Wf n S) : ((allE S.E).map (·.d.2.1)).Pairwise (· < ·) := (someE_lt W 256).1
theorem descs_sub (E : Tm) (v : Int) : (descs E v).Sublist ((allE E).map (·.d)) := by
  unfold descs
  induction allE E with
  | nil => exact List.Sublist.refl _
  | cons e L ih =>
    simp only [List.filterMap_cons, List.map_cons]
    split
    · exact List.Sublist.cons _ ih
    · rename_i h
      split at h
      · obtain rfl := Option.some.inj h; exact List.Sublist.cons_cons _ ih
      · cases h
theorem descs_lt {n : Nat} {S : Ts} (W : Wf n S) (v : Int) : ((descs S.E v).map (·.2.1)).Pairwise (· < ·) := by
  have h := allE_lt W
  have h2 : (allE S.E).map (·.d.2.1) = ((allE S.E).map (·.d)).map (·.2.1) := by rw [List.map_map]; rfl
  rw [h2] at h
  exact h.sublist ((descs_sub S.E v).map _)
theorem descs_nil {n : Nat} {S : Ts} (W : Wf n S) {v : Int} (h : ¬ (1 ≤ v ∧ v ≤ (S.R.length : Int))) : descs S.E v = [] := by
  cases hd : descs S.E v with
  | nil => rfl
  | cons d D =>
    have hm : d ∈ descs S.E v := by rw [hd]; exact List.mem_cons_self
    obtain ⟨e, h1, h2, h3⟩ := mem_descs.1 hm
    obtain ⟨_, _, ⟨q, r, h4, h5, _⟩, _⟩ := W.ent _ e (wf_mem W h1)
    have := (List.getElem?_eq_some_iff.1 h4).1
    omega
theorem wf_drops {n : Nat} : ∀ {D : List Ky} {S : Ts}, Wf n S → (∀ d ∈ D, ∃ e, gget S.E d.2.1 = some e ∧ e.d = d) → (D.map (·.2.1)).Pairwise (· < ·) → Wf n (D.foldl dropS S)
  | [], _, W, _, _ => W
  | d :: D, S, W, h, hp => by
    obtain ⟨e, h1, h2⟩ := h d List.mem_cons_self
    rw [List.map_cons, List.pairwise_cons] at hp
    refine wf_drops (D := D) (S := dropS S d) (wf_drop W h1 h2) (fun d2 hd2 => ?_) hp.2
    obtain ⟨e2, h3, h4⟩ := h d2 (List.mem_cons_of_mem _ hd2)
    have := hp.1 _ (List.mem_map_of_mem (f := (·.2.1)) hd2)
    exact ⟨e2, by unfold dropS; simp only; rw [gget_del (by omega)]; exact h3, h4⟩
theorem wf_exp {n : Nat} {S : Ts} (W : Wf n S) (v : Int) : Wf n (expS S v) := wf_drops W (fun d hd => by
  obtain ⟨e, h1, _, h3⟩ := mem_descs.1 hd
  exact ⟨e, by rw [← h3]; exact wf_mem W h1, h3⟩) (descs_lt W v)
theorem set_self {α : Type} {l : List α} {i : Nat} {x : α} (h : l[i]? = some x) : l.set i x = l := by
  apply List.ext_getElem?
  intro j
  by_cases hj : i = j
  · subst hj
    rw [List.getElem?_set_self (List.getElem?_eq_some_iff.1 h).1, h]
  · rw [List.getElem?_set_ne hj]
theorem setE_ok {S : Ts} {v : Int} {r : Rs} (h0 : setE S v r = 0) : (1 ≤ v ∧ v ≤ (S.R.length : Int)) ∧ resR r = 0 ∧ r.out = (getR S v).out ∧ r.tag = (getR S v).tag ∧ (r.st = 1 ∨ (descs S.E v).length = 0) := by
  unfold setE at h0
  split at h0
  · omega
  · rename_i h1
    split at h0
    · omega
    · rename_i h2
      split at h0
      · omega
      · rename_i h3
        split at h0
        · omega
        · rename_i h4
          refine ⟨?_, by omega, ?_, ?_, by omega⟩
          · unfold nE at h1
            split at h1
            · assumption
            · omega
          · exact Classical.byContradiction fun h => h3 (.inl h)
          · exact Classical.byContradiction fun h => h3 (.inr h)
theorem getR_at {S : Ts} {v : Int} (h : 1 ≤ v ∧ v ≤ (S.R.length : Int)) : S.R[(v - 1).toNat]? = some (getR S v) := by
  have hl : (v - 1).toNat < S.R.length := by omega
  unfold getR
  rw [if_pos h.1, List.getElem?_eq_getElem hl]
  rfl
theorem getR_no {S : Ts} {v : Int} (h : ¬ (1 ≤ v ∧ v ≤ (S.R.length : Int))) : getR S v = rs0 := by
  unfold getR
  split
  · rw [List.getElem?_eq_none (by omega)]; rfl
  · rfl
theorem wf_set {n : Nat} {S : Ts} (W : Wf n S) (v : Int) (r : Rs) : Wf n (setS S v r) := by
  unfold setS
  split
  · rename_i h0
    obtain ⟨h1, h2, h3, h4, h5⟩ := setE_ok h0
    have hg := getR_at h1
    have hl := (List.getElem?_eq_some_iff.1 hg).1
    refine ⟨W.len, W.bd, W.ok, by simp only [List.length_set]; exact W.rl, W.nd, ?_, W.tak, ?_, ?_, ?_, W.hnd⟩
    · intro k e he
      obtain ⟨e1, e2, ⟨q, r2, e3, e4, e5, e6⟩, e7⟩ := W.ent k e he
      refine ⟨e1, e2, ?_, e7⟩
      by_cases hq : q = (v - 1).toNat
      · refine ⟨q, r, by simp only; rw [hq, List.getElem?_set_self hl], e4, ?_, ?_⟩
        · subst hq
          rw [hg] at e3
          obtain rfl := Option.some.inj e3
          rw [h3]; exact e5
        · rcases h5 with h5 | h5
          · exact h5
          · exfalso
            have hm : e.d ∈ descs S.E v := mem_descs.2 ⟨e, wf_all W he, by omega, rfl⟩
            rw [List.length_eq_zero_iff.1 h5] at hm
            cases hm
      · exact ⟨q, r2, by simp only; rw [List.getElem?_set_ne (Ne.symm hq)]; exact e3, e4, e5, e6⟩
    · intro r2 hr2
      rcases List.mem_or_eq_of_mem_set hr2 with h6 | h6
      · exact W.res r2 h6
      · rw [h6]; exact h2
    · have : (S.R.set (v - 1).toNat r).map (·.out) = S.R.map (·.out) := by
        rw [List.map_set]
        have h7 : (S.R.map (·.out))[(v - 1).toNat]? = some r.out := by rw [List.getElem?_map, hg, h3]; rfl
        rw [set_self h7]
      simp only
      rw [this]
      exact W.out
    · intro r2 hr2
      rcases List.mem_or_eq_of_mem_set hr2 with h6 | h6
      · exact W.og r2 h6
      · rw [h6, h3]; exact W.og _ (List.mem_of_getElem? hg)
  · exact W
theorem wf_new {n : Nat} {g : Int} (hn : 1 ≤ n ∧ n ≤ 256) (hg : 1 ≤ g ∧ g ≤ 4294967295) : Wf n ⟨List.replicate n (0, g), [], []⟩ := by
  refine ⟨List.length_replicate, hn, ?_, by simp, List.nodup_nil, ?_, ?_, ?_, List.nodup_nil, (fun r hr => by cases hr), ?_⟩
  · intro s hs
    have := List.eq_of_mem_replicate hs
    subst this
    simp only
    omega
  · intro k e he; cases he
  · intro q g2 hq
    simp only at hq
    rw [List.getElem?_replicate] at hq
    split at hq
    · simp at hq
    · cases hq
  · intro r hr; cases hr
  · intro k1 k2 e1 e2 h1; cases h1
end Go.Proofs.YtehlamblpekmkaaGreatDoor
