/-
  A map that is being copied, entry by entry. No program in sight.
-/
import Derived.Test.YtjjpmehiolejgaaGreatBundle28
import Derived.Test.YtjjpmehiolejgaaGreatMrg
import Derived.Test.YtjjpmehiolejgaaGreatBundle31
import Derived.Test.YtjjpmehiolejgaaGreatBundle35
namespace Go.Proofs.YtjjpmehiolejgaaGreat
/-- All but the entries S of E0 are in Ec. -/
structure Part (E0 S Ec : Tm) : Prop where
  k0 : KN E0
  kc : KN Ec
  ks : KN S
  mem : ∀ q ∈ S, gget E0 q.1 = some q.2
  has : ∀ k : Int, gget Ec k = if k ∈ S.map (·.1) then none else gget E0 k
theorem gget_mem {E : Tm} (h : KN E) {q : Int × Ety} (hq : q ∈ E) : gget E q.1 = some q.2 := by
  induction E with
  | nil => cases hq
  | cons p E ih =>
    obtain ⟨a, v⟩ := p
    have h' : (a :: E.map (·.1)).Nodup := h
    obtain ⟨h1, h2⟩ := List.nodup_cons.1 h'
    simp only [gget]
    rcases List.mem_cons.1 hq with rfl | h3
    · rw [if_pos rfl]
    · have hne : a ≠ q.1 := fun he => h1 (he ▸ List.mem_map_of_mem h3)
      rw [if_neg (Ne.symm hne)]
      exact ih h2 h3
theorem part_start {E0 E : Tm} (h : Meq E0 E) : Part E0 E0 [] := by
  refine ⟨h.1, List.nodup_nil, h.1, fun q hq => gget_mem h.1 hq, fun k => ?_⟩
  split
  · rfl
  · rename_i hk
    rw [gget_none.2 hk]
    rfl
theorem part_go {E0 S Ec : Tm} (h : Part E0 S Ec) {i : Nat} {q : Int × Ety} (hq : S[i]? = some q) : Part E0 (S.eraseIdx i) (gset Ec q.1 q.2) := by
  have hkn : (S.map (·.1)).Nodup := h.ks
  have hi := (List.getElem?_eq_some_iff.1 hq).1
  have hki : (S.map (·.1))[i]? = some q.1 := by rw [List.getElem?_map, hq]; rfl
  have hkil : i < (S.map (·.1)).length := by rw [List.length_map]; exact hi
  have hmk : (S.eraseIdx i).map (·.1) = (S.map (·.1)).eraseIdx i := erase_map _ _ _
  refine ⟨h.k0, kn_set h.kc, ?_, fun p hp => h.mem p (List.eraseIdx_subset hp), fun k => ?_⟩
  · unfold KN
    rw [hmk]
    exact List.Nodup.sublist (List.eraseIdx_sublist _ _) hkn
  · rw [gget_set, hmk]
    have hik : (S.map (·.1))[i] = q.1 := (List.getElem?_eq_some_iff.1 hki).2
    split
    · rename_i hk
      subst hk
      have hno : q.1 ∉ (S.map (·.1)).eraseIdx i := by
        rw [← hik]
        intro h2
        obtain ⟨j, hj, hji, hjk⟩ := List.mem_eraseIdx_iff_getElem.1 h2
        exact hji ((List.getElem_inj hkn).1 hjk)
      rw [if_neg hno]
      exact (h.mem q (List.mem_of_getElem? hq)).symm
    · rename_i hk
      rw [h.has]
      have hiff : k ∈ (S.map (·.1)).eraseIdx i ↔ k ∈ S.map (·.1) := by
        constructor
        · exact fun h2 => List.eraseIdx_subset h2
        · intro h2
          obtain ⟨j, hj, hjk⟩ := List.getElem_of_mem h2
          exact List.mem_eraseIdx_iff_getElem.2 ⟨j, hj, fun he => hk (by subst he; rw [← hjk, hik]), hjk⟩
      by_cases h3 : k ∈ S.map (·.1)
      · rw [if_pos h3, if_pos (hiff.2 h3)]
      · rw [if_neg h3, if_neg fun h4 => h3 (hiff.1 h4)]
theorem part_end {E0 E Ec : Tm} (h : Part E0 [] Ec) (hM : Meq E0 E) : Meq Ec E := ⟨h.kc, hM.2.1, fun k => by
  rw [h.has, if_neg (by simp), hM.2.2]⟩
def dropK (S : Ts) (v : Int) (k : Nat) : Ts := ((descs S.E v).take k).foldl dropS S
theorem dropK_go {S : Ts} {v : Int} {k : Nat} {x : Ky} (hx : (descs S.E v)[k]? = some x) : dropS (dropK S v k) x = dropK S v (k + 1) := by
  unfold dropK
  rw [List.take_add_one, hx, List.foldl_append]
  rfl
theorem dropK_all (S : Ts) (v : Int) {k : Nat} (hk : k = (descs S.E v).length) : dropK S v k = expS S v := by
  subst hk
  unfold dropK expS
  rw [List.take_length]
theorem drops_get {y : Int} : ∀ {D : List Ky} {S : Ts}, (∀ d ∈ D, d.2.1 ≠ y) → gget (D.foldl dropS S).E y = gget S.E y
  | [], _, _ => rfl
  | d :: D, S, h => by
    have h1 := drops_get (D := D) (S := dropS S d) (y := y) fun d2 hd2 => h d2 (List.mem_cons_of_mem _ hd2)
    rw [List.foldl_cons, h1]
    unfold dropS
    simp only
    rw [gget_del (Ne.symm (h d List.mem_cons_self))]
theorem descs_at {n : Nat} {S : Ts} (W : Wf n S) {v : Int} {x : Ky} (hx : x ∈ descs S.E v) : ∃ e, gget S.E x.2.1 = some e ∧ e.d = x ∧ e.num = v := by
  obtain ⟨e, h1, h2, h3⟩ := mem_descs.1 hx
  exact ⟨e, by rw [← h3]; exact wf_mem W h1, h3, h2⟩
theorem dropK_at {n : Nat} {S : Ts} (W : Wf n S) {v : Int} {k : Nat} {x : Ky} (hx : (descs S.E v)[k]? = some x) : ∃ e, gget (dropK S v k).E x.2.1 = some e ∧ e.d = x := by
  obtain ⟨e, h1, h2, _⟩ := descs_at W (List.mem_of_getElem? hx)
  refine ⟨e, ?_, h2⟩
  unfold dropK
  rw [drops_get, h1]
  intro d hd
  obtain ⟨j, hj⟩ := List.getElem?_of_mem hd
  have hjk : j < k := by
    have := (List.getElem?_eq_some_iff.1 hj).1
    rw [List.length_take] at this
    omega
  rw [List.getElem?_take_of_lt hjk] at hj
  have hp := List.pairwise_iff_getElem.1 (descs_lt W v) j k (by rw [List.length_map]; exact (List.getElem?_eq_some_iff.1 hj).1) (by rw [List.length_map]; exact (List.getElem?_eq_some_iff.1 hx).1) hjk
  rw [List.getElem_map, List.getElem_map, (List.getElem?_eq_some_iff.1 hj).2, (List.getElem?_eq_some_iff.1 hx).2] at hp
  omega
theorem gen_ok {n : Nat} {S : Ts} (W : Wf n S) {e : Ety} {k : Int} (h : gget S.E k = some e) : 0 ≤ e.d.2.2 ∧ e.d.2.2 ≤ 4294967295 := by
  obtain ⟨q, _, _, h2⟩ := wf_slot W h
  have := W.ok _ (List.mem_of_getElem? h2)
  simp only at this
  omega
theorem desc_ok {n : Nat} {S : Ts} (W : Wf n S) {v : Int} {x : Ky} (hx : x ∈ descs S.E v) : 0 ≤ x.2.2 ∧ x.2.2 ≤ 4294967295 := by
  obtain ⟨e, h1, h2, _⟩ := descs_at W hx
  have := gen_ok W h1
  rw [h2] at this
  exact this
theorem numsT_go {R : List Rs} {st : Int} {k : Nat} {r : Rs} (hr : R[k]? = some r) (h : r.st = st) : numsT R st k ++ [(k : Int) + 1] = numsT R st (k + 1) := by
  unfold numsT
  rw [List.range_succ, List.filter_append, List.map_append]
  simp [hr, h]
theorem numsT_no {R : List Rs} {st : Int} {k : Nat} {r : Rs} (hr : R[k]? = some r) (h : r.st ≠ st) : numsT R st k = numsT R st (k + 1) := by
  unfold numsT
  rw [List.range_succ, List.filter_append, List.map_append]
  simp [hr, h]
theorem descs_len (E : Tm) (v : Int) : (descs E v).length ≤ 256 := by
  have h1 := (descs_sub E v).length_le
  rw [List.length_map] at h1
  have h2 := cntE_le E 256
  unfold allE at h1
  omega
theorem set_bad {S : Ts} {v : Int} {r : Rs} {e : Int} (h : setE S v r = e) (he : e ≠ 0) : setS S v r = S := by
  unfold setS
  rw [if_neg (by omega)]
theorem erase_len {α : Type} {S : List α} {i : Nat} {q : α} (h : S[i]? = some q) : (S.eraseIdx i).length + 1 = S.length := by
  have := (List.getElem?_eq_some_iff.1 h).1
  rw [List.length_eraseIdx, if_pos this]
  omega
end Go.Proofs.YtjjpmehiolejgaaGreat

/- Walks, printed by my generator ../tab/gen22.py. -/
namespace Go.Proofs.YtjjpmehiolejgaaGreat
set_option maxHeartbeats 4000000 in
theorem texp_w (b n : Nat) (S : Ts) (vn : Int) : HT Tryz.prog 14 [Value.pointer (some ⟨b, 0, none⟩), Value.int IntKind.i64 vn] [TW b n S] (fun v K => ∃ (p : Option Addr) (c : Nat), v = Value.tuple #[Value.slice p (((descs S.E vn).length)) c, Value.int IntKind.i64 ((nE S vn))] ∧ K = [TW b n (expS S vn), Sl 25 3 p (((descs S.E vn).length)) c (fl eO (descs S.E vn))]) := by
 refine hiS Tryz.func14 Tryz.ntmps14 fun g w0 R h0 => ?_
 have hW_ := (wi_out h0).1
 have hdl_ := descs_len S.E vn
 refine go [] <| cP Tryz.call46 (tdescs_w b n S vn) h0 ?_
 rintro v K w12 (⟨p10, c11, rfl, rfl⟩) h13
 have h14 := ap2 h13
 refine go [] ?_
 have h15 := tk3 (sf2 (sf1 (sf2 h14)))
 have hl16 := fl_n eO_ok (by decide) h15
 refine lpS (fun mz_ a w => ∃ k : Nat, ∃ lr : Fr, mz_ = ((descs S.E vn).length) - k ∧ (k ≤ (descs S.E vn).length) ∧ a = mk 28 (([(0, pV b), (6, .slice p10 (((descs S.E vn).length)) c11), (7, iV ((nE S vn))), (16, .slice p10 (((descs S.E vn).length)) c11), (17, iV ((((descs S.E vn).length : Nat) : Int))), (18, iV (k : Int))] : Fr) ++ lr) ∧ sat g w [TW b n (dropK S vn k), Sl 25 3 p10 (((descs S.E vn).length)) c11 (fl eO (descs S.E vn)), R]) ((descs S.E vn).length - 0) ⟨0, _, rfl, (Nat.zero_le _), (lvF [.k 0 (pV b), .k 6 (.slice p10 (((descs S.E vn).length)) c11), .k 7 (iV ((nE S vn))), .k 16 (.slice p10 (((descs S.E vn).length)) c11), .k 17 (iV ((((descs S.E vn).length : Nat) : Int))), .o 18 (oJ .i64 0 (0 : Int))]), (tk3 (sf2 (sf1 (sf2 h15))))⟩ ?_
 rintro m19 a20 w21 ⟨k, lr18, rfl, hk, rfl, h22⟩
 refine ga <| go [.s 3 0] ?_
 by_cases c23 : (k : Int) < (((descs S.E vn).length : Nat) : Int)
 ·
  obtain ⟨b24, hp25⟩ := sl_ptr0 (j := 1) h22 rfl (by omega)
  refine go [.v 3 0 (oT ((k : Int) < (((descs S.E vn).length : Nat) : Int))), .s 4 0] <| lwP (.pointer (some ⟨b24, k * 3, none⟩)) (law_indexSlP (x := (Operand.tmp 16)) (i := (Operand.tmp 18)) (p := p10) (b := b24) (off := 0) (z := (k : Int)) (len := (((descs S.E vn).length))) (cap := c11) (by kernel_rfl) Tryz.underlying48 3 (by kernel_rfl) k (by kernel_rfl) hp25 (by kernel_rfl) (by omega) (by omega) (k * 3) (by omega) _) ?_
  obtain ⟨x26, hx27⟩ : ∃ x, (descs S.E vn)[k]? = some x := ⟨_, List.getElem?_eq_getElem (by rw [hl16]; omega)⟩
  obtain ⟨e28, he29, hd30⟩ := dropK_at hW_ hx27
  have hb31 := desc_ok hW_ (List.mem_of_getElem? hx27)
  refine go [.r 4 1 b24 (k * 3) [iV x26.1, iV x26.2.1, uV x26.2.2] ⟨gv_cell (j := 1) h22 rfl (gv_sl _ _ _) hp25 (fl_get eO_ok (j := 0) (v := iV x26.1) hx27 rfl) (k * 3) (by omega), gv_cell (j := 1) h22 rfl (gv_sl _ _ _) hp25 (fl_get eO_ok (j := 1) (v := iV x26.2.1) hx27 rfl) (k * 3 + 1) (by omega), gv_cell (j := 1) h22 rfl (gv_sl _ _ _) hp25 (fl_get eO_ok (j := 2) (v := uV x26.2.2) hx27 rfl) (k * 3 + 2) (by omega), trivial⟩] <| nP 25 [iV 0, iV 0, uV 0] h22 (fun r32 w33 h34 => ?_)
  refine sP [(0, iV x26.1), (1, iV x26.2.1), (2, uV x26.2.2)] [iV x26.1, iV x26.2.1, uV x26.2.2] h34 fun w35 h36 => ?_
  have h37 := tk4 (sf3 (sf2 (sf3 (sf3 h36))))
  refine go [rd 5 1 0 0 3 h36] <| cl1 Tryz.call45 (tdrop_w b n (dropK S vn k) x26.1 x26.2.1 x26.2.2 (by omega) (by omega) e28 he29 hd30) h37 fun w38 h39 => go [.v 6 0 (oIr ((k : Int) + 1))] ?_
  refine enL ?_
  have h40 : sat g w38 [TW b n (dropK S vn (k + 1)), Cl r32 [iV x26.1, iV x26.2.1, uV x26.2.2] 25, Sl 25 3 p10 (((descs S.E vn).length)) c11 (fl eO (descs S.E vn)), R] := (show (dropS (dropK S vn k) x26) = dropK S vn (k + 1) from dropK_go hx27) ▸ h39
  have h42 := tk3 (tk4 (sf3 (sf3 (sf3 (sf1 h40)))))
  change ∃ n', n' < _ ∧ _
  refine ⟨((descs S.E vn).length - (k + 1)), by omega, (k + 1), _, rfl, (by omega), (lvF [.k 0 (pV b), .k 6 (.slice p10 (((descs S.E vn).length)) c11), .k 7 (iV ((nE S vn))), .k 16 (.slice p10 (((descs S.E vn).length)) c11), .k 17 (iV ((((descs S.E vn).length : Nat) : Int))), .o 18 (oJ .i64 ((k : Int) + 1) ((((k + 1) : Nat) : Int)))]), h42⟩
 refine go [.v 3 0 (oF ((k : Int) < (((descs S.E vn).length : Nat) : Int)))] <| up <| go [] ?_
 have h43 : sat g w21 [TW b n (expS S vn), Sl 25 3 p10 (((descs S.E vn).length)) c11 (fl eO (descs S.E vn)), R] := (show (dropK S vn k) = expS S vn from dropK_all S vn (by omega)) ▸ h22
 exact en (.tuple #[.slice p10 (((descs S.E vn).length)) c11, iV ((nE S vn))]) [] ⟨_, _, rfl, ⟨p10, c11, rfl, rfl⟩, h43⟩

set_option maxHeartbeats 4000000 in
theorem tnums_ht (b n : Nat) (A : List Sl2) (E : Tm) (RL : List Rs) (vn : Int) : HT Tryz.prog 65 [Value.pointer (some ⟨b, 0, none⟩), Value.int IntKind.i64 vn] [Tab b n A E RL] (fun v K => ∃ (p : Option Addr) (c : Nat), v = Value.slice p (((nums RL vn).length)) c ∧ K = [Tab b n A E RL, Sl 3 1 p (((nums RL vn).length)) c (fl eI (nums RL vn))]) := by
 refine hiS Tryz.func65 Tryz.ntmps65 fun g w0 R h0 => go [] <| cl1 Tryz.call29 (tvalid_ht b n A E RL) h0 fun w10 h11 => ?_
 obtain ⟨s12, m13, p14, c15, E16, hM17, h18⟩ := tab_open h11
 have hRl_ := hM17.2
 refine go [rd 4 3 0 2 1 h18] ?_
 have h19 := tk5 (sf4 (sf3 (sf3 (sf3 (sf4 h18)))))
 have hl20 := fl_n eRs_ok (by decide) h19
 have h21 : sat g w10 [Sl 3 1 none 0 0 (fl eI []), Sl 40 8 p14 RL.length c15 (fl eRs RL), Cl b [pV s12, .map (some m13), .slice p14 RL.length c15] 71, Tb s12 n A, Gp kI vE m13 E16, R] := sl_nil 3 1 h19
 refine lpS (fun mz_ a w => ∃ k : Nat, ∃ p2 : Option Addr, ∃ m2 : Nat, ∃ c2 : Nat, ∃ lr : Fr, mz_ = RL.length - k ∧ (k ≤ RL.length) ∧ (m2 ≤ k) ∧ a = mk 32 (([(1, iV vn), (5, .slice p2 m2 c2), (14, .slice p14 RL.length c15), (15, iV (((RL.length : Nat) : Int))), (16, iV (k : Int))] : Fr) ++ lr) ∧ sat g w [Sl 3 1 p2 m2 c2 (fl eI (numsT RL vn k)), Sl 40 8 p14 RL.length c15 (fl eRs RL), Cl b [pV s12, .map (some m13), .slice p14 RL.length c15] 71, Tb s12 n A, Gp kI vE m13 E16, R]) (RL.length - 0) ⟨0, none, 0, 0, _, rfl, (Nat.zero_le _), (Nat.le_refl _), (lvF [.k 1 (iV vn), .k 5 (.slice none 0 0), .k 14 (.slice p14 RL.length c15), .k 15 (iV (((RL.length : Nat) : Int))), .o 16 (oJ .i64 0 (0 : Int))]), h21⟩ ?_
 rintro m23 a24 w25 ⟨k, p2, m2, c2, lr22, rfl, hk, hm2, rfl, h26⟩
 refine ga <| go [.s 5 0] ?_
 by_cases c27 : (k : Int) < ((RL.length : Nat) : Int)
 ·
  obtain ⟨b28, hp29⟩ := sl_ptr0 (j := 1) h26 rfl (by omega)
  refine go [.v 5 0 (oT ((k : Int) < ((RL.length : Nat) : Int))), .s 6 1] <| lwP (.pointer (some ⟨b28, k * 8, none⟩)) (law_indexSlP (x := (Operand.tmp 14)) (i := (Operand.tmp 16)) (p := p14) (b := b28) (off := 0) (z := (k : Int)) (len := RL.length) (cap := c15) (by kernel_rfl) Tryz.underlying69 8 (by kernel_rfl) k (by kernel_rfl) hp29 (by kernel_rfl) (by omega) (by omega) (k * 8) (by omega) _) ?_
  obtain ⟨x30, hx31⟩ : ∃ x, RL[k]? = some x := ⟨_, List.getElem?_eq_getElem (by rw [hl20]; omega)⟩
  refine go [.r 6 2 b28 (k * 8) [iV x30.out.1, iV x30.out.2.1, uV x30.out.2.2, iV x30.st, iV x30.why, iV x30.tr, iV x30.nx, .string (St x30.tag)] ⟨gv_cell (j := 1) h26 rfl (gv_sl _ _ _) hp29 (fl_get eRs_ok (j := 0) (v := iV x30.out.1) hx31 rfl) (k * 8) (by omega), gv_cell (j := 1) h26 rfl (gv_sl _ _ _) hp29 (fl_get eRs_ok (j := 1) (v := iV x30.out.2.1) hx31 rfl) (k * 8 + 1) (by omega), gv_cell (j := 1) h26 rfl (gv_sl _ _ _) hp29 (fl_get eRs_ok (j := 2) (v := uV x30.out.2.2) hx31 rfl) (k * 8 + 2) (by omega), gv_cell (j := 1) h26 rfl (gv_sl _ _ _) hp29 (fl_get eRs_ok (j := 3) (v := iV x30.st) hx31 rfl) (k * 8 + 3) (by omega), gv_cell (j := 1) h26 rfl (gv_sl _ _ _) hp29 (fl_get eRs_ok (j := 4) (v := iV x30.why) hx31 rfl) (k * 8 + 4) (by omega), gv_cell (j := 1) h26 rfl (gv_sl _ _ _) hp29 (fl_get eRs_ok (j := 5) (v := iV x30.tr) hx31 rfl) (k * 8 + 5) (by omega), gv_cell (j := 1) h26 rfl (gv_sl _ _ _) hp29 (fl_get eRs_ok (j := 6) (v := iV x30.nx) hx31 rfl) (k * 8 + 6) (by omega), gv_cell (j := 1) h26 rfl (gv_sl _ _ _) hp29 (fl_get eRs_ok (j := 7) (v := .string (St x30.tag)) hx31 rfl) (k * 8 + 7) (by omega), trivial⟩] <| nP 40 [iV 0, iV 0, uV 0, iV 0, iV 0, iV 0, iV 0, .string (St [])] h26 (fun r32 w33 h34 => ?_)
  refine go [] <| sP [(0, iV x30.out.1), (1, iV x30.out.2.1), (2, uV x30.out.2.2), (3, iV x30.st), (4, iV x30.why), (5, iV x30.tr), (6, iV x30.nx), (7, .string (St x30.tag))] [iV x30.out.1, iV x30.out.2.1, uV x30.out.2.2, iV x30.st, iV x30.why, iV x30.tr, iV x30.nx, .string (St x30.tag)] h34 fun w35 h36 => go [rd 7 1 0 3 1 h36, .s 7 3] ?_
  by_cases c37 : x30.st = vn
  ·
   refine go [.v 7 3 (eT x30.st vn), .v 8 2 (oIr ((k : Int) + 1))] <| nG (fun q_ => .slice (some ⟨q_, 0, none⟩) 1 1) 3 [iV ((k : Int) + 1)] h36 (fun r38 w39 h40 => ⟨kd [], ?_⟩)
   have h41 := tk8 (sf7 (sf6 (sf6 (sf7 (sf7 (sf7 (sf7 (sf7 h40))))))))
   refine actG ?_
   refine an_append (d := 29) (sz := 1) (s := (Operand.tmp 25)) (x := (Operand.tmp 28)) (z := iV 0) (p := p2) (m := m2) (c := c2) (k := 1) (c2 := 1) (a := ⟨r38, 0, none⟩) (by_ := 8) (by kernel_rfl) (by kernel_rfl) rfl Tryz.underlying108 (by kernel_rfl) rfl (by decide) (by kernel_rfl) (by kernel_rfl) h41 (fl eI [(k : Int) + 1]) rfl (fun j u hj => by rw [add_off]; exact sat_cell h41 1 rfl (by rw [Nat.zero_add]; exact hj)) (fl_one eI_ok _) (by omega) (by omega) (m2 + 1) (by omega) ?_
   intro p42 cap43 w44 h45
   have h46 : sat g w44 [Sl 3 1 p42 (m2 + 1) cap43 (fl eI ((numsT RL vn k) ++ [(k : Int) + 1])), Cl r38 [iV ((k : Int) + 1)] 3, Cl r32 [iV x30.out.1, iV x30.out.2.1, uV x30.out.2.2, iV x30.st, iV x30.why, iV x30.tr, iV x30.nx, .string (St x30.tag)] 40, Sl 40 8 p14 RL.length c15 (fl eRs RL), Cl b [pV s12, .map (some m13), .slice p14 RL.length c15] 71, Tb s12 n A, Gp kI vE m13 E16, R] := sat_imp h45 (fun _ hh => by rw [fl_app]; exact hh)
   obtain ⟨hn47, hn48⟩ := sl_le h46
   refine nxA <| go [.v 9 0 (oIr ((k : Int) + 1))] ?_
   refine enL ?_
   have h49 : sat g w44 [Sl 3 1 p42 (m2 + 1) cap43 (fl eI (numsT RL vn (k + 1))), Cl r38 [iV ((k : Int) + 1)] 3, Cl r32 [iV x30.out.1, iV x30.out.2.1, uV x30.out.2.2, iV x30.st, iV x30.why, iV x30.tr, iV x30.nx, .string (St x30.tag)] 40, Sl 40 8 p14 RL.length c15 (fl eRs RL), Cl b [pV s12, .map (some m13), .slice p14 RL.length c15] 71, Tb s12 n A, Gp kI vE m13 E16, R] := sat_imp h46 (fun _ hh_ => by rw [show (((numsT RL vn k) ++ [(k : Int) + 1]) : List Int) = (numsT RL vn (k + 1)) from numsT_go hx31 (by omega)] at hh_; exact hh_)
   have h51 := tk6 (tk8 (sf7 (sf7 (sf7 (sf7 (sf7 (sf7 (sf2 (sf2 h49)))))))))
   change ∃ n', n' < _ ∧ _
   refine ⟨(RL.length - (k + 1)), by omega, (k + 1), p42, m2 + 1, cap43, _, rfl, (by omega), (by omega), (lvF [.k 1 (iV vn), .k 5 (.slice p42 (m2 + 1) cap43), .k 14 (.slice p14 RL.length c15), .k 15 (iV (((RL.length : Nat) : Int))), .o 16 (oJ .i64 ((k : Int) + 1) ((((k + 1) : Nat) : Int)))]), h51⟩
  refine go [.v 7 3 (eF x30.st vn), .v 9 0 (oIr ((k : Int) + 1))] ?_
  refine enL ?_
  have h53 : sat g w35 [Sl 3 1 p2 m2 c2 (fl eI (numsT RL vn (k + 1))), Cl r32 [iV x30.out.1, iV x30.out.2.1, uV x30.out.2.2, iV x30.st, iV x30.why, iV x30.tr, iV x30.nx, .string (St x30.tag)] 40, Sl 40 8 p14 RL.length c15 (fl eRs RL), Cl b [pV s12, .map (some m13), .slice p14 RL.length c15] 71, Tb s12 n A, Gp kI vE m13 E16, R] := sat_imp (tk7 (sf6 (sf5 (sf6 (sf6 (sf6 (sf6 (sf6 h36)))))))) (fun _ hh_ => by rw [show ((numsT RL vn k) : List Int) = (numsT RL vn (k + 1)) from numsT_no hx31 (by omega)] at hh_; exact hh_)
  have h55 := tk6 (tk7 (sf6 (sf6 (sf6 (sf6 (sf6 (sf6 (sf1 h53))))))))
  change ∃ n', n' < _ ∧ _
  refine ⟨(RL.length - (k + 1)), by omega, (k + 1), p2, m2, c2, _, rfl, (by omega), (by omega), (lvF [.k 1 (iV vn), .k 5 (.slice p2 m2 c2), .k 14 (.slice p14 RL.length c15), .k 15 (iV (((RL.length : Nat) : Int))), .o 16 (oJ .i64 ((k : Int) + 1) ((((k + 1) : Nat) : Int)))]), h55⟩
 refine go [.v 5 0 (oF ((k : Int) < ((RL.length : Nat) : Int)))] <| up <| go [] ?_
 have h56 : sat g w25 [Sl 3 1 p2 m2 c2 (fl eI (nums RL vn)), Sl 40 8 p14 RL.length c15 (fl eRs RL), Cl b [pV s12, .map (some m13), .slice p14 RL.length c15] 71, Tb s12 n A, Gp kI vE m13 E16, R] := sat_imp h26 (fun _ hh_ => by rw [show ((numsT RL vn k) : List Int) = (nums RL vn) from (by rw [show k = RL.length from by omega]; rfl)] at hh_; exact hh_)
 have hl57 := fl_n eI_ok (by decide) h56
 have h58 : sat g w25 [Sl 3 1 p2 (((nums RL vn).length)) c2 (fl eI (nums RL vn)), Sl 40 8 p14 RL.length c15 (fl eRs RL), Cl b [pV s12, .map (some m13), .slice p14 RL.length c15] 71, Tb s12 n A, Gp kI vE m13 E16, R] := sat_imp h56 (fun _ hh_ => by rw [hl57]; exact hh_)
 have h60 : sat g w25 [Tab b n A E RL, Sl 3 1 p2 (((nums RL vn).length)) c2 (fl eI (nums RL vn)), R] := tab_close hM17.1 (by omega) (by first | rfl | omega) (tk6 (sf5 (sf5 (sf5 (sf2 (sf1 (sf5 h58)))))))
 exact en (.slice p2 m2 c2) [] ⟨_, _, rfl, ⟨p2, c2, by rw [hl57], rfl⟩, h60⟩

set_option maxHeartbeats 4000000 in
theorem rclone_nil (c : Nat) (X : Assn) : HT Tryz.prog 54 [Value.slice none 0 c] [X] (fun v K => ∃ (p : Option Addr) (c : Nat), v = Value.slice p 0 c ∧ K = [Sl 40 8 p 0 c (fl eRs []), X]) := by
 refine hiS Tryz.func54 Tryz.ntmps54 fun g w0 R h0 => go [] ?_
 have h10 : sat g w0 [Sl 40 8 none 0 0 (fl eRs []), X, R] := sl_nil 40 8 h0
 exact en (.slice none 0 0) [] ⟨_, _, rfl, ⟨none, 0, rfl, rfl⟩, h10⟩

set_option maxHeartbeats 4000000 in
theorem rclone_some (a : Addr) (p : Option Addr) (hp : p = some a) (n c : Nat) (L : List Rs) (X : Assn) (hX : Gv X p n (fl eRs L)) (hL : L.length = n) (hn : n ≤ 1000000) : HT Tryz.prog 54 [Value.slice p n c] [X] (fun v K => ∃ (p : Option Addr) (c : Nat), v = Value.slice p n c ∧ K = [Sl 40 8 p n c (fl eRs L), X]) := by
 refine hiS Tryz.func54 Tryz.ntmps54 fun g w0 R h0 => go [.s 1 1] <| lwP (.bool false) (law_sliceSome (x := (Operand.tmp 3)) (y := (Operand.const (.slice none 0 0))) (m := n) (c := c) (by kernel_rfl) Tryz.underlying69 (by kernel_rfl) hp (by kernel_rfl) _) <| go [] <| nG (fun q_ => .slice (some ⟨q_, 0, none⟩) 0 0) 40 [] h0 (fun r10 w11 h12 => ⟨kd [], ?_⟩)
 have h13 : sat g w11 [Sl 40 8 (some ⟨r10, 0, none⟩) 0 0 (fl eRs []), X, R] := sl_of_cl h12 rfl (by omega)
 refine go [] ?_
 refine actG ?_
 refine an_append_gv (d := 7) (sz := 8) (s := (Operand.tmp 5)) (x := (Operand.tmp 6)) (z := .agg #[iV 0, iV 0, uV 0, iV 0, iV 0, iV 0, iV 0, .string (St [])]) (p := (some ⟨r10, 0, none⟩)) (p2 := p) (m := 0) (c := 0) (k := n) (c2 := c) (by_ := 72) (by kernel_rfl) (by kernel_rfl) rfl Tryz.underlying69 (by kernel_rfl) rfl (by decide) (by kernel_rfl) (by kernel_rfl) h13 1 rfl (fl eRs L) hX (by rw [fl_len eRs_ok, hL]) (fl_one eRs_ok _) (by omega) (by omega) n (by omega) ?_
 intro p14 cap15 w16 h17
 have h18 : sat g w16 [Sl 40 8 p14 n cap15 (fl eRs L), X, R] := sat_imp h17 (fun _ hh => by exact hh)
 obtain ⟨hn19, hn20⟩ := sl_le h18
 refine nxA <| go [] ?_
 exact en (.slice p14 n cap15) [] ⟨_, _, rfl, ⟨p14, cap15, rfl, rfl⟩, h18⟩

theorem rclone_ht (p : Option Addr) (n c : Nat) (L : List Rs) (X : Assn) (hX : Gv X p n (fl eRs L)) (hL : L.length = n) (hn : n ≤ 1000000) : HT Tryz.prog 54 [Value.slice p n c] [X] (fun v K => ∃ (p : Option Addr) (c : Nat), v = Value.slice p n c ∧ K = [Sl 40 8 p n c (fl eRs L), X]) := by
  cases p with
  | none =>
    have hn0 : n = 0 ∨ 0 < n := by omega
    rcases hn0 with hn0 | hn0
    · have hl0 : L = [] := List.eq_nil_of_length_eq_zero (by omega)
      subst hl0
      subst hn0
      exact rclone_nil c X
    · intro g w F hs
      obtain ⟨b, off, h1⟩ := gv_ptr (j := 0) hs rfl hX hn0
      cases h1
  | some a => exact rclone_some a _ rfl n c L X hX hL hn

set_option maxHeartbeats 4000000 in
theorem tcopy_ht (b n : Nat) (A : List Sl2) (E : Tm) (RL : List Rs) : HT Tryz.prog 20 [Value.pointer (some ⟨b, 0, none⟩)] [Tab b n A E RL] (fun v K => ∃ b2 : Nat, v = Value.pointer (some ⟨b2, 0, none⟩) ∧ K = [Tab b n A E RL, Tab b2 n A E RL]) := by
 refine hiS Tryz.func20 Tryz.ntmps20 fun g w0 R h0 => go [] <| cl1 Tryz.call29 (tvalid_ht b n A E RL) h0 fun w10 h11 => go [.s 3 100000] ?_
 obtain ⟨s12, m13, p14, c15, E16, hM17, h18⟩ := tab_open h11
 have hRl_ := hM17.2
 have h19 := tk5 (sf4 (sf3 (sf3 (sf3 (sf4 h18)))))
 have hl20 := fl_n eRs_ok (by decide) h19
 refine jn (fun a w => ∃ rb : Nat, ∃ s2 : Nat, ∃ r2 : Nat, ∃ p2 : Option Addr, ∃ c2 : Nat, ∃ lr : Fr, a = mk 39 (([(0, pV b), (3, pV rb)] : Fr) ++ lr) ∧ sat g w [Cl rb [pV s2, .map (some r2), .slice p2 RL.length c2] 71, Tb s2 n A, Gp kI vE r2 [], Sl 40 8 p2 RL.length c2 (fl eRs RL), Cl b [pV s12, .map (some m13), .slice p14 RL.length c15] 71, Tb s12 n A, Gp kI vE m13 E16, Sl 40 8 p14 RL.length c15 (fl eRs RL), R]) ?_ ?_
 ·
  refine go [] <| dw (fls [0, 1, 2, 3, 6, 7, 8, 9] (Tr.an2 4 (Tr.an2 5 (Tr.an 10 (Tr.fl 11 (Tr.an 12 (Tr.fl 13 Tr.nil)))) 10 (Tr.an 5 (Tr.fl 11 (Tr.an 12 (Tr.fl 13 Tr.nil))))) 5 (Tr.an 4 (Tr.an 10 (Tr.fl 11 (Tr.an 12 (Tr.fl 13 Tr.nil))))))) h19 fun w21 h22 => go [rd 3 3 1 0 1 h22, rd 3 9 1 2 1 h22] ?_
  refine br2 ?_ ?_
  ·
   refine cG Tryz.call53 (scopy_ht s12 n A) (tk5 (sf4 (sf3 (sf3 (sf4 (sf4 h22)))))) ?_
   rintro v K w25 (⟨b23, rfl, rfl⟩) h26
   have h27 := ap2 h26
   refine ⟨kd [rd 0 9 3 2 1 h27], ?_⟩
   refine br2 ?_ ?_
   ·
    refine actG ?_
    refine ag_makeMap (t := 68) (d := 14) kI vE (by kernel_rfl) (by kernel_rfl) rfl h27 ?_
    intro r28 w29 h30
    refine ⟨kd [rd 0 9 4 2 1 h30], nxG ?_⟩
    refine cG Tryz.call54 (rclone_ht p14 RL.length c15 RL (Sl 40 8 p14 RL.length c15 (fl eRs RL)) (gv_sl _ _ _) hl20 (by omega)) (tk7 (sf6 (sf5 (sf5 (sf5 (sf6 (sf6 (sf6 h30)))))))) ?_
    rintro v K w34 (⟨p31, c32, rfl, rfl⟩) h35
    have h36 := ap2 h35
    refine ⟨kd [], ?_⟩
    refine go [] <| nG (fun q_ => pV q_) 71 [pV b23, .map (some r28), .slice p31 RL.length c32] h36 (fun r37 w38 h39 => ⟨kd [], ?_⟩)
    refine go [] ?_
    refine enL ?_
    exact ⟨r37, b23, r28, p31, c32, _, (lvF [.k 0 (pV b), .k 3 (pV r37)]), (tk9 (sf8 (sf8 (sf7 (sf6 (sf8 (sf6 (sf8 (sf3 (sf8 h39))))))))))⟩
   refine cG Tryz.call54 (rclone_ht p14 RL.length c15 RL (Sl 40 8 p14 RL.length c15 (fl eRs RL)) (gv_sl _ _ _) hl20 (by omega)) (tk6 (sf5 (sf4 (sf4 (sf5 (sf5 (sf5 h27))))))) ?_
   rintro v K w44 (⟨p41, c42, rfl, rfl⟩) h45
   have h46 := ap2 h45
   refine ⟨kd [], ?_⟩
   refine actG ?_
   refine ag_makeMap (t := 68) (d := 14) kI vE (by kernel_rfl) (by kernel_rfl) rfl h46 ?_
   intro r47 w48 h49
   refine ⟨kd [], nxG ?_⟩
   refine go [] <| nG (fun q_ => pV q_) 71 [pV b23, .map (some r47), .slice p41 RL.length c42] h49 (fun r50 w51 h52 => ⟨kd [], ?_⟩)
   refine go [] ?_
   refine enL ?_
   exact ⟨r50, b23, r47, p41, c42, _, (lvF [.k 0 (pV b), .k 3 (pV r50)]), (tk9 (sf8 (sf8 (sf7 (sf7 (sf8 (sf6 (sf8 (sf4 (sf8 h52))))))))))⟩
  refine actG ?_
  refine ag_makeMap (t := 68) (d := 14) kI vE (by kernel_rfl) (by kernel_rfl) rfl h22 ?_
  intro r54 w55 h56
  refine ⟨kd [rd 0 9 2 2 1 h56, rd 0 3 2 0 1 h56], nxG ?_⟩
  refine cG Tryz.call53 (scopy_ht s12 n A) (tk6 (sf5 (sf4 (sf4 (sf4 (sf5 (sf5 h56))))))) ?_
  rintro v K w59 (⟨b57, rfl, rfl⟩) h60
  have h61 := ap2 h60
  refine ⟨kd [rd 0 9 4 2 1 h61], ?_⟩
  refine cG Tryz.call54 (rclone_ht p14 RL.length c15 RL (Sl 40 8 p14 RL.length c15 (fl eRs RL)) (gv_sl _ _ _) hl20 (by omega)) (tk7 (sf6 (sf5 (sf5 (sf5 (sf6 (sf6 (sf6 h61)))))))) ?_
  rintro v K w65 (⟨p62, c63, rfl, rfl⟩) h66
  have h67 := ap2 h66
  refine ⟨kd [], ?_⟩
  refine go [] <| nG (fun q_ => pV q_) 71 [pV b57, .map (some r54), .slice p62 RL.length c63] h67 (fun r68 w69 h70 => ⟨kd [], ?_⟩)
  refine go [] ?_
  refine enL ?_
  exact ⟨r68, b57, r54, p62, c63, _, (lvF [.k 0 (pV b), .k 3 (pV r68)]), (tk9 (sf8 (sf8 (sf8 (sf6 (sf8 (sf5 (sf8 (sf3 (sf8 h70))))))))))⟩
 rintro a72 w73 ⟨rb, s2, r2, p2, c2, lr75, rfl, h74⟩
 refine ga ?_
 have h76 := tk9 (sf8 (sf7 (sf7 (sf7 (sf7 (sf7 (sf7 (sf8 (sf8 h74)))))))))
 refine go [rd 4 3 4 1 1 h74] ?_
 refine actG ?_
 refine ag_range (t := 68) (d := 26) (x := (Operand.tmp 25)) (by kernel_rfl) (by kernel_rfl) rfl Tryz.underlying68 (by kernel_rfl) h76 ?_
 intro r77 w78 h79
 refine nxA <| go [] ?_
 refine lpS (fun mz_ a w => ∃ S_ : Tm, ∃ Ec : Tm, ∃ cu_ : Option (Int × Ety), ∃ lr : Fr, mz_ = S_.length ∧ (Part E16 S_ Ec) ∧ a = mk 39 (([(3, pV rb), (26, pV r77)] : Fr) ++ lr) ∧ sat g w [It kI vE m13 r77 E16 S_ cu_, Gp kI vE r2 Ec, Cl rb [pV s2, .map (some r2), .slice p2 RL.length c2] 71, Tb s2 n A, Sl 40 8 p2 RL.length c2 (fl eRs RL), Cl b [pV s12, .map (some m13), .slice p14 RL.length c15] 71, Tb s12 n A, Sl 40 8 p14 RL.length c15 (fl eRs RL), R]) (E16.length) ⟨E16, [], none, _, rfl, (part_start hM17.1), (lvF [.k 3 (pV rb), .k 26 (pV r77)]), (tk9 (sf8 (sf8 (sf7 (sf7 (sf8 (sf8 (sf8 (sf8 (sf8 h79))))))))))⟩ ?_
 rintro m82 a83 w84 ⟨S_, Ec, cu_, lr81, rfl, hP_, rfl, h85⟩
 refine ga <| go [] ?_
 refine actG ?_
 refine ag_next (d := 27) (x := (Operand.tmp 26)) (by kernel_rfl) (by kernel_rfl) rfl (by kernel_rfl) h85 ?_ ?_
 ·
  intro hS86 w87 h88
  refine nxA <| go [] <| up <| go [] ?_
  have h94 : sat g w87 [Gp kI vE m13 E16, Gp kI vE r2 Ec, Cl rb [pV s2, .map (some r2), .slice p2 RL.length c2] 71, Tb s2 n A, Sl 40 8 p2 RL.length c2 (fl eRs RL), Cl b [pV s12, .map (some m13), .slice p14 RL.length c15] 71, Tb s12 n A, Sl 40 8 p14 RL.length c15 (fl eRs RL), R] := it_end h88
  have h96 : sat g w87 [Tab b n A E RL, Gp kI vE r2 Ec, Cl rb [pV s2, .map (some r2), .slice p2 RL.length c2] 71, Tb s2 n A, Sl 40 8 p2 RL.length c2 (fl eRs RL), R] := tab_close hM17.1 (by omega) (by first | rfl | omega) (tk9 (sf8 (sf8 (sf6 (sf8 (sf5 (sf5 (sf5 (sf5 (sf8 h94))))))))))
  have h97 := tk6 (sf5 (sf5 (sf3 (sf5 (sf1 (sf5 h96))))))
  have h98 : sat g w87 [Tab rb n A E RL, Tab b n A E RL, R] := tab_close (part_end (hS86 ▸ hP_) hM17.1) (by omega) (by first | rfl | omega) h97
  exact en (pV rb) [] ⟨_, _, rfl, ⟨rb, rfl, rfl⟩, (tk3 (sf2 (sf1 (sf2 h98))))⟩
 intro ix89 q90 hq91 w92 h93
 have hel100 := erase_len hq91
 refine nxA <| go [] ?_
 refine actG ?_
 refine act_law (d := 29) (.tuple #[iV q90.1, .agg #[iV q90.2.d.1, iV q90.2.d.2.1, uV q90.2.d.2.2, iV q90.2.num, iV q90.2.h.1, uV q90.2.h.2]]) (by kernel_rfl) rfl (law_entry (x := (Operand.tmp 26)) (by kernel_rfl) (by kernel_rfl) h93 (.tuple #[iV q90.1, .agg #[iV q90.2.d.1, iV q90.2.d.2.1, uV q90.2.d.2.2, iV q90.2.num, iV q90.2.h.1, uV q90.2.h.2]]) rfl) ?_
 refine nxA <| go [] <| nP 89 [iV 0, iV 0, uV 0, iV 0, iV 0, uV 0] h93 (fun r101 w102 h103 => ?_)
 refine go [] <| sP [(0, iV q90.2.d.1), (1, iV q90.2.d.2.1), (2, uV q90.2.d.2.2), (3, iV q90.2.num), (4, iV q90.2.h.1), (5, uV q90.2.h.2)] [iV q90.2.d.1, iV q90.2.d.2.1, uV q90.2.d.2.2, iV q90.2.num, iV q90.2.h.1, uV q90.2.h.2] h103 fun w104 h105 => go [] <| dw (fls [0, 1, 2, 3, 4, 5] (Tr.an 6 Tr.nil)) h105 fun w106 h107 => ?_
 have h108 := tk10 (sf9 (sf8 (sf8 (sf9 (sf9 (sf9 (sf9 (sf9 (sf9 (sf9 h107))))))))))
 refine go [rd 7 3 3 1 1 h107, rd 7 5 0 0 6 h107] ?_
 refine actG ?_
 refine ag_mapUpdate (t := 68) (m := (Operand.tmp 35)) (x := (Operand.tmp 36)) (y := (Operand.tmp 37)) (kv := kI) (ve := vE) (by kernel_rfl) (by kernel_rfl) Tryz.underlying68 kyI q90.1 (⟨(q90.2.d.1, q90.2.d.2.1, q90.2.d.2.2), q90.2.num, (q90.2.h.1, q90.2.h.2)⟩ : Ety) (by kernel_rfl) (by kernel_rfl) (by kernel_rfl) h108 (gset Ec q90.1 ⟨(q90.2.d.1, q90.2.d.2.1, q90.2.d.2.2), q90.2.num, (q90.2.h.1, q90.2.h.2)⟩) rfl ?_
 intro w109 h110
 refine ⟨kd [], nxN ?_⟩
 refine go [] ?_
 refine enL ?_
 have h112 := tk9 (tk10 (sf9 (sf8 (sf9 (sf9 (sf9 (sf9 (sf9 (sf9 (sf9 (sf1 h110)))))))))))
 change ∃ n', n' < _ ∧ _
 refine ⟨(S_.eraseIdx ix89).length, by omega, (S_.eraseIdx ix89), (gset Ec q90.1 ⟨(q90.2.d.1, q90.2.d.2.1, q90.2.d.2.2), q90.2.num, (q90.2.h.1, q90.2.h.2)⟩), (some q90), _, rfl, (part_go hP_ hq91), (lvF [.k 3 (pV rb), .k 26 (pV r77)]), h112⟩

end Go.Proofs.YtjjpmehiolejgaaGreat

/- Walks, printed by my generator z8.py. -/
namespace Go.Proofs.YtjjpmehiolejgaaGreat
theorem dscT_go {E : Tm} {v : Int} {i : Nat} {e : Ety} (h : (allE E)[i]? = some e) (hn : e.num = v) : descT E v i ++ [(e.d.1, e.d.2.1, e.d.2.2)] = descT E v (i + 1) := by
  have h1 := descT_go (E := E) (v := v) (i := i) (List.getElem?_eq_some_iff.1 h).1 (by rw [getD_some h]; exact hn)
  rw [getD_some h] at h1
  exact h1
theorem dscT_no {E : Tm} {v : Int} {i : Nat} {e : Ety} (h : (allE E)[i]? = some e) (hn : e.num ≠ v) : descT E v i = descT E v (i + 1) := descT_no (List.getElem?_eq_some_iff.1 h).1 (by rw [getD_some h]; exact hn)
theorem dsc_out {n : Nat} {S : Ts} (W : Wf n S) {v : Int} (h : v < 1 ∨ (S.R.length : Int) < v) : descs S.E v = [] := by
  unfold descs
  refine List.filterMap_eq_nil_iff.2 fun e he => if_neg fun hn => ?_
  obtain ⟨k, _, hk⟩ := mem_allE.1 he
  obtain ⟨q, r, hq, hnum, _⟩ := (W.ent _ _ hk).2.2.1
  have := (List.getElem?_eq_some_iff.1 hq).1
  omega
set_option maxHeartbeats 4000000 in
theorem zdsc_nil (vn : Int) : HT Tryz.prog 48 [Value.pointer none, Value.int IntKind.i64 vn] [] (fun v K => v = Value.tuple #[Value.slice none 0 0, Value.int IntKind.i64 1] ∧ K = []) := by
 refine hiS Tryz.func48 Tryz.ntmps48 fun g w0 R h0 => go [] <| cl0 Tryz.call82 (znum_nil vn) h0 fun w10 h11 => go [] ?_
 exact en (.tuple #[.slice none 0 0, iV 1]) [] ⟨_, _, rfl, ⟨rfl, rfl⟩, h11⟩

set_option maxHeartbeats 4000000 in
theorem zdsc_ht (b n : Nat) (S : Ts) (hW : Wf n S) (vn : Int) : HT Tryz.prog 48 [Value.pointer (some ⟨b, 0, none⟩), Value.int IntKind.i64 vn] [Zr b n S.A (allE S.E) S.R] (fun v K => ∃ (p : Option Addr) (c : Nat), v = Value.tuple #[Value.slice p (((descs S.E vn).length)) c, Value.int IntKind.i64 ((nE S vn))] ∧ K = [Zr b n S.A (allE S.E) S.R, Sl 25 3 p (((descs S.E vn).length)) c (fl eO (descs S.E vn))]) := by
 refine hiS Tryz.func48 Tryz.ntmps48 fun g w0 R h0 => go [] ?_
 by_cases c10 : 1 ≤ vn
 ·
  by_cases c11 : vn ≤ ((S.R.length : Nat) : Int)
  ·
   refine cl1 Tryz.call82 ((by have h_ := wnum_ht b n S vn; rw [(show nE S vn = 0 from if_pos (by omega))] at h_; exact h_)) h0 fun w12 h13 => ?_
   refine go [] ?_
   obtain ⟨s14, p15, c16, p17, c18, hq19, h20⟩ := zr_open h13
   have hb21 := hq19.1
   have hb22 := hq19.2
   have h23 : sat g w12 [Sl 25 3 none 0 0 (fl eO []), Cl b [pV s14, .slice p15 (((allE S.E).length)) c16, .slice p17 S.R.length c18] 78, Zs s14 n S.A, Sl 93 6 p15 (((allE S.E).length)) c16 (fl eE (allE S.E)), Sl 54 8 p17 S.R.length c18 (fl eRs S.R), R] := sl_nil 25 3 h20
   refine lpS (fun mz_ a w => ∃ k : Nat, ∃ p2 : Option Addr, ∃ m2 : Nat, ∃ c2 : Nat, ∃ lr : Fr, mz_ = ((allE S.E).length) - k ∧ (k ≤ ((allE S.E).length)) ∧ (m2 ≤ k) ∧ a = mk 46 (([(0, pV b), (1, iV vn), (7, .slice p2 m2 c2), (8, iV (k : Int))] : Fr) ++ lr) ∧ sat g w [Sl 25 3 p2 m2 c2 (fl eO (descT S.E vn k)), Cl b [pV s14, .slice p15 (((allE S.E).length)) c16, .slice p17 S.R.length c18] 78, Zs s14 n S.A, Sl 93 6 p15 (((allE S.E).length)) c16 (fl eE (allE S.E)), Sl 54 8 p17 S.R.length c18 (fl eRs S.R), R]) (((allE S.E).length) - 0) ⟨0, none, 0, 0, _, rfl, (Nat.zero_le _), (Nat.le_refl _), (lvF [.k 0 (pV b), .k 1 (iV vn), .k 7 (.slice none 0 0), .o 8 (oJ .i64 0 (0 : Int))]), h23⟩ ?_
   rintro m25 a26 w27 ⟨k, p2, m2, c2, lr24, rfl, hk_, hm2, rfl, h28⟩
   refine ga <| go [rd 6 4 1 1 1 h28, .s 6 6] ?_
   by_cases c29 : (k : Int) < (((allE S.E).length : Nat) : Int)
   ·
    obtain ⟨b30, hp31⟩ := sl_ptr0 (j := 3) h28 rfl (by omega)
    refine go [.v 6 6 (oT ((k : Int) < (((allE S.E).length : Nat) : Int))), rd 8 3 1 1 1 h28, .s 8 5] <| lwP (.pointer (some ⟨b30, k * 6, none⟩)) (law_indexSlP (x := (Operand.tmp 27)) (i := (Operand.tmp 28)) (p := p15) (b := b30) (off := 0) (z := (k : Int)) (len := (((allE S.E).length))) (cap := c16) (by kernel_rfl) Tryz.underlying75 6 (by kernel_rfl) k (by kernel_rfl) hp31 (by kernel_rfl) (by omega) (by omega) (k * 6) (by omega) _) ?_
    obtain ⟨x32, hx33⟩ : ∃ x, (allE S.E)[k]? = some x := ⟨_, List.getElem?_eq_getElem (by omega)⟩
    refine go [.r 8 7 b30 (k * 6 + 3) [iV x32.num] ⟨gv_cell (j := 3) h28 rfl (gv_sl _ _ _) hp31 (fl_get eE_ok (j := 3) (v := iV x32.num) hx33 rfl) (k * 6 + 3) (by omega), trivial⟩, .s 8 9] ?_
    by_cases c34 : x32.num = vn
    ·
     refine go [.v 8 9 (eT x32.num vn), rd 9 4 1 1 1 h28, .s 9 6] <| lwP (.pointer (some ⟨b30, k * 6, none⟩)) (law_indexSlP (x := (Operand.tmp 38)) (i := (Operand.tmp 39)) (p := p15) (b := b30) (off := 0) (z := (k : Int)) (len := (((allE S.E).length))) (cap := c16) (by kernel_rfl) Tryz.underlying75 6 (by kernel_rfl) k (by kernel_rfl) hp31 (by kernel_rfl) (by omega) (by omega) (k * 6) (by omega) _) <| go [.r 9 8 b30 (k * 6) [iV x32.d.1, iV x32.d.2.1, uV x32.d.2.2] ⟨gv_cell (j := 3) h28 rfl (gv_sl _ _ _) hp31 (fl_get eE_ok (j := 0) (v := iV x32.d.1) hx33 rfl) (k * 6) (by omega), gv_cell (j := 3) h28 rfl (gv_sl _ _ _) hp31 (fl_get eE_ok (j := 1) (v := iV x32.d.2.1) hx33 rfl) (k * 6 + 1) (by omega), gv_cell (j := 3) h28 rfl (gv_sl _ _ _) hp31 (fl_get eE_ok (j := 2) (v := uV x32.d.2.2) hx33 rfl) (k * 6 + 2) (by omega), trivial⟩] <| nG (fun q_ => .slice (some ⟨q_, 0, none⟩) 1 1) 25 [iV x32.d.1, iV x32.d.2.1, uV x32.d.2.2] h28 (fun r35 w36 h37 => ⟨kd [], ?_⟩)
     have h38 := tk7 (sf6 (sf5 (sf6 (sf6 (sf6 (sf6 (sf6 h37)))))))
     refine actG ?_
     refine an_append (d := 44) (sz := 3) (s := (Operand.tmp 34)) (x := (Operand.tmp 43)) (z := .agg #[iV 0, iV 0, uV 0]) (p := p2) (m := m2) (c := c2) (k := 1) (c2 := 1) (a := ⟨r35, 0, none⟩) (by_ := 24) (by kernel_rfl) (by kernel_rfl) rfl Tryz.underlying48 (by kernel_rfl) rfl (by decide) (by kernel_rfl) (by kernel_rfl) h38 (fl eO [(x32.d.1, x32.d.2.1, x32.d.2.2)]) rfl (fun j u hj => by rw [add_off]; exact sat_cell h38 1 rfl (by rw [Nat.zero_add]; exact hj)) (fl_one eO_ok _) (by omega) (by omega) (m2 + 1) (by omega) ?_
     intro p39 cap40 w41 h42
     have h43 : sat g w41 [Sl 25 3 p39 (m2 + 1) cap40 (fl eO ((descT S.E vn k) ++ [(x32.d.1, x32.d.2.1, x32.d.2.2)])), Cl r35 [iV x32.d.1, iV x32.d.2.1, uV x32.d.2.2] 25, Cl b [pV s14, .slice p15 (((allE S.E).length)) c16, .slice p17 S.R.length c18] 78, Zs s14 n S.A, Sl 93 6 p15 (((allE S.E).length)) c16 (fl eE (allE S.E)), Sl 54 8 p17 S.R.length c18 (fl eRs S.R), R] := sat_imp h42 (fun _ hh => by rw [fl_app]; exact hh)
     obtain ⟨hn44, hn45⟩ := sl_le h43
     refine nxA <| go [.v 7 1 (oIr ((k : Int) + 1))] ?_
     refine enL ?_
     have h46 : sat g w41 [Sl 25 3 p39 (m2 + 1) cap40 (fl eO (descT S.E vn (k + 1))), Cl r35 [iV x32.d.1, iV x32.d.2.1, uV x32.d.2.2] 25, Cl b [pV s14, .slice p15 (((allE S.E).length)) c16, .slice p17 S.R.length c18] 78, Zs s14 n S.A, Sl 93 6 p15 (((allE S.E).length)) c16 (fl eE (allE S.E)), Sl 54 8 p17 S.R.length c18 (fl eRs S.R), R] := sat_imp h43 (fun _ hh_ => by rw [show (((descT S.E vn k) ++ [(x32.d.1, x32.d.2.1, x32.d.2.2)]) : List Ky) = (descT S.E vn (k + 1)) from dscT_go hx33 (by omega)] at hh_; exact hh_)
     have h48 := tk6 (tk7 (sf6 (sf6 (sf6 (sf6 (sf6 (sf6 (sf1 h46))))))))
     change ∃ n', n' < _ ∧ _
     refine ⟨(((allE S.E).length) - (k + 1)), by omega, (k + 1), p39, m2 + 1, cap40, _, rfl, (by omega), (by omega), (lvF [.k 0 (pV b), .k 1 (iV vn), .k 7 (.slice p39 (m2 + 1) cap40), .o 8 (oJ .i64 ((k : Int) + 1) ((((k + 1) : Nat) : Int)))]), h48⟩
    refine go [.v 8 9 (eF x32.num vn), .v 7 1 (oIr ((k : Int) + 1))] ?_
    refine enL ?_
    have h49 : sat g w27 [Sl 25 3 p2 m2 c2 (fl eO (descT S.E vn (k + 1))), Cl b [pV s14, .slice p15 (((allE S.E).length)) c16, .slice p17 S.R.length c18] 78, Zs s14 n S.A, Sl 93 6 p15 (((allE S.E).length)) c16 (fl eE (allE S.E)), Sl 54 8 p17 S.R.length c18 (fl eRs S.R), R] := sat_imp h28 (fun _ hh_ => by rw [show ((descT S.E vn k) : List Ky) = (descT S.E vn (k + 1)) from dscT_no hx33 (by omega)] at hh_; exact hh_)
    change ∃ n', n' < _ ∧ _
    refine ⟨(((allE S.E).length) - (k + 1)), by omega, (k + 1), p2, m2, c2, _, rfl, (by omega), (by omega), (lvF [.k 0 (pV b), .k 1 (iV vn), .k 7 (.slice p2 m2 c2), .o 8 (oJ .i64 ((k : Int) + 1) ((((k + 1) : Nat) : Int)))]), h49⟩
   refine go [.v 6 6 (oF ((k : Int) < (((allE S.E).length : Nat) : Int)))] <| up <| go [] ?_
   have h50 : sat g w27 [Sl 25 3 p2 m2 c2 (fl eO (descs S.E vn)), Cl b [pV s14, .slice p15 (((allE S.E).length)) c16, .slice p17 S.R.length c18] 78, Zs s14 n S.A, Sl 93 6 p15 (((allE S.E).length)) c16 (fl eE (allE S.E)), Sl 54 8 p17 S.R.length c18 (fl eRs S.R), R] := sat_imp h28 (fun _ hh_ => by rw [show ((descT S.E vn k) : List Ky) = (descs S.E vn) from (by rw [show k = (allE S.E).length from by omega]; exact descT_all S.E vn)] at hh_; exact hh_)
   have hl51 := fl_n eO_ok (by decide) h50
   have h52 : sat g w27 [Sl 25 3 p2 (((descs S.E vn).length)) c2 (fl eO (descs S.E vn)), Cl b [pV s14, .slice p15 (((allE S.E).length)) c16, .slice p17 S.R.length c18] 78, Zs s14 n S.A, Sl 93 6 p15 (((allE S.E).length)) c16 (fl eE (allE S.E)), Sl 54 8 p17 S.R.length c18 (fl eRs S.R), R] := sat_imp h50 (fun _ hh_ => by rw [hl51]; exact hh_)
   have h54 : sat g w27 [Zr b n S.A (allE S.E) S.R, Sl 25 3 p2 (((descs S.E vn).length)) c2 (fl eO (descs S.E vn)), R] := zr_close (by first | omega | (simp only [List.length_append, List.length_take, List.length_drop, List.length_cons, List.length_nil]; omega)) (by first | rfl | (simp only [List.length_append, List.length_take, List.length_drop, List.length_cons, List.length_nil]; omega) | simp only [List.length_append, List.length_take, List.length_drop, List.length_cons, List.length_nil]) (by first | rfl | (simp only [List.length_append, List.length_take, List.length_drop, List.length_cons, List.length_nil]; omega) | simp only [List.length_append, List.length_take, List.length_drop, List.length_cons, List.length_nil]) (tk6 (sf5 (sf5 (sf5 (sf5 (sf1 (sf5 h52)))))))
   exact en (.tuple #[.slice p2 m2 c2, iV 0]) [] ⟨_, _, rfl, ⟨p2, c2, by rw [hl51, show nE S vn = 0 from if_pos (by omega)], rfl⟩, h54⟩
  refine cl1 Tryz.call82 ((by have h_ := wnum_ht b n S vn; rw [(show nE S vn = 3 from if_neg (by omega))] at h_; exact h_)) h0 fun w55 h56 => ?_
  refine go [] ?_
  have h57 : sat g w55 [Sl 25 3 none 0 0 (fl eO []), Zr b n S.A (allE S.E) S.R, R] := sl_nil 25 3 h56
  have ho_ := dsc_out hW (v := vn) (by omega)
  have h58 : sat g w55 [Sl 25 3 none 0 0 (fl eO (descs S.E vn)), Zr b n S.A (allE S.E) S.R, R] := sat_imp h57 (fun _ hh_ => by rw [show ([] : List Ky) = (descs S.E vn) from ho_.symm] at hh_; exact hh_)
  have h59 : sat g w55 [Sl 25 3 none (((descs S.E vn).length)) 0 (fl eO (descs S.E vn)), Zr b n S.A (allE S.E) S.R, R] := sat_imp h58 (fun _ hh_ => by rw [ho_] at hh_ ⊢; exact hh_)
  exact en (.tuple #[.slice none 0 0, iV 3]) [] ⟨_, _, rfl, ⟨none, 0, by rw [ho_, show nE S vn = 3 from if_neg (by omega)]; rfl, rfl⟩, (tk3 (sf2 (sf1 (sf2 h59))))⟩
 refine cl1 Tryz.call82 ((by have h_ := wnum_ht b n S vn; rw [(show nE S vn = 3 from if_neg (by omega))] at h_; exact h_)) h0 fun w61 h62 => ?_
 refine go [] ?_
 have h63 : sat g w61 [Sl 25 3 none 0 0 (fl eO []), Zr b n S.A (allE S.E) S.R, R] := sl_nil 25 3 h62
 have ho_ := dsc_out hW (v := vn) (by omega)
 have h64 : sat g w61 [Sl 25 3 none 0 0 (fl eO (descs S.E vn)), Zr b n S.A (allE S.E) S.R, R] := sat_imp h63 (fun _ hh_ => by rw [show ([] : List Ky) = (descs S.E vn) from ho_.symm] at hh_; exact hh_)
 have h65 : sat g w61 [Sl 25 3 none (((descs S.E vn).length)) 0 (fl eO (descs S.E vn)), Zr b n S.A (allE S.E) S.R, R] := sat_imp h64 (fun _ hh_ => by rw [ho_] at hh_ ⊢; exact hh_)
 exact en (.tuple #[.slice none 0 0, iV 3]) [] ⟨_, _, rfl, ⟨none, 0, by rw [ho_, show nE S vn = 3 from if_neg (by omega)]; rfl, rfl⟩, (tk3 (sf2 (sf1 (sf2 h65))))⟩

set_option maxHeartbeats 4000000 in
theorem znums_nil (vn : Int) : HT Tryz.prog 66 [Value.pointer none, Value.int IntKind.i64 vn] [] (fun v K => v = Value.slice none 0 0 ∧ K = []) := by
 refine hiS Tryz.func66 Tryz.ntmps66 fun g w0 R h0 => go [] <| unS 0 <| go [] <| cl0 Tryz.call37 (rvalid_nil) h0 fun w10 h11 => go [] <| up <| go [] ?_
 exact en (.slice none 0 0) [] ⟨_, _, rfl, ⟨rfl, rfl⟩, h11⟩

set_option maxHeartbeats 4000000 in
theorem znums_ht (b n : Nat) (S : Ts) (vn : Int) : HT Tryz.prog 66 [Value.pointer (some ⟨b, 0, none⟩), Value.int IntKind.i64 vn] [Zr b n S.A (allE S.E) S.R] (fun v K => ∃ (p : Option Addr) (c : Nat), v = Value.slice p (((nums S.R vn).length)) c ∧ K = [Zr b n S.A (allE S.E) S.R, Sl 3 1 p (((nums S.R vn).length)) c (fl eI (nums S.R vn))]) := by
 refine hiS Tryz.func66 Tryz.ntmps66 fun g w0 R h0 => go [] ?_
 obtain ⟨s10, p11, c12, p13, c14, hq15, h16⟩ := zr_open h0
 have hb17 := hq15.1
 have hb18 := hq15.2
 have h19 : sat g w0 [Sl 3 1 none 0 0 (fl eI []), Cl b [pV s10, .slice p11 (((allE S.E).length)) c12, .slice p13 S.R.length c14] 78, Zs s10 n S.A, Sl 93 6 p11 (((allE S.E).length)) c12 (fl eE (allE S.E)), Sl 54 8 p13 S.R.length c14 (fl eRs S.R), R] := sl_nil 3 1 h16
 refine lpS (fun mz_ a w => ∃ k : Nat, ∃ p2 : Option Addr, ∃ m2 : Nat, ∃ c2 : Nat, ∃ lr : Fr, mz_ = S.R.length - k ∧ (k ≤ S.R.length) ∧ (m2 ≤ k) ∧ a = mk 36 (([(0, pV b), (1, iV vn), (5, .slice p2 m2 c2), (6, iV (k : Int))] : Fr) ++ lr) ∧ sat g w [Sl 3 1 p2 m2 c2 (fl eI (numsT S.R vn k)), Cl b [pV s10, .slice p11 (((allE S.E).length)) c12, .slice p13 S.R.length c14] 78, Zs s10 n S.A, Sl 93 6 p11 (((allE S.E).length)) c12 (fl eE (allE S.E)), Sl 54 8 p13 S.R.length c14 (fl eRs S.R), R]) (S.R.length - 0) ⟨0, none, 0, 0, _, rfl, (Nat.zero_le _), (Nat.le_refl _), (lvF [.k 0 (pV b), .k 1 (iV vn), .k 5 (.slice none 0 0), .o 6 (oJ .i64 0 (0 : Int))]), h19⟩ ?_
 rintro m21 a22 w23 ⟨k, p2, m2, c2, lr20, rfl, hk_, hm2, rfl, h24⟩
 refine ga ?_
 have h25 := tk6 (sf5 (sf4 (sf5 (sf5 (sf5 (sf5 h24))))))
 refine go [] <| cl1 Tryz.call37 (rvalid_cl b s10 p11 (((allE S.E).length)) c12 p13 S.R.length c14) h25 fun w26 h27 => go [rd 3 7 0 2 1 h27, .s 3 9] ?_
 by_cases c28 : (k : Int) < ((S.R.length : Nat) : Int)
 ·
  obtain ⟨b29, hp30⟩ := sl_ptr0 (j := 4) h27 rfl (by omega)
  refine go [.v 3 9 (oT ((k : Int) < ((S.R.length : Nat) : Int))), rd 5 3 0 2 1 h27, .s 5 5] <| lwP (.pointer (some ⟨b29, k * 8, none⟩)) (law_indexSlP (x := (Operand.tmp 23)) (i := (Operand.tmp 24)) (p := p13) (b := b29) (off := 0) (z := (k : Int)) (len := S.R.length) (cap := c14) (by kernel_rfl) Tryz.underlying76 8 (by kernel_rfl) k (by kernel_rfl) hp30 (by kernel_rfl) (by omega) (by omega) (k * 8) (by omega) _) ?_
  obtain ⟨x31, hx32⟩ : ∃ x, S.R[k]? = some x := ⟨_, List.getElem?_eq_getElem (by omega)⟩
  refine go [.r 5 7 b29 (k * 8 + 3) [iV x31.st] ⟨gv_cell (j := 4) h27 rfl (gv_sl _ _ _) hp30 (fl_get eRs_ok (j := 3) (v := iV x31.st) hx32 rfl) (k * 8 + 3) (by omega), trivial⟩, .s 5 9] ?_
  by_cases c33 : x31.st = vn
  ·
   refine go [.v 5 9 (eT x31.st vn), .v 6 2 (oIr ((k : Int) + 1))] <| nG (fun q_ => .slice (some ⟨q_, 0, none⟩) 1 1) 3 [iV ((k : Int) + 1)] h27 (fun r34 w35 h36 => ⟨kd [], ?_⟩)
   have h37 := tk7 (sf6 (sf5 (sf5 (sf6 (sf6 (sf6 (sf6 h36)))))))
   refine actG ?_
   refine an_append (d := 34) (sz := 1) (s := (Operand.tmp 30)) (x := (Operand.tmp 33)) (z := iV 0) (p := p2) (m := m2) (c := c2) (k := 1) (c2 := 1) (a := ⟨r34, 0, none⟩) (by_ := 8) (by kernel_rfl) (by kernel_rfl) rfl Tryz.underlying108 (by kernel_rfl) rfl (by decide) (by kernel_rfl) (by kernel_rfl) h37 (fl eI [(k : Int) + 1]) rfl (fun j u hj => by rw [add_off]; exact sat_cell h37 1 rfl (by rw [Nat.zero_add]; exact hj)) (fl_one eI_ok _) (by omega) (by omega) (m2 + 1) (by omega) ?_
   intro p38 cap39 w40 h41
   have h42 : sat g w40 [Sl 3 1 p38 (m2 + 1) cap39 (fl eI ((numsT S.R vn k) ++ [(k : Int) + 1])), Cl r34 [iV ((k : Int) + 1)] 3, Cl b [pV s10, .slice p11 (((allE S.E).length)) c12, .slice p13 S.R.length c14] 78, Zs s10 n S.A, Sl 93 6 p11 (((allE S.E).length)) c12 (fl eE (allE S.E)), Sl 54 8 p13 S.R.length c14 (fl eRs S.R), R] := sat_imp h41 (fun _ hh => by rw [fl_app]; exact hh)
   obtain ⟨hn43, hn44⟩ := sl_le h42
   refine nxA <| go [.v 4 1 (oIr ((k : Int) + 1))] ?_
   refine enL ?_
   have h45 : sat g w40 [Sl 3 1 p38 (m2 + 1) cap39 (fl eI (numsT S.R vn (k + 1))), Cl r34 [iV ((k : Int) + 1)] 3, Cl b [pV s10, .slice p11 (((allE S.E).length)) c12, .slice p13 S.R.length c14] 78, Zs s10 n S.A, Sl 93 6 p11 (((allE S.E).length)) c12 (fl eE (allE S.E)), Sl 54 8 p13 S.R.length c14 (fl eRs S.R), R] := sat_imp h42 (fun _ hh_ => by rw [show (((numsT S.R vn k) ++ [(k : Int) + 1]) : List Int) = (numsT S.R vn (k + 1)) from numsT_go hx32 (by omega)] at hh_; exact hh_)
   have h47 := tk6 (tk7 (sf6 (sf6 (sf6 (sf6 (sf6 (sf6 (sf1 h45))))))))
   change ∃ n', n' < _ ∧ _
   refine ⟨(S.R.length - (k + 1)), by omega, (k + 1), p38, m2 + 1, cap39, _, rfl, (by omega), (by omega), (lvF [.k 0 (pV b), .k 1 (iV vn), .k 5 (.slice p38 (m2 + 1) cap39), .o 6 (oJ .i64 ((k : Int) + 1) ((((k + 1) : Nat) : Int)))]), h47⟩
  refine go [.v 5 9 (eF x31.st vn), .v 4 1 (oIr ((k : Int) + 1))] ?_
  refine enL ?_
  have h49 : sat g w26 [Sl 3 1 p2 m2 c2 (fl eI (numsT S.R vn (k + 1))), Cl b [pV s10, .slice p11 (((allE S.E).length)) c12, .slice p13 S.R.length c14] 78, Zs s10 n S.A, Sl 93 6 p11 (((allE S.E).length)) c12 (fl eE (allE S.E)), Sl 54 8 p13 S.R.length c14 (fl eRs S.R), R] := sat_imp (tk6 (sf5 (sf4 (sf5 (sf5 (sf5 (sf5 h27))))))) (fun _ hh_ => by rw [show ((numsT S.R vn k) : List Int) = (numsT S.R vn (k + 1)) from numsT_no hx32 (by omega)] at hh_; exact hh_)
  change ∃ n', n' < _ ∧ _
  refine ⟨(S.R.length - (k + 1)), by omega, (k + 1), p2, m2, c2, _, rfl, (by omega), (by omega), (lvF [.k 0 (pV b), .k 1 (iV vn), .k 5 (.slice p2 m2 c2), .o 6 (oJ .i64 ((k : Int) + 1) ((((k + 1) : Nat) : Int)))]), h49⟩
 refine go [.v 3 9 (oF ((k : Int) < ((S.R.length : Nat) : Int)))] <| up <| go [] ?_
 have h51 : sat g w26 [Sl 3 1 p2 m2 c2 (fl eI (nums S.R vn)), Cl b [pV s10, .slice p11 (((allE S.E).length)) c12, .slice p13 S.R.length c14] 78, Zs s10 n S.A, Sl 93 6 p11 (((allE S.E).length)) c12 (fl eE (allE S.E)), Sl 54 8 p13 S.R.length c14 (fl eRs S.R), R] := sat_imp (tk6 (sf5 (sf4 (sf5 (sf5 (sf5 (sf5 h27))))))) (fun _ hh_ => by rw [show ((numsT S.R vn k) : List Int) = (nums S.R vn) from (by rw [show k = S.R.length from by omega]; rfl)] at hh_; exact hh_)
 have hl52 := fl_n eI_ok (by decide) h51
 have h53 : sat g w26 [Sl 3 1 p2 (((nums S.R vn).length)) c2 (fl eI (nums S.R vn)), Cl b [pV s10, .slice p11 (((allE S.E).length)) c12, .slice p13 S.R.length c14] 78, Zs s10 n S.A, Sl 93 6 p11 (((allE S.E).length)) c12 (fl eE (allE S.E)), Sl 54 8 p13 S.R.length c14 (fl eRs S.R), R] := sat_imp h51 (fun _ hh_ => by rw [hl52]; exact hh_)
 have h55 : sat g w26 [Zr b n S.A (allE S.E) S.R, Sl 3 1 p2 (((nums S.R vn).length)) c2 (fl eI (nums S.R vn)), R] := zr_close (by first | omega | (simp only [List.length_append, List.length_take, List.length_drop, List.length_cons, List.length_nil]; omega)) (by first | rfl | (simp only [List.length_append, List.length_take, List.length_drop, List.length_cons, List.length_nil]; omega) | simp only [List.length_append, List.length_take, List.length_drop, List.length_cons, List.length_nil]) (by first | rfl | (simp only [List.length_append, List.length_take, List.length_drop, List.length_cons, List.length_nil]; omega) | simp only [List.length_append, List.length_take, List.length_drop, List.length_cons, List.length_nil]) (tk6 (sf5 (sf5 (sf5 (sf5 (sf1 (sf5 h53)))))))
 exact en (.slice p2 m2 c2) [] ⟨_, _, rfl, ⟨p2, c2, by rw [hl52], rfl⟩, h55⟩

end Go.Proofs.YtjjpmehiolejgaaGreat

/- Walks, printed by my generator z9.py. -/
namespace Go.Proofs.YtjjpmehiolejgaaGreat
theorem allE_nil : allE [] = [] := List.filterMap_eq_nil_iff.2 fun _ _ => rfl
theorem free_some {A : List Sl2} (h : ¬ (inS 0 A 0).length = 0) : ∃ j g, freeS A = some (j, g) := by
  cases hf : freeS A with
  | none => exact absurd (freeS_none.1 hf) h
  | some x => exact ⟨x.1, x.2, rfl⟩
theorem tail_len (E : Tm) : ∀ (m j : Nat), (tailE E j m).length ≤ m
  | 0, _ => Nat.le_refl _
  | m + 1, j => by
    have := tail_len E m (j + 1)
    rw [tailE_succ]
    cases gget E (j : Int) with
    | none => simp only; omega
    | some e => simp only [List.length_cons]; omega
theorem free_at {n : Nat} {S : Ts} (W : Wf n S) {j : Nat} {g : Int} (hf : freeS S.A = some (j, g)) : j < 256 ∧ gget S.E (j : Int) = none := by
  have hj := freeS_some hf
  have hl := (List.getElem?_eq_some_iff.1 hj).1
  have := W.bd
  rw [W.len] at hl
  refine ⟨by omega, ?_⟩
  cases hg : gget S.E (j : Int) with
  | none => rfl
  | some e =>
    obtain ⟨q2, h1, _, h2⟩ := wf_slot W hg
    obtain rfl : j = q2 := by omega
    rw [hj] at h2
    simp at h2
theorem wf_room {n : Nat} {S : Ts} (W : Wf n S) {j : Nat} {g : Int} (hf : freeS S.A = some (j, g)) : (allE S.E).length < 256 := by
  obtain ⟨h1, h2⟩ := free_at W hf
  have h3 := cntE_le S.E j
  have h4 := tail_len S.E (256 - j - 1) (j + 1)
  rw [all_split S.E h1, tail_one (E := S.E) (by omega), h2, List.length_append, List.nil_append]
  omega
theorem fnd_rat {n : Nat} {S : Ts} (W : Wf n S) {d : Ky} (h : fndE S d = 0) : ∃ (q : Nat) (r : Rs), S.R[q]? = some r ∧ (fndX S d).num = (q : Int) + 1 ∧ r.out.1 = d.1 := by
  obtain ⟨hg, e, h1, h2⟩ := fndE_ok.1 h
  obtain ⟨q, r, h3, h4, h5, _⟩ := (W.ent _ _ h1).2.2.1
  refine ⟨q, r, h3, ?_, ?_⟩
  · rw [(fndX_ok hg h1 h2).2]; exact h4
  · rw [h5, h2]
theorem fnd_slot {n : Nat} {S : Ts} (W : Wf n S) {d : Ky} (h : fndE S d = 0) : S.A[d.2.1.toNat]? = some (1, d.2.2) ∧ d.2.1.toNat < 256 ∧ ((d.2.1.toNat : Nat) : Int) = d.2.1 ∧ gget S.E d.2.1 = some (fndX S d) ∧ (fndX S d).d = d := by
  obtain ⟨hg, e, h1, h2⟩ := fndE_ok.1 h
  obtain ⟨q, h3, h4, h5⟩ := wf_slot W h1
  have := W.bd
  have hx := (fndX_ok hg h1 h2).2
  have hq : d.2.1.toNat = q := by omega
  refine ⟨by rw [hq, h5, h2], by omega, by omega, by rw [hx]; exact h1, by rw [hx]; exact h2⟩
theorem addS_at {S : Ts} {c num : Int} {h : Int × Int} {j : Nat} {g : Int} (hf : freeS S.A = some (j, g)) : addS S c num h = ⟨S.A.set j (1, g), gset S.E (j : Int) ⟨(c, (j : Int), g), num, h⟩, S.R⟩ ∧ addD S.A c = (c, (j : Int), g) := by
  unfold addS addD
  rw [hf]
  exact ⟨rfl, rfl⟩
set_option maxHeartbeats 4000000 in
theorem zrnew_no (z vg : Int) (hb : z < 1 ∨ 256 < z ∨ vg < 1) (h0 : 0 ≤ vg) : HT Tryz.prog 7 [Value.int IntKind.i64 z, Value.int IntKind.u32 vg] [] (fun v K => v = Value.tuple #[Value.pointer none, Value.int IntKind.i64 2] ∧ K = []) := by
 refine hiS Tryz.func7 Tryz.ntmps7 fun g w0 R h0 => go [] ?_
 by_cases c10 : 1 ≤ z
 ·
  by_cases c11 : z ≤ 256
  ·
   refine cl0 Tryz.call28 (znew_no z vg (by omega) (by omega)) h0 fun w12 h13 => go [] ?_
   exact en (.tuple #[.pointer none, iV 2]) [] ⟨_, _, rfl, ⟨rfl, rfl⟩, h13⟩
  refine cl0 Tryz.call28 (znew_no z vg (by omega) (by omega)) h0 fun w14 h15 => go [] ?_
  exact en (.tuple #[.pointer none, iV 2]) [] ⟨_, _, rfl, ⟨rfl, rfl⟩, h15⟩
 refine cl0 Tryz.call28 (znew_no z vg (by omega) (by omega)) h0 fun w16 h17 => go [] ?_
 exact en (.tuple #[.pointer none, iV 2]) [] ⟨_, _, rfl, ⟨rfl, rfl⟩, h17⟩

set_option maxHeartbeats 4000000 in
theorem zrnew_ok (n : Nat) (z vg : Int) (hz : z = (n : Int)) (h1 : 1 ≤ n) (h2 : n ≤ 256) (hg : 1 ≤ vg ∧ vg ≤ 4294967295) : HT Tryz.prog 7 [Value.int IntKind.i64 z, Value.int IntKind.u32 vg] [] (fun v K => ∃ b : Nat, v = Value.tuple #[Value.pointer (some ⟨b, 0, none⟩), Value.int IntKind.i64 0] ∧ K = [Zr b n (List.replicate n (0, vg)) [] []]) := by
 refine hiS Tryz.func7 Tryz.ntmps7 fun g w0 R h0 => go [] <| cP Tryz.call28 (znew_ok n z vg (by omega) (by omega) (by omega) (by omega)) h0 ?_
 rintro v K w11 (⟨b10, rfl, rfl⟩) h12
 have h13 := ap1 h12
 refine go [] <| nP 78 [pV b10, .slice none 0 0, .slice none 0 0] h13 (fun r14 w15 h16 => ?_)
 refine go [] ?_
 have h17 : sat g w15 [Sl 54 8 none 0 0 (fl eRs []), Cl r14 [pV b10, .slice none 0 0, .slice none 0 0] 78, Zs b10 n (List.replicate n (0, vg)), R] := sl_nil 54 8 h16
 have h18 : sat g w15 [Sl 93 6 none 0 0 (fl eE []), Sl 54 8 none 0 0 (fl eRs []), Cl r14 [pV b10, .slice none 0 0, .slice none 0 0] 78, Zs b10 n (List.replicate n (0, vg)), R] := sl_nil 93 6 h17
 have h20 : sat g w15 [Zr r14 n (List.replicate n (0, vg)) [] [], R] := zr_close (by decide) rfl rfl (tk5 (sf4 (sf4 (sf2 (sf2 (sf4 h18))))))
 exact en (.tuple #[pV r14, iV 0]) [] ⟨_, _, rfl, ⟨r14, rfl, rfl⟩, h20⟩

set_option maxHeartbeats 4000000 in
theorem zrcopy_nil  : HT Tryz.prog 21 [Value.pointer none] [] (fun v K => v = Value.pointer none ∧ K = []) := by
 refine hiS Tryz.func21 Tryz.ntmps21 fun g w0 R h0 => go [] <| cl0 Tryz.call37 (rvalid_nil) h0 fun w10 h11 => go [] ?_
 exact en (.pointer none) [] ⟨_, _, rfl, ⟨rfl, rfl⟩, h11⟩

set_option maxHeartbeats 4000000 in
theorem zrcopy_ht (b n : Nat) (S : Ts) : HT Tryz.prog 21 [Value.pointer (some ⟨b, 0, none⟩)] [Zr b n S.A (allE S.E) S.R] (fun v K => ∃ b2 : Nat, v = Value.pointer (some ⟨b2, 0, none⟩) ∧ K = [Zr b n S.A (allE S.E) S.R, Zr b2 n S.A (allE S.E) S.R]) := by
 refine hiS Tryz.func21 Tryz.ntmps21 fun g w0 R h0 => ?_
 obtain ⟨s10, p11, c12, p13, c14, hq15, h16⟩ := zr_open h0
 have hb17 := hq15.1
 have hb18 := hq15.2
 refine go [] <| cl1 Tryz.call37 (rvalid_cl b s10 p11 (((allE S.E).length)) c12 p13 S.R.length c14) h16 fun w19 h20 => go [] <| dw (fls [0, 1, 2, 3, 6, 7, 8, 9, 12, 13, 14, 15] (Tr.an3 4 (Tr.an2 5 (Tr.an2 10 (Tr.an 11 (Tr.an 16 (Tr.fl 17 (Tr.an 18 (Tr.fl 19 Tr.nil))))) 11 (Tr.an 10 (Tr.an 16 (Tr.fl 17 (Tr.an 18 (Tr.fl 19 Tr.nil)))))) 11 (Tr.an 5 (Tr.an 10 (Tr.an 16 (Tr.fl 17 (Tr.an 18 (Tr.fl 19 Tr.nil))))))) 5 (Tr.an2 4 (Tr.an2 10 (Tr.an 11 (Tr.an 16 (Tr.fl 17 (Tr.an 18 (Tr.fl 19 Tr.nil))))) 11 (Tr.an 10 (Tr.an 16 (Tr.fl 17 (Tr.an 18 (Tr.fl 19 Tr.nil)))))) 11 (Tr.an 4 (Tr.an 10 (Tr.an 16 (Tr.fl 17 (Tr.an 18 (Tr.fl 19 Tr.nil))))))) 11 (Tr.an2 4 (Tr.an 5 (Tr.an 10 (Tr.an 16 (Tr.fl 17 (Tr.an 18 (Tr.fl 19 Tr.nil)))))) 5 (Tr.an 4 (Tr.an 10 (Tr.an 16 (Tr.fl 17 (Tr.an 18 (Tr.fl 19 Tr.nil))))))))) h20 fun w21 h22 => go [rd 3 3 0 0 1 h22, rd 3 9 0 1 1 h22, rd 3 15 0 2 1 h22] ?_
 refine br3 ?_ ?_ ?_
 ·
  refine cG Tryz.call55 (zcopy_ht s10 n S.A) (tk5 (sf4 (sf3 (sf4 (sf4 (sf4 h22)))))) ?_
  rintro v K w25 (⟨b23, rfl, rfl⟩) h26
  have h27 := ap2 h26
  refine ⟨kd [rd 0 15 2 2 1 h27, rd 0 9 2 1 1 h27], ?_⟩
  refine br2 ?_ ?_
  ·
   refine nG (fun q_ => .slice (some ⟨q_, 0, none⟩) 0 0) 93 [] h27 (fun r28 w29 h30 => ⟨kd [rd 0 15 3 2 1 h30, rd 0 9 3 1 1 h30], ?_⟩)
   refine br2 ?_ ?_
   ·
    have h31 : sat g w29 [Sl 93 6 (some ⟨r28, 0, none⟩) 0 0 (fl eE []), Zs s10 n S.A, Zs b23 n S.A, Cl b [pV s10, .slice p11 (((allE S.E).length)) c12, .slice p13 S.R.length c14] 78, Sl 93 6 p11 (((allE S.E).length)) c12 (fl eE (allE S.E)), Sl 54 8 p13 S.R.length c14 (fl eRs S.R), R] := sl_of_cl h30 rfl (by omega)
    refine actG ?_
    refine an_append_gv (d := 16) (sz := 6) (s := (Operand.tmp 11)) (x := (Operand.tmp 15)) (z := .agg #[iV 0, iV 0, uV 0, iV 0, iV 0, uV 0]) (p := (some ⟨r28, 0, none⟩)) (p2 := p11) (m := 0) (c := 0) (k := (((allE S.E).length))) (c2 := c12) (by_ := 48) (by kernel_rfl) (by kernel_rfl) rfl Tryz.underlying75 (by kernel_rfl) rfl (by decide) (by kernel_rfl) (by kernel_rfl) h31 4 rfl (fl eE (allE S.E)) (gv_sl _ _ _) (fl_len eE_ok _) (fl_one eE_ok _) (by omega) (by omega) (((allE S.E).length)) (by omega) ?_
    intro p32 cap33 w34 h35
    have h36 : sat g w34 [Sl 93 6 p32 (((allE S.E).length)) cap33 (fl eE (allE S.E)), Zs s10 n S.A, Zs b23 n S.A, Cl b [pV s10, .slice p11 (((allE S.E).length)) c12, .slice p13 S.R.length c14] 78, Sl 93 6 p11 (((allE S.E).length)) c12 (fl eE (allE S.E)), Sl 54 8 p13 S.R.length c14 (fl eRs S.R), R] := sat_imp h35 (fun _ hh => by exact hh)
    obtain ⟨hn37, hn38⟩ := sl_le h36
    refine ⟨kd [rd 0 15 3 2 1 h36], nxG ?_⟩
    refine nG (fun q_ => .slice (some ⟨q_, 0, none⟩) 0 0) 54 [] h36 (fun r39 w40 h41 => ⟨kd [rd 0 15 4 2 1 h41], ?_⟩)
    have h42 : sat g w40 [Sl 54 8 (some ⟨r39, 0, none⟩) 0 0 (fl eRs []), Sl 93 6 p32 (((allE S.E).length)) cap33 (fl eE (allE S.E)), Zs s10 n S.A, Zs b23 n S.A, Cl b [pV s10, .slice p11 (((allE S.E).length)) c12, .slice p13 S.R.length c14] 78, Sl 93 6 p11 (((allE S.E).length)) c12 (fl eE (allE S.E)), Sl 54 8 p13 S.R.length c14 (fl eRs S.R), R] := sl_of_cl h41 rfl (by omega)
    refine actG ?_
    refine an_append_gv (d := 22) (sz := 8) (s := (Operand.tmp 17)) (x := (Operand.tmp 21)) (z := .agg #[iV 0, iV 0, uV 0, iV 0, iV 0, iV 0, iV 0, .string (St [])]) (p := (some ⟨r39, 0, none⟩)) (p2 := p13) (m := 0) (c := 0) (k := S.R.length) (c2 := c14) (by_ := 72) (by kernel_rfl) (by kernel_rfl) rfl Tryz.underlying76 (by kernel_rfl) rfl (by decide) (by kernel_rfl) (by kernel_rfl) h42 6 rfl (fl eRs S.R) (gv_sl _ _ _) (fl_len eRs_ok _) (fl_one eRs_ok _) (by omega) (by omega) S.R.length (by omega) ?_
    intro p43 cap44 w45 h46
    have h47 : sat g w45 [Sl 54 8 p43 S.R.length cap44 (fl eRs S.R), Sl 93 6 p32 (((allE S.E).length)) cap33 (fl eE (allE S.E)), Zs s10 n S.A, Zs b23 n S.A, Cl b [pV s10, .slice p11 (((allE S.E).length)) c12, .slice p13 S.R.length c14] 78, Sl 93 6 p11 (((allE S.E).length)) c12 (fl eE (allE S.E)), Sl 54 8 p13 S.R.length c14 (fl eRs S.R), R] := sat_imp h46 (fun _ hh => by exact hh)
    obtain ⟨hn48, hn49⟩ := sl_le h47
    refine ⟨kd [], nxG ?_⟩
    refine go [] <| nG (fun q_ => pV q_) 78 [pV b23, .slice p32 (((allE S.E).length)) cap33, .slice p43 S.R.length cap44] h47 (fun r50 w51 h52 => ⟨kd [], ?_⟩)
    refine go [] ?_
    have h54 : sat g w51 [Zr b n S.A (allE S.E) S.R, Cl r50 [pV b23, .slice p32 (((allE S.E).length)) cap33, .slice p43 S.R.length cap44] 78, Sl 54 8 p43 S.R.length cap44 (fl eRs S.R), Sl 93 6 p32 (((allE S.E).length)) cap33 (fl eE (allE S.E)), Zs b23 n S.A, R] := zr_close (by first | omega | (simp only [List.length_append, List.length_take, List.length_drop, List.length_cons, List.length_nil]; omega)) (by first | rfl | (simp only [List.length_append, List.length_take, List.length_drop, List.length_cons, List.length_nil]; omega) | simp only [List.length_append, List.length_take, List.length_drop, List.length_cons, List.length_nil]) (by first | rfl | (simp only [List.length_append, List.length_take, List.length_drop, List.length_cons, List.length_nil]; omega) | simp only [List.length_append, List.length_take, List.length_drop, List.length_cons, List.length_nil]) (tk9 (sf8 (sf7 (sf8 (sf8 (sf4 (sf4 (sf4 (sf5 (sf8 h52))))))))))
    have h56 : sat g w51 [Zr r50 n S.A (allE S.E) S.R, Zr b n S.A (allE S.E) S.R, R] := zr_close (by first | omega | (simp only [List.length_append, List.length_take, List.length_drop, List.length_cons, List.length_nil]; omega)) (by first | rfl | (simp only [List.length_append, List.length_take, List.length_drop, List.length_cons, List.length_nil]; omega) | simp only [List.length_append, List.length_take, List.length_drop, List.length_cons, List.length_nil]) (by first | rfl | (simp only [List.length_append, List.length_take, List.length_drop, List.length_cons, List.length_nil]; omega) | simp only [List.length_append, List.length_take, List.length_drop, List.length_cons, List.length_nil]) (tk6 (sf5 (sf5 (sf4 (sf3 (sf1 (sf5 h54)))))))
    exact en (pV r50) [] ⟨_, _, rfl, ⟨r50, rfl, rfl⟩, (tk3 (sf2 (sf1 (sf2 h56))))⟩
   refine nG (fun q_ => .slice (some ⟨q_, 0, none⟩) 0 0) 54 [] h30 (fun r58 w59 h60 => ⟨kd [rd 0 15 4 2 1 h60, rd 0 9 4 1 1 h60], ?_⟩)
   have h62 : sat g w59 [Sl 93 6 (some ⟨r28, 0, none⟩) 0 0 (fl eE []), Cl r58 [] 54, Zs s10 n S.A, Zs b23 n S.A, Cl b [pV s10, .slice p11 (((allE S.E).length)) c12, .slice p13 S.R.length c14] 78, Sl 93 6 p11 (((allE S.E).length)) c12 (fl eE (allE S.E)), Sl 54 8 p13 S.R.length c14 (fl eRs S.R), R] := sl_of_cl (tk8 (sf7 (sf6 (sf7 (sf7 (sf7 (sf7 (sf7 (sf7 h60))))))))) rfl (by omega)
   refine actG ?_
   refine an_append_gv (d := 16) (sz := 6) (s := (Operand.tmp 11)) (x := (Operand.tmp 15)) (z := .agg #[iV 0, iV 0, uV 0, iV 0, iV 0, uV 0]) (p := (some ⟨r28, 0, none⟩)) (p2 := p11) (m := 0) (c := 0) (k := (((allE S.E).length))) (c2 := c12) (by_ := 48) (by kernel_rfl) (by kernel_rfl) rfl Tryz.underlying75 (by kernel_rfl) rfl (by decide) (by kernel_rfl) (by kernel_rfl) h62 5 rfl (fl eE (allE S.E)) (gv_sl _ _ _) (fl_len eE_ok _) (fl_one eE_ok _) (by omega) (by omega) (((allE S.E).length)) (by omega) ?_
   intro p63 cap64 w65 h66
   have h67 : sat g w65 [Sl 93 6 p63 (((allE S.E).length)) cap64 (fl eE (allE S.E)), Cl r58 [] 54, Zs s10 n S.A, Zs b23 n S.A, Cl b [pV s10, .slice p11 (((allE S.E).length)) c12, .slice p13 S.R.length c14] 78, Sl 93 6 p11 (((allE S.E).length)) c12 (fl eE (allE S.E)), Sl 54 8 p13 S.R.length c14 (fl eRs S.R), R] := sat_imp h66 (fun _ hh => by exact hh)
   obtain ⟨hn68, hn69⟩ := sl_le h67
   refine ⟨kd [rd 0 15 4 2 1 h67], nxG ?_⟩
   have h71 : sat g w65 [Sl 54 8 (some ⟨r58, 0, none⟩) 0 0 (fl eRs []), Sl 93 6 p63 (((allE S.E).length)) cap64 (fl eE (allE S.E)), Zs s10 n S.A, Zs b23 n S.A, Cl b [pV s10, .slice p11 (((allE S.E).length)) c12, .slice p13 S.R.length c14] 78, Sl 93 6 p11 (((allE S.E).length)) c12 (fl eE (allE S.E)), Sl 54 8 p13 S.R.length c14 (fl eRs S.R), R] := sl_of_cl (tk8 (sf7 (sf6 (sf7 (sf7 (sf7 (sf7 (sf7 (sf7 h67))))))))) rfl (by omega)
   refine actG ?_
   refine an_append_gv (d := 22) (sz := 8) (s := (Operand.tmp 17)) (x := (Operand.tmp 21)) (z := .agg #[iV 0, iV 0, uV 0, iV 0, iV 0, iV 0, iV 0, .string (St [])]) (p := (some ⟨r58, 0, none⟩)) (p2 := p13) (m := 0) (c := 0) (k := S.R.length) (c2 := c14) (by_ := 72) (by kernel_rfl) (by kernel_rfl) rfl Tryz.underlying76 (by kernel_rfl) rfl (by decide) (by kernel_rfl) (by kernel_rfl) h71 6 rfl (fl eRs S.R) (gv_sl _ _ _) (fl_len eRs_ok _) (fl_one eRs_ok _) (by omega) (by omega) S.R.length (by omega) ?_
   intro p72 cap73 w74 h75
   have h76 : sat g w74 [Sl 54 8 p72 S.R.length cap73 (fl eRs S.R), Sl 93 6 p63 (((allE S.E).length)) cap64 (fl eE (allE S.E)), Zs s10 n S.A, Zs b23 n S.A, Cl b [pV s10, .slice p11 (((allE S.E).length)) c12, .slice p13 S.R.length c14] 78, Sl 93 6 p11 (((allE S.E).length)) c12 (fl eE (allE S.E)), Sl 54 8 p13 S.R.length c14 (fl eRs S.R), R] := sat_imp h75 (fun _ hh => by exact hh)
   obtain ⟨hn77, hn78⟩ := sl_le h76
   refine ⟨kd [], nxG ?_⟩
   refine go [] <| nG (fun q_ => pV q_) 78 [pV b23, .slice p63 (((allE S.E).length)) cap64, .slice p72 S.R.length cap73] h76 (fun r79 w80 h81 => ⟨kd [], ?_⟩)
   refine go [] ?_
   have h83 : sat g w80 [Zr b n S.A (allE S.E) S.R, Cl r79 [pV b23, .slice p63 (((allE S.E).length)) cap64, .slice p72 S.R.length cap73] 78, Sl 54 8 p72 S.R.length cap73 (fl eRs S.R), Sl 93 6 p63 (((allE S.E).length)) cap64 (fl eE (allE S.E)), Zs b23 n S.A, R] := zr_close (by first | omega | (simp only [List.length_append, List.length_take, List.length_drop, List.length_cons, List.length_nil]; omega)) (by first | rfl | (simp only [List.length_append, List.length_take, List.length_drop, List.length_cons, List.length_nil]; omega) | simp only [List.length_append, List.length_take, List.length_drop, List.length_cons, List.length_nil]) (by first | rfl | (simp only [List.length_append, List.length_take, List.length_drop, List.length_cons, List.length_nil]; omega) | simp only [List.length_append, List.length_take, List.length_drop, List.length_cons, List.length_nil]) (tk9 (sf8 (sf7 (sf8 (sf8 (sf4 (sf4 (sf4 (sf5 (sf8 h81))))))))))
   have h85 : sat g w80 [Zr r79 n S.A (allE S.E) S.R, Zr b n S.A (allE S.E) S.R, R] := zr_close (by first | omega | (simp only [List.length_append, List.length_take, List.length_drop, List.length_cons, List.length_nil]; omega)) (by first | rfl | (simp only [List.length_append, List.length_take, List.length_drop, List.length_cons, List.length_nil]; omega) | simp only [List.length_append, List.length_take, List.length_drop, List.length_cons, List.length_nil]) (by first | rfl | (simp only [List.length_append, List.length_take, List.length_drop, List.length_cons, List.length_nil]; omega) | simp only [List.length_append, List.length_take, List.length_drop, List.length_cons, List.length_nil]) (tk6 (sf5 (sf5 (sf4 (sf3 (sf1 (sf5 h83)))))))
   exact en (pV r79) [] ⟨_, _, rfl, ⟨r79, rfl, rfl⟩, (tk3 (sf2 (sf1 (sf2 h85))))⟩
  refine nG (fun q_ => .slice (some ⟨q_, 0, none⟩) 0 0) 54 [] h27 (fun r87 w88 h89 => ⟨kd [rd 0 15 3 2 1 h89, rd 0 9 3 1 1 h89], ?_⟩)
  refine nG (fun q_ => .slice (some ⟨q_, 0, none⟩) 0 0) 93 [] h89 (fun r90 w91 h92 => ⟨kd [rd 0 15 4 2 1 h92, rd 0 9 4 1 1 h92], ?_⟩)
  have h93 : sat g w91 [Sl 93 6 (some ⟨r90, 0, none⟩) 0 0 (fl eE []), Cl r87 [] 54, Zs s10 n S.A, Zs b23 n S.A, Cl b [pV s10, .slice p11 (((allE S.E).length)) c12, .slice p13 S.R.length c14] 78, Sl 93 6 p11 (((allE S.E).length)) c12 (fl eE (allE S.E)), Sl 54 8 p13 S.R.length c14 (fl eRs S.R), R] := sl_of_cl h92 rfl (by omega)
  refine actG ?_
  refine an_append_gv (d := 16) (sz := 6) (s := (Operand.tmp 11)) (x := (Operand.tmp 15)) (z := .agg #[iV 0, iV 0, uV 0, iV 0, iV 0, uV 0]) (p := (some ⟨r90, 0, none⟩)) (p2 := p11) (m := 0) (c := 0) (k := (((allE S.E).length))) (c2 := c12) (by_ := 48) (by kernel_rfl) (by kernel_rfl) rfl Tryz.underlying75 (by kernel_rfl) rfl (by decide) (by kernel_rfl) (by kernel_rfl) h93 5 rfl (fl eE (allE S.E)) (gv_sl _ _ _) (fl_len eE_ok _) (fl_one eE_ok _) (by omega) (by omega) (((allE S.E).length)) (by omega) ?_
  intro p94 cap95 w96 h97
  have h98 : sat g w96 [Sl 93 6 p94 (((allE S.E).length)) cap95 (fl eE (allE S.E)), Cl r87 [] 54, Zs s10 n S.A, Zs b23 n S.A, Cl b [pV s10, .slice p11 (((allE S.E).length)) c12, .slice p13 S.R.length c14] 78, Sl 93 6 p11 (((allE S.E).length)) c12 (fl eE (allE S.E)), Sl 54 8 p13 S.R.length c14 (fl eRs S.R), R] := sat_imp h97 (fun _ hh => by exact hh)
  obtain ⟨hn99, hn100⟩ := sl_le h98
  refine ⟨kd [rd 0 15 4 2 1 h98], nxG ?_⟩
  have h102 : sat g w96 [Sl 54 8 (some ⟨r87, 0, none⟩) 0 0 (fl eRs []), Sl 93 6 p94 (((allE S.E).length)) cap95 (fl eE (allE S.E)), Zs s10 n S.A, Zs b23 n S.A, Cl b [pV s10, .slice p11 (((allE S.E).length)) c12, .slice p13 S.R.length c14] 78, Sl 93 6 p11 (((allE S.E).length)) c12 (fl eE (allE S.E)), Sl 54 8 p13 S.R.length c14 (fl eRs S.R), R] := sl_of_cl (tk8 (sf7 (sf6 (sf7 (sf7 (sf7 (sf7 (sf7 (sf7 h98))))))))) rfl (by omega)
  refine actG ?_
  refine an_append_gv (d := 22) (sz := 8) (s := (Operand.tmp 17)) (x := (Operand.tmp 21)) (z := .agg #[iV 0, iV 0, uV 0, iV 0, iV 0, iV 0, iV 0, .string (St [])]) (p := (some ⟨r87, 0, none⟩)) (p2 := p13) (m := 0) (c := 0) (k := S.R.length) (c2 := c14) (by_ := 72) (by kernel_rfl) (by kernel_rfl) rfl Tryz.underlying76 (by kernel_rfl) rfl (by decide) (by kernel_rfl) (by kernel_rfl) h102 6 rfl (fl eRs S.R) (gv_sl _ _ _) (fl_len eRs_ok _) (fl_one eRs_ok _) (by omega) (by omega) S.R.length (by omega) ?_
  intro p103 cap104 w105 h106
  have h107 : sat g w105 [Sl 54 8 p103 S.R.length cap104 (fl eRs S.R), Sl 93 6 p94 (((allE S.E).length)) cap95 (fl eE (allE S.E)), Zs s10 n S.A, Zs b23 n S.A, Cl b [pV s10, .slice p11 (((allE S.E).length)) c12, .slice p13 S.R.length c14] 78, Sl 93 6 p11 (((allE S.E).length)) c12 (fl eE (allE S.E)), Sl 54 8 p13 S.R.length c14 (fl eRs S.R), R] := sat_imp h106 (fun _ hh => by exact hh)
  obtain ⟨hn108, hn109⟩ := sl_le h107
  refine ⟨kd [], nxG ?_⟩
  refine go [] <| nG (fun q_ => pV q_) 78 [pV b23, .slice p94 (((allE S.E).length)) cap95, .slice p103 S.R.length cap104] h107 (fun r110 w111 h112 => ⟨kd [], ?_⟩)
  refine go [] ?_
  have h114 : sat g w111 [Zr b n S.A (allE S.E) S.R, Cl r110 [pV b23, .slice p94 (((allE S.E).length)) cap95, .slice p103 S.R.length cap104] 78, Sl 54 8 p103 S.R.length cap104 (fl eRs S.R), Sl 93 6 p94 (((allE S.E).length)) cap95 (fl eE (allE S.E)), Zs b23 n S.A, R] := zr_close (by first | omega | (simp only [List.length_append, List.length_take, List.length_drop, List.length_cons, List.length_nil]; omega)) (by first | rfl | (simp only [List.length_append, List.length_take, List.length_drop, List.length_cons, List.length_nil]; omega) | simp only [List.length_append, List.length_take, List.length_drop, List.length_cons, List.length_nil]) (by first | rfl | (simp only [List.length_append, List.length_take, List.length_drop, List.length_cons, List.length_nil]; omega) | simp only [List.length_append, List.length_take, List.length_drop, List.length_cons, List.length_nil]) (tk9 (sf8 (sf7 (sf8 (sf8 (sf4 (sf4 (sf4 (sf5 (sf8 h112))))))))))
  have h116 : sat g w111 [Zr r110 n S.A (allE S.E) S.R, Zr b n S.A (allE S.E) S.R, R] := zr_close (by first | omega | (simp only [List.length_append, List.length_take, List.length_drop, List.length_cons, List.length_nil]; omega)) (by first | rfl | (simp only [List.length_append, List.length_take, List.length_drop, List.length_cons, List.length_nil]; omega) | simp only [List.length_append, List.length_take, List.length_drop, List.length_cons, List.length_nil]) (by first | rfl | (simp only [List.length_append, List.length_take, List.length_drop, List.length_cons, List.length_nil]; omega) | simp only [List.length_append, List.length_take, List.length_drop, List.length_cons, List.length_nil]) (tk6 (sf5 (sf5 (sf4 (sf3 (sf1 (sf5 h114)))))))
  exact en (pV r110) [] ⟨_, _, rfl, ⟨r110, rfl, rfl⟩, (tk3 (sf2 (sf1 (sf2 h116))))⟩
 ·
  refine nG (fun q_ => .slice (some ⟨q_, 0, none⟩) 0 0) 93 [] h22 (fun r118 w119 h120 => ⟨kd [rd 0 15 1 2 1 h120, rd 0 9 1 1 1 h120, rd 0 3 1 0 1 h120], ?_⟩)
  refine br2 ?_ ?_
  ·
   refine cG Tryz.call55 (zcopy_ht s10 n S.A) (tk6 (sf5 (sf4 (sf4 (sf5 (sf5 (sf5 h120))))))) ?_
   rintro v K w123 (⟨b121, rfl, rfl⟩) h124
   have h125 := ap2 h124
   refine ⟨kd [rd 0 15 3 2 1 h125, rd 0 9 3 1 1 h125], ?_⟩
   refine br2 ?_ ?_
   ·
    have h127 : sat g w123 [Sl 93 6 (some ⟨r118, 0, none⟩) 0 0 (fl eE []), Zs s10 n S.A, Zs b121 n S.A, Cl b [pV s10, .slice p11 (((allE S.E).length)) c12, .slice p13 S.R.length c14] 78, Sl 93 6 p11 (((allE S.E).length)) c12 (fl eE (allE S.E)), Sl 54 8 p13 S.R.length c14 (fl eRs S.R), R] := sl_of_cl (tk7 (sf6 (sf5 (sf5 (sf6 (sf6 (sf6 (sf6 h125)))))))) rfl (by omega)
    refine actG ?_
    refine an_append_gv (d := 16) (sz := 6) (s := (Operand.tmp 11)) (x := (Operand.tmp 15)) (z := .agg #[iV 0, iV 0, uV 0, iV 0, iV 0, uV 0]) (p := (some ⟨r118, 0, none⟩)) (p2 := p11) (m := 0) (c := 0) (k := (((allE S.E).length))) (c2 := c12) (by_ := 48) (by kernel_rfl) (by kernel_rfl) rfl Tryz.underlying75 (by kernel_rfl) rfl (by decide) (by kernel_rfl) (by kernel_rfl) h127 4 rfl (fl eE (allE S.E)) (gv_sl _ _ _) (fl_len eE_ok _) (fl_one eE_ok _) (by omega) (by omega) (((allE S.E).length)) (by omega) ?_
    intro p128 cap129 w130 h131
    have h132 : sat g w130 [Sl 93 6 p128 (((allE S.E).length)) cap129 (fl eE (allE S.E)), Zs s10 n S.A, Zs b121 n S.A, Cl b [pV s10, .slice p11 (((allE S.E).length)) c12, .slice p13 S.R.length c14] 78, Sl 93 6 p11 (((allE S.E).length)) c12 (fl eE (allE S.E)), Sl 54 8 p13 S.R.length c14 (fl eRs S.R), R] := sat_imp h131 (fun _ hh => by exact hh)
    obtain ⟨hn133, hn134⟩ := sl_le h132
    refine ⟨kd [rd 0 15 3 2 1 h132], nxG ?_⟩
    refine nG (fun q_ => .slice (some ⟨q_, 0, none⟩) 0 0) 54 [] h132 (fun r135 w136 h137 => ⟨kd [rd 0 15 4 2 1 h137], ?_⟩)
    have h138 : sat g w136 [Sl 54 8 (some ⟨r135, 0, none⟩) 0 0 (fl eRs []), Sl 93 6 p128 (((allE S.E).length)) cap129 (fl eE (allE S.E)), Zs s10 n S.A, Zs b121 n S.A, Cl b [pV s10, .slice p11 (((allE S.E).length)) c12, .slice p13 S.R.length c14] 78, Sl 93 6 p11 (((allE S.E).length)) c12 (fl eE (allE S.E)), Sl 54 8 p13 S.R.length c14 (fl eRs S.R), R] := sl_of_cl h137 rfl (by omega)
    refine actG ?_
    refine an_append_gv (d := 22) (sz := 8) (s := (Operand.tmp 17)) (x := (Operand.tmp 21)) (z := .agg #[iV 0, iV 0, uV 0, iV 0, iV 0, iV 0, iV 0, .string (St [])]) (p := (some ⟨r135, 0, none⟩)) (p2 := p13) (m := 0) (c := 0) (k := S.R.length) (c2 := c14) (by_ := 72) (by kernel_rfl) (by kernel_rfl) rfl Tryz.underlying76 (by kernel_rfl) rfl (by decide) (by kernel_rfl) (by kernel_rfl) h138 6 rfl (fl eRs S.R) (gv_sl _ _ _) (fl_len eRs_ok _) (fl_one eRs_ok _) (by omega) (by omega) S.R.length (by omega) ?_
    intro p139 cap140 w141 h142
    have h143 : sat g w141 [Sl 54 8 p139 S.R.length cap140 (fl eRs S.R), Sl 93 6 p128 (((allE S.E).length)) cap129 (fl eE (allE S.E)), Zs s10 n S.A, Zs b121 n S.A, Cl b [pV s10, .slice p11 (((allE S.E).length)) c12, .slice p13 S.R.length c14] 78, Sl 93 6 p11 (((allE S.E).length)) c12 (fl eE (allE S.E)), Sl 54 8 p13 S.R.length c14 (fl eRs S.R), R] := sat_imp h142 (fun _ hh => by exact hh)
    obtain ⟨hn144, hn145⟩ := sl_le h143
    refine ⟨kd [], nxG ?_⟩
    refine go [] <| nG (fun q_ => pV q_) 78 [pV b121, .slice p128 (((allE S.E).length)) cap129, .slice p139 S.R.length cap140] h143 (fun r146 w147 h148 => ⟨kd [], ?_⟩)
    refine go [] ?_
    have h150 : sat g w147 [Zr b n S.A (allE S.E) S.R, Cl r146 [pV b121, .slice p128 (((allE S.E).length)) cap129, .slice p139 S.R.length cap140] 78, Sl 54 8 p139 S.R.length cap140 (fl eRs S.R), Sl 93 6 p128 (((allE S.E).length)) cap129 (fl eE (allE S.E)), Zs b121 n S.A, R] := zr_close (by first | omega | (simp only [List.length_append, List.length_take, List.length_drop, List.length_cons, List.length_nil]; omega)) (by first | rfl | (simp only [List.length_append, List.length_take, List.length_drop, List.length_cons, List.length_nil]; omega) | simp only [List.length_append, List.length_take, List.length_drop, List.length_cons, List.length_nil]) (by first | rfl | (simp only [List.length_append, List.length_take, List.length_drop, List.length_cons, List.length_nil]; omega) | simp only [List.length_append, List.length_take, List.length_drop, List.length_cons, List.length_nil]) (tk9 (sf8 (sf7 (sf8 (sf8 (sf4 (sf4 (sf4 (sf5 (sf8 h148))))))))))
    have h152 : sat g w147 [Zr r146 n S.A (allE S.E) S.R, Zr b n S.A (allE S.E) S.R, R] := zr_close (by first | omega | (simp only [List.length_append, List.length_take, List.length_drop, List.length_cons, List.length_nil]; omega)) (by first | rfl | (simp only [List.length_append, List.length_take, List.length_drop, List.length_cons, List.length_nil]; omega) | simp only [List.length_append, List.length_take, List.length_drop, List.length_cons, List.length_nil]) (by first | rfl | (simp only [List.length_append, List.length_take, List.length_drop, List.length_cons, List.length_nil]; omega) | simp only [List.length_append, List.length_take, List.length_drop, List.length_cons, List.length_nil]) (tk6 (sf5 (sf5 (sf4 (sf3 (sf1 (sf5 h150)))))))
    exact en (pV r146) [] ⟨_, _, rfl, ⟨r146, rfl, rfl⟩, (tk3 (sf2 (sf1 (sf2 h152))))⟩
   refine nG (fun q_ => .slice (some ⟨q_, 0, none⟩) 0 0) 54 [] h125 (fun r154 w155 h156 => ⟨kd [rd 0 15 4 2 1 h156, rd 0 9 4 1 1 h156], ?_⟩)
   have h158 : sat g w155 [Sl 93 6 (some ⟨r118, 0, none⟩) 0 0 (fl eE []), Cl r154 [] 54, Zs s10 n S.A, Zs b121 n S.A, Cl b [pV s10, .slice p11 (((allE S.E).length)) c12, .slice p13 S.R.length c14] 78, Sl 93 6 p11 (((allE S.E).length)) c12 (fl eE (allE S.E)), Sl 54 8 p13 S.R.length c14 (fl eRs S.R), R] := sl_of_cl (tk8 (sf7 (sf6 (sf6 (sf6 (sf7 (sf7 (sf7 (sf7 h156))))))))) rfl (by omega)
   refine actG ?_
   refine an_append_gv (d := 16) (sz := 6) (s := (Operand.tmp 11)) (x := (Operand.tmp 15)) (z := .agg #[iV 0, iV 0, uV 0, iV 0, iV 0, uV 0]) (p := (some ⟨r118, 0, none⟩)) (p2 := p11) (m := 0) (c := 0) (k := (((allE S.E).length))) (c2 := c12) (by_ := 48) (by kernel_rfl) (by kernel_rfl) rfl Tryz.underlying75 (by kernel_rfl) rfl (by decide) (by kernel_rfl) (by kernel_rfl) h158 5 rfl (fl eE (allE S.E)) (gv_sl _ _ _) (fl_len eE_ok _) (fl_one eE_ok _) (by omega) (by omega) (((allE S.E).length)) (by omega) ?_
   intro p159 cap160 w161 h162
   have h163 : sat g w161 [Sl 93 6 p159 (((allE S.E).length)) cap160 (fl eE (allE S.E)), Cl r154 [] 54, Zs s10 n S.A, Zs b121 n S.A, Cl b [pV s10, .slice p11 (((allE S.E).length)) c12, .slice p13 S.R.length c14] 78, Sl 93 6 p11 (((allE S.E).length)) c12 (fl eE (allE S.E)), Sl 54 8 p13 S.R.length c14 (fl eRs S.R), R] := sat_imp h162 (fun _ hh => by exact hh)
   obtain ⟨hn164, hn165⟩ := sl_le h163
   refine ⟨kd [rd 0 15 4 2 1 h163], nxG ?_⟩
   have h167 : sat g w161 [Sl 54 8 (some ⟨r154, 0, none⟩) 0 0 (fl eRs []), Sl 93 6 p159 (((allE S.E).length)) cap160 (fl eE (allE S.E)), Zs s10 n S.A, Zs b121 n S.A, Cl b [pV s10, .slice p11 (((allE S.E).length)) c12, .slice p13 S.R.length c14] 78, Sl 93 6 p11 (((allE S.E).length)) c12 (fl eE (allE S.E)), Sl 54 8 p13 S.R.length c14 (fl eRs S.R), R] := sl_of_cl (tk8 (sf7 (sf6 (sf7 (sf7 (sf7 (sf7 (sf7 (sf7 h163))))))))) rfl (by omega)
   refine actG ?_
   refine an_append_gv (d := 22) (sz := 8) (s := (Operand.tmp 17)) (x := (Operand.tmp 21)) (z := .agg #[iV 0, iV 0, uV 0, iV 0, iV 0, iV 0, iV 0, .string (St [])]) (p := (some ⟨r154, 0, none⟩)) (p2 := p13) (m := 0) (c := 0) (k := S.R.length) (c2 := c14) (by_ := 72) (by kernel_rfl) (by kernel_rfl) rfl Tryz.underlying76 (by kernel_rfl) rfl (by decide) (by kernel_rfl) (by kernel_rfl) h167 6 rfl (fl eRs S.R) (gv_sl _ _ _) (fl_len eRs_ok _) (fl_one eRs_ok _) (by omega) (by omega) S.R.length (by omega) ?_
   intro p168 cap169 w170 h171
   have h172 : sat g w170 [Sl 54 8 p168 S.R.length cap169 (fl eRs S.R), Sl 93 6 p159 (((allE S.E).length)) cap160 (fl eE (allE S.E)), Zs s10 n S.A, Zs b121 n S.A, Cl b [pV s10, .slice p11 (((allE S.E).length)) c12, .slice p13 S.R.length c14] 78, Sl 93 6 p11 (((allE S.E).length)) c12 (fl eE (allE S.E)), Sl 54 8 p13 S.R.length c14 (fl eRs S.R), R] := sat_imp h171 (fun _ hh => by exact hh)
   obtain ⟨hn173, hn174⟩ := sl_le h172
   refine ⟨kd [], nxG ?_⟩
   refine go [] <| nG (fun q_ => pV q_) 78 [pV b121, .slice p159 (((allE S.E).length)) cap160, .slice p168 S.R.length cap169] h172 (fun r175 w176 h177 => ⟨kd [], ?_⟩)
   refine go [] ?_
   have h179 : sat g w176 [Zr b n S.A (allE S.E) S.R, Cl r175 [pV b121, .slice p159 (((allE S.E).length)) cap160, .slice p168 S.R.length cap169] 78, Sl 54 8 p168 S.R.length cap169 (fl eRs S.R), Sl 93 6 p159 (((allE S.E).length)) cap160 (fl eE (allE S.E)), Zs b121 n S.A, R] := zr_close (by first | omega | (simp only [List.length_append, List.length_take, List.length_drop, List.length_cons, List.length_nil]; omega)) (by first | rfl | (simp only [List.length_append, List.length_take, List.length_drop, List.length_cons, List.length_nil]; omega) | simp only [List.length_append, List.length_take, List.length_drop, List.length_cons, List.length_nil]) (by first | rfl | (simp only [List.length_append, List.length_take, List.length_drop, List.length_cons, List.length_nil]; omega) | simp only [List.length_append, List.length_take, List.length_drop, List.length_cons, List.length_nil]) (tk9 (sf8 (sf7 (sf8 (sf8 (sf4 (sf4 (sf4 (sf5 (sf8 h177))))))))))
   have h181 : sat g w176 [Zr r175 n S.A (allE S.E) S.R, Zr b n S.A (allE S.E) S.R, R] := zr_close (by first | omega | (simp only [List.length_append, List.length_take, List.length_drop, List.length_cons, List.length_nil]; omega)) (by first | rfl | (simp only [List.length_append, List.length_take, List.length_drop, List.length_cons, List.length_nil]; omega) | simp only [List.length_append, List.length_take, List.length_drop, List.length_cons, List.length_nil]) (by first | rfl | (simp only [List.length_append, List.length_take, List.length_drop, List.length_cons, List.length_nil]; omega) | simp only [List.length_append, List.length_take, List.length_drop, List.length_cons, List.length_nil]) (tk6 (sf5 (sf5 (sf4 (sf3 (sf1 (sf5 h179)))))))
   exact en (pV r175) [] ⟨_, _, rfl, ⟨r175, rfl, rfl⟩, (tk3 (sf2 (sf1 (sf2 h181))))⟩
  refine nG (fun q_ => .slice (some ⟨q_, 0, none⟩) 0 0) 54 [] h120 (fun r183 w184 h185 => ⟨kd [rd 0 15 2 2 1 h185, rd 0 9 2 1 1 h185, rd 0 3 2 0 1 h185], ?_⟩)
  refine cG Tryz.call55 (zcopy_ht s10 n S.A) (tk7 (sf6 (sf5 (sf5 (sf5 (sf6 (sf6 (sf6 h185)))))))) ?_
  rintro v K w188 (⟨b186, rfl, rfl⟩) h189
  have h190 := ap2 h189
  refine ⟨kd [rd 0 15 4 2 1 h190, rd 0 9 4 1 1 h190], ?_⟩
  have h192 : sat g w188 [Sl 93 6 (some ⟨r118, 0, none⟩) 0 0 (fl eE []), Zs s10 n S.A, Zs b186 n S.A, Cl r183 [] 54, Cl b [pV s10, .slice p11 (((allE S.E).length)) c12, .slice p13 S.R.length c14] 78, Sl 93 6 p11 (((allE S.E).length)) c12 (fl eE (allE S.E)), Sl 54 8 p13 S.R.length c14 (fl eRs S.R), R] := sl_of_cl (tk8 (sf7 (sf6 (sf6 (sf6 (sf7 (sf7 (sf7 (sf7 h190))))))))) rfl (by omega)
  refine actG ?_
  refine an_append_gv (d := 16) (sz := 6) (s := (Operand.tmp 11)) (x := (Operand.tmp 15)) (z := .agg #[iV 0, iV 0, uV 0, iV 0, iV 0, uV 0]) (p := (some ⟨r118, 0, none⟩)) (p2 := p11) (m := 0) (c := 0) (k := (((allE S.E).length))) (c2 := c12) (by_ := 48) (by kernel_rfl) (by kernel_rfl) rfl Tryz.underlying75 (by kernel_rfl) rfl (by decide) (by kernel_rfl) (by kernel_rfl) h192 5 rfl (fl eE (allE S.E)) (gv_sl _ _ _) (fl_len eE_ok _) (fl_one eE_ok _) (by omega) (by omega) (((allE S.E).length)) (by omega) ?_
  intro p193 cap194 w195 h196
  have h197 : sat g w195 [Sl 93 6 p193 (((allE S.E).length)) cap194 (fl eE (allE S.E)), Zs s10 n S.A, Zs b186 n S.A, Cl r183 [] 54, Cl b [pV s10, .slice p11 (((allE S.E).length)) c12, .slice p13 S.R.length c14] 78, Sl 93 6 p11 (((allE S.E).length)) c12 (fl eE (allE S.E)), Sl 54 8 p13 S.R.length c14 (fl eRs S.R), R] := sat_imp h196 (fun _ hh => by exact hh)
  obtain ⟨hn198, hn199⟩ := sl_le h197
  refine ⟨kd [rd 0 15 4 2 1 h197], nxG ?_⟩
  have h201 : sat g w195 [Sl 54 8 (some ⟨r183, 0, none⟩) 0 0 (fl eRs []), Sl 93 6 p193 (((allE S.E).length)) cap194 (fl eE (allE S.E)), Zs s10 n S.A, Zs b186 n S.A, Cl b [pV s10, .slice p11 (((allE S.E).length)) c12, .slice p13 S.R.length c14] 78, Sl 93 6 p11 (((allE S.E).length)) c12 (fl eE (allE S.E)), Sl 54 8 p13 S.R.length c14 (fl eRs S.R), R] := sl_of_cl (tk8 (sf7 (sf6 (sf6 (sf6 (sf7 (sf7 (sf7 (sf7 h197))))))))) rfl (by omega)
  refine actG ?_
  refine an_append_gv (d := 22) (sz := 8) (s := (Operand.tmp 17)) (x := (Operand.tmp 21)) (z := .agg #[iV 0, iV 0, uV 0, iV 0, iV 0, iV 0, iV 0, .string (St [])]) (p := (some ⟨r183, 0, none⟩)) (p2 := p13) (m := 0) (c := 0) (k := S.R.length) (c2 := c14) (by_ := 72) (by kernel_rfl) (by kernel_rfl) rfl Tryz.underlying76 (by kernel_rfl) rfl (by decide) (by kernel_rfl) (by kernel_rfl) h201 6 rfl (fl eRs S.R) (gv_sl _ _ _) (fl_len eRs_ok _) (fl_one eRs_ok _) (by omega) (by omega) S.R.length (by omega) ?_
  intro p202 cap203 w204 h205
  have h206 : sat g w204 [Sl 54 8 p202 S.R.length cap203 (fl eRs S.R), Sl 93 6 p193 (((allE S.E).length)) cap194 (fl eE (allE S.E)), Zs s10 n S.A, Zs b186 n S.A, Cl b [pV s10, .slice p11 (((allE S.E).length)) c12, .slice p13 S.R.length c14] 78, Sl 93 6 p11 (((allE S.E).length)) c12 (fl eE (allE S.E)), Sl 54 8 p13 S.R.length c14 (fl eRs S.R), R] := sat_imp h205 (fun _ hh => by exact hh)
  obtain ⟨hn207, hn208⟩ := sl_le h206
  refine ⟨kd [], nxG ?_⟩
  refine go [] <| nG (fun q_ => pV q_) 78 [pV b186, .slice p193 (((allE S.E).length)) cap194, .slice p202 S.R.length cap203] h206 (fun r209 w210 h211 => ⟨kd [], ?_⟩)
  refine go [] ?_
  have h213 : sat g w210 [Zr b n S.A (allE S.E) S.R, Cl r209 [pV b186, .slice p193 (((allE S.E).length)) cap194, .slice p202 S.R.length cap203] 78, Sl 54 8 p202 S.R.length cap203 (fl eRs S.R), Sl 93 6 p193 (((allE S.E).length)) cap194 (fl eE (allE S.E)), Zs b186 n S.A, R] := zr_close (by first | omega | (simp only [List.length_append, List.length_take, List.length_drop, List.length_cons, List.length_nil]; omega)) (by first | rfl | (simp only [List.length_append, List.length_take, List.length_drop, List.length_cons, List.length_nil]; omega) | simp only [List.length_append, List.length_take, List.length_drop, List.length_cons, List.length_nil]) (by first | rfl | (simp only [List.length_append, List.length_take, List.length_drop, List.length_cons, List.length_nil]; omega) | simp only [List.length_append, List.length_take, List.length_drop, List.length_cons, List.length_nil]) (tk9 (sf8 (sf7 (sf8 (sf8 (sf4 (sf4 (sf4 (sf5 (sf8 h211))))))))))
  have h215 : sat g w210 [Zr r209 n S.A (allE S.E) S.R, Zr b n S.A (allE S.E) S.R, R] := zr_close (by first | omega | (simp only [List.length_append, List.length_take, List.length_drop, List.length_cons, List.length_nil]; omega)) (by first | rfl | (simp only [List.length_append, List.length_take, List.length_drop, List.length_cons, List.length_nil]; omega) | simp only [List.length_append, List.length_take, List.length_drop, List.length_cons, List.length_nil]) (by first | rfl | (simp only [List.length_append, List.length_take, List.length_drop, List.length_cons, List.length_nil]; omega) | simp only [List.length_append, List.length_take, List.length_drop, List.length_cons, List.length_nil]) (tk6 (sf5 (sf5 (sf4 (sf3 (sf1 (sf5 h213)))))))
  exact en (pV r209) [] ⟨_, _, rfl, ⟨r209, rfl, rfl⟩, (tk3 (sf2 (sf1 (sf2 h215))))⟩
 refine nG (fun q_ => .slice (some ⟨q_, 0, none⟩) 0 0) 54 [] h22 (fun r217 w218 h219 => ⟨kd [rd 0 15 1 2 1 h219, rd 0 9 1 1 1 h219, rd 0 3 1 0 1 h219], ?_⟩)
 refine br2 ?_ ?_
 ·
  refine cG Tryz.call55 (zcopy_ht s10 n S.A) (tk6 (sf5 (sf4 (sf4 (sf5 (sf5 (sf5 h219))))))) ?_
  rintro v K w222 (⟨b220, rfl, rfl⟩) h223
  have h224 := ap2 h223
  refine ⟨kd [rd 0 15 3 2 1 h224, rd 0 9 3 1 1 h224], ?_⟩
  refine nG (fun q_ => .slice (some ⟨q_, 0, none⟩) 0 0) 93 [] h224 (fun r225 w226 h227 => ⟨kd [rd 0 15 4 2 1 h227, rd 0 9 4 1 1 h227], ?_⟩)
  have h228 : sat g w226 [Sl 93 6 (some ⟨r225, 0, none⟩) 0 0 (fl eE []), Zs s10 n S.A, Zs b220 n S.A, Cl r217 [] 54, Cl b [pV s10, .slice p11 (((allE S.E).length)) c12, .slice p13 S.R.length c14] 78, Sl 93 6 p11 (((allE S.E).length)) c12 (fl eE (allE S.E)), Sl 54 8 p13 S.R.length c14 (fl eRs S.R), R] := sl_of_cl h227 rfl (by omega)
  refine actG ?_
  refine an_append_gv (d := 16) (sz := 6) (s := (Operand.tmp 11)) (x := (Operand.tmp 15)) (z := .agg #[iV 0, iV 0, uV 0, iV 0, iV 0, uV 0]) (p := (some ⟨r225, 0, none⟩)) (p2 := p11) (m := 0) (c := 0) (k := (((allE S.E).length))) (c2 := c12) (by_ := 48) (by kernel_rfl) (by kernel_rfl) rfl Tryz.underlying75 (by kernel_rfl) rfl (by decide) (by kernel_rfl) (by kernel_rfl) h228 5 rfl (fl eE (allE S.E)) (gv_sl _ _ _) (fl_len eE_ok _) (fl_one eE_ok _) (by omega) (by omega) (((allE S.E).length)) (by omega) ?_
  intro p229 cap230 w231 h232
  have h233 : sat g w231 [Sl 93 6 p229 (((allE S.E).length)) cap230 (fl eE (allE S.E)), Zs s10 n S.A, Zs b220 n S.A, Cl r217 [] 54, Cl b [pV s10, .slice p11 (((allE S.E).length)) c12, .slice p13 S.R.length c14] 78, Sl 93 6 p11 (((allE S.E).length)) c12 (fl eE (allE S.E)), Sl 54 8 p13 S.R.length c14 (fl eRs S.R), R] := sat_imp h232 (fun _ hh => by exact hh)
  obtain ⟨hn234, hn235⟩ := sl_le h233
  refine ⟨kd [rd 0 15 4 2 1 h233], nxG ?_⟩
  have h237 : sat g w231 [Sl 54 8 (some ⟨r217, 0, none⟩) 0 0 (fl eRs []), Sl 93 6 p229 (((allE S.E).length)) cap230 (fl eE (allE S.E)), Zs s10 n S.A, Zs b220 n S.A, Cl b [pV s10, .slice p11 (((allE S.E).length)) c12, .slice p13 S.R.length c14] 78, Sl 93 6 p11 (((allE S.E).length)) c12 (fl eE (allE S.E)), Sl 54 8 p13 S.R.length c14 (fl eRs S.R), R] := sl_of_cl (tk8 (sf7 (sf6 (sf6 (sf6 (sf7 (sf7 (sf7 (sf7 h233))))))))) rfl (by omega)
  refine actG ?_
  refine an_append_gv (d := 22) (sz := 8) (s := (Operand.tmp 17)) (x := (Operand.tmp 21)) (z := .agg #[iV 0, iV 0, uV 0, iV 0, iV 0, iV 0, iV 0, .string (St [])]) (p := (some ⟨r217, 0, none⟩)) (p2 := p13) (m := 0) (c := 0) (k := S.R.length) (c2 := c14) (by_ := 72) (by kernel_rfl) (by kernel_rfl) rfl Tryz.underlying76 (by kernel_rfl) rfl (by decide) (by kernel_rfl) (by kernel_rfl) h237 6 rfl (fl eRs S.R) (gv_sl _ _ _) (fl_len eRs_ok _) (fl_one eRs_ok _) (by omega) (by omega) S.R.length (by omega) ?_
  intro p238 cap239 w240 h241
  have h242 : sat g w240 [Sl 54 8 p238 S.R.length cap239 (fl eRs S.R), Sl 93 6 p229 (((allE S.E).length)) cap230 (fl eE (allE S.E)), Zs s10 n S.A, Zs b220 n S.A, Cl b [pV s10, .slice p11 (((allE S.E).length)) c12, .slice p13 S.R.length c14] 78, Sl 93 6 p11 (((allE S.E).length)) c12 (fl eE (allE S.E)), Sl 54 8 p13 S.R.length c14 (fl eRs S.R), R] := sat_imp h241 (fun _ hh => by exact hh)
  obtain ⟨hn243, hn244⟩ := sl_le h242
  refine ⟨kd [], nxG ?_⟩
  refine go [] <| nG (fun q_ => pV q_) 78 [pV b220, .slice p229 (((allE S.E).length)) cap230, .slice p238 S.R.length cap239] h242 (fun r245 w246 h247 => ⟨kd [], ?_⟩)
  refine go [] ?_
  have h249 : sat g w246 [Zr b n S.A (allE S.E) S.R, Cl r245 [pV b220, .slice p229 (((allE S.E).length)) cap230, .slice p238 S.R.length cap239] 78, Sl 54 8 p238 S.R.length cap239 (fl eRs S.R), Sl 93 6 p229 (((allE S.E).length)) cap230 (fl eE (allE S.E)), Zs b220 n S.A, R] := zr_close (by first | omega | (simp only [List.length_append, List.length_take, List.length_drop, List.length_cons, List.length_nil]; omega)) (by first | rfl | (simp only [List.length_append, List.length_take, List.length_drop, List.length_cons, List.length_nil]; omega) | simp only [List.length_append, List.length_take, List.length_drop, List.length_cons, List.length_nil]) (by first | rfl | (simp only [List.length_append, List.length_take, List.length_drop, List.length_cons, List.length_nil]; omega) | simp only [List.length_append, List.length_take, List.length_drop, List.length_cons, List.length_nil]) (tk9 (sf8 (sf7 (sf8 (sf8 (sf4 (sf4 (sf4 (sf5 (sf8 h247))))))))))
  have h251 : sat g w246 [Zr r245 n S.A (allE S.E) S.R, Zr b n S.A (allE S.E) S.R, R] := zr_close (by first | omega | (simp only [List.length_append, List.length_take, List.length_drop, List.length_cons, List.length_nil]; omega)) (by first | rfl | (simp only [List.length_append, List.length_take, List.length_drop, List.length_cons, List.length_nil]; omega) | simp only [List.length_append, List.length_take, List.length_drop, List.length_cons, List.length_nil]) (by first | rfl | (simp only [List.length_append, List.length_take, List.length_drop, List.length_cons, List.length_nil]; omega) | simp only [List.length_append, List.length_take, List.length_drop, List.length_cons, List.length_nil]) (tk6 (sf5 (sf5 (sf4 (sf3 (sf1 (sf5 h249)))))))
  exact en (pV r245) [] ⟨_, _, rfl, ⟨r245, rfl, rfl⟩, (tk3 (sf2 (sf1 (sf2 h251))))⟩
 refine nG (fun q_ => .slice (some ⟨q_, 0, none⟩) 0 0) 93 [] h219 (fun r253 w254 h255 => ⟨kd [rd 0 15 2 2 1 h255, rd 0 9 2 1 1 h255, rd 0 3 2 0 1 h255], ?_⟩)
 refine cG Tryz.call55 (zcopy_ht s10 n S.A) (tk7 (sf6 (sf5 (sf5 (sf5 (sf6 (sf6 (sf6 h255)))))))) ?_
 rintro v K w258 (⟨b256, rfl, rfl⟩) h259
 have h260 := ap2 h259
 refine ⟨kd [rd 0 15 4 2 1 h260, rd 0 9 4 1 1 h260], ?_⟩
 have h262 : sat g w258 [Sl 93 6 (some ⟨r253, 0, none⟩) 0 0 (fl eE []), Zs s10 n S.A, Zs b256 n S.A, Cl r217 [] 54, Cl b [pV s10, .slice p11 (((allE S.E).length)) c12, .slice p13 S.R.length c14] 78, Sl 93 6 p11 (((allE S.E).length)) c12 (fl eE (allE S.E)), Sl 54 8 p13 S.R.length c14 (fl eRs S.R), R] := sl_of_cl (tk8 (sf7 (sf6 (sf6 (sf7 (sf7 (sf7 (sf7 (sf7 h260))))))))) rfl (by omega)
 refine actG ?_
 refine an_append_gv (d := 16) (sz := 6) (s := (Operand.tmp 11)) (x := (Operand.tmp 15)) (z := .agg #[iV 0, iV 0, uV 0, iV 0, iV 0, uV 0]) (p := (some ⟨r253, 0, none⟩)) (p2 := p11) (m := 0) (c := 0) (k := (((allE S.E).length))) (c2 := c12) (by_ := 48) (by kernel_rfl) (by kernel_rfl) rfl Tryz.underlying75 (by kernel_rfl) rfl (by decide) (by kernel_rfl) (by kernel_rfl) h262 5 rfl (fl eE (allE S.E)) (gv_sl _ _ _) (fl_len eE_ok _) (fl_one eE_ok _) (by omega) (by omega) (((allE S.E).length)) (by omega) ?_
 intro p263 cap264 w265 h266
 have h267 : sat g w265 [Sl 93 6 p263 (((allE S.E).length)) cap264 (fl eE (allE S.E)), Zs s10 n S.A, Zs b256 n S.A, Cl r217 [] 54, Cl b [pV s10, .slice p11 (((allE S.E).length)) c12, .slice p13 S.R.length c14] 78, Sl 93 6 p11 (((allE S.E).length)) c12 (fl eE (allE S.E)), Sl 54 8 p13 S.R.length c14 (fl eRs S.R), R] := sat_imp h266 (fun _ hh => by exact hh)
 obtain ⟨hn268, hn269⟩ := sl_le h267
 refine ⟨kd [rd 0 15 4 2 1 h267], nxG ?_⟩
 have h271 : sat g w265 [Sl 54 8 (some ⟨r217, 0, none⟩) 0 0 (fl eRs []), Sl 93 6 p263 (((allE S.E).length)) cap264 (fl eE (allE S.E)), Zs s10 n S.A, Zs b256 n S.A, Cl b [pV s10, .slice p11 (((allE S.E).length)) c12, .slice p13 S.R.length c14] 78, Sl 93 6 p11 (((allE S.E).length)) c12 (fl eE (allE S.E)), Sl 54 8 p13 S.R.length c14 (fl eRs S.R), R] := sl_of_cl (tk8 (sf7 (sf6 (sf6 (sf6 (sf7 (sf7 (sf7 (sf7 h267))))))))) rfl (by omega)
 refine actG ?_
 refine an_append_gv (d := 22) (sz := 8) (s := (Operand.tmp 17)) (x := (Operand.tmp 21)) (z := .agg #[iV 0, iV 0, uV 0, iV 0, iV 0, iV 0, iV 0, .string (St [])]) (p := (some ⟨r217, 0, none⟩)) (p2 := p13) (m := 0) (c := 0) (k := S.R.length) (c2 := c14) (by_ := 72) (by kernel_rfl) (by kernel_rfl) rfl Tryz.underlying76 (by kernel_rfl) rfl (by decide) (by kernel_rfl) (by kernel_rfl) h271 6 rfl (fl eRs S.R) (gv_sl _ _ _) (fl_len eRs_ok _) (fl_one eRs_ok _) (by omega) (by omega) S.R.length (by omega) ?_
 intro p272 cap273 w274 h275
 have h276 : sat g w274 [Sl 54 8 p272 S.R.length cap273 (fl eRs S.R), Sl 93 6 p263 (((allE S.E).length)) cap264 (fl eE (allE S.E)), Zs s10 n S.A, Zs b256 n S.A, Cl b [pV s10, .slice p11 (((allE S.E).length)) c12, .slice p13 S.R.length c14] 78, Sl 93 6 p11 (((allE S.E).length)) c12 (fl eE (allE S.E)), Sl 54 8 p13 S.R.length c14 (fl eRs S.R), R] := sat_imp h275 (fun _ hh => by exact hh)
 obtain ⟨hn277, hn278⟩ := sl_le h276
 refine ⟨kd [], nxG ?_⟩
 refine go [] <| nG (fun q_ => pV q_) 78 [pV b256, .slice p263 (((allE S.E).length)) cap264, .slice p272 S.R.length cap273] h276 (fun r279 w280 h281 => ⟨kd [], ?_⟩)
 refine go [] ?_
 have h283 : sat g w280 [Zr b n S.A (allE S.E) S.R, Cl r279 [pV b256, .slice p263 (((allE S.E).length)) cap264, .slice p272 S.R.length cap273] 78, Sl 54 8 p272 S.R.length cap273 (fl eRs S.R), Sl 93 6 p263 (((allE S.E).length)) cap264 (fl eE (allE S.E)), Zs b256 n S.A, R] := zr_close (by first | omega | (simp only [List.length_append, List.length_take, List.length_drop, List.length_cons, List.length_nil]; omega)) (by first | rfl | (simp only [List.length_append, List.length_take, List.length_drop, List.length_cons, List.length_nil]; omega) | simp only [List.length_append, List.length_take, List.length_drop, List.length_cons, List.length_nil]) (by first | rfl | (simp only [List.length_append, List.length_take, List.length_drop, List.length_cons, List.length_nil]; omega) | simp only [List.length_append, List.length_take, List.length_drop, List.length_cons, List.length_nil]) (tk9 (sf8 (sf7 (sf8 (sf8 (sf4 (sf4 (sf4 (sf5 (sf8 h281))))))))))
 have h285 : sat g w280 [Zr r279 n S.A (allE S.E) S.R, Zr b n S.A (allE S.E) S.R, R] := zr_close (by first | omega | (simp only [List.length_append, List.length_take, List.length_drop, List.length_cons, List.length_nil]; omega)) (by first | rfl | (simp only [List.length_append, List.length_take, List.length_drop, List.length_cons, List.length_nil]; omega) | simp only [List.length_append, List.length_take, List.length_drop, List.length_cons, List.length_nil]) (by first | rfl | (simp only [List.length_append, List.length_take, List.length_drop, List.length_cons, List.length_nil]; omega) | simp only [List.length_append, List.length_take, List.length_drop, List.length_cons, List.length_nil]) (tk6 (sf5 (sf5 (sf4 (sf3 (sf1 (sf5 h283)))))))
 exact en (pV r279) [] ⟨_, _, rfl, ⟨r279, rfl, rfl⟩, (tk3 (sf2 (sf1 (sf2 h285))))⟩

end Go.Proofs.YtjjpmehiolejgaaGreat

/-
  What the laws of tables of resources do with them, as plain functions. No program in sight.
-/
namespace Go.Proofs.YtjjpmehiolejgaaGreat
abbrev Mv := Int × Int
theorem cls_ok' {S : Ts} {d : Ky} (h : fndE S d = 0) : clsS S d = dropS S d := by
  unfold clsS
  rw [if_pos h]
theorem drops_gone {n : Nat} : ∀ {D : List Ky} {S : Ts}, Wf n S → (∀ d ∈ D, ∃ e, gget S.E d.2.1 = some e ∧ e.d = d) → (D.map (·.2.1)).Pairwise (· < ·) → ∀ d ∈ D, gget (D.foldl dropS S).E d.2.1 = none
  | [], _, _, _, _ => fun d hd => by cases hd
  | d0 :: D, S, W, h, hp => fun d hd => by
    obtain ⟨e, h1, h2⟩ := h d0 List.mem_cons_self
    rw [List.map_cons, List.pairwise_cons] at hp
    have W2 := wf_drop W h1 h2
    have hne : ∀ d2 ∈ D, d2.2.1 ≠ d0.2.1 := fun d2 hd2 => by
      have := hp.1 _ (List.mem_map_of_mem (f := (·.2.1)) hd2)
      omega
    rcases List.mem_cons.1 hd with rfl | h3
    · rw [List.foldl_cons, drops_get hne]
      exact gget_del_self W.nd
    · exact drops_gone W2 (fun d2 hd2 => by
        obtain ⟨e2, h4, h5⟩ := h d2 (List.mem_cons_of_mem _ hd2)
        exact ⟨e2, by unfold dropS; simp only; rw [gget_del (hne d2 hd2)]; exact h4, h5⟩) hp.2 d h3
theorem exp_gone {n : Nat} {S : Ts} (W : Wf n S) {v : Int} {d : Ky} (hd : d ∈ descs S.E v) : gget (expS S v).E d.2.1 = none := drops_gone W (fun d2 hd2 => by
  obtain ⟨e, h1, h2, _⟩ := descs_at W hd2
  exact ⟨e, h1, h2⟩) (descs_lt W v) d hd
/-- The entries behind Expire: those of other resources. -/
theorem exp_get {n : Nat} {S : Ts} (W : Wf n S) {v k : Int} {e : Ety} : gget (expS S v).E k = some e ↔ gget S.E k = some e ∧ e.num ≠ v := by
  by_cases hk : ∃ d ∈ descs S.E v, d.2.1 = k
  · obtain ⟨d, hd, rfl⟩ := hk
    rw [exp_gone W hd]
    obtain ⟨e2, h1, h2, h3⟩ := descs_at W hd
    rw [h1]
    constructor
    · intro h; cases h
    · rintro ⟨h, h4⟩
      obtain rfl := Option.some.inj h
      exact absurd h3 h4
  · have hk' : ∀ d ∈ descs S.E v, d.2.1 ≠ k := fun d hd h => hk ⟨d, hd, h⟩
    unfold expS
    rw [drops_get hk']
    constructor
    · intro h
      refine ⟨h, fun h2 => ?_⟩
      exact hk' e.d (mem_descs.2 ⟨e, wf_all W h, h2, rfl⟩) (W.ent k e h).2.1
    · exact fun h => h.1
theorem exp_descs {n : Nat} {S : Ts} (W : Wf n S) (v : Int) : (descs (expS S v).E v).length = 0 := by
  cases h : descs (expS S v).E v with
  | nil => rfl
  | cons d D =>
    have hm : d ∈ descs (expS S v).E v := by rw [h]; exact List.mem_cons_self
    obtain ⟨e, h1, h2, h3⟩ := descs_at (wf_exp W v) hm
    exact absurd h3 ((exp_get W).1 h1).2
/-- A turn, and turns. -/
abbrev Tp := Ts × List Ky
section
variable {p : Tp} {i : Nat} {m : Mv} {d : Ky}
end
end Go.Proofs.YtjjpmehiolejgaaGreat

/-
  What is true of a table behind turns. No program in sight.
-/
namespace Go.Proofs.YtjjpmehiolejgaaGreat
/-- No descriptor was given that its slot could give again. -/
def GenI (A : List Sl2) (al : List Ky) : Prop := ∀ d ∈ al, goodD d ∧ d.2.2 ≤ 4294967295 ∧ ∃ (q : Nat) (s : Sl2), d.2.1 = (q : Int) ∧ A[q]? = some s ∧ (d.2.2 < s.2 ∨ (d.2.2 = s.2 ∧ s.1 ≠ 0))
/-- A resource lives as long as it has descriptors. -/
def LvI (S : Ts) : Prop := ∀ (q : Nat) (r : Rs), S.R[q]? = some r → (r.st = 1 ↔ 0 < (descs S.E ((q : Int) + 1)).length)
structure MInv (n : Nat) (p : Tp) : Prop where
  W : Wf n p.1
  nd : p.2.Nodup
  gen : GenI p.1.A p.2
  ent : ∀ (k : Int) (e : Ety), gget p.1.E k = some e → e.d ∈ p.2
  lv : LvI p.1
theorem dpos {n : Nat} {S : Ts} (W : Wf n S) {v : Int} : 0 < (descs S.E v).length ↔ ∃ (k : Int) (e : Ety), gget S.E k = some e ∧ e.num = v := by
  constructor
  · intro h
    obtain ⟨e, h1, _, h3⟩ := descs_at W (List.getElem_mem h)
    exact ⟨_, e, h1, h3⟩
  · rintro ⟨k, e, h1, h2⟩
    exact List.length_pos_of_mem (mem_descs.2 ⟨e, wf_all W h1, h2, rfl⟩)
section
variable {L : List Ky} {k : Nat} {x y : Ky} {b : Bool}
end
section
variable {n : Nat} {S : Ts} {v : Int}
theorem wf_dropK (W : Wf n S) (k : Nat) : Wf n (dropK S v k) := by
  refine wf_drops W (fun d hd => ?_) ?_
  · obtain ⟨e, h1, h2, _⟩ := descs_at W (List.mem_of_mem_take hd)
    exact ⟨e, h1, h2⟩
  · rw [List.map_take]
    exact (descs_lt W v).sublist (List.take_sublist _ _)
theorem close_at (W : Wf n S) {k : Nat} {x : Ky} (hx : (descs S.E v)[k]? = some x) : fndE (dropK S v k) (x.1, x.2.1, x.2.2) = 0 ∧ (fndX (dropK S v k) (x.1, x.2.1, x.2.2)).num = v ∧ clsS (dropK S v k) (x.1, x.2.1, x.2.2) = dropK S v (k + 1) ∧ clsL (dropK S v k) (x.1, x.2.1, x.2.2) = decide (k + 1 = (descs S.E v).length) := by
  obtain ⟨e, h1, h2, h3⟩ := descs_at W (List.mem_of_getElem? hx)
  obtain ⟨e', h4, h5⟩ := dropK_at W hx
  have he : e' = e := by
    have h6 := h4
    unfold dropK at h6
    have : gget S.E x.2.1 = gget (dropK S v k).E x.2.1 ∨ gget (dropK S v k).E x.2.1 = none := by
      by_cases hm : ∃ d ∈ (descs S.E v).take k, d.2.1 = x.2.1
      · obtain ⟨d, hd, hdx⟩ := hm
        refine .inr ?_
        rw [← hdx]
        exact drops_gone W (fun d2 hd2 => by
          obtain ⟨e2, q1, q2, _⟩ := descs_at W (List.mem_of_mem_take hd2)
          exact ⟨e2, q1, q2⟩) (by rw [List.map_take]; exact (descs_lt W v).sublist (List.take_sublist _ _)) d hd
      · refine .inl (drops_get fun d hd hdx => hm ⟨d, hd, hdx⟩).symm
    rcases this with h7 | h7
    · rw [h4, h1] at h7
      exact (Option.some.inj h7).symm
    · rw [h4] at h7
      cases h7
  subst he
  have hg := wf_good W h1
  rw [h2] at hg
  have hf := fndX_ok (S := dropK S v k) (d := x) hg h4 h5
  have hc : clsS (dropK S v k) x = dropK S v (k + 1) := by
    rw [cls_ok' hf.1]
    exact dropK_go hx
  refine ⟨hf.1, ?_, hc, ?_⟩
  · show (fndX (dropK S v k) x).num = v
    rw [hf.2]
    exact h3
  · show clsL (dropK S v k) x = _
    unfold clsL
    rw [hf.2, h3, dropK_go hx, decide_eq_decide]
    have hlt := (List.getElem?_eq_some_iff.1 hx).1
    constructor
    · rintro ⟨_, h8⟩
      by_cases hk : k + 1 = (descs S.E v).length
      · exact hk
      · exfalso
        have hx2 : (descs S.E v)[k + 1]? = some (descs S.E v)[k + 1] := List.getElem?_eq_getElem (by omega)
        obtain ⟨e2, q1, q2, q3⟩ := descs_at W (List.mem_of_getElem? hx2)
        obtain ⟨e3, q4, q5⟩ := dropK_at W hx2
        have hp : 0 < (descs (dropK S v (k + 1)).E v).length := by
          rw [dpos (wf_dropK W (k + 1))]
          refine ⟨((descs S.E v)[k + 1]).2.1, e2, ?_, q3⟩
          unfold dropK
          rw [drops_get, q1]
          intro d hd
          obtain ⟨j, hj⟩ := List.getElem?_of_mem hd
          have hjk : j < k + 1 := by
            have := (List.getElem?_eq_some_iff.1 hj).1
            rw [List.length_take] at this
            omega
          rw [List.getElem?_take_of_lt hjk] at hj
          have hpw := List.pairwise_iff_getElem.1 (descs_lt W v) j (k + 1) (by rw [List.length_map]; exact (List.getElem?_eq_some_iff.1 hj).1) (by rw [List.length_map]; exact (List.getElem?_eq_some_iff.1 hx2).1) hjk
          rw [List.getElem_map, List.getElem_map, (List.getElem?_eq_some_iff.1 hj).2] at hpw
          omega
        omega
    · intro hk
      refine ⟨hf.1, ?_⟩
      rw [dropK_all S v hk]
      exact exp_descs W v
end
section
variable {α : Type} {L : List α} {k : Nat} {x : α} {p : α → Bool} {b : Bool}
end
end Go.Proofs.YtjjpmehiolejgaaGreat

/- Walks, printed by my generator z10.py. -/
namespace Go.Proofs.YtjjpmehiolejgaaGreat
set_option maxHeartbeats 4000000 in
theorem zdup_nil (d0 d1 d2 u0 u1 : Int) : HT Tryz.prog 11 [Value.pointer none, Value.agg #[Value.int IntKind.i64 d0, Value.int IntKind.i64 d1, Value.int IntKind.u32 d2], Value.agg #[Value.int IntKind.i64 u0, Value.int IntKind.u32 u1]] [] (fun v K => v = Value.tuple #[Value.agg #[Value.int IntKind.i64 0, Value.int IntKind.i64 0, Value.int IntKind.u32 0], Value.int IntKind.i64 1] ∧ K = []) := by
 refine hiS Tryz.func11 Tryz.ntmps11 fun g w0 R h0 => go [] <| nP 25 [iV d0, iV d1, uV d2] h0 (fun r10 w11 h12 => ?_)
 refine nP 38 [iV u0, uV u1] h12 (fun r13 w14 h15 => ?_)
 refine nP 25 [iV 0, iV 0, uV 0] h15 (fun r16 w17 h18 => ?_)
 refine go [] <| cl0 Tryz.call37 (rvalid_nil) h18 fun w19 h20 => go [rd 3 1 2 0 3 h20] <| cl0 Tryz.call44 (zfind_nil d0 d1 d2) h20 fun w21 h22 => go [] <| sP [(0, iV 0), (1, iV 0), (2, uV 0)] [iV 0, iV 0, uV 0] h22 fun w23 h24 => go [] ?_
 exact en (.tuple #[.agg #[iV 0, iV 0, uV 0], iV 1]) [rd 0 0 0 0 3 h24] ⟨_, _, rfl, ⟨rfl, rfl⟩, (tk1 (sf3 h24))⟩

set_option maxHeartbeats 4000000 in
theorem zdup_ht (b n : Nat) (S : Ts) (hW : Wf n S) (d0 d1 d2 : Int) (u0 u1 : Int) (hz : 0 ≤ d2) (hz1 : 0 ≤ u1) : HT Tryz.prog 11 [Value.pointer (some ⟨b, 0, none⟩), Value.agg #[Value.int IntKind.i64 d0, Value.int IntKind.i64 d1, Value.int IntKind.u32 d2], Value.agg #[Value.int IntKind.i64 u0, Value.int IntKind.u32 u1]] [Zr b n S.A (allE S.E) S.R] (fun v K => v = Value.tuple #[Value.agg #[Value.int IntKind.i64 ((dupD S (d0, d1, d2) (u0, u1)).1), Value.int IntKind.i64 ((dupD S (d0, d1, d2) (u0, u1)).2.1), Value.int IntKind.u32 ((dupD S (d0, d1, d2) (u0, u1)).2.2)], Value.int IntKind.i64 ((dupE S (d0, d1, d2) (u0, u1)))] ∧ K = [Zr b n ((dupS S (d0, d1, d2) (u0, u1)).A) (allE (dupS S (d0, d1, d2) (u0, u1)).E) ((dupS S (d0, d1, d2) (u0, u1)).R)]) := by
 refine hiS Tryz.func11 Tryz.ntmps11 fun g w0 R h0 => go [] <| nP 25 [iV d0, iV d1, uV d2] h0 (fun r10 w11 h12 => ?_)
 refine nP 38 [iV u0, uV u1] h12 (fun r13 w14 h15 => ?_)
 refine nP 25 [iV 0, iV 0, uV 0] h15 (fun r16 w17 h18 => ?_)
 obtain ⟨s20, p21, c22, p23, c24, hq25, h26⟩ := zr_open (tk5 (sf4 (sf3 (sf3 (sf3 (sf4 h18))))))
 have hb27 := hq25.1
 have hb28 := hq25.2
 refine go [] <| cl1 Tryz.call37 (rvalid_cl b s20 p21 (((allE S.E).length)) c22 p23 S.R.length c24) h26 fun w29 h30 => go [rd 1 3 5 0 2 h30] ?_
 by_cases c31 : 0 ≤ u0
 ·
  by_cases c32 : u0 ≤ 255
  ·
   by_cases c33 : 1 ≤ u1
   ·
    refine cl0 Tryz.call39 (zobj_t u0 u1 (by omega)) h30 fun w34 h35 => ?_
    have h36 : sat g w34 [Zr b n S.A (allE S.E) S.R, Cl r16 [iV 0, iV 0, uV 0] 25, Cl r13 [iV u0, uV u1] 38, Cl r10 [iV d0, iV d1, uV d2] 25, R] := zr_close (by first | omega | (simp only [List.length_append, List.length_take, List.length_drop, List.length_cons, List.length_nil]; omega)) (by first | rfl | (simp only [List.length_append, List.length_take, List.length_drop, List.length_cons, List.length_nil]; omega) | simp only [List.length_append, List.length_take, List.length_drop, List.length_cons, List.length_nil]) (by first | rfl | (simp only [List.length_append, List.length_take, List.length_drop, List.length_cons, List.length_nil]; omega) | simp only [List.length_append, List.length_take, List.length_drop, List.length_cons, List.length_nil]) h35
    refine go [rd 3 1 6 0 3 h35] ?_
    by_cases c37 : (fndE S (d0, d1, d2)) = 0
    ·
     refine cP Tryz.call44 ((by have h_ := wfind_ht b n S hW d0 d1 d2 (by omega); rw [show fndE S (d0, d1, d2) = 0 from by omega] at h_; exact h_)) h36 ?_
     rintro v K w40 (⟨i38, hi39, rfl, rfl⟩) h41
     have h42 := ap1 h41
     have hb43 := (List.getElem?_eq_some_iff.1 (hi39 rfl)).1
     refine go [rd 6 1 2 0 2 h42] ?_
     rcases Bool.eq_false_or_eq_true (hasX (allE S.E) (u0, u1)) with cb44 | cb44
     ·
      refine cl1 Tryz.call40 ((by have h_ := zhas_ht b n S.A (allE S.E) S.R u0 u1; rw [cb44] at h_; exact h_)) h42 fun w45 h46 => ?_
      have h47 := tk5 (sf4 (sf3 (sf4 (sf4 (sf4 h46)))))
      refine go [] <| sP [(0, iV 0), (1, iV 0), (2, uV 0)] [iV 0, iV 0, uV 0] h47 fun w48 h49 => go [] ?_
      exact en (.tuple #[.agg #[iV 0, iV 0, uV 0], iV 6]) [rd 0 0 0 0 3 h49] ⟨_, [Zr b n S.A (allE S.E) S.R], rfl, ⟨by rw [show dupE S (d0, d1, d2) (u0, u1) = 6 from (by unfold dupE; rw [if_neg (fun h_ => h_ (show objH (u0, u1) from by unfold objH; simp only; omega)), if_neg (by omega), if_pos (of_decide_eq_true ((hasX_eq S.E (u0, u1)).symm.trans cb44))]), (dup_bad (show dupE S (d0, d1, d2) (u0, u1) = 6 from (by unfold dupE; rw [if_neg (fun h_ => h_ (show objH (u0, u1) from by unfold objH; simp only; omega)), if_neg (by omega), if_pos (of_decide_eq_true ((hasX_eq S.E (u0, u1)).symm.trans cb44))])) (by omega)).2] <;> rfl, by rw [(dup_bad (show dupE S (d0, d1, d2) (u0, u1) = 6 from (by unfold dupE; rw [if_neg (fun h_ => h_ (show objH (u0, u1) from by unfold objH; simp only; omega)), if_neg (by omega), if_pos (of_decide_eq_true ((hasX_eq S.E (u0, u1)).symm.trans cb44))])) (by omega)).1]⟩, (tk2 (sf1 (sf4 (tk5 (sf4 (sf3 (sf4 (sf4 (sf4 h49)))))))))⟩
     refine cl1 Tryz.call40 ((by have h_ := zhas_ht b n S.A (allE S.E) S.R u0 u1; rw [cb44] at h_; exact h_)) h42 fun w52 h53 => ?_
     obtain ⟨s54, p55, c56, p57, c58, hq59, h60⟩ := zr_open h53
     have hb61 := hq59.1
     have hb62 := hq59.2
     have h63 := tk8 (sf7 (sf6 (sf7 (sf7 (sf7 (sf7 (sf7 (sf7 h60))))))))
     refine go [rd 8 3 0 0 1 h60] <| cl1 Tryz.call41 (zfree_ht s54 n S.A) h63 fun w64 h65 => ?_
     by_cases c66 : (((inS 0 S.A 0).length : Nat) : Int) = 0
     ·
      have h67 := tk8 (sf7 (sf6 (sf6 (sf6 (sf6 (sf7 (sf7 (sf7 h65))))))))
      refine go [.v 8 5 (eT ((((inS 0 S.A 0).length : Nat) : Int)) 0)] <| sP [(0, iV 0), (1, iV 0), (2, uV 0)] [iV 0, iV 0, uV 0] h67 fun w68 h69 => go [] ?_
      have h71 : sat g w68 [Zr b n S.A (allE S.E) S.R, Cl r16 [iV 0, iV 0, uV 0] 25, Cl r13 [iV u0, uV u1] 38, Cl r10 [iV d0, iV d1, uV d2] 25, R] := zr_close (by first | omega | (simp only [List.length_append, List.length_take, List.length_drop, List.length_cons, List.length_nil]; omega)) (by first | rfl | (simp only [List.length_append, List.length_take, List.length_drop, List.length_cons, List.length_nil]; omega) | simp only [List.length_append, List.length_take, List.length_drop, List.length_cons, List.length_nil]) (by first | rfl | (simp only [List.length_append, List.length_take, List.length_drop, List.length_cons, List.length_nil]; omega) | simp only [List.length_append, List.length_take, List.length_drop, List.length_cons, List.length_nil]) (tk8 (sf7 (sf6 (sf7 (sf7 (sf3 (sf7 (sf7 (sf7 h69)))))))))
      exact en (.tuple #[.agg #[iV 0, iV 0, uV 0], iV 4]) [rd 0 0 0 0 3 h69] ⟨_, [Zr b n S.A (allE S.E) S.R], rfl, ⟨by rw [show dupE S (d0, d1, d2) (u0, u1) = 4 from (by unfold dupE; rw [if_neg (fun h_ => h_ (show objH (u0, u1) from by unfold objH; simp only; omega)), if_neg (by omega), if_neg (of_decide_eq_false ((hasX_eq S.E (u0, u1)).symm.trans cb44)), if_pos (freeS_none.2 (by omega))]), (dup_bad (show dupE S (d0, d1, d2) (u0, u1) = 4 from (by unfold dupE; rw [if_neg (fun h_ => h_ (show objH (u0, u1) from by unfold objH; simp only; omega)), if_neg (by omega), if_neg (of_decide_eq_false ((hasX_eq S.E (u0, u1)).symm.trans cb44)), if_pos (freeS_none.2 (by omega))])) (by omega)).2] <;> rfl, by rw [(dup_bad (show dupE S (d0, d1, d2) (u0, u1) = 4 from (by unfold dupE; rw [if_neg (fun h_ => h_ (show objH (u0, u1) from by unfold objH; simp only; omega)), if_neg (by omega), if_neg (of_decide_eq_false ((hasX_eq S.E (u0, u1)).symm.trans cb44)), if_pos (freeS_none.2 (by omega))])) (by omega)).1]⟩, (tk2 (sf1 (sf4 h71)))⟩
     refine go [.v 8 5 (eF ((((inS 0 S.A 0).length : Nat) : Int)) 0)] <| dw (fls [0, 1, 2, 3, 4, 5, 6, 7, 8, 9] (Tr.an 10 (Tr.an 11 (Tr.fl 12 Tr.nil)))) h65 fun w73 h74 => ?_
     obtain ⟨b75, hp76⟩ := sl_ptr0 (j := 2) h74 rfl (by omega)
     refine go [rd 10 4 1 1 1 h74, .s 10 6] <| lw (.pointer (some ⟨b75, i38 * 6, none⟩)) (fun _ => law_indexSlP (x := (Operand.tmp 43)) (i := (Operand.tmp 44)) (p := p55) (b := b75) (off := 0) (z := (i38 : Int)) (len := (((allE S.E).length))) (cap := c56) (by kernel_rfl) Tryz.underlying75 6 (by kernel_rfl) i38 (by kernel_rfl) hp76 (by kernel_rfl) (by omega) (by omega) (i38 * 6) (by omega) _) ?_
     obtain ⟨j77, vg78, hf79⟩ := free_some (A := S.A) (by omega)
     have hr_ := wf_room hW hf79
     have h81 : sat g w73 [Zr b n S.A (allE S.E) S.R, Cl r16 [iV 0, iV 0, uV 0] 25, Cl r13 [iV u0, uV u1] 38, Cl r10 [iV d0, iV d1, uV d2] 25, R] := zr_close (by first | omega | (simp only [List.length_append, List.length_take, List.length_drop, List.length_cons, List.length_nil]; omega)) (by first | rfl | (simp only [List.length_append, List.length_take, List.length_drop, List.length_cons, List.length_nil]; omega) | simp only [List.length_append, List.length_take, List.length_drop, List.length_cons, List.length_nil]) (by first | rfl | (simp only [List.length_append, List.length_take, List.length_drop, List.length_cons, List.length_nil]; omega) | simp only [List.length_append, List.length_take, List.length_drop, List.length_cons, List.length_nil]) (tk8 (sf7 (sf6 (sf7 (sf7 (sf7 (sf7 (sf7 (sf7 h74)))))))))
     obtain ⟨q82, r83, hr84, h85, h86⟩ := fnd_rat hW (d := (d0, d1, d2)) (by omega)
     refine go [.r 10 8 b75 (i38 * 6 + 3) [iV ((fndX S (d0, d1, d2)).num)] ⟨gv_cell (j := 2) h74 rfl (gv_sl _ _ _) hp76 (fl_get eE_ok (j := 3) (v := iV ((fndX S (d0, d1, d2)).num)) (hi39 rfl) rfl) (i38 * 6 + 3) (by omega), trivial⟩, rd 10 9 5 0 2 h74] <| cd1 Tryz.call42 (zadd_ht b n S.A (allE S.E) S.R ((fndX S (d0, d1, d2)).num) u0 u1 q82 r83 hr84 (by omega) j77 vg78 hf79 (by omega)) h81 fun w87 h88 => ⟨kd [], ?_⟩
     refine sG [(0, iV r83.out.1), (1, iV (j77 : Int)), (2, uV vg78)] [iV r83.out.1, iV (j77 : Int), uV vg78] (tk5 (sf4 (sf3 (sf4 (sf4 (sf4 h88)))))) fun w90 h91 => ⟨kd [], ?_⟩
     refine go [] ?_
     have hE_ : dupE S (d0, d1, d2) (u0, u1) = 0 := by unfold dupE; rw [if_neg (fun h_ => h_ (show objH (u0, u1) from by unfold objH; simp only; omega)), if_neg (by omega), if_neg (of_decide_eq_false ((hasX_eq S.E (u0, u1)).symm.trans cb44)), if_neg (by rw [hf79]; exact fun h_ => by cases h_)]
     have hS_ : dupS S (d0, d1, d2) (u0, u1) = ⟨S.A.set j77 (1, vg78), gset S.E (j77 : Int) ⟨(d0, (j77 : Int), vg78), (fndX S (d0, d1, d2)).num, (u0, u1)⟩, S.R⟩ := by unfold dupS; rw [if_pos hE_, (addS_at hf79).1]
     have hD_ : dupD S (d0, d1, d2) (u0, u1) = (d0, (j77 : Int), vg78) := by unfold dupD; rw [if_pos hE_, (addS_at (num := 0) (h := (0, 0)) hf79).2]
     exact en (.tuple #[.agg #[iV r83.out.1, iV (j77 : Int), uV vg78], iV 0]) [rd 0 0 0 0 3 h91] ⟨_, [Zr b n (S.A.set j77 (1, vg78)) (insX (allE S.E) j77 ⟨(r83.out.1, (j77 : Int), vg78), (fndX S (d0, d1, d2)).num, (u0, u1)⟩) S.R], rfl, ⟨by rw [hE_, hD_, show r83.out.1 = d0 from h86], by rw [hS_, show r83.out.1 = d0 from h86, ins_all (wf_kyd hW) (free_at hW hf79).1 (free_at hW hf79).2]⟩, (tk2 (sf1 (sf4 (tk5 (sf4 (sf3 (sf4 (sf4 (sf4 h91)))))))))⟩
    refine cP Tryz.call44 (wfind_ht b n S hW d0 d1 d2 (by omega)) h36 ?_
    rintro v K w96 (⟨i94, hi95, rfl, rfl⟩) h97
    have h99 := tk5 (sf4 (sf3 (sf4 (sf4 (sf4 (ap1 h97))))))
    refine go [.v 4 1 (nT ((fndE S (d0, d1, d2))) 0)] <| sP [(0, iV 0), (1, iV 0), (2, uV 0)] [iV 0, iV 0, uV 0] h99 fun w100 h101 => go [] ?_
    exact en (.tuple #[.agg #[iV 0, iV 0, uV 0], iV ((fndE S (d0, d1, d2)))]) [rd 0 0 0 0 3 h101] ⟨_, [Zr b n S.A (allE S.E) S.R], rfl, ⟨by rw [show dupE S (d0, d1, d2) (u0, u1) = fndE S (d0, d1, d2) from (by unfold dupE; rw [if_neg (fun h_ => h_ (show objH (u0, u1) from by unfold objH; simp only; omega)), if_pos (by omega)]), (dup_bad (show dupE S (d0, d1, d2) (u0, u1) = fndE S (d0, d1, d2) from (by unfold dupE; rw [if_neg (fun h_ => h_ (show objH (u0, u1) from by unfold objH; simp only; omega)), if_pos (by omega)])) (by omega)).2] <;> rfl, by rw [(dup_bad (show dupE S (d0, d1, d2) (u0, u1) = fndE S (d0, d1, d2) from (by unfold dupE; rw [if_neg (fun h_ => h_ (show objH (u0, u1) from by unfold objH; simp only; omega)), if_pos (by omega)])) (by omega)).1]⟩, (tk2 (sf1 (sf4 (tk5 (sf4 (sf3 (sf4 (sf4 (sf4 h101)))))))))⟩
   refine cl0 Tryz.call39 (zobj_f u0 u1 (by omega) (by omega)) h30 fun w104 h105 => ?_
   have h106 := tk8 (sf7 (sf6 (sf6 (sf6 (sf6 (sf7 (sf7 (sf7 h105))))))))
   refine go [] <| sP [(0, iV 0), (1, iV 0), (2, uV 0)] [iV 0, iV 0, uV 0] h106 fun w107 h108 => go [] ?_
   have h110 : sat g w107 [Zr b n S.A (allE S.E) S.R, Cl r16 [iV 0, iV 0, uV 0] 25, Cl r13 [iV u0, uV u1] 38, Cl r10 [iV d0, iV d1, uV d2] 25, R] := zr_close (by first | omega | (simp only [List.length_append, List.length_take, List.length_drop, List.length_cons, List.length_nil]; omega)) (by first | rfl | (simp only [List.length_append, List.length_take, List.length_drop, List.length_cons, List.length_nil]; omega) | simp only [List.length_append, List.length_take, List.length_drop, List.length_cons, List.length_nil]) (by first | rfl | (simp only [List.length_append, List.length_take, List.length_drop, List.length_cons, List.length_nil]; omega) | simp only [List.length_append, List.length_take, List.length_drop, List.length_cons, List.length_nil]) (tk8 (sf7 (sf7 (sf7 (sf7 (sf3 (sf7 (sf7 (sf7 h108)))))))))
   exact en (.tuple #[.agg #[iV 0, iV 0, uV 0], iV 2]) [rd 0 0 0 0 3 h108] ⟨_, [Zr b n S.A (allE S.E) S.R], rfl, ⟨by rw [show dupE S (d0, d1, d2) (u0, u1) = 2 from (if_pos (show ¬ objH (u0, u1) from by unfold objH; simp only; omega)), (dup_bad (show dupE S (d0, d1, d2) (u0, u1) = 2 from (if_pos (show ¬ objH (u0, u1) from by unfold objH; simp only; omega))) (by omega)).2] <;> rfl, by rw [(dup_bad (show dupE S (d0, d1, d2) (u0, u1) = 2 from (if_pos (show ¬ objH (u0, u1) from by unfold objH; simp only; omega))) (by omega)).1]⟩, (tk2 (sf1 (sf4 h110)))⟩
  refine cl0 Tryz.call39 (zobj_f u0 u1 (by omega) (by omega)) h30 fun w112 h113 => ?_
  have h114 := tk8 (sf7 (sf6 (sf6 (sf6 (sf6 (sf7 (sf7 (sf7 h113))))))))
  refine go [] <| sP [(0, iV 0), (1, iV 0), (2, uV 0)] [iV 0, iV 0, uV 0] h114 fun w115 h116 => go [] ?_
  have h118 : sat g w115 [Zr b n S.A (allE S.E) S.R, Cl r16 [iV 0, iV 0, uV 0] 25, Cl r13 [iV u0, uV u1] 38, Cl r10 [iV d0, iV d1, uV d2] 25, R] := zr_close (by first | omega | (simp only [List.length_append, List.length_take, List.length_drop, List.length_cons, List.length_nil]; omega)) (by first | rfl | (simp only [List.length_append, List.length_take, List.length_drop, List.length_cons, List.length_nil]; omega) | simp only [List.length_append, List.length_take, List.length_drop, List.length_cons, List.length_nil]) (by first | rfl | (simp only [List.length_append, List.length_take, List.length_drop, List.length_cons, List.length_nil]; omega) | simp only [List.length_append, List.length_take, List.length_drop, List.length_cons, List.length_nil]) (tk8 (sf7 (sf7 (sf7 (sf7 (sf3 (sf7 (sf7 (sf7 h116)))))))))
  exact en (.tuple #[.agg #[iV 0, iV 0, uV 0], iV 2]) [rd 0 0 0 0 3 h116] ⟨_, [Zr b n S.A (allE S.E) S.R], rfl, ⟨by rw [show dupE S (d0, d1, d2) (u0, u1) = 2 from (if_pos (show ¬ objH (u0, u1) from by unfold objH; simp only; omega)), (dup_bad (show dupE S (d0, d1, d2) (u0, u1) = 2 from (if_pos (show ¬ objH (u0, u1) from by unfold objH; simp only; omega))) (by omega)).2] <;> rfl, by rw [(dup_bad (show dupE S (d0, d1, d2) (u0, u1) = 2 from (if_pos (show ¬ objH (u0, u1) from by unfold objH; simp only; omega))) (by omega)).1]⟩, (tk2 (sf1 (sf4 h118)))⟩
 refine cl0 Tryz.call39 (zobj_f u0 u1 (by omega) (by omega)) h30 fun w120 h121 => ?_
 have h122 := tk8 (sf7 (sf6 (sf6 (sf6 (sf6 (sf7 (sf7 (sf7 h121))))))))
 refine go [] <| sP [(0, iV 0), (1, iV 0), (2, uV 0)] [iV 0, iV 0, uV 0] h122 fun w123 h124 => go [] ?_
 have h126 : sat g w123 [Zr b n S.A (allE S.E) S.R, Cl r16 [iV 0, iV 0, uV 0] 25, Cl r13 [iV u0, uV u1] 38, Cl r10 [iV d0, iV d1, uV d2] 25, R] := zr_close (by first | omega | (simp only [List.length_append, List.length_take, List.length_drop, List.length_cons, List.length_nil]; omega)) (by first | rfl | (simp only [List.length_append, List.length_take, List.length_drop, List.length_cons, List.length_nil]; omega) | simp only [List.length_append, List.length_take, List.length_drop, List.length_cons, List.length_nil]) (by first | rfl | (simp only [List.length_append, List.length_take, List.length_drop, List.length_cons, List.length_nil]; omega) | simp only [List.length_append, List.length_take, List.length_drop, List.length_cons, List.length_nil]) (tk8 (sf7 (sf7 (sf7 (sf7 (sf3 (sf7 (sf7 (sf7 h124)))))))))
 exact en (.tuple #[.agg #[iV 0, iV 0, uV 0], iV 2]) [rd 0 0 0 0 3 h124] ⟨_, [Zr b n S.A (allE S.E) S.R], rfl, ⟨by rw [show dupE S (d0, d1, d2) (u0, u1) = 2 from (if_pos (show ¬ objH (u0, u1) from by unfold objH; simp only; omega)), (dup_bad (show dupE S (d0, d1, d2) (u0, u1) = 2 from (if_pos (show ¬ objH (u0, u1) from by unfold objH; simp only; omega))) (by omega)).2] <;> rfl, by rw [(dup_bad (show dupE S (d0, d1, d2) (u0, u1) = 2 from (if_pos (show ¬ objH (u0, u1) from by unfold objH; simp only; omega))) (by omega)).1]⟩, (tk2 (sf1 (sf4 h126)))⟩

theorem del_allk {E : Tm} (hk : Kyd E) (hn : KN E) {j i : Nat} {k : Int} {e : Ety} (hjk : ((j : Nat) : Int) = k) (hj : j < 256) (hg : gget E k = some e) (hi : (allE E)[i]? = some e) : (allE E).take i ++ (allE E).drop (i + 1) = allE (gdel E k) := by
  subst hjk
  exact del_all hk hn hj hg hi
set_option maxHeartbeats 4000000 in
theorem zcls_nil (d0 d1 d2 : Int) : HT Tryz.prog 13 [Value.pointer none, Value.agg #[Value.int IntKind.i64 d0, Value.int IntKind.i64 d1, Value.int IntKind.u32 d2]] [] (fun v K => v = Value.tuple #[Value.int IntKind.i64 0, Value.bool false, Value.int IntKind.i64 1] ∧ K = []) := by
 refine hiS Tryz.func13 Tryz.ntmps13 fun g w0 R h0 => go [] <| nP 25 [iV d0, iV d1, uV d2] h0 (fun r10 w11 h12 => ?_)
 refine go [rd 1 1 0 0 3 h12] <| cl0 Tryz.call44 (zfind_nil d0 d1 d2) h12 fun w13 h14 => go [] ?_
 exact en (.tuple #[iV 0, .bool false, iV 1]) [] ⟨_, _, rfl, ⟨rfl, rfl⟩, (tk1 (sf1 h14))⟩

set_option maxHeartbeats 4000000 in
theorem zcls_ht (b n : Nat) (S : Ts) (hW : Wf n S) (d0 d1 d2 : Int) (hz : 0 ≤ d2) : HT Tryz.prog 13 [Value.pointer (some ⟨b, 0, none⟩), Value.agg #[Value.int IntKind.i64 d0, Value.int IntKind.i64 d1, Value.int IntKind.u32 d2]] [Zr b n S.A (allE S.E) S.R] (fun v K => v = Value.tuple #[Value.int IntKind.i64 ((fndX S (d0, d1, d2)).num), Value.bool (clsL S (d0, d1, d2)), Value.int IntKind.i64 ((fndE S (d0, d1, d2)))] ∧ K = [Zr b n ((clsS S (d0, d1, d2)).A) (allE (clsS S (d0, d1, d2)).E) ((clsS S (d0, d1, d2)).R)]) := by
 refine hiS Tryz.func13 Tryz.ntmps13 fun g w0 R h0 => go [] <| nP 25 [iV d0, iV d1, uV d2] h0 (fun r10 w11 h12 => ?_)
 refine go [rd 1 1 0 0 3 h12] ?_
 by_cases c13 : (fndE S (d0, d1, d2)) = 0
 ·
  refine cP Tryz.call44 ((by have h_ := wfind_ht b n S hW d0 d1 d2 (by omega); rw [show fndE S (d0, d1, d2) = 0 from by omega] at h_; exact h_)) (tk3 (sf2 (sf1 (sf2 h12)))) ?_
  rintro v K w17 (⟨i14, hi15, rfl, rfl⟩) h18
  have h19 := ap1 h18
  have hb20 := (List.getElem?_eq_some_iff.1 (hi15 rfl)).1
  obtain ⟨s21, p22, c23, p24, c25, hq26, h27⟩ := zr_open h19
  have hb28 := hq26.1
  have hb29 := hq26.2
  have h30 := tk6 (sf5 (sf4 (sf4 (sf5 (sf5 (sf5 h27))))))
  obtain ⟨hc31, hc32⟩ := sl_le h30
  have h33 := tk6 (sf5 (sf5 (sf3 (sf5 (sf5 (sf5 h30))))))
  obtain ⟨b34, hp35⟩ := sl_ptr0 (j := 2) h33 rfl (by omega)
  refine go [rd 4 3 0 1 1 h33, .s 4 5] <| lwP (.pointer (some ⟨b34, i14 * 6, none⟩)) (law_indexSlP (x := (Operand.tmp 24)) (i := (Operand.tmp 25)) (p := p22) (b := b34) (off := 0) (z := (i14 : Int)) (len := (((allE S.E).length))) (cap := c23) (by kernel_rfl) Tryz.underlying75 6 (by kernel_rfl) i14 (by kernel_rfl) hp35 (by kernel_rfl) (by omega) (by omega) (i14 * 6) (by omega) _) <| go [.r 4 7 b34 (i14 * 6 + 3) [iV ((fndX S (d0, d1, d2)).num)] ⟨gv_cell (j := 2) h33 rfl (gv_sl _ _ _) hp35 (fl_get eE_ok (j := 3) (v := iV ((fndX S (d0, d1, d2)).num)) (hi15 rfl) rfl) (i14 * 6 + 3) (by omega), trivial⟩] <| dw (fls [0, 1, 2, 3, 4, 5, 6, 7, 8] (Tr.an 9 Tr.nil)) h33 fun w36 h37 => ?_
  obtain ⟨hs1_, hs2_, hs3_, hs4_, hs5_⟩ := fnd_slot hW (d := (d0, d1, d2)) (by omega)
  simp only at hs1_ hs2_ hs3_ hs4_
  obtain ⟨x_, hx_, hx1_, hx2_⟩ : ∃ x : Sl2, S.A[d1.toNat]? = some x ∧ x.1 = 1 ∧ x.2 = d2 := ⟨_, hs1_, rfl, rfl⟩
  have h38 := tk6 (sf5 (sf4 (sf5 (sf5 (sf5 (sf5 h37))))))
  refine go [rd 5 3 0 0 1 h37, rd 5 5 4 1 1 h37, rd 5 7 4 2 1 h37] <| cd1 Tryz.call47 (zgive_ht s21 n S.A d1.toNat x_ hx_ d1 d2 (by omega)) h38 fun w39 h40 => ⟨kd [], ?_⟩
  refine go [] <| dw (fls [0, 2, 3, 4, 5, 6, 7, 9, 10, 11, 12, 13, 14, 15] (Tr.an 1 (Tr.an 8 (Tr.an 16 (fls [17, 18] (Tr.an 19 Tr.nil)))))) h40 fun w41 h42 => go [rd 6 5 1 1 1 h42, .s 6 7] <| lw (.slice p22 i14 c23) (fun _ => law_sliceTo (x := (Operand.tmp 44)) (y := (Operand.tmp 45)) (p := p22) (m := (((allE S.E).length))) (c := c23) (z := (i14 : Int)) (by kernel_rfl) Tryz.underlying75 (by kernel_rfl) (by kernel_rfl) (by kernel_rfl) i14 (by omega) (by omega) _) ?_
  obtain ⟨q43, hq44⟩ : ∃ q : Option Addr, q = if c23 = i14 + 1 then p22 else p22.map (fun a : Addr => a.add ((i14 + 1) * 6)) := ⟨_, rfl⟩
  refine go [rd 6 12 1 1 1 h42, .v 6 14 (oIr ((i14 : Int) + 1)), .s 6 15] <| lw (.slice q43 (((allE S.E).length) - i14 - 1) (c23 - i14 - 1)) (fun _ => law_sliceFrom (x := (Operand.tmp 51)) (y := (Operand.tmp 53)) (p := p22) (m := (((allE S.E).length))) (c := c23) (sz := 6) (z := ((i14 : Int) + 1)) (by kernel_rfl) Tryz.underlying75 (by kernel_rfl) (by kernel_rfl) (by kernel_rfl) (i14 + 1) (by omega) (by omega) hq44 _) <| nG (fun q_ => .slice (some ⟨q_, 0, none⟩) 0 0) 93 [] h42 (fun r45 w46 h47 => ⟨kd [rd 0 12 2 1 1 h47, rd 0 5 2 1 1 h47], ?_⟩)
  have h48 : sat g w46 [Sl 93 6 (some ⟨r45, 0, none⟩) 0 0 (fl eE []), Zs s21 n (giveA S.A d1.toNat d2), Cl b [pV s21, .slice p22 (((allE S.E).length)) c23, .slice p24 S.R.length c25] 78, Sl 93 6 p22 (((allE S.E).length)) c23 (fl eE (allE S.E)), Sl 54 8 p24 S.R.length c25 (fl eRs S.R), Cl r10 [iV d0, iV d1, uV d2] 25, R] := sl_of_cl h47 rfl (by omega)
  refine actG ?_
  refine an_append_gv (d := 47) (sz := 6) (s := (Operand.tmp 40)) (x := (Operand.tmp 46)) (z := .agg #[iV 0, iV 0, uV 0, iV 0, iV 0, uV 0]) (p := (some ⟨r45, 0, none⟩)) (p2 := p22) (m := 0) (c := 0) (k := i14) (c2 := c23) (by_ := 48) (by kernel_rfl) (by kernel_rfl) rfl Tryz.underlying75 (by kernel_rfl) rfl (by decide) (by kernel_rfl) (by kernel_rfl) h48 3 rfl (fl eE ((allE S.E).take i14)) (gv_list eE_ok (gv_sl _ _ _) (by omega)) (by rw [fl_len eE_ok, show (((allE S.E).take i14)).length = i14 from (by rw [List.length_take]; omega)]) (fl_one eE_ok _) (by omega) (by omega) i14 (by omega) ?_
  intro p49 cap50 w51 h52
  have h53 : sat g w51 [Sl 93 6 p49 i14 cap50 (fl eE ((allE S.E).take i14)), Zs s21 n (giveA S.A d1.toNat d2), Cl b [pV s21, .slice p22 (((allE S.E).length)) c23, .slice p24 S.R.length c25] 78, Sl 93 6 p22 (((allE S.E).length)) c23 (fl eE (allE S.E)), Sl 54 8 p24 S.R.length c25 (fl eRs S.R), Cl r10 [iV d0, iV d1, uV d2] 25, R] := sat_imp h52 (fun _ hh => by exact hh)
  obtain ⟨hn54, hn55⟩ := sl_le h53
  refine ⟨kd [rd 0 12 2 1 1 h53], nxG ?_⟩
  refine actG ?_
  refine an_append_gv (d := 55) (sz := 6) (s := (Operand.tmp 47)) (x := (Operand.tmp 54)) (z := .agg #[iV 0, iV 0, uV 0, iV 0, iV 0, uV 0]) (p := p49) (p2 := q43) (m := i14) (c := cap50) (k := (((allE S.E).length) - i14 - 1)) (c2 := (c23 - i14 - 1)) (by_ := 48) (by kernel_rfl) (by kernel_rfl) rfl Tryz.underlying75 (by kernel_rfl) rfl (by decide) (by kernel_rfl) (by kernel_rfl) h53 3 rfl (fl eE ((allE S.E).drop (i14 + 1))) (gv_from eE_ok (gv_sl _ _ _) rfl (by omega) (by omega) hq44) (by rw [fl_len eE_ok, show (((allE S.E).drop (i14 + 1))).length = ((allE S.E).length) - i14 - 1 from (List.length_drop)]) (fl_one eE_ok _) (by omega) (by omega) (((allE S.E).length) - 1) (by omega) ?_
  intro p56 cap57 w58 h59
  have h60 : sat g w58 [Sl 93 6 p56 (((allE S.E).length) - 1) cap57 (fl eE (((allE S.E).take i14) ++ ((allE S.E).drop (i14 + 1)))), Zs s21 n (giveA S.A d1.toNat d2), Cl b [pV s21, .slice p22 (((allE S.E).length)) c23, .slice p24 S.R.length c25] 78, Sl 93 6 p22 (((allE S.E).length)) c23 (fl eE (allE S.E)), Sl 54 8 p24 S.R.length c25 (fl eRs S.R), Cl r10 [iV d0, iV d1, uV d2] 25, R] := sat_imp h59 (fun _ hh => by rw [fl_app]; exact hh)
  obtain ⟨hn61, hn62⟩ := sl_le h60
  refine ⟨kd [], nxG ?_⟩
  have h63 := tk7 (sf6 (sf5 (sf5 (sf6 (sf6 (sf6 (sf6 h60)))))))
  refine go [] <| sG [(1, .slice p56 (((allE S.E).length) - 1) cap57)] [pV s21, .slice p56 (((allE S.E).length) - 1) cap57, .slice p24 S.R.length c25] h63 fun w64 h65 => ⟨kd [], ?_⟩
  have h67 : sat g w64 [Sl 93 6 p56 (((allE S.E).length) - 1) cap57 (fl eE (allE (gdel S.E d1))), Cl b [pV s21, .slice p56 (((allE S.E).length) - 1) cap57, .slice p24 S.R.length c25] 78, Zs s21 n (giveA S.A d1.toNat d2), Sl 93 6 p22 (((allE S.E).length)) c23 (fl eE (allE S.E)), Sl 54 8 p24 S.R.length c25 (fl eRs S.R), Cl r10 [iV d0, iV d1, uV d2] 25, R] := sat_imp (tk7 (sf6 (sf5 (sf6 (sf6 (sf6 (sf6 (sf6 h65)))))))) (fun _ hh_ => by rw [show ((((allE S.E).take i14) ++ ((allE S.E).drop (i14 + 1))) : List Ety) = (allE (gdel S.E d1)) from (del_allk (wf_kyd hW) hW.nd hs3_ hs2_ hs4_ (hi15 rfl))] at hh_; exact hh_)
  have hl68 := fl_n eE_ok (by decide) h67
  have h70 : sat g w64 [Zr b n (giveA S.A d1.toNat d2) (allE (gdel S.E d1)) S.R, Sl 93 6 p22 (((allE S.E).length)) c23 (fl eE (allE S.E)), Cl r10 [iV d0, iV d1, uV d2] 25, R] := zr_close (by omega) (by rw [hl68]) (by first | rfl | (simp only [List.length_append, List.length_take, List.length_drop, List.length_cons, List.length_nil]; omega) | simp only [List.length_append, List.length_take, List.length_drop, List.length_cons, List.length_nil]) (tk7 (sf6 (sf6 (sf4 (sf6 (sf5 (sf6 (sf6 h67))))))))
  have h71 : sat g w64 [Zr b n ((dropS S (d0, d1, d2)).A) (allE (dropS S (d0, d1, d2)).E) ((dropS S (d0, d1, d2)).R), Sl 93 6 p22 (((allE S.E).length)) c23 (fl eE (allE S.E)), Cl r10 [iV d0, iV d1, uV d2] 25, R] := h70
  refine go [] <| cP Tryz.call48 (zdsc_ht b n (dropS S (d0, d1, d2)) (wf_drop hW hs4_ hs5_) ((fndX S (d0, d1, d2)).num)) h71 ?_
  rintro v K w74 (⟨p72, c73, rfl, rfl⟩) h75
  have h76 := ap2 h75
  refine go [.s 8 3] ?_
  by_cases c77 : (((descs (dropS S (d0, d1, d2)).E ((fndX S (d0, d1, d2)).num)).length : Nat) : Int) = 0
  ·
   refine go [.v 8 3 (eT ((((descs (dropS S (d0, d1, d2)).E ((fndX S (d0, d1, d2)).num)).length : Nat) : Int)) 0)] ?_
   exact en (.tuple #[iV ((fndX S (d0, d1, d2)).num), .bool true, iV 0]) [] ⟨_, [Zr b n ((dropS S (d0, d1, d2)).A) (allE (dropS S (d0, d1, d2)).E) ((dropS S (d0, d1, d2)).R)], rfl, ⟨by rw [show fndE S (d0, d1, d2) = 0 from by omega, show clsL S (d0, d1, d2) = true from decide_eq_true (by omega)], by rw [show clsS S (d0, d1, d2) = dropS S (d0, d1, d2) from if_pos (by omega)]⟩, (tk2 (sf1 (sf4 h76)))⟩
  refine go [.v 8 3 (eF ((((descs (dropS S (d0, d1, d2)).E ((fndX S (d0, d1, d2)).num)).length : Nat) : Int)) 0)] ?_
  exact en (.tuple #[iV ((fndX S (d0, d1, d2)).num), .bool false, iV 0]) [] ⟨_, [Zr b n ((dropS S (d0, d1, d2)).A) (allE (dropS S (d0, d1, d2)).E) ((dropS S (d0, d1, d2)).R)], rfl, ⟨by rw [show fndE S (d0, d1, d2) = 0 from by omega, show clsL S (d0, d1, d2) = false from decide_eq_false (by omega)], by rw [show clsS S (d0, d1, d2) = dropS S (d0, d1, d2) from if_pos (by omega)]⟩, (tk2 (sf1 (sf4 h76)))⟩
 refine cP Tryz.call44 (wfind_ht b n S hW d0 d1 d2 (by omega)) (tk3 (sf2 (sf1 (sf2 h12)))) ?_
 rintro v K w83 (⟨i80, hi81, rfl, rfl⟩) h84
 have h85 := ap1 h84
 refine go [.v 2 1 (nT ((fndE S (d0, d1, d2))) 0)] ?_
 exact en (.tuple #[iV 0, .bool false, iV ((fndE S (d0, d1, d2)))]) [] ⟨_, [Zr b n S.A (allE S.E) S.R], rfl, ⟨by rw [show fndX S (d0, d1, d2) = noE from if_neg (by omega), (cls_bad (S := S) (d := (d0, d1, d2)) rfl (by omega)).2]; rfl, by rw [(cls_bad (S := S) (d := (d0, d1, d2)) rfl (by omega)).1]⟩, (tk2 (sf1 (sf2 h85)))⟩

end Go.Proofs.YtjjpmehiolejgaaGreat

/- Walks, printed by my generator z11.py. -/
namespace Go.Proofs.YtjjpmehiolejgaaGreat
theorem qz11e36_eql_t {n : Nat} {l : Fr} {o : Oper} {x y : Operand} (a0 : Int) (a1 : Int) (a2 : Int) (c0 : Int) (c1 : Int) (c2 : Int) (ho : o.op = .binOp .eql 36 x y 36) (hx : fe n l x = .agg #[.int .i64 a0, .int .i64 a1, .int .u32 a2]) (hy : fe n l y = .agg #[.int .i64 c0, .int .i64 c1, .int .u32 c2]) (h : a0 = c0 ∧ a1 = c1 ∧ a2 = c2) (w : World) : (execOp (fe n l) o).run Tryz.prog w = .ok (.value (.bool true)) w := by
  obtain ⟨rfl, rfl, rfl⟩ := h
  simp [execOp, ho, hx, hy, go_sem]
theorem qz11e36_eql_f {n : Nat} {l : Fr} {o : Oper} {x y : Operand} (a0 : Int) (a1 : Int) (a2 : Int) (c0 : Int) (c1 : Int) (c2 : Int) (ho : o.op = .binOp .eql 36 x y 36) (hx : fe n l x = .agg #[.int .i64 a0, .int .i64 a1, .int .u32 a2]) (hy : fe n l y = .agg #[.int .i64 c0, .int .i64 c1, .int .u32 c2]) (h : ¬ (a0 = c0 ∧ a1 = c1 ∧ a2 = c2)) (w : World) : (execOp (fe n l) o).run Tryz.prog w = .ok (.value (.bool false)) w := by
  by_cases h0 : a0 = c0
  · skip
    by_cases h1 : a1 = c1
    · skip
      by_cases h2 : a2 = c2
      · exact absurd ⟨h0, h1, h2⟩ h
      · simp [execOp, ho, hx, hy, go_sem, h0, h1, h2]
    · simp [execOp, ho, hx, hy, go_sem, h0, h1]
  · simp [execOp, ho, hx, hy, go_sem, h0]
theorem newE_good {x y z : Int} {L : List UInt8} (h : 1 ≤ x ∧ x ≤ 3 ∧ 0 ≤ y ∧ y ≤ 63 ∧ 1 ≤ z) : newE (x, y, z) L = tagE L := if_pos ⟨h, .inl ⟨rfl, rfl, rfl, rfl⟩⟩
theorem newE_no {x y z : Int} {L : List UInt8} (h : ¬ (1 ≤ x ∧ x ≤ 3 ∧ 0 ≤ y ∧ y ≤ 63 ∧ 1 ≤ z)) : newE (x, y, z) L = 2 := if_neg fun q => h q.1
set_option maxHeartbeats 4000000 in
theorem zopn_nil (x y z : Int) (L : List UInt8) (u0 u1 : Int) : HT Tryz.prog 9 [Value.pointer none, Value.agg #[Value.int IntKind.i64 x, Value.int IntKind.i64 y, Value.int IntKind.u32 z], Value.string (St L), Value.agg #[Value.int IntKind.i64 u0, Value.int IntKind.u32 u1]] [] (fun v K => v = Value.tuple #[Value.agg #[Value.int IntKind.i64 0, Value.int IntKind.i64 0, Value.int IntKind.u32 0], Value.int IntKind.i64 1] ∧ K = []) := by
 refine hiS Tryz.func9 Tryz.ntmps9 fun g w0 R h0 => go [] <| nP 36 [iV x, iV y, uV z] h0 (fun r10 w11 h12 => ?_)
 refine nP 38 [iV u0, uV u1] h12 (fun r13 w14 h15 => ?_)
 refine nP 25 [iV 0, iV 0, uV 0] h15 (fun r16 w17 h18 => ?_)
 refine go [] <| cl0 Tryz.call37 (rvalid_nil) h18 fun w19 h20 => go [] <| sP [(0, iV 0), (1, iV 0), (2, uV 0)] [iV 0, iV 0, uV 0] h20 fun w21 h22 => go [] ?_
 exact en (.tuple #[.agg #[iV 0, iV 0, uV 0], iV 1]) [rd 0 0 0 0 3 h22] ⟨_, _, rfl, ⟨rfl, rfl⟩, (tk1 (sf3 h22))⟩

set_option maxHeartbeats 4000000 in
theorem zopn_ht (b n : Nat) (S : Ts) (hW : Wf n S) (x y z : Int) (L : List UInt8) (u0 u1 : Int) (hz0 : 0 ≤ z) (hz1 : z ≤ 4294967295) (hm : L.length ≤ 100000) (hu : 0 ≤ u1) : HT Tryz.prog 9 [Value.pointer (some ⟨b, 0, none⟩), Value.agg #[Value.int IntKind.i64 x, Value.int IntKind.i64 y, Value.int IntKind.u32 z], Value.string (St L), Value.agg #[Value.int IntKind.i64 u0, Value.int IntKind.u32 u1]] [Zr b n S.A (allE S.E) S.R] (fun v K => v = Value.tuple #[Value.agg #[Value.int IntKind.i64 ((opnD S (x, y, z) L (u0, u1)).1), Value.int IntKind.i64 ((opnD S (x, y, z) L (u0, u1)).2.1), Value.int IntKind.u32 ((opnD S (x, y, z) L (u0, u1)).2.2)], Value.int IntKind.i64 ((opnE S (x, y, z) L (u0, u1)))] ∧ K = [Zr b n ((opnS S (x, y, z) L (u0, u1)).A) (allE (opnS S (x, y, z) L (u0, u1)).E) ((opnS S (x, y, z) L (u0, u1)).R)]) := by
 refine hiS Tryz.func9 Tryz.ntmps9 fun g w0 R h0 => go [] <| nP 36 [iV x, iV y, uV z] h0 (fun r10 w11 h12 => ?_)
 refine nP 38 [iV u0, uV u1] h12 (fun r13 w14 h15 => ?_)
 refine nP 25 [iV 0, iV 0, uV 0] h15 (fun r16 w17 h18 => ?_)
 obtain ⟨s20, p21, c22, p23, c24, hq25, h26⟩ := zr_open (tk5 (sf4 (sf3 (sf3 (sf3 (sf4 h18))))))
 have hb27 := hq25.1
 have hb28 := hq25.2
 refine go [] <| cl1 Tryz.call37 (rvalid_cl b s20 p21 (((allE S.E).length)) c22 p23 S.R.length c24) h26 fun w29 h30 => go [rd 3 0 6 0 3 h30] ?_
 by_cases c31 : 1 ≤ x
 ·
  by_cases c32 : x ≤ 3
  ·
   by_cases c33 : 0 ≤ y
   ·
    by_cases c34 : y ≤ 63
    ·
     by_cases c35 : 1 ≤ z
     ·
      by_cases c36 : (tagE L) = 0
      ·
       refine cl0 Tryz.call38 (zrn_ok x y z L (by omega) (by omega) (by omega) (by omega) (by omega)) h30 fun w37 h38 => go [] <| nP 54 [iV 0, iV 0, uV 0, iV 0, iV 0, iV 0, iV 0, .string (St [])] h38 (fun r39 w40 h41 => ?_)
       refine sP [(0, iV x), (1, iV y), (2, uV z), (3, iV 1), (4, iV 0), (5, iV 0), (6, iV 0), (7, .string (St L))] [iV x, iV y, uV z, iV 1, iV 0, iV 0, iV 0, .string (St L)] h41 fun w42 h43 => go [rd 6 0 6 0 2 h43] ?_
       by_cases c44 : 0 ≤ u0
       ·
        by_cases c45 : u0 ≤ 255
        ·
         by_cases c46 : 1 ≤ u1
         ·
          refine cl0 Tryz.call39 (zobj_t u0 u1 (by omega)) h43 fun w47 h48 => go [] ?_
          refine lpS (fun mz_ a w => ∃ k : Nat, ∃ lr : Fr, mz_ = S.R.length - k ∧ (k ≤ S.R.length) ∧ ((S.R.take k).any (fun r => decide (r.out = (x, y, z))) = false) ∧ a = mk 90 (([(0, pV b), (5, pV r10), (7, pV r13), (8, pV r16), (10, pV r39), (12, iV (k : Int))] : Fr) ++ lr) ∧ sat g w [Cl r39 [iV x, iV y, uV z, iV 1, iV 0, iV 0, iV 0, .string (St L)] 54, Cl b [pV s20, .slice p21 (((allE S.E).length)) c22, .slice p23 S.R.length c24] 78, Zs s20 n S.A, Sl 93 6 p21 (((allE S.E).length)) c22 (fl eE (allE S.E)), Sl 54 8 p23 S.R.length c24 (fl eRs S.R), Cl r16 [iV 0, iV 0, uV 0] 25, Cl r13 [iV u0, uV u1] 38, Cl r10 [iV x, iV y, uV z] 36, R]) (S.R.length - 0) ⟨0, _, rfl, (by omega), rfl, (lvF [.k 0 (pV b), .k 5 (pV r10), .k 7 (pV r13), .k 8 (pV r16), .k 10 (pV r39), .o 12 (oJ .i64 0 (0 : Int))]), h48⟩ ?_
          rintro m50 a51 w52 ⟨k, lr49, rfl, hk_, hb_, rfl, h53⟩
          refine ga <| go [rd 9 4 1 2 1 h53, .s 9 6] ?_
          by_cases c54 : (k : Int) < ((S.R.length : Nat) : Int)
          ·
           refine go [.v 9 6 (oT ((k : Int) < ((S.R.length : Nat) : Int)))] <| dw (fls [0, 1, 2, 3, 4, 5, 6, 7, 8, 9] Tr.nil) h53 fun w55 h56 => ?_
           obtain ⟨b57, hp58⟩ := sl_ptr0 (j := 4) h56 rfl (by omega)
           refine go [rd 11 3 1 2 1 h56, .s 11 5] <| lw (.pointer (some ⟨b57, k * 8, none⟩)) (fun _ => law_indexSlP (x := (Operand.tmp 43)) (i := (Operand.tmp 44)) (p := p23) (b := b57) (off := 0) (z := (k : Int)) (len := S.R.length) (cap := c24) (by kernel_rfl) Tryz.underlying76 8 (by kernel_rfl) k (by kernel_rfl) hp58 (by kernel_rfl) (by omega) (by omega) (k * 8) (by omega) _) ?_
           obtain ⟨x59, hx60⟩ : ∃ x, S.R[k]? = some x := ⟨_, List.getElem?_eq_getElem (by omega)⟩
           refine go [.r 11 7 b57 (k * 8) [iV x59.out.1, iV x59.out.2.1, uV x59.out.2.2] ⟨gv_cell (j := 4) h56 rfl (gv_sl _ _ _) hp58 (fl_get eRs_ok (j := 0) (v := iV x59.out.1) hx60 rfl) (k * 8) (by omega), gv_cell (j := 4) h56 rfl (gv_sl _ _ _) hp58 (fl_get eRs_ok (j := 1) (v := iV x59.out.2.1) hx60 rfl) (k * 8 + 1) (by omega), gv_cell (j := 4) h56 rfl (gv_sl _ _ _) hp58 (fl_get eRs_ok (j := 2) (v := uV x59.out.2.2) hx60 rfl) (k * 8 + 2) (by omega), trivial⟩, rd 11 8 7 0 3 h56, .s 11 9] ?_
           by_cases c61 : x59.out.1 = x
           ·
            by_cases c62 : x59.out.2.1 = y
            ·
             by_cases c63 : x59.out.2.2 = z
             ·
              refine lw (.bool true) (fun _ => qz11e36_eql_t (x := (Operand.tmp 47)) (y := (Operand.tmp 48)) x59.out.1 x59.out.2.1 x59.out.2.2 x y z (by kernel_rfl) (by kernel_rfl) (by kernel_rfl) ⟨(by omega), (by omega), (by omega)⟩ _) ?_
              have h64 := tk9 (sf8 (sf7 (sf7 (sf7 (sf7 (sf7 (sf8 (sf8 (sf8 h56)))))))))
              refine go [] <| sP [(0, iV 0), (1, iV 0), (2, uV 0)] [iV 0, iV 0, uV 0] h64 fun w65 h66 => go [] <| up <| go [] ?_
              have h68 : sat g w65 [Zr b n S.A (allE S.E) S.R, Cl r16 [iV 0, iV 0, uV 0] 25, Cl r39 [iV x, iV y, uV z, iV 1, iV 0, iV 0, iV 0, .string (St L)] 54, Cl r13 [iV u0, uV u1] 38, Cl r10 [iV x, iV y, uV z] 36, R] := zr_close (by first | omega | (simp only [List.length_append, List.length_take, List.length_drop, List.length_cons, List.length_nil]; omega)) (by first | rfl | (simp only [List.length_append, List.length_take, List.length_drop, List.length_cons, List.length_nil]; omega) | simp only [List.length_append, List.length_take, List.length_drop, List.length_cons, List.length_nil]) (by first | rfl | (simp only [List.length_append, List.length_take, List.length_drop, List.length_cons, List.length_nil]; omega) | simp only [List.length_append, List.length_take, List.length_drop, List.length_cons, List.length_nil]) (tk9 (sf8 (sf8 (sf8 (sf8 (sf4 (sf4 (sf8 (sf8 (sf8 h66))))))))))
              have hN_ : newE (x, y, z) L = 0 := (newE_good (by omega)).trans (show tagE L = 0 from by omega)
              have hO_ : hasO S.R (x, y, z) := of_decide_eq_true ((hasP_eq S.R (x, y, z)).symm.trans (any_hit hx60 (decide_eq_true (ky_eq (by omega)))))
              exact en (.tuple #[.agg #[iV 0, iV 0, uV 0], iV 6]) [rd 0 0 0 0 3 h66] ⟨_, [Zr b n S.A (allE S.E) S.R], rfl, ⟨by rw [show opnE S (x, y, z) L (u0, u1) = 6 from (by unfold opnE; rw [if_neg (fun h_ => h_ hN_), if_neg (fun h_ => h_ (show objH (u0, u1) from by unfold objH; simp only; omega)), if_pos (.inl hO_)]), (opn_bad (show opnE S (x, y, z) L (u0, u1) = 6 from (by unfold opnE; rw [if_neg (fun h_ => h_ hN_), if_neg (fun h_ => h_ (show objH (u0, u1) from by unfold objH; simp only; omega)), if_pos (.inl hO_)])) (by decide)).2] <;> rfl, by rw [(opn_bad (show opnE S (x, y, z) L (u0, u1) = 6 from (by unfold opnE; rw [if_neg (fun h_ => h_ hN_), if_neg (fun h_ => h_ (show objH (u0, u1) from by unfold objH; simp only; omega)), if_pos (.inl hO_)])) (by decide)).1]⟩, (tk2 (sf1 (sf5 h68)))⟩
             refine lw (.bool false) (fun _ => qz11e36_eql_f (x := (Operand.tmp 47)) (y := (Operand.tmp 48)) x59.out.1 x59.out.2.1 x59.out.2.2 x y z (by kernel_rfl) (by kernel_rfl) (by kernel_rfl) (by omega) _) <| go [.v 10 1 (oIr ((k : Int) + 1))] ?_
             refine enL ?_
             change ∃ n', n' < _ ∧ _
             refine ⟨(S.R.length - (k + 1)), by omega, (k + 1), _, rfl, (by omega), (any_step hb_ hx60 (decide_eq_false fun he_ => by have h_ := ky_of he_; omega)), (lvF [.k 0 (pV b), .k 5 (pV r10), .k 7 (pV r13), .k 8 (pV r16), .k 10 (pV r39), .o 12 (oJ .i64 ((k : Int) + 1) ((((k + 1) : Nat) : Int)))]), h56⟩
            refine lw (.bool false) (fun _ => qz11e36_eql_f (x := (Operand.tmp 47)) (y := (Operand.tmp 48)) x59.out.1 x59.out.2.1 x59.out.2.2 x y z (by kernel_rfl) (by kernel_rfl) (by kernel_rfl) (by omega) _) <| go [.v 10 1 (oIr ((k : Int) + 1))] ?_
            refine enL ?_
            change ∃ n', n' < _ ∧ _
            refine ⟨(S.R.length - (k + 1)), by omega, (k + 1), _, rfl, (by omega), (any_step hb_ hx60 (decide_eq_false fun he_ => by have h_ := ky_of he_; omega)), (lvF [.k 0 (pV b), .k 5 (pV r10), .k 7 (pV r13), .k 8 (pV r16), .k 10 (pV r39), .o 12 (oJ .i64 ((k : Int) + 1) ((((k + 1) : Nat) : Int)))]), h56⟩
           refine lw (.bool false) (fun _ => qz11e36_eql_f (x := (Operand.tmp 47)) (y := (Operand.tmp 48)) x59.out.1 x59.out.2.1 x59.out.2.2 x y z (by kernel_rfl) (by kernel_rfl) (by kernel_rfl) (by omega) _) <| go [.v 10 1 (oIr ((k : Int) + 1))] ?_
           refine enL ?_
           change ∃ n', n' < _ ∧ _
           refine ⟨(S.R.length - (k + 1)), by omega, (k + 1), _, rfl, (by omega), (any_step hb_ hx60 (decide_eq_false fun he_ => by have h_ := ky_of he_; omega)), (lvF [.k 0 (pV b), .k 5 (pV r10), .k 7 (pV r13), .k 8 (pV r16), .k 10 (pV r39), .o 12 (oJ .i64 ((k : Int) + 1) ((((k + 1) : Nat) : Int)))]), h56⟩
          refine go [.v 9 6 (oF ((k : Int) < ((S.R.length : Nat) : Int)))] <| up ?_
          have h71 : sat g w52 [Zr b n S.A (allE S.E) S.R, Cl r39 [iV x, iV y, uV z, iV 1, iV 0, iV 0, iV 0, .string (St L)] 54, Cl r16 [iV 0, iV 0, uV 0] 25, Cl r13 [iV u0, uV u1] 38, Cl r10 [iV x, iV y, uV z] 36, R] := zr_close (by first | omega | (simp only [List.length_append, List.length_take, List.length_drop, List.length_cons, List.length_nil]; omega)) (by first | rfl | (simp only [List.length_append, List.length_take, List.length_drop, List.length_cons, List.length_nil]; omega) | simp only [List.length_append, List.length_take, List.length_drop, List.length_cons, List.length_nil]) (by first | rfl | (simp only [List.length_append, List.length_take, List.length_drop, List.length_cons, List.length_nil]; omega) | simp only [List.length_append, List.length_take, List.length_drop, List.length_cons, List.length_nil]) (tk9 (sf8 (sf8 (sf8 (sf8 (sf4 (sf8 (sf8 (sf8 (sf8 h53))))))))))
          refine go [rd 13 1 6 0 2 h53] ?_
          rcases Bool.eq_false_or_eq_true (hasX (allE S.E) (u0, u1)) with cb72 | cb72
          ·
           refine cl1 Tryz.call40 ((by have h_ := zhas_ht b n S.A (allE S.E) S.R u0 u1; rw [cb72] at h_; exact h_)) h71 fun w73 h74 => ?_
           have h75 := tk6 (sf5 (sf4 (sf4 (sf5 (sf5 (sf5 h74))))))
           refine go [] <| sP [(0, iV 0), (1, iV 0), (2, uV 0)] [iV 0, iV 0, uV 0] h75 fun w76 h77 => go [] ?_
           have hN_ : newE (x, y, z) L = 0 := (newE_good (by omega)).trans (show tagE L = 0 from by omega)
           have hH_ : hasH S.E (u0, u1) := of_decide_eq_true ((hasX_eq S.E (u0, u1)).symm.trans cb72)
           exact en (.tuple #[.agg #[iV 0, iV 0, uV 0], iV 6]) [rd 0 0 0 0 3 h77] ⟨_, [Zr b n S.A (allE S.E) S.R], rfl, ⟨by rw [show opnE S (x, y, z) L (u0, u1) = 6 from (by unfold opnE; rw [if_neg (fun h_ => h_ hN_), if_neg (fun h_ => h_ (show objH (u0, u1) from by unfold objH; simp only; omega)), if_pos (.inr hH_)]), (opn_bad (show opnE S (x, y, z) L (u0, u1) = 6 from (by unfold opnE; rw [if_neg (fun h_ => h_ hN_), if_neg (fun h_ => h_ (show objH (u0, u1) from by unfold objH; simp only; omega)), if_pos (.inr hH_)])) (by decide)).2] <;> rfl, by rw [(opn_bad (show opnE S (x, y, z) L (u0, u1) = 6 from (by unfold opnE; rw [if_neg (fun h_ => h_ hN_), if_neg (fun h_ => h_ (show objH (u0, u1) from by unfold objH; simp only; omega)), if_pos (.inr hH_)])) (by decide)).1]⟩, (tk2 (sf1 (sf5 (tk6 (sf5 (sf4 (sf5 (sf5 (sf5 (sf5 h77))))))))))⟩
          refine cl1 Tryz.call40 ((by have h_ := zhas_ht b n S.A (allE S.E) S.R u0 u1; rw [cb72] at h_; exact h_)) h71 fun w80 h81 => ?_
          obtain ⟨s82, p83, c84, p85, c86, hq87, h88⟩ := zr_open h81
          have hb89 := hq87.1
          have hb90 := hq87.2
          refine go [rd 15 3 0 2 1 h88, .s 15 5] ?_
          by_cases c91 : ((S.R.length : Nat) : Int) ≥ 2000
          ·
           have h92 := tk9 (sf8 (sf7 (sf7 (sf7 (sf7 (sf7 (sf8 (sf8 (sf8 h88)))))))))
           refine go [.v 15 5 (oT (((S.R.length : Nat) : Int) ≥ 2000))] <| sP [(0, iV 0), (1, iV 0), (2, uV 0)] [iV 0, iV 0, uV 0] h92 fun w93 h94 => go [] ?_
           have h96 : sat g w93 [Zr b n S.A (allE S.E) S.R, Cl r16 [iV 0, iV 0, uV 0] 25, Cl r39 [iV x, iV y, uV z, iV 1, iV 0, iV 0, iV 0, .string (St L)] 54, Cl r13 [iV u0, uV u1] 38, Cl r10 [iV x, iV y, uV z] 36, R] := zr_close (by first | omega | (simp only [List.length_append, List.length_take, List.length_drop, List.length_cons, List.length_nil]; omega)) (by first | rfl | (simp only [List.length_append, List.length_take, List.length_drop, List.length_cons, List.length_nil]; omega) | simp only [List.length_append, List.length_take, List.length_drop, List.length_cons, List.length_nil]) (by first | rfl | (simp only [List.length_append, List.length_take, List.length_drop, List.length_cons, List.length_nil]; omega) | simp only [List.length_append, List.length_take, List.length_drop, List.length_cons, List.length_nil]) (tk9 (sf8 (sf8 (sf8 (sf8 (sf4 (sf8 (sf8 (sf8 (sf8 h94))))))))))
           have hN_ : newE (x, y, z) L = 0 := (newE_good (by omega)).trans (show tagE L = 0 from by omega)
           have hH_ : ¬ hasH S.E (u0, u1) := of_decide_eq_false ((hasX_eq S.E (u0, u1)).symm.trans cb72)
           have hO_ : ¬ hasO S.R (x, y, z) := of_decide_eq_false ((hasP_eq S.R (x, y, z)).symm.trans (any_end hb_ (by omega)))
           exact en (.tuple #[.agg #[iV 0, iV 0, uV 0], iV 4]) [rd 0 0 0 0 3 h94] ⟨_, [Zr b n S.A (allE S.E) S.R], rfl, ⟨by rw [show opnE S (x, y, z) L (u0, u1) = 4 from (by unfold opnE; rw [if_neg (fun h_ => h_ hN_), if_neg (fun h_ => h_ (show objH (u0, u1) from by unfold objH; simp only; omega)), if_neg (not_or.2 ⟨hO_, hH_⟩), if_pos (.inl (by omega))]), (opn_bad (show opnE S (x, y, z) L (u0, u1) = 4 from (by unfold opnE; rw [if_neg (fun h_ => h_ hN_), if_neg (fun h_ => h_ (show objH (u0, u1) from by unfold objH; simp only; omega)), if_neg (not_or.2 ⟨hO_, hH_⟩), if_pos (.inl (by omega))])) (by decide)).2] <;> rfl, by rw [(opn_bad (show opnE S (x, y, z) L (u0, u1) = 4 from (by unfold opnE; rw [if_neg (fun h_ => h_ hN_), if_neg (fun h_ => h_ (show objH (u0, u1) from by unfold objH; simp only; omega)), if_neg (not_or.2 ⟨hO_, hH_⟩), if_pos (.inl (by omega))])) (by decide)).1]⟩, (tk2 (sf1 (sf5 h96)))⟩
          have h98 := tk9 (sf8 (sf7 (sf8 (sf8 (sf8 (sf8 (sf8 (sf8 (sf8 h88)))))))))
          refine go [.v 15 5 (oF (((S.R.length : Nat) : Int) ≥ 2000)), rd 15 10 0 0 1 h88] <| cl1 Tryz.call41 (zfree_ht s82 n S.A) h98 fun w99 h100 => ?_
          by_cases c101 : (((inS 0 S.A 0).length : Nat) : Int) = 0
          ·
           have h102 := tk9 (sf8 (sf7 (sf7 (sf7 (sf7 (sf7 (sf8 (sf8 (sf8 h100)))))))))
           refine go [.v 15 12 (eT ((((inS 0 S.A 0).length : Nat) : Int)) 0)] <| sP [(0, iV 0), (1, iV 0), (2, uV 0)] [iV 0, iV 0, uV 0] h102 fun w103 h104 => go [] ?_
           have h106 : sat g w103 [Zr b n S.A (allE S.E) S.R, Cl r16 [iV 0, iV 0, uV 0] 25, Cl r39 [iV x, iV y, uV z, iV 1, iV 0, iV 0, iV 0, .string (St L)] 54, Cl r13 [iV u0, uV u1] 38, Cl r10 [iV x, iV y, uV z] 36, R] := zr_close (by first | omega | (simp only [List.length_append, List.length_take, List.length_drop, List.length_cons, List.length_nil]; omega)) (by first | rfl | (simp only [List.length_append, List.length_take, List.length_drop, List.length_cons, List.length_nil]; omega) | simp only [List.length_append, List.length_take, List.length_drop, List.length_cons, List.length_nil]) (by first | rfl | (simp only [List.length_append, List.length_take, List.length_drop, List.length_cons, List.length_nil]; omega) | simp only [List.length_append, List.length_take, List.length_drop, List.length_cons, List.length_nil]) (tk9 (sf8 (sf7 (sf8 (sf8 (sf4 (sf8 (sf8 (sf8 (sf8 h104))))))))))
           have hN_ : newE (x, y, z) L = 0 := (newE_good (by omega)).trans (show tagE L = 0 from by omega)
           have hH_ : ¬ hasH S.E (u0, u1) := of_decide_eq_false ((hasX_eq S.E (u0, u1)).symm.trans cb72)
           have hO_ : ¬ hasO S.R (x, y, z) := of_decide_eq_false ((hasP_eq S.R (x, y, z)).symm.trans (any_end hb_ (by omega)))
           exact en (.tuple #[.agg #[iV 0, iV 0, uV 0], iV 4]) [rd 0 0 0 0 3 h104] ⟨_, [Zr b n S.A (allE S.E) S.R], rfl, ⟨by rw [show opnE S (x, y, z) L (u0, u1) = 4 from (by unfold opnE; rw [if_neg (fun h_ => h_ hN_), if_neg (fun h_ => h_ (show objH (u0, u1) from by unfold objH; simp only; omega)), if_neg (not_or.2 ⟨hO_, hH_⟩), if_pos (.inr (freeS_none.2 (by omega)))]), (opn_bad (show opnE S (x, y, z) L (u0, u1) = 4 from (by unfold opnE; rw [if_neg (fun h_ => h_ hN_), if_neg (fun h_ => h_ (show objH (u0, u1) from by unfold objH; simp only; omega)), if_neg (not_or.2 ⟨hO_, hH_⟩), if_pos (.inr (freeS_none.2 (by omega)))])) (by decide)).2] <;> rfl, by rw [(opn_bad (show opnE S (x, y, z) L (u0, u1) = 4 from (by unfold opnE; rw [if_neg (fun h_ => h_ hN_), if_neg (fun h_ => h_ (show objH (u0, u1) from by unfold objH; simp only; omega)), if_neg (not_or.2 ⟨hO_, hH_⟩), if_pos (.inr (freeS_none.2 (by omega)))])) (by decide)).1]⟩, (tk2 (sf1 (sf5 h106)))⟩
          refine go [.v 15 12 (eF ((((inS 0 S.A 0).length : Nat) : Int)) 0)] <| dw (fls [0, 2, 3, 4, 5, 7] (Tr.an2 1 (Tr.an2 6 (Tr.an 8 (Tr.an 9 (fls [10, 11] (Tr.an 12 Tr.nil)))) 8 (Tr.an 6 (Tr.an 9 (fls [10, 11] (Tr.an 12 Tr.nil))))) 8 (Tr.an 1 (Tr.an 6 (Tr.an 9 (fls [10, 11] (Tr.an 12 Tr.nil))))))) h100 fun w108 h109 => go [rd 17 5 1 2 1 h109, rd 17 7 4 0 8 h109] ?_
          refine br2 ?_ ?_
          ·
           refine nG (fun q_ => .slice (some ⟨q_, 0, none⟩) 0 0) 54 [] h109 (fun r110 w111 h112 => ⟨kd [rd 0 7 5 0 8 h112, rd 0 5 2 2 1 h112], ?_⟩)
           refine br2 ?_ ?_
           ·
            have h113 : sat g w111 [Sl 54 8 (some ⟨r110, 0, none⟩) 0 0 (fl eRs []), Zs s82 n S.A, Cl b [pV s82, .slice p83 (((allE S.E).length)) c84, .slice p85 S.R.length c86] 78, Sl 93 6 p83 (((allE S.E).length)) c84 (fl eE (allE S.E)), Sl 54 8 p85 S.R.length c86 (fl eRs S.R), Cl r39 [iV x, iV y, uV z, iV 1, iV 0, iV 0, iV 0, .string (St L)] 54, Cl r16 [iV 0, iV 0, uV 0] 25, Cl r13 [iV u0, uV u1] 38, Cl r10 [iV x, iV y, uV z] 36, R] := sl_of_cl h112 rfl (by omega)
            refine actG ?_
            refine an_append_gv (d := 76) (sz := 8) (s := (Operand.tmp 71)) (x := (Operand.tmp 75)) (z := .agg #[iV 0, iV 0, uV 0, iV 0, iV 0, iV 0, iV 0, .string (St [])]) (p := (some ⟨r110, 0, none⟩)) (p2 := p85) (m := 0) (c := 0) (k := S.R.length) (c2 := c86) (by_ := 72) (by kernel_rfl) (by kernel_rfl) rfl Tryz.underlying76 (by kernel_rfl) rfl (by decide) (by kernel_rfl) (by kernel_rfl) h113 4 rfl (fl eRs S.R) (gv_sl _ _ _) (fl_len eRs_ok _) (fl_one eRs_ok _) (by omega) (by omega) S.R.length (by omega) ?_
            intro p114 cap115 w116 h117
            have h118 : sat g w116 [Sl 54 8 p114 S.R.length cap115 (fl eRs S.R), Zs s82 n S.A, Cl b [pV s82, .slice p83 (((allE S.E).length)) c84, .slice p85 S.R.length c86] 78, Sl 93 6 p83 (((allE S.E).length)) c84 (fl eE (allE S.E)), Sl 54 8 p85 S.R.length c86 (fl eRs S.R), Cl r39 [iV x, iV y, uV z, iV 1, iV 0, iV 0, iV 0, .string (St L)] 54, Cl r16 [iV 0, iV 0, uV 0] 25, Cl r13 [iV u0, uV u1] 38, Cl r10 [iV x, iV y, uV z] 36, R] := sat_imp h117 (fun _ hh => by exact hh)
            obtain ⟨hn119, hn120⟩ := sl_le h118
            refine ⟨kd [rd 0 7 5 0 8 h118], nxG ?_⟩
            refine nG (fun q_ => .slice (some ⟨q_, 0, none⟩) 1 1) 54 [iV x, iV y, uV z, iV 1, iV 0, iV 0, iV 0, .string (St L)] h118 (fun r121 w122 h123 => ⟨kd [], ?_⟩)
            have h124 := tk11 (sf10 (sf9 (sf10 (sf10 (sf10 (sf10 (sf10 (sf10 (sf10 (sf10 (sf10 h123)))))))))))
            refine actG ?_
            refine an_append (d := 79) (sz := 8) (s := (Operand.tmp 76)) (x := (Operand.tmp 78)) (z := .agg #[iV 0, iV 0, uV 0, iV 0, iV 0, iV 0, iV 0, .string (St [])]) (p := p114) (m := S.R.length) (c := cap115) (k := 1) (c2 := 1) (a := ⟨r121, 0, none⟩) (by_ := 72) (by kernel_rfl) (by kernel_rfl) rfl Tryz.underlying76 (by kernel_rfl) rfl (by decide) (by kernel_rfl) (by kernel_rfl) h124 (fl eRs [(⟨(x, y, z), 1, 0, 0, 0, L⟩ : Rs)]) rfl (fun j u hj => by rw [add_off]; exact sat_cell h124 1 rfl (by rw [Nat.zero_add]; exact hj)) (fl_one eRs_ok _) (by omega) (by omega) (S.R.length + 1) (by omega) ?_
            intro p125 cap126 w127 h128
            have h129 : sat g w127 [Sl 54 8 p125 (S.R.length + 1) cap126 (fl eRs (S.R ++ [(⟨(x, y, z), 1, 0, 0, 0, L⟩ : Rs)])), Cl r121 [iV x, iV y, uV z, iV 1, iV 0, iV 0, iV 0, .string (St L)] 54, Zs s82 n S.A, Cl b [pV s82, .slice p83 (((allE S.E).length)) c84, .slice p85 S.R.length c86] 78, Sl 93 6 p83 (((allE S.E).length)) c84 (fl eE (allE S.E)), Sl 54 8 p85 S.R.length c86 (fl eRs S.R), Cl r39 [iV x, iV y, uV z, iV 1, iV 0, iV 0, iV 0, .string (St L)] 54, Cl r16 [iV 0, iV 0, uV 0] 25, Cl r13 [iV u0, uV u1] 38, Cl r10 [iV x, iV y, uV z] 36, R] := sat_imp h128 (fun _ hh => by rw [fl_app]; exact hh)
            obtain ⟨hn130, hn131⟩ := sl_le h129
            refine ⟨kd [], nxG ?_⟩
            have h132 := tk11 (sf10 (sf9 (sf9 (sf9 (sf10 (sf10 (sf10 (sf10 (sf10 (sf10 (sf10 h129)))))))))))
            refine go [] <| sG [(2, .slice p125 (S.R.length + 1) cap126)] [pV s82, .slice p83 (((allE S.E).length)) c84, .slice p125 (S.R.length + 1) cap126] h132 fun w133 h134 => ⟨kd [], ?_⟩
            refine go [] <| dw (fls [0, 1, 2, 3, 4, 5, 6] (Tr.an 7 (Tr.an 8 (Tr.fl 9 Tr.nil)))) h134 fun w135 h136 => ?_
            obtain ⟨j137, vg138, hf139⟩ := free_some (A := S.A) (by omega)
            have hr_ := wf_room hW hf139
            have h141 : sat g w135 [Zr b n S.A (allE S.E) (S.R ++ [(⟨(x, y, z), 1, 0, 0, 0, L⟩ : Rs)]), Cl r121 [iV x, iV y, uV z, iV 1, iV 0, iV 0, iV 0, .string (St L)] 54, Sl 54 8 p85 S.R.length c86 (fl eRs S.R), Cl r39 [iV x, iV y, uV z, iV 1, iV 0, iV 0, iV 0, .string (St L)] 54, Cl r16 [iV 0, iV 0, uV 0] 25, Cl r13 [iV u0, uV u1] 38, Cl r10 [iV x, iV y, uV z] 36, R] := zr_close (by first | omega | (simp only [List.length_append, List.length_take, List.length_drop, List.length_cons, List.length_nil]; omega)) (by first | rfl | (simp only [List.length_append, List.length_take, List.length_drop, List.length_cons, List.length_nil]; omega) | simp only [List.length_append, List.length_take, List.length_drop, List.length_cons, List.length_nil]) (by first | rfl | (simp only [List.length_append, List.length_take, List.length_drop, List.length_cons, List.length_nil]; omega) | simp only [List.length_append, List.length_take, List.length_drop, List.length_cons, List.length_nil]) (tk11 (sf10 (sf10 (sf10 (sf8 (sf8 (sf10 (sf10 (sf10 (sf10 (sf10 (sf10 h136))))))))))))
            refine go [rd 18 4 0 2 1 h136, .v 18 5 (oJ .i64 ((S.R.length + 1 : Nat) : Int) (((S.R.length : Nat) : Int) + 1)), rd 18 6 8 0 2 h136] <| cd1 Tryz.call42 (zadd_ht b n S.A (allE S.E) (S.R ++ [(⟨(x, y, z), 1, 0, 0, 0, L⟩ : Rs)]) (((S.R.length : Nat) : Int) + 1) u0 u1 S.R.length ⟨(x, y, z), 1, 0, 0, 0, L⟩ (by simp) (by omega) j137 vg138 hf139 (by omega)) h141 fun w142 h143 => ⟨kd [], ?_⟩
            refine sG [(0, iV x), (1, iV (j137 : Int)), (2, uV vg138)] [iV x, iV (j137 : Int), uV vg138] (tk8 (sf7 (sf6 (sf6 (sf6 (sf6 (sf7 (sf7 (sf7 h143))))))))) fun w145 h146 => ⟨kd [], ?_⟩
            refine go [] ?_
            have hN_ : newE (x, y, z) L = 0 := (newE_good (by omega)).trans (show tagE L = 0 from by omega)
            have hH_ : ¬ hasH S.E (u0, u1) := of_decide_eq_false ((hasX_eq S.E (u0, u1)).symm.trans cb72)
            have hO_ : ¬ hasO S.R (x, y, z) := of_decide_eq_false ((hasP_eq S.R (x, y, z)).symm.trans (any_end hb_ (by omega)))
            have hE_ : opnE S (x, y, z) L (u0, u1) = 0 := by unfold opnE; rw [if_neg (fun h_ => h_ hN_), if_neg (fun h_ => h_ (show objH (u0, u1) from by unfold objH; simp only; omega)), if_neg (not_or.2 ⟨hO_, hH_⟩), if_neg (by rw [hf139]; rintro (h_ | h_) <;> first | omega | cases h_)]
            have hS_ : opnS S (x, y, z) L (u0, u1) = ⟨S.A.set j137 (1, vg138), gset S.E (j137 : Int) ⟨(x, (j137 : Int), vg138), (S.R.length : Int) + 1, (u0, u1)⟩, S.R ++ [⟨(x, y, z), 1, 0, 0, 0, L⟩]⟩ := by unfold opnS; rw [if_pos hE_]; exact (addS_at (S := ⟨S.A, S.E, S.R ++ [⟨(x, y, z), 1, 0, 0, 0, L⟩]⟩) hf139).1
            have hD_ : opnD S (x, y, z) L (u0, u1) = (x, (j137 : Int), vg138) := by unfold opnD; rw [if_pos hE_, (addS_at (num := 0) (h := (0, 0)) hf139).2]
            exact en (.tuple #[.agg #[iV x, iV (j137 : Int), uV vg138], iV 0]) [rd 0 0 0 0 3 h146] ⟨_, [Zr b n (S.A.set j137 (1, vg138)) (insX (allE S.E) j137 ⟨(x, (j137 : Int), vg138), ((S.R.length : Nat) : Int) + 1, (u0, u1)⟩) (S.R ++ [(⟨(x, y, z), 1, 0, 0, 0, L⟩ : Rs)])], rfl, ⟨by rw [hE_, hD_], by rw [hS_, ins_all (wf_kyd hW) (free_at hW hf139).1 (free_at hW hf139).2]⟩, (tk2 (sf1 (sf7 (tk8 (sf7 (sf6 (sf7 (sf7 (sf7 (sf7 (sf7 (sf7 h146))))))))))))⟩
           refine nG (fun q_ => .slice (some ⟨q_, 0, none⟩) 1 1) 54 [iV x, iV y, uV z, iV 1, iV 0, iV 0, iV 0, .string (St L)] h112 (fun r149 w150 h151 => ⟨kd [rd 0 5 3 2 1 h151], ?_⟩)
           have h153 : sat g w150 [Sl 54 8 (some ⟨r110, 0, none⟩) 0 0 (fl eRs []), Cl r149 [iV x, iV y, uV z, iV 1, iV 0, iV 0, iV 0, .string (St L)] 54, Zs s82 n S.A, Cl b [pV s82, .slice p83 (((allE S.E).length)) c84, .slice p85 S.R.length c86] 78, Sl 93 6 p83 (((allE S.E).length)) c84 (fl eE (allE S.E)), Sl 54 8 p85 S.R.length c86 (fl eRs S.R), Cl r39 [iV x, iV y, uV z, iV 1, iV 0, iV 0, iV 0, .string (St L)] 54, Cl r16 [iV 0, iV 0, uV 0] 25, Cl r13 [iV u0, uV u1] 38, Cl r10 [iV x, iV y, uV z] 36, R] := sl_of_cl (tk11 (sf10 (sf9 (sf10 (sf10 (sf10 (sf10 (sf10 (sf10 (sf10 (sf10 (sf10 h151)))))))))))) rfl (by omega)
           refine actG ?_
           refine an_append_gv (d := 76) (sz := 8) (s := (Operand.tmp 71)) (x := (Operand.tmp 75)) (z := .agg #[iV 0, iV 0, uV 0, iV 0, iV 0, iV 0, iV 0, .string (St [])]) (p := (some ⟨r110, 0, none⟩)) (p2 := p85) (m := 0) (c := 0) (k := S.R.length) (c2 := c86) (by_ := 72) (by kernel_rfl) (by kernel_rfl) rfl Tryz.underlying76 (by kernel_rfl) rfl (by decide) (by kernel_rfl) (by kernel_rfl) h153 5 rfl (fl eRs S.R) (gv_sl _ _ _) (fl_len eRs_ok _) (fl_one eRs_ok _) (by omega) (by omega) S.R.length (by omega) ?_
           intro p154 cap155 w156 h157
           have h158 : sat g w156 [Sl 54 8 p154 S.R.length cap155 (fl eRs S.R), Cl r149 [iV x, iV y, uV z, iV 1, iV 0, iV 0, iV 0, .string (St L)] 54, Zs s82 n S.A, Cl b [pV s82, .slice p83 (((allE S.E).length)) c84, .slice p85 S.R.length c86] 78, Sl 93 6 p83 (((allE S.E).length)) c84 (fl eE (allE S.E)), Sl 54 8 p85 S.R.length c86 (fl eRs S.R), Cl r39 [iV x, iV y, uV z, iV 1, iV 0, iV 0, iV 0, .string (St L)] 54, Cl r16 [iV 0, iV 0, uV 0] 25, Cl r13 [iV u0, uV u1] 38, Cl r10 [iV x, iV y, uV z] 36, R] := sat_imp h157 (fun _ hh => by exact hh)
           obtain ⟨hn159, hn160⟩ := sl_le h158
           refine ⟨kd [], nxG ?_⟩
           refine actG ?_
           refine an_append (d := 79) (sz := 8) (s := (Operand.tmp 76)) (x := (Operand.tmp 78)) (z := .agg #[iV 0, iV 0, uV 0, iV 0, iV 0, iV 0, iV 0, .string (St [])]) (p := p154) (m := S.R.length) (c := cap155) (k := 1) (c2 := 1) (a := ⟨r149, 0, none⟩) (by_ := 72) (by kernel_rfl) (by kernel_rfl) rfl Tryz.underlying76 (by kernel_rfl) rfl (by decide) (by kernel_rfl) (by kernel_rfl) h158 (fl eRs [(⟨(x, y, z), 1, 0, 0, 0, L⟩ : Rs)]) rfl (fun j u hj => by rw [add_off]; exact sat_cell h158 1 rfl (by rw [Nat.zero_add]; exact hj)) (fl_one eRs_ok _) (by omega) (by omega) (S.R.length + 1) (by omega) ?_
           intro p161 cap162 w163 h164
           have h165 : sat g w163 [Sl 54 8 p161 (S.R.length + 1) cap162 (fl eRs (S.R ++ [(⟨(x, y, z), 1, 0, 0, 0, L⟩ : Rs)])), Cl r149 [iV x, iV y, uV z, iV 1, iV 0, iV 0, iV 0, .string (St L)] 54, Zs s82 n S.A, Cl b [pV s82, .slice p83 (((allE S.E).length)) c84, .slice p85 S.R.length c86] 78, Sl 93 6 p83 (((allE S.E).length)) c84 (fl eE (allE S.E)), Sl 54 8 p85 S.R.length c86 (fl eRs S.R), Cl r39 [iV x, iV y, uV z, iV 1, iV 0, iV 0, iV 0, .string (St L)] 54, Cl r16 [iV 0, iV 0, uV 0] 25, Cl r13 [iV u0, uV u1] 38, Cl r10 [iV x, iV y, uV z] 36, R] := sat_imp h164 (fun _ hh => by rw [fl_app]; exact hh)
           obtain ⟨hn166, hn167⟩ := sl_le h165
           refine ⟨kd [], nxG ?_⟩
           have h168 := tk11 (sf10 (sf9 (sf9 (sf9 (sf10 (sf10 (sf10 (sf10 (sf10 (sf10 (sf10 h165)))))))))))
           refine go [] <| sG [(2, .slice p161 (S.R.length + 1) cap162)] [pV s82, .slice p83 (((allE S.E).length)) c84, .slice p161 (S.R.length + 1) cap162] h168 fun w169 h170 => ⟨kd [], ?_⟩
           refine go [] <| dw (fls [0, 1, 2, 3, 4, 5, 6] (Tr.an 7 (Tr.an 8 (Tr.fl 9 Tr.nil)))) h170 fun w171 h172 => ?_
           obtain ⟨j173, vg174, hf175⟩ := free_some (A := S.A) (by omega)
           have hr_ := wf_room hW hf175
           have h177 : sat g w171 [Zr b n S.A (allE S.E) (S.R ++ [(⟨(x, y, z), 1, 0, 0, 0, L⟩ : Rs)]), Cl r149 [iV x, iV y, uV z, iV 1, iV 0, iV 0, iV 0, .string (St L)] 54, Sl 54 8 p85 S.R.length c86 (fl eRs S.R), Cl r39 [iV x, iV y, uV z, iV 1, iV 0, iV 0, iV 0, .string (St L)] 54, Cl r16 [iV 0, iV 0, uV 0] 25, Cl r13 [iV u0, uV u1] 38, Cl r10 [iV x, iV y, uV z] 36, R] := zr_close (by first | omega | (simp only [List.length_append, List.length_take, List.length_drop, List.length_cons, List.length_nil]; omega)) (by first | rfl | (simp only [List.length_append, List.length_take, List.length_drop, List.length_cons, List.length_nil]; omega) | simp only [List.length_append, List.length_take, List.length_drop, List.length_cons, List.length_nil]) (by first | rfl | (simp only [List.length_append, List.length_take, List.length_drop, List.length_cons, List.length_nil]; omega) | simp only [List.length_append, List.length_take, List.length_drop, List.length_cons, List.length_nil]) (tk11 (sf10 (sf10 (sf10 (sf8 (sf8 (sf10 (sf10 (sf10 (sf10 (sf10 (sf10 h172))))))))))))
           refine go [rd 18 4 0 2 1 h172, .v 18 5 (oJ .i64 ((S.R.length + 1 : Nat) : Int) (((S.R.length : Nat) : Int) + 1)), rd 18 6 8 0 2 h172] <| cd1 Tryz.call42 (zadd_ht b n S.A (allE S.E) (S.R ++ [(⟨(x, y, z), 1, 0, 0, 0, L⟩ : Rs)]) (((S.R.length : Nat) : Int) + 1) u0 u1 S.R.length ⟨(x, y, z), 1, 0, 0, 0, L⟩ (by simp) (by omega) j173 vg174 hf175 (by omega)) h177 fun w178 h179 => ⟨kd [], ?_⟩
           refine sG [(0, iV x), (1, iV (j173 : Int)), (2, uV vg174)] [iV x, iV (j173 : Int), uV vg174] (tk8 (sf7 (sf6 (sf6 (sf6 (sf6 (sf7 (sf7 (sf7 h179))))))))) fun w181 h182 => ⟨kd [], ?_⟩
           refine go [] ?_
           have hN_ : newE (x, y, z) L = 0 := (newE_good (by omega)).trans (show tagE L = 0 from by omega)
           have hH_ : ¬ hasH S.E (u0, u1) := of_decide_eq_false ((hasX_eq S.E (u0, u1)).symm.trans cb72)
           have hO_ : ¬ hasO S.R (x, y, z) := of_decide_eq_false ((hasP_eq S.R (x, y, z)).symm.trans (any_end hb_ (by omega)))
           have hE_ : opnE S (x, y, z) L (u0, u1) = 0 := by unfold opnE; rw [if_neg (fun h_ => h_ hN_), if_neg (fun h_ => h_ (show objH (u0, u1) from by unfold objH; simp only; omega)), if_neg (not_or.2 ⟨hO_, hH_⟩), if_neg (by rw [hf175]; rintro (h_ | h_) <;> first | omega | cases h_)]
           have hS_ : opnS S (x, y, z) L (u0, u1) = ⟨S.A.set j173 (1, vg174), gset S.E (j173 : Int) ⟨(x, (j173 : Int), vg174), (S.R.length : Int) + 1, (u0, u1)⟩, S.R ++ [⟨(x, y, z), 1, 0, 0, 0, L⟩]⟩ := by unfold opnS; rw [if_pos hE_]; exact (addS_at (S := ⟨S.A, S.E, S.R ++ [⟨(x, y, z), 1, 0, 0, 0, L⟩]⟩) hf175).1
           have hD_ : opnD S (x, y, z) L (u0, u1) = (x, (j173 : Int), vg174) := by unfold opnD; rw [if_pos hE_, (addS_at (num := 0) (h := (0, 0)) hf175).2]
           exact en (.tuple #[.agg #[iV x, iV (j173 : Int), uV vg174], iV 0]) [rd 0 0 0 0 3 h182] ⟨_, [Zr b n (S.A.set j173 (1, vg174)) (insX (allE S.E) j173 ⟨(x, (j173 : Int), vg174), ((S.R.length : Nat) : Int) + 1, (u0, u1)⟩) (S.R ++ [(⟨(x, y, z), 1, 0, 0, 0, L⟩ : Rs)])], rfl, ⟨by rw [hE_, hD_], by rw [hS_, ins_all (wf_kyd hW) (free_at hW hf175).1 (free_at hW hf175).2]⟩, (tk2 (sf1 (sf7 (tk8 (sf7 (sf6 (sf7 (sf7 (sf7 (sf7 (sf7 (sf7 h182))))))))))))⟩
          refine nG (fun q_ => .slice (some ⟨q_, 0, none⟩) 1 1) 54 [iV x, iV y, uV z, iV 1, iV 0, iV 0, iV 0, .string (St L)] h109 (fun r185 w186 h187 => ⟨kd [rd 0 5 2 2 1 h187], ?_⟩)
          refine nG (fun q_ => .slice (some ⟨q_, 0, none⟩) 0 0) 54 [] h187 (fun r188 w189 h190 => ⟨kd [rd 0 5 3 2 1 h190], ?_⟩)
          have h191 : sat g w189 [Sl 54 8 (some ⟨r188, 0, none⟩) 0 0 (fl eRs []), Cl r185 [iV x, iV y, uV z, iV 1, iV 0, iV 0, iV 0, .string (St L)] 54, Zs s82 n S.A, Cl b [pV s82, .slice p83 (((allE S.E).length)) c84, .slice p85 S.R.length c86] 78, Sl 93 6 p83 (((allE S.E).length)) c84 (fl eE (allE S.E)), Sl 54 8 p85 S.R.length c86 (fl eRs S.R), Cl r39 [iV x, iV y, uV z, iV 1, iV 0, iV 0, iV 0, .string (St L)] 54, Cl r16 [iV 0, iV 0, uV 0] 25, Cl r13 [iV u0, uV u1] 38, Cl r10 [iV x, iV y, uV z] 36, R] := sl_of_cl h190 rfl (by omega)
          refine actG ?_
          refine an_append_gv (d := 76) (sz := 8) (s := (Operand.tmp 71)) (x := (Operand.tmp 75)) (z := .agg #[iV 0, iV 0, uV 0, iV 0, iV 0, iV 0, iV 0, .string (St [])]) (p := (some ⟨r188, 0, none⟩)) (p2 := p85) (m := 0) (c := 0) (k := S.R.length) (c2 := c86) (by_ := 72) (by kernel_rfl) (by kernel_rfl) rfl Tryz.underlying76 (by kernel_rfl) rfl (by decide) (by kernel_rfl) (by kernel_rfl) h191 5 rfl (fl eRs S.R) (gv_sl _ _ _) (fl_len eRs_ok _) (fl_one eRs_ok _) (by omega) (by omega) S.R.length (by omega) ?_
          intro p192 cap193 w194 h195
          have h196 : sat g w194 [Sl 54 8 p192 S.R.length cap193 (fl eRs S.R), Cl r185 [iV x, iV y, uV z, iV 1, iV 0, iV 0, iV 0, .string (St L)] 54, Zs s82 n S.A, Cl b [pV s82, .slice p83 (((allE S.E).length)) c84, .slice p85 S.R.length c86] 78, Sl 93 6 p83 (((allE S.E).length)) c84 (fl eE (allE S.E)), Sl 54 8 p85 S.R.length c86 (fl eRs S.R), Cl r39 [iV x, iV y, uV z, iV 1, iV 0, iV 0, iV 0, .string (St L)] 54, Cl r16 [iV 0, iV 0, uV 0] 25, Cl r13 [iV u0, uV u1] 38, Cl r10 [iV x, iV y, uV z] 36, R] := sat_imp h195 (fun _ hh => by exact hh)
          obtain ⟨hn197, hn198⟩ := sl_le h196
          refine ⟨kd [], nxG ?_⟩
          refine actG ?_
          refine an_append (d := 79) (sz := 8) (s := (Operand.tmp 76)) (x := (Operand.tmp 78)) (z := .agg #[iV 0, iV 0, uV 0, iV 0, iV 0, iV 0, iV 0, .string (St [])]) (p := p192) (m := S.R.length) (c := cap193) (k := 1) (c2 := 1) (a := ⟨r185, 0, none⟩) (by_ := 72) (by kernel_rfl) (by kernel_rfl) rfl Tryz.underlying76 (by kernel_rfl) rfl (by decide) (by kernel_rfl) (by kernel_rfl) h196 (fl eRs [(⟨(x, y, z), 1, 0, 0, 0, L⟩ : Rs)]) rfl (fun j u hj => by rw [add_off]; exact sat_cell h196 1 rfl (by rw [Nat.zero_add]; exact hj)) (fl_one eRs_ok _) (by omega) (by omega) (S.R.length + 1) (by omega) ?_
          intro p199 cap200 w201 h202
          have h203 : sat g w201 [Sl 54 8 p199 (S.R.length + 1) cap200 (fl eRs (S.R ++ [(⟨(x, y, z), 1, 0, 0, 0, L⟩ : Rs)])), Cl r185 [iV x, iV y, uV z, iV 1, iV 0, iV 0, iV 0, .string (St L)] 54, Zs s82 n S.A, Cl b [pV s82, .slice p83 (((allE S.E).length)) c84, .slice p85 S.R.length c86] 78, Sl 93 6 p83 (((allE S.E).length)) c84 (fl eE (allE S.E)), Sl 54 8 p85 S.R.length c86 (fl eRs S.R), Cl r39 [iV x, iV y, uV z, iV 1, iV 0, iV 0, iV 0, .string (St L)] 54, Cl r16 [iV 0, iV 0, uV 0] 25, Cl r13 [iV u0, uV u1] 38, Cl r10 [iV x, iV y, uV z] 36, R] := sat_imp h202 (fun _ hh => by rw [fl_app]; exact hh)
          obtain ⟨hn204, hn205⟩ := sl_le h203
          refine ⟨kd [], nxG ?_⟩
          have h206 := tk11 (sf10 (sf9 (sf9 (sf9 (sf10 (sf10 (sf10 (sf10 (sf10 (sf10 (sf10 h203)))))))))))
          refine go [] <| sG [(2, .slice p199 (S.R.length + 1) cap200)] [pV s82, .slice p83 (((allE S.E).length)) c84, .slice p199 (S.R.length + 1) cap200] h206 fun w207 h208 => ⟨kd [], ?_⟩
          refine go [] <| dw (fls [0, 1, 2, 3, 4, 5, 6] (Tr.an 7 (Tr.an 8 (Tr.fl 9 Tr.nil)))) h208 fun w209 h210 => ?_
          obtain ⟨j211, vg212, hf213⟩ := free_some (A := S.A) (by omega)
          have hr_ := wf_room hW hf213
          have h215 : sat g w209 [Zr b n S.A (allE S.E) (S.R ++ [(⟨(x, y, z), 1, 0, 0, 0, L⟩ : Rs)]), Cl r185 [iV x, iV y, uV z, iV 1, iV 0, iV 0, iV 0, .string (St L)] 54, Sl 54 8 p85 S.R.length c86 (fl eRs S.R), Cl r39 [iV x, iV y, uV z, iV 1, iV 0, iV 0, iV 0, .string (St L)] 54, Cl r16 [iV 0, iV 0, uV 0] 25, Cl r13 [iV u0, uV u1] 38, Cl r10 [iV x, iV y, uV z] 36, R] := zr_close (by first | omega | (simp only [List.length_append, List.length_take, List.length_drop, List.length_cons, List.length_nil]; omega)) (by first | rfl | (simp only [List.length_append, List.length_take, List.length_drop, List.length_cons, List.length_nil]; omega) | simp only [List.length_append, List.length_take, List.length_drop, List.length_cons, List.length_nil]) (by first | rfl | (simp only [List.length_append, List.length_take, List.length_drop, List.length_cons, List.length_nil]; omega) | simp only [List.length_append, List.length_take, List.length_drop, List.length_cons, List.length_nil]) (tk11 (sf10 (sf10 (sf10 (sf8 (sf8 (sf10 (sf10 (sf10 (sf10 (sf10 (sf10 h210))))))))))))
          refine go [rd 18 4 0 2 1 h210, .v 18 5 (oJ .i64 ((S.R.length + 1 : Nat) : Int) (((S.R.length : Nat) : Int) + 1)), rd 18 6 8 0 2 h210] <| cd1 Tryz.call42 (zadd_ht b n S.A (allE S.E) (S.R ++ [(⟨(x, y, z), 1, 0, 0, 0, L⟩ : Rs)]) (((S.R.length : Nat) : Int) + 1) u0 u1 S.R.length ⟨(x, y, z), 1, 0, 0, 0, L⟩ (by simp) (by omega) j211 vg212 hf213 (by omega)) h215 fun w216 h217 => ⟨kd [], ?_⟩
          refine sG [(0, iV x), (1, iV (j211 : Int)), (2, uV vg212)] [iV x, iV (j211 : Int), uV vg212] (tk8 (sf7 (sf6 (sf6 (sf6 (sf6 (sf7 (sf7 (sf7 h217))))))))) fun w219 h220 => ⟨kd [], ?_⟩
          refine go [] ?_
          have hN_ : newE (x, y, z) L = 0 := (newE_good (by omega)).trans (show tagE L = 0 from by omega)
          have hH_ : ¬ hasH S.E (u0, u1) := of_decide_eq_false ((hasX_eq S.E (u0, u1)).symm.trans cb72)
          have hO_ : ¬ hasO S.R (x, y, z) := of_decide_eq_false ((hasP_eq S.R (x, y, z)).symm.trans (any_end hb_ (by omega)))
          have hE_ : opnE S (x, y, z) L (u0, u1) = 0 := by unfold opnE; rw [if_neg (fun h_ => h_ hN_), if_neg (fun h_ => h_ (show objH (u0, u1) from by unfold objH; simp only; omega)), if_neg (not_or.2 ⟨hO_, hH_⟩), if_neg (by rw [hf213]; rintro (h_ | h_) <;> first | omega | cases h_)]
          have hS_ : opnS S (x, y, z) L (u0, u1) = ⟨S.A.set j211 (1, vg212), gset S.E (j211 : Int) ⟨(x, (j211 : Int), vg212), (S.R.length : Int) + 1, (u0, u1)⟩, S.R ++ [⟨(x, y, z), 1, 0, 0, 0, L⟩]⟩ := by unfold opnS; rw [if_pos hE_]; exact (addS_at (S := ⟨S.A, S.E, S.R ++ [⟨(x, y, z), 1, 0, 0, 0, L⟩]⟩) hf213).1
          have hD_ : opnD S (x, y, z) L (u0, u1) = (x, (j211 : Int), vg212) := by unfold opnD; rw [if_pos hE_, (addS_at (num := 0) (h := (0, 0)) hf213).2]
          exact en (.tuple #[.agg #[iV x, iV (j211 : Int), uV vg212], iV 0]) [rd 0 0 0 0 3 h220] ⟨_, [Zr b n (S.A.set j211 (1, vg212)) (insX (allE S.E) j211 ⟨(x, (j211 : Int), vg212), ((S.R.length : Nat) : Int) + 1, (u0, u1)⟩) (S.R ++ [(⟨(x, y, z), 1, 0, 0, 0, L⟩ : Rs)])], rfl, ⟨by rw [hE_, hD_], by rw [hS_, ins_all (wf_kyd hW) (free_at hW hf213).1 (free_at hW hf213).2]⟩, (tk2 (sf1 (sf7 (tk8 (sf7 (sf6 (sf7 (sf7 (sf7 (sf7 (sf7 (sf7 h220))))))))))))⟩
         refine cl0 Tryz.call39 (zobj_f u0 u1 (by omega) (by omega)) h43 fun w223 h224 => ?_
         have h225 := tk9 (sf8 (sf7 (sf7 (sf7 (sf7 (sf7 (sf8 (sf8 (sf8 h224)))))))))
         refine go [] <| sP [(0, iV 0), (1, iV 0), (2, uV 0)] [iV 0, iV 0, uV 0] h225 fun w226 h227 => go [] ?_
         have h229 : sat g w226 [Zr b n S.A (allE S.E) S.R, Cl r16 [iV 0, iV 0, uV 0] 25, Cl r39 [iV x, iV y, uV z, iV 1, iV 0, iV 0, iV 0, .string (St L)] 54, Cl r13 [iV u0, uV u1] 38, Cl r10 [iV x, iV y, uV z] 36, R] := zr_close (by first | omega | (simp only [List.length_append, List.length_take, List.length_drop, List.length_cons, List.length_nil]; omega)) (by first | rfl | (simp only [List.length_append, List.length_take, List.length_drop, List.length_cons, List.length_nil]; omega) | simp only [List.length_append, List.length_take, List.length_drop, List.length_cons, List.length_nil]) (by first | rfl | (simp only [List.length_append, List.length_take, List.length_drop, List.length_cons, List.length_nil]; omega) | simp only [List.length_append, List.length_take, List.length_drop, List.length_cons, List.length_nil]) (tk9 (sf8 (sf8 (sf8 (sf8 (sf4 (sf4 (sf8 (sf8 (sf8 h227))))))))))
         have hN_ : newE (x, y, z) L = 0 := (newE_good (by omega)).trans (show tagE L = 0 from by omega)
         exact en (.tuple #[.agg #[iV 0, iV 0, uV 0], iV 2]) [rd 0 0 0 0 3 h227] ⟨_, [Zr b n S.A (allE S.E) S.R], rfl, ⟨by rw [show opnE S (x, y, z) L (u0, u1) = 2 from (by unfold opnE; rw [if_neg (fun h_ => h_ hN_), if_pos (show ¬ objH (u0, u1) from by unfold objH; simp only; omega)]), (opn_bad (show opnE S (x, y, z) L (u0, u1) = 2 from (by unfold opnE; rw [if_neg (fun h_ => h_ hN_), if_pos (show ¬ objH (u0, u1) from by unfold objH; simp only; omega)])) (by decide)).2] <;> rfl, by rw [(opn_bad (show opnE S (x, y, z) L (u0, u1) = 2 from (by unfold opnE; rw [if_neg (fun h_ => h_ hN_), if_pos (show ¬ objH (u0, u1) from by unfold objH; simp only; omega)])) (by decide)).1]⟩, (tk2 (sf1 (sf5 h229)))⟩
        refine cl0 Tryz.call39 (zobj_f u0 u1 (by omega) (by omega)) h43 fun w231 h232 => ?_
        have h233 := tk9 (sf8 (sf7 (sf7 (sf7 (sf7 (sf7 (sf8 (sf8 (sf8 h232)))))))))
        refine go [] <| sP [(0, iV 0), (1, iV 0), (2, uV 0)] [iV 0, iV 0, uV 0] h233 fun w234 h235 => go [] ?_
        have h237 : sat g w234 [Zr b n S.A (allE S.E) S.R, Cl r16 [iV 0, iV 0, uV 0] 25, Cl r39 [iV x, iV y, uV z, iV 1, iV 0, iV 0, iV 0, .string (St L)] 54, Cl r13 [iV u0, uV u1] 38, Cl r10 [iV x, iV y, uV z] 36, R] := zr_close (by first | omega | (simp only [List.length_append, List.length_take, List.length_drop, List.length_cons, List.length_nil]; omega)) (by first | rfl | (simp only [List.length_append, List.length_take, List.length_drop, List.length_cons, List.length_nil]; omega) | simp only [List.length_append, List.length_take, List.length_drop, List.length_cons, List.length_nil]) (by first | rfl | (simp only [List.length_append, List.length_take, List.length_drop, List.length_cons, List.length_nil]; omega) | simp only [List.length_append, List.length_take, List.length_drop, List.length_cons, List.length_nil]) (tk9 (sf8 (sf8 (sf8 (sf8 (sf4 (sf4 (sf8 (sf8 (sf8 h235))))))))))
        have hN_ : newE (x, y, z) L = 0 := (newE_good (by omega)).trans (show tagE L = 0 from by omega)
        exact en (.tuple #[.agg #[iV 0, iV 0, uV 0], iV 2]) [rd 0 0 0 0 3 h235] ⟨_, [Zr b n S.A (allE S.E) S.R], rfl, ⟨by rw [show opnE S (x, y, z) L (u0, u1) = 2 from (by unfold opnE; rw [if_neg (fun h_ => h_ hN_), if_pos (show ¬ objH (u0, u1) from by unfold objH; simp only; omega)]), (opn_bad (show opnE S (x, y, z) L (u0, u1) = 2 from (by unfold opnE; rw [if_neg (fun h_ => h_ hN_), if_pos (show ¬ objH (u0, u1) from by unfold objH; simp only; omega)])) (by decide)).2] <;> rfl, by rw [(opn_bad (show opnE S (x, y, z) L (u0, u1) = 2 from (by unfold opnE; rw [if_neg (fun h_ => h_ hN_), if_pos (show ¬ objH (u0, u1) from by unfold objH; simp only; omega)])) (by decide)).1]⟩, (tk2 (sf1 (sf5 h237)))⟩
       refine cl0 Tryz.call39 (zobj_f u0 u1 (by omega) (by omega)) h43 fun w239 h240 => ?_
       have h241 := tk9 (sf8 (sf7 (sf7 (sf7 (sf7 (sf7 (sf8 (sf8 (sf8 h240)))))))))
       refine go [] <| sP [(0, iV 0), (1, iV 0), (2, uV 0)] [iV 0, iV 0, uV 0] h241 fun w242 h243 => go [] ?_
       have h245 : sat g w242 [Zr b n S.A (allE S.E) S.R, Cl r16 [iV 0, iV 0, uV 0] 25, Cl r39 [iV x, iV y, uV z, iV 1, iV 0, iV 0, iV 0, .string (St L)] 54, Cl r13 [iV u0, uV u1] 38, Cl r10 [iV x, iV y, uV z] 36, R] := zr_close (by first | omega | (simp only [List.length_append, List.length_take, List.length_drop, List.length_cons, List.length_nil]; omega)) (by first | rfl | (simp only [List.length_append, List.length_take, List.length_drop, List.length_cons, List.length_nil]; omega) | simp only [List.length_append, List.length_take, List.length_drop, List.length_cons, List.length_nil]) (by first | rfl | (simp only [List.length_append, List.length_take, List.length_drop, List.length_cons, List.length_nil]; omega) | simp only [List.length_append, List.length_take, List.length_drop, List.length_cons, List.length_nil]) (tk9 (sf8 (sf8 (sf8 (sf8 (sf4 (sf4 (sf8 (sf8 (sf8 h243))))))))))
       have hN_ : newE (x, y, z) L = 0 := (newE_good (by omega)).trans (show tagE L = 0 from by omega)
       exact en (.tuple #[.agg #[iV 0, iV 0, uV 0], iV 2]) [rd 0 0 0 0 3 h243] ⟨_, [Zr b n S.A (allE S.E) S.R], rfl, ⟨by rw [show opnE S (x, y, z) L (u0, u1) = 2 from (by unfold opnE; rw [if_neg (fun h_ => h_ hN_), if_pos (show ¬ objH (u0, u1) from by unfold objH; simp only; omega)]), (opn_bad (show opnE S (x, y, z) L (u0, u1) = 2 from (by unfold opnE; rw [if_neg (fun h_ => h_ hN_), if_pos (show ¬ objH (u0, u1) from by unfold objH; simp only; omega)])) (by decide)).2] <;> rfl, by rw [(opn_bad (show opnE S (x, y, z) L (u0, u1) = 2 from (by unfold opnE; rw [if_neg (fun h_ => h_ hN_), if_pos (show ¬ objH (u0, u1) from by unfold objH; simp only; omega)])) (by decide)).1]⟩, (tk2 (sf1 (sf5 h245)))⟩
      refine cl0 Tryz.call38 (zrn_tag x y z L (by omega) (by omega) (by omega) (by omega) (by omega)) h30 fun w247 h248 => go [] <| nP 54 [iV 0, iV 0, uV 0, iV 0, iV 0, iV 0, iV 0, .string (St [])] h248 (fun r249 w250 h251 => ?_)
      refine sP [(0, iV 0), (1, iV 0), (2, uV 0), (3, iV 0), (4, iV 0), (5, iV 0), (6, iV 0), (7, .string (St []))] [iV 0, iV 0, uV 0, iV 0, iV 0, iV 0, iV 0, .string (St [])] h251 fun w252 h253 => ?_
      have h254 := tk9 (sf8 (sf7 (sf7 (sf7 (sf7 (sf7 (sf8 (sf8 (sf8 h253)))))))))
      refine go [] <| sP [(0, iV 0), (1, iV 0), (2, uV 0)] [iV 0, iV 0, uV 0] h254 fun w255 h256 => go [] ?_
      have h258 : sat g w255 [Zr b n S.A (allE S.E) S.R, Cl r16 [iV 0, iV 0, uV 0] 25, Cl r249 [iV 0, iV 0, uV 0, iV 0, iV 0, iV 0, iV 0, .string (St [])] 54, Cl r13 [iV u0, uV u1] 38, Cl r10 [iV x, iV y, uV z] 36, R] := zr_close (by first | omega | (simp only [List.length_append, List.length_take, List.length_drop, List.length_cons, List.length_nil]; omega)) (by first | rfl | (simp only [List.length_append, List.length_take, List.length_drop, List.length_cons, List.length_nil]; omega) | simp only [List.length_append, List.length_take, List.length_drop, List.length_cons, List.length_nil]) (by first | rfl | (simp only [List.length_append, List.length_take, List.length_drop, List.length_cons, List.length_nil]; omega) | simp only [List.length_append, List.length_take, List.length_drop, List.length_cons, List.length_nil]) (tk9 (sf8 (sf8 (sf8 (sf8 (sf4 (sf4 (sf8 (sf8 (sf8 h256))))))))))
      have hN_ : newE (x, y, z) L = 16 := (newE_good (by omega)).trans (show tagE L = 16 from by have h2_ := tagE_or L; omega)
      exact en (.tuple #[.agg #[iV 0, iV 0, uV 0], iV 16]) [rd 0 0 0 0 3 h256] ⟨_, [Zr b n S.A (allE S.E) S.R], rfl, ⟨by rw [show opnE S (x, y, z) L (u0, u1) = 16 from (by unfold opnE; rw [hN_, if_pos (by decide)]), (opn_bad (show opnE S (x, y, z) L (u0, u1) = 16 from (by unfold opnE; rw [hN_, if_pos (by decide)])) (by decide)).2] <;> rfl, by rw [(opn_bad (show opnE S (x, y, z) L (u0, u1) = 16 from (by unfold opnE; rw [hN_, if_pos (by decide)])) (by decide)).1]⟩, (tk2 (sf1 (sf5 h258)))⟩
     refine cl0 Tryz.call38 (zrn_no x y z L (by omega) (by omega) (by omega) (by omega)) h30 fun w260 h261 => go [] <| nP 54 [iV 0, iV 0, uV 0, iV 0, iV 0, iV 0, iV 0, .string (St [])] h261 (fun r262 w263 h264 => ?_)
     refine sP [(0, iV 0), (1, iV 0), (2, uV 0), (3, iV 0), (4, iV 0), (5, iV 0), (6, iV 0), (7, .string (St []))] [iV 0, iV 0, uV 0, iV 0, iV 0, iV 0, iV 0, .string (St [])] h264 fun w265 h266 => ?_
     have h267 := tk9 (sf8 (sf7 (sf7 (sf7 (sf7 (sf7 (sf8 (sf8 (sf8 h266)))))))))
     refine go [] <| sP [(0, iV 0), (1, iV 0), (2, uV 0)] [iV 0, iV 0, uV 0] h267 fun w268 h269 => go [] ?_
     have h271 : sat g w268 [Zr b n S.A (allE S.E) S.R, Cl r16 [iV 0, iV 0, uV 0] 25, Cl r262 [iV 0, iV 0, uV 0, iV 0, iV 0, iV 0, iV 0, .string (St [])] 54, Cl r13 [iV u0, uV u1] 38, Cl r10 [iV x, iV y, uV z] 36, R] := zr_close (by first | omega | (simp only [List.length_append, List.length_take, List.length_drop, List.length_cons, List.length_nil]; omega)) (by first | rfl | (simp only [List.length_append, List.length_take, List.length_drop, List.length_cons, List.length_nil]; omega) | simp only [List.length_append, List.length_take, List.length_drop, List.length_cons, List.length_nil]) (by first | rfl | (simp only [List.length_append, List.length_take, List.length_drop, List.length_cons, List.length_nil]; omega) | simp only [List.length_append, List.length_take, List.length_drop, List.length_cons, List.length_nil]) (tk9 (sf8 (sf8 (sf8 (sf8 (sf4 (sf4 (sf8 (sf8 (sf8 h269))))))))))
     have hN_ : newE (x, y, z) L = 2 := newE_no (by omega)
     exact en (.tuple #[.agg #[iV 0, iV 0, uV 0], iV 2]) [rd 0 0 0 0 3 h269] ⟨_, [Zr b n S.A (allE S.E) S.R], rfl, ⟨by rw [show opnE S (x, y, z) L (u0, u1) = 2 from (by unfold opnE; rw [hN_, if_pos (by decide)]), (opn_bad (show opnE S (x, y, z) L (u0, u1) = 2 from (by unfold opnE; rw [hN_, if_pos (by decide)])) (by decide)).2] <;> rfl, by rw [(opn_bad (show opnE S (x, y, z) L (u0, u1) = 2 from (by unfold opnE; rw [hN_, if_pos (by decide)])) (by decide)).1]⟩, (tk2 (sf1 (sf5 h271)))⟩
    refine cl0 Tryz.call38 (zrn_no x y z L (by omega) (by omega) (by omega) (by omega)) h30 fun w273 h274 => go [] <| nP 54 [iV 0, iV 0, uV 0, iV 0, iV 0, iV 0, iV 0, .string (St [])] h274 (fun r275 w276 h277 => ?_)
    refine sP [(0, iV 0), (1, iV 0), (2, uV 0), (3, iV 0), (4, iV 0), (5, iV 0), (6, iV 0), (7, .string (St []))] [iV 0, iV 0, uV 0, iV 0, iV 0, iV 0, iV 0, .string (St [])] h277 fun w278 h279 => ?_
    have h280 := tk9 (sf8 (sf7 (sf7 (sf7 (sf7 (sf7 (sf8 (sf8 (sf8 h279)))))))))
    refine go [] <| sP [(0, iV 0), (1, iV 0), (2, uV 0)] [iV 0, iV 0, uV 0] h280 fun w281 h282 => go [] ?_
    have h284 : sat g w281 [Zr b n S.A (allE S.E) S.R, Cl r16 [iV 0, iV 0, uV 0] 25, Cl r275 [iV 0, iV 0, uV 0, iV 0, iV 0, iV 0, iV 0, .string (St [])] 54, Cl r13 [iV u0, uV u1] 38, Cl r10 [iV x, iV y, uV z] 36, R] := zr_close (by first | omega | (simp only [List.length_append, List.length_take, List.length_drop, List.length_cons, List.length_nil]; omega)) (by first | rfl | (simp only [List.length_append, List.length_take, List.length_drop, List.length_cons, List.length_nil]; omega) | simp only [List.length_append, List.length_take, List.length_drop, List.length_cons, List.length_nil]) (by first | rfl | (simp only [List.length_append, List.length_take, List.length_drop, List.length_cons, List.length_nil]; omega) | simp only [List.length_append, List.length_take, List.length_drop, List.length_cons, List.length_nil]) (tk9 (sf8 (sf8 (sf8 (sf8 (sf4 (sf4 (sf8 (sf8 (sf8 h282))))))))))
    have hN_ : newE (x, y, z) L = 2 := newE_no (by omega)
    exact en (.tuple #[.agg #[iV 0, iV 0, uV 0], iV 2]) [rd 0 0 0 0 3 h282] ⟨_, [Zr b n S.A (allE S.E) S.R], rfl, ⟨by rw [show opnE S (x, y, z) L (u0, u1) = 2 from (by unfold opnE; rw [hN_, if_pos (by decide)]), (opn_bad (show opnE S (x, y, z) L (u0, u1) = 2 from (by unfold opnE; rw [hN_, if_pos (by decide)])) (by decide)).2] <;> rfl, by rw [(opn_bad (show opnE S (x, y, z) L (u0, u1) = 2 from (by unfold opnE; rw [hN_, if_pos (by decide)])) (by decide)).1]⟩, (tk2 (sf1 (sf5 h284)))⟩
   refine cl0 Tryz.call38 (zrn_no x y z L (by omega) (by omega) (by omega) (by omega)) h30 fun w286 h287 => go [] <| nP 54 [iV 0, iV 0, uV 0, iV 0, iV 0, iV 0, iV 0, .string (St [])] h287 (fun r288 w289 h290 => ?_)
   refine sP [(0, iV 0), (1, iV 0), (2, uV 0), (3, iV 0), (4, iV 0), (5, iV 0), (6, iV 0), (7, .string (St []))] [iV 0, iV 0, uV 0, iV 0, iV 0, iV 0, iV 0, .string (St [])] h290 fun w291 h292 => ?_
   have h293 := tk9 (sf8 (sf7 (sf7 (sf7 (sf7 (sf7 (sf8 (sf8 (sf8 h292)))))))))
   refine go [] <| sP [(0, iV 0), (1, iV 0), (2, uV 0)] [iV 0, iV 0, uV 0] h293 fun w294 h295 => go [] ?_
   have h297 : sat g w294 [Zr b n S.A (allE S.E) S.R, Cl r16 [iV 0, iV 0, uV 0] 25, Cl r288 [iV 0, iV 0, uV 0, iV 0, iV 0, iV 0, iV 0, .string (St [])] 54, Cl r13 [iV u0, uV u1] 38, Cl r10 [iV x, iV y, uV z] 36, R] := zr_close (by first | omega | (simp only [List.length_append, List.length_take, List.length_drop, List.length_cons, List.length_nil]; omega)) (by first | rfl | (simp only [List.length_append, List.length_take, List.length_drop, List.length_cons, List.length_nil]; omega) | simp only [List.length_append, List.length_take, List.length_drop, List.length_cons, List.length_nil]) (by first | rfl | (simp only [List.length_append, List.length_take, List.length_drop, List.length_cons, List.length_nil]; omega) | simp only [List.length_append, List.length_take, List.length_drop, List.length_cons, List.length_nil]) (tk9 (sf8 (sf8 (sf8 (sf8 (sf4 (sf4 (sf8 (sf8 (sf8 h295))))))))))
   have hN_ : newE (x, y, z) L = 2 := newE_no (by omega)
   exact en (.tuple #[.agg #[iV 0, iV 0, uV 0], iV 2]) [rd 0 0 0 0 3 h295] ⟨_, [Zr b n S.A (allE S.E) S.R], rfl, ⟨by rw [show opnE S (x, y, z) L (u0, u1) = 2 from (by unfold opnE; rw [hN_, if_pos (by decide)]), (opn_bad (show opnE S (x, y, z) L (u0, u1) = 2 from (by unfold opnE; rw [hN_, if_pos (by decide)])) (by decide)).2] <;> rfl, by rw [(opn_bad (show opnE S (x, y, z) L (u0, u1) = 2 from (by unfold opnE; rw [hN_, if_pos (by decide)])) (by decide)).1]⟩, (tk2 (sf1 (sf5 h297)))⟩
  refine cl0 Tryz.call38 (zrn_no x y z L (by omega) (by omega) (by omega) (by omega)) h30 fun w299 h300 => go [] <| nP 54 [iV 0, iV 0, uV 0, iV 0, iV 0, iV 0, iV 0, .string (St [])] h300 (fun r301 w302 h303 => ?_)
  refine sP [(0, iV 0), (1, iV 0), (2, uV 0), (3, iV 0), (4, iV 0), (5, iV 0), (6, iV 0), (7, .string (St []))] [iV 0, iV 0, uV 0, iV 0, iV 0, iV 0, iV 0, .string (St [])] h303 fun w304 h305 => ?_
  have h306 := tk9 (sf8 (sf7 (sf7 (sf7 (sf7 (sf7 (sf8 (sf8 (sf8 h305)))))))))
  refine go [] <| sP [(0, iV 0), (1, iV 0), (2, uV 0)] [iV 0, iV 0, uV 0] h306 fun w307 h308 => go [] ?_
  have h310 : sat g w307 [Zr b n S.A (allE S.E) S.R, Cl r16 [iV 0, iV 0, uV 0] 25, Cl r301 [iV 0, iV 0, uV 0, iV 0, iV 0, iV 0, iV 0, .string (St [])] 54, Cl r13 [iV u0, uV u1] 38, Cl r10 [iV x, iV y, uV z] 36, R] := zr_close (by first | omega | (simp only [List.length_append, List.length_take, List.length_drop, List.length_cons, List.length_nil]; omega)) (by first | rfl | (simp only [List.length_append, List.length_take, List.length_drop, List.length_cons, List.length_nil]; omega) | simp only [List.length_append, List.length_take, List.length_drop, List.length_cons, List.length_nil]) (by first | rfl | (simp only [List.length_append, List.length_take, List.length_drop, List.length_cons, List.length_nil]; omega) | simp only [List.length_append, List.length_take, List.length_drop, List.length_cons, List.length_nil]) (tk9 (sf8 (sf8 (sf8 (sf8 (sf4 (sf4 (sf8 (sf8 (sf8 h308))))))))))
  have hN_ : newE (x, y, z) L = 2 := newE_no (by omega)
  exact en (.tuple #[.agg #[iV 0, iV 0, uV 0], iV 2]) [rd 0 0 0 0 3 h308] ⟨_, [Zr b n S.A (allE S.E) S.R], rfl, ⟨by rw [show opnE S (x, y, z) L (u0, u1) = 2 from (by unfold opnE; rw [hN_, if_pos (by decide)]), (opn_bad (show opnE S (x, y, z) L (u0, u1) = 2 from (by unfold opnE; rw [hN_, if_pos (by decide)])) (by decide)).2] <;> rfl, by rw [(opn_bad (show opnE S (x, y, z) L (u0, u1) = 2 from (by unfold opnE; rw [hN_, if_pos (by decide)])) (by decide)).1]⟩, (tk2 (sf1 (sf5 h310)))⟩
 refine cl0 Tryz.call38 (zrn_no x y z L (by omega) (by omega) (by omega) (by omega)) h30 fun w312 h313 => go [] <| nP 54 [iV 0, iV 0, uV 0, iV 0, iV 0, iV 0, iV 0, .string (St [])] h313 (fun r314 w315 h316 => ?_)
 refine sP [(0, iV 0), (1, iV 0), (2, uV 0), (3, iV 0), (4, iV 0), (5, iV 0), (6, iV 0), (7, .string (St []))] [iV 0, iV 0, uV 0, iV 0, iV 0, iV 0, iV 0, .string (St [])] h316 fun w317 h318 => ?_
 have h319 := tk9 (sf8 (sf7 (sf7 (sf7 (sf7 (sf7 (sf8 (sf8 (sf8 h318)))))))))
 refine go [] <| sP [(0, iV 0), (1, iV 0), (2, uV 0)] [iV 0, iV 0, uV 0] h319 fun w320 h321 => go [] ?_
 have h323 : sat g w320 [Zr b n S.A (allE S.E) S.R, Cl r16 [iV 0, iV 0, uV 0] 25, Cl r314 [iV 0, iV 0, uV 0, iV 0, iV 0, iV 0, iV 0, .string (St [])] 54, Cl r13 [iV u0, uV u1] 38, Cl r10 [iV x, iV y, uV z] 36, R] := zr_close (by first | omega | (simp only [List.length_append, List.length_take, List.length_drop, List.length_cons, List.length_nil]; omega)) (by first | rfl | (simp only [List.length_append, List.length_take, List.length_drop, List.length_cons, List.length_nil]; omega) | simp only [List.length_append, List.length_take, List.length_drop, List.length_cons, List.length_nil]) (by first | rfl | (simp only [List.length_append, List.length_take, List.length_drop, List.length_cons, List.length_nil]; omega) | simp only [List.length_append, List.length_take, List.length_drop, List.length_cons, List.length_nil]) (tk9 (sf8 (sf8 (sf8 (sf8 (sf4 (sf4 (sf8 (sf8 (sf8 h321))))))))))
 have hN_ : newE (x, y, z) L = 2 := newE_no (by omega)
 exact en (.tuple #[.agg #[iV 0, iV 0, uV 0], iV 2]) [rd 0 0 0 0 3 h321] ⟨_, [Zr b n S.A (allE S.E) S.R], rfl, ⟨by rw [show opnE S (x, y, z) L (u0, u1) = 2 from (by unfold opnE; rw [hN_, if_pos (by decide)]), (opn_bad (show opnE S (x, y, z) L (u0, u1) = 2 from (by unfold opnE; rw [hN_, if_pos (by decide)])) (by decide)).2] <;> rfl, by rw [(opn_bad (show opnE S (x, y, z) L (u0, u1) = 2 from (by unfold opnE; rw [hN_, if_pos (by decide)])) (by decide)).1]⟩, (tk2 (sf1 (sf5 h323)))⟩

end Go.Proofs.YtjjpmehiolejgaaGreat

/- Walks, printed by my generator z12.py. -/
namespace Go.Proofs.YtjjpmehiolejgaaGreat
set_option maxHeartbeats 4000000 in
theorem zexp_nil (vn : Int) : HT Tryz.prog 15 [Value.pointer none, Value.int IntKind.i64 vn] [] (fun v K => v = Value.tuple #[Value.slice none 0 0, Value.int IntKind.i64 1] ∧ K = []) := by
 refine hiS Tryz.func15 Tryz.ntmps15 fun g w0 R h0 => go [] <| cl0 Tryz.call48 (zdsc_nil vn) h0 fun w10 h11 => go [] <| unS 0 <| go [] <| up <| go [] ?_
 exact en (.tuple #[.slice none 0 0, iV 1]) [] ⟨_, _, rfl, ⟨rfl, rfl⟩, h11⟩

set_option maxHeartbeats 4000000 in
theorem zexp_ht (b n : Nat) (S : Ts) (hW : Wf n S) (vn : Int) : HT Tryz.prog 15 [Value.pointer (some ⟨b, 0, none⟩), Value.int IntKind.i64 vn] [Zr b n S.A (allE S.E) S.R] (fun v K => ∃ (p : Option Addr) (c : Nat), v = Value.tuple #[Value.slice p (((descs S.E vn).length)) c, Value.int IntKind.i64 ((nE S vn))] ∧ K = [Zr b n ((expS S vn).A) (allE (expS S vn).E) ((expS S vn).R), Sl 25 3 p (((descs S.E vn).length)) c (fl eO (descs S.E vn))]) := by
 have hdl_ := descs_len S.E vn
 refine hiS Tryz.func15 Tryz.ntmps15 fun g w0 R h0 => go [] <| cP Tryz.call48 (zdsc_ht b n S hW vn) h0 ?_
 rintro v K w12 (⟨p10, c11, rfl, rfl⟩) h13
 have h14 := ap2 h13
 refine go [] ?_
 refine lpS (fun mz_ a w => ∃ k : Nat, ∃ lr : Fr, mz_ = ((descs S.E vn).length) - k ∧ (k ≤ ((descs S.E vn).length)) ∧ a = mk 29 (([(0, pV b), (6, .slice p10 (((descs S.E vn).length)) c11), (7, iV ((nE S vn))), (8, iV (k : Int))] : Fr) ++ lr) ∧ sat g w [Zr b n ((dropK S vn k).A) (allE (dropK S vn k).E) ((dropK S vn k).R), Sl 25 3 p10 (((descs S.E vn).length)) c11 (fl eO (descs S.E vn)), R]) (((descs S.E vn).length) - 0) ⟨0, _, rfl, (Nat.zero_le _), (lvF [.k 0 (pV b), .k 6 (.slice p10 (((descs S.E vn).length)) c11), .k 7 (iV ((nE S vn))), .o 8 (oJ .i64 0 (0 : Int))]), h14⟩ ?_
 rintro m16 a17 w18 ⟨k, lr15, rfl, hk_, rfl, h19⟩
 refine ga <| go [.s 3 3] ?_
 by_cases c20 : (k : Int) < (((descs S.E vn).length : Nat) : Int)
 ·
  obtain ⟨b21, hp22⟩ := sl_ptr0 (j := 1) h19 rfl (by omega)
  refine go [.v 3 3 (oT ((k : Int) < (((descs S.E vn).length : Nat) : Int))), .s 5 3] <| lwP (.pointer (some ⟨b21, k * 3, none⟩)) (law_indexSlP (x := (Operand.tmp 22)) (i := (Operand.tmp 23)) (p := p10) (b := b21) (off := 0) (z := (k : Int)) (len := (((descs S.E vn).length))) (cap := c11) (by kernel_rfl) Tryz.underlying48 3 (by kernel_rfl) k (by kernel_rfl) hp22 (by kernel_rfl) (by omega) (by omega) (k * 3) (by omega) _) ?_
  obtain ⟨x23, hx24⟩ : ∃ x, (descs S.E vn)[k]? = some x := ⟨_, List.getElem?_eq_getElem (by omega)⟩
  have hc_ := close_at hW hx24
  have hb25 : 1 ≤ x23.2.2 := (fndE_ok.1 hc_.1).1.2.2.2.2
  refine go [.r 5 4 b21 (k * 3) [iV x23.1, iV x23.2.1, uV x23.2.2] ⟨gv_cell (j := 1) h19 rfl (gv_sl _ _ _) hp22 (fl_get eO_ok (j := 0) (v := iV x23.1) hx24 rfl) (k * 3) (by omega), gv_cell (j := 1) h19 rfl (gv_sl _ _ _) hp22 (fl_get eO_ok (j := 1) (v := iV x23.2.1) hx24 rfl) (k * 3 + 1) (by omega), gv_cell (j := 1) h19 rfl (gv_sl _ _ _) hp22 (fl_get eO_ok (j := 2) (v := uV x23.2.2) hx24 rfl) (k * 3 + 2) (by omega), trivial⟩] <| cl1 Tryz.call13 (zcls_ht b n (dropK S vn k) (wf_dropK hW k) x23.1 x23.2.1 x23.2.2 (by omega)) h19 fun w26 h27 => go [.v 4 1 (oIr ((k : Int) + 1))] ?_
  refine enL ?_
  have h28 : sat g w26 [Zr b n ((dropK S vn (k + 1)).A) (allE (dropK S vn (k + 1)).E) ((dropK S vn (k + 1)).R), Sl 25 3 p10 (((descs S.E vn).length)) c11 (fl eO (descs S.E vn)), R] := hc_.2.2.1 ▸ h27
  change ∃ n', n' < _ ∧ _
  refine ⟨(((descs S.E vn).length) - (k + 1)), by omega, (k + 1), _, rfl, (by omega), (lvF [.k 0 (pV b), .k 6 (.slice p10 (((descs S.E vn).length)) c11), .k 7 (iV ((nE S vn))), .o 8 (oJ .i64 ((k : Int) + 1) ((((k + 1) : Nat) : Int)))]), h28⟩
 refine go [.v 3 3 (oF ((k : Int) < (((descs S.E vn).length : Nat) : Int)))] <| up <| go [] ?_
 have h29 : sat g w18 [Zr b n ((expS S vn).A) (allE (expS S vn).E) ((expS S vn).R), Sl 25 3 p10 (((descs S.E vn).length)) c11 (fl eO (descs S.E vn)), R] := (dropK_all S vn (k := k) (by omega)) ▸ h19
 exact en (.tuple #[.slice p10 (((descs S.E vn).length)) c11, iV ((nE S vn))]) [] ⟨_, _, rfl, ⟨p10, c11, rfl, rfl⟩, h29⟩

end Go.Proofs.YtjjpmehiolejgaaGreat

/- Walks, printed by my generator z13.py. -/
namespace Go.Proofs.YtjjpmehiolejgaaGreat
theorem qz13e36_neq_t {n : Nat} {l : Fr} {o : Oper} {x y : Operand} (a0 : Int) (a1 : Int) (a2 : Int) (c0 : Int) (c1 : Int) (c2 : Int) (ho : o.op = .binOp .neq 36 x y 36) (hx : fe n l x = .agg #[.int .i64 a0, .int .i64 a1, .int .u32 a2]) (hy : fe n l y = .agg #[.int .i64 c0, .int .i64 c1, .int .u32 c2]) (h : a0 = c0 ∧ a1 = c1 ∧ a2 = c2) (w : World) : (execOp (fe n l) o).run Tryz.prog w = .ok (.value (.bool false)) w := by
  obtain ⟨rfl, rfl, rfl⟩ := h
  simp [execOp, ho, hx, hy, go_sem]
theorem qz13e36_neq_f {n : Nat} {l : Fr} {o : Oper} {x y : Operand} (a0 : Int) (a1 : Int) (a2 : Int) (c0 : Int) (c1 : Int) (c2 : Int) (ho : o.op = .binOp .neq 36 x y 36) (hx : fe n l x = .agg #[.int .i64 a0, .int .i64 a1, .int .u32 a2]) (hy : fe n l y = .agg #[.int .i64 c0, .int .i64 c1, .int .u32 c2]) (h : ¬ (a0 = c0 ∧ a1 = c1 ∧ a2 = c2)) (w : World) : (execOp (fe n l) o).run Tryz.prog w = .ok (.value (.bool true)) w := by
  by_cases h0 : a0 = c0
  · skip
    by_cases h1 : a1 = c1
    · skip
      by_cases h2 : a2 = c2
      · exact absurd ⟨h0, h1, h2⟩ h
      · simp [execOp, ho, hx, hy, go_sem, h0, h1, h2]
    · simp [execOp, ho, hx, hy, go_sem, h0, h1]
  · simp [execOp, ho, hx, hy, go_sem, h0]
set_option maxHeartbeats 4000000 in
theorem zset_nil (vn x y z st why tr nx : Int) (L : List UInt8) : HT Tryz.prog 18 [Value.pointer none, Value.int IntKind.i64 vn, Value.agg #[Value.int IntKind.i64 x, Value.int IntKind.i64 y, Value.int IntKind.u32 z, Value.int IntKind.i64 st, Value.int IntKind.i64 why, Value.int IntKind.i64 tr, Value.int IntKind.i64 nx, Value.string (St L)]] [] (fun v K => v = Value.int IntKind.i64 1 ∧ K = []) := by
 refine hiS Tryz.func18 Tryz.ntmps18 fun g w0 R h0 => go [] <| nP 54 [iV x, iV y, uV z, iV st, iV why, iV tr, iV nx, .string (St L)] h0 (fun r10 w11 h12 => ?_)
 refine go [] <| cl0 Tryz.call51 (zget_nil vn) h12 fun w13 h14 => go [] <| nP 54 [iV 0, iV 0, uV 0, iV 0, iV 0, iV 0, iV 0, .string (St [])] h14 (fun r15 w16 h17 => ?_)
 refine sP [(0, iV 0), (1, iV 0), (2, uV 0), (3, iV 0), (4, iV 0), (5, iV 0), (6, iV 0), (7, .string (St []))] [iV 0, iV 0, uV 0, iV 0, iV 0, iV 0, iV 0, .string (St [])] h17 fun w18 h19 => go [] ?_
 exact en (iV 1) [] ⟨_, _, rfl, ⟨rfl, rfl⟩, (tk1 (sf2 h19))⟩

set_option maxHeartbeats 4000000 in
theorem zset_ht (b n : Nat) (S : Ts) (hW : Wf n S) (vn x y z st why tr nx : Int) (L : List UInt8) (hz0 : 0 ≤ z) (hz1 : z ≤ 4294967295) (hm : L.length ≤ 100000) : HT Tryz.prog 18 [Value.pointer (some ⟨b, 0, none⟩), Value.int IntKind.i64 vn, Value.agg #[Value.int IntKind.i64 x, Value.int IntKind.i64 y, Value.int IntKind.u32 z, Value.int IntKind.i64 st, Value.int IntKind.i64 why, Value.int IntKind.i64 tr, Value.int IntKind.i64 nx, Value.string (St L)]] [Zr b n S.A (allE S.E) S.R] (fun v K => v = Value.int IntKind.i64 ((setE S vn (⟨(x, y, z), st, why, tr, nx, L⟩ : Rs))) ∧ K = [Zr b n ((setS S vn (⟨(x, y, z), st, why, tr, nx, L⟩ : Rs)).A) (allE (setS S vn (⟨(x, y, z), st, why, tr, nx, L⟩ : Rs)).E) ((setS S vn (⟨(x, y, z), st, why, tr, nx, L⟩ : Rs)).R)]) := by
 refine hiS Tryz.func18 Tryz.ntmps18 fun g w0 R h0 => go [] <| nP 54 [iV x, iV y, uV z, iV st, iV why, iV tr, iV nx, .string (St L)] h0 (fun r10 w11 h12 => ?_)
 refine go [] ?_
 by_cases c13 : 1 ≤ vn
 ·
  by_cases c14 : vn ≤ ((S.R.length : Nat) : Int)
  ·
   refine cl1 Tryz.call51 ((by have h_ := zget_ht b n S vn; rw [(show nE S vn = 0 from if_pos (by omega))] at h_; exact h_)) (tk3 (sf2 (sf1 (sf2 h12)))) fun w16 h17 => ?_
   refine go [] <| nP 54 [iV 0, iV 0, uV 0, iV 0, iV 0, iV 0, iV 0, .string (St [])] h17 (fun r18 w19 h20 => ?_)
   refine sP [(0, iV ((getR S vn).out.1)), (1, iV ((getR S vn).out.2.1)), (2, uV ((getR S vn).out.2.2)), (3, iV ((getR S vn).st)), (4, iV ((getR S vn).why)), (5, iV ((getR S vn).tr)), (6, iV ((getR S vn).nx)), (7, .string (St ((getR S vn).tag)))] [iV ((getR S vn).out.1), iV ((getR S vn).out.2.1), uV ((getR S vn).out.2.2), iV ((getR S vn).st), iV ((getR S vn).why), iV ((getR S vn).tr), iV ((getR S vn).nx), .string (St ((getR S vn).tag))] h20 fun w21 h22 => go [rd 3 0 2 0 8 h22] <| cl0 Tryz.call52 (zres_ht x y z st why tr nx L (by omega) (by omega) (by omega)) h22 fun w23 h24 => go [.s 4 1] ?_
   by_cases c25 : (resE x y z st why tr nx L) = 0
   ·
    refine go [.v 4 1 (nF ((resE x y z st why tr nx L)) 0), rd 6 1 2 0 3 h24, rd 6 3 0 0 3 h24, .s 6 4] ?_
    by_cases c26 : x = (getR S vn).out.1
    ·
     by_cases c27 : y = (getR S vn).out.2.1
     ·
      by_cases c28 : z = (getR S vn).out.2.2
      ·
       refine lwP (.bool false) (qz13e36_neq_t (x := (Operand.tmp 25)) (y := (Operand.tmp 27)) x y z ((getR S vn).out.1) ((getR S vn).out.2.1) ((getR S vn).out.2.2) (by kernel_rfl) (by kernel_rfl) (by kernel_rfl) ⟨(by omega), (by omega), (by omega)⟩ _) <| go [rd 6 7 2 7 1 h24, rd 6 9 0 7 1 h24, .s 6 10] ?_
       by_cases cs29 : L = ((getR S vn).tag : List UInt8)
       ·
        refine lwP (.bool false) (law_neStr (t := 9) (x := (Operand.tmp 31)) (y := (Operand.tmp 33)) (a := L) (b := (getR S vn).tag) (by kernel_rfl) (by kernel_rfl) (by kernel_rfl) false (decide_eq_true cs29) _) ?_
        have h32 := tk4 (sf3 (sf2 (sf3 (sf3 h24))))
        refine go [] <| cP Tryz.call48 ((by have h_ := zdsc_ht b n S hW vn; rw [(show nE S vn = 0 from if_pos (by omega))] at h_; exact h_)) h32 ?_
        rintro v K w33 (⟨p30, c31, rfl, rfl⟩) h34
        have h35 := ap2 h34
        refine go [rd 9 1 3 3 1 h35, .s 9 2] ?_
        by_cases c36 : st = 1
        ·
         refine go [.v 9 2 (nF st 1)] <| nG (fun q_ => .slice (some ⟨q_, 0, none⟩) 0 0) 54 [] h35 (fun r37 w38 h39 => ⟨kd [], ?_⟩)
         obtain ⟨s41, p42, c43, p44, c45, hq46, h47⟩ := zr_open (tk6 (sf5 (sf4 (sf5 (sf5 (sf5 (sf5 h39)))))))
         have hb48 := hq46.1
         have hb49 := hq46.2
         have h51 : sat g w38 [Sl 54 8 (some ⟨r37, 0, none⟩) 0 0 (fl eRs []), Cl b [pV s41, .slice p42 (((allE S.E).length)) c43, .slice p44 S.R.length c45] 78, Zs s41 n S.A, Sl 93 6 p42 (((allE S.E).length)) c43 (fl eE (allE S.E)), Sl 54 8 p44 S.R.length c45 (fl eRs S.R), Sl 25 3 p30 (((descs S.E vn).length)) c31 (fl eO (descs S.E vn)), Cl r18 [iV ((getR S vn).out.1), iV ((getR S vn).out.2.1), uV ((getR S vn).out.2.2), iV ((getR S vn).st), iV ((getR S vn).why), iV ((getR S vn).tr), iV ((getR S vn).nx), .string (St ((getR S vn).tag))] 54, Cl r10 [iV x, iV y, uV z, iV st, iV why, iV tr, iV nx, .string (St L)] 54, R] := sl_of_cl (tk9 (sf8 (sf7 (sf7 (sf7 (sf7 (sf8 (sf8 (sf8 (sf8 h47)))))))))) rfl (by omega)
         refine go [rd 11 5 0 2 1 h47] ?_
         refine actG ?_
         refine an_append_gv (d := 56) (sz := 8) (s := (Operand.tmp 51)) (x := (Operand.tmp 55)) (z := .agg #[iV 0, iV 0, uV 0, iV 0, iV 0, iV 0, iV 0, .string (St [])]) (p := (some ⟨r37, 0, none⟩)) (p2 := p44) (m := 0) (c := 0) (k := S.R.length) (c2 := c45) (by_ := 72) (by kernel_rfl) (by kernel_rfl) rfl Tryz.underlying76 (by kernel_rfl) rfl (by decide) (by kernel_rfl) (by kernel_rfl) h51 4 rfl (fl eRs S.R) (gv_sl _ _ _) (fl_len eRs_ok _) (fl_one eRs_ok _) (by omega) (by omega) S.R.length (by omega) ?_
         intro p52 cap53 w54 h55
         have h56 : sat g w54 [Sl 54 8 p52 S.R.length cap53 (fl eRs S.R), Cl b [pV s41, .slice p42 (((allE S.E).length)) c43, .slice p44 S.R.length c45] 78, Zs s41 n S.A, Sl 93 6 p42 (((allE S.E).length)) c43 (fl eE (allE S.E)), Sl 54 8 p44 S.R.length c45 (fl eRs S.R), Sl 25 3 p30 (((descs S.E vn).length)) c31 (fl eO (descs S.E vn)), Cl r18 [iV ((getR S vn).out.1), iV ((getR S vn).out.2.1), uV ((getR S vn).out.2.2), iV ((getR S vn).st), iV ((getR S vn).why), iV ((getR S vn).tr), iV ((getR S vn).nx), .string (St ((getR S vn).tag))] 54, Cl r10 [iV x, iV y, uV z, iV st, iV why, iV tr, iV nx, .string (St L)] 54, R] := sat_imp h55 (fun _ hh => by exact hh)
         obtain ⟨hn57, hn58⟩ := sl_le h56
         refine nxA ?_
         have h59 := tk9 (sf8 (sf7 (sf8 (sf8 (sf8 (sf8 (sf8 (sf8 (sf8 h56)))))))))
         refine go [] <| sP [(2, .slice p52 S.R.length cap53)] [pV s41, .slice p42 (((allE S.E).length)) c43, .slice p52 S.R.length cap53] h59 fun w60 h61 => go [] <| dw (fls [0, 1, 2, 3, 4, 5, 6, 7] (Tr.an 8 Tr.nil)) h61 fun w62 h63 => ?_
         obtain ⟨b64, hp65⟩ := sl_ptr0 (j := 1) h63 rfl (by omega)
         refine go [rd 12 3 0 2 1 h63, .v 12 5 (oIr (vn - 1)), rd 12 6 7 0 8 h63, .s 12 7] <| lw (.pointer (some ⟨b64, ((vn - 1).toNat) * 8, none⟩)) (fun _ => law_indexSlP (x := (Operand.tmp 62)) (i := (Operand.tmp 64)) (p := p52) (b := b64) (off := 0) (z := (vn - 1)) (len := S.R.length) (cap := cap53) (by kernel_rfl) Tryz.underlying76 8 (by kernel_rfl) (((vn - 1).toNat)) (by kernel_rfl) hp65 (by kernel_rfl) (by omega) (by omega) (((vn - 1).toNat) * 8) (by omega) _) ?_
         have h66 := tk9 (sf8 (sf7 (sf8 (sf8 (sf8 (sf8 (sf8 (sf8 (sf8 h63)))))))))
         refine actG ?_
         have hl69 := fl_n eRs_ok (by decide) h66
         obtain ⟨x70, hx71⟩ : ∃ x, S.R[((vn - 1).toNat)]? = some x := ⟨_, List.getElem?_eq_getElem (by rw [hl69]; omega)⟩
         refine an_storeSl (b := b64) [(((vn - 1).toNat) * 8, iV x), (((vn - 1).toNat) * 8 + 1, iV y), (((vn - 1).toNat) * 8 + 2, uV z), (((vn - 1).toNat) * 8 + 3, iV st), (((vn - 1).toNat) * 8 + 4, iV why), (((vn - 1).toNat) * 8 + 5, iV tr), (((vn - 1).toNat) * 8 + 6, iV nx), (((vn - 1).toNat) * 8 + 7, .string (St L))] (cs' := (fl eRs (S.R.set (((vn - 1).toNat)) (⟨(x, y, z), st, why, tr, nx, L⟩ : Rs)))) (by kernel_rfl) (by kernel_rfl) hp65 (allq ⟨⟨by omega, rfl⟩, ⟨by omega, rfl⟩, ⟨by omega, rfl⟩, ⟨by omega, rfl⟩, ⟨by omega, rfl⟩, ⟨by omega, rfl⟩, ⟨by omega, rfl⟩, ⟨by omega, rfl⟩, trivial⟩) (by omega) (fl_upd eRs_ok (i := ((vn - 1).toNat)) (x := x70) (y := (⟨(x, y, z), st, why, tr, nx, L⟩ : Rs)) hx71 [(0, iV x), (1, iV y), (2, uV z), (3, iV st), (4, iV why), (5, iV tr), (6, iV nx), (7, .string (St L))] rfl rfl rfl) h66 ?_
         intro w67 h68
         refine ⟨kd [], nxN ?_⟩
         refine go [] ?_
         have h73 : sat g w67 [Zr b n S.A (allE S.E) (S.R.set (((vn - 1).toNat)) (⟨(x, y, z), st, why, tr, nx, L⟩ : Rs)), Sl 54 8 p44 S.R.length c45 (fl eRs S.R), Sl 25 3 p30 (((descs S.E vn).length)) c31 (fl eO (descs S.E vn)), Cl r18 [iV ((getR S vn).out.1), iV ((getR S vn).out.2.1), uV ((getR S vn).out.2.2), iV ((getR S vn).st), iV ((getR S vn).why), iV ((getR S vn).tr), iV ((getR S vn).nx), .string (St ((getR S vn).tag))] 54, Cl r10 [iV x, iV y, uV z, iV st, iV why, iV tr, iV nx, .string (St L)] 54, R] := zr_close (by rw [List.length_set]; omega) (by first | rfl | (simp only [List.length_append, List.length_take, List.length_drop, List.length_cons, List.length_nil]; omega) | simp only [List.length_append, List.length_take, List.length_drop, List.length_cons, List.length_nil]) (by rw [List.length_set]) (tk9 (sf8 (sf8 (sf8 (sf5 (sf8 (sf8 (sf8 (sf8 (sf8 h68))))))))))
         have hE_ : setE S vn (⟨(x, y, z), st, why, tr, nx, L⟩ : Rs) = 0 := by unfold setE; rw [if_neg (fun h_ => h_ (show nE S vn = 0 from if_pos (by omega))), if_neg (fun h_ => h_ (show resR (⟨(x, y, z), st, why, tr, nx, L⟩ : Rs) = 0 from (show resE x y z st why tr nx L = 0 from by omega))), if_neg (fun h_ => h_.elim (fun h1_ => h1_ (ky_eq (d := (getR S vn).out) (by omega)).symm) fun h1_ => h1_ (of_decide_eq_true (decide_eq_true cs29))), if_neg (fun h_ => by have h1_ : ¬ st = 1 := h_.1; have h2_ := h_.2; omega)]
         have hS_ : setS S vn (⟨(x, y, z), st, why, tr, nx, L⟩ : Rs) = ⟨S.A, S.E, S.R.set (vn - 1).toNat (⟨(x, y, z), st, why, tr, nx, L⟩ : Rs)⟩ := if_pos hE_
         exact en (iV 0) [] ⟨_, [Zr b n S.A (allE S.E) (S.R.set (((vn - 1).toNat)) (⟨(x, y, z), st, why, tr, nx, L⟩ : Rs))], rfl, ⟨by rw [hE_], by rw [hS_]⟩, (tk2 (sf1 (sf5 h73)))⟩
        refine go [.v 9 2 (nT st 1), .s 9 6] ?_
        by_cases c75 : (((descs S.E vn).length : Nat) : Int) > 0
        ·
         refine go [.v 9 6 (oT ((((descs S.E vn).length : Nat) : Int) > 0))] ?_
         exact en (iV 8) [] ⟨_, [Zr b n S.A (allE S.E) S.R], rfl, ⟨by rw [show setE S vn (⟨(x, y, z), st, why, tr, nx, L⟩ : Rs) = 8 from (by unfold setE; rw [if_neg (fun h_ => h_ (show nE S vn = 0 from if_pos (by omega))), if_neg (fun h_ => h_ (show resR (⟨(x, y, z), st, why, tr, nx, L⟩ : Rs) = 0 from (show resE x y z st why tr nx L = 0 from by omega))), if_neg (fun h_ => h_.elim (fun h1_ => h1_ (ky_eq (d := (getR S vn).out) (by omega)).symm) fun h1_ => h1_ (of_decide_eq_true (decide_eq_true cs29))), if_pos ⟨(show ¬ st = 1 from by omega), by omega⟩])], by rw [set_bad (show setE S vn (⟨(x, y, z), st, why, tr, nx, L⟩ : Rs) = 8 from (by unfold setE; rw [if_neg (fun h_ => h_ (show nE S vn = 0 from if_pos (by omega))), if_neg (fun h_ => h_ (show resR (⟨(x, y, z), st, why, tr, nx, L⟩ : Rs) = 0 from (show resE x y z st why tr nx L = 0 from by omega))), if_neg (fun h_ => h_.elim (fun h1_ => h1_ (ky_eq (d := (getR S vn).out) (by omega)).symm) fun h1_ => h1_ (of_decide_eq_true (decide_eq_true cs29))), if_pos ⟨(show ¬ st = 1 from by omega), by omega⟩])) (by omega)]⟩, (tk2 (sf1 (sf4 h35)))⟩
        refine go [.v 9 6 (oF ((((descs S.E vn).length : Nat) : Int) > 0))] <| nG (fun q_ => .slice (some ⟨q_, 0, none⟩) 0 0) 54 [] h35 (fun r77 w78 h79 => ⟨kd [], ?_⟩)
        obtain ⟨s81, p82, c83, p84, c85, hq86, h87⟩ := zr_open (tk6 (sf5 (sf4 (sf5 (sf5 (sf5 (sf5 h79)))))))
        have hb88 := hq86.1
        have hb89 := hq86.2
        have h91 : sat g w78 [Sl 54 8 (some ⟨r77, 0, none⟩) 0 0 (fl eRs []), Cl b [pV s81, .slice p82 (((allE S.E).length)) c83, .slice p84 S.R.length c85] 78, Zs s81 n S.A, Sl 93 6 p82 (((allE S.E).length)) c83 (fl eE (allE S.E)), Sl 54 8 p84 S.R.length c85 (fl eRs S.R), Sl 25 3 p30 (((descs S.E vn).length)) c31 (fl eO (descs S.E vn)), Cl r18 [iV ((getR S vn).out.1), iV ((getR S vn).out.2.1), uV ((getR S vn).out.2.2), iV ((getR S vn).st), iV ((getR S vn).why), iV ((getR S vn).tr), iV ((getR S vn).nx), .string (St ((getR S vn).tag))] 54, Cl r10 [iV x, iV y, uV z, iV st, iV why, iV tr, iV nx, .string (St L)] 54, R] := sl_of_cl (tk9 (sf8 (sf7 (sf7 (sf7 (sf7 (sf8 (sf8 (sf8 (sf8 h87)))))))))) rfl (by omega)
        refine go [rd 11 5 0 2 1 h87] ?_
        refine actG ?_
        refine an_append_gv (d := 56) (sz := 8) (s := (Operand.tmp 51)) (x := (Operand.tmp 55)) (z := .agg #[iV 0, iV 0, uV 0, iV 0, iV 0, iV 0, iV 0, .string (St [])]) (p := (some ⟨r77, 0, none⟩)) (p2 := p84) (m := 0) (c := 0) (k := S.R.length) (c2 := c85) (by_ := 72) (by kernel_rfl) (by kernel_rfl) rfl Tryz.underlying76 (by kernel_rfl) rfl (by decide) (by kernel_rfl) (by kernel_rfl) h91 4 rfl (fl eRs S.R) (gv_sl _ _ _) (fl_len eRs_ok _) (fl_one eRs_ok _) (by omega) (by omega) S.R.length (by omega) ?_
        intro p92 cap93 w94 h95
        have h96 : sat g w94 [Sl 54 8 p92 S.R.length cap93 (fl eRs S.R), Cl b [pV s81, .slice p82 (((allE S.E).length)) c83, .slice p84 S.R.length c85] 78, Zs s81 n S.A, Sl 93 6 p82 (((allE S.E).length)) c83 (fl eE (allE S.E)), Sl 54 8 p84 S.R.length c85 (fl eRs S.R), Sl 25 3 p30 (((descs S.E vn).length)) c31 (fl eO (descs S.E vn)), Cl r18 [iV ((getR S vn).out.1), iV ((getR S vn).out.2.1), uV ((getR S vn).out.2.2), iV ((getR S vn).st), iV ((getR S vn).why), iV ((getR S vn).tr), iV ((getR S vn).nx), .string (St ((getR S vn).tag))] 54, Cl r10 [iV x, iV y, uV z, iV st, iV why, iV tr, iV nx, .string (St L)] 54, R] := sat_imp h95 (fun _ hh => by exact hh)
        obtain ⟨hn97, hn98⟩ := sl_le h96
        refine nxA ?_
        have h99 := tk9 (sf8 (sf7 (sf8 (sf8 (sf8 (sf8 (sf8 (sf8 (sf8 h96)))))))))
        refine go [] <| sP [(2, .slice p92 S.R.length cap93)] [pV s81, .slice p82 (((allE S.E).length)) c83, .slice p92 S.R.length cap93] h99 fun w100 h101 => go [] <| dw (fls [0, 1, 2, 3, 4, 5, 6, 7] (Tr.an 8 Tr.nil)) h101 fun w102 h103 => ?_
        obtain ⟨b104, hp105⟩ := sl_ptr0 (j := 1) h103 rfl (by omega)
        refine go [rd 12 3 0 2 1 h103, .v 12 5 (oIr (vn - 1)), rd 12 6 7 0 8 h103, .s 12 7] <| lw (.pointer (some ⟨b104, ((vn - 1).toNat) * 8, none⟩)) (fun _ => law_indexSlP (x := (Operand.tmp 62)) (i := (Operand.tmp 64)) (p := p92) (b := b104) (off := 0) (z := (vn - 1)) (len := S.R.length) (cap := cap93) (by kernel_rfl) Tryz.underlying76 8 (by kernel_rfl) (((vn - 1).toNat)) (by kernel_rfl) hp105 (by kernel_rfl) (by omega) (by omega) (((vn - 1).toNat) * 8) (by omega) _) ?_
        have h106 := tk9 (sf8 (sf7 (sf8 (sf8 (sf8 (sf8 (sf8 (sf8 (sf8 h103)))))))))
        refine actG ?_
        have hl109 := fl_n eRs_ok (by decide) h106
        obtain ⟨x110, hx111⟩ : ∃ x, S.R[((vn - 1).toNat)]? = some x := ⟨_, List.getElem?_eq_getElem (by rw [hl109]; omega)⟩
        refine an_storeSl (b := b104) [(((vn - 1).toNat) * 8, iV x), (((vn - 1).toNat) * 8 + 1, iV y), (((vn - 1).toNat) * 8 + 2, uV z), (((vn - 1).toNat) * 8 + 3, iV st), (((vn - 1).toNat) * 8 + 4, iV why), (((vn - 1).toNat) * 8 + 5, iV tr), (((vn - 1).toNat) * 8 + 6, iV nx), (((vn - 1).toNat) * 8 + 7, .string (St L))] (cs' := (fl eRs (S.R.set (((vn - 1).toNat)) (⟨(x, y, z), st, why, tr, nx, L⟩ : Rs)))) (by kernel_rfl) (by kernel_rfl) hp105 (allq ⟨⟨by omega, rfl⟩, ⟨by omega, rfl⟩, ⟨by omega, rfl⟩, ⟨by omega, rfl⟩, ⟨by omega, rfl⟩, ⟨by omega, rfl⟩, ⟨by omega, rfl⟩, ⟨by omega, rfl⟩, trivial⟩) (by omega) (fl_upd eRs_ok (i := ((vn - 1).toNat)) (x := x110) (y := (⟨(x, y, z), st, why, tr, nx, L⟩ : Rs)) hx111 [(0, iV x), (1, iV y), (2, uV z), (3, iV st), (4, iV why), (5, iV tr), (6, iV nx), (7, .string (St L))] rfl rfl rfl) h106 ?_
        intro w107 h108
        refine ⟨kd [], nxN ?_⟩
        refine go [] ?_
        have h113 : sat g w107 [Zr b n S.A (allE S.E) (S.R.set (((vn - 1).toNat)) (⟨(x, y, z), st, why, tr, nx, L⟩ : Rs)), Sl 54 8 p84 S.R.length c85 (fl eRs S.R), Sl 25 3 p30 (((descs S.E vn).length)) c31 (fl eO (descs S.E vn)), Cl r18 [iV ((getR S vn).out.1), iV ((getR S vn).out.2.1), uV ((getR S vn).out.2.2), iV ((getR S vn).st), iV ((getR S vn).why), iV ((getR S vn).tr), iV ((getR S vn).nx), .string (St ((getR S vn).tag))] 54, Cl r10 [iV x, iV y, uV z, iV st, iV why, iV tr, iV nx, .string (St L)] 54, R] := zr_close (by rw [List.length_set]; omega) (by first | rfl | (simp only [List.length_append, List.length_take, List.length_drop, List.length_cons, List.length_nil]; omega) | simp only [List.length_append, List.length_take, List.length_drop, List.length_cons, List.length_nil]) (by rw [List.length_set]) (tk9 (sf8 (sf8 (sf8 (sf5 (sf8 (sf8 (sf8 (sf8 (sf8 h108))))))))))
        have hE_ : setE S vn (⟨(x, y, z), st, why, tr, nx, L⟩ : Rs) = 0 := by unfold setE; rw [if_neg (fun h_ => h_ (show nE S vn = 0 from if_pos (by omega))), if_neg (fun h_ => h_ (show resR (⟨(x, y, z), st, why, tr, nx, L⟩ : Rs) = 0 from (show resE x y z st why tr nx L = 0 from by omega))), if_neg (fun h_ => h_.elim (fun h1_ => h1_ (ky_eq (d := (getR S vn).out) (by omega)).symm) fun h1_ => h1_ (of_decide_eq_true (decide_eq_true cs29))), if_neg (fun h_ => by have h1_ : ¬ st = 1 := h_.1; have h2_ := h_.2; omega)]
        have hS_ : setS S vn (⟨(x, y, z), st, why, tr, nx, L⟩ : Rs) = ⟨S.A, S.E, S.R.set (vn - 1).toNat (⟨(x, y, z), st, why, tr, nx, L⟩ : Rs)⟩ := if_pos hE_
        exact en (iV 0) [] ⟨_, [Zr b n S.A (allE S.E) (S.R.set (((vn - 1).toNat)) (⟨(x, y, z), st, why, tr, nx, L⟩ : Rs))], rfl, ⟨by rw [hE_], by rw [hS_]⟩, (tk2 (sf1 (sf5 h113)))⟩
       refine lwP (.bool true) (law_neStr (t := 9) (x := (Operand.tmp 31)) (y := (Operand.tmp 33)) (a := L) (b := (getR S vn).tag) (by kernel_rfl) (by kernel_rfl) (by kernel_rfl) true ((decide_eq_false cs29).trans rfl) _) <| go [] ?_
       exact en (iV 2) [] ⟨_, [Zr b n S.A (allE S.E) S.R], rfl, ⟨by rw [show setE S vn (⟨(x, y, z), st, why, tr, nx, L⟩ : Rs) = 2 from (by unfold setE; rw [if_neg (fun h_ => h_ (show nE S vn = 0 from if_pos (by omega))), if_neg (fun h_ => h_ (show resR (⟨(x, y, z), st, why, tr, nx, L⟩ : Rs) = 0 from (show resE x y z st why tr nx L = 0 from by omega))), if_pos (.inr (of_decide_eq_false (decide_eq_false cs29)))])], by rw [set_bad (show setE S vn (⟨(x, y, z), st, why, tr, nx, L⟩ : Rs) = 2 from (by unfold setE; rw [if_neg (fun h_ => h_ (show nE S vn = 0 from if_pos (by omega))), if_neg (fun h_ => h_ (show resR (⟨(x, y, z), st, why, tr, nx, L⟩ : Rs) = 0 from (show resE x y z st why tr nx L = 0 from by omega))), if_pos (.inr (of_decide_eq_false (decide_eq_false cs29)))])) (by omega)]⟩, (tk2 (sf1 (sf3 (tk4 (sf3 (sf2 (sf3 (sf3 h24))))))))⟩
      refine lwP (.bool true) (qz13e36_neq_f (x := (Operand.tmp 25)) (y := (Operand.tmp 27)) x y z ((getR S vn).out.1) ((getR S vn).out.2.1) ((getR S vn).out.2.2) (by kernel_rfl) (by kernel_rfl) (by kernel_rfl) (by omega) _) <| go [] ?_
      exact en (iV 2) [] ⟨_, [Zr b n S.A (allE S.E) S.R], rfl, ⟨by rw [show setE S vn (⟨(x, y, z), st, why, tr, nx, L⟩ : Rs) = 2 from (by unfold setE; rw [if_neg (fun h_ => h_ (show nE S vn = 0 from if_pos (by omega))), if_neg (fun h_ => h_ (show resR (⟨(x, y, z), st, why, tr, nx, L⟩ : Rs) = 0 from (show resE x y z st why tr nx L = 0 from by omega))), if_pos (.inl fun h_ => by have h2_ := ky_of h_.symm; omega)])], by rw [set_bad (show setE S vn (⟨(x, y, z), st, why, tr, nx, L⟩ : Rs) = 2 from (by unfold setE; rw [if_neg (fun h_ => h_ (show nE S vn = 0 from if_pos (by omega))), if_neg (fun h_ => h_ (show resR (⟨(x, y, z), st, why, tr, nx, L⟩ : Rs) = 0 from (show resE x y z st why tr nx L = 0 from by omega))), if_pos (.inl fun h_ => by have h2_ := ky_of h_.symm; omega)])) (by omega)]⟩, (tk2 (sf1 (sf3 (tk4 (sf3 (sf2 (sf3 (sf3 h24))))))))⟩
     refine lwP (.bool true) (qz13e36_neq_f (x := (Operand.tmp 25)) (y := (Operand.tmp 27)) x y z ((getR S vn).out.1) ((getR S vn).out.2.1) ((getR S vn).out.2.2) (by kernel_rfl) (by kernel_rfl) (by kernel_rfl) (by omega) _) <| go [] ?_
     exact en (iV 2) [] ⟨_, [Zr b n S.A (allE S.E) S.R], rfl, ⟨by rw [show setE S vn (⟨(x, y, z), st, why, tr, nx, L⟩ : Rs) = 2 from (by unfold setE; rw [if_neg (fun h_ => h_ (show nE S vn = 0 from if_pos (by omega))), if_neg (fun h_ => h_ (show resR (⟨(x, y, z), st, why, tr, nx, L⟩ : Rs) = 0 from (show resE x y z st why tr nx L = 0 from by omega))), if_pos (.inl fun h_ => by have h2_ := ky_of h_.symm; omega)])], by rw [set_bad (show setE S vn (⟨(x, y, z), st, why, tr, nx, L⟩ : Rs) = 2 from (by unfold setE; rw [if_neg (fun h_ => h_ (show nE S vn = 0 from if_pos (by omega))), if_neg (fun h_ => h_ (show resR (⟨(x, y, z), st, why, tr, nx, L⟩ : Rs) = 0 from (show resE x y z st why tr nx L = 0 from by omega))), if_pos (.inl fun h_ => by have h2_ := ky_of h_.symm; omega)])) (by omega)]⟩, (tk2 (sf1 (sf3 (tk4 (sf3 (sf2 (sf3 (sf3 h24))))))))⟩
    refine lwP (.bool true) (qz13e36_neq_f (x := (Operand.tmp 25)) (y := (Operand.tmp 27)) x y z ((getR S vn).out.1) ((getR S vn).out.2.1) ((getR S vn).out.2.2) (by kernel_rfl) (by kernel_rfl) (by kernel_rfl) (by omega) _) <| go [] ?_
    exact en (iV 2) [] ⟨_, [Zr b n S.A (allE S.E) S.R], rfl, ⟨by rw [show setE S vn (⟨(x, y, z), st, why, tr, nx, L⟩ : Rs) = 2 from (by unfold setE; rw [if_neg (fun h_ => h_ (show nE S vn = 0 from if_pos (by omega))), if_neg (fun h_ => h_ (show resR (⟨(x, y, z), st, why, tr, nx, L⟩ : Rs) = 0 from (show resE x y z st why tr nx L = 0 from by omega))), if_pos (.inl fun h_ => by have h2_ := ky_of h_.symm; omega)])], by rw [set_bad (show setE S vn (⟨(x, y, z), st, why, tr, nx, L⟩ : Rs) = 2 from (by unfold setE; rw [if_neg (fun h_ => h_ (show nE S vn = 0 from if_pos (by omega))), if_neg (fun h_ => h_ (show resR (⟨(x, y, z), st, why, tr, nx, L⟩ : Rs) = 0 from (show resE x y z st why tr nx L = 0 from by omega))), if_pos (.inl fun h_ => by have h2_ := ky_of h_.symm; omega)])) (by omega)]⟩, (tk2 (sf1 (sf3 (tk4 (sf3 (sf2 (sf3 (sf3 h24))))))))⟩
   refine go [.v 4 1 (nT ((resE x y z st why tr nx L)) 0)] ?_
   exact en (iV ((resE x y z st why tr nx L))) [] ⟨_, [Zr b n S.A (allE S.E) S.R], rfl, ⟨by rw [show setE S vn (⟨(x, y, z), st, why, tr, nx, L⟩ : Rs) = resE x y z st why tr nx L from (by unfold setE; rw [if_neg (fun h_ => h_ (show nE S vn = 0 from if_pos (by omega))), if_pos (show ¬ resR (⟨(x, y, z), st, why, tr, nx, L⟩ : Rs) = 0 from (show ¬ (resE x y z st why tr nx L) = 0 from by omega))] <;> rfl)], by rw [set_bad (show setE S vn (⟨(x, y, z), st, why, tr, nx, L⟩ : Rs) = resE x y z st why tr nx L from (by unfold setE; rw [if_neg (fun h_ => h_ (show nE S vn = 0 from if_pos (by omega))), if_pos (show ¬ resR (⟨(x, y, z), st, why, tr, nx, L⟩ : Rs) = 0 from (show ¬ (resE x y z st why tr nx L) = 0 from by omega))] <;> rfl)) (by omega)]⟩, (tk2 (sf1 (sf3 (tk4 (sf3 (sf2 (sf3 (sf3 h24))))))))⟩
  refine cl1 Tryz.call51 ((by have h_ := zget_ht b n S vn; rw [(show nE S vn = 3 from if_neg (by omega))] at h_; exact h_)) (tk3 (sf2 (sf1 (sf2 h12)))) fun w126 h127 => ?_
  refine go [] <| nP 54 [iV 0, iV 0, uV 0, iV 0, iV 0, iV 0, iV 0, .string (St [])] h127 (fun r128 w129 h130 => ?_)
  refine sP [(0, iV ((getR S vn).out.1)), (1, iV ((getR S vn).out.2.1)), (2, uV ((getR S vn).out.2.2)), (3, iV ((getR S vn).st)), (4, iV ((getR S vn).why)), (5, iV ((getR S vn).tr)), (6, iV ((getR S vn).nx)), (7, .string (St ((getR S vn).tag)))] [iV ((getR S vn).out.1), iV ((getR S vn).out.2.1), uV ((getR S vn).out.2.2), iV ((getR S vn).st), iV ((getR S vn).why), iV ((getR S vn).tr), iV ((getR S vn).nx), .string (St ((getR S vn).tag))] h130 fun w131 h132 => go [] ?_
  exact en (iV 3) [] ⟨_, [Zr b n S.A (allE S.E) S.R], rfl, ⟨by rw [show setE S vn (⟨(x, y, z), st, why, tr, nx, L⟩ : Rs) = 3 from (if_pos (by rw [show nE S vn = 3 from if_neg (by omega)]; decide))], by rw [set_bad (show setE S vn (⟨(x, y, z), st, why, tr, nx, L⟩ : Rs) = 3 from (if_pos (by rw [show nE S vn = 3 from if_neg (by omega)]; decide))) (by omega)]⟩, (tk2 (sf1 (sf3 (tk4 (sf3 (sf2 (sf3 (sf3 h132))))))))⟩
 refine cl1 Tryz.call51 ((by have h_ := zget_ht b n S vn; rw [(show nE S vn = 3 from if_neg (by omega))] at h_; exact h_)) (tk3 (sf2 (sf1 (sf2 h12)))) fun w136 h137 => ?_
 refine go [] <| nP 54 [iV 0, iV 0, uV 0, iV 0, iV 0, iV 0, iV 0, .string (St [])] h137 (fun r138 w139 h140 => ?_)
 refine sP [(0, iV ((getR S vn).out.1)), (1, iV ((getR S vn).out.2.1)), (2, uV ((getR S vn).out.2.2)), (3, iV ((getR S vn).st)), (4, iV ((getR S vn).why)), (5, iV ((getR S vn).tr)), (6, iV ((getR S vn).nx)), (7, .string (St ((getR S vn).tag)))] [iV ((getR S vn).out.1), iV ((getR S vn).out.2.1), uV ((getR S vn).out.2.2), iV ((getR S vn).st), iV ((getR S vn).why), iV ((getR S vn).tr), iV ((getR S vn).nx), .string (St ((getR S vn).tag))] h140 fun w141 h142 => go [] ?_
 exact en (iV 3) [] ⟨_, [Zr b n S.A (allE S.E) S.R], rfl, ⟨by rw [show setE S vn (⟨(x, y, z), st, why, tr, nx, L⟩ : Rs) = 3 from (if_pos (by rw [show nE S vn = 3 from if_neg (by omega)]; decide))], by rw [set_bad (show setE S vn (⟨(x, y, z), st, why, tr, nx, L⟩ : Rs) = 3 from (if_pos (by rw [show nE S vn = 3 from if_neg (by omega)]; decide))) (by omega)]⟩, (tk2 (sf1 (sf3 (tk4 (sf3 (sf2 (sf3 (sf3 h142))))))))⟩

end Go.Proofs.YtjjpmehiolejgaaGreat
