/-
  A map that is being copied, entry by entry. No program in sight.
-/
import Derived.Test.YtjjpmehiolejgaaBundle24
import Derived.Test.YtjjpmehiolejgaaMrg
import Derived.Test.YtjjpmehiolejgaaBundle26
import Derived.Test.YtjjpmehiolejgaaBundle21
namespace Go.Proofs.Ytjjpmehiolejgaa
/-- All but the entries S of E0 are in Ec. -/
structure Part (E0 S Ec : Tm) : Prop where
  k0 : KN E0
  kc : KN Ec
  ks : KN S
  mem : ∀ q ∈ S, gget E0 q.1 = some q.2
  has : ∀ k : Int, gget Ec k = if k ∈ S.map (·.1) then none else gget E0 k
def dropK (S : Ts) (v : Int) (k : Nat) : Ts := ((descs S.E v).take k).foldl dropS S
theorem dropK_go {S : Ts} {v : Int} {k : Nat} {x : Ky} (hx : (descs S.E v)[k]? = some x) : dropS (dropK S v k) x = dropK S v (k + 1) := by
  unfold dropK
  rw [List.take_add_one, hx, List.foldl_append]
  rfl
theorem dropK_all (S : Ts) (v : Int) {k : Nat} (hk : k = (descs S.E v).length) : dropK S v k = expS S v := by
  subst hk
  unfold dropK expS
  rw [List.take_length]
theorem drops_get {y : Int} : ∀ {D : List Ky} {S : Ts}, (∀ d ∈ D, d.2.1 ≠ y) → gget (D.foldl dropS S).E y = gget S.E y
  | [], _, _ => rfl
  | d :: D, S, h => by
    have h1 := drops_get (D := D) (S := dropS S d) (y := y) fun d2 hd2 => h d2 (List.mem_cons_of_mem _ hd2)
    rw [List.foldl_cons, h1]
    unfold dropS
    simp only
    rw [gget_del (Ne.symm (h d List.mem_cons_self))]
theorem drops_R : ∀ {D : List Ky} {S : Ts}, (D.foldl dropS S).R = S.R
  | [], _ => rfl
  | d :: D, S => by rw [List.foldl_cons, drops_R]; rfl
theorem descs_at {n : Nat} {S : Ts} (W : Wf n S) {v : Int} {x : Ky} (hx : x ∈ descs S.E v) : ∃ e, gget S.E x.2.1 = some e ∧ e.d = x ∧ e.num = v := by
  obtain ⟨e, h1, h2, h3⟩ := mem_descs.1 hx
  exact ⟨e, by rw [← h3]; exact wf_mem W h1, h3, h2⟩
theorem dropK_at {n : Nat} {S : Ts} (W : Wf n S) {v : Int} {k : Nat} {x : Ky} (hx : (descs S.E v)[k]? = some x) : ∃ e, gget (dropK S v k).E x.2.1 = some e ∧ e.d = x := by
  obtain ⟨e, h1, h2, _⟩ := descs_at W (List.mem_of_getElem? hx)
  refine ⟨e, ?_, h2⟩
  unfold dropK
  rw [drops_get, h1]
  intro d hd
  obtain ⟨j, hj⟩ := List.getElem?_of_mem hd
  have hjk : j < k := by
    have := (List.getElem?_eq_some_iff.1 hj).1
    rw [List.length_take] at this
    omega
  rw [List.getElem?_take_of_lt hjk] at hj
  have hp := List.pairwise_iff_getElem.1 (descs_lt W v) j k (by rw [List.length_map]; exact (List.getElem?_eq_some_iff.1 hj).1) (by rw [List.length_map]; exact (List.getElem?_eq_some_iff.1 hx).1) hjk
  rw [List.getElem_map, List.getElem_map, (List.getElem?_eq_some_iff.1 hj).2, (List.getElem?_eq_some_iff.1 hx).2] at hp
  omega
theorem gen_ok {n : Nat} {S : Ts} (W : Wf n S) {e : Ety} {k : Int} (h : gget S.E k = some e) : 0 ≤ e.d.2.2 ∧ e.d.2.2 ≤ 4294967295 := by
  obtain ⟨q, _, _, h2⟩ := wf_slot W h
  have := W.ok _ (List.mem_of_getElem? h2)
  simp only at this
  omega
theorem desc_ok {n : Nat} {S : Ts} (W : Wf n S) {v : Int} {x : Ky} (hx : x ∈ descs S.E v) : 0 ≤ x.2.2 ∧ x.2.2 ≤ 4294967295 := by
  obtain ⟨e, h1, h2, _⟩ := descs_at W hx
  have := gen_ok W h1
  rw [h2] at this
  exact this
theorem numsT_go {R : List Rs} {st : Int} {k : Nat} {r : Rs} (hr : R[k]? = some r) (h : r.st = st) : numsT R st k ++ [(k : Int) + 1] = numsT R st (k + 1) := by
  unfold numsT
  rw [List.range_succ, List.filter_append, List.map_append]
  simp [hr, h]
theorem numsT_no {R : List Rs} {st : Int} {k : Nat} {r : Rs} (hr : R[k]? = some r) (h : r.st ≠ st) : numsT R st k = numsT R st (k + 1) := by
  unfold numsT
  rw [List.range_succ, List.filter_append, List.map_append]
  simp [hr, h]
theorem numsT_len (R : List Rs) (st : Int) (k : Nat) : (numsT R st k).length ≤ k := by
  unfold numsT
  rw [List.length_map]
  have := List.length_filter_le (fun i => (R[i]?).any fun r => r.st == st) (List.range k)
  rw [List.length_range] at this
  exact this
theorem descs_len (E : Tm) (v : Int) : (descs E v).length ≤ 256 := by
  have h1 := (descs_sub E v).length_le
  rw [List.length_map] at h1
  have h2 := cntE_le E 256
  unfold allE at h1
  omega
theorem set_bad {S : Ts} {v : Int} {r : Rs} {e : Int} (h : setE S v r = e) (he : e ≠ 0) : setS S v r = S := by
  unfold setS
  rw [if_neg (by omega)]
end Go.Proofs.Ytjjpmehiolejgaa

/- Walks, printed by my generator gen22.py. -/
namespace Go.Proofs.Ytjjpmehiolejgaa
set_option maxHeartbeats 4000000 in
theorem texp_w (b n : Nat) (S : Ts) (vn : Int) : HT Try.prog 31 [Value.pointer (some ⟨b, 0, none⟩), Value.int IntKind.i64 vn] [TW b n S] (fun v K => ∃ (p : Option Addr) (c : Nat), v = Value.tuple #[Value.slice p (((descs S.E vn).length)) c, Value.int IntKind.i64 ((nE S vn))] ∧ K = [TW b n (expS S vn), Sl 28 3 p (((descs S.E vn).length)) c (fl eO (descs S.E vn))]) := by
 refine hi_in 28 ([(0, pV b), (1, iV vn)] : Fr) Try.func31 (by kernel_rfl) Try.ntmps31 rfl rfl ?_
 intro g w0 R h0
 have hW_ := (wi_out h0).1
 have hdl_ := descs_len S.E vn
 refine ySq ?_
 refine yPl [0, 1] ?_
 refine yB0 [] [0, 1] [(5, iV 0), (4, .slice none 0 0)] (.mk ?_)
 refine yK [(0, pV b), (1, iV vn)] fun lr1 => ?_
 refine ySq ?_
 refine yPl [0, 1, 2, 3, 4, 5, 6, 7] ?_
 refine yB0 [2, 3, 4, 5, 6, 7] [0, 1] [(12, iV vn), (11, pV b)] ?_
 refine yA ?_
 refine yCl 13 Try.call21 (tdescs_w b n S vn) h0 ?_
 rintro v K w4 (⟨p2, c3, rfl, rfl⟩) h5
 refine ⟨_, rfl, ?_⟩
 have h6 := ap2 h5
 refine yB0 [] [3, 4, 5, 6, 7] [(7, iV ((nE S vn))), (6, .slice p2 (((descs S.E vn).length)) c3), (15, iV ((nE S vn))), (14, .slice p2 (((descs S.E vn).length)) c3), (10, .tuple #[.slice p2 (((descs S.E vn).length)) c3, iV ((nE S vn))])] (.mk ?_)
 refine yK [(0, pV b), (6, .slice p2 (((descs S.E vn).length)) c3), (7, iV ((nE S vn)))] fun lr7 => ?_
 refine ySq ?_
 refine ySq ?_
 refine yPl [0, 1, 2] ?_
 refine yB0 [] [0, 1, 2] [(18, iV 0), (17, iV ((((descs S.E vn).length : Nat) : Int))), (16, .slice p2 (((descs S.E vn).length)) c3)] (.mk ?_)
 refine yK [(0, pV b), (6, .slice p2 (((descs S.E vn).length)) c3), (7, iV ((nE S vn))), (16, .slice p2 (((descs S.E vn).length)) c3), (17, iV ((((descs S.E vn).length : Nat) : Int))), (18, iV 0)] fun lr8 => ?_
 refine yBk 0 ?_
 have h9 := tk3 (sf2 (sf1 (sf2 h6)))
 have hl10 := fl_n eO_ok (by decide) h9
 have h11 := tk3 (sf2 (sf1 (sf2 h9)))
 refine gi_lp (x := CA Try.f31 [1, 1, 0, 1, 0, 0]) (by kernel_rfl) (fun mz_ a w => ∃ k : Nat, ∃ lr : Fr, mz_ = ((descs S.E vn).length) - k ∧ (k ≤ (descs S.E vn).length) ∧ a = mk 28 (([(0, pV b), (6, .slice p2 (((descs S.E vn).length)) c3), (7, iV ((nE S vn))), (16, .slice p2 (((descs S.E vn).length)) c3), (17, iV ((((descs S.E vn).length : Nat) : Int))), (18, iV (k : Int))] : Fr) ++ lr) ∧ sat g w [TW b n (dropK S vn k), Sl 28 3 p2 (((descs S.E vn).length)) c3 (fl eO (descs S.E vn)), R]) ((descs S.E vn).length - 0) ⟨0, _, rfl, (Nat.zero_le _), (mk_live [(0, pV b), (6, .slice p2 (((descs S.E vn).length)) c3), (7, iV ((nE S vn))), (16, .slice p2 (((descs S.E vn).length)) c3), (17, iV ((((descs S.E vn).length : Nat) : Int))), (18, iV (0 : Int))] ⟨rfl, rfl, rfl, rfl, rfl, (ov_int (by omega)), trivial⟩), h11⟩ ?_
 rintro m13 a14 w15 ⟨k, lr12, rfl, hk, rfl, h16⟩
 refine ySq ?_
 refine yPl [0] ?_
 by_cases c17 : (k : Int) < (((descs S.E vn).length : Nat) : Int)
 ·
  refine yBb [] [(19, .bool true)] [e1 0 (.bool true)] [] [(.bool (decide ((k : Int) < (((descs S.E vn).length : Nat) : Int))), .bool true)] ⟨(ov_t (by omega)), trivial⟩ nC (.mk ?_)
  refine yK [(0, pV b), (6, .slice p2 (((descs S.E vn).length)) c3), (7, iV ((nE S vn))), (16, .slice p2 (((descs S.E vn).length)) c3), (17, iV ((((descs S.E vn).length : Nat) : Int))), (18, iV (k : Int)), (19, .bool true)] fun lr18 => ?_
  refine ySq ?_
  refine yCt ?_
  refine ySk ?_
  refine ySq ?_
  refine yBk 1 ?_
  refine ySq ?_
  refine yPl [0, 1, 2, 3] ?_
  obtain ⟨b19, hp20⟩ := sl_ptr0 (j := 1) h16 rfl (by omega)
  refine plain_law (i := 0) 20 (.pointer (some ⟨b19, k * 3, none⟩)) (by kernel_rfl) (law_indexSlP (o := opA (RA Try.f31 [1, 1, 0, 1, 0, 0, 1, 1, 0, 0, 0]) 0) (x := (Operand.tmp 16)) (i := (Operand.tmp 18)) (p := p2) (b := b19) (off := 0) (z := (k : Int)) (len := (((descs S.E vn).length))) (cap := c3) (by kernel_rfl) Try.underlying45 3 (by kernel_rfl) k (by kernel_rfl) hp20 (by kernel_rfl) (by omega) (by omega) (k * 3) (by omega) _) ?_
  obtain ⟨x21, hx22⟩ : ∃ x, (descs S.E vn)[k]? = some x := ⟨_, List.getElem?_eq_getElem (by rw [hl10]; omega)⟩
  obtain ⟨e23, he24, hd25⟩ := dropK_at hW_ hx22
  have hb26 := desc_ok hW_ (List.mem_of_getElem? hx22)
  refine yBb [2, 3] [(21, .agg #[iV x21.1, iV x21.2.1, uV x21.2.2])] [e2 1 [iV x21.1, iV x21.2.1, uV x21.2.2]] [(1, ⟨b19, k * 3, none⟩, iV x21.1), (1, ⟨b19, k * 3 + 1, none⟩, iV x21.2.1), (1, ⟨b19, k * 3 + 2, none⟩, uV x21.2.2)] [] trivial (kC (gv_cell (j := 1) h16 rfl (gv_sl _ _ _) hp20 (fl_get eO_ok (j := 0) (v := iV x21.1) hx22 rfl) (k * 3) (by omega)) (kC (gv_cell (j := 1) h16 rfl (gv_sl _ _ _) hp20 (fl_get eO_ok (j := 1) (v := iV x21.2.1) hx22 rfl) (k * 3 + 1) (by omega)) (kC (gv_cell (j := 1) h16 rfl (gv_sl _ _ _) hp20 (fl_get eO_ok (j := 2) (v := uV x21.2.2) hx22 rfl) (k * 3 + 2) (by omega)) nC))) ?_
  refine yA ?_
  refine yNp 9 28 [iV 0, iV 0, uV 0] h16 fun r27 w28 h29 => ?_
  refine yA ?_
  refine yS [(0, iV x21.1), (1, iV x21.2.1), (2, uV x21.2.2)] [iV x21.1, iV x21.2.1, uV x21.2.2] h29 fun w30 h31 => ?_
  refine PO.mk ?_
  refine yK [(0, pV b), (6, .slice p2 (((descs S.E vn).length)) c3), (7, iV ((nE S vn))), (9, pV r27), (16, .slice p2 (((descs S.E vn).length)) c3), (17, iV ((((descs S.E vn).length : Nat) : Int))), (18, iV (k : Int))] fun lr32 => ?_
  refine yPl [0, 1, 2] ?_
  refine yBb [2] [(23, .agg #[iV x21.1, iV x21.2.1, uV x21.2.2]), (22, pV b)] [e0 0, e2 1 [iV x21.1, iV x21.2.1, uV x21.2.2]] [(1, ⟨r27, 0, none⟩, iV x21.1), (1, ⟨r27, 1, none⟩, iV x21.2.1), (1, ⟨r27, 2, none⟩, uV x21.2.2)] [] trivial (kC (sat_cell h31 0 rfl rfl) (kC (sat_cell h31 0 rfl rfl) (kC (sat_cell h31 0 rfl rfl) nC))) ?_
  have h33 := tk4 (sf3 (sf2 (sf3 (sf3 h31))))
  refine yA ?_
  refine yCl 24 Try.call45 (tdrop_w b n (dropK S vn k) x21.1 x21.2.1 x21.2.2 (by omega) (by omega) e23 he24 hd25) h33 ?_
  rintro v K w34 (⟨rfl, rfl⟩) h35
  refine ⟨_, rfl, ?_⟩
  have h36 := ap1 h35
  refine PO.mk ?_
  refine yK [(0, pV b), (6, .slice p2 (((descs S.E vn).length)) c3), (7, iV ((nE S vn))), (16, .slice p2 (((descs S.E vn).length)) c3), (17, iV ((((descs S.E vn).length : Nat) : Int))), (18, iV (k : Int))] fun lr37 => ?_
  refine yPl [0, 1] ?_
  refine yBb [] [(18, iV ((k : Int) + 1)), (25, iV ((k : Int) + 1))] [e1 0 (iV ((k : Int) + 1)), e0 1] [] [(iV (IntKind.wrap .i64 ((k : Int) + 1)), iV ((k : Int) + 1))] ⟨(ov_i64 (by omega) (by omega) (by omega)), trivial⟩ nC (.mk ?_)
  have h38 : sat g w34 [TW b n (dropK S vn (k + 1)), Cl r27 [iV x21.1, iV x21.2.1, uV x21.2.2] 28, Sl 28 3 p2 (((descs S.E vn).length)) c3 (fl eO (descs S.E vn)), R] := (show (dropS (dropK S vn k) x21) = dropK S vn (k + 1) from dropK_go hx22) ▸ h36
  have h39 := tk4 (sf3 (sf3 (sf3 (sf1 h38))))
  have h40 := tk3 h39
  change ∃ n', n' < _ ∧ _
  refine ⟨((descs S.E vn).length - (k + 1)), by omega, (k + 1), _, rfl, (by omega), (mk_live [(0, pV b), (6, .slice p2 (((descs S.E vn).length)) c3), (7, iV ((nE S vn))), (16, .slice p2 (((descs S.E vn).length)) c3), (17, iV ((((descs S.E vn).length : Nat) : Int))), (18, iV ((((k + 1) : Nat) : Int)))] ⟨rfl, rfl, rfl, rfl, rfl, (ov_int (by omega)), trivial⟩), h40⟩
 ·
  refine yBb [] [(19, .bool false)] [e1 0 (.bool false)] [] [(.bool (decide ((k : Int) < (((descs S.E vn).length : Nat) : Int))), .bool false)] ⟨(ov_f (by omega)), trivial⟩ nC (.mk ?_)
  refine yK [(0, pV b), (6, .slice p2 (((descs S.E vn).length)) c3), (7, iV ((nE S vn))), (16, .slice p2 (((descs S.E vn).length)) c3), (17, iV ((((descs S.E vn).length : Nat) : Int))), (18, iV (k : Int)), (19, .bool false)] fun lr41 => ?_
  refine ySq ?_
  refine yCf ?_
  refine yEx 0 ?_
  refine ySq ?_
  refine yPl [0, 1, 2, 3] ?_
  refine yB0 [] [0, 1, 2, 3] [(5, iV ((nE S vn))), (4, .slice p2 (((descs S.E vn).length)) c3), (27, iV ((nE S vn))), (26, .slice p2 (((descs S.E vn).length)) c3)] (.mk ?_)
  refine yK [(4, .slice p2 (((descs S.E vn).length)) c3), (5, iV ((nE S vn)))] fun lr42 => ?_
  refine yRt ?_
  repeat (first | simp only [Exit.inBlock] | simp only [Exit.then])
  have h43 : sat g w15 [TW b n (expS S vn), Sl 28 3 p2 (((descs S.E vn).length)) c3 (fl eO (descs S.E vn)), R] := (show (dropK S vn k) = expS S vn from dropK_all S vn (by omega)) ▸ h16
  refine hi_out [] (.tuple #[.slice p2 (((descs S.E vn).length)) c3, iV ((nE S vn))]) [] (by kernel_rfl) (by intro q hq; cases hq) ?_
  exact ⟨.tuple #[.slice p2 (((descs S.E vn).length)) c3, iV ((nE S vn))], [TW b n (expS S vn), Sl 28 3 p2 (((descs S.E vn).length)) c3 (fl eO (descs S.E vn))], rfl, ⟨p2, c3, rfl, rfl⟩, h43⟩

set_option maxHeartbeats 4000000 in
theorem tnums_ht (b n : Nat) (A : List Sl2) (E : Tm) (RL : List Rs) (vn : Int) : HT Try.prog 28 [Value.pointer (some ⟨b, 0, none⟩), Value.int IntKind.i64 vn] [Tab b n A E RL] (fun v K => ∃ (p : Option Addr) (c : Nat), v = Value.slice p (((nums RL vn).length)) c ∧ K = [Tab b n A E RL, Sl 3 1 p (((nums RL vn).length)) c (fl eI (nums RL vn))]) := by
 refine hi_in 32 ([(0, pV b), (1, iV vn)] : Fr) Try.func28 (by kernel_rfl) Try.ntmps28 rfl rfl ?_
 intro g w0 R h0
 refine ySq ?_
 refine yPl [0] ?_
 refine yB0 [] [0] [(4, .slice none 0 0)] (.mk ?_)
 refine yK [(0, pV b), (1, iV vn)] fun lr1 => ?_
 refine ySq ?_
 refine ySq ?_
 refine yPl [0, 1, 2] ?_
 refine yB0 [1, 2] [0] [(8, pV b)] ?_
 refine yA ?_
 refine yCl 9 Try.call36 (tvalid_ht b n A E RL) h0 ?_
 rintro v K w2 (⟨rfl, rfl⟩) h3
 refine ⟨_, rfl, ?_⟩
 have h4 := ap1 h3
 refine yB0 [] [2] [(10, .bool false)] (.mk ?_)
 refine yK [(0, pV b), (1, iV vn), (10, .bool false)] fun lr5 => ?_
 refine yCf ?_
 refine ySk ?_
 refine ySq ?_
 refine yPl [0] ?_
 refine yB0 [] [0] [(5, .slice none 0 0)] (.mk ?_)
 refine yK [(0, pV b), (1, iV vn), (5, .slice none 0 0)] fun lr6 => ?_
 refine ySq ?_
 refine ySq ?_
 refine yPl [0, 1, 2, 3, 4, 5] ?_
 obtain ⟨s7, m8, p9, c10, E11, hM12, h13⟩ := tab_open h4
 have hRl_ := hM12.2
 refine yBb [] [(16, iV 0), (15, iV (((RL.length : Nat) : Int))), (14, .slice p9 RL.length c10), (13, .pointer (some ⟨b, 2, none⟩)), (12, pV b), (11, pV b)] [e0 0, e0 1, e0 2, e2 3 [.slice p9 RL.length c10], e0 4, e0 5] [(3, ⟨b, 2, none⟩, .slice p9 RL.length c10)] [] trivial (kC (sat_cell h13 0 rfl rfl) nC) (.mk ?_)
 refine yK [(1, iV vn), (5, .slice none 0 0), (14, .slice p9 RL.length c10), (15, iV (((RL.length : Nat) : Int))), (16, iV 0)] fun lr14 => ?_
 refine yBk 0 ?_
 have h15 := tk5 (sf4 (sf3 (sf3 (sf3 (sf4 h13)))))
 have hl16 := fl_n eRs_ok (by decide) h15
 have h17 : sat g w2 [Sl 3 1 none 0 0 (fl eI []), Sl 42 8 p9 RL.length c10 (fl eRs RL), Cl b [pV s7, .map (some m8), .slice p9 RL.length c10] 76, Tb s7 n A, Gp kI vE m8 E11, R] := sl_nil 3 1 h15
 refine gi_lp (x := CA Try.f28 [1, 1, 1, 0, 1, 0, 0]) (by kernel_rfl) (fun mz_ a w => ∃ k : Nat, ∃ p2 : Option Addr, ∃ m2 : Nat, ∃ c2 : Nat, ∃ lr : Fr, mz_ = RL.length - k ∧ (k ≤ RL.length) ∧ (m2 ≤ k) ∧ a = mk 32 (([(1, iV vn), (5, .slice p2 m2 c2), (14, .slice p9 RL.length c10), (15, iV (((RL.length : Nat) : Int))), (16, iV (k : Int))] : Fr) ++ lr) ∧ sat g w [Sl 3 1 p2 m2 c2 (fl eI (numsT RL vn k)), Sl 42 8 p9 RL.length c10 (fl eRs RL), Cl b [pV s7, .map (some m8), .slice p9 RL.length c10] 76, Tb s7 n A, Gp kI vE m8 E11, R]) (RL.length - 0) ⟨0, none, 0, 0, _, rfl, (Nat.zero_le _), (Nat.le_refl _), (mk_live [(1, iV vn), (5, .slice none 0 0), (14, .slice p9 RL.length c10), (15, iV (((RL.length : Nat) : Int))), (16, iV (0 : Int))] ⟨rfl, rfl, rfl, rfl, (ov_int (by omega)), trivial⟩), h17⟩ ?_
 rintro m19 a20 w21 ⟨k, p2, m2, c2, lr18, rfl, hk, hm2, rfl, h22⟩
 refine ySq ?_
 refine yPl [0] ?_
 by_cases c23 : (k : Int) < ((RL.length : Nat) : Int)
 ·
  refine yBb [] [(17, .bool true)] [e1 0 (.bool true)] [] [(.bool (decide ((k : Int) < ((RL.length : Nat) : Int))), .bool true)] ⟨(ov_t (by omega)), trivial⟩ nC (.mk ?_)
  refine yK [(1, iV vn), (5, .slice p2 m2 c2), (14, .slice p9 RL.length c10), (15, iV (((RL.length : Nat) : Int))), (16, iV (k : Int)), (17, .bool true)] fun lr24 => ?_
  refine ySq ?_
  refine yCt ?_
  refine ySk ?_
  refine ySq ?_
  refine yBk 1 ?_
  refine ySq ?_
  refine yPl [0, 1, 2, 3, 4, 5] ?_
  obtain ⟨b25, hp26⟩ := sl_ptr0 (j := 1) h22 rfl (by omega)
  refine yB0 [1, 2, 3, 4, 5] [0] [(18, iV (k : Int))] ?_
  refine plain_law (i := 1) 19 (.pointer (some ⟨b25, k * 8, none⟩)) (by kernel_rfl) (law_indexSlP (o := opA (RA Try.f28 [1, 1, 1, 0, 1, 0, 0, 1, 1, 0, 0, 0]) 1) (x := (Operand.tmp 14)) (i := (Operand.tmp 16)) (p := p9) (b := b25) (off := 0) (z := (k : Int)) (len := RL.length) (cap := c10) (by kernel_rfl) Try.underlying74 8 (by kernel_rfl) k (by kernel_rfl) hp26 (by kernel_rfl) (by omega) (by omega) (k * 8) (by omega) _) ?_
  obtain ⟨x27, hx28⟩ : ∃ x, RL[k]? = some x := ⟨_, List.getElem?_eq_getElem (by rw [hl16]; omega)⟩
  refine yBb [3, 4, 5] [(20, .agg #[iV x27.out.1, iV x27.out.2.1, uV x27.out.2.2, iV x27.st, iV x27.why, iV x27.tr, iV x27.nx, .string (St x27.tag)])] [e2 2 [iV x27.out.1, iV x27.out.2.1, uV x27.out.2.2, iV x27.st, iV x27.why, iV x27.tr, iV x27.nx, .string (St x27.tag)]] [(2, ⟨b25, k * 8, none⟩, iV x27.out.1), (2, ⟨b25, k * 8 + 1, none⟩, iV x27.out.2.1), (2, ⟨b25, k * 8 + 2, none⟩, uV x27.out.2.2), (2, ⟨b25, k * 8 + 3, none⟩, iV x27.st), (2, ⟨b25, k * 8 + 4, none⟩, iV x27.why), (2, ⟨b25, k * 8 + 5, none⟩, iV x27.tr), (2, ⟨b25, k * 8 + 6, none⟩, iV x27.nx), (2, ⟨b25, k * 8 + 7, none⟩, .string (St x27.tag))] [] trivial (kC (gv_cell (j := 1) h22 rfl (gv_sl _ _ _) hp26 (fl_get eRs_ok (j := 0) (v := iV x27.out.1) hx28 rfl) (k * 8) (by omega)) (kC (gv_cell (j := 1) h22 rfl (gv_sl _ _ _) hp26 (fl_get eRs_ok (j := 1) (v := iV x27.out.2.1) hx28 rfl) (k * 8 + 1) (by omega)) (kC (gv_cell (j := 1) h22 rfl (gv_sl _ _ _) hp26 (fl_get eRs_ok (j := 2) (v := uV x27.out.2.2) hx28 rfl) (k * 8 + 2) (by omega)) (kC (gv_cell (j := 1) h22 rfl (gv_sl _ _ _) hp26 (fl_get eRs_ok (j := 3) (v := iV x27.st) hx28 rfl) (k * 8 + 3) (by omega)) (kC (gv_cell (j := 1) h22 rfl (gv_sl _ _ _) hp26 (fl_get eRs_ok (j := 4) (v := iV x27.why) hx28 rfl) (k * 8 + 4) (by omega)) (kC (gv_cell (j := 1) h22 rfl (gv_sl _ _ _) hp26 (fl_get eRs_ok (j := 5) (v := iV x27.tr) hx28 rfl) (k * 8 + 5) (by omega)) (kC (gv_cell (j := 1) h22 rfl (gv_sl _ _ _) hp26 (fl_get eRs_ok (j := 6) (v := iV x27.nx) hx28 rfl) (k * 8 + 6) (by omega)) (kC (gv_cell (j := 1) h22 rfl (gv_sl _ _ _) hp26 (fl_get eRs_ok (j := 7) (v := .string (St x27.tag)) hx28 rfl) (k * 8 + 7) (by omega)) nC)))))))) ?_
  refine yA ?_
  refine yNp 7 42 [iV 0, iV 0, uV 0, iV 0, iV 0, iV 0, iV 0, .string (St [])] h22 fun r29 w30 h31 => ?_
  refine yB0 [5] [4] [(6, iV (k : Int))] ?_
  refine yA ?_
  refine yS [(0, iV x27.out.1), (1, iV x27.out.2.1), (2, uV x27.out.2.2), (3, iV x27.st), (4, iV x27.why), (5, iV x27.tr), (6, iV x27.nx), (7, .string (St x27.tag))] [iV x27.out.1, iV x27.out.2.1, uV x27.out.2.2, iV x27.st, iV x27.why, iV x27.tr, iV x27.nx, .string (St x27.tag)] h31 fun w32 h33 => ?_
  refine PO.mk ?_
  refine yK [(1, iV vn), (5, .slice p2 m2 c2), (6, iV (k : Int)), (7, pV r29), (14, .slice p9 RL.length c10), (15, iV (((RL.length : Nat) : Int))), (16, iV (k : Int))] fun lr34 => ?_
  refine ySq ?_
  refine yPl [0, 1, 2, 3] ?_
  refine yBb [3] [(23, iV vn), (22, iV x27.st), (21, .pointer (some ⟨r29, 3, none⟩))] [e0 0, e2 1 [iV x27.st], e0 2] [(1, ⟨r29, 3, none⟩, iV x27.st)] [] trivial (kC (sat_cell h33 0 rfl rfl) nC) ?_
  by_cases c35 : x27.st = vn
  ·
   refine yBb [] [(24, .bool true)] [e1 3 (.bool true)] [] [(.bool (x27.st == vn), .bool true)] ⟨(ov_et (by omega)), trivial⟩ nC (.mk ?_)
   refine yK [(1, iV vn), (5, .slice p2 m2 c2), (6, iV (k : Int)), (14, .slice p9 RL.length c10), (15, iV (((RL.length : Nat) : Int))), (16, iV (k : Int)), (24, .bool true)] fun lr36 => ?_
   refine yCt ?_
   refine yPl [0, 1, 2, 3, 4, 5] ?_
   refine yBb [3, 4, 5] [(27, iV ((k : Int) + 1)), (26, iV (k : Int)), (25, .slice p2 m2 c2)] [e0 0, e0 1, e1 2 (iV ((k : Int) + 1))] [] [(iV (IntKind.wrap .i64 ((k : Int) + 1)), iV ((k : Int) + 1))] ⟨(ov_i64 (by omega) (by omega) (by omega)), trivial⟩ nC ?_
   refine yA ?_
   refine an_new (d := 28) (fun xb_ => .slice (some ⟨xb_, 0, none⟩) 1 1) (fun xb_ => Obj.cells [iV ((k : Int) + 1)].toArray 3 (0, 0)) (fun xb_ => by kernel_rfl) (by kernel_rfl) rfl h33 ?_
   intro r37 w38 (h39 : sat g w38 [Cl r37 [iV ((k : Int) + 1)] 3, Cl r29 [iV x27.out.1, iV x27.out.2.1, uV x27.out.2.2, iV x27.st, iV x27.why, iV x27.tr, iV x27.nx, .string (St x27.tag)] 42, Sl 3 1 p2 m2 c2 (fl eI (numsT RL vn k)), Sl 42 8 p9 RL.length c10 (fl eRs RL), Cl b [pV s7, .map (some m8), .slice p9 RL.length c10] 76, Tb s7 n A, Gp kI vE m8 E11, R])
   have h40 := tk8 (sf7 (sf6 (sf6 (sf7 (sf7 (sf7 (sf7 (sf7 h39))))))))
   refine yA ?_
   refine an_append (d := 29) (sz := 1) (s := (Operand.tmp 25)) (x := (Operand.tmp 28)) (z := iV 0) (p := p2) (m := m2) (c := c2) (k := 1) (c2 := 1) (a := ⟨r37, 0, none⟩) (by_ := 8) (by kernel_rfl) (by kernel_rfl) rfl Try.underlying62 (by kernel_rfl) rfl (by decide) (by kernel_rfl) (by kernel_rfl) h40 (fl eI [(k : Int) + 1]) rfl (fun j u hj => by rw [add_off]; exact sat_cell h40 1 rfl (by rw [Nat.zero_add]; exact hj)) (fl_one eI_ok _) (by omega) (by omega) (m2 + 1) (by omega) ?_
   intro p41 cap42 w43 h44
   have h45 : sat g w43 [Sl 3 1 p41 (m2 + 1) cap42 (fl eI ((numsT RL vn k) ++ [(k : Int) + 1])), Cl r37 [iV ((k : Int) + 1)] 3, Cl r29 [iV x27.out.1, iV x27.out.2.1, uV x27.out.2.2, iV x27.st, iV x27.why, iV x27.tr, iV x27.nx, .string (St x27.tag)] 42, Sl 42 8 p9 RL.length c10 (fl eRs RL), Cl b [pV s7, .map (some m8), .slice p9 RL.length c10] 76, Tb s7 n A, Gp kI vE m8 E11, R] := sat_imp h44 (fun _ hh => by rw [fl_app]; exact hh)
   obtain ⟨hn46, hn47⟩ := sl_le h45
   refine yB0 [] [5] [(5, .slice p41 (m2 + 1) cap42)] (.mk ?_)
   refine yK [(1, iV vn), (5, .slice p41 (m2 + 1) cap42), (14, .slice p9 RL.length c10), (15, iV (((RL.length : Nat) : Int))), (16, iV (k : Int))] fun lr48 => ?_
   refine yPl [0, 1] ?_
   refine yBb [] [(16, iV ((k : Int) + 1)), (30, iV ((k : Int) + 1))] [e1 0 (iV ((k : Int) + 1)), e0 1] [] [(iV (IntKind.wrap .i64 ((k : Int) + 1)), iV ((k : Int) + 1))] ⟨(ov_i64 (by omega) (by omega) (by omega)), trivial⟩ nC (.mk ?_)
   have h49 : sat g w43 [Sl 3 1 p41 (m2 + 1) cap42 (fl eI (numsT RL vn (k + 1))), Cl r37 [iV ((k : Int) + 1)] 3, Cl r29 [iV x27.out.1, iV x27.out.2.1, uV x27.out.2.2, iV x27.st, iV x27.why, iV x27.tr, iV x27.nx, .string (St x27.tag)] 42, Sl 42 8 p9 RL.length c10 (fl eRs RL), Cl b [pV s7, .map (some m8), .slice p9 RL.length c10] 76, Tb s7 n A, Gp kI vE m8 E11, R] := sat_imp h45 (fun _ hh_ => by rw [show (((numsT RL vn k) ++ [(k : Int) + 1]) : List Int) = (numsT RL vn (k + 1)) from numsT_go hx28 (by omega)] at hh_; exact hh_)
   have h50 := tk8 (sf7 (sf7 (sf7 (sf7 (sf7 (sf7 (sf2 (sf2 h49))))))))
   have h51 := tk6 h50
   change ∃ n', n' < _ ∧ _
   refine ⟨(RL.length - (k + 1)), by omega, (k + 1), p41, m2 + 1, cap42, _, rfl, (by omega), (by omega), (mk_live [(1, iV vn), (5, .slice p41 (m2 + 1) cap42), (14, .slice p9 RL.length c10), (15, iV (((RL.length : Nat) : Int))), (16, iV ((((k + 1) : Nat) : Int)))] ⟨rfl, rfl, rfl, rfl, (ov_int (by omega)), trivial⟩), h51⟩
  ·
   refine yBb [] [(24, .bool false)] [e1 3 (.bool false)] [] [(.bool (x27.st == vn), .bool false)] ⟨(ov_ef (by omega)), trivial⟩ nC (.mk ?_)
   refine yK [(1, iV vn), (5, .slice p2 m2 c2), (6, iV (k : Int)), (14, .slice p9 RL.length c10), (15, iV (((RL.length : Nat) : Int))), (16, iV (k : Int)), (24, .bool false)] fun lr52 => ?_
   refine yCf ?_
   refine ySk ?_
   refine yPl [0, 1] ?_
   refine yBb [] [(16, iV ((k : Int) + 1)), (30, iV ((k : Int) + 1))] [e1 0 (iV ((k : Int) + 1)), e0 1] [] [(iV (IntKind.wrap .i64 ((k : Int) + 1)), iV ((k : Int) + 1))] ⟨(ov_i64 (by omega) (by omega) (by omega)), trivial⟩ nC (.mk ?_)
   have h53 := tk7 (sf6 (sf5 (sf6 (sf6 (sf6 (sf6 (sf6 h33)))))))
   have h54 : sat g w32 [Sl 3 1 p2 m2 c2 (fl eI (numsT RL vn (k + 1))), Cl r29 [iV x27.out.1, iV x27.out.2.1, uV x27.out.2.2, iV x27.st, iV x27.why, iV x27.tr, iV x27.nx, .string (St x27.tag)] 42, Sl 42 8 p9 RL.length c10 (fl eRs RL), Cl b [pV s7, .map (some m8), .slice p9 RL.length c10] 76, Tb s7 n A, Gp kI vE m8 E11, R] := sat_imp h53 (fun _ hh_ => by rw [show ((numsT RL vn k) : List Int) = (numsT RL vn (k + 1)) from numsT_no hx28 (by omega)] at hh_; exact hh_)
   have h55 := tk7 (sf6 (sf6 (sf6 (sf6 (sf6 (sf6 (sf1 h54)))))))
   have h56 := tk6 h55
   change ∃ n', n' < _ ∧ _
   refine ⟨(RL.length - (k + 1)), by omega, (k + 1), p2, m2, c2, _, rfl, (by omega), (by omega), (mk_live [(1, iV vn), (5, .slice p2 m2 c2), (14, .slice p9 RL.length c10), (15, iV (((RL.length : Nat) : Int))), (16, iV ((((k + 1) : Nat) : Int)))] ⟨rfl, rfl, rfl, rfl, (ov_int (by omega)), trivial⟩), h56⟩
 ·
  refine yBb [] [(17, .bool false)] [e1 0 (.bool false)] [] [(.bool (decide ((k : Int) < ((RL.length : Nat) : Int))), .bool false)] ⟨(ov_f (by omega)), trivial⟩ nC (.mk ?_)
  refine yK [(1, iV vn), (5, .slice p2 m2 c2), (14, .slice p9 RL.length c10), (15, iV (((RL.length : Nat) : Int))), (16, iV (k : Int)), (17, .bool false)] fun lr57 => ?_
  refine ySq ?_
  refine yCf ?_
  refine yEx 0 ?_
  refine ySq ?_
  refine yPl [0, 1] ?_
  refine yB0 [] [0, 1] [(4, .slice p2 m2 c2), (31, .slice p2 m2 c2)] (.mk ?_)
  refine yK [(4, .slice p2 m2 c2)] fun lr58 => ?_
  refine yRt ?_
  repeat (first | simp only [Exit.inBlock] | simp only [Exit.then])
  have h59 : sat g w21 [Sl 3 1 p2 m2 c2 (fl eI (nums RL vn)), Sl 42 8 p9 RL.length c10 (fl eRs RL), Cl b [pV s7, .map (some m8), .slice p9 RL.length c10] 76, Tb s7 n A, Gp kI vE m8 E11, R] := sat_imp h22 (fun _ hh_ => by rw [show ((numsT RL vn k) : List Int) = (nums RL vn) from (by rw [show k = RL.length from by omega]; rfl)] at hh_; exact hh_)
  have hl60 := fl_n eI_ok (by decide) h59
  have h61 : sat g w21 [Sl 3 1 p2 (((nums RL vn).length)) c2 (fl eI (nums RL vn)), Sl 42 8 p9 RL.length c10 (fl eRs RL), Cl b [pV s7, .map (some m8), .slice p9 RL.length c10] 76, Tb s7 n A, Gp kI vE m8 E11, R] := sat_imp h59 (fun _ hh_ => by rw [hl60]; exact hh_)
  have h62 := tk6 (sf5 (sf5 (sf5 (sf2 (sf1 (sf5 h61))))))
  have h63 : sat g w21 [Tab b n A E RL, Sl 3 1 p2 (((nums RL vn).length)) c2 (fl eI (nums RL vn)), R] := tab_close hM12.1 (by omega) (by first | rfl | omega) h62
  refine hi_out [] (.slice p2 m2 c2) [] (by kernel_rfl) (by intro q hq; cases hq) ?_
  exact ⟨.slice p2 m2 c2, [Tab b n A E RL, Sl 3 1 p2 (((nums RL vn).length)) c2 (fl eI (nums RL vn))], rfl, ⟨p2, c2, by rw [hl60], rfl⟩, h63⟩

end Go.Proofs.Ytjjpmehiolejgaa

/- Walks, printed by my generator gen25.py. -/
namespace Go.Proofs.Ytjjpmehiolejgaa
theorem tset_w (b n : Nat) (S : Ts) (vn x y z st why tr nx : Int) (L : List UInt8) (hz0 : 0 ≤ z) (hz1 : z ≤ 4294967295) (hm : L.length ≤ 1099511627776) : HT Try.prog 17 [Value.pointer (some ⟨b, 0, none⟩), Value.int IntKind.i64 vn, Value.agg #[Value.int IntKind.i64 x, Value.int IntKind.i64 y, Value.int IntKind.u32 z, Value.int IntKind.i64 st, Value.int IntKind.i64 why, Value.int IntKind.i64 tr, Value.int IntKind.i64 nx, Value.string (St L)]] [TW b n S] (fun v K => v = Value.int .i64 (setE S vn ⟨(x, y, z), st, why, tr, nx, L⟩) ∧ K = [TW b n (setS S vn ⟨(x, y, z), st, why, tr, nx, L⟩)]) := by
  refine ht_wi (fun W => ?_) (fun W => wf_set W _ _)
  have bad : ∀ e : Int, setE S vn ⟨(x, y, z), st, why, tr, nx, L⟩ = e → e ≠ 0 → HT Try.prog 17 [Value.pointer (some ⟨b, 0, none⟩), Value.int IntKind.i64 vn, Value.agg #[Value.int IntKind.i64 x, Value.int IntKind.i64 y, Value.int IntKind.u32 z, Value.int IntKind.i64 st, Value.int IntKind.i64 why, Value.int IntKind.i64 tr, Value.int IntKind.i64 nx, Value.string (St L)]] [Tab b n S.A S.E S.R] (fun v K => v = Value.int .i64 e ∧ K = [Tab b n S.A S.E S.R]) → HT Try.prog 17 [Value.pointer (some ⟨b, 0, none⟩), Value.int IntKind.i64 vn, Value.agg #[Value.int IntKind.i64 x, Value.int IntKind.i64 y, Value.int IntKind.u32 z, Value.int IntKind.i64 st, Value.int IntKind.i64 why, Value.int IntKind.i64 tr, Value.int IntKind.i64 nx, Value.string (St L)]] [Tab b n S.A S.E S.R] (fun v K => v = Value.int .i64 (setE S vn ⟨(x, y, z), st, why, tr, nx, L⟩) ∧ K = [Tab b n (setS S vn ⟨(x, y, z), st, why, tr, nx, L⟩).A (setS S vn ⟨(x, y, z), st, why, tr, nx, L⟩).E (setS S vn ⟨(x, y, z), st, why, tr, nx, L⟩).R]) := fun e h1 h2 h3 => by
    rw [set_bad h1 h2, h1]
    exact h3
  by_cases hv : 1 ≤ vn ∧ vn ≤ (S.R.length : Int)
  · have hn0 : nE S vn = 0 := if_pos hv
    have hg := getR_at hv
    have hq : vn = ((vn - 1).toNat : Int) + 1 := by omega
    have hres : resR ⟨(x, y, z), st, why, tr, nx, L⟩ = resE x y z st why tr nx L := rfl
    by_cases hr : resE x y z st why tr nx L = 0
    · by_cases ho : ((x, y, z) : Ky) = (getR S vn).out
      · have ho3 : x = (getR S vn).out.1 ∧ y = (getR S vn).out.2.1 ∧ z = (getR S vn).out.2.2 := by rw [← ho]; exact ⟨rfl, rfl, rfl⟩
        by_cases ht : L = (getR S vn).tag
        · have hnn : ¬ ((⟨(x, y, z), st, why, tr, nx, L⟩ : Rs).out ≠ (getR S vn).out ∨ (⟨(x, y, z), st, why, tr, nx, L⟩ : Rs).tag ≠ (getR S vn).tag) := fun h => h.elim (fun h => h ho) (fun h => h ht)
          by_cases hs : st = 1
          · have h0 : setE S vn ⟨(x, y, z), st, why, tr, nx, L⟩ = 0 := by unfold setE; rw [if_neg (by omega), if_neg (by omega), if_neg hnn, if_neg (fun h => h.1 hs)]
            have hS : setS S vn ⟨(x, y, z), st, why, tr, nx, L⟩ = ⟨S.A, S.E, S.R.set (vn - 1).toNat ⟨(x, y, z), st, why, tr, nx, L⟩⟩ := by unfold setS; rw [if_pos h0]
            rw [h0, hS]
            exact tset_ok1 b n S.A S.E S.R vn x y z st why tr nx L hz0 hz1 hm _ _ hg hq hr ho3 ht hs
          · by_cases hd : 0 < (descs S.E vn).length
            · exact bad 8 (by unfold setE; rw [if_neg (by omega), if_neg (by omega), if_neg hnn, if_pos ⟨hs, hd⟩]) (by omega) (tset_state b n S.A S.E S.R vn x y z st why tr nx L hz0 hz1 hm _ _ hg hq hr ho3 ht hs hd)
            · have h0 : setE S vn ⟨(x, y, z), st, why, tr, nx, L⟩ = 0 := by unfold setE; rw [if_neg (by omega), if_neg (by omega), if_neg hnn, if_neg (fun h => hd h.2)]
              have hS : setS S vn ⟨(x, y, z), st, why, tr, nx, L⟩ = ⟨S.A, S.E, S.R.set (vn - 1).toNat ⟨(x, y, z), st, why, tr, nx, L⟩⟩ := by unfold setS; rw [if_pos h0]
              rw [h0, hS]
              exact tset_ok2 b n S.A S.E S.R vn x y z st why tr nx L hz0 hz1 hm _ _ hg hq hr ho3 ht (by omega)
        · exact bad 2 (by unfold setE; rw [if_neg (by omega), if_neg (by omega), if_pos (.inr ht)]) (by omega) (tset_tag b n S.A S.E S.R vn x y z st why tr nx L hz0 hz1 hm _ _ hg hq hr ho3 ht)
      · exact bad 2 (by unfold setE; rw [if_neg (by omega), if_neg (by omega), if_pos (.inl ho)]) (by omega) (tset_out b n S.A S.E S.R vn x y z st why tr nx L hz0 hz1 hm _ _ hg hq hr (fun h => ho (Prod.ext h.1 (Prod.ext h.2.1 h.2.2))))
    · have h1 : setE S vn ⟨(x, y, z), st, why, tr, nx, L⟩ = resE x y z st why tr nx L := by unfold setE; rw [if_neg (by omega), if_pos (by omega), hres]
      exact bad _ h1 hr (tset_chk b n S.A S.E S.R vn x y z st why tr nx L hz0 hz1 hm _ _ hg hq hr)
  · have h1 : nE S vn = 3 := if_neg hv
    exact bad 3 (by unfold setE; rw [if_pos (by omega)]) (by omega) (tset_no b n S.A S.E S.R vn x y z st why tr nx L (by omega))
theorem tnums_w (b n : Nat) (S : Ts) (vn : Int) : HT Try.prog 28 [Value.pointer (some ⟨b, 0, none⟩), Value.int IntKind.i64 vn] [TW b n S] (fun v K => ∃ (p : Option Addr) (c : Nat), v = Value.slice p (((nums S.R vn).length)) c ∧ K = [TW b n S, Sl 3 1 p (((nums S.R vn).length)) c (fl eI (nums S.R vn))]) :=
  HT.wi fun W => (tnums_ht b n S.A S.E S.R vn).post fun v K hP => by
    obtain ⟨p, c, h1, h2⟩ := hP
    exact ⟨_, ⟨p, c, h1, rfl⟩, fun g w F hs => by rw [h2] at hs; exact wi_in W hs⟩
end Go.Proofs.Ytjjpmehiolejgaa

/-
  What the laws of tables of resources do with them, as plain functions. No program in sight.
-/
namespace Go.Proofs.Ytjjpmehiolejgaa
abbrev Mv := Int × Int
def eMv (m : Mv) : List Value := [.int .u8 m.1, .int .u8 m.2]
theorem eMv_ok : Enc 2 eMv := ⟨fun _ => rfl, fun x v hv => by simp [eMv] at hv; rcases hv with rfl | rfl <;> rfl⟩
def MvOk (m : Mv) : Prop := (0 ≤ m.1 ∧ m.1 ≤ 255) ∧ (0 ≤ m.2 ∧ m.2 ≤ 255)
def liveL (E : Tm) : List Ky := (allE E).map (·.d)
def liveT (E : Tm) (k : Nat) : List Ky := (someE E k).map (·.d)
theorem liveT_go {E : Tm} {k : Nat} {e : Ety} (h : gget E (k : Int) = some e) : liveT E k ++ [e.d] = liveT E (k + 1) := by
  unfold liveT
  rw [someE_go h, List.map_append]
  rfl
theorem liveT_no {E : Tm} {k : Nat} (h : gget E (k : Int) = none) : liveT E k = liveT E (k + 1) := by
  unfold liveT
  rw [someE_no h]
theorem mem_live {E : Tm} {d : Ky} : d ∈ liveL E ↔ ∃ e ∈ allE E, e.d = d := by
  unfold liveL
  rw [List.mem_map]
theorem live_at {n : Nat} {S : Ts} (W : Wf n S) {d : Ky} (h : d ∈ liveL S.E) : ∃ e, gget S.E d.2.1 = some e ∧ e.d = d := by
  obtain ⟨e, h1, h2⟩ := mem_live.1 h
  exact ⟨e, by rw [← h2]; exact wf_mem W h1, h2⟩
theorem live_ok {n : Nat} {S : Ts} (W : Wf n S) {d : Ky} (h : d ∈ liveL S.E) : goodD d ∧ fndE S d = 0 ∧ d.2.2 ≤ 4294967295 ∧ ∃ e, gget S.E d.2.1 = some e ∧ e.d = d ∧ fndX S d = e := by
  obtain ⟨e, h1, h2⟩ := live_at W h
  have hg := wf_good W h1
  have hb := gen_ok W h1
  rw [h2] at hg hb
  exact ⟨hg, (fndX_ok hg h1 h2).1, hb.2, e, h1, h2, (fndX_ok hg h1 h2).2⟩
theorem live_lt {n : Nat} {S : Ts} (W : Wf n S) : ((liveL S.E).map (·.2.1)).Pairwise (· < ·) := by
  have h := allE_lt W
  unfold liveL
  rw [List.map_map]
  exact h
/-- A resource is made one that has to be released. -/
def lvR (r : Rs) : Rs := ⟨r.out, 2, 1, 0, 0, r.tag⟩
def lvS (S : Ts) (v : Int) : Ts := ⟨S.A, S.E, S.R.set (v - 1).toNat (lvR (getR S v))⟩
theorem live_res {n : Nat} {S : Ts} (W : Wf n S) {v : Int} (hv : 1 ≤ v ∧ v ≤ (S.R.length : Int)) (hs : (getR S v).st = 1) : (1 ≤ (getR S v).out.1 ∧ (getR S v).out.1 ≤ 3 ∧ 0 ≤ (getR S v).out.2.1 ∧ (getR S v).out.2.1 ≤ 63 ∧ 1 ≤ (getR S v).out.2.2) ∧ (getR S v).why = 0 ∧ (getR S v).tr = 0 ∧ (getR S v).nx = 0 ∧ tagE (getR S v).tag = 0 ∧ (getR S v).tag.length ≤ 96 := by
  have hr := W.res _ (List.mem_of_getElem? (getR_at hv))
  unfold resR resE at hr
  split at hr
  · rename_i hp
    obtain ⟨h1, h2⟩ := hp
    refine ⟨h1, by omega, by omega, by omega, hr, ?_⟩
    unfold tagE at hr
    split at hr
    · omega
    · omega
  · omega
theorem lv_set {n : Nat} {S : Ts} (W : Wf n S) {v : Int} (hv : 1 ≤ v ∧ v ≤ (S.R.length : Int)) (hs : (getR S v).st = 1) (hd : (descs S.E v).length = 0) : setE S v (lvR (getR S v)) = 0 ∧ setS S v (lvR (getR S v)) = lvS S v := by
  have hl := live_res W hv hs
  have h0 : setE S v (lvR (getR S v)) = 0 := by
    have hn0 : nE S v = 0 := if_pos hv
    unfold setE
    have hres : resR (lvR (getR S v)) = 0 := by
      have hp : posP (getR S v).out.1 (getR S v).out.2.1 (getR S v).out.2.2 2 1 0 0 := ⟨hl.1, .inr (.inl (by decide))⟩
      exact (if_pos hp).trans hl.2.2.2.2.1
    rw [if_neg (show ¬ nE S v ≠ 0 by omega), if_neg (show ¬ resR (lvR (getR S v)) ≠ 0 by omega), if_neg (by unfold lvR; rintro (h | h) <;> exact h rfl), if_neg (by omega)]
  refine ⟨h0, ?_⟩
  unfold setS lvS
  rw [if_pos h0]
theorem wf_lv {n : Nat} {S : Ts} (W : Wf n S) {v : Int} (hv : 1 ≤ v ∧ v ≤ (S.R.length : Int)) (hs : (getR S v).st = 1) (hd : (descs S.E v).length = 0) : Wf n (lvS S v) := by
  rw [← (lv_set W hv hs hd).2]
  exact wf_set W _ _
/-- The resource of an entry is there, and lives. -/
theorem ent_live {n : Nat} {S : Ts} (W : Wf n S) {k : Int} {e : Ety} (h : gget S.E k = some e) : (1 ≤ e.num ∧ e.num ≤ (S.R.length : Int)) ∧ (getR S e.num).st = 1 ∧ (getR S e.num).out.1 = e.d.1 := by
  obtain ⟨_, _, ⟨q, r, h1, h2, h3, h4⟩, _⟩ := W.ent k e h
  have hl := (List.getElem?_eq_some_iff.1 h1).1
  have hv : 1 ≤ e.num ∧ e.num ≤ (S.R.length : Int) := by omega
  have hg := getR_at hv
  rw [show (e.num - 1).toNat = q from by omega, h1] at hg
  rw [← Option.some.inj hg]
  exact ⟨hv, h4, h3⟩
theorem clsL_ok {S : Ts} {d : Ky} (h : clsL S d = true) : fndE S d = 0 ∧ (descs (clsS S d).E (fndX S d).num).length = 0 := by
  unfold clsL at h
  have := of_decide_eq_true h
  refine ⟨this.1, ?_⟩
  unfold clsS
  rw [if_pos this.1]
  exact this.2
theorem cls_ok' {S : Ts} {d : Ky} (h : fndE S d = 0) : clsS S d = dropS S d := by
  unfold clsS
  rw [if_pos h]
theorem cls_R (S : Ts) (d : Ky) : (clsS S d).R = S.R := by unfold clsS dropS; split <;> rfl
theorem cls_live {n : Nat} {S : Ts} (W : Wf n S) {d : Ky} (h : clsL S d = true) : (1 ≤ (fndX S d).num ∧ (fndX S d).num ≤ ((clsS S d).R.length : Int)) ∧ (getR (clsS S d) (fndX S d).num).st = 1 ∧ (descs (clsS S d).E (fndX S d).num).length = 0 := by
  obtain ⟨h1, h2⟩ := clsL_ok h
  obtain ⟨hg, e, h3, h4⟩ := fndE_ok.1 h1
  have h5 := (fndX_ok hg h3 h4).2
  have h6 := ent_live W h3
  have hR := cls_R S d
  refine ⟨?_, ?_, h2⟩
  · rw [h5, hR]; exact h6.1
  · rw [h5]
    unfold getR
    rw [hR]
    exact h6.2.1
def lclS (S : Ts) (d : Ky) : Ts := if clsL S d = true then lvS (clsS S d) (fndX S d).num else clsS S d
theorem wf_lcl {n : Nat} {S : Ts} (W : Wf n S) (d : Ky) : Wf n (lclS S d) := by
  unfold lclS
  split
  · rename_i h
    obtain ⟨h1, h2, h3⟩ := cls_live W h
    exact wf_lv (wf_cls W d) h1 h2 h3
  · exact wf_cls W d
theorem exp_R (S : Ts) (v : Int) : (expS S v).R = S.R := drops_R
theorem drops_gone {n : Nat} : ∀ {D : List Ky} {S : Ts}, Wf n S → (∀ d ∈ D, ∃ e, gget S.E d.2.1 = some e ∧ e.d = d) → (D.map (·.2.1)).Pairwise (· < ·) → ∀ d ∈ D, gget (D.foldl dropS S).E d.2.1 = none
  | [], _, _, _, _ => fun d hd => by cases hd
  | d0 :: D, S, W, h, hp => fun d hd => by
    obtain ⟨e, h1, h2⟩ := h d0 List.mem_cons_self
    rw [List.map_cons, List.pairwise_cons] at hp
    have W2 := wf_drop W h1 h2
    have hne : ∀ d2 ∈ D, d2.2.1 ≠ d0.2.1 := fun d2 hd2 => by
      have := hp.1 _ (List.mem_map_of_mem (f := (·.2.1)) hd2)
      omega
    rcases List.mem_cons.1 hd with rfl | h3
    · rw [List.foldl_cons, drops_get hne]
      exact gget_del_self W.nd
    · exact drops_gone W2 (fun d2 hd2 => by
        obtain ⟨e2, h4, h5⟩ := h d2 (List.mem_cons_of_mem _ hd2)
        exact ⟨e2, by unfold dropS; simp only; rw [gget_del (hne d2 hd2)]; exact h4, h5⟩) hp.2 d h3
theorem exp_gone {n : Nat} {S : Ts} (W : Wf n S) {v : Int} {d : Ky} (hd : d ∈ descs S.E v) : gget (expS S v).E d.2.1 = none := drops_gone W (fun d2 hd2 => by
  obtain ⟨e, h1, h2, _⟩ := descs_at W hd2
  exact ⟨e, h1, h2⟩) (descs_lt W v) d hd
/-- The entries behind Expire: those of other resources. -/
theorem exp_get {n : Nat} {S : Ts} (W : Wf n S) {v k : Int} {e : Ety} : gget (expS S v).E k = some e ↔ gget S.E k = some e ∧ e.num ≠ v := by
  by_cases hk : ∃ d ∈ descs S.E v, d.2.1 = k
  · obtain ⟨d, hd, rfl⟩ := hk
    rw [exp_gone W hd]
    obtain ⟨e2, h1, h2, h3⟩ := descs_at W hd
    rw [h1]
    constructor
    · intro h; cases h
    · rintro ⟨h, h4⟩
      obtain rfl := Option.some.inj h
      exact absurd h3 h4
  · have hk' : ∀ d ∈ descs S.E v, d.2.1 ≠ k := fun d hd h => hk ⟨d, hd, h⟩
    unfold expS
    rw [drops_get hk']
    constructor
    · intro h
      refine ⟨h, fun h2 => ?_⟩
      exact hk' e.d (mem_descs.2 ⟨e, wf_all W h, h2, rfl⟩) (W.ent k e h).2.1
    · exact fun h => h.1
theorem exp_descs {n : Nat} {S : Ts} (W : Wf n S) (v : Int) : (descs (expS S v).E v).length = 0 := by
  cases h : descs (expS S v).E v with
  | nil => rfl
  | cons d D =>
    have hm : d ∈ descs (expS S v).E v := by rw [h]; exact List.mem_cons_self
    obtain ⟨e, h1, h2, h3⟩ := descs_at (wf_exp W v) hm
    exact absurd h3 ((exp_get W).1 h1).2
/-- A turn, and turns. -/
abbrev Tp := Ts × List Ky
def tH (i : Nat) : Int × Int := ((i : Int) % 256, (i : Int) / 256 + 1)
def tO (i : Nat) (m : Mv) : Ky := (m.2 % 3 + 1, (i : Int) % 64, (i : Int) / 64 + 1)
def tD (S : Ts) (m : Mv) : Ky := (liveL S.E).getD (m.2 % ((liveL S.E).length : Int)).toNat (0, 0, 0)
def turnS (p : Tp) (i : Nat) (m : Mv) : Tp :=
  if m.1 % 8 < 3 then (opnS p.1 (tO i m) [116] (tH i), if opnE p.1 (tO i m) [116] (tH i) = 0 then p.2 ++ [opnD p.1 (tO i m) [116] (tH i)] else p.2)
  else if (liveL p.1.E).length = 0 then p
  else if m.1 % 8 < 5 then (dupS p.1 (tD p.1 m) (tH i), if dupE p.1 (tD p.1 m) (tH i) = 0 then p.2 ++ [dupD p.1 (tD p.1 m) (tH i)] else p.2)
  else if m.1 % 8 < 7 then (lclS p.1 (tD p.1 m), p.2)
  else (lvS (expS p.1 (fndX p.1 (tD p.1 m)).num) (fndX p.1 (tD p.1 m)).num, p.2)
def madeK (n : Nat) (g : Int) (T : List Mv) : Nat → Tp
  | 0 => (⟨List.replicate n (0, g), [], []⟩, [])
  | k + 1 => turnS (madeK n g T k) k (T.getD k (0, 0))
theorem madeK_go {n : Nat} {g : Int} {T : List Mv} {k : Nat} {m : Mv} (h : T[k]? = some m) {p : Tp} (hp : turnS (madeK n g T k) k m = p) : madeK n g T (k + 1) = p := by
  show turnS (madeK n g T k) k (T.getD k (0, 0)) = p
  rw [getD_some h, hp]
theorem tD_mem {S : Ts} {m : Mv} (h : (liveL S.E).length ≠ 0) (hm : 0 ≤ m.2) : tD S m ∈ liveL S.E := by
  unfold tD
  apply getD_mem
  have h1 := Int.emod_lt_of_pos m.2 (b := ((liveL S.E).length : Int)) (by omega)
  have h2 := Int.emod_nonneg m.2 (b := ((liveL S.E).length : Int)) (by omega)
  omega
theorem exp_live {n : Nat} {S : Ts} (W : Wf n S) {d : Ky} (hd : d ∈ liveL S.E) : (1 ≤ (fndX S d).num ∧ (fndX S d).num ≤ ((expS S (fndX S d).num).R.length : Int)) ∧ (getR (expS S (fndX S d).num) (fndX S d).num).st = 1 ∧ (descs (expS S (fndX S d).num).E (fndX S d).num).length = 0 := by
  obtain ⟨_, _, _, e, h3, h4, h5⟩ := live_ok W hd
  have h6 := ent_live W h3
  rw [h5]
  refine ⟨?_, ?_, exp_descs W _⟩
  · rw [exp_R]; exact h6.1
  · unfold getR; rw [exp_R]; exact h6.2.1
section
variable {p : Tp} {i : Nat} {m : Mv} {d : Ky}
theorem tD_at {S : Ts} {q : Nat} (hq : (q : Int) = m.2 % ((liveL S.E).length : Int)) (hd : (liveL S.E)[q]? = some d) : tD S m = d := by
  unfold tD
  rw [show (m.2 % ((liveL S.E).length : Int)).toNat = q from by omega, getD_some hd]
theorem turn_open1 (h : m.1 % 8 < 3) (he : opnE p.1 (tO i m) [116] (tH i) = 0) : turnS p i m = (opnS p.1 (tO i m) [116] (tH i), p.2 ++ [opnD p.1 (tO i m) [116] (tH i)]) := by
  unfold turnS
  rw [if_pos h, if_pos he]
theorem turn_open0 (h : m.1 % 8 < 3) (he : opnE p.1 (tO i m) [116] (tH i) ≠ 0) : turnS p i m = (opnS p.1 (tO i m) [116] (tH i), p.2) := by
  unfold turnS
  rw [if_pos h, if_neg he]
theorem turn_none (h : ¬ m.1 % 8 < 3) (hl : (liveL p.1.E).length = 0) : turnS p i m = p := by
  unfold turnS
  rw [if_neg h, if_pos hl]
theorem turn_dup1 (h : ¬ m.1 % 8 < 3) (hl : ¬ (liveL p.1.E).length = 0) (h5 : m.1 % 8 < 5) (hd : tD p.1 m = d) (he : dupE p.1 d (tH i) = 0) : turnS p i m = (dupS p.1 d (tH i), p.2 ++ [dupD p.1 d (tH i)]) := by
  unfold turnS
  rw [if_neg h, if_neg hl, if_pos h5, hd, if_pos he]
theorem turn_dup0 (h : ¬ m.1 % 8 < 3) (hl : ¬ (liveL p.1.E).length = 0) (h5 : m.1 % 8 < 5) (hd : tD p.1 m = d) (he : dupE p.1 d (tH i) ≠ 0) : turnS p i m = (dupS p.1 d (tH i), p.2) := by
  unfold turnS
  rw [if_neg h, if_neg hl, if_pos h5, hd, if_neg he]
theorem turn_cls (h : ¬ m.1 % 8 < 3) (hl : ¬ (liveL p.1.E).length = 0) (h5 : ¬ m.1 % 8 < 5) (h7 : m.1 % 8 < 7) (hd : tD p.1 m = d) : turnS p i m = (lclS p.1 d, p.2) := by
  unfold turnS
  rw [if_neg h, if_neg hl, if_neg h5, if_pos h7, hd]
theorem turn_exp (h : ¬ m.1 % 8 < 3) (hl : ¬ (liveL p.1.E).length = 0) (h5 : ¬ m.1 % 8 < 5) (h7 : ¬ m.1 % 8 < 7) (hd : tD p.1 m = d) : turnS p i m = (lvS (expS p.1 (fndX p.1 d).num) (fndX p.1 d).num, p.2) := by
  unfold turnS
  rw [if_neg h, if_neg hl, if_neg h5, if_neg h7, hd]
end
theorem madeK_all (n : Nat) (g : Int) (T : List Mv) (k : Nat) : (madeK n g T k).2.length ≤ k := by
  induction k with
  | zero => exact Nat.le_refl _
  | succ k ih =>
    show (turnS (madeK n g T k) k (T.getD k (0, 0))).2.length ≤ k + 1
    unfold turnS
    split
    · split
      · simp only [List.length_append, List.length_cons, List.length_nil]; omega
      · simp only; omega
    · split
      · omega
      · split
        · split
          · simp only [List.length_append, List.length_cons, List.length_nil]; omega
          · simp only; omega
        · split
          · simp only; omega
          · simp only; omega
theorem live_len (E : Tm) : (liveL E).length ≤ 256 := by
  unfold liveL
  rw [List.length_map]
  exact cntE_le E 256
end Go.Proofs.Ytjjpmehiolejgaa

/- Walks, printed by my generator gen23.py. -/
namespace Go.Proofs.Ytjjpmehiolejgaa
theorem live_form {n : Nat} {S : Ts} (W : Wf n S) {v : Int} (hv : 1 ≤ v ∧ v ≤ (S.R.length : Int)) (hs : (getR S v).st = 1) : ∃ (x y z : Int) (L : List UInt8), getR S v = ⟨(x, y, z), 1, 0, 0, 0, L⟩ ∧ (1 ≤ x ∧ x ≤ 3 ∧ 0 ≤ y ∧ y ≤ 63 ∧ 1 ≤ z) ∧ 0 ≤ z ∧ z ≤ 4294967295 ∧ tagE L = 0 ∧ L.length ≤ 96 := by
  have h := live_res W hv hs
  have hg := W.og _ (List.mem_of_getElem? (getR_at hv))
  generalize getR S v = r at *
  obtain ⟨⟨x, y, z⟩, st, why, tr, nx, L⟩ := r
  simp only at hs h hg
  obtain ⟨h1, h2, h3, h4, h5, h6⟩ := h
  subst hs; subst h2; subst h3; subst h4
  exact ⟨x, y, z, L, rfl, h1, by omega, hg, h5, h6⟩
theorem lcl_no {S : Ts} {d : Ky} (h : clsL S d = false) : clsS S d = lclS S d := by
  unfold lclS
  rw [if_neg (by rw [h]; decide)]
theorem lcl_yes {S : Ts} {d : Ky} (h : clsL S d = true) : lvS (clsS S d) (fndX S d).num = lclS S d := by
  unfold lclS
  rw [if_pos h]
set_option maxHeartbeats 4000000 in
theorem live_w (b n : Nat) (S : Ts) : HT Try.prog 24 [Value.pointer (some ⟨b, 0, none⟩)] [TW b n S] (fun v K => ∃ (p : Option Addr) (c : Nat), v = Value.slice p (((liveL S.E).length)) c ∧ K = [TW b n S, Sl 28 3 p (((liveL S.E).length)) c (fl eO (liveL S.E))]) := by
 refine hi_in 23 ([(0, pV b)] : Fr) Try.func24 (by kernel_rfl) Try.ntmps24 rfl rfl ?_
 intro g w0 R h0
 refine ySq ?_
 refine yPl [0] ?_
 refine yB0 [] [0] [(2, .slice none 0 0)] (.mk ?_)
 refine yK [(0, pV b)] fun lr1 => ?_
 refine ySq ?_
 refine yPl [0] ?_
 refine yB0 [] [0] [(3, .slice none 0 0)] (.mk ?_)
 refine yK [(0, pV b), (3, .slice none 0 0)] fun lr2 => ?_
 refine ySq ?_
 refine ySq ?_
 refine yPl [0] ?_
 refine yB0 [] [0] [(4, iV 0)] (.mk ?_)
 refine yK [(0, pV b), (3, .slice none 0 0), (4, iV 0)] fun lr3 => ?_
 refine yBk 0 ?_
 have h4 : sat g w0 [Sl 28 3 none 0 0 (fl eO []), TW b n S, R] := sl_nil 28 3 h0
 refine gi_lp (x := CA Try.f24 [1, 1, 0, 1, 0, 0]) (by kernel_rfl) (fun mz_ a w => ∃ k : Nat, ∃ p2 : Option Addr, ∃ m2 : Nat, ∃ c2 : Nat, ∃ lr : Fr, mz_ = 256 - k ∧ (k ≤ 256) ∧ (m2 ≤ k) ∧ a = mk 23 (([(0, pV b), (3, .slice p2 m2 c2), (4, iV (k : Int))] : Fr) ++ lr) ∧ sat g w [Sl 28 3 p2 m2 c2 (fl eO (liveT S.E k)), TW b n S, R]) (256 - 0) ⟨0, none, 0, 0, _, rfl, (Nat.zero_le _), (Nat.le_refl _), (mk_live [(0, pV b), (3, .slice none 0 0), (4, iV (0 : Int))] ⟨rfl, rfl, (ov_int (by omega)), trivial⟩), h4⟩ ?_
 rintro m6 a7 w8 ⟨k, p2, m2, c2, lr5, rfl, hk, hm2, rfl, h9⟩
 refine ySq ?_
 refine ySq ?_
 refine yPl [0, 1] ?_
 refine yB0 [1] [0] [(7, iV (k : Int))] ?_
 by_cases c10 : (k : Int) < 256
 ·
  refine yBb [] [(8, .bool true)] [e1 1 (.bool true)] [] [(.bool (decide ((k : Int) < 256)), .bool true)] ⟨(ov_t (by omega)), trivial⟩ nC (.mk ?_)
  refine yK [(0, pV b), (3, .slice p2 m2 c2), (4, iV (k : Int)), (8, .bool true)] fun lr11 => ?_
  refine yCt ?_
  refine ySk ?_
  refine ySq ?_
  refine yBk 1 ?_
  refine ySq ?_
  refine yPl [0, 1, 2, 3, 4, 5, 6, 7, 8] ?_
  refine yB0 [2, 3, 4, 5, 6, 7, 8] [0, 1] [(13, iV (k : Int)), (12, pV b)] ?_
  rcases hg13 : gget S.E (k : Int) with _ | e12
  ·
   have h14 := tk3 (sf2 (sf1 (sf2 h9)))
   refine yA ?_
   refine yCl 14 Try.call34 ((by have h_ := tat_w b n S (k : Int); unfold atX at h_; rw [hg13] at h_; exact h_)) h14 ?_
   rintro v K w15 (⟨rfl, rfl⟩) h16
   refine ⟨_, rfl, ?_⟩
   have h17 := ap1 h16
   refine yB0 [6, 7, 8] [3, 4, 5] [(16, .bool false), (15, .agg #[iV 0, iV 0, uV 0]), (11, .tuple #[.agg #[iV 0, iV 0, uV 0], .bool false])] ?_
   refine yA ?_
   refine yNp 5 28 [iV 0, iV 0, uV 0] h17 fun r18 w19 h20 => ?_
   refine yA ?_
   refine yS [(0, iV 0), (1, iV 0), (2, uV 0)] [iV 0, iV 0, uV 0] h20 fun w21 h22 => ?_
   refine yB0 [] [8] [(6, .bool false)] (.mk ?_)
   refine yK [(0, pV b), (3, .slice p2 m2 c2), (4, iV (k : Int)), (5, pV r18), (6, .bool false)] fun lr23 => ?_
   refine ySq ?_
   refine yPl [0] ?_
   refine yB0 [] [0] [(17, .bool false)] (.mk ?_)
   refine yK [(0, pV b), (3, .slice p2 m2 c2), (4, iV (k : Int)), (5, pV r18), (17, .bool false)] fun lr24 => ?_
   refine yCf ?_
   refine ySk ?_
   refine yPl [0, 1, 2] ?_
   refine yBb [] [(4, iV ((k : Int) + 1)), (10, iV ((k : Int) + 1)), (9, iV (k : Int))] [e0 0, e1 1 (iV ((k : Int) + 1)), e0 2] [] [(iV (IntKind.wrap .i64 ((k : Int) + 1)), iV ((k : Int) + 1))] ⟨(ov_i64 (by omega) (by omega) (by omega)), trivial⟩ nC (.mk ?_)
   have h25 := tk4 (sf3 (sf2 (sf2 (sf3 h22))))
   have h26 : sat g w21 [Sl 28 3 p2 m2 c2 (fl eO (liveT S.E (k + 1))), Cl r18 [iV 0, iV 0, uV 0] 28, TW b n S, R] := sat_imp h25 (fun _ hh_ => by rw [show ((liveT S.E k) : List Ky) = (liveT S.E (k + 1)) from liveT_no hg13] at hh_; exact hh_)
   have h27 := tk4 (sf3 (sf3 (sf3 (sf1 h26))))
   have h28 := tk3 h27
   change ∃ n', n' < _ ∧ _
   refine ⟨(256 - (k + 1)), by omega, (k + 1), p2, m2, c2, _, rfl, (by omega), (by omega), (mk_live [(0, pV b), (3, .slice p2 m2 c2), (4, iV ((((k + 1) : Nat) : Int)))] ⟨rfl, rfl, (ov_int (by omega)), trivial⟩), h28⟩
  ·
   have h29 := tk3 (sf2 (sf1 (sf2 h9)))
   refine yA ?_
   refine yCl 14 Try.call34 ((by have h_ := tat_w b n S (k : Int); unfold atX at h_; rw [hg13] at h_; exact h_)) h29 ?_
   rintro v K w30 (⟨rfl, rfl⟩) h31
   refine ⟨_, rfl, ?_⟩
   have h32 := ap1 h31
   refine yB0 [6, 7, 8] [3, 4, 5] [(16, .bool true), (15, .agg #[iV e12.d.1, iV e12.d.2.1, uV e12.d.2.2]), (11, .tuple #[.agg #[iV e12.d.1, iV e12.d.2.1, uV e12.d.2.2], .bool true])] ?_
   refine yA ?_
   refine yNp 5 28 [iV 0, iV 0, uV 0] h32 fun r33 w34 h35 => ?_
   refine yA ?_
   refine yS [(0, iV e12.d.1), (1, iV e12.d.2.1), (2, uV e12.d.2.2)] [iV e12.d.1, iV e12.d.2.1, uV e12.d.2.2] h35 fun w36 h37 => ?_
   refine yB0 [] [8] [(6, .bool true)] (.mk ?_)
   refine yK [(0, pV b), (3, .slice p2 m2 c2), (4, iV (k : Int)), (5, pV r33), (6, .bool true)] fun lr38 => ?_
   refine ySq ?_
   refine yPl [0] ?_
   refine yB0 [] [0] [(17, .bool true)] (.mk ?_)
   refine yK [(0, pV b), (3, .slice p2 m2 c2), (4, iV (k : Int)), (5, pV r33), (17, .bool true)] fun lr39 => ?_
   refine yCt ?_
   refine yPl [0, 1, 2, 3, 4] ?_
   refine yBb [2, 3, 4] [(19, .agg #[iV e12.d.1, iV e12.d.2.1, uV e12.d.2.2]), (18, .slice p2 m2 c2)] [e0 0, e2 1 [iV e12.d.1, iV e12.d.2.1, uV e12.d.2.2]] [(1, ⟨r33, 0, none⟩, iV e12.d.1), (1, ⟨r33, 1, none⟩, iV e12.d.2.1), (1, ⟨r33, 2, none⟩, uV e12.d.2.2)] [] trivial (kC (sat_cell h37 0 rfl rfl) (kC (sat_cell h37 0 rfl rfl) (kC (sat_cell h37 0 rfl rfl) nC))) ?_
   refine yA ?_
   refine an_new (d := 20) (fun xb_ => .slice (some ⟨xb_, 0, none⟩) 1 1) (fun xb_ => Obj.cells [iV e12.d.1, iV e12.d.2.1, uV e12.d.2.2].toArray 28 (0, 0)) (fun xb_ => by kernel_rfl) (by kernel_rfl) rfl h37 ?_
   intro r40 w41 (h42 : sat g w41 [Cl r40 [iV e12.d.1, iV e12.d.2.1, uV e12.d.2.2] 28, Cl r33 [iV e12.d.1, iV e12.d.2.1, uV e12.d.2.2] 28, TW b n S, Sl 28 3 p2 m2 c2 (fl eO (liveT S.E k)), R])
   have h43 := tk5 (sf4 (sf3 (sf3 (sf3 (sf4 h42)))))
   refine yA ?_
   refine an_append (d := 21) (sz := 3) (s := (Operand.tmp 18)) (x := (Operand.tmp 20)) (z := .agg #[iV 0, iV 0, uV 0]) (p := p2) (m := m2) (c := c2) (k := 1) (c2 := 1) (a := ⟨r40, 0, none⟩) (by_ := 24) (by kernel_rfl) (by kernel_rfl) rfl Try.underlying45 (by kernel_rfl) rfl (by decide) (by kernel_rfl) (by kernel_rfl) h43 (fl eO [(e12.d.1, e12.d.2.1, e12.d.2.2)]) rfl (fun j u hj => by rw [add_off]; exact sat_cell h43 1 rfl (by rw [Nat.zero_add]; exact hj)) (fl_one eO_ok _) (by omega) (by omega) (m2 + 1) (by omega) ?_
   intro p44 cap45 w46 h47
   have h48 : sat g w46 [Sl 28 3 p44 (m2 + 1) cap45 (fl eO ((liveT S.E k) ++ [(e12.d.1, e12.d.2.1, e12.d.2.2)])), Cl r40 [iV e12.d.1, iV e12.d.2.1, uV e12.d.2.2] 28, Cl r33 [iV e12.d.1, iV e12.d.2.1, uV e12.d.2.2] 28, TW b n S, R] := sat_imp h47 (fun _ hh => by rw [fl_app]; exact hh)
   obtain ⟨hn49, hn50⟩ := sl_le h48
   refine yB0 [] [4] [(3, .slice p44 (m2 + 1) cap45)] (.mk ?_)
   refine yK [(0, pV b), (3, .slice p44 (m2 + 1) cap45), (4, iV (k : Int))] fun lr51 => ?_
   refine yPl [0, 1, 2] ?_
   refine yBb [] [(4, iV ((k : Int) + 1)), (10, iV ((k : Int) + 1)), (9, iV (k : Int))] [e0 0, e1 1 (iV ((k : Int) + 1)), e0 2] [] [(iV (IntKind.wrap .i64 ((k : Int) + 1)), iV ((k : Int) + 1))] ⟨(ov_i64 (by omega) (by omega) (by omega)), trivial⟩ nC (.mk ?_)
   have h52 : sat g w46 [Sl 28 3 p44 (m2 + 1) cap45 (fl eO (liveT S.E (k + 1))), Cl r40 [iV e12.d.1, iV e12.d.2.1, uV e12.d.2.2] 28, Cl r33 [iV e12.d.1, iV e12.d.2.1, uV e12.d.2.2] 28, TW b n S, R] := sat_imp h48 (fun _ hh_ => by rw [show (((liveT S.E k) ++ [(e12.d.1, e12.d.2.1, e12.d.2.2)]) : List Ky) = (liveT S.E (k + 1)) from liveT_go hg13] at hh_; exact hh_)
   have h53 := tk5 (sf4 (sf4 (sf4 (sf2 (sf2 h52)))))
   have h54 := tk3 h53
   change ∃ n', n' < _ ∧ _
   refine ⟨(256 - (k + 1)), by omega, (k + 1), p44, m2 + 1, cap45, _, rfl, (by omega), (by omega), (mk_live [(0, pV b), (3, .slice p44 (m2 + 1) cap45), (4, iV ((((k + 1) : Nat) : Int)))] ⟨rfl, rfl, (ov_int (by omega)), trivial⟩), h54⟩
 ·
  refine yBb [] [(8, .bool false)] [e1 1 (.bool false)] [] [(.bool (decide ((k : Int) < 256)), .bool false)] ⟨(ov_f (by omega)), trivial⟩ nC (.mk ?_)
  refine yK [(0, pV b), (3, .slice p2 m2 c2), (4, iV (k : Int)), (8, .bool false)] fun lr55 => ?_
  refine yCf ?_
  refine yEx 0 ?_
  refine ySq ?_
  refine yPl [0, 1] ?_
  refine yB0 [] [0, 1] [(2, .slice p2 m2 c2), (22, .slice p2 m2 c2)] (.mk ?_)
  refine yK [(2, .slice p2 m2 c2)] fun lr56 => ?_
  refine yRt ?_
  repeat (first | simp only [Exit.inBlock] | simp only [Exit.then])
  have h57 : sat g w8 [Sl 28 3 p2 m2 c2 (fl eO (liveL S.E)), TW b n S, R] := sat_imp h9 (fun _ hh_ => by rw [show ((liveT S.E k) : List Ky) = (liveL S.E) from (by rw [show k = 256 from by omega]; rfl)] at hh_; exact hh_)
  have hl58 := fl_n eO_ok (by decide) h57
  have h59 : sat g w8 [Sl 28 3 p2 (((liveL S.E).length)) c2 (fl eO (liveL S.E)), TW b n S, R] := sat_imp h57 (fun _ hh_ => by rw [hl58]; exact hh_)
  have h60 := tk3 (sf2 (sf1 (sf2 h59)))
  refine hi_out [] (.slice p2 m2 c2) [] (by kernel_rfl) (by intro q hq; cases hq) ?_
  exact ⟨.slice p2 m2 c2, [TW b n S, Sl 28 3 p2 (((liveL S.E).length)) c2 (fl eO (liveL S.E))], rfl, ⟨p2, c2, by rw [hl58], rfl⟩, h60⟩

set_option maxHeartbeats 4000000 in
theorem leave_w (b n : Nat) (S : Ts) (vn : Int) (hv : 1 ≤ vn ∧ vn ≤ (S.R.length : Int)) (hs : (getR S vn).st = 1) (hd : (descs S.E vn).length = 0) : HT Try.prog 46 [Value.pointer (some ⟨b, 0, none⟩), Value.int IntKind.i64 vn] [TW b n S] (fun v K => v = Value.tuple #[] ∧ K = [TW b n (lvS S vn)]) := by
 refine hi_in 24 ([(0, pV b), (1, iV vn)] : Fr) Try.func46 (by kernel_rfl) Try.ntmps46 rfl rfl ?_
 intro g w0 R h0
 have hW_ := (wi_out h0).1
 obtain ⟨x, y, z, L, hr_, ho_, hz0_, hz1_, ht_, hl_⟩ := live_form hW_ hv hs
 refine ySq ?_
 refine yPl [0, 1, 2, 3, 4, 5, 6, 7, 8] ?_
 refine yB0 [2, 3, 4, 5, 6, 7, 8] [0, 1] [(9, iV vn), (8, pV b)] ?_
 refine yA ?_
 refine yCl 10 Try.call20 ((by have h_ := tget_w b n S vn; unfold nE at h_; rw [if_pos hv, hr_] at h_; exact h_)) h0 ?_
 rintro v K w1 (⟨rfl, rfl⟩) h2
 refine ⟨_, rfl, ?_⟩
 have h3 := ap1 h2
 refine yB0 [6, 7, 8] [3, 4, 5] [(12, iV 0), (11, .agg #[iV x, iV y, uV z, iV 1, iV 0, iV 0, iV 0, .string (St L)]), (7, .tuple #[.agg #[iV x, iV y, uV z, iV 1, iV 0, iV 0, iV 0, .string (St L)], iV 0])] ?_
 refine yA ?_
 refine yNp 4 42 [iV 0, iV 0, uV 0, iV 0, iV 0, iV 0, iV 0, .string (St [])] h3 fun r4 w5 h6 => ?_
 refine yA ?_
 refine yS [(0, iV x), (1, iV y), (2, uV z), (3, iV 1), (4, iV 0), (5, iV 0), (6, iV 0), (7, .string (St L))] [iV x, iV y, uV z, iV 1, iV 0, iV 0, iV 0, .string (St L)] h6 fun w7 h8 => ?_
 refine yB0 [] [8] [(5, iV 0)] (.mk ?_)
 refine yK [(0, pV b), (1, iV vn), (4, pV r4)] fun lr9 => ?_
 refine ySq ?_
 refine yPl [0, 1, 2, 3, 4, 5, 6] ?_
 refine yBb [1, 2, 3, 4, 5, 6] [(14, .agg #[iV x, iV y, uV z, iV 1, iV 0, iV 0, iV 0, .string (St L)])] [e2 0 [iV x, iV y, uV z, iV 1, iV 0, iV 0, iV 0, .string (St L)]] [(0, ⟨r4, 0, none⟩, iV x), (0, ⟨r4, 1, none⟩, iV y), (0, ⟨r4, 2, none⟩, uV z), (0, ⟨r4, 3, none⟩, iV 1), (0, ⟨r4, 4, none⟩, iV 0), (0, ⟨r4, 5, none⟩, iV 0), (0, ⟨r4, 6, none⟩, iV 0), (0, ⟨r4, 7, none⟩, .string (St L))] [] trivial (kC (sat_cell h8 0 rfl rfl) (kC (sat_cell h8 0 rfl rfl) (kC (sat_cell h8 0 rfl rfl) (kC (sat_cell h8 0 rfl rfl) (kC (sat_cell h8 0 rfl rfl) (kC (sat_cell h8 0 rfl rfl) (kC (sat_cell h8 0 rfl rfl) (kC (sat_cell h8 0 rfl rfl) nC)))))))) ?_
 refine yA ?_
 refine yCl 15 Try.call61 (rclose_ok x y z L (by omega) (by omega) (by omega) (by omega) (by omega)) h8 ?_
 rintro v K w10 (⟨rfl, rfl⟩) h11
 refine ⟨_, rfl, ?_⟩
 have h12 := ap0 h11
 refine yB0 [5, 6] [2, 3, 4] [(17, iV 0), (16, .agg #[iV x, iV y, uV z, iV 2, iV 1, iV 0, iV 0, .string (St L)]), (13, .tuple #[.agg #[iV x, iV y, uV z, iV 2, iV 1, iV 0, iV 0, .string (St L)], iV 0])] ?_
 refine yA ?_
 refine yS [(0, iV x), (1, iV y), (2, uV z), (3, iV 2), (4, iV 1), (5, iV 0), (6, iV 0), (7, .string (St L))] [iV x, iV y, uV z, iV 2, iV 1, iV 0, iV 0, .string (St L)] h12 fun w13 h14 => ?_
 refine yB0 [] [6] [(6, iV 0)] (.mk ?_)
 refine yK [(0, pV b), (1, iV vn), (4, pV r4), (6, iV 0)] fun lr15 => ?_
 refine ySq ?_
 refine yPl [0, 1] ?_
 refine yB0 [] [0, 1] [(19, .bool true), (18, iV 0)] (.mk ?_)
 refine yK [(0, pV b), (1, iV vn), (4, pV r4), (19, .bool true)] fun lr16 => ?_
 refine yCt ?_
 refine yPl [0, 1, 2, 3] ?_
 refine yBb [3] [(22, .agg #[iV x, iV y, uV z, iV 2, iV 1, iV 0, iV 0, .string (St L)]), (21, iV vn), (20, pV b)] [e0 0, e0 1, e2 2 [iV x, iV y, uV z, iV 2, iV 1, iV 0, iV 0, .string (St L)]] [(2, ⟨r4, 0, none⟩, iV x), (2, ⟨r4, 1, none⟩, iV y), (2, ⟨r4, 2, none⟩, uV z), (2, ⟨r4, 3, none⟩, iV 2), (2, ⟨r4, 4, none⟩, iV 1), (2, ⟨r4, 5, none⟩, iV 0), (2, ⟨r4, 6, none⟩, iV 0), (2, ⟨r4, 7, none⟩, .string (St L))] [] trivial (kC (sat_cell h14 0 rfl rfl) (kC (sat_cell h14 0 rfl rfl) (kC (sat_cell h14 0 rfl rfl) (kC (sat_cell h14 0 rfl rfl) (kC (sat_cell h14 0 rfl rfl) (kC (sat_cell h14 0 rfl rfl) (kC (sat_cell h14 0 rfl rfl) (kC (sat_cell h14 0 rfl rfl) nC)))))))) ?_
 have h17 := tk3 (sf2 (sf1 (sf2 h14)))
 refine yA ?_
 refine yCl 23 Try.call17 (tset_w b n S vn x y z 2 1 0 0 L (by omega) (by omega) (by omega)) h17 ?_
 rintro v K w18 (⟨rfl, rfl⟩) h19
 refine ⟨_, rfl, ?_⟩
 have h20 := ap1 h19
 refine PO.mk ?_
 repeat (first | simp only [Exit.inBlock] | simp only [Exit.then])
 have h21 : sat g w18 [TW b n (lvS S vn), Cl r4 [iV x, iV y, uV z, iV 2, iV 1, iV 0, iV 0, .string (St L)] 42, R] := (show (setS S vn ⟨(x, y, z), 2, 1, 0, 0, L⟩) = (lvS S vn) from by have h_ := (lv_set hW_ hv hs hd).2; rw [hr_] at h_; exact h_) ▸ h20
 have h22 := tk2 (sf1 (sf2 h21))
 refine hi_outn [] (.tuple #[]) [] (by kernel_rfl) (by intro q hq; cases hq) ?_
 exact ⟨.tuple #[], [TW b n (lvS S vn)], rfl, ⟨rfl, rfl⟩, h22⟩

set_option maxHeartbeats 4000000 in
theorem lclose_w (b n : Nat) (S : Ts) (x y z : Int) (hz0 : 0 ≤ z) (hz1 : z ≤ 4294967295) : HT Try.prog 32 [Value.pointer (some ⟨b, 0, none⟩), Value.agg #[Value.int IntKind.i64 x, Value.int IntKind.i64 y, Value.int IntKind.u32 z]] [TW b n S] (fun v K => v = Value.tuple #[] ∧ K = [TW b n (lclS S (x, y, z))]) := by
 refine hi_in 22 ([(0, pV b), (1, .agg #[iV x, iV y, uV z])] : Fr) Try.func32 (by kernel_rfl) Try.ntmps32 rfl rfl ?_
 intro g w0 R h0
 have hW_ := (wi_out h0).1
 refine ySq ?_
 refine yPl [0] ?_
 refine yA ?_
 refine yNp 3 28 [iV x, iV y, uV z] h0 fun r1 w2 h3 => ?_
 refine PO.mk ?_
 refine yK [(0, pV b), (3, pV r1)] fun lr4 => ?_
 refine ySq ?_
 refine yPl [0, 1, 2, 3, 4, 5, 6, 7, 8, 9] ?_
 refine yBb [2, 3, 4, 5, 6, 7, 8, 9] [(9, .agg #[iV x, iV y, uV z]), (8, pV b)] [e0 0, e2 1 [iV x, iV y, uV z]] [(1, ⟨r1, 0, none⟩, iV x), (1, ⟨r1, 1, none⟩, iV y), (1, ⟨r1, 2, none⟩, uV z)] [] trivial (kC (sat_cell h3 0 rfl rfl) (kC (sat_cell h3 0 rfl rfl) (kC (sat_cell h3 0 rfl rfl) nC))) ?_
 rcases Bool.eq_false_or_eq_true (clsL S (x, y, z)) with cb5 | cb5
 ·
  have hz6 := (clsL_ok cb5).1
  have h7 := tk3 (sf2 (sf1 (sf2 h3)))
  refine yA ?_
  refine yCl 10 Try.call15 ((by have h_ := tclose_w b n S x y z (by omega) (by omega); rw [cb5] at h_; exact h_)) h7 ?_
  rintro v K w8 (⟨rfl, rfl⟩) h9
  refine ⟨_, rfl, ?_⟩
  have h10 := ap1 h9
  refine yB0 [] [3, 4, 5, 6, 7, 8, 9] [(6, iV ((fndE S (x, y, z)))), (5, .bool true), (4, iV ((fndX S (x, y, z)).num)), (13, iV ((fndE S (x, y, z)))), (12, .bool true), (11, iV ((fndX S (x, y, z)).num)), (7, .tuple #[iV ((fndX S (x, y, z)).num), .bool true, iV ((fndE S (x, y, z)))])] (.mk ?_)
  refine yK [(0, pV b), (4, iV ((fndX S (x, y, z)).num)), (5, .bool true), (6, iV ((fndE S (x, y, z))))] fun lr11 => ?_
  refine ySq ?_
  refine yPl [0, 1, 2, 3, 4] ?_
  refine yBb [] [(18, .bool true), (17, .bool true), (16, .bool true), (15, .bool true), (14, iV ((fndE S (x, y, z))))] [e0 0, e1 1 (.bool true), e0 2, e0 3, e0 4] [] [(.bool (((fndE S (x, y, z))) == 0), .bool true)] ⟨(ov_et (by omega)), trivial⟩ nC (.mk ?_)
  refine yK [(0, pV b), (4, iV ((fndX S (x, y, z)).num)), (18, .bool true)] fun lr12 => ?_
  refine yCt ?_
  refine yPl [0, 1, 2] ?_
  refine yB0 [2] [0, 1] [(20, iV ((fndX S (x, y, z)).num)), (19, pV b)] ?_
  refine yA ?_
  refine yCl 21 Try.call46 (leave_w b n (clsS S (x, y, z)) ((fndX S (x, y, z)).num) (cls_live hW_ cb5).1 (cls_live hW_ cb5).2.1 (cls_live hW_ cb5).2.2) h10 ?_
  rintro v K w13 (⟨rfl, rfl⟩) h14
  refine ⟨_, rfl, ?_⟩
  have h15 := ap1 h14
  refine PO.mk ?_
  repeat (first | simp only [Exit.inBlock] | simp only [Exit.then])
  have h16 : sat g w13 [TW b n (lclS S (x, y, z)), Cl r1 [iV x, iV y, uV z] 28, R] := (show (lvS (clsS S (x, y, z)) ((fndX S (x, y, z)).num)) = (lclS S (x, y, z)) from lcl_yes cb5) ▸ h15
  have h17 := tk2 (sf1 (sf2 h16))
  refine hi_outn [] (.tuple #[]) [] (by kernel_rfl) (by intro q hq; cases hq) ?_
  exact ⟨.tuple #[], [TW b n (lclS S (x, y, z))], rfl, ⟨rfl, rfl⟩, h17⟩
 ·
  have h18 := tk3 (sf2 (sf1 (sf2 h3)))
  refine yA ?_
  refine yCl 10 Try.call15 ((by have h_ := tclose_w b n S x y z (by omega) (by omega); rw [cb5] at h_; exact h_)) h18 ?_
  rintro v K w19 (⟨rfl, rfl⟩) h20
  refine ⟨_, rfl, ?_⟩
  have h21 := ap1 h20
  refine yB0 [] [3, 4, 5, 6, 7, 8, 9] [(6, iV ((fndE S (x, y, z)))), (5, .bool false), (4, iV ((fndX S (x, y, z)).num)), (13, iV ((fndE S (x, y, z)))), (12, .bool false), (11, iV ((fndX S (x, y, z)).num)), (7, .tuple #[iV ((fndX S (x, y, z)).num), .bool false, iV ((fndE S (x, y, z)))])] (.mk ?_)
  refine yK [(0, pV b), (4, iV ((fndX S (x, y, z)).num)), (5, .bool false), (6, iV ((fndE S (x, y, z))))] fun lr22 => ?_
  refine ySq ?_
  refine yPl [0, 1, 2, 3, 4] ?_
  refine yB0 [1, 2, 3, 4] [0] [(14, iV ((fndE S (x, y, z))))] ?_
  by_cases c23 : (fndE S (x, y, z)) = 0
  ·
   refine yBb [] [(18, .bool false), (17, .bool false), (16, .bool true), (15, .bool true)] [e1 1 (.bool true), e0 2, e0 3, e0 4] [] [(.bool (((fndE S (x, y, z))) == 0), .bool true)] ⟨(ov_et (by omega)), trivial⟩ nC (.mk ?_)
   refine yK [(0, pV b), (4, iV ((fndX S (x, y, z)).num)), (18, .bool false)] fun lr24 => ?_
   refine yCf ?_
   refine ySk ?_
   repeat (first | simp only [Exit.inBlock] | simp only [Exit.then])
   have h25 : sat g w19 [TW b n (lclS S (x, y, z)), Cl r1 [iV x, iV y, uV z] 28, R] := (show (clsS S (x, y, z)) = (lclS S (x, y, z)) from lcl_no cb5) ▸ h21
   have h26 := tk2 (sf1 (sf2 h25))
   refine hi_outn [] (.tuple #[]) [] (by kernel_rfl) (by intro q hq; cases hq) ?_
   exact ⟨.tuple #[], [TW b n (lclS S (x, y, z))], rfl, ⟨rfl, rfl⟩, h26⟩
  ·
   refine yBb [] [(18, .bool false), (17, undef), (16, .bool false), (15, .bool false)] [e1 1 (.bool false), e0 2, e0 3, e0 4] [] [(.bool (((fndE S (x, y, z))) == 0), .bool false)] ⟨(ov_ef (by omega)), trivial⟩ nC (.mk ?_)
   refine yK [(0, pV b), (4, iV ((fndX S (x, y, z)).num)), (18, .bool false)] fun lr27 => ?_
   refine yCf ?_
   refine ySk ?_
   repeat (first | simp only [Exit.inBlock] | simp only [Exit.then])
   have h28 : sat g w19 [TW b n (lclS S (x, y, z)), Cl r1 [iV x, iV y, uV z] 28, R] := (show (clsS S (x, y, z)) = (lclS S (x, y, z)) from lcl_no cb5) ▸ h21
   have h29 := tk2 (sf1 (sf2 h28))
   refine hi_outn [] (.tuple #[]) [] (by kernel_rfl) (by intro q hq; cases hq) ?_
   exact ⟨.tuple #[], [TW b n (lclS S (x, y, z))], rfl, ⟨rfl, rfl⟩, h29⟩

end Go.Proofs.Ytjjpmehiolejgaa
