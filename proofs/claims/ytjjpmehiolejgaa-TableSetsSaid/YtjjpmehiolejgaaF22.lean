/- Walks, printed by my generator gen22.py. -/
import Derived.Test.YtjjpmehiolejgaaF20
import Derived.Test.YtjjpmehiolejgaaF21
import Derived.Test.YtjjpmehiolejgaaTabC
namespace Go.Proofs.Ytjjpmehiolejgaa
set_option maxHeartbeats 4000000 in
theorem texp_w (b n : Nat) (S : Ts) (vn : Int) : HT Try.prog 31 [Value.pointer (some ⟨b, 0, none⟩), Value.int IntKind.i64 vn] [TW b n S] (fun v K => ∃ (p : Option Addr) (c : Nat), v = Value.tuple #[Value.slice p (((descs S.E vn).length)) c, Value.int IntKind.i64 ((nE S vn))] ∧ K = [TW b n (expS S vn), Sl 28 3 p (((descs S.E vn).length)) c (fl eO (descs S.E vn))]) := by
 refine hi_in 28 ([(0, pV b), (1, iV vn)] : Fr) Try.func31 (by kernel_rfl) Try.ntmps31 rfl rfl ?_
 intro g w0 R h0
 have hW_ := (wi_out h0).1
 have hdl_ := descs_len S.E vn
 refine ySq ?_
 refine yPl [0, 1] ?_
 refine yB0 [] [0, 1] [(5, iV 0), (4, .slice none 0 0)] (.mk ?_)
 refine yK [(0, pV b), (1, iV vn)] fun lr1 => ?_
 refine ySq ?_
 refine yPl [0, 1, 2, 3, 4, 5, 6, 7] ?_
 refine yB0 [2, 3, 4, 5, 6, 7] [0, 1] [(12, iV vn), (11, pV b)] ?_
 refine yA ?_
 refine yCl 13 Try.call21 (tdescs_w b n S vn) h0 ?_
 rintro v K w4 (⟨p2, c3, rfl, rfl⟩) h5
 refine ⟨_, rfl, ?_⟩
 have h6 := ap2 h5
 refine yB0 [] [3, 4, 5, 6, 7] [(7, iV ((nE S vn))), (6, .slice p2 (((descs S.E vn).length)) c3), (15, iV ((nE S vn))), (14, .slice p2 (((descs S.E vn).length)) c3), (10, .tuple #[.slice p2 (((descs S.E vn).length)) c3, iV ((nE S vn))])] (.mk ?_)
 refine yK [(0, pV b), (6, .slice p2 (((descs S.E vn).length)) c3), (7, iV ((nE S vn)))] fun lr7 => ?_
 refine ySq ?_
 refine ySq ?_
 refine yPl [0, 1, 2] ?_
 refine yB0 [] [0, 1, 2] [(18, iV 0), (17, iV ((((descs S.E vn).length : Nat) : Int))), (16, .slice p2 (((descs S.E vn).length)) c3)] (.mk ?_)
 refine yK [(0, pV b), (6, .slice p2 (((descs S.E vn).length)) c3), (7, iV ((nE S vn))), (16, .slice p2 (((descs S.E vn).length)) c3), (17, iV ((((descs S.E vn).length : Nat) : Int))), (18, iV 0)] fun lr8 => ?_
 refine yBk 0 ?_
 have h9 := tk3 (sf2 (sf1 (sf2 h6)))
 have hl10 := fl_n eO_ok (by decide) h9
 have h11 := tk3 (sf2 (sf1 (sf2 h9)))
 refine gi_lp (x := CA Try.f31 [1, 1, 0, 1, 0, 0]) (by kernel_rfl) (fun mz_ a w => ∃ k : Nat, ∃ lr : Fr, mz_ = ((descs S.E vn).length) - k ∧ (k ≤ (descs S.E vn).length) ∧ a = mk 28 (([(0, pV b), (6, .slice p2 (((descs S.E vn).length)) c3), (7, iV ((nE S vn))), (16, .slice p2 (((descs S.E vn).length)) c3), (17, iV ((((descs S.E vn).length : Nat) : Int))), (18, iV (k : Int))] : Fr) ++ lr) ∧ sat g w [TW b n (dropK S vn k), Sl 28 3 p2 (((descs S.E vn).length)) c3 (fl eO (descs S.E vn)), R]) ((descs S.E vn).length - 0) ⟨0, _, rfl, (Nat.zero_le _), (mk_live [(0, pV b), (6, .slice p2 (((descs S.E vn).length)) c3), (7, iV ((nE S vn))), (16, .slice p2 (((descs S.E vn).length)) c3), (17, iV ((((descs S.E vn).length : Nat) : Int))), (18, iV (0 : Int))] ⟨rfl, rfl, rfl, rfl, rfl, (ov_int (by omega)), trivial⟩), h11⟩ ?_
 rintro m13 a14 w15 ⟨k, lr12, rfl, hk, rfl, h16⟩
 refine ySq ?_
 refine yPl [0] ?_
 by_cases c17 : (k : Int) < (((descs S.E vn).length : Nat) : Int)
 ·
  refine yBb [] [(19, .bool true)] [e1 0 (.bool true)] [] [(.bool (decide ((k : Int) < (((descs S.E vn).length : Nat) : Int))), .bool true)] ⟨(ov_t (by omega)), trivial⟩ nC (.mk ?_)
  refine yK [(0, pV b), (6, .slice p2 (((descs S.E vn).length)) c3), (7, iV ((nE S vn))), (16, .slice p2 (((descs S.E vn).length)) c3), (17, iV ((((descs S.E vn).length : Nat) : Int))), (18, iV (k : Int)), (19, .bool true)] fun lr18 => ?_
  refine ySq ?_
  refine yCt ?_
  refine ySk ?_
  refine ySq ?_
  refine yBk 1 ?_
  refine ySq ?_
  refine yPl [0, 1, 2, 3] ?_
  obtain ⟨b19, hp20⟩ := sl_ptr0 (j := 1) h16 rfl (by omega)
  refine plain_law (i := 0) 20 (.pointer (some ⟨b19, k * 3, none⟩)) (by kernel_rfl) (law_indexSlP (o := opA (RA Try.f31 [1, 1, 0, 1, 0, 0, 1, 1, 0, 0, 0]) 0) (x := (Operand.tmp 16)) (i := (Operand.tmp 18)) (p := p2) (b := b19) (off := 0) (z := (k : Int)) (len := (((descs S.E vn).length))) (cap := c3) (by kernel_rfl) Try.underlying45 3 (by kernel_rfl) k (by kernel_rfl) hp20 (by kernel_rfl) (by omega) (by omega) (k * 3) (by omega) _) ?_
  obtain ⟨x21, hx22⟩ : ∃ x, (descs S.E vn)[k]? = some x := ⟨_, List.getElem?_eq_getElem (by rw [hl10]; omega)⟩
  obtain ⟨e23, he24, hd25⟩ := dropK_at hW_ hx22
  have hb26 := desc_ok hW_ (List.mem_of_getElem? hx22)
  refine yBb [2, 3] [(21, .agg #[iV x21.1, iV x21.2.1, uV x21.2.2])] [e2 1 [iV x21.1, iV x21.2.1, uV x21.2.2]] [(1, ⟨b19, k * 3, none⟩, iV x21.1), (1, ⟨b19, k * 3 + 1, none⟩, iV x21.2.1), (1, ⟨b19, k * 3 + 2, none⟩, uV x21.2.2)] [] trivial (kC (gv_cell (j := 1) h16 rfl (gv_sl _ _ _) hp20 (fl_get eO_ok (j := 0) (v := iV x21.1) hx22 rfl) (k * 3) (by omega)) (kC (gv_cell (j := 1) h16 rfl (gv_sl _ _ _) hp20 (fl_get eO_ok (j := 1) (v := iV x21.2.1) hx22 rfl) (k * 3 + 1) (by omega)) (kC (gv_cell (j := 1) h16 rfl (gv_sl _ _ _) hp20 (fl_get eO_ok (j := 2) (v := uV x21.2.2) hx22 rfl) (k * 3 + 2) (by omega)) nC))) ?_
  refine yA ?_
  refine yNp 9 28 [iV 0, iV 0, uV 0] h16 fun r27 w28 h29 => ?_
  refine yA ?_
  refine yS [(0, iV x21.1), (1, iV x21.2.1), (2, uV x21.2.2)] [iV x21.1, iV x21.2.1, uV x21.2.2] h29 fun w30 h31 => ?_
  refine PO.mk ?_
  refine yK [(0, pV b), (6, .slice p2 (((descs S.E vn).length)) c3), (7, iV ((nE S vn))), (9, pV r27), (16, .slice p2 (((descs S.E vn).length)) c3), (17, iV ((((descs S.E vn).length : Nat) : Int))), (18, iV (k : Int))] fun lr32 => ?_
  refine yPl [0, 1, 2] ?_
  refine yBb [2] [(23, .agg #[iV x21.1, iV x21.2.1, uV x21.2.2]), (22, pV b)] [e0 0, e2 1 [iV x21.1, iV x21.2.1, uV x21.2.2]] [(1, ⟨r27, 0, none⟩, iV x21.1), (1, ⟨r27, 1, none⟩, iV x21.2.1), (1, ⟨r27, 2, none⟩, uV x21.2.2)] [] trivial (kC (sat_cell h31 0 rfl rfl) (kC (sat_cell h31 0 rfl rfl) (kC (sat_cell h31 0 rfl rfl) nC))) ?_
  have h33 := tk4 (sf3 (sf2 (sf3 (sf3 h31))))
  refine yA ?_
  refine yCl 24 Try.call45 (tdrop_w b n (dropK S vn k) x21.1 x21.2.1 x21.2.2 (by omega) (by omega) e23 he24 hd25) h33 ?_
  rintro v K w34 (⟨rfl, rfl⟩) h35
  refine ⟨_, rfl, ?_⟩
  have h36 := ap1 h35
  refine PO.mk ?_
  refine yK [(0, pV b), (6, .slice p2 (((descs S.E vn).length)) c3), (7, iV ((nE S vn))), (16, .slice p2 (((descs S.E vn).length)) c3), (17, iV ((((descs S.E vn).length : Nat) : Int))), (18, iV (k : Int))] fun lr37 => ?_
  refine yPl [0, 1] ?_
  refine yBb [] [(18, iV ((k : Int) + 1)), (25, iV ((k : Int) + 1))] [e1 0 (iV ((k : Int) + 1)), e0 1] [] [(iV (IntKind.wrap .i64 ((k : Int) + 1)), iV ((k : Int) + 1))] ⟨(ov_i64 (by omega) (by omega) (by omega)), trivial⟩ nC (.mk ?_)
  have h38 : sat g w34 [TW b n (dropK S vn (k + 1)), Cl r27 [iV x21.1, iV x21.2.1, uV x21.2.2] 28, Sl 28 3 p2 (((descs S.E vn).length)) c3 (fl eO (descs S.E vn)), R] := (show (dropS (dropK S vn k) x21) = dropK S vn (k + 1) from dropK_go hx22) ▸ h36
  have h39 := tk4 (sf3 (sf3 (sf3 (sf1 h38))))
  have h40 := tk3 h39
  change ∃ n', n' < _ ∧ _
  refine ⟨((descs S.E vn).length - (k + 1)), by omega, (k + 1), _, rfl, (by omega), (mk_live [(0, pV b), (6, .slice p2 (((descs S.E vn).length)) c3), (7, iV ((nE S vn))), (16, .slice p2 (((descs S.E vn).length)) c3), (17, iV ((((descs S.E vn).length : Nat) : Int))), (18, iV ((((k + 1) : Nat) : Int)))] ⟨rfl, rfl, rfl, rfl, rfl, (ov_int (by omega)), trivial⟩), h40⟩
 ·
  refine yBb [] [(19, .bool false)] [e1 0 (.bool false)] [] [(.bool (decide ((k : Int) < (((descs S.E vn).length : Nat) : Int))), .bool false)] ⟨(ov_f (by omega)), trivial⟩ nC (.mk ?_)
  refine yK [(0, pV b), (6, .slice p2 (((descs S.E vn).length)) c3), (7, iV ((nE S vn))), (16, .slice p2 (((descs S.E vn).length)) c3), (17, iV ((((descs S.E vn).length : Nat) : Int))), (18, iV (k : Int)), (19, .bool false)] fun lr41 => ?_
  refine ySq ?_
  refine yCf ?_
  refine yEx 0 ?_
  refine ySq ?_
  refine yPl [0, 1, 2, 3] ?_
  refine yB0 [] [0, 1, 2, 3] [(5, iV ((nE S vn))), (4, .slice p2 (((descs S.E vn).length)) c3), (27, iV ((nE S vn))), (26, .slice p2 (((descs S.E vn).length)) c3)] (.mk ?_)
  refine yK [(4, .slice p2 (((descs S.E vn).length)) c3), (5, iV ((nE S vn)))] fun lr42 => ?_
  refine yRt ?_
  repeat (first | simp only [Exit.inBlock] | simp only [Exit.then])
  have h43 : sat g w15 [TW b n (expS S vn), Sl 28 3 p2 (((descs S.E vn).length)) c3 (fl eO (descs S.E vn)), R] := (show (dropK S vn k) = expS S vn from dropK_all S vn (by omega)) ▸ h16
  refine hi_out [] (.tuple #[.slice p2 (((descs S.E vn).length)) c3, iV ((nE S vn))]) [] (by kernel_rfl) (by intro q hq; cases hq) ?_
  exact ⟨.tuple #[.slice p2 (((descs S.E vn).length)) c3, iV ((nE S vn))], [TW b n (expS S vn), Sl 28 3 p2 (((descs S.E vn).length)) c3 (fl eO (descs S.E vn))], rfl, ⟨p2, c3, rfl, rfl⟩, h43⟩

end Go.Proofs.Ytjjpmehiolejgaa
