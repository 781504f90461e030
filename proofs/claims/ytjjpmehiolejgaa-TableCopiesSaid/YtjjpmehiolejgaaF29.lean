/- Walks, printed by my generator gen29.py. -/
import Derived.Test.YtjjpmehiolejgaaF24
import Derived.Test.YtjjpmehiolejgaaF18
import Derived.Test.YtjjpmehiolejgaaTabI
namespace Go.Proofs.Ytjjpmehiolejgaa
theorem q29e28_neq_t {n : Nat} {l : Fr} {o : Oper} {x y : Operand} (a0 : Int) (a1 : Int) (a2 : Int) (c0 : Int) (c1 : Int) (c2 : Int) (ho : o.op = .binOp .neq 28 x y 28) (hx : fe n l x = .agg #[.int .i64 a0, .int .i64 a1, .int .u32 a2]) (hy : fe n l y = .agg #[.int .i64 c0, .int .i64 c1, .int .u32 c2]) (h : a0 = c0 ∧ a1 = c1 ∧ a2 = c2) (w : World) : (execOp (fe n l) o).run Try.prog w = .ok (.value (.bool false)) w := by
  obtain ⟨rfl, rfl, rfl⟩ := h
  simp [execOp, ho, hx, hy, go_sem]
theorem q29e42_neq_t {n : Nat} {l : Fr} {o : Oper} {x y : Operand} (a0 : Int) (a1 : Int) (a2 : Int) (a3 : Int) (a4 : Int) (a5 : Int) (a6 : Int) (a7 : List UInt8) (c0 : Int) (c1 : Int) (c2 : Int) (c3 : Int) (c4 : Int) (c5 : Int) (c6 : Int) (c7 : List UInt8) (ho : o.op = .binOp .neq 42 x y 42) (hx : fe n l x = .agg #[.int .i64 a0, .int .i64 a1, .int .u32 a2, .int .i64 a3, .int .i64 a4, .int .i64 a5, .int .i64 a6, .string (St a7)]) (hy : fe n l y = .agg #[.int .i64 c0, .int .i64 c1, .int .u32 c2, .int .i64 c3, .int .i64 c4, .int .i64 c5, .int .i64 c6, .string (St c7)]) (h : a0 = c0 ∧ a1 = c1 ∧ a2 = c2 ∧ a3 = c3 ∧ a4 = c4 ∧ a5 = c5 ∧ a6 = c6 ∧ a7 = c7) (w : World) : (execOp (fe n l) o).run Try.prog w = .ok (.value (.bool false)) w := by
  obtain ⟨rfl, rfl, rfl, rfl, rfl, rfl, rfl, rfl⟩ := h
  simp [execOp, ho, hx, hy, go_sem]
set_option maxHeartbeats 4000000 in
theorem copies_law (wo : World) (sz bl : Int) (hsz : 0 ≤ sz ∧ sz ≤ 255) (hbl : 0 ≤ bl ∧ bl ≤ 255) (p0 : Option Addr) (n cp : Nat) (T : List Mv) (hr : Rd wo p0 n (fl eMv T)) (hT : T.length = n) (hO : ∀ m ∈ T, MvOk m) : HT Try.prog 8 [Value.int IntKind.u8 sz, Value.int IntKind.u8 bl, Value.slice p0 n cp] [Old wo] (fun v K => v = Value.bool true ∧ K = [Old wo]) := by
 refine hi_in 114 ([(0, yV sz), (1, yV bl), (2, .slice p0 n cp)] : Fr) Try.func8 (by kernel_rfl) Try.ntmps8 rfl rfl ?_
 intro g w0 R h0
 obtain ⟨nn, hnn⟩ : ∃ nn : Nat, (nn : Int) = sz % 12 + 1 := ⟨(sz % 12 + 1).toNat, by omega⟩
 obtain ⟨gg, hgg⟩ : ∃ g : Int, g = 4294967295 - bl % 6 := ⟨_, rfl⟩
 refine ySq ?_
 refine yPl [0] ?_
 refine yB0 [] [0] [(6, .bool false)] (.mk ?_)
 refine yK [(0, yV sz), (1, yV bl), (2, .slice p0 n cp)] fun lr1 => ?_
 refine ySq ?_
 refine ySq ?_
 refine yPl [0, 1, 2] ?_
 refine yB0 [2] [0, 1] [(22, iV (n : Int)), (21, .slice p0 n cp)] ?_
 by_cases c2 : (n : Int) > 80
 ·
  refine yBb [] [(23, .bool true)] [e1 2 (.bool true)] [] [(.bool (decide ((n : Int) > 80)), .bool true)] ⟨(ov_t (by omega)), trivial⟩ nC (.mk ?_)
  refine yK [(0, yV sz), (1, yV bl), (2, .slice p0 n cp), (23, .bool true)] fun lr3 => ?_
  refine yCt ?_
  refine ySq ?_
  refine yPl [0, 1] ?_
  refine yA ?_
  refine yCl 24 Try.call18 (works_ht) h0 ?_
  rintro v K w4 (⟨rfl, rfl⟩) h5
  refine ⟨_, rfl, ?_⟩
  have h6 := ap0 h5
  refine yB0 [] [1] [(6, .bool true)] (.mk ?_)
  refine yK [(6, .bool true)] fun lr7 => ?_
  refine yRt ?_
  repeat (first | simp only [Exit.inBlock] | simp only [Exit.then])
  refine hi_out [] (.bool true) [] (by kernel_rfl) (by intro q hq; cases hq) ?_
  exact ⟨.bool true, [Old wo], rfl, ⟨rfl, rfl⟩, h6⟩
 ·
  refine yBb [] [(23, .bool false)] [e1 2 (.bool false)] [] [(.bool (decide ((n : Int) > 80)), .bool false)] ⟨(ov_f (by omega)), trivial⟩ nC (.mk ?_)
  refine yK [(0, yV sz), (1, yV bl), (2, .slice p0 n cp), (23, .bool false)] fun lr8 => ?_
  refine yCf ?_
  refine ySk ?_
  refine ySq ?_
  refine yPl [0, 1, 2, 3, 4, 5, 6, 7, 8] ?_
  refine yB0 [3, 4, 5, 6, 7, 8] [0, 1, 2] [(28, .slice p0 n cp), (27, yV bl), (26, yV sz)] ?_
  obtain ⟨pp, hpp⟩ : ∃ pp, madeK nn gg T n = pp := ⟨_, rfl⟩
  have hI_ : MInv nn pp := hpp ▸ minv_made (n := nn) (g := gg) (by omega) (by omega) hO (k := n) (by omega) (by omega)
  have hal_ : pp.2.length ≤ n := hpp ▸ madeK_all nn gg T n
  have hm9 := made_w wo sz bl hsz hbl nn hnn gg hgg p0 n cp T hr hT hO (by omega)
  rw [hpp] at hm9
  refine yA ?_
  refine yCl 29 Try.call19 (hm9) h0 ?_
  rintro v K w13 (⟨b10, p11, c12, rfl, rfl⟩) h14
  refine ⟨_, rfl, ?_⟩
  have h15 := ap3 h14
  refine yB0 [] [4, 5, 6, 7, 8] [(8, .slice p11 pp.2.length c12), (7, pV b10), (31, .slice p11 pp.2.length c12), (30, pV b10), (25, .tuple #[pV b10, .slice p11 pp.2.length c12])] (.mk ?_)
  refine yK [(0, yV sz), (1, yV bl), (2, .slice p0 n cp), (7, pV b10)] fun lr16 => ?_
  refine ySq ?_
  refine ySq ?_
  refine yPl [0, 1] ?_
  refine yB0 [] [0, 1] [(33, .bool false), (32, pV b10)] (.mk ?_)
  refine yK [(0, yV sz), (1, yV bl), (2, .slice p0 n cp), (7, pV b10), (33, .bool false)] fun lr17 => ?_
  refine yCf ?_
  refine ySk ?_
  refine ySq ?_
  refine yPl [0, 1, 2] ?_
  refine yB0 [1, 2] [0] [(34, pV b10)] ?_
  have hll20 := live_len pp.1.E
  refine yA ?_
  refine yCl 35 Try.call24 (live_w b10 nn pp.1) h15 ?_
  rintro v K w21 (⟨p18, c19, rfl, rfl⟩) h22
  refine ⟨_, rfl, ?_⟩
  have h23 := ap2 h22
  refine yB0 [] [2] [(9, .slice p18 (((liveL pp.1.E).length)) c19)] (.mk ?_)
  refine yK [(0, yV sz), (1, yV bl), (2, .slice p0 n cp), (7, pV b10), (9, .slice p18 (((liveL pp.1.E).length)) c19)] fun lr24 => ?_
  refine ySq ?_
  refine yPl [0, 1, 2] ?_
  refine yB0 [1, 2] [0] [(36, pV b10)] ?_
  refine yA ?_
  refine yCl 37 Try.call30 (tcopy_w b10 nn pp.1) h23 ?_
  rintro v K w26 (⟨b25, rfl, rfl⟩) h27
  refine ⟨_, rfl, ?_⟩
  have h28 := ap2 h27
  refine yB0 [] [2] [(10, pV b25)] (.mk ?_)
  refine yK [(0, yV sz), (1, yV bl), (2, .slice p0 n cp), (7, pV b10), (9, .slice p18 (((liveL pp.1.E).length)) c19), (10, pV b25)] fun lr29 => ?_
  refine ySq ?_
  refine ySq ?_
  refine yPl [0, 1] ?_
  refine yB0 [] [0, 1] [(39, .bool false), (38, pV b25)] (.mk ?_)
  refine yK [(0, yV sz), (1, yV bl), (2, .slice p0 n cp), (7, pV b10), (9, .slice p18 (((liveL pp.1.E).length)) c19), (10, pV b25), (39, .bool false)] fun lr30 => ?_
  refine yCf ?_
  refine ySk ?_
  refine ySq ?_
  refine ySq ?_
  refine yPl [0] ?_
  refine yB0 [] [0] [(11, iV 0)] (.mk ?_)
  refine yK [(0, yV sz), (1, yV bl), (2, .slice p0 n cp), (7, pV b10), (9, .slice p18 (((liveL pp.1.E).length)) c19), (10, pV b25), (11, iV 0)] fun lr31 => ?_
  refine yBk 0 ?_
  have h32 := tk6 (sf5 (sf4 (sf4 (sf5 (sf5 (sf5 h28))))))
  have hl33 := fl_n eO_ok (by decide) h32
  have h34 := tk6 (sf5 (sf4 (sf4 (sf5 (sf5 (sf3 h32))))))
  have h35 := tk5 h34
  refine gi_lp (x := CA Try.f8 [1, 1, 1, 1, 1, 1, 1, 0, 1, 0, 0]) (by kernel_rfl) (fun mz_ a w => ∃ i : Nat, ∃ lr : Fr, mz_ = ((liveL pp.1.E).length) - i ∧ (i ≤ ((liveL pp.1.E).length)) ∧ a = mk 114 (([(0, yV sz), (1, yV bl), (2, .slice p0 n cp), (7, pV b10), (9, .slice p18 (((liveL pp.1.E).length)) c19), (10, pV b25), (11, iV (i : Int))] : Fr) ++ lr) ∧ sat g w [TW b25 nn (lcK pp.1 (liveL pp.1.E) i), Sl 28 3 p18 (((liveL pp.1.E).length)) c19 (fl eO (liveL pp.1.E)), TW b10 nn pp.1, Old wo, R]) (((liveL pp.1.E).length) - 0) ⟨0, _, rfl, (Nat.zero_le _), (mk_live [(0, yV sz), (1, yV bl), (2, .slice p0 n cp), (7, pV b10), (9, .slice p18 (((liveL pp.1.E).length)) c19), (10, pV b25), (11, iV (0 : Int))] ⟨rfl, rfl, rfl, rfl, rfl, rfl, (ov_int (by omega)), trivial⟩), h35⟩ ?_
  rintro m37 a38 w39 ⟨i, lr36, rfl, hi_i, rfl, h40⟩
  refine ySq ?_
  refine ySq ?_
  refine yPl [0, 1, 2, 3] ?_
  refine yB0 [3] [0, 1, 2] [(42, iV ((((liveL pp.1.E).length : Nat) : Int))), (41, .slice p18 (((liveL pp.1.E).length)) c19), (40, iV (i : Int))] ?_
  by_cases c41 : (i : Int) < (((liveL pp.1.E).length : Nat) : Int)
  ·
   refine yBb [] [(43, .bool true)] [e1 3 (.bool true)] [] [(.bool (decide ((i : Int) < (((liveL pp.1.E).length : Nat) : Int))), .bool true)] ⟨(ov_t (by omega)), trivial⟩ nC (.mk ?_)
   refine yK [(0, yV sz), (1, yV bl), (2, .slice p0 n cp), (7, pV b10), (9, .slice p18 (((liveL pp.1.E).length)) c19), (10, pV b25), (11, iV (i : Int)), (43, .bool true)] fun lr42 => ?_
   refine yCt ?_
   refine ySk ?_
   refine ySq ?_
   refine yBk 1 ?_
   refine yPl [0, 1, 2, 3, 4, 5] ?_
   obtain ⟨b43, hp44⟩ := sl_ptr0 (j := 1) h40 rfl (by omega)
   refine yB0 [3, 4, 5] [0, 1, 2] [(48, iV (i : Int)), (47, .slice p18 (((liveL pp.1.E).length)) c19), (46, pV b25)] ?_
   refine plain_law (i := 3) 49 (.pointer (some ⟨b43, i * 3, none⟩)) (by kernel_rfl) (law_indexSlP (o := opA (RA Try.f8 [1, 1, 1, 1, 1, 1, 1, 0, 1, 0, 0, 1, 0, 0]) 3) (x := (Operand.tmp 47)) (i := (Operand.tmp 48)) (p := p18) (b := b43) (off := 0) (z := (i : Int)) (len := (((liveL pp.1.E).length))) (cap := c19) (by kernel_rfl) Try.underlying45 3 (by kernel_rfl) i (by kernel_rfl) hp44 (by kernel_rfl) (by omega) (by omega) (i * 3) (by omega) _) ?_
   obtain ⟨x45, hx46⟩ : ∃ x, (liveL pp.1.E)[i]? = some x := ⟨_, List.getElem?_eq_getElem (by rw [hl33]; omega)⟩
   have hb47 := lv_ok hI_.W (List.mem_of_getElem? hx46)
   refine yBb [5] [(50, .agg #[iV x45.1, iV x45.2.1, uV x45.2.2])] [e2 4 [iV x45.1, iV x45.2.1, uV x45.2.2]] [(4, ⟨b43, i * 3, none⟩, iV x45.1), (4, ⟨b43, i * 3 + 1, none⟩, iV x45.2.1), (4, ⟨b43, i * 3 + 2, none⟩, uV x45.2.2)] [] trivial (kC (gv_cell (j := 1) h40 rfl (gv_sl _ _ _) hp44 (fl_get eO_ok (j := 0) (v := iV x45.1) hx46 rfl) (i * 3) (by omega)) (kC (gv_cell (j := 1) h40 rfl (gv_sl _ _ _) hp44 (fl_get eO_ok (j := 1) (v := iV x45.2.1) hx46 rfl) (i * 3 + 1) (by omega)) (kC (gv_cell (j := 1) h40 rfl (gv_sl _ _ _) hp44 (fl_get eO_ok (j := 2) (v := uV x45.2.2) hx46 rfl) (i * 3 + 2) (by omega)) nC))) ?_
   refine yA ?_
   refine yCl 51 Try.call32 (lclose_w b25 nn (lcK pp.1 (liveL pp.1.E) i) x45.1 x45.2.1 x45.2.2 (by omega) (by omega)) h40 ?_
   rintro v K w48 (⟨rfl, rfl⟩) h49
   refine ⟨_, rfl, ?_⟩
   have h50 := ap1 h49
   refine PO.mk ?_
   refine yK [(0, yV sz), (1, yV bl), (2, .slice p0 n cp), (7, pV b10), (9, .slice p18 (((liveL pp.1.E).length)) c19), (10, pV b25), (11, iV (i : Int))] fun lr51 => ?_
   refine yPl [0, 1, 2] ?_
   refine yBb [] [(11, iV ((i : Int) + 1)), (45, iV ((i : Int) + 1)), (44, iV (i : Int))] [e0 0, e1 1 (iV ((i : Int) + 1)), e0 2] [] [(iV (IntKind.wrap .i64 ((i : Int) + 1)), iV ((i : Int) + 1))] ⟨(ov_i64 (by omega) (by omega) (by omega)), trivial⟩ nC (.mk ?_)
   have h52 : sat g w48 [TW b25 nn (lcK pp.1 (liveL pp.1.E) (i + 1)), Sl 28 3 p18 (((liveL pp.1.E).length)) c19 (fl eO (liveL pp.1.E)), TW b10 nn pp.1, Old wo, R] := (show (lclS (lcK pp.1 (liveL pp.1.E) i) (x45.1, x45.2.1, x45.2.2)) = (lcK pp.1 (liveL pp.1.E) (i + 1)) from lcK_go hx46) ▸ h50
   change ∃ n', n' < _ ∧ _
   refine ⟨(((liveL pp.1.E).length) - (i + 1)), by omega, (i + 1), _, rfl, (by omega), (mk_live [(0, yV sz), (1, yV bl), (2, .slice p0 n cp), (7, pV b10), (9, .slice p18 (((liveL pp.1.E).length)) c19), (10, pV b25), (11, iV ((((i + 1) : Nat) : Int)))] ⟨rfl, rfl, rfl, rfl, rfl, rfl, (ov_int (by omega)), trivial⟩), h52⟩
  ·
   refine yBb [] [(43, .bool false)] [e1 3 (.bool false)] [] [(.bool (decide ((i : Int) < (((liveL pp.1.E).length : Nat) : Int))), .bool false)] ⟨(ov_f (by omega)), trivial⟩ nC (.mk ?_)
   refine yK [(0, yV sz), (1, yV bl), (2, .slice p0 n cp), (7, pV b10), (9, .slice p18 (((liveL pp.1.E).length)) c19), (10, pV b25), (11, iV (i : Int)), (43, .bool false)] fun lr53 => ?_
   refine yCf ?_
   refine yEx 0 ?_
   refine ySq ?_
   refine yPl [0, 1, 2, 3] ?_
   refine yB0 [3] [0, 1, 2] [(54, .agg #[iV 255, uV 99]), (53, .agg #[iV 1, iV 63, uV 99]), (52, pV b25)] ?_
   refine yA ?_
   refine yCl 55 Try.call12 (topen_w b25 nn (lcK pp.1 (liveL pp.1.E) i) 1 63 99 255 99 [116] (by omega) (by omega) (by simp only [List.length_cons, List.length_nil]; omega)) h40 ?_
   rintro v K w54 (⟨rfl, rfl⟩) h55
   refine ⟨_, rfl, ?_⟩
   have h56 := ap1 h55
   refine PO.mk ?_
   refine yK [(0, yV sz), (1, yV bl), (2, .slice p0 n cp), (7, pV b10), (9, .slice p18 (((liveL pp.1.E).length)) c19)] fun lr57 => ?_
   refine ySq ?_
   refine yPl [0, 1, 2] ?_
   refine yB0 [1, 2] [0] [(56, pV b10)] ?_
   have hll60 := live_len pp.1.E
   have h61 := tk5 (sf4 (sf3 (sf3 (sf4 (sf4 h56)))))
   refine yA ?_
   refine yCl 57 Try.call24 (live_w b10 nn pp.1) h61 ?_
   rintro v K w62 (⟨p58, c59, rfl, rfl⟩) h63
   refine ⟨_, rfl, ?_⟩
   have h64 := ap2 h63
   refine yB0 [] [2] [(12, .slice p58 (((liveL pp.1.E).length)) c59)] (.mk ?_)
   refine yK [(0, yV sz), (1, yV bl), (2, .slice p0 n cp), (7, pV b10), (9, .slice p18 (((liveL pp.1.E).length)) c19), (12, .slice p58 (((liveL pp.1.E).length)) c59)] fun lr65 => ?_
   refine ySq ?_
   refine ySq ?_
   refine yPl [0, 1, 2, 3, 4] ?_
   refine yBb [] [(62, .bool false), (61, iV ((((liveL pp.1.E).length : Nat) : Int))), (60, .slice p18 (((liveL pp.1.E).length)) c19), (59, iV ((((liveL pp.1.E).length : Nat) : Int))), (58, .slice p58 (((liveL pp.1.E).length)) c59)] [e0 0, e0 1, e0 2, e0 3, e1 4 (.bool false)] [] [(.bool (((((liveL pp.1.E).length : Nat) : Int)) != ((((liveL pp.1.E).length : Nat) : Int))), .bool false)] ⟨(ov_nf (by omega)), trivial⟩ nC (.mk ?_)
   refine yK [(0, yV sz), (1, yV bl), (2, .slice p0 n cp), (7, pV b10), (9, .slice p18 (((liveL pp.1.E).length)) c19), (12, .slice p58 (((liveL pp.1.E).length)) c59), (62, .bool false)] fun lr66 => ?_
   refine yCf ?_
   refine ySk ?_
   refine ySq ?_
   refine ySq ?_
   refine yPl [0] ?_
   refine yB0 [] [0] [(13, iV 0)] (.mk ?_)
   refine yK [(0, yV sz), (1, yV bl), (2, .slice p0 n cp), (7, pV b10), (9, .slice p18 (((liveL pp.1.E).length)) c19), (12, .slice p58 (((liveL pp.1.E).length)) c59), (13, iV 0)] fun lr67 => ?_
   refine yBk 2 ?_
   have h68 := tk6 (sf5 (sf4 (sf5 (sf5 (sf5 (sf5 h64))))))
   have hl69 := fl_n eO_ok (by decide) h68
   have h70 := tk6 (sf5 (sf5 (sf3 (sf5 (sf5 (sf2 h68))))))
   have h71 := tk5 h70
   refine gi_lp (x := CA Try.f8 [1, 1, 1, 1, 1, 1, 1, 1, 1, 1, 1, 0, 1, 0, 0]) (by kernel_rfl) (fun mz_ a w => ∃ j : Nat, ∃ lr : Fr, mz_ = ((liveL pp.1.E).length) - j ∧ (j ≤ ((liveL pp.1.E).length)) ∧ a = mk 114 (([(0, yV sz), (1, yV bl), (2, .slice p0 n cp), (7, pV b10), (9, .slice p18 (((liveL pp.1.E).length)) c19), (12, .slice p58 (((liveL pp.1.E).length)) c59), (13, iV (j : Int))] : Fr) ++ lr) ∧ sat g w [TW b10 nn pp.1, Sl 28 3 p18 (((liveL pp.1.E).length)) c19 (fl eO (liveL pp.1.E)), Sl 28 3 p58 (((liveL pp.1.E).length)) c59 (fl eO (liveL pp.1.E)), Old wo, R]) (((liveL pp.1.E).length) - 0) ⟨0, _, rfl, (Nat.zero_le _), (mk_live [(0, yV sz), (1, yV bl), (2, .slice p0 n cp), (7, pV b10), (9, .slice p18 (((liveL pp.1.E).length)) c19), (12, .slice p58 (((liveL pp.1.E).length)) c59), (13, iV (0 : Int))] ⟨rfl, rfl, rfl, rfl, rfl, rfl, (ov_int (by omega)), trivial⟩), h71⟩ ?_
   rintro m73 a74 w75 ⟨j, lr72, rfl, hi_j, rfl, h76⟩
   refine ySq ?_
   refine ySq ?_
   refine yPl [0, 1, 2, 3] ?_
   refine yB0 [3] [0, 1, 2] [(65, iV ((((liveL pp.1.E).length : Nat) : Int))), (64, .slice p18 (((liveL pp.1.E).length)) c19), (63, iV (j : Int))] ?_
   by_cases c77 : (j : Int) < (((liveL pp.1.E).length : Nat) : Int)
   ·
    refine yBb [] [(66, .bool true)] [e1 3 (.bool true)] [] [(.bool (decide ((j : Int) < (((liveL pp.1.E).length : Nat) : Int))), .bool true)] ⟨(ov_t (by omega)), trivial⟩ nC (.mk ?_)
    refine yK [(0, yV sz), (1, yV bl), (2, .slice p0 n cp), (7, pV b10), (9, .slice p18 (((liveL pp.1.E).length)) c19), (12, .slice p58 (((liveL pp.1.E).length)) c59), (13, iV (j : Int)), (66, .bool true)] fun lr78 => ?_
    refine yCt ?_
    refine ySk ?_
    refine ySq ?_
    refine yBk 3 ?_
    refine ySq ?_
    refine gi_drw (id := 21) (ops := RA Try.f8 [1, 1, 1, 1, 1, 1, 1, 1, 1, 1, 1, 0, 1, 0, 0, 1, 0, 0, 0]) (Tr.fl 0 (Tr.fl 1 (Tr.fl 2 (Tr.fl 3 (Tr.fl 4 (Tr.fl 5 (Tr.fl 6 (Tr.fl 7 (Tr.fl 8 Tr.nil))))))))) (by kernel_rfl) (by kernel_rfl) (by kernel_rfl) (by kernel_rfl) (by kernel_rfl) (fun _ _ d _ _ h => by cases d <;> exact h) h76 ?_
    intro w79 h80
    obtain ⟨b81, hp82⟩ := sl_ptr0 (j := 2) h80 rfl (by omega)
    refine yD _ [(70, iV (j : Int)), (69, .slice p58 (((liveL pp.1.E).length)) c59)] [e0 0, e0 1] [] [] trivial nC ?_
    refine draw_law (i := 2) 71 (.pointer (some ⟨b81, j * 3, none⟩)) [] (by kernel_rfl) (fun _ _ => law_indexSlP (o := opA (RA Try.f8 [1, 1, 1, 1, 1, 1, 1, 1, 1, 1, 1, 0, 1, 0, 0, 1, 0, 0, 0]) 2) (x := (Operand.tmp 69)) (i := (Operand.tmp 70)) (p := p58) (b := b81) (off := 0) (z := (j : Int)) (len := (((liveL pp.1.E).length))) (cap := c59) (by kernel_rfl) Try.underlying45 3 (by kernel_rfl) j (by kernel_rfl) hp82 (by kernel_rfl) (by omega) (by omega) (j * 3) (by omega) _) (by intro q hq; cases hq) ?_
    obtain ⟨x83, hx84⟩ : ∃ x, (liveL pp.1.E)[j]? = some x := ⟨_, List.getElem?_eq_getElem (by rw [hl69]; omega)⟩
    have hb85 := lv_ok hI_.W (List.mem_of_getElem? hx84)
    obtain ⟨b86, hp87⟩ := sl_ptr0 (j := 1) h80 rfl (by omega)
    refine yD _ [(74, iV (j : Int)), (73, .slice p18 (((liveL pp.1.E).length)) c19), (72, .agg #[iV x83.1, iV x83.2.1, uV x83.2.2])] [e2 3 [iV x83.1, iV x83.2.1, uV x83.2.2], e0 4, e0 5] [(3, ⟨b81, j * 3, none⟩, iV x83.1), (3, ⟨b81, j * 3 + 1, none⟩, iV x83.2.1), (3, ⟨b81, j * 3 + 2, none⟩, uV x83.2.2)] [] trivial (kC (gv_cell (j := 2) h80 rfl (gv_sl _ _ _) hp82 (fl_get eO_ok (j := 0) (v := iV x83.1) hx84 rfl) (j * 3) (by omega)) (kC (gv_cell (j := 2) h80 rfl (gv_sl _ _ _) hp82 (fl_get eO_ok (j := 1) (v := iV x83.2.1) hx84 rfl) (j * 3 + 1) (by omega)) (kC (gv_cell (j := 2) h80 rfl (gv_sl _ _ _) hp82 (fl_get eO_ok (j := 2) (v := uV x83.2.2) hx84 rfl) (j * 3 + 2) (by omega)) nC))) ?_
    refine draw_law (i := 6) 75 (.pointer (some ⟨b86, j * 3, none⟩)) [] (by kernel_rfl) (fun _ _ => law_indexSlP (o := opA (RA Try.f8 [1, 1, 1, 1, 1, 1, 1, 1, 1, 1, 1, 0, 1, 0, 0, 1, 0, 0, 0]) 6) (x := (Operand.tmp 73)) (i := (Operand.tmp 74)) (p := p18) (b := b86) (off := 0) (z := (j : Int)) (len := (((liveL pp.1.E).length))) (cap := c19) (by kernel_rfl) Try.underlying45 3 (by kernel_rfl) j (by kernel_rfl) hp87 (by kernel_rfl) (by omega) (by omega) (j * 3) (by omega) _) (by intro q hq; cases hq) ?_
    refine yD _ [(76, .agg #[iV x83.1, iV x83.2.1, uV x83.2.2])] [e2 7 [iV x83.1, iV x83.2.1, uV x83.2.2]] [(7, ⟨b86, j * 3, none⟩, iV x83.1), (7, ⟨b86, j * 3 + 1, none⟩, iV x83.2.1), (7, ⟨b86, j * 3 + 2, none⟩, uV x83.2.2)] [] trivial (kC (gv_cell (j := 1) h80 rfl (gv_sl _ _ _) hp87 (fl_get eO_ok (j := 0) (v := iV x83.1) hx84 rfl) (j * 3) (by omega)) (kC (gv_cell (j := 1) h80 rfl (gv_sl _ _ _) hp87 (fl_get eO_ok (j := 1) (v := iV x83.2.1) hx84 rfl) (j * 3 + 1) (by omega)) (kC (gv_cell (j := 1) h80 rfl (gv_sl _ _ _) hp87 (fl_get eO_ok (j := 2) (v := uV x83.2.2) hx84 rfl) (j * 3 + 2) (by omega)) nC))) ?_
    refine draw_law (i := 8) 77 (.bool false) [] (by kernel_rfl) (fun _ _ => q29e28_neq_t (o := opA (RA Try.f8 [1, 1, 1, 1, 1, 1, 1, 1, 1, 1, 1, 0, 1, 0, 0, 1, 0, 0, 0]) 8) (x := (Operand.tmp 72)) (y := (Operand.tmp 76)) x83.1 x83.2.1 x83.2.2 x83.1 x83.2.1 x83.2.2 (by kernel_rfl) (by kernel_rfl) (by kernel_rfl) ⟨rfl, rfl, rfl⟩ _) (by intro q hq; cases hq) ?_
    refine yK [(0, yV sz), (1, yV bl), (2, .slice p0 n cp), (7, pV b10), (9, .slice p18 (((liveL pp.1.E).length)) c19), (12, .slice p58 (((liveL pp.1.E).length)) c59), (13, iV (j : Int)), (77, .bool false)] fun lr88 => ?_
    refine yCf ?_
    refine ySk ?_
    refine yPl [0, 1, 2] ?_
    refine yBb [] [(13, iV ((j : Int) + 1)), (68, iV ((j : Int) + 1)), (67, iV (j : Int))] [e0 0, e1 1 (iV ((j : Int) + 1)), e0 2] [] [(iV (IntKind.wrap .i64 ((j : Int) + 1)), iV ((j : Int) + 1))] ⟨(ov_i64 (by omega) (by omega) (by omega)), trivial⟩ nC (.mk ?_)
    change ∃ n', n' < _ ∧ _
    refine ⟨(((liveL pp.1.E).length) - (j + 1)), by omega, (j + 1), _, rfl, (by omega), (mk_live [(0, yV sz), (1, yV bl), (2, .slice p0 n cp), (7, pV b10), (9, .slice p18 (((liveL pp.1.E).length)) c19), (12, .slice p58 (((liveL pp.1.E).length)) c59), (13, iV ((((j + 1) : Nat) : Int)))] ⟨rfl, rfl, rfl, rfl, rfl, rfl, (ov_int (by omega)), trivial⟩), h80⟩
   ·
    refine yBb [] [(66, .bool false)] [e1 3 (.bool false)] [] [(.bool (decide ((j : Int) < (((liveL pp.1.E).length : Nat) : Int))), .bool false)] ⟨(ov_f (by omega)), trivial⟩ nC (.mk ?_)
    refine yK [(0, yV sz), (1, yV bl), (2, .slice p0 n cp), (7, pV b10), (9, .slice p18 (((liveL pp.1.E).length)) c19), (12, .slice p58 (((liveL pp.1.E).length)) c59), (13, iV (j : Int)), (66, .bool false)] fun lr89 => ?_
    refine yCf ?_
    refine yEx 2 ?_
    refine ySq ?_
    refine yPl [0, 1, 2, 3, 4, 5, 6, 7, 8] ?_
    refine yB0 [3, 4, 5, 6, 7, 8] [0, 1, 2] [(81, .slice p0 n cp), (80, yV bl), (79, yV sz)] ?_
    have hm90 := made_w wo sz bl hsz hbl nn hnn gg hgg p0 n cp T hr hT hO (by omega)
    rw [hpp] at hm90
    have h94 := tk5 (sf4 (sf3 (sf3 (sf3 (sf4 h76)))))
    refine yA ?_
    refine yCl 82 Try.call19 (hm90) h94 ?_
    rintro v K w95 (⟨b91, p92, c93, rfl, rfl⟩) h96
    refine ⟨_, rfl, ?_⟩
    have h97 := ap3 h96
    refine yB0 [] [4, 5, 6, 7, 8] [(15, .slice p92 pp.2.length c93), (14, pV b91), (84, .slice p92 pp.2.length c93), (83, pV b91), (78, .tuple #[pV b91, .slice p92 pp.2.length c93])] (.mk ?_)
    refine yK [(7, pV b10), (14, pV b91)] fun lr98 => ?_
    refine ySq ?_
    refine ySq ?_
    refine yPl [0] ?_
    refine yB0 [] [0] [(16, iV 1)] (.mk ?_)
    refine yK [(7, pV b10), (14, pV b91), (16, iV 1)] fun lr99 => ?_
    refine yBk 4 ?_
    have hRl_ := hI_.W.rl
    have h100 := tk7 (sf6 (sf5 (sf5 (sf6 (sf3 (sf5 (sf5 h97)))))))
    have h101 := tk4 h100
    refine gi_lp (x := CA Try.f8 [1, 1, 1, 1, 1, 1, 1, 1, 1, 1, 1, 1, 1, 0, 1, 0, 0]) (by kernel_rfl) (fun mz_ a w => ∃ k : Nat, ∃ lr : Fr, mz_ = pp.1.R.length - k ∧ (k ≤ pp.1.R.length) ∧ a = mk 114 (([(7, pV b10), (14, pV b91), (16, iV ((k : Int) + 1))] : Fr) ++ lr) ∧ sat g w [TW b10 nn pp.1, TW b91 nn pp.1, Old wo, R]) (pp.1.R.length - 0) ⟨0, _, rfl, (Nat.zero_le _), (mk_live [(7, pV b10), (14, pV b91), (16, iV ((0 : Int) + 1))] ⟨rfl, rfl, (ov_int (by omega)), trivial⟩), h101⟩ ?_
    rintro m103 a104 w105 ⟨k, lr102, rfl, hi_k, rfl, h106⟩
    refine ySq ?_
    refine ySq ?_
    refine yPl [0, 1, 2, 3] ?_
    refine yB0 [2, 3] [0, 1] [(86, pV b10), (85, iV ((k : Int) + 1))] ?_
    refine yA ?_
    refine yCl 87 Try.call22 (tlen_w b10 nn pp.1) h106 ?_
    rintro v K w107 (⟨rfl, rfl⟩) h108
    refine ⟨_, rfl, ?_⟩
    have h109 := ap1 h108
    by_cases c110 : (k : Int) + 1 ≤ ((pp.1.R.length : Nat) : Int)
    ·
     refine yBb [] [(88, .bool true)] [e1 3 (.bool true)] [] [(.bool (decide ((k : Int) + 1 ≤ ((pp.1.R.length : Nat) : Int))), .bool true)] ⟨(ov_t (by omega)), trivial⟩ nC (.mk ?_)
     refine yK [(7, pV b10), (14, pV b91), (16, iV ((k : Int) + 1)), (88, .bool true)] fun lr111 => ?_
     refine yCt ?_
     refine ySk ?_
     refine ySq ?_
     refine yBk 5 ?_
     refine ySq ?_
     refine yPl [0, 1, 2, 3, 4, 5, 6, 7, 8] ?_
     refine yB0 [2, 3, 4, 5, 6, 7, 8] [0, 1] [(93, iV ((k : Int) + 1)), (92, pV b10)] ?_
     refine yA ?_
     refine yCl 94 Try.call20 (tget_w b10 nn pp.1 ((k : Int) + 1)) h109 ?_
     rintro v K w112 (⟨rfl, rfl⟩) h113
     refine ⟨_, rfl, ?_⟩
     have h114 := ap1 h113
     refine yB0 [6, 7, 8] [3, 4, 5] [(96, iV ((nE pp.1 ((k : Int) + 1)))), (95, .agg #[iV ((getR pp.1 ((k : Int) + 1)).out.1), iV ((getR pp.1 ((k : Int) + 1)).out.2.1), uV ((getR pp.1 ((k : Int) + 1)).out.2.2), iV ((getR pp.1 ((k : Int) + 1)).st), iV ((getR pp.1 ((k : Int) + 1)).why), iV ((getR pp.1 ((k : Int) + 1)).tr), iV ((getR pp.1 ((k : Int) + 1)).nx), .string (St ((getR pp.1 ((k : Int) + 1)).tag))]), (91, .tuple #[.agg #[iV ((getR pp.1 ((k : Int) + 1)).out.1), iV ((getR pp.1 ((k : Int) + 1)).out.2.1), uV ((getR pp.1 ((k : Int) + 1)).out.2.2), iV ((getR pp.1 ((k : Int) + 1)).st), iV ((getR pp.1 ((k : Int) + 1)).why), iV ((getR pp.1 ((k : Int) + 1)).tr), iV ((getR pp.1 ((k : Int) + 1)).nx), .string (St ((getR pp.1 ((k : Int) + 1)).tag))], iV ((nE pp.1 ((k : Int) + 1)))])] ?_
     refine yA ?_
     refine yNp 17 42 [iV 0, iV 0, uV 0, iV 0, iV 0, iV 0, iV 0, .string (St [])] h114 fun r115 w116 h117 => ?_
     refine yA ?_
     refine yS [(0, iV ((getR pp.1 ((k : Int) + 1)).out.1)), (1, iV ((getR pp.1 ((k : Int) + 1)).out.2.1)), (2, uV ((getR pp.1 ((k : Int) + 1)).out.2.2)), (3, iV ((getR pp.1 ((k : Int) + 1)).st)), (4, iV ((getR pp.1 ((k : Int) + 1)).why)), (5, iV ((getR pp.1 ((k : Int) + 1)).tr)), (6, iV ((getR pp.1 ((k : Int) + 1)).nx)), (7, .string (St ((getR pp.1 ((k : Int) + 1)).tag)))] [iV ((getR pp.1 ((k : Int) + 1)).out.1), iV ((getR pp.1 ((k : Int) + 1)).out.2.1), uV ((getR pp.1 ((k : Int) + 1)).out.2.2), iV ((getR pp.1 ((k : Int) + 1)).st), iV ((getR pp.1 ((k : Int) + 1)).why), iV ((getR pp.1 ((k : Int) + 1)).tr), iV ((getR pp.1 ((k : Int) + 1)).nx), .string (St ((getR pp.1 ((k : Int) + 1)).tag))] h117 fun w118 h119 => ?_
     refine yB0 [] [8] [(18, iV ((nE pp.1 ((k : Int) + 1))))] (.mk ?_)
     refine yK [(7, pV b10), (14, pV b91), (16, iV ((k : Int) + 1)), (17, pV r115)] fun lr120 => ?_
     refine ySq ?_
     refine yPl [0, 1, 2, 3, 4, 5, 6, 7, 8] ?_
     refine yB0 [2, 3, 4, 5, 6, 7, 8] [0, 1] [(99, iV ((k : Int) + 1)), (98, pV b91)] ?_
     have h121 := tk5 (sf4 (sf3 (sf3 (sf4 (sf4 h119)))))
     refine yA ?_
     refine yCl 100 Try.call20 (tget_w b91 nn pp.1 ((k : Int) + 1)) h121 ?_
     rintro v K w122 (⟨rfl, rfl⟩) h123
     refine ⟨_, rfl, ?_⟩
     have h124 := ap1 h123
     refine yB0 [6, 7, 8] [3, 4, 5] [(102, iV ((nE pp.1 ((k : Int) + 1)))), (101, .agg #[iV ((getR pp.1 ((k : Int) + 1)).out.1), iV ((getR pp.1 ((k : Int) + 1)).out.2.1), uV ((getR pp.1 ((k : Int) + 1)).out.2.2), iV ((getR pp.1 ((k : Int) + 1)).st), iV ((getR pp.1 ((k : Int) + 1)).why), iV ((getR pp.1 ((k : Int) + 1)).tr), iV ((getR pp.1 ((k : Int) + 1)).nx), .string (St ((getR pp.1 ((k : Int) + 1)).tag))]), (97, .tuple #[.agg #[iV ((getR pp.1 ((k : Int) + 1)).out.1), iV ((getR pp.1 ((k : Int) + 1)).out.2.1), uV ((getR pp.1 ((k : Int) + 1)).out.2.2), iV ((getR pp.1 ((k : Int) + 1)).st), iV ((getR pp.1 ((k : Int) + 1)).why), iV ((getR pp.1 ((k : Int) + 1)).tr), iV ((getR pp.1 ((k : Int) + 1)).nx), .string (St ((getR pp.1 ((k : Int) + 1)).tag))], iV ((nE pp.1 ((k : Int) + 1)))])] ?_
     refine yA ?_
     refine yNp 19 42 [iV 0, iV 0, uV 0, iV 0, iV 0, iV 0, iV 0, .string (St [])] h124 fun r125 w126 h127 => ?_
     refine yA ?_
     refine yS [(0, iV ((getR pp.1 ((k : Int) + 1)).out.1)), (1, iV ((getR pp.1 ((k : Int) + 1)).out.2.1)), (2, uV ((getR pp.1 ((k : Int) + 1)).out.2.2)), (3, iV ((getR pp.1 ((k : Int) + 1)).st)), (4, iV ((getR pp.1 ((k : Int) + 1)).why)), (5, iV ((getR pp.1 ((k : Int) + 1)).tr)), (6, iV ((getR pp.1 ((k : Int) + 1)).nx)), (7, .string (St ((getR pp.1 ((k : Int) + 1)).tag)))] [iV ((getR pp.1 ((k : Int) + 1)).out.1), iV ((getR pp.1 ((k : Int) + 1)).out.2.1), uV ((getR pp.1 ((k : Int) + 1)).out.2.2), iV ((getR pp.1 ((k : Int) + 1)).st), iV ((getR pp.1 ((k : Int) + 1)).why), iV ((getR pp.1 ((k : Int) + 1)).tr), iV ((getR pp.1 ((k : Int) + 1)).nx), .string (St ((getR pp.1 ((k : Int) + 1)).tag))] h127 fun w128 h129 => ?_
     refine yB0 [] [8] [(20, iV ((nE pp.1 ((k : Int) + 1))))] (.mk ?_)
     refine yK [(7, pV b10), (14, pV b91), (16, iV ((k : Int) + 1)), (17, pV r115), (19, pV r125)] fun lr130 => ?_
     refine ySq ?_
     refine yPl [0, 1, 2] ?_
     refine yBb [2] [(104, .agg #[iV ((getR pp.1 ((k : Int) + 1)).out.1), iV ((getR pp.1 ((k : Int) + 1)).out.2.1), uV ((getR pp.1 ((k : Int) + 1)).out.2.2), iV ((getR pp.1 ((k : Int) + 1)).st), iV ((getR pp.1 ((k : Int) + 1)).why), iV ((getR pp.1 ((k : Int) + 1)).tr), iV ((getR pp.1 ((k : Int) + 1)).nx), .string (St ((getR pp.1 ((k : Int) + 1)).tag))]), (103, .agg #[iV ((getR pp.1 ((k : Int) + 1)).out.1), iV ((getR pp.1 ((k : Int) + 1)).out.2.1), uV ((getR pp.1 ((k : Int) + 1)).out.2.2), iV ((getR pp.1 ((k : Int) + 1)).st), iV ((getR pp.1 ((k : Int) + 1)).why), iV ((getR pp.1 ((k : Int) + 1)).tr), iV ((getR pp.1 ((k : Int) + 1)).nx), .string (St ((getR pp.1 ((k : Int) + 1)).tag))])] [e2 0 [iV ((getR pp.1 ((k : Int) + 1)).out.1), iV ((getR pp.1 ((k : Int) + 1)).out.2.1), uV ((getR pp.1 ((k : Int) + 1)).out.2.2), iV ((getR pp.1 ((k : Int) + 1)).st), iV ((getR pp.1 ((k : Int) + 1)).why), iV ((getR pp.1 ((k : Int) + 1)).tr), iV ((getR pp.1 ((k : Int) + 1)).nx), .string (St ((getR pp.1 ((k : Int) + 1)).tag))], e2 1 [iV ((getR pp.1 ((k : Int) + 1)).out.1), iV ((getR pp.1 ((k : Int) + 1)).out.2.1), uV ((getR pp.1 ((k : Int) + 1)).out.2.2), iV ((getR pp.1 ((k : Int) + 1)).st), iV ((getR pp.1 ((k : Int) + 1)).why), iV ((getR pp.1 ((k : Int) + 1)).tr), iV ((getR pp.1 ((k : Int) + 1)).nx), .string (St ((getR pp.1 ((k : Int) + 1)).tag))]] [(1, ⟨r125, 0, none⟩, iV ((getR pp.1 ((k : Int) + 1)).out.1)), (1, ⟨r125, 1, none⟩, iV ((getR pp.1 ((k : Int) + 1)).out.2.1)), (1, ⟨r125, 2, none⟩, uV ((getR pp.1 ((k : Int) + 1)).out.2.2)), (1, ⟨r125, 3, none⟩, iV ((getR pp.1 ((k : Int) + 1)).st)), (1, ⟨r125, 4, none⟩, iV ((getR pp.1 ((k : Int) + 1)).why)), (1, ⟨r125, 5, none⟩, iV ((getR pp.1 ((k : Int) + 1)).tr)), (1, ⟨r125, 6, none⟩, iV ((getR pp.1 ((k : Int) + 1)).nx)), (1, ⟨r125, 7, none⟩, .string (St ((getR pp.1 ((k : Int) + 1)).tag))), (0, ⟨r115, 0, none⟩, iV ((getR pp.1 ((k : Int) + 1)).out.1)), (0, ⟨r115, 1, none⟩, iV ((getR pp.1 ((k : Int) + 1)).out.2.1)), (0, ⟨r115, 2, none⟩, uV ((getR pp.1 ((k : Int) + 1)).out.2.2)), (0, ⟨r115, 3, none⟩, iV ((getR pp.1 ((k : Int) + 1)).st)), (0, ⟨r115, 4, none⟩, iV ((getR pp.1 ((k : Int) + 1)).why)), (0, ⟨r115, 5, none⟩, iV ((getR pp.1 ((k : Int) + 1)).tr)), (0, ⟨r115, 6, none⟩, iV ((getR pp.1 ((k : Int) + 1)).nx)), (0, ⟨r115, 7, none⟩, .string (St ((getR pp.1 ((k : Int) + 1)).tag)))] [] trivial (kC (sat_cell h129 0 rfl rfl) (kC (sat_cell h129 0 rfl rfl) (kC (sat_cell h129 0 rfl rfl) (kC (sat_cell h129 0 rfl rfl) (kC (sat_cell h129 0 rfl rfl) (kC (sat_cell h129 0 rfl rfl) (kC (sat_cell h129 0 rfl rfl) (kC (sat_cell h129 0 rfl rfl) (kC (sat_cell h129 2 rfl rfl) (kC (sat_cell h129 2 rfl rfl) (kC (sat_cell h129 2 rfl rfl) (kC (sat_cell h129 2 rfl rfl) (kC (sat_cell h129 2 rfl rfl) (kC (sat_cell h129 2 rfl rfl) (kC (sat_cell h129 2 rfl rfl) (kC (sat_cell h129 2 rfl rfl) nC)))))))))))))))) ?_
     refine plain_law (i := 2) 105 (.bool false) (by kernel_rfl) (q29e42_neq_t (o := opA (RA Try.f8 [1, 1, 1, 1, 1, 1, 1, 1, 1, 1, 1, 1, 1, 0, 1, 0, 0, 1, 0, 0, 1, 1, 0]) 2) (x := (Operand.tmp 103)) (y := (Operand.tmp 104)) ((getR pp.1 ((k : Int) + 1)).out.1) ((getR pp.1 ((k : Int) + 1)).out.2.1) ((getR pp.1 ((k : Int) + 1)).out.2.2) ((getR pp.1 ((k : Int) + 1)).st) ((getR pp.1 ((k : Int) + 1)).why) ((getR pp.1 ((k : Int) + 1)).tr) ((getR pp.1 ((k : Int) + 1)).nx) ((getR pp.1 ((k : Int) + 1)).tag) ((getR pp.1 ((k : Int) + 1)).out.1) ((getR pp.1 ((k : Int) + 1)).out.2.1) ((getR pp.1 ((k : Int) + 1)).out.2.2) ((getR pp.1 ((k : Int) + 1)).st) ((getR pp.1 ((k : Int) + 1)).why) ((getR pp.1 ((k : Int) + 1)).tr) ((getR pp.1 ((k : Int) + 1)).nx) ((getR pp.1 ((k : Int) + 1)).tag) (by kernel_rfl) (by kernel_rfl) (by kernel_rfl) ⟨rfl, rfl, rfl, rfl, rfl, rfl, rfl, rfl⟩ _) (.mk ?_)
     refine yK [(7, pV b10), (14, pV b91), (16, iV ((k : Int) + 1)), (105, .bool false)] fun lr131 => ?_
     refine yCf ?_
     refine ySk ?_
     refine yPl [0, 1, 2] ?_
     refine yBb [] [(16, iV ((k : Int) + 2)), (90, iV ((k : Int) + 2)), (89, iV ((k : Int) + 1))] [e0 0, e1 1 (iV ((k : Int) + 2)), e0 2] [] [(iV (IntKind.wrap .i64 (((k : Int) + 1) + 1)), iV ((k : Int) + 2))] ⟨(ov_i64 (by omega) (by omega) (by omega)), trivial⟩ nC (.mk ?_)
     have h132 := tk6 (sf5 (sf4 (sf5 (sf5 (sf1 (sf2 h129))))))
     have h133 := tk4 h132
     change ∃ n', n' < _ ∧ _
     refine ⟨(pp.1.R.length - (k + 1)), by omega, (k + 1), _, rfl, (by omega), (mk_live [(7, pV b10), (14, pV b91), (16, iV ((((k + 1) : Nat) : Int) + 1))] ⟨rfl, rfl, (ov_int (by omega)), trivial⟩), h133⟩
    ·
     refine yBb [] [(88, .bool false)] [e1 3 (.bool false)] [] [(.bool (decide ((k : Int) + 1 ≤ ((pp.1.R.length : Nat) : Int))), .bool false)] ⟨(ov_f (by omega)), trivial⟩ nC (.mk ?_)
     refine yK [(7, pV b10), (14, pV b91), (16, iV ((k : Int) + 1)), (88, .bool false)] fun lr134 => ?_
     refine yCf ?_
     refine yEx 4 ?_
     refine ySq ?_
     refine yPl [0, 1, 2, 3, 4, 5, 6, 7, 8] ?_
     refine yB0 [1, 2, 3, 4, 5, 6, 7, 8] [0] [(106, pV b10)] ?_
     refine yA ?_
     refine yCl 107 Try.call22 (tlen_w b10 nn pp.1) h109 ?_
     rintro v K w135 (⟨rfl, rfl⟩) h136
     refine ⟨_, rfl, ?_⟩
     have h137 := ap1 h136
     refine yB0 [3, 4, 5, 6, 7, 8] [2] [(108, pV b91)] ?_
     have h138 := tk4 (sf3 (sf2 (sf3 (sf3 h137))))
     refine yA ?_
     refine yCl 109 Try.call22 (tlen_w b91 nn pp.1) h138 ?_
     rintro v K w139 (⟨rfl, rfl⟩) h140
     refine ⟨_, rfl, ?_⟩
     have h141 := ap1 h140
     refine yBb [6, 7, 8] [(111, .bool true), (110, .bool true)] [e1 4 (.bool true), e0 5] [] [(.bool ((((pp.1.R.length : Nat) : Int)) == (((pp.1.R.length : Nat) : Int))), .bool true)] ⟨(ov_et (by omega)), trivial⟩ nC ?_
     refine yA ?_
     refine yCl 112 Try.call18 (works_ht) h141 ?_
     rintro v K w142 (⟨rfl, rfl⟩) h143
     refine ⟨_, rfl, ?_⟩
     have h144 := ap0 h143
     refine yB0 [] [7, 8] [(6, .bool true), (113, .bool true)] (.mk ?_)
     refine yK [(6, .bool true)] fun lr145 => ?_
     refine yRt ?_
     repeat (first | simp only [Exit.inBlock] | simp only [Exit.then])
     have h146 := tk4 (sf3 (sf2 (sf2 (sf3 h144))))
     have h147 := tk2 (sf1 (sf3 h146))
     refine hi_out [] (.bool true) [] (by kernel_rfl) (by intro q hq; cases hq) ?_
     exact ⟨.bool true, [Old wo], rfl, ⟨rfl, rfl⟩, h147⟩

end Go.Proofs.Ytjjpmehiolejgaa
