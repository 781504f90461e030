/- Walks, printed by my generator gen26.py. -/
import Derived.Test.YtjjpmehiolejgaaF24
import Derived.Test.YtjjpmehiolejgaaF18
import Derived.Test.YtjjpmehiolejgaaTabI
namespace Go.Proofs.Ytjjpmehiolejgaa
theorem q26e28_eql_t {n : Nat} {l : Fr} {o : Oper} {x y : Operand} (a0 : Int) (a1 : Int) (a2 : Int) (c0 : Int) (c1 : Int) (c2 : Int) (ho : o.op = .binOp .eql 28 x y 28) (hx : fe n l x = .agg #[.int .i64 a0, .int .i64 a1, .int .u32 a2]) (hy : fe n l y = .agg #[.int .i64 c0, .int .i64 c1, .int .u32 c2]) (h : a0 = c0 ∧ a1 = c1 ∧ a2 = c2) (w : World) : (execOp (fe n l) o).run Try.prog w = .ok (.value (.bool true)) w := by
  obtain ⟨rfl, rfl, rfl⟩ := h
  simp [execOp, ho, hx, hy, go_sem]
theorem q26e28_eql_f {n : Nat} {l : Fr} {o : Oper} {x y : Operand} (a0 : Int) (a1 : Int) (a2 : Int) (c0 : Int) (c1 : Int) (c2 : Int) (ho : o.op = .binOp .eql 28 x y 28) (hx : fe n l x = .agg #[.int .i64 a0, .int .i64 a1, .int .u32 a2]) (hy : fe n l y = .agg #[.int .i64 c0, .int .i64 c1, .int .u32 c2]) (h : ¬ (a0 = c0 ∧ a1 = c1 ∧ a2 = c2)) (w : World) : (execOp (fe n l) o).run Try.prog w = .ok (.value (.bool false)) w := by
  by_cases h0 : a0 = c0
  · skip
    by_cases h1 : a1 = c1
    · skip
      by_cases h2 : a2 = c2
      · exact absurd ⟨h0, h1, h2⟩ h
      · simp [execOp, ho, hx, hy, go_sem, h0, h1, h2]
    · simp [execOp, ho, hx, hy, go_sem, h0, h1]
  · simp [execOp, ho, hx, hy, go_sem, h0]
set_option maxHeartbeats 4000000 in
theorem stale_law (wo : World) (sz bl : Int) (hsz : 0 ≤ sz ∧ sz ≤ 255) (hbl : 0 ≤ bl ∧ bl ≤ 255) (p0 : Option Addr) (n cp : Nat) (T : List Mv) (hr : Rd wo p0 n (fl eMv T)) (hT : T.length = n) (hO : ∀ m ∈ T, MvOk m) : HT Try.prog 5 [Value.int IntKind.u8 sz, Value.int IntKind.u8 bl, Value.slice p0 n cp] [Old wo] (fun v K => v = Value.bool true ∧ K = [Old wo]) := by
 refine hi_in 145 ([(0, yV sz), (1, yV bl), (2, .slice p0 n cp)] : Fr) Try.func5 (by kernel_rfl) Try.ntmps5 rfl rfl ?_
 intro g w0 R h0
 obtain ⟨nn, hnn⟩ : ∃ nn : Nat, (nn : Int) = sz % 12 + 1 := ⟨(sz % 12 + 1).toNat, by omega⟩
 obtain ⟨gg, hgg⟩ : ∃ g : Int, g = 4294967295 - bl % 6 := ⟨_, rfl⟩
 refine ySq ?_
 refine yPl [0] ?_
 refine yB0 [] [0] [(6, .bool false)] (.mk ?_)
 refine yK [(0, yV sz), (1, yV bl), (2, .slice p0 n cp)] fun lr1 => ?_
 refine ySq ?_
 refine ySq ?_
 refine yPl [0, 1, 2] ?_
 refine yB0 [2] [0, 1] [(25, iV (n : Int)), (24, .slice p0 n cp)] ?_
 by_cases c2 : (n : Int) > 120
 ·
  refine yBb [] [(26, .bool true)] [e1 2 (.bool true)] [] [(.bool (decide ((n : Int) > 120)), .bool true)] ⟨(ov_t (by omega)), trivial⟩ nC (.mk ?_)
  refine yK [(0, yV sz), (1, yV bl), (2, .slice p0 n cp), (26, .bool true)] fun lr3 => ?_
  refine yCt ?_
  refine ySq ?_
  refine yPl [0, 1] ?_
  refine yA ?_
  refine yCl 27 Try.call18 (works_ht) h0 ?_
  rintro v K w4 (⟨rfl, rfl⟩) h5
  refine ⟨_, rfl, ?_⟩
  have h6 := ap0 h5
  refine yB0 [] [1] [(6, .bool true)] (.mk ?_)
  refine yK [(6, .bool true)] fun lr7 => ?_
  refine yRt ?_
  repeat (first | simp only [Exit.inBlock] | simp only [Exit.then])
  refine hi_out [] (.bool true) [] (by kernel_rfl) (by intro q hq; cases hq) ?_
  exact ⟨.bool true, [Old wo], rfl, ⟨rfl, rfl⟩, h6⟩
 ·
  refine yBb [] [(26, .bool false)] [e1 2 (.bool false)] [] [(.bool (decide ((n : Int) > 120)), .bool false)] ⟨(ov_f (by omega)), trivial⟩ nC (.mk ?_)
  refine yK [(0, yV sz), (1, yV bl), (2, .slice p0 n cp), (26, .bool false)] fun lr8 => ?_
  refine yCf ?_
  refine ySk ?_
  refine ySq ?_
  refine yPl [0, 1, 2, 3, 4, 5, 6, 7, 8] ?_
  refine yB0 [3, 4, 5, 6, 7, 8] [0, 1, 2] [(31, .slice p0 n cp), (30, yV bl), (29, yV sz)] ?_
  obtain ⟨pp, hpp⟩ : ∃ pp, madeK nn gg T n = pp := ⟨_, rfl⟩
  have hI_ : MInv nn pp := hpp ▸ minv_made (n := nn) (g := gg) (by omega) (by omega) hO (k := n) (by omega) (by omega)
  have hal_ : pp.2.length ≤ n := hpp ▸ madeK_all nn gg T n
  have hm9 := made_w wo sz bl hsz hbl nn hnn gg hgg p0 n cp T hr hT hO (by omega)
  rw [hpp] at hm9
  refine yA ?_
  refine yCl 32 Try.call19 (hm9) h0 ?_
  rintro v K w13 (⟨b10, p11, c12, rfl, rfl⟩) h14
  refine ⟨_, rfl, ?_⟩
  have h15 := ap3 h14
  refine yB0 [] [4, 5, 6, 7, 8] [(8, .slice p11 pp.2.length c12), (7, pV b10), (34, .slice p11 pp.2.length c12), (33, pV b10), (28, .tuple #[pV b10, .slice p11 pp.2.length c12])] (.mk ?_)
  refine yK [(7, pV b10), (8, .slice p11 pp.2.length c12)] fun lr16 => ?_
  refine ySq ?_
  refine ySq ?_
  refine yPl [0, 1] ?_
  refine yB0 [] [0, 1] [(36, .bool false), (35, pV b10)] (.mk ?_)
  refine yK [(7, pV b10), (8, .slice p11 pp.2.length c12), (36, .bool false)] fun lr17 => ?_
  refine yCf ?_
  refine ySk ?_
  refine ySq ?_
  refine yPl [0, 1, 2] ?_
  refine yB0 [1, 2] [0] [(37, pV b10)] ?_
  have hll20 := live_len pp.1.E
  refine yA ?_
  refine yCl 38 Try.call24 (live_w b10 nn pp.1) h15 ?_
  rintro v K w21 (⟨p18, c19, rfl, rfl⟩) h22
  refine ⟨_, rfl, ?_⟩
  have h23 := ap2 h22
  refine yB0 [] [2] [(9, .slice p18 (((liveL pp.1.E).length)) c19)] (.mk ?_)
  refine yK [(7, pV b10), (8, .slice p11 pp.2.length c12), (9, .slice p18 (((liveL pp.1.E).length)) c19)] fun lr24 => ?_
  refine ySq ?_
  refine yPl [0] ?_
  refine yB0 [] [0] [(10, iV 0)] (.mk ?_)
  refine yK [(7, pV b10), (8, .slice p11 pp.2.length c12), (9, .slice p18 (((liveL pp.1.E).length)) c19), (10, iV 0)] fun lr25 => ?_
  refine ySq ?_
  refine ySq ?_
  refine yPl [0] ?_
  refine yB0 [] [0] [(11, iV 0)] (.mk ?_)
  refine yK [(7, pV b10), (8, .slice p11 pp.2.length c12), (9, .slice p18 (((liveL pp.1.E).length)) c19), (10, iV 0), (11, iV 0)] fun lr26 => ?_
  refine yBk 0 ?_
  have h27 := tk5 (sf4 (sf3 (sf3 (sf4 (sf4 h23)))))
  have hl28 := fl_n eO_ok (by decide) h27
  have h29 := tk5 (sf4 (sf3 (sf3 (sf4 (sf4 h27)))))
  have hl30 := fl_n eO_ok (by decide) h29
  have hc0_ : cntIn pp.2 (liveL pp.1.E) 0 = 0 := rfl
  have h31 := tk5 (sf4 (sf3 (sf2 (sf4 (sf4 h29)))))
  refine gi_lp (x := CA Try.f5 [1, 1, 1, 1, 1, 1, 0, 1, 0, 0]) (by kernel_rfl) (fun mz_ a w => ∃ i : Nat, ∃ lr : Fr, mz_ = pp.2.length - i ∧ (i ≤ pp.2.length) ∧ a = mk 145 (([(7, pV b10), (8, .slice p11 pp.2.length c12), (9, .slice p18 (((liveL pp.1.E).length)) c19), (10, iV ((((cntIn pp.2 (liveL pp.1.E) i) : Nat) : Int))), (11, iV (i : Int))] : Fr) ++ lr) ∧ sat g w [TW b10 nn pp.1, Sl 28 3 p11 pp.2.length c12 (fl eO pp.2), Sl 28 3 p18 (((liveL pp.1.E).length)) c19 (fl eO (liveL pp.1.E)), Old wo, R]) (pp.2.length - 0) ⟨0, _, rfl, (Nat.zero_le _), (mk_live [(7, pV b10), (8, .slice p11 pp.2.length c12), (9, .slice p18 (((liveL pp.1.E).length)) c19), (10, iV ((((cntIn pp.2 (liveL pp.1.E) 0) : Nat) : Int))), (11, iV (0 : Int))] ⟨rfl, rfl, rfl, (ov_int (by omega)), (ov_int (by omega)), trivial⟩), h31⟩ ?_
  rintro m33 a34 w35 ⟨i, lr32, rfl, hi_, rfl, h36⟩
  have hcl_ := cntIn_le pp.2 (liveL pp.1.E) i
  refine ySq ?_
  refine ySq ?_
  refine yPl [0, 1, 2, 3] ?_
  refine yB0 [3] [0, 1, 2] [(41, iV (((pp.2.length : Nat) : Int))), (40, .slice p11 pp.2.length c12), (39, iV (i : Int))] ?_
  by_cases c37 : (i : Int) < ((pp.2.length : Nat) : Int)
  ·
   refine yBb [] [(42, .bool true)] [e1 3 (.bool true)] [] [(.bool (decide ((i : Int) < ((pp.2.length : Nat) : Int))), .bool true)] ⟨(ov_t (by omega)), trivial⟩ nC (.mk ?_)
   refine yK [(7, pV b10), (8, .slice p11 pp.2.length c12), (9, .slice p18 (((liveL pp.1.E).length)) c19), (10, iV ((((cntIn pp.2 (liveL pp.1.E) i) : Nat) : Int))), (11, iV (i : Int)), (42, .bool true)] fun lr38 => ?_
   refine yCt ?_
   refine ySk ?_
   refine ySq ?_
   refine yBk 1 ?_
   refine ySq ?_
   refine ySq ?_
   refine yPl [0] ?_
   refine yB0 [] [0] [(12, iV 0)] (.mk ?_)
   refine yK [(7, pV b10), (8, .slice p11 pp.2.length c12), (9, .slice p18 (((liveL pp.1.E).length)) c19), (10, iV ((((cntIn pp.2 (liveL pp.1.E) i) : Nat) : Int))), (11, iV (i : Int)), (12, iV 0)] fun lr39 => ?_
   refine yBk 2 ?_
   obtain ⟨x40, hx41⟩ : ∃ x, pp.2[i]? = some x := ⟨_, List.getElem?_eq_getElem (by rw [hl28]; omega)⟩
   have hb42 := al_ok hI_ (List.mem_of_getElem? hx41)
   refine gi_lp (x := CA Try.f5 [1, 1, 1, 1, 1, 1, 0, 1, 0, 0, 1, 0, 0, 0, 1, 0, 0]) (by kernel_rfl) (fun mz_ a w => ∃ k : Nat, ∃ lr : Fr, mz_ = i - k ∧ (k ≤ i) ∧ a = mk 145 (([(7, pV b10), (8, .slice p11 pp.2.length c12), (9, .slice p18 (((liveL pp.1.E).length)) c19), (10, iV ((((cntIn pp.2 (liveL pp.1.E) i) : Nat) : Int))), (11, iV (i : Int)), (12, iV (k : Int))] : Fr) ++ lr) ∧ sat g w [TW b10 nn pp.1, Sl 28 3 p11 pp.2.length c12 (fl eO pp.2), Sl 28 3 p18 (((liveL pp.1.E).length)) c19 (fl eO (liveL pp.1.E)), Old wo, R]) (i - 0) ⟨0, _, rfl, (Nat.zero_le _), (mk_live [(7, pV b10), (8, .slice p11 pp.2.length c12), (9, .slice p18 (((liveL pp.1.E).length)) c19), (10, iV ((((cntIn pp.2 (liveL pp.1.E) i) : Nat) : Int))), (11, iV (i : Int)), (12, iV (0 : Int))] ⟨rfl, rfl, rfl, rfl, rfl, (ov_int (by omega)), trivial⟩), h36⟩ ?_
   rintro m44 a45 w46 ⟨k, lr43, rfl, hk_, rfl, h47⟩
   refine ySq ?_
   refine ySq ?_
   refine yPl [0, 1, 2] ?_
   refine yB0 [2] [0, 1] [(46, iV (i : Int)), (45, iV (k : Int))] ?_
   by_cases c48 : (k : Int) < (i : Int)
   ·
    refine yBb [] [(47, .bool true)] [e1 2 (.bool true)] [] [(.bool (decide ((k : Int) < (i : Int))), .bool true)] ⟨(ov_t (by omega)), trivial⟩ nC (.mk ?_)
    refine yK [(7, pV b10), (8, .slice p11 pp.2.length c12), (9, .slice p18 (((liveL pp.1.E).length)) c19), (10, iV ((((cntIn pp.2 (liveL pp.1.E) i) : Nat) : Int))), (11, iV (i : Int)), (12, iV (k : Int)), (47, .bool true)] fun lr49 => ?_
    refine yCt ?_
    refine ySk ?_
    refine ySq ?_
    refine yBk 3 ?_
    refine ySq ?_
    refine gi_drw (id := 14) (ops := RA Try.f5 [1, 1, 1, 1, 1, 1, 0, 1, 0, 0, 1, 0, 0, 0, 1, 0, 0, 1, 0, 0, 0]) (Tr.fl 0 (Tr.fl 1 (Tr.fl 2 (Tr.fl 3 (Tr.fl 4 (Tr.fl 5 (Tr.fl 6 (Tr.fl 7 (Tr.fl 8 Tr.nil))))))))) (by kernel_rfl) (by kernel_rfl) (by kernel_rfl) (by kernel_rfl) (by kernel_rfl) (fun _ _ d _ _ h => by cases d <;> exact h) h47 ?_
    intro w50 h51
    obtain ⟨b52, hp53⟩ := sl_ptr0 (j := 1) h51 rfl (by omega)
    refine yD _ [(51, iV (k : Int)), (50, .slice p11 pp.2.length c12)] [e0 0, e0 1] [] [] trivial nC ?_
    refine draw_law (i := 2) 52 (.pointer (some ⟨b52, k * 3, none⟩)) [] (by kernel_rfl) (fun _ _ => law_indexSlP (o := opA (RA Try.f5 [1, 1, 1, 1, 1, 1, 0, 1, 0, 0, 1, 0, 0, 0, 1, 0, 0, 1, 0, 0, 0]) 2) (x := (Operand.tmp 50)) (i := (Operand.tmp 51)) (p := p11) (b := b52) (off := 0) (z := (k : Int)) (len := pp.2.length) (cap := c12) (by kernel_rfl) Try.underlying45 3 (by kernel_rfl) k (by kernel_rfl) hp53 (by kernel_rfl) (by omega) (by omega) (k * 3) (by omega) _) (by intro q hq; cases hq) ?_
    obtain ⟨x54, hx55⟩ : ∃ x, pp.2[k]? = some x := ⟨_, List.getElem?_eq_getElem (by rw [hl28]; omega)⟩
    have hb56 := al_ok hI_ (List.mem_of_getElem? hx55)
    refine yD _ [(55, iV (i : Int)), (54, .slice p11 pp.2.length c12), (53, .agg #[iV x54.1, iV x54.2.1, uV x54.2.2])] [e2 3 [iV x54.1, iV x54.2.1, uV x54.2.2], e0 4, e0 5] [(3, ⟨b52, k * 3, none⟩, iV x54.1), (3, ⟨b52, k * 3 + 1, none⟩, iV x54.2.1), (3, ⟨b52, k * 3 + 2, none⟩, uV x54.2.2)] [] trivial (kC (gv_cell (j := 1) h51 rfl (gv_sl _ _ _) hp53 (fl_get eO_ok (j := 0) (v := iV x54.1) hx55 rfl) (k * 3) (by omega)) (kC (gv_cell (j := 1) h51 rfl (gv_sl _ _ _) hp53 (fl_get eO_ok (j := 1) (v := iV x54.2.1) hx55 rfl) (k * 3 + 1) (by omega)) (kC (gv_cell (j := 1) h51 rfl (gv_sl _ _ _) hp53 (fl_get eO_ok (j := 2) (v := uV x54.2.2) hx55 rfl) (k * 3 + 2) (by omega)) nC))) ?_
    refine draw_law (i := 6) 56 (.pointer (some ⟨b52, i * 3, none⟩)) [] (by kernel_rfl) (fun _ _ => law_indexSlP (o := opA (RA Try.f5 [1, 1, 1, 1, 1, 1, 0, 1, 0, 0, 1, 0, 0, 0, 1, 0, 0, 1, 0, 0, 0]) 6) (x := (Operand.tmp 54)) (i := (Operand.tmp 55)) (p := p11) (b := b52) (off := 0) (z := (i : Int)) (len := pp.2.length) (cap := c12) (by kernel_rfl) Try.underlying45 3 (by kernel_rfl) i (by kernel_rfl) hp53 (by kernel_rfl) (by omega) (by omega) (i * 3) (by omega) _) (by intro q hq; cases hq) ?_
    refine yD _ [(57, .agg #[iV x40.1, iV x40.2.1, uV x40.2.2])] [e2 7 [iV x40.1, iV x40.2.1, uV x40.2.2]] [(7, ⟨b52, i * 3, none⟩, iV x40.1), (7, ⟨b52, i * 3 + 1, none⟩, iV x40.2.1), (7, ⟨b52, i * 3 + 2, none⟩, uV x40.2.2)] [] trivial (kC (gv_cell (j := 1) h51 rfl (gv_sl _ _ _) hp53 (fl_get eO_ok (j := 0) (v := iV x40.1) hx41 rfl) (i * 3) (by omega)) (kC (gv_cell (j := 1) h51 rfl (gv_sl _ _ _) hp53 (fl_get eO_ok (j := 1) (v := iV x40.2.1) hx41 rfl) (i * 3 + 1) (by omega)) (kC (gv_cell (j := 1) h51 rfl (gv_sl _ _ _) hp53 (fl_get eO_ok (j := 2) (v := uV x40.2.2) hx41 rfl) (i * 3 + 2) (by omega)) nC))) ?_
    refine draw_law (i := 8) 58 (.bool false) [] (by kernel_rfl) (fun _ _ => q26e28_eql_f (o := opA (RA Try.f5 [1, 1, 1, 1, 1, 1, 0, 1, 0, 0, 1, 0, 0, 0, 1, 0, 0, 1, 0, 0, 0]) 8) (x := (Operand.tmp 53)) (y := (Operand.tmp 57)) x54.1 x54.2.1 x54.2.2 x40.1 x40.2.1 x40.2.2 (by kernel_rfl) (by kernel_rfl) (by kernel_rfl) (k3n (nd_ne hI_.nd hx55 hx41 (by omega))) _) (by intro q hq; cases hq) ?_
    refine yK [(7, pV b10), (8, .slice p11 pp.2.length c12), (9, .slice p18 (((liveL pp.1.E).length)) c19), (10, iV ((((cntIn pp.2 (liveL pp.1.E) i) : Nat) : Int))), (11, iV (i : Int)), (12, iV (k : Int)), (58, .bool false)] fun lr57 => ?_
    refine yCf ?_
    refine ySk ?_
    refine yPl [0, 1, 2] ?_
    refine yBb [] [(12, iV ((k : Int) + 1)), (49, iV ((k : Int) + 1)), (48, iV (k : Int))] [e0 0, e1 1 (iV ((k : Int) + 1)), e0 2] [] [(iV (IntKind.wrap .i64 ((k : Int) + 1)), iV ((k : Int) + 1))] ⟨(ov_i64 (by omega) (by omega) (by omega)), trivial⟩ nC (.mk ?_)
    change ∃ n', n' < _ ∧ _
    refine ⟨(i - (k + 1)), by omega, (k + 1), _, rfl, (by omega), (mk_live [(7, pV b10), (8, .slice p11 pp.2.length c12), (9, .slice p18 (((liveL pp.1.E).length)) c19), (10, iV ((((cntIn pp.2 (liveL pp.1.E) i) : Nat) : Int))), (11, iV (i : Int)), (12, iV ((((k + 1) : Nat) : Int)))] ⟨rfl, rfl, rfl, rfl, rfl, (ov_int (by omega)), trivial⟩), h51⟩
   ·
    refine yBb [] [(47, .bool false)] [e1 2 (.bool false)] [] [(.bool (decide ((k : Int) < (i : Int))), .bool false)] ⟨(ov_f (by omega)), trivial⟩ nC (.mk ?_)
    refine yK [(7, pV b10), (8, .slice p11 pp.2.length c12), (9, .slice p18 (((liveL pp.1.E).length)) c19), (10, iV ((((cntIn pp.2 (liveL pp.1.E) i) : Nat) : Int))), (11, iV (i : Int)), (12, iV (k : Int)), (47, .bool false)] fun lr58 => ?_
    refine yCf ?_
    refine yEx 2 ?_
    refine ySq ?_
    refine yPl [0] ?_
    refine yB0 [] [0] [(13, .bool false)] (.mk ?_)
    refine yK [(7, pV b10), (8, .slice p11 pp.2.length c12), (9, .slice p18 (((liveL pp.1.E).length)) c19), (10, iV ((((cntIn pp.2 (liveL pp.1.E) i) : Nat) : Int))), (11, iV (i : Int)), (13, .bool false)] fun lr59 => ?_
    refine ySq ?_
    refine ySq ?_
    refine yPl [0] ?_
    refine yB0 [] [0] [(14, iV 0)] (.mk ?_)
    refine yK [(7, pV b10), (8, .slice p11 pp.2.length c12), (9, .slice p18 (((liveL pp.1.E).length)) c19), (10, iV ((((cntIn pp.2 (liveL pp.1.E) i) : Nat) : Int))), (11, iV (i : Int)), (13, .bool false), (14, iV 0)] fun lr60 => ?_
    refine yBk 4 ?_
    refine gi_lp (x := CA Try.f5 [1, 1, 1, 1, 1, 1, 0, 1, 0, 0, 1, 0, 0, 1, 1, 0, 1, 0, 0]) (by kernel_rfl) (fun mz_ a w => ∃ k : Nat, ∃ tb : Bool, ∃ lr : Fr, mz_ = ((liveL pp.1.E).length) - k ∧ (k ≤ (liveL pp.1.E).length) ∧ (tb = decide (x40 ∈ (liveL pp.1.E).take k)) ∧ a = mk 145 (([(7, pV b10), (8, .slice p11 pp.2.length c12), (9, .slice p18 (((liveL pp.1.E).length)) c19), (10, iV ((((cntIn pp.2 (liveL pp.1.E) i) : Nat) : Int))), (11, iV (i : Int)), (13, .bool (tb)), (14, iV (k : Int))] : Fr) ++ lr) ∧ sat g w [TW b10 nn pp.1, Sl 28 3 p11 pp.2.length c12 (fl eO pp.2), Sl 28 3 p18 (((liveL pp.1.E).length)) c19 (fl eO (liveL pp.1.E)), Old wo, R]) ((liveL pp.1.E).length - 0) ⟨0, false, _, rfl, (Nat.zero_le _), mi_zero, (mk_live [(7, pV b10), (8, .slice p11 pp.2.length c12), (9, .slice p18 (((liveL pp.1.E).length)) c19), (10, iV ((((cntIn pp.2 (liveL pp.1.E) i) : Nat) : Int))), (11, iV (i : Int)), (13, .bool (false)), (14, iV (0 : Int))] ⟨rfl, rfl, rfl, rfl, rfl, rfl, (ov_int (by omega)), trivial⟩), h47⟩ ?_
    rintro m62 a63 w64 ⟨k, tb, lr61, rfl, hk_, htb, rfl, h65⟩
    cases tb
    ·
     refine ySq ?_
     refine ySq ?_
     refine yPl [0, 1, 2, 3] ?_
     refine yB0 [3] [0, 1, 2] [(61, iV ((((liveL pp.1.E).length : Nat) : Int))), (60, .slice p18 (((liveL pp.1.E).length)) c19), (59, iV (k : Int))] ?_
     by_cases c66 : (k : Int) < (((liveL pp.1.E).length : Nat) : Int)
     ·
      refine yBb [] [(62, .bool true)] [e1 3 (.bool true)] [] [(.bool (decide ((k : Int) < (((liveL pp.1.E).length : Nat) : Int))), .bool true)] ⟨(ov_t (by omega)), trivial⟩ nC (.mk ?_)
      refine yK [(7, pV b10), (8, .slice p11 pp.2.length c12), (9, .slice p18 (((liveL pp.1.E).length)) c19), (10, iV ((((cntIn pp.2 (liveL pp.1.E) i) : Nat) : Int))), (11, iV (i : Int)), (13, .bool false), (14, iV (k : Int)), (62, .bool true)] fun lr67 => ?_
      refine yCt ?_
      refine ySk ?_
      refine ySq ?_
      refine yBk 5 ?_
      refine gi_drw (id := 20) (ops := RA Try.f5 [1, 1, 1, 1, 1, 1, 0, 1, 0, 0, 1, 0, 0, 1, 1, 0, 1, 0, 0, 1, 0, 0]) (Tr.fl 0 (Tr.fl 1 (Tr.fl 2 (Tr.fl 3 (Tr.fl 4 (Tr.fl 5 (Tr.fl 6 (Tr.fl 7 (Tr.fl 8 (Tr.fl 9 (Tr.fl 10 (Tr.fl 11 (Tr.fl 12 Tr.nil))))))))))))) (by kernel_rfl) (by kernel_rfl) (by kernel_rfl) (by kernel_rfl) (by kernel_rfl) (fun _ _ d _ _ h => by cases d <;> exact h) h65 ?_
      intro w68 h69
      obtain ⟨b70, hp71⟩ := sl_ptr0 (j := 2) h69 rfl (by omega)
      refine yD _ [(68, iV (k : Int)), (67, .slice p18 (((liveL pp.1.E).length)) c19), (66, .bool false), (65, .bool false)] [e0 0, e0 1, e0 2, e0 3] [] [] trivial nC ?_
      refine draw_law (i := 4) 69 (.pointer (some ⟨b70, k * 3, none⟩)) [] (by kernel_rfl) (fun _ _ => law_indexSlP (o := opA (RA Try.f5 [1, 1, 1, 1, 1, 1, 0, 1, 0, 0, 1, 0, 0, 1, 1, 0, 1, 0, 0, 1, 0, 0]) 4) (x := (Operand.tmp 67)) (i := (Operand.tmp 68)) (p := p18) (b := b70) (off := 0) (z := (k : Int)) (len := (((liveL pp.1.E).length))) (cap := c19) (by kernel_rfl) Try.underlying45 3 (by kernel_rfl) k (by kernel_rfl) hp71 (by kernel_rfl) (by omega) (by omega) (k * 3) (by omega) _) (by intro q hq; cases hq) ?_
      obtain ⟨x72, hx73⟩ : ∃ x, (liveL pp.1.E)[k]? = some x := ⟨_, List.getElem?_eq_getElem (by rw [hl30]; omega)⟩
      have hb74 := lv_ok hI_.W (List.mem_of_getElem? hx73)
      obtain ⟨b75, hp76⟩ := sl_ptr0 (j := 1) h69 rfl (by omega)
      refine yD _ [(72, iV (i : Int)), (71, .slice p11 pp.2.length c12), (70, .agg #[iV x72.1, iV x72.2.1, uV x72.2.2])] [e2 5 [iV x72.1, iV x72.2.1, uV x72.2.2], e0 6, e0 7] [(5, ⟨b70, k * 3, none⟩, iV x72.1), (5, ⟨b70, k * 3 + 1, none⟩, iV x72.2.1), (5, ⟨b70, k * 3 + 2, none⟩, uV x72.2.2)] [] trivial (kC (gv_cell (j := 2) h69 rfl (gv_sl _ _ _) hp71 (fl_get eO_ok (j := 0) (v := iV x72.1) hx73 rfl) (k * 3) (by omega)) (kC (gv_cell (j := 2) h69 rfl (gv_sl _ _ _) hp71 (fl_get eO_ok (j := 1) (v := iV x72.2.1) hx73 rfl) (k * 3 + 1) (by omega)) (kC (gv_cell (j := 2) h69 rfl (gv_sl _ _ _) hp71 (fl_get eO_ok (j := 2) (v := uV x72.2.2) hx73 rfl) (k * 3 + 2) (by omega)) nC))) ?_
      refine draw_law (i := 8) 73 (.pointer (some ⟨b75, i * 3, none⟩)) [] (by kernel_rfl) (fun _ _ => law_indexSlP (o := opA (RA Try.f5 [1, 1, 1, 1, 1, 1, 0, 1, 0, 0, 1, 0, 0, 1, 1, 0, 1, 0, 0, 1, 0, 0]) 8) (x := (Operand.tmp 71)) (i := (Operand.tmp 72)) (p := p11) (b := b75) (off := 0) (z := (i : Int)) (len := pp.2.length) (cap := c12) (by kernel_rfl) Try.underlying45 3 (by kernel_rfl) i (by kernel_rfl) hp76 (by kernel_rfl) (by omega) (by omega) (i * 3) (by omega) _) (by intro q hq; cases hq) ?_
      refine yD _ [(74, .agg #[iV x40.1, iV x40.2.1, uV x40.2.2])] [e2 9 [iV x40.1, iV x40.2.1, uV x40.2.2]] [(9, ⟨b75, i * 3, none⟩, iV x40.1), (9, ⟨b75, i * 3 + 1, none⟩, iV x40.2.1), (9, ⟨b75, i * 3 + 2, none⟩, uV x40.2.2)] [] trivial (kC (gv_cell (j := 1) h69 rfl (gv_sl _ _ _) hp76 (fl_get eO_ok (j := 0) (v := iV x40.1) hx41 rfl) (i * 3) (by omega)) (kC (gv_cell (j := 1) h69 rfl (gv_sl _ _ _) hp76 (fl_get eO_ok (j := 1) (v := iV x40.2.1) hx41 rfl) (i * 3 + 1) (by omega)) (kC (gv_cell (j := 1) h69 rfl (gv_sl _ _ _) hp76 (fl_get eO_ok (j := 2) (v := uV x40.2.2) hx41 rfl) (i * 3 + 2) (by omega)) nC))) ?_
      by_cases c77 : x72.1 = x40.1
      ·
       by_cases c78 : x72.2.1 = x40.2.1
       ·
        by_cases c79 : x72.2.2 = x40.2.2
        ·
         refine draw_law (i := 10) 75 (.bool true) [] (by kernel_rfl) (fun _ _ => q26e28_eql_t (o := opA (RA Try.f5 [1, 1, 1, 1, 1, 1, 0, 1, 0, 0, 1, 0, 0, 1, 1, 0, 1, 0, 0, 1, 0, 0]) 10) (x := (Operand.tmp 70)) (y := (Operand.tmp 74)) x72.1 x72.2.1 x72.2.2 x40.1 x40.2.1 x40.2.2 (by kernel_rfl) (by kernel_rfl) (by kernel_rfl) ⟨(by omega), (by omega), (by omega)⟩ _) (by intro q hq; cases hq) ?_
         refine yD _ [(13, .bool true), (76, .bool true)] [e0 11, e0 12] [] [] trivial nC ?_
         refine yK [(7, pV b10), (8, .slice p11 pp.2.length c12), (9, .slice p18 (((liveL pp.1.E).length)) c19), (10, iV ((((cntIn pp.2 (liveL pp.1.E) i) : Nat) : Int))), (11, iV (i : Int)), (13, .bool true), (14, iV (k : Int))] fun lr80 => ?_
         refine yPl [0, 1, 2] ?_
         refine yBb [] [(14, iV ((k : Int) + 1)), (64, iV ((k : Int) + 1)), (63, iV (k : Int))] [e0 0, e1 1 (iV ((k : Int) + 1)), e0 2] [] [(iV (IntKind.wrap .i64 ((k : Int) + 1)), iV ((k : Int) + 1))] ⟨(ov_i64 (by omega) (by omega) (by omega)), trivial⟩ nC (.mk ?_)
         change ∃ n', n' < _ ∧ _
         refine ⟨((liveL pp.1.E).length - (k + 1)), by omega, (k + 1), true, _, rfl, (by omega), (mi_eq hx73 (k3e (by omega))), (mk_live [(7, pV b10), (8, .slice p11 pp.2.length c12), (9, .slice p18 (((liveL pp.1.E).length)) c19), (10, iV ((((cntIn pp.2 (liveL pp.1.E) i) : Nat) : Int))), (11, iV (i : Int)), (13, .bool (true)), (14, iV ((((k + 1) : Nat) : Int)))] ⟨rfl, rfl, rfl, rfl, rfl, rfl, (ov_int (by omega)), trivial⟩), h69⟩
        ·
         refine draw_law (i := 10) 75 (.bool false) [] (by kernel_rfl) (fun _ _ => q26e28_eql_f (o := opA (RA Try.f5 [1, 1, 1, 1, 1, 1, 0, 1, 0, 0, 1, 0, 0, 1, 1, 0, 1, 0, 0, 1, 0, 0]) 10) (x := (Operand.tmp 70)) (y := (Operand.tmp 74)) x72.1 x72.2.1 x72.2.2 x40.1 x40.2.1 x40.2.2 (by kernel_rfl) (by kernel_rfl) (by kernel_rfl) (by omega) _) (by intro q hq; cases hq) ?_
         refine yD _ [(13, .bool false), (76, .bool false)] [e0 11, e0 12] [] [] trivial nC ?_
         refine yK [(7, pV b10), (8, .slice p11 pp.2.length c12), (9, .slice p18 (((liveL pp.1.E).length)) c19), (10, iV ((((cntIn pp.2 (liveL pp.1.E) i) : Nat) : Int))), (11, iV (i : Int)), (13, .bool false), (14, iV (k : Int))] fun lr81 => ?_
         refine yPl [0, 1, 2] ?_
         refine yBb [] [(14, iV ((k : Int) + 1)), (64, iV ((k : Int) + 1)), (63, iV (k : Int))] [e0 0, e1 1 (iV ((k : Int) + 1)), e0 2] [] [(iV (IntKind.wrap .i64 ((k : Int) + 1)), iV ((k : Int) + 1))] ⟨(ov_i64 (by omega) (by omega) (by omega)), trivial⟩ nC (.mk ?_)
         change ∃ n', n' < _ ∧ _
         refine ⟨((liveL pp.1.E).length - (k + 1)), by omega, (k + 1), false, _, rfl, (by omega), (mi_ne htb hx73 (k3ne (by omega))), (mk_live [(7, pV b10), (8, .slice p11 pp.2.length c12), (9, .slice p18 (((liveL pp.1.E).length)) c19), (10, iV ((((cntIn pp.2 (liveL pp.1.E) i) : Nat) : Int))), (11, iV (i : Int)), (13, .bool (false)), (14, iV ((((k + 1) : Nat) : Int)))] ⟨rfl, rfl, rfl, rfl, rfl, rfl, (ov_int (by omega)), trivial⟩), h69⟩
       ·
        refine draw_law (i := 10) 75 (.bool false) [] (by kernel_rfl) (fun _ _ => q26e28_eql_f (o := opA (RA Try.f5 [1, 1, 1, 1, 1, 1, 0, 1, 0, 0, 1, 0, 0, 1, 1, 0, 1, 0, 0, 1, 0, 0]) 10) (x := (Operand.tmp 70)) (y := (Operand.tmp 74)) x72.1 x72.2.1 x72.2.2 x40.1 x40.2.1 x40.2.2 (by kernel_rfl) (by kernel_rfl) (by kernel_rfl) (by omega) _) (by intro q hq; cases hq) ?_
        refine yD _ [(13, .bool false), (76, .bool false)] [e0 11, e0 12] [] [] trivial nC ?_
        refine yK [(7, pV b10), (8, .slice p11 pp.2.length c12), (9, .slice p18 (((liveL pp.1.E).length)) c19), (10, iV ((((cntIn pp.2 (liveL pp.1.E) i) : Nat) : Int))), (11, iV (i : Int)), (13, .bool false), (14, iV (k : Int))] fun lr82 => ?_
        refine yPl [0, 1, 2] ?_
        refine yBb [] [(14, iV ((k : Int) + 1)), (64, iV ((k : Int) + 1)), (63, iV (k : Int))] [e0 0, e1 1 (iV ((k : Int) + 1)), e0 2] [] [(iV (IntKind.wrap .i64 ((k : Int) + 1)), iV ((k : Int) + 1))] ⟨(ov_i64 (by omega) (by omega) (by omega)), trivial⟩ nC (.mk ?_)
        change ∃ n', n' < _ ∧ _
        refine ⟨((liveL pp.1.E).length - (k + 1)), by omega, (k + 1), false, _, rfl, (by omega), (mi_ne htb hx73 (k3ne (by omega))), (mk_live [(7, pV b10), (8, .slice p11 pp.2.length c12), (9, .slice p18 (((liveL pp.1.E).length)) c19), (10, iV ((((cntIn pp.2 (liveL pp.1.E) i) : Nat) : Int))), (11, iV (i : Int)), (13, .bool (false)), (14, iV ((((k + 1) : Nat) : Int)))] ⟨rfl, rfl, rfl, rfl, rfl, rfl, (ov_int (by omega)), trivial⟩), h69⟩
      ·
       refine draw_law (i := 10) 75 (.bool false) [] (by kernel_rfl) (fun _ _ => q26e28_eql_f (o := opA (RA Try.f5 [1, 1, 1, 1, 1, 1, 0, 1, 0, 0, 1, 0, 0, 1, 1, 0, 1, 0, 0, 1, 0, 0]) 10) (x := (Operand.tmp 70)) (y := (Operand.tmp 74)) x72.1 x72.2.1 x72.2.2 x40.1 x40.2.1 x40.2.2 (by kernel_rfl) (by kernel_rfl) (by kernel_rfl) (by omega) _) (by intro q hq; cases hq) ?_
       refine yD _ [(13, .bool false), (76, .bool false)] [e0 11, e0 12] [] [] trivial nC ?_
       refine yK [(7, pV b10), (8, .slice p11 pp.2.length c12), (9, .slice p18 (((liveL pp.1.E).length)) c19), (10, iV ((((cntIn pp.2 (liveL pp.1.E) i) : Nat) : Int))), (11, iV (i : Int)), (13, .bool false), (14, iV (k : Int))] fun lr83 => ?_
       refine yPl [0, 1, 2] ?_
       refine yBb [] [(14, iV ((k : Int) + 1)), (64, iV ((k : Int) + 1)), (63, iV (k : Int))] [e0 0, e1 1 (iV ((k : Int) + 1)), e0 2] [] [(iV (IntKind.wrap .i64 ((k : Int) + 1)), iV ((k : Int) + 1))] ⟨(ov_i64 (by omega) (by omega) (by omega)), trivial⟩ nC (.mk ?_)
       change ∃ n', n' < _ ∧ _
       refine ⟨((liveL pp.1.E).length - (k + 1)), by omega, (k + 1), false, _, rfl, (by omega), (mi_ne htb hx73 (k3ne (by omega))), (mk_live [(7, pV b10), (8, .slice p11 pp.2.length c12), (9, .slice p18 (((liveL pp.1.E).length)) c19), (10, iV ((((cntIn pp.2 (liveL pp.1.E) i) : Nat) : Int))), (11, iV (i : Int)), (13, .bool (false)), (14, iV ((((k + 1) : Nat) : Int)))] ⟨rfl, rfl, rfl, rfl, rfl, rfl, (ov_int (by omega)), trivial⟩), h69⟩
     ·
      refine yBb [] [(62, .bool false)] [e1 3 (.bool false)] [] [(.bool (decide ((k : Int) < (((liveL pp.1.E).length : Nat) : Int))), .bool false)] ⟨(ov_f (by omega)), trivial⟩ nC (.mk ?_)
      refine yK [(7, pV b10), (8, .slice p11 pp.2.length c12), (9, .slice p18 (((liveL pp.1.E).length)) c19), (10, iV ((((cntIn pp.2 (liveL pp.1.E) i) : Nat) : Int))), (11, iV (i : Int)), (13, .bool false), (14, iV (k : Int)), (62, .bool false)] fun lr84 => ?_
      refine yCf ?_
      refine yEx 4 ?_
      refine ySq ?_
      refine yPl [0, 1, 2, 3, 4, 5, 6, 7, 8, 9, 10] ?_
      obtain ⟨b85, hp86⟩ := sl_ptr0 (j := 1) h65 rfl (by omega)
      refine yB0 [3, 4, 5, 6, 7, 8, 9, 10] [0, 1, 2] [(80, iV (i : Int)), (79, .slice p11 pp.2.length c12), (78, pV b10)] ?_
      refine plain_law (i := 3) 81 (.pointer (some ⟨b85, i * 3, none⟩)) (by kernel_rfl) (law_indexSlP (o := opA (RA Try.f5 [1, 1, 1, 1, 1, 1, 0, 1, 0, 0, 1, 0, 0, 1, 1, 1, 0]) 3) (x := (Operand.tmp 79)) (i := (Operand.tmp 80)) (p := p11) (b := b85) (off := 0) (z := (i : Int)) (len := pp.2.length) (cap := c12) (by kernel_rfl) Try.underlying45 3 (by kernel_rfl) i (by kernel_rfl) hp86 (by kernel_rfl) (by omega) (by omega) (i * 3) (by omega) _) ?_
      refine yBb [5, 6, 7, 8, 9, 10] [(82, .agg #[iV x40.1, iV x40.2.1, uV x40.2.2])] [e2 4 [iV x40.1, iV x40.2.1, uV x40.2.2]] [(4, ⟨b85, i * 3, none⟩, iV x40.1), (4, ⟨b85, i * 3 + 1, none⟩, iV x40.2.1), (4, ⟨b85, i * 3 + 2, none⟩, uV x40.2.2)] [] trivial (kC (gv_cell (j := 1) h65 rfl (gv_sl _ _ _) hp86 (fl_get eO_ok (j := 0) (v := iV x40.1) hx41 rfl) (i * 3) (by omega)) (kC (gv_cell (j := 1) h65 rfl (gv_sl _ _ _) hp86 (fl_get eO_ok (j := 1) (v := iV x40.2.1) hx41 rfl) (i * 3 + 1) (by omega)) (kC (gv_cell (j := 1) h65 rfl (gv_sl _ _ _) hp86 (fl_get eO_ok (j := 2) (v := uV x40.2.2) hx41 rfl) (i * 3 + 2) (by omega)) nC))) ?_
      refine yA ?_
      refine yCl 83 Try.call25 ((by have h_ := tnum_w b10 nn pp.1 x40.1 x40.2.1 x40.2.2 (by omega) (by omega); rw [(not_there hI_ (List.mem_of_getElem? hx41) (of_decide_eq_false (mi_all htb (by omega)).symm)).1, (not_there hI_ (List.mem_of_getElem? hx41) (of_decide_eq_false (mi_all htb (by omega)).symm)).2] at h_; exact h_)) h65 ?_
      rintro v K w87 (⟨rfl, rfl⟩) h88
      refine ⟨_, rfl, ?_⟩
      have h89 := ap1 h88
      refine yB0 [] [6, 7, 8, 9, 10] [(16, iV 7), (15, iV 0), (85, iV 7), (84, iV 0), (77, .tuple #[iV 0, iV 7])] (.mk ?_)
      refine yK [(7, pV b10), (8, .slice p11 pp.2.length c12), (9, .slice p18 (((liveL pp.1.E).length)) c19), (10, iV ((((cntIn pp.2 (liveL pp.1.E) i) : Nat) : Int))), (11, iV (i : Int)), (13, .bool false), (16, iV 7)] fun lr90 => ?_
      refine ySq ?_
      refine yPl [0, 1, 2, 3, 4, 5, 6, 7, 8, 9, 10, 11] ?_
      refine yB0 [3, 4, 5, 6, 7, 8, 9, 10, 11] [0, 1, 2] [(89, iV (i : Int)), (88, .slice p11 pp.2.length c12), (87, pV b10)] ?_
      refine plain_law (i := 3) 90 (.pointer (some ⟨b85, i * 3, none⟩)) (by kernel_rfl) (law_indexSlP (o := opA (RA Try.f5 [1, 1, 1, 1, 1, 1, 0, 1, 0, 0, 1, 0, 0, 1, 1, 1, 1, 0]) 3) (x := (Operand.tmp 88)) (i := (Operand.tmp 89)) (p := p11) (b := b85) (off := 0) (z := (i : Int)) (len := pp.2.length) (cap := c12) (by kernel_rfl) Try.underlying45 3 (by kernel_rfl) i (by kernel_rfl) hp86 (by kernel_rfl) (by omega) (by omega) (i * 3) (by omega) _) ?_
      refine yBb [5, 6, 7, 8, 9, 10, 11] [(91, .agg #[iV x40.1, iV x40.2.1, uV x40.2.2])] [e2 4 [iV x40.1, iV x40.2.1, uV x40.2.2]] [(4, ⟨b85, i * 3, none⟩, iV x40.1), (4, ⟨b85, i * 3 + 1, none⟩, iV x40.2.1), (4, ⟨b85, i * 3 + 2, none⟩, uV x40.2.2)] [] trivial (kC (gv_cell (j := 1) h89 rfl (gv_sl _ _ _) hp86 (fl_get eO_ok (j := 0) (v := iV x40.1) hx41 rfl) (i * 3) (by omega)) (kC (gv_cell (j := 1) h89 rfl (gv_sl _ _ _) hp86 (fl_get eO_ok (j := 1) (v := iV x40.2.1) hx41 rfl) (i * 3 + 1) (by omega)) (kC (gv_cell (j := 1) h89 rfl (gv_sl _ _ _) hp86 (fl_get eO_ok (j := 2) (v := uV x40.2.2) hx41 rfl) (i * 3 + 2) (by omega)) nC))) ?_
      refine yA ?_
      refine yCl 92 Try.call26 ((by have h_ := thnd_w b10 nn pp.1 x40.1 x40.2.1 x40.2.2 (by omega) (by omega); rw [(not_there hI_ (List.mem_of_getElem? hx41) (of_decide_eq_false (mi_all htb (by omega)).symm)).1, (not_there hI_ (List.mem_of_getElem? hx41) (of_decide_eq_false (mi_all htb (by omega)).symm)).2] at h_; exact h_)) h89 ?_
      rintro v K w91 (⟨rfl, rfl⟩) h92
      refine ⟨_, rfl, ?_⟩
      have h93 := ap1 h92
      refine yB0 [9, 10, 11] [6, 7, 8] [(94, iV 7), (93, .agg #[iV 0, uV 0]), (86, .tuple #[.agg #[iV 0, uV 0], iV 7])] ?_
      refine yA ?_
      refine yNp 17 34 [iV 0, uV 0] h93 fun r94 w95 h96 => ?_
      refine yA ?_
      refine yS [(0, iV 0), (1, uV 0)] [iV 0, uV 0] h96 fun w97 h98 => ?_
      refine yB0 [] [11] [(18, iV 7)] (.mk ?_)
      refine yK [(7, pV b10), (8, .slice p11 pp.2.length c12), (9, .slice p18 (((liveL pp.1.E).length)) c19), (10, iV ((((cntIn pp.2 (liveL pp.1.E) i) : Nat) : Int))), (11, iV (i : Int)), (13, .bool false), (16, iV 7), (18, iV 7)] fun lr99 => ?_
      refine ySq ?_
      refine ySq ?_
      refine yPl [0] ?_
      refine yB0 [] [0] [(95, .bool false)] (.mk ?_)
      refine yK [(7, pV b10), (8, .slice p11 pp.2.length c12), (9, .slice p18 (((liveL pp.1.E).length)) c19), (10, iV ((((cntIn pp.2 (liveL pp.1.E) i) : Nat) : Int))), (11, iV (i : Int)), (16, iV 7), (18, iV 7), (95, .bool false)] fun lr100 => ?_
      refine yCf ?_
      refine ySk ?_
      refine ySq ?_
      refine yPl [0, 1, 2, 3, 4, 5, 6, 7, 8, 9, 10, 11, 12] ?_
      refine yB0 [3, 4, 5, 6, 7, 8, 9, 10, 11, 12] [0, 1, 2] [(107, iV (i : Int)), (106, .slice p11 pp.2.length c12), (105, pV b10)] ?_
      refine plain_law (i := 3) 108 (.pointer (some ⟨b85, i * 3, none⟩)) (by kernel_rfl) (law_indexSlP (o := opA (RA Try.f5 [1, 1, 1, 1, 1, 1, 0, 1, 0, 0, 1, 0, 0, 1, 1, 1, 1, 1, 1, 0]) 3) (x := (Operand.tmp 106)) (i := (Operand.tmp 107)) (p := p11) (b := b85) (off := 0) (z := (i : Int)) (len := pp.2.length) (cap := c12) (by kernel_rfl) Try.underlying45 3 (by kernel_rfl) i (by kernel_rfl) hp86 (by kernel_rfl) (by omega) (by omega) (i * 3) (by omega) _) ?_
      refine yBb [5, 6, 7, 8, 9, 10, 11, 12] [(109, .agg #[iV x40.1, iV x40.2.1, uV x40.2.2])] [e2 4 [iV x40.1, iV x40.2.1, uV x40.2.2]] [(4, ⟨b85, i * 3, none⟩, iV x40.1), (4, ⟨b85, i * 3 + 1, none⟩, iV x40.2.1), (4, ⟨b85, i * 3 + 2, none⟩, uV x40.2.2)] [] trivial (kC (gv_cell (j := 2) h98 rfl (gv_sl _ _ _) hp86 (fl_get eO_ok (j := 0) (v := iV x40.1) hx41 rfl) (i * 3) (by omega)) (kC (gv_cell (j := 2) h98 rfl (gv_sl _ _ _) hp86 (fl_get eO_ok (j := 1) (v := iV x40.2.1) hx41 rfl) (i * 3 + 1) (by omega)) (kC (gv_cell (j := 2) h98 rfl (gv_sl _ _ _) hp86 (fl_get eO_ok (j := 2) (v := uV x40.2.2) hx41 rfl) (i * 3 + 2) (by omega)) nC))) ?_
      have h101 := tk6 (sf5 (sf4 (sf5 (sf5 (sf5 (sf5 h98))))))
      refine yA ?_
      refine yCl 110 Try.call15 ((by have h_ := tclose_w b10 nn pp.1 x40.1 x40.2.1 x40.2.2 (by omega) (by omega); rw [(cls_bad (not_there hI_ (List.mem_of_getElem? hx41) (of_decide_eq_false (mi_all htb (by omega)).symm)).1 (by decide)).1, (cls_bad (not_there hI_ (List.mem_of_getElem? hx41) (of_decide_eq_false (mi_all htb (by omega)).symm)).1 (by decide)).2, (not_there hI_ (List.mem_of_getElem? hx41) (of_decide_eq_false (mi_all htb (by omega)).symm)).1, (not_there hI_ (List.mem_of_getElem? hx41) (of_decide_eq_false (mi_all htb (by omega)).symm)).2] at h_; exact h_)) h101 ?_
      rintro v K w102 (⟨rfl, rfl⟩) h103
      refine ⟨_, rfl, ?_⟩
      have h104 := ap1 h103
      refine yB0 [] [6, 7, 8, 9, 10, 11, 12] [(21, iV 7), (20, .bool false), (19, iV 0), (113, iV 7), (112, .bool false), (111, iV 0), (104, .tuple #[iV 0, .bool false, iV 7])] (.mk ?_)
      refine yK [(7, pV b10), (8, .slice p11 pp.2.length c12), (9, .slice p18 (((liveL pp.1.E).length)) c19), (10, iV ((((cntIn pp.2 (liveL pp.1.E) i) : Nat) : Int))), (11, iV (i : Int)), (16, iV 7), (18, iV 7), (21, iV 7)] fun lr105 => ?_
      refine ySq ?_
      refine yPl [0, 1, 2, 3, 4, 5, 6, 7, 8, 9, 10, 11, 12] ?_
      refine yB0 [3, 4, 5, 6, 7, 8, 9, 10, 11, 12] [0, 1, 2] [(117, iV (i : Int)), (116, .slice p11 pp.2.length c12), (115, pV b10)] ?_
      refine plain_law (i := 3) 118 (.pointer (some ⟨b85, i * 3, none⟩)) (by kernel_rfl) (law_indexSlP (o := opA (RA Try.f5 [1, 1, 1, 1, 1, 1, 0, 1, 0, 0, 1, 0, 0, 1, 1, 1, 1, 1, 1, 1, 0]) 3) (x := (Operand.tmp 116)) (i := (Operand.tmp 117)) (p := p11) (b := b85) (off := 0) (z := (i : Int)) (len := pp.2.length) (cap := c12) (by kernel_rfl) Try.underlying45 3 (by kernel_rfl) i (by kernel_rfl) hp86 (by kernel_rfl) (by omega) (by omega) (i * 3) (by omega) _) ?_
      refine yBb [6, 7, 8, 9, 10, 11, 12] [(120, .agg #[iV 255, uV 4294967295]), (119, .agg #[iV x40.1, iV x40.2.1, uV x40.2.2])] [e2 4 [iV x40.1, iV x40.2.1, uV x40.2.2], e0 5] [(4, ⟨b85, i * 3, none⟩, iV x40.1), (4, ⟨b85, i * 3 + 1, none⟩, iV x40.2.1), (4, ⟨b85, i * 3 + 2, none⟩, uV x40.2.2)] [] trivial (kC (gv_cell (j := 2) h104 rfl (gv_sl _ _ _) hp86 (fl_get eO_ok (j := 0) (v := iV x40.1) hx41 rfl) (i * 3) (by omega)) (kC (gv_cell (j := 2) h104 rfl (gv_sl _ _ _) hp86 (fl_get eO_ok (j := 1) (v := iV x40.2.1) hx41 rfl) (i * 3 + 1) (by omega)) (kC (gv_cell (j := 2) h104 rfl (gv_sl _ _ _) hp86 (fl_get eO_ok (j := 2) (v := uV x40.2.2) hx41 rfl) (i * 3 + 2) (by omega)) nC))) ?_
      refine yA ?_
      refine yCl 121 Try.call14 ((by have hd_ := dup_stale (S := pp.1) (d := (x40.1, x40.2.1, x40.2.2)) (show objH (255, 4294967295) from by unfold objH; simp only; omega) (not_there hI_ (List.mem_of_getElem? hx41) (of_decide_eq_false (mi_all htb (by omega)).symm)).1 (by decide); have h_ := tdup_w b10 nn pp.1 x40.1 x40.2.1 x40.2.2 255 4294967295 (by omega) (by omega); rw [(dup_bad hd_ (by decide)).1, (dup_bad hd_ (by decide)).2, hd_] at h_; exact h_)) h104 ?_
      rintro v K w106 (⟨rfl, rfl⟩) h107
      refine ⟨_, rfl, ?_⟩
      have h108 := ap1 h107
      refine yB0 [10, 11, 12] [7, 8, 9] [(123, iV 7), (122, .agg #[iV 0, iV 0, uV 0]), (114, .tuple #[.agg #[iV 0, iV 0, uV 0], iV 7])] ?_
      refine yA ?_
      refine yNp 22 28 [iV 0, iV 0, uV 0] h108 fun r109 w110 h111 => ?_
      refine yA ?_
      refine yS [(0, iV 0), (1, iV 0), (2, uV 0)] [iV 0, iV 0, uV 0] h111 fun w112 h113 => ?_
      refine yB0 [] [12] [(23, iV 7)] (.mk ?_)
      refine yK [(7, pV b10), (8, .slice p11 pp.2.length c12), (9, .slice p18 (((liveL pp.1.E).length)) c19), (10, iV ((((cntIn pp.2 (liveL pp.1.E) i) : Nat) : Int))), (11, iV (i : Int)), (16, iV 7), (18, iV 7), (21, iV 7), (23, iV 7)] fun lr114 => ?_
      refine ySq ?_
      refine yPl [0, 1, 2, 3, 4, 5, 6, 7, 8, 9, 10, 11, 12, 13] ?_
      refine yB0 [] [0, 1, 2, 3, 4, 5, 6, 7, 8, 9, 10, 11, 12, 13] [(137, .bool false), (136, .bool false), (135, iV 7), (134, .bool false), (133, .bool false), (132, .bool false), (131, iV 7), (130, .bool false), (129, .bool false), (128, .bool false), (127, iV 7), (126, .bool false), (125, .bool false), (124, iV 7)] (.mk ?_)
      refine yK [(7, pV b10), (8, .slice p11 pp.2.length c12), (9, .slice p18 (((liveL pp.1.E).length)) c19), (10, iV ((((cntIn pp.2 (liveL pp.1.E) i) : Nat) : Int))), (11, iV (i : Int)), (137, .bool false)] fun lr115 => ?_
      refine yCf ?_
      refine ySk ?_
      refine yPl [0, 1, 2] ?_
      refine yBb [] [(11, iV ((i : Int) + 1)), (44, iV ((i : Int) + 1)), (43, iV (i : Int))] [e0 0, e1 1 (iV ((i : Int) + 1)), e0 2] [] [(iV (IntKind.wrap .i64 ((i : Int) + 1)), iV ((i : Int) + 1))] ⟨(ov_i64 (by omega) (by omega) (by omega)), trivial⟩ nC (.mk ?_)
      have hc116 := cntIn_no hx41 (of_decide_eq_false (mi_all htb (by omega)).symm)
      have h117 := tk7 (sf6 (sf6 (sf6 (sf6 (sf6 (sf1 (sf2 h113)))))))
      have h118 := tk5 h117
      change ∃ n', n' < _ ∧ _
      refine ⟨(pp.2.length - (i + 1)), by omega, (i + 1), _, rfl, (by omega), (mk_live [(7, pV b10), (8, .slice p11 pp.2.length c12), (9, .slice p18 (((liveL pp.1.E).length)) c19), (10, iV ((((cntIn pp.2 (liveL pp.1.E) (i + 1)) : Nat) : Int))), (11, iV ((((i + 1) : Nat) : Int)))] ⟨rfl, rfl, rfl, (ov_int (by omega)), (ov_int (by omega)), trivial⟩), h118⟩
    ·
     refine ySq ?_
     refine ySq ?_
     refine yPl [0, 1, 2, 3] ?_
     refine yB0 [3] [0, 1, 2] [(61, iV ((((liveL pp.1.E).length : Nat) : Int))), (60, .slice p18 (((liveL pp.1.E).length)) c19), (59, iV (k : Int))] ?_
     by_cases c119 : (k : Int) < (((liveL pp.1.E).length : Nat) : Int)
     ·
      refine yBb [] [(62, .bool true)] [e1 3 (.bool true)] [] [(.bool (decide ((k : Int) < (((liveL pp.1.E).length : Nat) : Int))), .bool true)] ⟨(ov_t (by omega)), trivial⟩ nC (.mk ?_)
      refine yK [(7, pV b10), (8, .slice p11 pp.2.length c12), (9, .slice p18 (((liveL pp.1.E).length)) c19), (10, iV ((((cntIn pp.2 (liveL pp.1.E) i) : Nat) : Int))), (11, iV (i : Int)), (13, .bool true), (14, iV (k : Int)), (62, .bool true)] fun lr120 => ?_
      refine yCt ?_
      refine ySk ?_
      refine ySq ?_
      refine yBk 5 ?_
      refine gi_drw (id := 20) (ops := RA Try.f5 [1, 1, 1, 1, 1, 1, 0, 1, 0, 0, 1, 0, 0, 1, 1, 0, 1, 0, 0, 1, 0, 0]) (Tr.fl 0 (Tr.fl 1 (Tr.fl 2 (Tr.fl 3 (Tr.fl 4 (Tr.fl 5 (Tr.fl 6 (Tr.fl 7 (Tr.fl 8 (Tr.fl 9 (Tr.fl 10 (Tr.fl 11 (Tr.fl 12 Tr.nil))))))))))))) (by kernel_rfl) (by kernel_rfl) (by kernel_rfl) (by kernel_rfl) (by kernel_rfl) (fun _ _ d _ _ h => by cases d <;> exact h) h65 ?_
      intro w121 h122
      refine yD _ [(13, .bool true), (76, .bool true), (75, undef), (74, undef), (73, undef), (72, undef), (71, undef), (70, undef), (69, undef), (68, undef), (67, undef), (66, .bool true), (65, .bool true)] [e0 0, e0 1, e0 2, e0 3, e0 4, e0 5, e0 6, e0 7, e0 8, e0 9, e0 10, e0 11, e0 12] [] [] trivial nC ?_
      refine yK [(7, pV b10), (8, .slice p11 pp.2.length c12), (9, .slice p18 (((liveL pp.1.E).length)) c19), (10, iV ((((cntIn pp.2 (liveL pp.1.E) i) : Nat) : Int))), (11, iV (i : Int)), (13, .bool true), (14, iV (k : Int))] fun lr123 => ?_
      refine yPl [0, 1, 2] ?_
      refine yBb [] [(14, iV ((k : Int) + 1)), (64, iV ((k : Int) + 1)), (63, iV (k : Int))] [e0 0, e1 1 (iV ((k : Int) + 1)), e0 2] [] [(iV (IntKind.wrap .i64 ((k : Int) + 1)), iV ((k : Int) + 1))] ⟨(ov_i64 (by omega) (by omega) (by omega)), trivial⟩ nC (.mk ?_)
      change ∃ n', n' < _ ∧ _
      refine ⟨((liveL pp.1.E).length - (k + 1)), by omega, (k + 1), true, _, rfl, (by omega), (mi_t htb), (mk_live [(7, pV b10), (8, .slice p11 pp.2.length c12), (9, .slice p18 (((liveL pp.1.E).length)) c19), (10, iV ((((cntIn pp.2 (liveL pp.1.E) i) : Nat) : Int))), (11, iV (i : Int)), (13, .bool (true)), (14, iV ((((k + 1) : Nat) : Int)))] ⟨rfl, rfl, rfl, rfl, rfl, rfl, (ov_int (by omega)), trivial⟩), h122⟩
     ·
      refine yBb [] [(62, .bool false)] [e1 3 (.bool false)] [] [(.bool (decide ((k : Int) < (((liveL pp.1.E).length : Nat) : Int))), .bool false)] ⟨(ov_f (by omega)), trivial⟩ nC (.mk ?_)
      refine yK [(7, pV b10), (8, .slice p11 pp.2.length c12), (9, .slice p18 (((liveL pp.1.E).length)) c19), (10, iV ((((cntIn pp.2 (liveL pp.1.E) i) : Nat) : Int))), (11, iV (i : Int)), (13, .bool true), (14, iV (k : Int)), (62, .bool false)] fun lr124 => ?_
      refine yCf ?_
      refine yEx 4 ?_
      refine ySq ?_
      refine yPl [0, 1, 2, 3, 4, 5, 6, 7, 8, 9, 10] ?_
      obtain ⟨b125, hp126⟩ := sl_ptr0 (j := 1) h65 rfl (by omega)
      refine yB0 [3, 4, 5, 6, 7, 8, 9, 10] [0, 1, 2] [(80, iV (i : Int)), (79, .slice p11 pp.2.length c12), (78, pV b10)] ?_
      refine plain_law (i := 3) 81 (.pointer (some ⟨b125, i * 3, none⟩)) (by kernel_rfl) (law_indexSlP (o := opA (RA Try.f5 [1, 1, 1, 1, 1, 1, 0, 1, 0, 0, 1, 0, 0, 1, 1, 1, 0]) 3) (x := (Operand.tmp 79)) (i := (Operand.tmp 80)) (p := p11) (b := b125) (off := 0) (z := (i : Int)) (len := pp.2.length) (cap := c12) (by kernel_rfl) Try.underlying45 3 (by kernel_rfl) i (by kernel_rfl) hp126 (by kernel_rfl) (by omega) (by omega) (i * 3) (by omega) _) ?_
      refine yBb [5, 6, 7, 8, 9, 10] [(82, .agg #[iV x40.1, iV x40.2.1, uV x40.2.2])] [e2 4 [iV x40.1, iV x40.2.1, uV x40.2.2]] [(4, ⟨b125, i * 3, none⟩, iV x40.1), (4, ⟨b125, i * 3 + 1, none⟩, iV x40.2.1), (4, ⟨b125, i * 3 + 2, none⟩, uV x40.2.2)] [] trivial (kC (gv_cell (j := 1) h65 rfl (gv_sl _ _ _) hp126 (fl_get eO_ok (j := 0) (v := iV x40.1) hx41 rfl) (i * 3) (by omega)) (kC (gv_cell (j := 1) h65 rfl (gv_sl _ _ _) hp126 (fl_get eO_ok (j := 1) (v := iV x40.2.1) hx41 rfl) (i * 3 + 1) (by omega)) (kC (gv_cell (j := 1) h65 rfl (gv_sl _ _ _) hp126 (fl_get eO_ok (j := 2) (v := uV x40.2.2) hx41 rfl) (i * 3 + 2) (by omega)) nC))) ?_
      refine yA ?_
      refine yCl 83 Try.call25 ((by have h_ := tnum_w b10 nn pp.1 x40.1 x40.2.1 x40.2.2 (by omega) (by omega); rw [(is_there hI_.W (of_decide_eq_true (mi_all htb (by omega)).symm))] at h_; exact h_)) h65 ?_
      rintro v K w127 (⟨rfl, rfl⟩) h128
      refine ⟨_, rfl, ?_⟩
      have h129 := ap1 h128
      refine yB0 [] [6, 7, 8, 9, 10] [(16, iV 0), (15, iV ((fndX pp.1 (x40.1, x40.2.1, x40.2.2)).num)), (85, iV 0), (84, iV ((fndX pp.1 (x40.1, x40.2.1, x40.2.2)).num)), (77, .tuple #[iV ((fndX pp.1 (x40.1, x40.2.1, x40.2.2)).num), iV 0])] (.mk ?_)
      refine yK [(7, pV b10), (8, .slice p11 pp.2.length c12), (9, .slice p18 (((liveL pp.1.E).length)) c19), (10, iV ((((cntIn pp.2 (liveL pp.1.E) i) : Nat) : Int))), (11, iV (i : Int)), (13, .bool true), (16, iV 0)] fun lr130 => ?_
      refine ySq ?_
      refine yPl [0, 1, 2, 3, 4, 5, 6, 7, 8, 9, 10, 11] ?_
      refine yB0 [3, 4, 5, 6, 7, 8, 9, 10, 11] [0, 1, 2] [(89, iV (i : Int)), (88, .slice p11 pp.2.length c12), (87, pV b10)] ?_
      refine plain_law (i := 3) 90 (.pointer (some ⟨b125, i * 3, none⟩)) (by kernel_rfl) (law_indexSlP (o := opA (RA Try.f5 [1, 1, 1, 1, 1, 1, 0, 1, 0, 0, 1, 0, 0, 1, 1, 1, 1, 0]) 3) (x := (Operand.tmp 88)) (i := (Operand.tmp 89)) (p := p11) (b := b125) (off := 0) (z := (i : Int)) (len := pp.2.length) (cap := c12) (by kernel_rfl) Try.underlying45 3 (by kernel_rfl) i (by kernel_rfl) hp126 (by kernel_rfl) (by omega) (by omega) (i * 3) (by omega) _) ?_
      refine yBb [5, 6, 7, 8, 9, 10, 11] [(91, .agg #[iV x40.1, iV x40.2.1, uV x40.2.2])] [e2 4 [iV x40.1, iV x40.2.1, uV x40.2.2]] [(4, ⟨b125, i * 3, none⟩, iV x40.1), (4, ⟨b125, i * 3 + 1, none⟩, iV x40.2.1), (4, ⟨b125, i * 3 + 2, none⟩, uV x40.2.2)] [] trivial (kC (gv_cell (j := 1) h129 rfl (gv_sl _ _ _) hp126 (fl_get eO_ok (j := 0) (v := iV x40.1) hx41 rfl) (i * 3) (by omega)) (kC (gv_cell (j := 1) h129 rfl (gv_sl _ _ _) hp126 (fl_get eO_ok (j := 1) (v := iV x40.2.1) hx41 rfl) (i * 3 + 1) (by omega)) (kC (gv_cell (j := 1) h129 rfl (gv_sl _ _ _) hp126 (fl_get eO_ok (j := 2) (v := uV x40.2.2) hx41 rfl) (i * 3 + 2) (by omega)) nC))) ?_
      refine yA ?_
      refine yCl 92 Try.call26 ((by have h_ := thnd_w b10 nn pp.1 x40.1 x40.2.1 x40.2.2 (by omega) (by omega); rw [(is_there hI_.W (of_decide_eq_true (mi_all htb (by omega)).symm))] at h_; exact h_)) h129 ?_
      rintro v K w131 (⟨rfl, rfl⟩) h132
      refine ⟨_, rfl, ?_⟩
      have h133 := ap1 h132
      refine yB0 [9, 10, 11] [6, 7, 8] [(94, iV 0), (93, .agg #[iV ((fndX pp.1 (x40.1, x40.2.1, x40.2.2)).h.1), uV ((fndX pp.1 (x40.1, x40.2.1, x40.2.2)).h.2)]), (86, .tuple #[.agg #[iV ((fndX pp.1 (x40.1, x40.2.1, x40.2.2)).h.1), uV ((fndX pp.1 (x40.1, x40.2.1, x40.2.2)).h.2)], iV 0])] ?_
      refine yA ?_
      refine yNp 17 34 [iV 0, uV 0] h133 fun r134 w135 h136 => ?_
      refine yA ?_
      refine yS [(0, iV ((fndX pp.1 (x40.1, x40.2.1, x40.2.2)).h.1)), (1, uV ((fndX pp.1 (x40.1, x40.2.1, x40.2.2)).h.2))] [iV ((fndX pp.1 (x40.1, x40.2.1, x40.2.2)).h.1), uV ((fndX pp.1 (x40.1, x40.2.1, x40.2.2)).h.2)] h136 fun w137 h138 => ?_
      refine yB0 [] [11] [(18, iV 0)] (.mk ?_)
      refine yK [(7, pV b10), (8, .slice p11 pp.2.length c12), (9, .slice p18 (((liveL pp.1.E).length)) c19), (10, iV ((((cntIn pp.2 (liveL pp.1.E) i) : Nat) : Int))), (11, iV (i : Int)), (13, .bool true), (16, iV 0), (18, iV 0)] fun lr139 => ?_
      refine ySq ?_
      refine ySq ?_
      refine yPl [0] ?_
      refine yB0 [] [0] [(95, .bool true)] (.mk ?_)
      refine yK [(7, pV b10), (8, .slice p11 pp.2.length c12), (9, .slice p18 (((liveL pp.1.E).length)) c19), (10, iV ((((cntIn pp.2 (liveL pp.1.E) i) : Nat) : Int))), (11, iV (i : Int)), (16, iV 0), (18, iV 0), (95, .bool true)] fun lr140 => ?_
      refine yCt ?_
      refine ySq ?_
      refine yPl [0, 1, 2] ?_
      refine yBb [] [(10, iV ((((cntIn pp.2 (liveL pp.1.E) i) : Nat) : Int) + 1)), (97, iV ((((cntIn pp.2 (liveL pp.1.E) i) : Nat) : Int) + 1)), (96, iV ((((cntIn pp.2 (liveL pp.1.E) i) : Nat) : Int)))] [e0 0, e1 1 (iV ((((cntIn pp.2 (liveL pp.1.E) i) : Nat) : Int) + 1)), e0 2] [] [(iV (IntKind.wrap .i64 (((((cntIn pp.2 (liveL pp.1.E) i) : Nat) : Int)) + 1)), iV ((((cntIn pp.2 (liveL pp.1.E) i) : Nat) : Int) + 1))] ⟨(ov_i64 (by omega) (by omega) (by omega)), trivial⟩ nC (.mk ?_)
      refine yK [(7, pV b10), (8, .slice p11 pp.2.length c12), (9, .slice p18 (((liveL pp.1.E).length)) c19), (10, iV ((((cntIn pp.2 (liveL pp.1.E) i) : Nat) : Int) + 1)), (11, iV (i : Int)), (16, iV 0), (18, iV 0)] fun lr141 => ?_
      refine ySq ?_
      refine ySq ?_
      refine yPl [0, 1, 2, 3, 4, 5] ?_
      refine yB0 [] [0, 1, 2, 3, 4, 5] [(103, .bool false), (102, .bool false), (101, iV 0), (100, .bool false), (99, .bool false), (98, iV 0)] (.mk ?_)
      refine yK [(7, pV b10), (8, .slice p11 pp.2.length c12), (9, .slice p18 (((liveL pp.1.E).length)) c19), (10, iV ((((cntIn pp.2 (liveL pp.1.E) i) : Nat) : Int) + 1)), (11, iV (i : Int)), (103, .bool false)] fun lr142 => ?_
      refine yCf ?_
      refine ySk ?_
      refine yEx 1 ?_
      refine yPl [0, 1, 2] ?_
      refine yBb [] [(11, iV ((i : Int) + 1)), (44, iV ((i : Int) + 1)), (43, iV (i : Int))] [e0 0, e1 1 (iV ((i : Int) + 1)), e0 2] [] [(iV (IntKind.wrap .i64 ((i : Int) + 1)), iV ((i : Int) + 1))] ⟨(ov_i64 (by omega) (by omega) (by omega)), trivial⟩ nC (.mk ?_)
      have hc143 := cntIn_go hx41 (of_decide_eq_true (mi_all htb (by omega)).symm)
      have h144 := tk6 (sf5 (sf5 (sf5 (sf5 (sf5 h138)))))
      have h145 := tk5 h144
      change ∃ n', n' < _ ∧ _
      refine ⟨(pp.2.length - (i + 1)), by omega, (i + 1), _, rfl, (by omega), (mk_live [(7, pV b10), (8, .slice p11 pp.2.length c12), (9, .slice p18 (((liveL pp.1.E).length)) c19), (10, iV ((((cntIn pp.2 (liveL pp.1.E) (i + 1)) : Nat) : Int))), (11, iV ((((i + 1) : Nat) : Int)))] ⟨rfl, rfl, rfl, (ov_int (by omega)), (ov_int (by omega)), trivial⟩), h145⟩
  ·
   refine yBb [] [(42, .bool false)] [e1 3 (.bool false)] [] [(.bool (decide ((i : Int) < ((pp.2.length : Nat) : Int))), .bool false)] ⟨(ov_f (by omega)), trivial⟩ nC (.mk ?_)
   refine yK [(7, pV b10), (8, .slice p11 pp.2.length c12), (9, .slice p18 (((liveL pp.1.E).length)) c19), (10, iV ((((cntIn pp.2 (liveL pp.1.E) i) : Nat) : Int))), (11, iV (i : Int)), (42, .bool false)] fun lr146 => ?_
   refine yCf ?_
   refine yEx 0 ?_
   refine ySq ?_
   refine yPl [0, 1, 2, 3, 4, 5, 6, 7] ?_
   have hca_ := cntIn_all hI_.nd (live_nodup hI_.W) (live_sub hI_) (show pp.2.length ≤ i from by omega)
   refine yBb [5, 6, 7] [(142, .bool true), (141, .bool true), (140, iV ((((liveL pp.1.E).length : Nat) : Int))), (139, .slice p18 (((liveL pp.1.E).length)) c19), (138, iV ((((cntIn pp.2 (liveL pp.1.E) i) : Nat) : Int)))] [e0 0, e0 1, e0 2, e1 3 (.bool true), e0 4] [] [(.bool (((((cntIn pp.2 (liveL pp.1.E) i) : Nat) : Int)) == ((((liveL pp.1.E).length : Nat) : Int))), .bool true)] ⟨(ov_et (by omega)), trivial⟩ nC ?_
   refine yA ?_
   refine yCl 143 Try.call18 (works_ht) h36 ?_
   rintro v K w147 (⟨rfl, rfl⟩) h148
   refine ⟨_, rfl, ?_⟩
   have h149 := ap0 h148
   refine yB0 [] [6, 7] [(6, .bool true), (144, .bool true)] (.mk ?_)
   refine yK [(6, .bool true)] fun lr150 => ?_
   refine yRt ?_
   repeat (first | simp only [Exit.inBlock] | simp only [Exit.then])
   have h151 := tk5 (sf4 (sf3 (sf3 (sf3 (sf4 h149)))))
   have h152 := tk2 (sf1 (sf4 h151))
   refine hi_out [] (.bool true) [] (by kernel_rfl) (by intro q hq; cases hq) ?_
   exact ⟨.bool true, [Old wo], rfl, ⟨rfl, rfl⟩, h152⟩

end Go.Proofs.Ytjjpmehiolejgaa
