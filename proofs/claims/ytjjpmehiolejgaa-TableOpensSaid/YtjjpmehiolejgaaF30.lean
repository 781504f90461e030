/- Walks, printed by my generator gen30.py. -/
import Derived.Test.YtjjpmehiolejgaaF24
import Derived.Test.YtjjpmehiolejgaaF18
import Derived.Test.YtjjpmehiolejgaaTabI
namespace Go.Proofs.Ytjjpmehiolejgaa
theorem q30e28_eql_t {n : Nat} {l : Fr} {o : Oper} {x y : Operand} (a0 : Int) (a1 : Int) (a2 : Int) (c0 : Int) (c1 : Int) (c2 : Int) (ho : o.op = .binOp .eql 28 x y 28) (hx : fe n l x = .agg #[.int .i64 a0, .int .i64 a1, .int .u32 a2]) (hy : fe n l y = .agg #[.int .i64 c0, .int .i64 c1, .int .u32 c2]) (h : a0 = c0 ∧ a1 = c1 ∧ a2 = c2) (w : World) : (execOp (fe n l) o).run Try.prog w = .ok (.value (.bool true)) w := by
  obtain ⟨rfl, rfl, rfl⟩ := h
  simp [execOp, ho, hx, hy, go_sem]
theorem q30e28_neq_t {n : Nat} {l : Fr} {o : Oper} {x y : Operand} (a0 : Int) (a1 : Int) (a2 : Int) (c0 : Int) (c1 : Int) (c2 : Int) (ho : o.op = .binOp .neq 28 x y 28) (hx : fe n l x = .agg #[.int .i64 a0, .int .i64 a1, .int .u32 a2]) (hy : fe n l y = .agg #[.int .i64 c0, .int .i64 c1, .int .u32 c2]) (h : a0 = c0 ∧ a1 = c1 ∧ a2 = c2) (w : World) : (execOp (fe n l) o).run Try.prog w = .ok (.value (.bool false)) w := by
  obtain ⟨rfl, rfl, rfl⟩ := h
  simp [execOp, ho, hx, hy, go_sem]
theorem q30e28_neq_f {n : Nat} {l : Fr} {o : Oper} {x y : Operand} (a0 : Int) (a1 : Int) (a2 : Int) (c0 : Int) (c1 : Int) (c2 : Int) (ho : o.op = .binOp .neq 28 x y 28) (hx : fe n l x = .agg #[.int .i64 a0, .int .i64 a1, .int .u32 a2]) (hy : fe n l y = .agg #[.int .i64 c0, .int .i64 c1, .int .u32 c2]) (h : ¬ (a0 = c0 ∧ a1 = c1 ∧ a2 = c2)) (w : World) : (execOp (fe n l) o).run Try.prog w = .ok (.value (.bool true)) w := by
  by_cases h0 : a0 = c0
  · skip
    by_cases h1 : a1 = c1
    · skip
      by_cases h2 : a2 = c2
      · exact absurd ⟨h0, h1, h2⟩ h
      · simp [execOp, ho, hx, hy, go_sem, h0, h1, h2]
    · simp [execOp, ho, hx, hy, go_sem, h0, h1]
  · simp [execOp, ho, hx, hy, go_sem, h0]
theorem q30e34_eql_t {n : Nat} {l : Fr} {o : Oper} {x y : Operand} (a0 : Int) (a1 : Int) (c0 : Int) (c1 : Int) (ho : o.op = .binOp .eql 34 x y 34) (hx : fe n l x = .agg #[.int .i64 a0, .int .u32 a1]) (hy : fe n l y = .agg #[.int .i64 c0, .int .u32 c1]) (h : a0 = c0 ∧ a1 = c1) (w : World) : (execOp (fe n l) o).run Try.prog w = .ok (.value (.bool true)) w := by
  obtain ⟨rfl, rfl⟩ := h
  simp [execOp, ho, hx, hy, go_sem]
theorem q30e34_eql_f {n : Nat} {l : Fr} {o : Oper} {x y : Operand} (a0 : Int) (a1 : Int) (c0 : Int) (c1 : Int) (ho : o.op = .binOp .eql 34 x y 34) (hx : fe n l x = .agg #[.int .i64 a0, .int .u32 a1]) (hy : fe n l y = .agg #[.int .i64 c0, .int .u32 c1]) (h : ¬ (a0 = c0 ∧ a1 = c1)) (w : World) : (execOp (fe n l) o).run Try.prog w = .ok (.value (.bool false)) w := by
  by_cases h0 : a0 = c0
  · skip
    by_cases h1 : a1 = c1
    · exact absurd ⟨h0, h1⟩ h
    · simp [execOp, ho, hx, hy, go_sem, h0, h1]
  · simp [execOp, ho, hx, hy, go_sem, h0]
theorem q30e34_neq_t {n : Nat} {l : Fr} {o : Oper} {x y : Operand} (a0 : Int) (a1 : Int) (c0 : Int) (c1 : Int) (ho : o.op = .binOp .neq 34 x y 34) (hx : fe n l x = .agg #[.int .i64 a0, .int .u32 a1]) (hy : fe n l y = .agg #[.int .i64 c0, .int .u32 c1]) (h : a0 = c0 ∧ a1 = c1) (w : World) : (execOp (fe n l) o).run Try.prog w = .ok (.value (.bool false)) w := by
  obtain ⟨rfl, rfl⟩ := h
  simp [execOp, ho, hx, hy, go_sem]
set_option maxHeartbeats 4000000 in
theorem opens_law (wo : World) (sz bl : Int) (hsz : 0 ≤ sz ∧ sz ≤ 255) (hbl : 0 ≤ bl ∧ bl ≤ 255) (p0 : Option Addr) (n cp : Nat) (T : List Mv) (hr : Rd wo p0 n (fl eMv T)) (hT : T.length = n) (hO : ∀ m ∈ T, MvOk m) (ox oy oz hx hy dx dy dz : Int) (L : List UInt8) (hoz : 0 ≤ oz ∧ oz ≤ 4294967295) (hhy : 0 ≤ hy ∧ hy ≤ 4294967295) (hdz : 0 ≤ dz ∧ dz ≤ 4294967295) : HT Try.prog 10 [Value.int IntKind.u8 sz, Value.int IntKind.u8 bl, Value.slice p0 n cp, Value.agg #[Value.int IntKind.i64 ox, Value.int IntKind.i64 oy, Value.int IntKind.u32 oz], Value.string (St L), Value.agg #[Value.int IntKind.i64 hx, Value.int IntKind.u32 hy], Value.agg #[Value.int IntKind.i64 dx, Value.int IntKind.i64 dy, Value.int IntKind.u32 dz]] [Old wo] (fun v K => v = Value.bool true ∧ K = [Old wo]) := by
 refine hi_in 281 ([(0, yV sz), (1, yV bl), (2, .slice p0 n cp), (3, .agg #[iV ox, iV oy, uV oz]), (4, .string (St L)), (5, .agg #[iV hx, uV hy]), (6, .agg #[iV dx, iV dy, uV dz])] : Fr) Try.func10 (by kernel_rfl) Try.ntmps10 rfl rfl ?_
 intro g w0 R h0
 obtain ⟨nn, hnn⟩ : ∃ nn : Nat, (nn : Int) = sz % 12 + 1 := ⟨(sz % 12 + 1).toNat, by omega⟩
 obtain ⟨gg, hgg⟩ : ∃ g : Int, g = 4294967295 - bl % 6 := ⟨_, rfl⟩
 refine ySq ?_
 refine yPl [0, 1, 2, 3] ?_
 refine yA ?_
 refine yNp 10 32 [iV ox, iV oy, uV oz] h0 fun r1 w2 h3 => ?_
 refine yA ?_
 refine yNp 12 34 [iV hx, uV hy] h3 fun r4 w5 h6 => ?_
 refine yA ?_
 refine yNp 13 28 [iV dx, iV dy, uV dz] h6 fun r7 w8 h9 => ?_
 refine yB0 [] [3] [(14, .bool false)] (.mk ?_)
 refine yK [(0, yV sz), (1, yV bl), (2, .slice p0 n cp), (4, .string (St L)), (10, pV r1), (12, pV r4), (13, pV r7)] fun lr10 => ?_
 refine ySq ?_
 refine ySq ?_
 refine yPl [0, 1, 2, 3, 4, 5, 6, 7] ?_
 refine yB0 [2, 3, 4, 5, 6, 7] [0, 1] [(38, iV (n : Int)), (37, .slice p0 n cp)] ?_
 by_cases c11 : (n : Int) > 100
 ·
  refine yBb [] [(44, .bool true), (43, undef), (42, undef), (41, undef), (40, .bool true), (39, .bool true)] [e1 2 (.bool true), e0 3, e0 4, e0 5, e0 6, e0 7] [] [(.bool (decide ((n : Int) > 100)), .bool true)] ⟨(ov_t (by omega)), trivial⟩ nC (.mk ?_)
  refine yK [(0, yV sz), (1, yV bl), (2, .slice p0 n cp), (4, .string (St L)), (10, pV r1), (12, pV r4), (13, pV r7), (44, .bool true)] fun lr12 => ?_
  refine yCt ?_
  refine ySq ?_
  refine yPl [0, 1] ?_
  refine yA ?_
  refine yCl 45 Try.call18 (works_ht) h9 ?_
  rintro v K w13 (⟨rfl, rfl⟩) h14
  refine ⟨_, rfl, ?_⟩
  have h15 := ap0 h14
  refine yB0 [] [1] [(14, .bool true)] (.mk ?_)
  refine yK [(14, .bool true)] fun lr16 => ?_
  refine yRt ?_
  repeat (first | simp only [Exit.inBlock] | simp only [Exit.then])
  have h17 := tk5 (sf4 (sf3 (sf3 (sf3 (sf4 h15)))))
  have h18 := tk2 (sf1 (sf4 h17))
  refine hi_out [] (.bool true) [] (by kernel_rfl) (by intro q hq; cases hq) ?_
  exact ⟨.bool true, [Old wo], rfl, ⟨rfl, rfl⟩, h18⟩
 ·
  refine yBb [6, 7] [(42, iV (((L.length : Nat) : Int))), (41, .string (St L)), (40, .bool false), (39, .bool false)] [e1 2 (.bool false), e0 3, e0 4, e1 5 (iV (((L.length : Nat) : Int)))] [] [(.bool (decide ((n : Int) > 100)), .bool false), (iV ((St L).size : Int), iV (((L.length : Nat) : Int)))] ⟨(ov_f (by omega)), (ov_int (st_len _)), trivial⟩ nC ?_
  by_cases c19 : ((L.length : Nat) : Int) > 60
  ·
   refine yBb [] [(44, .bool true), (43, .bool true)] [e1 6 (.bool true), e0 7] [] [(.bool (decide (((L.length : Nat) : Int) > 60)), .bool true)] ⟨(ov_t (by omega)), trivial⟩ nC (.mk ?_)
   refine yK [(0, yV sz), (1, yV bl), (2, .slice p0 n cp), (4, .string (St L)), (10, pV r1), (12, pV r4), (13, pV r7), (44, .bool true)] fun lr20 => ?_
   refine yCt ?_
   refine ySq ?_
   refine yPl [0, 1] ?_
   refine yA ?_
   refine yCl 45 Try.call18 (works_ht) h9 ?_
   rintro v K w21 (⟨rfl, rfl⟩) h22
   refine ⟨_, rfl, ?_⟩
   have h23 := ap0 h22
   refine yB0 [] [1] [(14, .bool true)] (.mk ?_)
   refine yK [(14, .bool true)] fun lr24 => ?_
   refine yRt ?_
   repeat (first | simp only [Exit.inBlock] | simp only [Exit.then])
   have h25 := tk5 (sf4 (sf3 (sf3 (sf3 (sf4 h23)))))
   have h26 := tk2 (sf1 (sf4 h25))
   refine hi_out [] (.bool true) [] (by kernel_rfl) (by intro q hq; cases hq) ?_
   exact ⟨.bool true, [Old wo], rfl, ⟨rfl, rfl⟩, h26⟩
  ·
   refine yBb [] [(44, .bool false), (43, .bool false)] [e1 6 (.bool false), e0 7] [] [(.bool (decide (((L.length : Nat) : Int) > 60)), .bool false)] ⟨(ov_f (by omega)), trivial⟩ nC (.mk ?_)
   refine yK [(0, yV sz), (1, yV bl), (2, .slice p0 n cp), (4, .string (St L)), (10, pV r1), (12, pV r4), (13, pV r7), (44, .bool false)] fun lr27 => ?_
   refine yCf ?_
   refine ySk ?_
   refine ySq ?_
   refine yPl [0, 1, 2, 3, 4, 5, 6, 7, 8] ?_
   refine yB0 [3, 4, 5, 6, 7, 8] [0, 1, 2] [(49, .slice p0 n cp), (48, yV bl), (47, yV sz)] ?_
   obtain ⟨pp, hpp⟩ : ∃ pp, madeK nn gg T n = pp := ⟨_, rfl⟩
   have hI_ : MInv nn pp := hpp ▸ minv_made (n := nn) (g := gg) (by omega) (by omega) hO (k := n) (by omega) (by omega)
   have hal_ : pp.2.length ≤ n := hpp ▸ madeK_all nn gg T n
   have hm28 := made_w wo sz bl hsz hbl nn hnn gg hgg p0 n cp T hr hT hO (by omega)
   rw [hpp] at hm28
   have h32 := tk5 (sf4 (sf3 (sf3 (sf3 (sf4 h9)))))
   refine yA ?_
   refine yCl 50 Try.call19 (hm28) h32 ?_
   rintro v K w33 (⟨b29, p30, c31, rfl, rfl⟩) h34
   refine ⟨_, rfl, ?_⟩
   have h35 := ap3 h34
   refine yB0 [] [4, 5, 6, 7, 8] [(16, .slice p30 pp.2.length c31), (15, pV b29), (52, .slice p30 pp.2.length c31), (51, pV b29), (46, .tuple #[pV b29, .slice p30 pp.2.length c31])] (.mk ?_)
   refine yK [(4, .string (St L)), (10, pV r1), (12, pV r4), (13, pV r7), (15, pV b29)] fun lr36 => ?_
   refine ySq ?_
   refine ySq ?_
   refine yPl [0, 1] ?_
   refine yB0 [] [0, 1] [(54, .bool false), (53, pV b29)] (.mk ?_)
   refine yK [(4, .string (St L)), (10, pV r1), (12, pV r4), (13, pV r7), (15, pV b29), (54, .bool false)] fun lr37 => ?_
   refine yCf ?_
   refine ySk ?_
   refine ySq ?_
   refine yPl [0, 1, 2, 3, 4, 5] ?_
   refine yB0 [1, 2, 3, 4, 5] [0] [(55, pV b29)] ?_
   have hll40 := live_len pp.1.E
   refine yA ?_
   refine yCl 56 Try.call24 (live_w b29 nn pp.1) h35 ?_
   rintro v K w41 (⟨p38, c39, rfl, rfl⟩) h42
   refine ⟨_, rfl, ?_⟩
   have h43 := ap2 h42
   refine yB0 [3, 4, 5] [2] [(57, pV b29)] ?_
   refine yA ?_
   refine yCl 58 Try.call22 (tlen_w b29 nn pp.1) h43 ?_
   rintro v K w44 (⟨rfl, rfl⟩) h45
   refine ⟨_, rfl, ?_⟩
   have h46 := ap1 h45
   refine yB0 [] [4, 5] [(18, iV (((pp.1.R.length : Nat) : Int))), (17, .slice p38 (((liveL pp.1.E).length)) c39)] (.mk ?_)
   refine yK [(4, .string (St L)), (10, pV r1), (12, pV r4), (13, pV r7), (15, pV b29), (17, .slice p38 (((liveL pp.1.E).length)) c39), (18, iV (((pp.1.R.length : Nat) : Int)))] fun lr47 => ?_
   refine gi_join (x := CA Try.f10 [1, 1, 1, 1, 1, 0]) (y := CA Try.f10 [1, 1, 1, 1, 1, 1]) (fun a w => ∃ tk : Bool, ∃ lr : Fr, (tk = decide (¬ objH (hx, hy))) ∧ a = mk 281 (([(4, .string (St L)), (10, pV r1), (12, pV r4), (13, pV r7), (15, pV b29), (17, .slice p38 (((liveL pp.1.E).length)) c39), (18, iV (((pp.1.R.length : Nat) : Int))), (19, .bool (tk))] : Fr) ++ lr) ∧ sat g w [TW b29 nn pp.1, Sl 28 3 p38 (((liveL pp.1.E).length)) c39 (fl eO (liveL pp.1.E)), Sl 28 3 p30 pp.2.length c31 (fl eO pp.2), Old wo, Cl r7 [iV dx, iV dy, uV dz] 28, Cl r4 [iV hx, uV hy] 34, Cl r1 [iV ox, iV oy, uV oz] 32, R]) (by kernel_rfl) ?_ ?_
   ·
    refine yPl [0, 1, 2, 3, 4, 5, 6, 7, 8, 9, 10, 11, 12, 13] ?_
    refine yBb [2, 3, 4, 5, 6, 7, 8, 9, 10, 11, 12, 13] [(60, iV hx), (59, pV r4)] [e0 0, e2 1 [iV hx]] [(1, ⟨r4, 0, none⟩, iV hx)] [] trivial (kC (sat_cell h46 5 rfl rfl) nC) ?_
    by_cases c48 : hx < 0
    ·
     refine yBb [] [(19, .bool true), (71, .bool true), (70, undef), (69, undef), (68, undef), (67, .bool true), (66, .bool true), (65, undef), (64, undef), (63, undef), (62, .bool true), (61, .bool true)] [e1 2 (.bool true), e0 3, e0 4, e0 5, e0 6, e0 7, e0 8, e0 9, e0 10, e0 11, e0 12, e0 13] [] [(.bool (decide (hx < 0)), .bool true)] ⟨(ov_t (by omega)), trivial⟩ nC (.mk ?_)
     exact ⟨true, _, (decide_eq_true (show ¬ objH (hx, hy) from by unfold objH; simp only; omega)).symm, (mk_live [(4, .string (St L)), (10, pV r1), (12, pV r4), (13, pV r7), (15, pV b29), (17, .slice p38 (((liveL pp.1.E).length)) c39), (18, iV (((pp.1.R.length : Nat) : Int))), (19, .bool (true))] ⟨rfl, rfl, rfl, rfl, rfl, rfl, rfl, rfl, trivial⟩), h46⟩
    ·
     refine yBb [6, 7, 8, 9, 10, 11, 12, 13] [(64, iV hx), (63, pV r4), (62, .bool false), (61, .bool false)] [e1 2 (.bool false), e0 3, e0 4, e2 5 [iV hx]] [(5, ⟨r4, 0, none⟩, iV hx)] [(.bool (decide (hx < 0)), .bool false)] ⟨(ov_f (by omega)), trivial⟩ (kC (sat_cell h46 5 rfl rfl) nC) ?_
     by_cases c49 : hx > 255
     ·
      refine yBb [] [(19, .bool true), (71, .bool true), (70, undef), (69, undef), (68, undef), (67, .bool true), (66, .bool true), (65, .bool true)] [e1 6 (.bool true), e0 7, e0 8, e0 9, e0 10, e0 11, e0 12, e0 13] [] [(.bool (decide (hx > 255)), .bool true)] ⟨(ov_t (by omega)), trivial⟩ nC (.mk ?_)
      exact ⟨true, _, (decide_eq_true (show ¬ objH (hx, hy) from by unfold objH; simp only; omega)).symm, (mk_live [(4, .string (St L)), (10, pV r1), (12, pV r4), (13, pV r7), (15, pV b29), (17, .slice p38 (((liveL pp.1.E).length)) c39), (18, iV (((pp.1.R.length : Nat) : Int))), (19, .bool (true))] ⟨rfl, rfl, rfl, rfl, rfl, rfl, rfl, rfl, trivial⟩), h46⟩
     ·
      refine yBb [11, 12, 13] [(69, uV hy), (68, .pointer (some ⟨r4, 1, none⟩)), (67, .bool false), (66, .bool false), (65, .bool false)] [e1 6 (.bool false), e0 7, e0 8, e0 9, e2 10 [uV hy]] [(10, ⟨r4, 1, none⟩, uV hy)] [(.bool (decide (hx > 255)), .bool false)] ⟨(ov_f (by omega)), trivial⟩ (kC (sat_cell h46 5 rfl rfl) nC) ?_
      by_cases c50 : hy = 0
      ·
       refine yBb [] [(19, .bool true), (71, .bool true), (70, .bool true)] [e1 11 (.bool true), e0 12, e0 13] [] [(.bool (hy == 0), .bool true)] ⟨(ov_et (by omega)), trivial⟩ nC (.mk ?_)
       exact ⟨true, _, (decide_eq_true (show ¬ objH (hx, hy) from by unfold objH; simp only; omega)).symm, (mk_live [(4, .string (St L)), (10, pV r1), (12, pV r4), (13, pV r7), (15, pV b29), (17, .slice p38 (((liveL pp.1.E).length)) c39), (18, iV (((pp.1.R.length : Nat) : Int))), (19, .bool (true))] ⟨rfl, rfl, rfl, rfl, rfl, rfl, rfl, rfl, trivial⟩), h46⟩
      ·
       refine yBb [] [(19, .bool false), (71, .bool false), (70, .bool false)] [e1 11 (.bool false), e0 12, e0 13] [] [(.bool (hy == 0), .bool false)] ⟨(ov_ef (by omega)), trivial⟩ nC (.mk ?_)
       exact ⟨false, _, (decide_eq_false (show ¬ ¬ objH (hx, hy) from by unfold objH; simp only; omega)).symm, (mk_live [(4, .string (St L)), (10, pV r1), (12, pV r4), (13, pV r7), (15, pV b29), (17, .slice p38 (((liveL pp.1.E).length)) c39), (18, iV (((pp.1.R.length : Nat) : Int))), (19, .bool (false))] ⟨rfl, rfl, rfl, rfl, rfl, rfl, rfl, rfl, trivial⟩), h46⟩
   ·
    rintro a51 w52 ⟨tk, lr54, htk, rfl, h53⟩
    cases tk
    ·
     refine ySq ?_
     refine yPl [0] ?_
     refine yB0 [] [0] [(20, .bool false)] (.mk ?_)
     refine yK [(4, .string (St L)), (10, pV r1), (12, pV r4), (13, pV r7), (15, pV b29), (17, .slice p38 (((liveL pp.1.E).length)) c39), (18, iV (((pp.1.R.length : Nat) : Int))), (19, .bool false), (20, .bool false)] fun lr55 => ?_
     refine ySq ?_
     refine ySq ?_
     refine yPl [0] ?_
     refine yB0 [] [0] [(21, iV 0)] (.mk ?_)
     refine yK [(4, .string (St L)), (10, pV r1), (12, pV r4), (13, pV r7), (15, pV b29), (17, .slice p38 (((liveL pp.1.E).length)) c39), (18, iV (((pp.1.R.length : Nat) : Int))), (19, .bool false), (20, .bool false), (21, iV 0)] fun lr56 => ?_
     refine yBk 0 ?_
     have h57 := tk8 (sf7 (sf6 (sf7 (sf7 (sf7 (sf7 (sf7 (sf7 h53))))))))
     have hl58 := fl_n eO_ok (by decide) h57
     have hRl_ := hI_.W.rl
     have h59 := tk8 (sf7 (sf6 (sf7 (sf7 (sf7 (sf4 (sf7 (sf2 h57))))))))
     have h60 := tk7 h59
     refine gi_lp (x := CA Try.f10 [1, 1, 1, 1, 1, 1, 1, 0, 1, 0, 0]) (by kernel_rfl) (fun mz_ a w => ∃ i : Nat, ∃ tb : Bool, ∃ lr : Fr, mz_ = ((liveL pp.1.E).length) - i ∧ (i ≤ ((liveL pp.1.E).length)) ∧ (tb = ((liveL pp.1.E).take i).any (fun y : Ky => decide ((fndX pp.1 (y.1, y.2.1, y.2.2)).h = (hx, hy)))) ∧ a = mk 281 (([(4, .string (St L)), (10, pV r1), (12, pV r4), (13, pV r7), (15, pV b29), (17, .slice p38 (((liveL pp.1.E).length)) c39), (18, iV (((pp.1.R.length : Nat) : Int))), (19, .bool false), (20, .bool (tb)), (21, iV (i : Int))] : Fr) ++ lr) ∧ sat g w [TW b29 nn pp.1, Sl 28 3 p38 (((liveL pp.1.E).length)) c39 (fl eO (liveL pp.1.E)), Cl r7 [iV dx, iV dy, uV dz] 28, Cl r4 [iV hx, uV hy] 34, Cl r1 [iV ox, iV oy, uV oz] 32, Old wo, R]) (((liveL pp.1.E).length) - 0) ⟨0, false, _, rfl, (Nat.zero_le _), rfl, (mk_live [(4, .string (St L)), (10, pV r1), (12, pV r4), (13, pV r7), (15, pV b29), (17, .slice p38 (((liveL pp.1.E).length)) c39), (18, iV (((pp.1.R.length : Nat) : Int))), (19, .bool false), (20, .bool (false)), (21, iV (0 : Int))] ⟨rfl, rfl, rfl, rfl, rfl, rfl, rfl, rfl, rfl, (ov_int (by omega)), trivial⟩), h60⟩ ?_
     rintro m62 a63 w64 ⟨i, tb, lr61, rfl, hi_, htb, rfl, h65⟩
     cases tb
     ·
      refine ySq ?_
      refine ySq ?_
      refine yPl [0, 1, 2, 3] ?_
      refine yB0 [3] [0, 1, 2] [(74, iV ((((liveL pp.1.E).length : Nat) : Int))), (73, .slice p38 (((liveL pp.1.E).length)) c39), (72, iV (i : Int))] ?_
      by_cases c66 : (i : Int) < (((liveL pp.1.E).length : Nat) : Int)
      ·
       refine yBb [] [(75, .bool true)] [e1 3 (.bool true)] [] [(.bool (decide ((i : Int) < (((liveL pp.1.E).length : Nat) : Int))), .bool true)] ⟨(ov_t (by omega)), trivial⟩ nC (.mk ?_)
       refine yK [(4, .string (St L)), (10, pV r1), (12, pV r4), (13, pV r7), (15, pV b29), (17, .slice p38 (((liveL pp.1.E).length)) c39), (18, iV (((pp.1.R.length : Nat) : Int))), (19, .bool false), (20, .bool false), (21, iV (i : Int)), (75, .bool true)] fun lr67 => ?_
       refine yCt ?_
       refine ySk ?_
       refine ySq ?_
       refine yBk 1 ?_
       refine ySq ?_
       refine yPl [0, 1, 2, 3, 4, 5, 6, 7, 8, 9, 10, 11] ?_
       obtain ⟨b68, hp69⟩ := sl_ptr0 (j := 1) h65 rfl (by omega)
       refine yB0 [3, 4, 5, 6, 7, 8, 9, 10, 11] [0, 1, 2] [(81, iV (i : Int)), (80, .slice p38 (((liveL pp.1.E).length)) c39), (79, pV b29)] ?_
       refine plain_law (i := 3) 82 (.pointer (some ⟨b68, i * 3, none⟩)) (by kernel_rfl) (law_indexSlP (o := opA (RA Try.f10 [1, 1, 1, 1, 1, 1, 1, 0, 1, 0, 0, 1, 0, 0, 0]) 3) (x := (Operand.tmp 80)) (i := (Operand.tmp 81)) (p := p38) (b := b68) (off := 0) (z := (i : Int)) (len := (((liveL pp.1.E).length))) (cap := c39) (by kernel_rfl) Try.underlying45 3 (by kernel_rfl) i (by kernel_rfl) hp69 (by kernel_rfl) (by omega) (by omega) (i * 3) (by omega) _) ?_
       obtain ⟨x70, hx71⟩ : ∃ x, (liveL pp.1.E)[i]? = some x := ⟨_, List.getElem?_eq_getElem (by rw [hl58]; omega)⟩
       have hb72 := lv_ok hI_.W (List.mem_of_getElem? hx71)
       refine yBb [5, 6, 7, 8, 9, 10, 11] [(83, .agg #[iV x70.1, iV x70.2.1, uV x70.2.2])] [e2 4 [iV x70.1, iV x70.2.1, uV x70.2.2]] [(4, ⟨b68, i * 3, none⟩, iV x70.1), (4, ⟨b68, i * 3 + 1, none⟩, iV x70.2.1), (4, ⟨b68, i * 3 + 2, none⟩, uV x70.2.2)] [] trivial (kC (gv_cell (j := 1) h65 rfl (gv_sl _ _ _) hp69 (fl_get eO_ok (j := 0) (v := iV x70.1) hx71 rfl) (i * 3) (by omega)) (kC (gv_cell (j := 1) h65 rfl (gv_sl _ _ _) hp69 (fl_get eO_ok (j := 1) (v := iV x70.2.1) hx71 rfl) (i * 3 + 1) (by omega)) (kC (gv_cell (j := 1) h65 rfl (gv_sl _ _ _) hp69 (fl_get eO_ok (j := 2) (v := uV x70.2.2) hx71 rfl) (i * 3 + 2) (by omega)) nC))) ?_
       refine yA ?_
       refine yCl 84 Try.call26 ((by have h_ := thnd_w b29 nn pp.1 x70.1 x70.2.1 x70.2.2 (by omega) (by omega); rw [(is_there hI_.W (List.mem_of_getElem? hx71))] at h_; exact h_)) h65 ?_
       rintro v K w73 (⟨rfl, rfl⟩) h74
       refine ⟨_, rfl, ?_⟩
       have h75 := ap1 h74
       refine yB0 [9, 10, 11] [6, 7, 8] [(86, iV 0), (85, .agg #[iV ((fndX pp.1 (x70.1, x70.2.1, x70.2.2)).h.1), uV ((fndX pp.1 (x70.1, x70.2.1, x70.2.2)).h.2)]), (78, .tuple #[.agg #[iV ((fndX pp.1 (x70.1, x70.2.1, x70.2.2)).h.1), uV ((fndX pp.1 (x70.1, x70.2.1, x70.2.2)).h.2)], iV 0])] ?_
       refine yA ?_
       refine yNp 22 34 [iV 0, uV 0] h75 fun r76 w77 h78 => ?_
       refine yA ?_
       refine yS [(0, iV ((fndX pp.1 (x70.1, x70.2.1, x70.2.2)).h.1)), (1, uV ((fndX pp.1 (x70.1, x70.2.1, x70.2.2)).h.2))] [iV ((fndX pp.1 (x70.1, x70.2.1, x70.2.2)).h.1), uV ((fndX pp.1 (x70.1, x70.2.1, x70.2.2)).h.2)] h78 fun w79 h80 => ?_
       refine yB0 [] [11] [(23, iV 0)] (.mk ?_)
       refine yK [(4, .string (St L)), (10, pV r1), (12, pV r4), (13, pV r7), (15, pV b29), (17, .slice p38 (((liveL pp.1.E).length)) c39), (18, iV (((pp.1.R.length : Nat) : Int))), (19, .bool false), (20, .bool false), (21, iV (i : Int)), (22, pV r76)] fun lr81 => ?_
       refine yPl [0, 1, 2, 3, 4, 5, 6] ?_
       refine yBb [4, 5, 6] [(90, .agg #[iV hx, uV hy]), (89, .agg #[iV ((fndX pp.1 (x70.1, x70.2.1, x70.2.2)).h.1), uV ((fndX pp.1 (x70.1, x70.2.1, x70.2.2)).h.2)]), (88, .bool false), (87, .bool false)] [e0 0, e0 1, e2 2 [iV ((fndX pp.1 (x70.1, x70.2.1, x70.2.2)).h.1), uV ((fndX pp.1 (x70.1, x70.2.1, x70.2.2)).h.2)], e2 3 [iV hx, uV hy]] [(3, ⟨r4, 0, none⟩, iV hx), (3, ⟨r4, 1, none⟩, uV hy), (2, ⟨r76, 0, none⟩, iV ((fndX pp.1 (x70.1, x70.2.1, x70.2.2)).h.1)), (2, ⟨r76, 1, none⟩, uV ((fndX pp.1 (x70.1, x70.2.1, x70.2.2)).h.2))] [] trivial (kC (sat_cell h80 4 rfl rfl) (kC (sat_cell h80 4 rfl rfl) (kC (sat_cell h80 0 rfl rfl) (kC (sat_cell h80 0 rfl rfl) nC)))) ?_
       by_cases c82 : (fndX pp.1 (x70.1, x70.2.1, x70.2.2)).h.1 = hx
       ·
        by_cases c83 : (fndX pp.1 (x70.1, x70.2.1, x70.2.2)).h.2 = hy
        ·
         refine plain_law (i := 4) 91 (.bool true) (by kernel_rfl) (q30e34_eql_t (o := opA (RA Try.f10 [1, 1, 1, 1, 1, 1, 1, 0, 1, 0, 0, 1, 0, 0, 1]) 4) (x := (Operand.tmp 89)) (y := (Operand.tmp 90)) ((fndX pp.1 (x70.1, x70.2.1, x70.2.2)).h.1) ((fndX pp.1 (x70.1, x70.2.1, x70.2.2)).h.2) hx hy (by kernel_rfl) (by kernel_rfl) (by kernel_rfl) ⟨(by omega), (by omega)⟩ _) ?_
         refine yB0 [] [5, 6] [(20, .bool true), (92, .bool true)] (.mk ?_)
         refine yK [(4, .string (St L)), (10, pV r1), (12, pV r4), (13, pV r7), (15, pV b29), (17, .slice p38 (((liveL pp.1.E).length)) c39), (18, iV (((pp.1.R.length : Nat) : Int))), (19, .bool false), (20, .bool true), (21, iV (i : Int))] fun lr84 => ?_
         refine yPl [0, 1, 2] ?_
         refine yBb [] [(21, iV ((i : Int) + 1)), (77, iV ((i : Int) + 1)), (76, iV (i : Int))] [e0 0, e1 1 (iV ((i : Int) + 1)), e0 2] [] [(iV (IntKind.wrap .i64 ((i : Int) + 1)), iV ((i : Int) + 1))] ⟨(ov_i64 (by omega) (by omega) (by omega)), trivial⟩ nC (.mk ?_)
         have h85 := tk8 (sf7 (sf7 (sf7 (sf7 (sf7 (sf7 (sf7 h80)))))))
         have h86 := tk7 h85
         change ∃ n', n' < _ ∧ _
         refine ⟨(((liveL pp.1.E).length) - (i + 1)), by omega, (i + 1), true, _, rfl, (by omega), (any_go htb hx71 (decide_eq_true (Prod.ext (by show _ = hx; omega) (by show _ = hy; omega)))), (mk_live [(4, .string (St L)), (10, pV r1), (12, pV r4), (13, pV r7), (15, pV b29), (17, .slice p38 (((liveL pp.1.E).length)) c39), (18, iV (((pp.1.R.length : Nat) : Int))), (19, .bool false), (20, .bool (true)), (21, iV ((((i + 1) : Nat) : Int)))] ⟨rfl, rfl, rfl, rfl, rfl, rfl, rfl, rfl, rfl, (ov_int (by omega)), trivial⟩), h86⟩
        ·
         refine plain_law (i := 4) 91 (.bool false) (by kernel_rfl) (q30e34_eql_f (o := opA (RA Try.f10 [1, 1, 1, 1, 1, 1, 1, 0, 1, 0, 0, 1, 0, 0, 1]) 4) (x := (Operand.tmp 89)) (y := (Operand.tmp 90)) ((fndX pp.1 (x70.1, x70.2.1, x70.2.2)).h.1) ((fndX pp.1 (x70.1, x70.2.1, x70.2.2)).h.2) hx hy (by kernel_rfl) (by kernel_rfl) (by kernel_rfl) (by omega) _) ?_
         refine yB0 [] [5, 6] [(20, .bool false), (92, .bool false)] (.mk ?_)
         refine yK [(4, .string (St L)), (10, pV r1), (12, pV r4), (13, pV r7), (15, pV b29), (17, .slice p38 (((liveL pp.1.E).length)) c39), (18, iV (((pp.1.R.length : Nat) : Int))), (19, .bool false), (20, .bool false), (21, iV (i : Int))] fun lr87 => ?_
         refine yPl [0, 1, 2] ?_
         refine yBb [] [(21, iV ((i : Int) + 1)), (77, iV ((i : Int) + 1)), (76, iV (i : Int))] [e0 0, e1 1 (iV ((i : Int) + 1)), e0 2] [] [(iV (IntKind.wrap .i64 ((i : Int) + 1)), iV ((i : Int) + 1))] ⟨(ov_i64 (by omega) (by omega) (by omega)), trivial⟩ nC (.mk ?_)
         have h88 := tk8 (sf7 (sf7 (sf7 (sf7 (sf7 (sf7 (sf7 h80)))))))
         have h89 := tk7 h88
         change ∃ n', n' < _ ∧ _
         refine ⟨(((liveL pp.1.E).length) - (i + 1)), by omega, (i + 1), false, _, rfl, (by omega), (any_go htb hx71 (decide_eq_false (ne_pair (by omega)))), (mk_live [(4, .string (St L)), (10, pV r1), (12, pV r4), (13, pV r7), (15, pV b29), (17, .slice p38 (((liveL pp.1.E).length)) c39), (18, iV (((pp.1.R.length : Nat) : Int))), (19, .bool false), (20, .bool (false)), (21, iV ((((i + 1) : Nat) : Int)))] ⟨rfl, rfl, rfl, rfl, rfl, rfl, rfl, rfl, rfl, (ov_int (by omega)), trivial⟩), h89⟩
       ·
        refine plain_law (i := 4) 91 (.bool false) (by kernel_rfl) (q30e34_eql_f (o := opA (RA Try.f10 [1, 1, 1, 1, 1, 1, 1, 0, 1, 0, 0, 1, 0, 0, 1]) 4) (x := (Operand.tmp 89)) (y := (Operand.tmp 90)) ((fndX pp.1 (x70.1, x70.2.1, x70.2.2)).h.1) ((fndX pp.1 (x70.1, x70.2.1, x70.2.2)).h.2) hx hy (by kernel_rfl) (by kernel_rfl) (by kernel_rfl) (by omega) _) ?_
        refine yB0 [] [5, 6] [(20, .bool false), (92, .bool false)] (.mk ?_)
        refine yK [(4, .string (St L)), (10, pV r1), (12, pV r4), (13, pV r7), (15, pV b29), (17, .slice p38 (((liveL pp.1.E).length)) c39), (18, iV (((pp.1.R.length : Nat) : Int))), (19, .bool false), (20, .bool false), (21, iV (i : Int))] fun lr90 => ?_
        refine yPl [0, 1, 2] ?_
        refine yBb [] [(21, iV ((i : Int) + 1)), (77, iV ((i : Int) + 1)), (76, iV (i : Int))] [e0 0, e1 1 (iV ((i : Int) + 1)), e0 2] [] [(iV (IntKind.wrap .i64 ((i : Int) + 1)), iV ((i : Int) + 1))] ⟨(ov_i64 (by omega) (by omega) (by omega)), trivial⟩ nC (.mk ?_)
        have h91 := tk8 (sf7 (sf7 (sf7 (sf7 (sf7 (sf7 (sf7 h80)))))))
        have h92 := tk7 h91
        change ∃ n', n' < _ ∧ _
        refine ⟨(((liveL pp.1.E).length) - (i + 1)), by omega, (i + 1), false, _, rfl, (by omega), (any_go htb hx71 (decide_eq_false (ne_pair (by omega)))), (mk_live [(4, .string (St L)), (10, pV r1), (12, pV r4), (13, pV r7), (15, pV b29), (17, .slice p38 (((liveL pp.1.E).length)) c39), (18, iV (((pp.1.R.length : Nat) : Int))), (19, .bool false), (20, .bool (false)), (21, iV ((((i + 1) : Nat) : Int)))] ⟨rfl, rfl, rfl, rfl, rfl, rfl, rfl, rfl, rfl, (ov_int (by omega)), trivial⟩), h92⟩
      ·
       refine yBb [] [(75, .bool false)] [e1 3 (.bool false)] [] [(.bool (decide ((i : Int) < (((liveL pp.1.E).length : Nat) : Int))), .bool false)] ⟨(ov_f (by omega)), trivial⟩ nC (.mk ?_)
       refine yK [(4, .string (St L)), (10, pV r1), (12, pV r4), (13, pV r7), (15, pV b29), (17, .slice p38 (((liveL pp.1.E).length)) c39), (18, iV (((pp.1.R.length : Nat) : Int))), (19, .bool false), (20, .bool false), (21, iV (i : Int)), (75, .bool false)] fun lr93 => ?_
       refine yCf ?_
       refine yEx 0 ?_
       refine ySq ?_
       refine yPl [0, 1, 2] ?_
       refine yB0 [1, 2] [0] [(93, pV b29)] ?_
       refine yA ?_
       refine yCl 94 Try.call30 (tcopy_w b29 nn pp.1) h65 ?_
       rintro v K w95 (⟨b94, rfl, rfl⟩) h96
       refine ⟨_, rfl, ?_⟩
       have h97 := ap2 h96
       refine yB0 [] [2] [(24, pV b94)] (.mk ?_)
       refine yK [(4, .string (St L)), (10, pV r1), (12, pV r4), (13, pV r7), (15, pV b29), (17, .slice p38 (((liveL pp.1.E).length)) c39), (18, iV (((pp.1.R.length : Nat) : Int))), (19, .bool false), (20, .bool false), (24, pV b94)] fun lr98 => ?_
       refine ySq ?_
       refine yPl [0, 1, 2, 3, 4, 5, 6, 7, 8, 9, 10] ?_
       refine yBb [4, 5, 6, 7, 8, 9, 10] [(99, .agg #[iV hx, uV hy]), (98, .string (St L)), (97, .agg #[iV ox, iV oy, uV oz]), (96, pV b29)] [e0 0, e2 1 [iV ox, iV oy, uV oz], e0 2, e2 3 [iV hx, uV hy]] [(3, ⟨r4, 0, none⟩, iV hx), (3, ⟨r4, 1, none⟩, uV hy), (1, ⟨r1, 0, none⟩, iV ox), (1, ⟨r1, 1, none⟩, iV oy), (1, ⟨r1, 2, none⟩, uV oz)] [] trivial (kC (sat_cell h97 4 rfl rfl) (kC (sat_cell h97 4 rfl rfl) (kC (sat_cell h97 5 rfl rfl) (kC (sat_cell h97 5 rfl rfl) (kC (sat_cell h97 5 rfl rfl) nC))))) ?_
       by_cases c99 : (opnE pp.1 (ox, oy, oz) L (hx, hy)) = 0
       ·
        have he_ : opnE pp.1 (ox, oy, oz) L (hx, hy) = 0 := by omega
        obtain ⟨j100, gn101, hg102d, hg102b, hg102⟩ := opn_go hI_.W (o := (ox, oy, oz)) (by show oz ≤ _; omega) he_
        have hg102l := hg102.2.2.1; have hg102v := hg102.2.2.2
        refine yA ?_
        refine yCl 100 Try.call12 ((by have h_ := topen_w b29 nn pp.1 ox oy oz hx hy L (by omega) (by omega) (by omega); rw [he_, hg102d] at h_; exact h_)) h97 ?_
        rintro v K w103 (⟨rfl, rfl⟩) h104
        refine ⟨_, rfl, ?_⟩
        have h105 := ap1 h104
        refine yB0 [8, 9, 10] [5, 6, 7] [(102, iV 0), (101, .agg #[iV ox, iV (j100 : Int), uV gn101]), (95, .tuple #[.agg #[iV ox, iV (j100 : Int), uV gn101], iV 0])] ?_
        refine yA ?_
        refine yNp 25 28 [iV 0, iV 0, uV 0] h105 fun r106 w107 h108 => ?_
        refine yA ?_
        refine yS [(0, iV ox), (1, iV (j100 : Int)), (2, uV gn101)] [iV ox, iV (j100 : Int), uV gn101] h108 fun w109 h110 => ?_
        refine yB0 [] [10] [(26, iV 0)] (.mk ?_)
        refine yK [(10, pV r1), (12, pV r4), (13, pV r7), (15, pV b29), (17, .slice p38 (((liveL pp.1.E).length)) c39), (18, iV (((pp.1.R.length : Nat) : Int))), (19, .bool false), (20, .bool false), (24, pV b94), (25, pV r106), (26, iV 0)] fun lr111 => ?_
        refine gi_join (x := CA Try.f10 [1, 1, 1, 1, 1, 1, 1, 1, 1, 1, 0]) (y := CA Try.f10 [1, 1, 1, 1, 1, 1, 1, 1, 1, 1, 1]) (fun a w => ∃ lr : Fr, a = mk 281 (([(12, pV r4), (13, pV r7), (17, .slice p38 (((liveL pp.1.E).length)) c39), (18, iV (((pp.1.R.length : Nat) : Int))), (19, .bool false), (20, .bool false), (24, pV b94)] : Fr) ++ lr) ∧ sat g w [TW b94 nn pp.1, Cl r7 [iV dx, iV dy, uV dz] 28, Cl r4 [iV hx, uV hy] 34, Old wo, R]) (by kernel_rfl) ?_ ?_
        ·
         refine ySq ?_
         refine yPl [0, 1] ?_
         refine yB0 [] [0, 1] [(104, .bool true), (103, iV 0)] (.mk ?_)
         refine yK [(10, pV r1), (12, pV r4), (13, pV r7), (15, pV b29), (17, .slice p38 (((liveL pp.1.E).length)) c39), (18, iV (((pp.1.R.length : Nat) : Int))), (19, .bool false), (20, .bool false), (24, pV b94), (25, pV r106), (26, iV 0), (104, .bool true)] fun lr112 => ?_
         refine yCt ?_
         refine ySq ?_
         refine yPl [0, 1, 2, 3, 4, 5, 6, 7] ?_
         refine yBb [2, 3, 4, 5, 6, 7] [(107, .agg #[iV ox, iV (j100 : Int), uV gn101]), (106, pV b29)] [e0 0, e2 1 [iV ox, iV (j100 : Int), uV gn101]] [(1, ⟨r106, 0, none⟩, iV ox), (1, ⟨r106, 1, none⟩, iV (j100 : Int)), (1, ⟨r106, 2, none⟩, uV gn101)] [] trivial (kC (sat_cell h110 0 rfl rfl) (kC (sat_cell h110 0 rfl rfl) (kC (sat_cell h110 0 rfl rfl) nC))) ?_
         have h113 := tk9 (sf8 (sf7 (sf8 (sf8 (sf8 (sf8 (sf8 (sf8 (sf8 h110)))))))))
         refine yA ?_
         refine yCl 108 Try.call25 ((by have h_ := tnum_w b29 nn (opnS pp.1 (ox, oy, oz) L (hx, hy)) ox (j100 : Int) gn101 (by omega) (by omega); rw [(And.intro trivial hg102).2.1, (And.intro trivial hg102).2.2.1] at h_; exact h_)) h113 ?_
         rintro v K w114 (⟨rfl, rfl⟩) h115
         refine ⟨_, rfl, ?_⟩
         have h116 := ap1 h115
         refine yB0 [] [3, 4, 5, 6, 7] [(28, iV 0), (27, iV (((pp.1.R.length : Nat) : Int) + 1)), (110, iV 0), (109, iV (((pp.1.R.length : Nat) : Int) + 1)), (105, .tuple #[iV (((pp.1.R.length : Nat) : Int) + 1), iV 0])] (.mk ?_)
         refine yK [(10, pV r1), (12, pV r4), (13, pV r7), (15, pV b29), (17, .slice p38 (((liveL pp.1.E).length)) c39), (18, iV (((pp.1.R.length : Nat) : Int))), (19, .bool false), (20, .bool false), (24, pV b94), (25, pV r106), (27, iV (((pp.1.R.length : Nat) : Int) + 1)), (28, iV 0)] fun lr117 => ?_
         refine ySq ?_
         refine yPl [0, 1, 2, 3, 4, 5, 6, 7, 8] ?_
         refine yBb [2, 3, 4, 5, 6, 7, 8] [(113, .agg #[iV ox, iV (j100 : Int), uV gn101]), (112, pV b29)] [e0 0, e2 1 [iV ox, iV (j100 : Int), uV gn101]] [(1, ⟨r106, 0, none⟩, iV ox), (1, ⟨r106, 1, none⟩, iV (j100 : Int)), (1, ⟨r106, 2, none⟩, uV gn101)] [] trivial (kC (sat_cell h116 1 rfl rfl) (kC (sat_cell h116 1 rfl rfl) (kC (sat_cell h116 1 rfl rfl) nC))) ?_
         refine yA ?_
         refine yCl 114 Try.call26 ((by have h_ := thnd_w b29 nn (opnS pp.1 (ox, oy, oz) L (hx, hy)) ox (j100 : Int) gn101 (by omega) (by omega); rw [(And.intro trivial hg102).2.1, (And.intro trivial hg102).2.2.1] at h_; exact h_)) h116 ?_
         rintro v K w118 (⟨rfl, rfl⟩) h119
         refine ⟨_, rfl, ?_⟩
         have h120 := ap1 h119
         refine yB0 [6, 7, 8] [3, 4, 5] [(116, iV 0), (115, .agg #[iV hx, uV hy]), (111, .tuple #[.agg #[iV hx, uV hy], iV 0])] ?_
         refine yA ?_
         refine yNp 29 34 [iV 0, uV 0] h120 fun r121 w122 h123 => ?_
         refine yA ?_
         refine yS [(0, iV hx), (1, uV hy)] [iV hx, uV hy] h123 fun w124 h125 => ?_
         refine yB0 [] [8] [(30, iV 0)] (.mk ?_)
         refine yK [(10, pV r1), (12, pV r4), (13, pV r7), (15, pV b29), (17, .slice p38 (((liveL pp.1.E).length)) c39), (18, iV (((pp.1.R.length : Nat) : Int))), (19, .bool false), (20, .bool false), (24, pV b94), (25, pV r106), (27, iV (((pp.1.R.length : Nat) : Int) + 1)), (28, iV 0), (29, pV r121), (30, iV 0)] fun lr126 => ?_
         refine ySq ?_
         refine yPl [0, 1, 2, 3, 4, 5, 6, 7, 8, 9, 10, 11, 12, 13, 14, 15, 16, 17, 18, 19, 20, 21, 22, 23, 24, 25, 26, 27, 28, 29, 30, 31, 32, 33, 34, 35, 36, 37, 38, 39, 40, 41, 42, 43, 44, 45] ?_
         refine yBb [28, 29, 30, 31, 32, 33, 34, 35, 36, 37, 38, 39, 40, 41, 42, 43, 44, 45] [(144, .agg #[iV hx, uV hy]), (143, .agg #[iV hx, uV hy]), (142, .bool false), (141, .bool false), (140, .bool false), (139, iV 0), (138, .bool false), (137, .bool false), (136, .bool false), (135, iV (((pp.1.R.length : Nat) : Int) + 1)), (134, iV (((pp.1.R.length : Nat) : Int))), (133, iV (((pp.1.R.length : Nat) : Int) + 1)), (132, .bool false), (131, .bool false), (130, .bool false), (129, iV 0), (128, .bool false), (127, .bool false), (126, .bool false), (125, iV ox), (124, pV r1), (123, iV ox), (122, pV r106), (121, .bool false), (120, .bool false), (119, .bool false), (118, .bool false), (117, .bool false)] [e0 0, e0 1, e0 2, e0 3, e0 4, e0 5, e2 6 [iV ox], e0 7, e2 8 [iV ox], e1 9 (.bool false), e0 10, e0 11, e0 12, e0 13, e0 14, e0 15, e0 16, e0 17, e1 18 (iV (((pp.1.R.length : Nat) : Int) + 1)), e1 19 (.bool false), e0 20, e0 21, e0 22, e0 23, e0 24, e0 25, e2 26 [iV hx, uV hy], e2 27 [iV hx, uV hy]] [(27, ⟨r4, 0, none⟩, iV hx), (27, ⟨r4, 1, none⟩, uV hy), (26, ⟨r121, 0, none⟩, iV hx), (26, ⟨r121, 1, none⟩, uV hy), (8, ⟨r1, 0, none⟩, iV ox), (6, ⟨r106, 0, none⟩, iV ox)] [(.bool (ox != ox), .bool false), (iV (IntKind.wrap .i64 ((((pp.1.R.length : Nat) : Int)) + 1)), iV (((pp.1.R.length : Nat) : Int) + 1)), (.bool ((((pp.1.R.length : Nat) : Int) + 1) != (((pp.1.R.length : Nat) : Int) + 1)), .bool false)] ⟨(ov_nf (by omega)), (ov_i64 (by omega) (by omega) (by omega)), (ov_nf (by omega)), trivial⟩ (kC (sat_cell h125 6 rfl rfl) (kC (sat_cell h125 6 rfl rfl) (kC (sat_cell h125 0 rfl rfl) (kC (sat_cell h125 0 rfl rfl) (kC (sat_cell h125 7 rfl rfl) (kC (sat_cell h125 2 rfl rfl) nC)))))) ?_
         refine fk_cut ([(144, .agg #[iV hx, uV hy]), (143, .agg #[iV hx, uV hy]), (142, .bool false), (10, pV r1), (12, pV r4), (13, pV r7), (15, pV b29), (17, .slice p38 (((liveL pp.1.E).length)) c39), (18, iV (((pp.1.R.length : Nat) : Int))), (19, .bool false), (20, .bool false), (24, pV b94), (25, pV r106), (27, iV (((pp.1.R.length : Nat) : Int) + 1)), (28, iV 0), (29, pV r121), (30, iV 0)] : Fr) (by kernel_rfl) (fun a => PO _ _ _ _ a _) (fun lr127 => ?_)
         refine plain_law (i := 28) 145 (.bool false) (by kernel_rfl) (q30e34_neq_t (o := opA (RA Try.f10 [1, 1, 1, 1, 1, 1, 1, 1, 1, 1, 0, 1, 0, 1, 1, 0]) 28) (x := (Operand.tmp 143)) (y := (Operand.tmp 144)) hx hy hx hy (by kernel_rfl) (by kernel_rfl) (by kernel_rfl) ⟨rfl, rfl⟩ _) ?_
         refine yB0 [32, 33, 34, 35, 36, 37, 38, 39, 40, 41, 42, 43, 44, 45] [29, 30, 31] [(148, pV b29), (147, .bool false), (146, .bool false)] ?_
         have h128 := tk10 (sf9 (sf8 (sf9 (sf9 (sf9 (sf9 (sf9 (sf9 (sf9 (sf9 h125))))))))))
         refine yA ?_
         refine yCl 149 Try.call22 (tlen_w b29 nn (opnS pp.1 (ox, oy, oz) L (hx, hy))) h128 ?_
         rintro v K w129 (⟨rfl, rfl⟩) h130
         refine ⟨_, rfl, ?_⟩
         have h131 := ap1 h130
         refine yBb [39, 40, 41, 42, 43, 44, 45] [(155, pV b29), (154, .bool false), (153, .bool false), (152, .bool false), (151, iV (((pp.1.R.length : Nat) : Int) + 1)), (150, iV (((pp.1.R.length : Nat) : Int)))] [e0 33, e1 34 (iV (((pp.1.R.length : Nat) : Int) + 1)), e1 35 (.bool false), e0 36, e0 37, e0 38] [] [(iV (IntKind.wrap .i64 ((((pp.1.R.length : Nat) : Int)) + 1)), iV (((pp.1.R.length : Nat) : Int) + 1)), (.bool (((((opnS pp.1 (ox, oy, oz) L (hx, hy)).R.length : Nat) : Int)) != (((pp.1.R.length : Nat) : Int) + 1)), .bool false)] ⟨(ov_i64 (by omega) (by omega) (by omega)), (ov_nf (by omega)), trivial⟩ nC ?_
         refine fk_cut ([(155, pV b29), (154, .bool false), (10, pV r1), (12, pV r4), (13, pV r7), (15, pV b29), (17, .slice p38 (((liveL pp.1.E).length)) c39), (18, iV (((pp.1.R.length : Nat) : Int))), (19, .bool false), (20, .bool false), (24, pV b94), (25, pV r106), (27, iV (((pp.1.R.length : Nat) : Int) + 1)), (28, iV 0), (29, pV r121), (30, iV 0)] : Fr) (by kernel_rfl) (fun a => PO _ _ _ _ a _) (fun lr132 => ?_)
         have hll135 := live_len (opnS pp.1 (ox, oy, oz) L (hx, hy)).E
         refine yA ?_
         refine yCl 156 Try.call24 (live_w b29 nn (opnS pp.1 (ox, oy, oz) L (hx, hy))) h131 ?_
         rintro v K w136 (⟨p133, c134, rfl, rfl⟩) h137
         refine ⟨_, rfl, ?_⟩
         have h138 := ap2 h137
         refine yBb [] [(162, .bool false), (161, .bool false), (160, iV ((((liveL pp.1.E).length : Nat) : Int) + 1)), (159, iV ((((liveL pp.1.E).length : Nat) : Int))), (158, .slice p38 (((liveL pp.1.E).length)) c39), (157, iV ((((liveL (opnS pp.1 (ox, oy, oz) L (hx, hy)).E).length : Nat) : Int)))] [e0 40, e0 41, e0 42, e1 43 (iV ((((liveL pp.1.E).length : Nat) : Int) + 1)), e1 44 (.bool false), e0 45] [] [(iV (IntKind.wrap .i64 (((((liveL pp.1.E).length : Nat) : Int)) + 1)), iV ((((liveL pp.1.E).length : Nat) : Int) + 1)), (.bool (((((liveL (opnS pp.1 (ox, oy, oz) L (hx, hy)).E).length : Nat) : Int)) != ((((liveL pp.1.E).length : Nat) : Int) + 1)), .bool false)] ⟨(ov_i64 (by omega) (by omega) (by omega)), (ov_nf (by omega)), trivial⟩ nC (.mk ?_)
         refine yK [(12, pV r4), (13, pV r7), (17, .slice p38 (((liveL pp.1.E).length)) c39), (18, iV (((pp.1.R.length : Nat) : Int))), (19, .bool false), (20, .bool false), (24, pV b94), (162, .bool false)] fun lr139 => ?_
         refine yCf ?_
         refine ySk ?_
         have h140 := tk11 (sf10 (sf10 (sf10 (sf10 (sf10 (sf5 (sf5 (sf5 (sf5 (sf6 (sf8 h138)))))))))))
         have h141 := tk5 h140
         exact ⟨_, (mk_live [(12, pV r4), (13, pV r7), (17, .slice p38 (((liveL pp.1.E).length)) c39), (18, iV (((pp.1.R.length : Nat) : Int))), (19, .bool false), (20, .bool false), (24, pV b94)] ⟨rfl, rfl, rfl, rfl, rfl, rfl, rfl, trivial⟩), h141⟩
        ·
         rintro a142 w143 ⟨lr145, rfl, h144⟩
         refine ySq ?_
         refine yPl [0, 1, 2, 3, 4, 5, 6, 7, 8, 9] ?_
         refine yBb [3, 4, 5, 6, 7, 8, 9] [(201, .agg #[iV hx, uV hy]), (200, .agg #[iV dx, iV dy, uV dz]), (199, pV b94)] [e0 0, e2 1 [iV dx, iV dy, uV dz], e2 2 [iV hx, uV hy]] [(2, ⟨r4, 0, none⟩, iV hx), (2, ⟨r4, 1, none⟩, uV hy), (1, ⟨r7, 0, none⟩, iV dx), (1, ⟨r7, 1, none⟩, iV dy), (1, ⟨r7, 2, none⟩, uV dz)] [] trivial (kC (sat_cell h144 2 rfl rfl) (kC (sat_cell h144 2 rfl rfl) (kC (sat_cell h144 1 rfl rfl) (kC (sat_cell h144 1 rfl rfl) (kC (sat_cell h144 1 rfl rfl) nC))))) ?_
         by_cases c146 : (dupE pp.1 (dx, dy, dz) (hx, hy)) = 0
         ·
          have he_ : dupE pp.1 (dx, dy, dz) (hx, hy) = 0 := by omega
          obtain ⟨j147, gn148, hg149d, hg149b, hg149n, hg149⟩ := dup_go hI_.W (d := (dx, dy, dz)) he_
          have hg149n2 : dy ≠ (j147 : Int) := hg149n
          have hg149l := hg149.2.2.2.2.1; have hg149v := hg149.2.2.2.2.2
          refine yA ?_
          refine yCl 202 Try.call14 ((by have h_ := tdup_w b94 nn pp.1 dx dy dz hx hy (by omega) (by omega); rw [he_, hg149d] at h_; exact h_)) h144 ?_
          rintro v K w150 (⟨rfl, rfl⟩) h151
          refine ⟨_, rfl, ?_⟩
          have h152 := ap1 h151
          refine yB0 [7, 8, 9] [4, 5, 6] [(204, iV 0), (203, .agg #[iV dx, iV (j147 : Int), uV gn148]), (198, .tuple #[.agg #[iV dx, iV (j147 : Int), uV gn148], iV 0])] ?_
          refine yA ?_
          refine yNp 31 28 [iV 0, iV 0, uV 0] h152 fun r153 w154 h155 => ?_
          refine yA ?_
          refine yS [(0, iV dx), (1, iV (j147 : Int)), (2, uV gn148)] [iV dx, iV (j147 : Int), uV gn148] h155 fun w156 h157 => ?_
          refine yB0 [] [9] [(32, iV 0)] (.mk ?_)
          refine yK [(13, pV r7), (17, .slice p38 (((liveL pp.1.E).length)) c39), (18, iV (((pp.1.R.length : Nat) : Int))), (19, .bool false), (20, .bool false), (24, pV b94), (31, pV r153), (32, iV 0)] fun lr158 => ?_
          refine ySq ?_
          refine ySq ?_
          refine yPl [0, 1] ?_
          refine yB0 [] [0, 1] [(206, .bool false), (205, iV 0)] (.mk ?_)
          refine yK [(13, pV r7), (17, .slice p38 (((liveL pp.1.E).length)) c39), (18, iV (((pp.1.R.length : Nat) : Int))), (19, .bool false), (20, .bool false), (24, pV b94), (31, pV r153), (206, .bool false)] fun lr159 => ?_
          refine yCf ?_
          refine ySk ?_
          refine ySq ?_
          refine yPl [0, 1, 2, 3, 4, 5, 6, 7] ?_
          refine yBb [2, 3, 4, 5, 6, 7] [(229, .agg #[iV dx, iV dy, uV dz]), (228, pV b94)] [e0 0, e2 1 [iV dx, iV dy, uV dz]] [(1, ⟨r7, 0, none⟩, iV dx), (1, ⟨r7, 1, none⟩, iV dy), (1, ⟨r7, 2, none⟩, uV dz)] [] trivial (kC (sat_cell h157 2 rfl rfl) (kC (sat_cell h157 2 rfl rfl) (kC (sat_cell h157 2 rfl rfl) nC))) ?_
          have h160 := tk6 (sf5 (sf4 (sf5 (sf5 (sf5 (sf5 h157))))))
          refine yA ?_
          refine yCl 230 Try.call25 ((by have h_ := tnum_w b94 nn (dupS pp.1 (dx, dy, dz) (hx, hy)) dx dy dz (by omega) (by omega); rw [hg149.1, hg149.2.1] at h_; exact h_)) h160 ?_
          rintro v K w161 (⟨rfl, rfl⟩) h162
          refine ⟨_, rfl, ?_⟩
          have h163 := ap1 h162
          refine yB0 [] [3, 4, 5, 6, 7] [(34, iV 0), (33, iV ((fndX pp.1 (dx, dy, dz)).num)), (232, iV 0), (231, iV ((fndX pp.1 (dx, dy, dz)).num)), (227, .tuple #[iV ((fndX pp.1 (dx, dy, dz)).num), iV 0])] (.mk ?_)
          refine yK [(13, pV r7), (17, .slice p38 (((liveL pp.1.E).length)) c39), (18, iV (((pp.1.R.length : Nat) : Int))), (19, .bool false), (20, .bool false), (24, pV b94), (31, pV r153), (33, iV ((fndX pp.1 (dx, dy, dz)).num)), (34, iV 0)] fun lr164 => ?_
          refine ySq ?_
          refine yPl [0, 1, 2, 3, 4, 5, 6, 7] ?_
          refine yBb [2, 3, 4, 5, 6, 7] [(235, .agg #[iV dx, iV (j147 : Int), uV gn148]), (234, pV b94)] [e0 0, e2 1 [iV dx, iV (j147 : Int), uV gn148]] [(1, ⟨r153, 0, none⟩, iV dx), (1, ⟨r153, 1, none⟩, iV (j147 : Int)), (1, ⟨r153, 2, none⟩, uV gn148)] [] trivial (kC (sat_cell h163 1 rfl rfl) (kC (sat_cell h163 1 rfl rfl) (kC (sat_cell h163 1 rfl rfl) nC))) ?_
          refine yA ?_
          refine yCl 236 Try.call25 ((by have h_ := tnum_w b94 nn (dupS pp.1 (dx, dy, dz) (hx, hy)) dx (j147 : Int) gn148 (by omega) (by omega); rw [hg149.2.2.1, hg149.2.2.2.1] at h_; exact h_)) h163 ?_
          rintro v K w165 (⟨rfl, rfl⟩) h166
          refine ⟨_, rfl, ?_⟩
          have h167 := ap1 h166
          refine yB0 [] [3, 4, 5, 6, 7] [(36, iV 0), (35, iV ((fndX pp.1 (dx, dy, dz)).num)), (238, iV 0), (237, iV ((fndX pp.1 (dx, dy, dz)).num)), (233, .tuple #[iV ((fndX pp.1 (dx, dy, dz)).num), iV 0])] (.mk ?_)
          refine yK [(13, pV r7), (17, .slice p38 (((liveL pp.1.E).length)) c39), (18, iV (((pp.1.R.length : Nat) : Int))), (19, .bool false), (20, .bool false), (24, pV b94), (31, pV r153), (33, iV ((fndX pp.1 (dx, dy, dz)).num)), (34, iV 0), (35, iV ((fndX pp.1 (dx, dy, dz)).num)), (36, iV 0)] fun lr168 => ?_
          refine ySq ?_
          refine yPl [0, 1, 2, 3, 4, 5, 6, 7, 8, 9, 10, 11, 12, 13, 14, 15, 16, 17, 18, 19, 20, 21, 22, 23, 24, 25, 26, 27, 28, 29, 30, 31, 32, 33, 34, 35, 36, 37, 38, 39, 40, 41, 42] ?_
          refine yBb [22, 23, 24, 25, 26, 27, 28, 29, 30, 31, 32, 33, 34, 35, 36, 37, 38, 39, 40, 41, 42] [(260, .agg #[iV dx, iV dy, uV dz]), (259, .agg #[iV dx, iV (j147 : Int), uV gn148]), (258, .bool true), (257, .bool true), (256, .bool true), (255, iV ((fndX pp.1 (dx, dy, dz)).num)), (254, iV ((fndX pp.1 (dx, dy, dz)).num)), (253, .bool true), (252, .bool true), (251, .bool true), (250, iV 0), (249, .bool true), (248, .bool true), (247, .bool true), (246, iV 0), (245, .bool true), (244, .bool true), (243, .bool true), (242, .bool false), (241, .bool true), (240, .bool true), (239, .bool false)] [e0 0, e0 1, e0 2, e0 3, e0 4, e0 5, e0 6, e0 7, e0 8, e0 9, e0 10, e0 11, e0 12, e0 13, e0 14, e0 15, e0 16, e1 17 (.bool true), e0 18, e0 19, e2 20 [iV dx, iV (j147 : Int), uV gn148], e2 21 [iV dx, iV dy, uV dz]] [(21, ⟨r7, 0, none⟩, iV dx), (21, ⟨r7, 1, none⟩, iV dy), (21, ⟨r7, 2, none⟩, uV dz), (20, ⟨r153, 0, none⟩, iV dx), (20, ⟨r153, 1, none⟩, iV (j147 : Int)), (20, ⟨r153, 2, none⟩, uV gn148)] [(.bool (((fndX pp.1 (dx, dy, dz)).num) == ((fndX pp.1 (dx, dy, dz)).num)), .bool true)] ⟨(ov_et (by omega)), trivial⟩ (kC (sat_cell h167 2 rfl rfl) (kC (sat_cell h167 2 rfl rfl) (kC (sat_cell h167 2 rfl rfl) (kC (sat_cell h167 1 rfl rfl) (kC (sat_cell h167 1 rfl rfl) (kC (sat_cell h167 1 rfl rfl) nC)))))) ?_
          refine fk_cut ([(260, .agg #[iV dx, iV dy, uV dz]), (259, .agg #[iV dx, iV (j147 : Int), uV gn148]), (258, .bool true), (13, pV r7), (17, .slice p38 (((liveL pp.1.E).length)) c39), (18, iV (((pp.1.R.length : Nat) : Int))), (19, .bool false), (20, .bool false), (24, pV b94), (31, pV r153), (33, iV ((fndX pp.1 (dx, dy, dz)).num)), (34, iV 0), (35, iV ((fndX pp.1 (dx, dy, dz)).num)), (36, iV 0)] : Fr) (by kernel_rfl) (fun a => PO _ _ _ _ a _) (fun lr169 => ?_)
          refine plain_law (i := 22) 261 (.bool true) (by kernel_rfl) (q30e28_neq_f (o := opA (RA Try.f10 [1, 1, 1, 1, 1, 1, 1, 1, 1, 1, 1, 1, 1, 1, 1, 0]) 22) (x := (Operand.tmp 259)) (y := (Operand.tmp 260)) dx (j147 : Int) gn148 dx dy dz (by kernel_rfl) (by kernel_rfl) (by kernel_rfl) (by omega) _) ?_
          refine yB0 [26, 27, 28, 29, 30, 31, 32, 33, 34, 35, 36, 37, 38, 39, 40, 41, 42] [23, 24, 25] [(264, pV b94), (263, .bool true), (262, .bool true)] ?_
          refine yA ?_
          refine yCl 265 Try.call22 (tlen_w b94 nn (dupS pp.1 (dx, dy, dz) (hx, hy))) h167 ?_
          rintro v K w170 (⟨rfl, rfl⟩) h171
          refine ⟨_, rfl, ?_⟩
          have h172 := ap1 h171
          refine yBb [32, 33, 34, 35, 36, 37, 38, 39, 40, 41, 42] [(270, pV b94), (269, .bool true), (268, .bool true), (267, .bool true), (266, iV (((pp.1.R.length : Nat) : Int)))] [e0 27, e1 28 (.bool true), e0 29, e0 30, e0 31] [] [(.bool (((((dupS pp.1 (dx, dy, dz) (hx, hy)).R.length : Nat) : Int)) == (((pp.1.R.length : Nat) : Int))), .bool true)] ⟨(ov_et (by omega)), trivial⟩ nC ?_
          have hll175 := live_len (dupS pp.1 (dx, dy, dz) (hx, hy)).E
          refine yA ?_
          refine yCl 271 Try.call24 (live_w b94 nn (dupS pp.1 (dx, dy, dz) (hx, hy))) h172 ?_
          rintro v K w176 (⟨p173, c174, rfl, rfl⟩) h177
          refine ⟨_, rfl, ?_⟩
          have h178 := ap2 h177
          refine yBb [40, 41, 42] [(278, .bool true), (277, .bool true), (276, .bool true), (275, iV ((((liveL pp.1.E).length : Nat) : Int) + 1)), (274, iV ((((liveL pp.1.E).length : Nat) : Int))), (273, .slice p38 (((liveL pp.1.E).length)) c39), (272, iV ((((liveL (dupS pp.1 (dx, dy, dz) (hx, hy)).E).length : Nat) : Int)))] [e0 33, e0 34, e0 35, e1 36 (iV ((((liveL pp.1.E).length : Nat) : Int) + 1)), e1 37 (.bool true), e0 38, e0 39] [] [(iV (IntKind.wrap .i64 (((((liveL pp.1.E).length : Nat) : Int)) + 1)), iV ((((liveL pp.1.E).length : Nat) : Int) + 1)), (.bool (((((liveL (dupS pp.1 (dx, dy, dz) (hx, hy)).E).length : Nat) : Int)) == ((((liveL pp.1.E).length : Nat) : Int) + 1)), .bool true)] ⟨(ov_i64 (by omega) (by omega) (by omega)), (ov_et (by omega)), trivial⟩ nC ?_
          refine fk_cut ([(278, .bool true), (13, pV r7), (17, .slice p38 (((liveL pp.1.E).length)) c39), (18, iV (((pp.1.R.length : Nat) : Int))), (19, .bool false), (20, .bool false), (24, pV b94), (31, pV r153), (33, iV ((fndX pp.1 (dx, dy, dz)).num)), (34, iV 0), (35, iV ((fndX pp.1 (dx, dy, dz)).num)), (36, iV 0)] : Fr) (by kernel_rfl) (fun a => PO _ _ _ _ a _) (fun lr179 => ?_)
          refine yA ?_
          refine yCl 279 Try.call18 (works_ht) h178 ?_
          rintro v K w180 (⟨rfl, rfl⟩) h181
          refine ⟨_, rfl, ?_⟩
          have h182 := ap0 h181
          refine yB0 [] [41, 42] [(14, .bool true), (280, .bool true)] (.mk ?_)
          refine yK [(14, .bool true)] fun lr183 => ?_
          refine yRt ?_
          repeat (first | simp only [Exit.inBlock] | simp only [Exit.then])
          have h184 := tk7 (sf6 (sf5 (sf5 (sf5 (sf5 (sf5 (sf6 h182)))))))
          have h185 := tk2 (sf1 (sf6 h184))
          refine hi_out [] (.bool true) [] (by kernel_rfl) (by intro q hq; cases hq) ?_
          exact ⟨.bool true, [Old wo], rfl, ⟨rfl, rfl⟩, h185⟩
         ·
          refine yA ?_
          refine yCl 202 Try.call14 ((by have h_ := tdup_w b94 nn pp.1 dx dy dz hx hy (by omega) (by omega); rw [(dup_bad rfl (show dupE pp.1 (dx, dy, dz) (hx, hy) ≠ 0 from by omega)).1, (dup_bad rfl (show dupE pp.1 (dx, dy, dz) (hx, hy) ≠ 0 from by omega)).2] at h_; exact h_)) h144 ?_
          rintro v K w186 (⟨rfl, rfl⟩) h187
          refine ⟨_, rfl, ?_⟩
          have h188 := ap1 h187
          refine yB0 [7, 8, 9] [4, 5, 6] [(204, iV ((dupE pp.1 (dx, dy, dz) (hx, hy)))), (203, .agg #[iV 0, iV 0, uV 0]), (198, .tuple #[.agg #[iV 0, iV 0, uV 0], iV ((dupE pp.1 (dx, dy, dz) (hx, hy)))])] ?_
          refine yA ?_
          refine yNp 31 28 [iV 0, iV 0, uV 0] h188 fun r189 w190 h191 => ?_
          refine yA ?_
          refine yS [(0, iV 0), (1, iV 0), (2, uV 0)] [iV 0, iV 0, uV 0] h191 fun w192 h193 => ?_
          refine yB0 [] [9] [(32, iV ((dupE pp.1 (dx, dy, dz) (hx, hy))))] (.mk ?_)
          refine yK [(13, pV r7), (17, .slice p38 (((liveL pp.1.E).length)) c39), (18, iV (((pp.1.R.length : Nat) : Int))), (19, .bool false), (20, .bool false), (24, pV b94), (31, pV r189), (32, iV ((dupE pp.1 (dx, dy, dz) (hx, hy))))] fun lr194 => ?_
          refine ySq ?_
          refine ySq ?_
          refine yPl [0, 1] ?_
          refine yBb [] [(206, .bool true), (205, iV ((dupE pp.1 (dx, dy, dz) (hx, hy))))] [e0 0, e1 1 (.bool true)] [] [(.bool (((dupE pp.1 (dx, dy, dz) (hx, hy))) != 0), .bool true)] ⟨(ov_nt (by omega)), trivial⟩ nC (.mk ?_)
          refine yK [(13, pV r7), (17, .slice p38 (((liveL pp.1.E).length)) c39), (18, iV (((pp.1.R.length : Nat) : Int))), (19, .bool false), (20, .bool false), (24, pV b94), (31, pV r189), (206, .bool true)] fun lr195 => ?_
          refine yCt ?_
          refine ySq ?_
          refine yPl [0, 1, 2, 3, 4, 5, 6, 7, 8, 9, 10, 11, 12, 13, 14, 15, 16, 17, 18, 19, 20] ?_
          refine yBb [2, 3, 4, 5, 6, 7, 8, 9, 10, 11, 12, 13, 14, 15, 16, 17, 18, 19, 20] [(208, .agg #[iV 0, iV 0, uV 0]), (207, .agg #[iV 0, iV 0, uV 0])] [e2 0 [iV 0, iV 0, uV 0], e0 1] [(0, ⟨r189, 0, none⟩, iV 0), (0, ⟨r189, 1, none⟩, iV 0), (0, ⟨r189, 2, none⟩, uV 0)] [] trivial (kC (sat_cell h193 0 rfl rfl) (kC (sat_cell h193 0 rfl rfl) (kC (sat_cell h193 0 rfl rfl) nC))) ?_
          refine plain_law (i := 2) 209 (.bool true) (by kernel_rfl) (q30e28_eql_t (o := opA (RA Try.f10 [1, 1, 1, 1, 1, 1, 1, 1, 1, 1, 1, 1, 0, 1, 0, 0]) 2) (x := (Operand.tmp 207)) (y := (Operand.tmp 208)) 0 0 0 0 0 0 (by kernel_rfl) (by kernel_rfl) (by kernel_rfl) ⟨rfl, rfl, rfl⟩ _) ?_
          refine yB0 [5, 6, 7, 8, 9, 10, 11, 12, 13, 14, 15, 16, 17, 18, 19, 20] [3, 4] [(211, pV b94), (210, .bool true)] ?_
          have hll198 := live_len pp.1.E
          have h199 := tk6 (sf5 (sf4 (sf5 (sf5 (sf5 (sf5 h193))))))
          refine yA ?_
          refine yCl 212 Try.call24 (live_w b94 nn pp.1) h199 ?_
          rintro v K w200 (⟨p196, c197, rfl, rfl⟩) h201
          refine ⟨_, rfl, ?_⟩
          have h202 := ap2 h201
          refine yBb [13, 14, 15, 16, 17, 18, 19, 20] [(219, pV b94), (218, .bool true), (217, .bool true), (216, .bool true), (215, iV ((((liveL pp.1.E).length : Nat) : Int))), (214, .slice p38 (((liveL pp.1.E).length)) c39), (213, iV ((((liveL pp.1.E).length : Nat) : Int)))] [e0 6, e0 7, e0 8, e1 9 (.bool true), e0 10, e0 11, e0 12] [] [(.bool (((((liveL pp.1.E).length : Nat) : Int)) == ((((liveL pp.1.E).length : Nat) : Int))), .bool true)] ⟨(ov_et (by omega)), trivial⟩ nC ?_
          refine yA ?_
          refine yCl 220 Try.call22 (tlen_w b94 nn pp.1) h202 ?_
          rintro v K w203 (⟨rfl, rfl⟩) h204
          refine ⟨_, rfl, ?_⟩
          have h205 := ap1 h204
          refine yBb [18, 19, 20] [(224, .bool true), (223, .bool true), (222, .bool true), (221, iV (((pp.1.R.length : Nat) : Int)))] [e0 14, e1 15 (.bool true), e0 16, e0 17] [] [(.bool ((((pp.1.R.length : Nat) : Int)) == (((pp.1.R.length : Nat) : Int))), .bool true)] ⟨(ov_et (by omega)), trivial⟩ nC ?_
          refine fk_cut ([(224, .bool true), (13, pV r7), (17, .slice p38 (((liveL pp.1.E).length)) c39), (18, iV (((pp.1.R.length : Nat) : Int))), (19, .bool false), (20, .bool false), (24, pV b94), (31, pV r189), (206, .bool true)] : Fr) (by kernel_rfl) (fun a => PO _ _ _ _ a _) (fun lr206 => ?_)
          refine yA ?_
          refine yCl 225 Try.call18 (works_ht) h205 ?_
          rintro v K w207 (⟨rfl, rfl⟩) h208
          refine ⟨_, rfl, ?_⟩
          have h209 := ap0 h208
          refine yB0 [] [19, 20] [(14, .bool true), (226, .bool true)] (.mk ?_)
          refine yK [(14, .bool true)] fun lr210 => ?_
          refine yRt ?_
          repeat (first | simp only [Exit.inBlock] | simp only [Exit.then])
          have h211 := tk7 (sf6 (sf5 (sf5 (sf5 (sf5 (sf5 (sf6 h209)))))))
          have h212 := tk2 (sf1 (sf6 h211))
          refine hi_out [] (.bool true) [] (by kernel_rfl) (by intro q hq; cases hq) ?_
          exact ⟨.bool true, [Old wo], rfl, ⟨rfl, rfl⟩, h212⟩
       ·
        refine yA ?_
        refine yCl 100 Try.call12 ((by have he_ : opnE pp.1 (ox, oy, oz) L (hx, hy) = (opnE pp.1 (ox, oy, oz) L (hx, hy)) := rfl; have h_ := topen_w b29 nn pp.1 ox oy oz hx hy L (by omega) (by omega) (by omega); rw [(opn_bad he_ (by first | decide | omega)).1, (opn_bad he_ (by first | decide | omega)).2, he_] at h_; exact h_)) h97 ?_
        rintro v K w213 (⟨rfl, rfl⟩) h214
        refine ⟨_, rfl, ?_⟩
        have h215 := ap1 h214
        refine yB0 [8, 9, 10] [5, 6, 7] [(102, iV ((opnE pp.1 (ox, oy, oz) L (hx, hy)))), (101, .agg #[iV 0, iV 0, uV 0]), (95, .tuple #[.agg #[iV 0, iV 0, uV 0], iV ((opnE pp.1 (ox, oy, oz) L (hx, hy)))])] ?_
        refine yA ?_
        refine yNp 25 28 [iV 0, iV 0, uV 0] h215 fun r216 w217 h218 => ?_
        refine yA ?_
        refine yS [(0, iV 0), (1, iV 0), (2, uV 0)] [iV 0, iV 0, uV 0] h218 fun w219 h220 => ?_
        refine yB0 [] [10] [(26, iV ((opnE pp.1 (ox, oy, oz) L (hx, hy))))] (.mk ?_)
        refine yK [(10, pV r1), (12, pV r4), (13, pV r7), (15, pV b29), (17, .slice p38 (((liveL pp.1.E).length)) c39), (18, iV (((pp.1.R.length : Nat) : Int))), (19, .bool false), (20, .bool false), (24, pV b94), (25, pV r216), (26, iV ((opnE pp.1 (ox, oy, oz) L (hx, hy))))] fun lr221 => ?_
        refine gi_join (x := CA Try.f10 [1, 1, 1, 1, 1, 1, 1, 1, 1, 1, 0]) (y := CA Try.f10 [1, 1, 1, 1, 1, 1, 1, 1, 1, 1, 1]) (fun a w => ∃ lr : Fr, a = mk 281 (([(12, pV r4), (13, pV r7), (17, .slice p38 (((liveL pp.1.E).length)) c39), (18, iV (((pp.1.R.length : Nat) : Int))), (19, .bool false), (20, .bool false), (24, pV b94)] : Fr) ++ lr) ∧ sat g w [TW b94 nn pp.1, Cl r7 [iV dx, iV dy, uV dz] 28, Cl r4 [iV hx, uV hy] 34, Old wo, R]) (by kernel_rfl) ?_ ?_
        ·
         refine ySq ?_
         refine yPl [0, 1] ?_
         refine yBb [] [(104, .bool false), (103, iV ((opnE pp.1 (ox, oy, oz) L (hx, hy))))] [e0 0, e1 1 (.bool false)] [] [(.bool (((opnE pp.1 (ox, oy, oz) L (hx, hy))) == 0), .bool false)] ⟨(ov_ef (by omega)), trivial⟩ nC (.mk ?_)
         refine yK [(10, pV r1), (12, pV r4), (13, pV r7), (15, pV b29), (17, .slice p38 (((liveL pp.1.E).length)) c39), (18, iV (((pp.1.R.length : Nat) : Int))), (19, .bool false), (20, .bool false), (24, pV b94), (25, pV r216), (26, iV ((opnE pp.1 (ox, oy, oz) L (hx, hy)))), (104, .bool false)] fun lr222 => ?_
         refine yCf ?_
         refine ySq ?_
         refine yPl [0, 1, 2, 3, 4, 5, 6, 7, 8, 9, 10, 11, 12, 13, 14, 15, 16, 17, 18, 19, 20, 21, 22, 23, 24, 25, 26, 27, 28, 29, 30, 31, 32, 33, 34] ?_
         refine yBb [2, 3, 4, 5, 6, 7, 8, 9, 10, 11, 12, 13, 14, 15, 16, 17, 18, 19, 20, 21, 22, 23, 24, 25, 26, 27, 28, 29, 30, 31, 32, 33, 34] [(164, .agg #[iV 0, iV 0, uV 0]), (163, .agg #[iV 0, iV 0, uV 0])] [e2 0 [iV 0, iV 0, uV 0], e0 1] [(0, ⟨r216, 0, none⟩, iV 0), (0, ⟨r216, 1, none⟩, iV 0), (0, ⟨r216, 2, none⟩, uV 0)] [] trivial (kC (sat_cell h220 0 rfl rfl) (kC (sat_cell h220 0 rfl rfl) (kC (sat_cell h220 0 rfl rfl) nC))) ?_
         refine plain_law (i := 2) 165 (.bool false) (by kernel_rfl) (q30e28_neq_t (o := opA (RA Try.f10 [1, 1, 1, 1, 1, 1, 1, 1, 1, 1, 0, 1, 1, 0]) 2) (x := (Operand.tmp 163)) (y := (Operand.tmp 164)) 0 0 0 0 0 0 (by kernel_rfl) (by kernel_rfl) (by kernel_rfl) ⟨rfl, rfl, rfl⟩ _) ?_
         refine yB0 [5, 6, 7, 8, 9, 10, 11, 12, 13, 14, 15, 16, 17, 18, 19, 20, 21, 22, 23, 24, 25, 26, 27, 28, 29, 30, 31, 32, 33, 34] [3, 4] [(167, pV b29), (166, .bool false)] ?_
         have h223 := tk9 (sf8 (sf7 (sf8 (sf8 (sf8 (sf8 (sf8 (sf8 (sf8 h220)))))))))
         refine yA ?_
         refine yCl 168 Try.call22 (tlen_w b29 nn pp.1) h223 ?_
         rintro v K w224 (⟨rfl, rfl⟩) h225
         refine ⟨_, rfl, ?_⟩
         have h226 := ap1 h225
         refine yBb [11, 12, 13, 14, 15, 16, 17, 18, 19, 20, 21, 22, 23, 24, 25, 26, 27, 28, 29, 30, 31, 32, 33, 34] [(173, pV b29), (172, .bool false), (171, .bool false), (170, .bool false), (169, iV (((pp.1.R.length : Nat) : Int)))] [e0 6, e1 7 (.bool false), e0 8, e0 9, e0 10] [] [(.bool ((((pp.1.R.length : Nat) : Int)) != (((pp.1.R.length : Nat) : Int))), .bool false)] ⟨(ov_nf (by omega)), trivial⟩ nC ?_
         have hll229 := live_len pp.1.E
         refine yA ?_
         refine yCl 174 Try.call24 (live_w b29 nn pp.1) h226 ?_
         rintro v K w230 (⟨p227, c228, rfl, rfl⟩) h231
         refine ⟨_, rfl, ?_⟩
         have h232 := ap2 h231
         refine yBb [] [(197, .bool false), (196, .bool false), (195, undef), (194, undef), (193, .bool false), (192, .bool false), (191, undef), (190, undef), (189, .bool false), (188, .bool false), (187, undef), (186, undef), (185, .bool false), (184, .bool false), (183, .bool false), (182, .bool false), (181, .bool false), (180, .bool false), (179, .bool false), (178, .bool false), (177, iV ((((liveL pp.1.E).length : Nat) : Int))), (176, .slice p38 (((liveL pp.1.E).length)) c39), (175, iV ((((liveL pp.1.E).length : Nat) : Int)))] [e0 12, e0 13, e0 14, e1 15 (.bool false), e0 16, e0 17, e0 18, e0 19, e0 20, e0 21, e0 22, e0 23, e0 24, e0 25, e0 26, e0 27, e0 28, e0 29, e0 30, e0 31, e0 32, e0 33, e0 34] [] [(.bool (((((liveL pp.1.E).length : Nat) : Int)) != ((((liveL pp.1.E).length : Nat) : Int))), .bool false)] ⟨(ov_nf (by omega)), trivial⟩ nC (.mk ?_)
         refine yK [(12, pV r4), (13, pV r7), (17, .slice p38 (((liveL pp.1.E).length)) c39), (18, iV (((pp.1.R.length : Nat) : Int))), (19, .bool false), (20, .bool false), (24, pV b94), (197, .bool false)] fun lr233 => ?_
         refine yCf ?_
         refine ySk ?_
         have h234 := tk10 (sf9 (sf9 (sf9 (sf9 (sf9 (sf4 (sf4 (sf4 (sf5 (sf7 h232))))))))))
         have h235 := tk5 h234
         exact ⟨_, (mk_live [(12, pV r4), (13, pV r7), (17, .slice p38 (((liveL pp.1.E).length)) c39), (18, iV (((pp.1.R.length : Nat) : Int))), (19, .bool false), (20, .bool false), (24, pV b94)] ⟨rfl, rfl, rfl, rfl, rfl, rfl, rfl, trivial⟩), h235⟩
        ·
         rintro a236 w237 ⟨lr239, rfl, h238⟩
         refine ySq ?_
         refine yPl [0, 1, 2, 3, 4, 5, 6, 7, 8, 9] ?_
         refine yBb [3, 4, 5, 6, 7, 8, 9] [(201, .agg #[iV hx, uV hy]), (200, .agg #[iV dx, iV dy, uV dz]), (199, pV b94)] [e0 0, e2 1 [iV dx, iV dy, uV dz], e2 2 [iV hx, uV hy]] [(2, ⟨r4, 0, none⟩, iV hx), (2, ⟨r4, 1, none⟩, uV hy), (1, ⟨r7, 0, none⟩, iV dx), (1, ⟨r7, 1, none⟩, iV dy), (1, ⟨r7, 2, none⟩, uV dz)] [] trivial (kC (sat_cell h238 2 rfl rfl) (kC (sat_cell h238 2 rfl rfl) (kC (sat_cell h238 1 rfl rfl) (kC (sat_cell h238 1 rfl rfl) (kC (sat_cell h238 1 rfl rfl) nC))))) ?_
         by_cases c240 : (dupE pp.1 (dx, dy, dz) (hx, hy)) = 0
         ·
          have he_ : dupE pp.1 (dx, dy, dz) (hx, hy) = 0 := by omega
          obtain ⟨j241, gn242, hg243d, hg243b, hg243n, hg243⟩ := dup_go hI_.W (d := (dx, dy, dz)) he_
          have hg243n2 : dy ≠ (j241 : Int) := hg243n
          have hg243l := hg243.2.2.2.2.1; have hg243v := hg243.2.2.2.2.2
          refine yA ?_
          refine yCl 202 Try.call14 ((by have h_ := tdup_w b94 nn pp.1 dx dy dz hx hy (by omega) (by omega); rw [he_, hg243d] at h_; exact h_)) h238 ?_
          rintro v K w244 (⟨rfl, rfl⟩) h245
          refine ⟨_, rfl, ?_⟩
          have h246 := ap1 h245
          refine yB0 [7, 8, 9] [4, 5, 6] [(204, iV 0), (203, .agg #[iV dx, iV (j241 : Int), uV gn242]), (198, .tuple #[.agg #[iV dx, iV (j241 : Int), uV gn242], iV 0])] ?_
          refine yA ?_
          refine yNp 31 28 [iV 0, iV 0, uV 0] h246 fun r247 w248 h249 => ?_
          refine yA ?_
          refine yS [(0, iV dx), (1, iV (j241 : Int)), (2, uV gn242)] [iV dx, iV (j241 : Int), uV gn242] h249 fun w250 h251 => ?_
          refine yB0 [] [9] [(32, iV 0)] (.mk ?_)
          refine yK [(13, pV r7), (17, .slice p38 (((liveL pp.1.E).length)) c39), (18, iV (((pp.1.R.length : Nat) : Int))), (19, .bool false), (20, .bool false), (24, pV b94), (31, pV r247), (32, iV 0)] fun lr252 => ?_
          refine ySq ?_
          refine ySq ?_
          refine yPl [0, 1] ?_
          refine yB0 [] [0, 1] [(206, .bool false), (205, iV 0)] (.mk ?_)
          refine yK [(13, pV r7), (17, .slice p38 (((liveL pp.1.E).length)) c39), (18, iV (((pp.1.R.length : Nat) : Int))), (19, .bool false), (20, .bool false), (24, pV b94), (31, pV r247), (206, .bool false)] fun lr253 => ?_
          refine yCf ?_
          refine ySk ?_
          refine ySq ?_
          refine yPl [0, 1, 2, 3, 4, 5, 6, 7] ?_
          refine yBb [2, 3, 4, 5, 6, 7] [(229, .agg #[iV dx, iV dy, uV dz]), (228, pV b94)] [e0 0, e2 1 [iV dx, iV dy, uV dz]] [(1, ⟨r7, 0, none⟩, iV dx), (1, ⟨r7, 1, none⟩, iV dy), (1, ⟨r7, 2, none⟩, uV dz)] [] trivial (kC (sat_cell h251 2 rfl rfl) (kC (sat_cell h251 2 rfl rfl) (kC (sat_cell h251 2 rfl rfl) nC))) ?_
          have h254 := tk6 (sf5 (sf4 (sf5 (sf5 (sf5 (sf5 h251))))))
          refine yA ?_
          refine yCl 230 Try.call25 ((by have h_ := tnum_w b94 nn (dupS pp.1 (dx, dy, dz) (hx, hy)) dx dy dz (by omega) (by omega); rw [hg243.1, hg243.2.1] at h_; exact h_)) h254 ?_
          rintro v K w255 (⟨rfl, rfl⟩) h256
          refine ⟨_, rfl, ?_⟩
          have h257 := ap1 h256
          refine yB0 [] [3, 4, 5, 6, 7] [(34, iV 0), (33, iV ((fndX pp.1 (dx, dy, dz)).num)), (232, iV 0), (231, iV ((fndX pp.1 (dx, dy, dz)).num)), (227, .tuple #[iV ((fndX pp.1 (dx, dy, dz)).num), iV 0])] (.mk ?_)
          refine yK [(13, pV r7), (17, .slice p38 (((liveL pp.1.E).length)) c39), (18, iV (((pp.1.R.length : Nat) : Int))), (19, .bool false), (20, .bool false), (24, pV b94), (31, pV r247), (33, iV ((fndX pp.1 (dx, dy, dz)).num)), (34, iV 0)] fun lr258 => ?_
          refine ySq ?_
          refine yPl [0, 1, 2, 3, 4, 5, 6, 7] ?_
          refine yBb [2, 3, 4, 5, 6, 7] [(235, .agg #[iV dx, iV (j241 : Int), uV gn242]), (234, pV b94)] [e0 0, e2 1 [iV dx, iV (j241 : Int), uV gn242]] [(1, ⟨r247, 0, none⟩, iV dx), (1, ⟨r247, 1, none⟩, iV (j241 : Int)), (1, ⟨r247, 2, none⟩, uV gn242)] [] trivial (kC (sat_cell h257 1 rfl rfl) (kC (sat_cell h257 1 rfl rfl) (kC (sat_cell h257 1 rfl rfl) nC))) ?_
          refine yA ?_
          refine yCl 236 Try.call25 ((by have h_ := tnum_w b94 nn (dupS pp.1 (dx, dy, dz) (hx, hy)) dx (j241 : Int) gn242 (by omega) (by omega); rw [hg243.2.2.1, hg243.2.2.2.1] at h_; exact h_)) h257 ?_
          rintro v K w259 (⟨rfl, rfl⟩) h260
          refine ⟨_, rfl, ?_⟩
          have h261 := ap1 h260
          refine yB0 [] [3, 4, 5, 6, 7] [(36, iV 0), (35, iV ((fndX pp.1 (dx, dy, dz)).num)), (238, iV 0), (237, iV ((fndX pp.1 (dx, dy, dz)).num)), (233, .tuple #[iV ((fndX pp.1 (dx, dy, dz)).num), iV 0])] (.mk ?_)
          refine yK [(13, pV r7), (17, .slice p38 (((liveL pp.1.E).length)) c39), (18, iV (((pp.1.R.length : Nat) : Int))), (19, .bool false), (20, .bool false), (24, pV b94), (31, pV r247), (33, iV ((fndX pp.1 (dx, dy, dz)).num)), (34, iV 0), (35, iV ((fndX pp.1 (dx, dy, dz)).num)), (36, iV 0)] fun lr262 => ?_
          refine ySq ?_
          refine yPl [0, 1, 2, 3, 4, 5, 6, 7, 8, 9, 10, 11, 12, 13, 14, 15, 16, 17, 18, 19, 20, 21, 22, 23, 24, 25, 26, 27, 28, 29, 30, 31, 32, 33, 34, 35, 36, 37, 38, 39, 40, 41, 42] ?_
          refine yBb [22, 23, 24, 25, 26, 27, 28, 29, 30, 31, 32, 33, 34, 35, 36, 37, 38, 39, 40, 41, 42] [(260, .agg #[iV dx, iV dy, uV dz]), (259, .agg #[iV dx, iV (j241 : Int), uV gn242]), (258, .bool true), (257, .bool true), (256, .bool true), (255, iV ((fndX pp.1 (dx, dy, dz)).num)), (254, iV ((fndX pp.1 (dx, dy, dz)).num)), (253, .bool true), (252, .bool true), (251, .bool true), (250, iV 0), (249, .bool true), (248, .bool true), (247, .bool true), (246, iV 0), (245, .bool true), (244, .bool true), (243, .bool true), (242, .bool false), (241, .bool true), (240, .bool true), (239, .bool false)] [e0 0, e0 1, e0 2, e0 3, e0 4, e0 5, e0 6, e0 7, e0 8, e0 9, e0 10, e0 11, e0 12, e0 13, e0 14, e0 15, e0 16, e1 17 (.bool true), e0 18, e0 19, e2 20 [iV dx, iV (j241 : Int), uV gn242], e2 21 [iV dx, iV dy, uV dz]] [(21, ⟨r7, 0, none⟩, iV dx), (21, ⟨r7, 1, none⟩, iV dy), (21, ⟨r7, 2, none⟩, uV dz), (20, ⟨r247, 0, none⟩, iV dx), (20, ⟨r247, 1, none⟩, iV (j241 : Int)), (20, ⟨r247, 2, none⟩, uV gn242)] [(.bool (((fndX pp.1 (dx, dy, dz)).num) == ((fndX pp.1 (dx, dy, dz)).num)), .bool true)] ⟨(ov_et (by omega)), trivial⟩ (kC (sat_cell h261 2 rfl rfl) (kC (sat_cell h261 2 rfl rfl) (kC (sat_cell h261 2 rfl rfl) (kC (sat_cell h261 1 rfl rfl) (kC (sat_cell h261 1 rfl rfl) (kC (sat_cell h261 1 rfl rfl) nC)))))) ?_
          refine fk_cut ([(260, .agg #[iV dx, iV dy, uV dz]), (259, .agg #[iV dx, iV (j241 : Int), uV gn242]), (258, .bool true), (13, pV r7), (17, .slice p38 (((liveL pp.1.E).length)) c39), (18, iV (((pp.1.R.length : Nat) : Int))), (19, .bool false), (20, .bool false), (24, pV b94), (31, pV r247), (33, iV ((fndX pp.1 (dx, dy, dz)).num)), (34, iV 0), (35, iV ((fndX pp.1 (dx, dy, dz)).num)), (36, iV 0)] : Fr) (by kernel_rfl) (fun a => PO _ _ _ _ a _) (fun lr263 => ?_)
          refine plain_law (i := 22) 261 (.bool true) (by kernel_rfl) (q30e28_neq_f (o := opA (RA Try.f10 [1, 1, 1, 1, 1, 1, 1, 1, 1, 1, 1, 1, 1, 1, 1, 0]) 22) (x := (Operand.tmp 259)) (y := (Operand.tmp 260)) dx (j241 : Int) gn242 dx dy dz (by kernel_rfl) (by kernel_rfl) (by kernel_rfl) (by omega) _) ?_
          refine yB0 [26, 27, 28, 29, 30, 31, 32, 33, 34, 35, 36, 37, 38, 39, 40, 41, 42] [23, 24, 25] [(264, pV b94), (263, .bool true), (262, .bool true)] ?_
          refine yA ?_
          refine yCl 265 Try.call22 (tlen_w b94 nn (dupS pp.1 (dx, dy, dz) (hx, hy))) h261 ?_
          rintro v K w264 (⟨rfl, rfl⟩) h265
          refine ⟨_, rfl, ?_⟩
          have h266 := ap1 h265
          refine yBb [32, 33, 34, 35, 36, 37, 38, 39, 40, 41, 42] [(270, pV b94), (269, .bool true), (268, .bool true), (267, .bool true), (266, iV (((pp.1.R.length : Nat) : Int)))] [e0 27, e1 28 (.bool true), e0 29, e0 30, e0 31] [] [(.bool (((((dupS pp.1 (dx, dy, dz) (hx, hy)).R.length : Nat) : Int)) == (((pp.1.R.length : Nat) : Int))), .bool true)] ⟨(ov_et (by omega)), trivial⟩ nC ?_
          have hll269 := live_len (dupS pp.1 (dx, dy, dz) (hx, hy)).E
          refine yA ?_
          refine yCl 271 Try.call24 (live_w b94 nn (dupS pp.1 (dx, dy, dz) (hx, hy))) h266 ?_
          rintro v K w270 (⟨p267, c268, rfl, rfl⟩) h271
          refine ⟨_, rfl, ?_⟩
          have h272 := ap2 h271
          refine yBb [40, 41, 42] [(278, .bool true), (277, .bool true), (276, .bool true), (275, iV ((((liveL pp.1.E).length : Nat) : Int) + 1)), (274, iV ((((liveL pp.1.E).length : Nat) : Int))), (273, .slice p38 (((liveL pp.1.E).length)) c39), (272, iV ((((liveL (dupS pp.1 (dx, dy, dz) (hx, hy)).E).length : Nat) : Int)))] [e0 33, e0 34, e0 35, e1 36 (iV ((((liveL pp.1.E).length : Nat) : Int) + 1)), e1 37 (.bool true), e0 38, e0 39] [] [(iV (IntKind.wrap .i64 (((((liveL pp.1.E).length : Nat) : Int)) + 1)), iV ((((liveL pp.1.E).length : Nat) : Int) + 1)), (.bool (((((liveL (dupS pp.1 (dx, dy, dz) (hx, hy)).E).length : Nat) : Int)) == ((((liveL pp.1.E).length : Nat) : Int) + 1)), .bool true)] ⟨(ov_i64 (by omega) (by omega) (by omega)), (ov_et (by omega)), trivial⟩ nC ?_
          refine fk_cut ([(278, .bool true), (13, pV r7), (17, .slice p38 (((liveL pp.1.E).length)) c39), (18, iV (((pp.1.R.length : Nat) : Int))), (19, .bool false), (20, .bool false), (24, pV b94), (31, pV r247), (33, iV ((fndX pp.1 (dx, dy, dz)).num)), (34, iV 0), (35, iV ((fndX pp.1 (dx, dy, dz)).num)), (36, iV 0)] : Fr) (by kernel_rfl) (fun a => PO _ _ _ _ a _) (fun lr273 => ?_)
          refine yA ?_
          refine yCl 279 Try.call18 (works_ht) h272 ?_
          rintro v K w274 (⟨rfl, rfl⟩) h275
          refine ⟨_, rfl, ?_⟩
          have h276 := ap0 h275
          refine yB0 [] [41, 42] [(14, .bool true), (280, .bool true)] (.mk ?_)
          refine yK [(14, .bool true)] fun lr277 => ?_
          refine yRt ?_
          repeat (first | simp only [Exit.inBlock] | simp only [Exit.then])
          have h278 := tk7 (sf6 (sf5 (sf5 (sf5 (sf5 (sf5 (sf6 h276)))))))
          have h279 := tk2 (sf1 (sf6 h278))
          refine hi_out [] (.bool true) [] (by kernel_rfl) (by intro q hq; cases hq) ?_
          exact ⟨.bool true, [Old wo], rfl, ⟨rfl, rfl⟩, h279⟩
         ·
          refine yA ?_
          refine yCl 202 Try.call14 ((by have h_ := tdup_w b94 nn pp.1 dx dy dz hx hy (by omega) (by omega); rw [(dup_bad rfl (show dupE pp.1 (dx, dy, dz) (hx, hy) ≠ 0 from by omega)).1, (dup_bad rfl (show dupE pp.1 (dx, dy, dz) (hx, hy) ≠ 0 from by omega)).2] at h_; exact h_)) h238 ?_
          rintro v K w280 (⟨rfl, rfl⟩) h281
          refine ⟨_, rfl, ?_⟩
          have h282 := ap1 h281
          refine yB0 [7, 8, 9] [4, 5, 6] [(204, iV ((dupE pp.1 (dx, dy, dz) (hx, hy)))), (203, .agg #[iV 0, iV 0, uV 0]), (198, .tuple #[.agg #[iV 0, iV 0, uV 0], iV ((dupE pp.1 (dx, dy, dz) (hx, hy)))])] ?_
          refine yA ?_
          refine yNp 31 28 [iV 0, iV 0, uV 0] h282 fun r283 w284 h285 => ?_
          refine yA ?_
          refine yS [(0, iV 0), (1, iV 0), (2, uV 0)] [iV 0, iV 0, uV 0] h285 fun w286 h287 => ?_
          refine yB0 [] [9] [(32, iV ((dupE pp.1 (dx, dy, dz) (hx, hy))))] (.mk ?_)
          refine yK [(13, pV r7), (17, .slice p38 (((liveL pp.1.E).length)) c39), (18, iV (((pp.1.R.length : Nat) : Int))), (19, .bool false), (20, .bool false), (24, pV b94), (31, pV r283), (32, iV ((dupE pp.1 (dx, dy, dz) (hx, hy))))] fun lr288 => ?_
          refine ySq ?_
          refine ySq ?_
          refine yPl [0, 1] ?_
          refine yBb [] [(206, .bool true), (205, iV ((dupE pp.1 (dx, dy, dz) (hx, hy))))] [e0 0, e1 1 (.bool true)] [] [(.bool (((dupE pp.1 (dx, dy, dz) (hx, hy))) != 0), .bool true)] ⟨(ov_nt (by omega)), trivial⟩ nC (.mk ?_)
          refine yK [(13, pV r7), (17, .slice p38 (((liveL pp.1.E).length)) c39), (18, iV (((pp.1.R.length : Nat) : Int))), (19, .bool false), (20, .bool false), (24, pV b94), (31, pV r283), (206, .bool true)] fun lr289 => ?_
          refine yCt ?_
          refine ySq ?_
          refine yPl [0, 1, 2, 3, 4, 5, 6, 7, 8, 9, 10, 11, 12, 13, 14, 15, 16, 17, 18, 19, 20] ?_
          refine yBb [2, 3, 4, 5, 6, 7, 8, 9, 10, 11, 12, 13, 14, 15, 16, 17, 18, 19, 20] [(208, .agg #[iV 0, iV 0, uV 0]), (207, .agg #[iV 0, iV 0, uV 0])] [e2 0 [iV 0, iV 0, uV 0], e0 1] [(0, ⟨r283, 0, none⟩, iV 0), (0, ⟨r283, 1, none⟩, iV 0), (0, ⟨r283, 2, none⟩, uV 0)] [] trivial (kC (sat_cell h287 0 rfl rfl) (kC (sat_cell h287 0 rfl rfl) (kC (sat_cell h287 0 rfl rfl) nC))) ?_
          refine plain_law (i := 2) 209 (.bool true) (by kernel_rfl) (q30e28_eql_t (o := opA (RA Try.f10 [1, 1, 1, 1, 1, 1, 1, 1, 1, 1, 1, 1, 0, 1, 0, 0]) 2) (x := (Operand.tmp 207)) (y := (Operand.tmp 208)) 0 0 0 0 0 0 (by kernel_rfl) (by kernel_rfl) (by kernel_rfl) ⟨rfl, rfl, rfl⟩ _) ?_
          refine yB0 [5, 6, 7, 8, 9, 10, 11, 12, 13, 14, 15, 16, 17, 18, 19, 20] [3, 4] [(211, pV b94), (210, .bool true)] ?_
          have hll292 := live_len pp.1.E
          have h293 := tk6 (sf5 (sf4 (sf5 (sf5 (sf5 (sf5 h287))))))
          refine yA ?_
          refine yCl 212 Try.call24 (live_w b94 nn pp.1) h293 ?_
          rintro v K w294 (⟨p290, c291, rfl, rfl⟩) h295
          refine ⟨_, rfl, ?_⟩
          have h296 := ap2 h295
          refine yBb [13, 14, 15, 16, 17, 18, 19, 20] [(219, pV b94), (218, .bool true), (217, .bool true), (216, .bool true), (215, iV ((((liveL pp.1.E).length : Nat) : Int))), (214, .slice p38 (((liveL pp.1.E).length)) c39), (213, iV ((((liveL pp.1.E).length : Nat) : Int)))] [e0 6, e0 7, e0 8, e1 9 (.bool true), e0 10, e0 11, e0 12] [] [(.bool (((((liveL pp.1.E).length : Nat) : Int)) == ((((liveL pp.1.E).length : Nat) : Int))), .bool true)] ⟨(ov_et (by omega)), trivial⟩ nC ?_
          refine yA ?_
          refine yCl 220 Try.call22 (tlen_w b94 nn pp.1) h296 ?_
          rintro v K w297 (⟨rfl, rfl⟩) h298
          refine ⟨_, rfl, ?_⟩
          have h299 := ap1 h298
          refine yBb [18, 19, 20] [(224, .bool true), (223, .bool true), (222, .bool true), (221, iV (((pp.1.R.length : Nat) : Int)))] [e0 14, e1 15 (.bool true), e0 16, e0 17] [] [(.bool ((((pp.1.R.length : Nat) : Int)) == (((pp.1.R.length : Nat) : Int))), .bool true)] ⟨(ov_et (by omega)), trivial⟩ nC ?_
          refine fk_cut ([(224, .bool true), (13, pV r7), (17, .slice p38 (((liveL pp.1.E).length)) c39), (18, iV (((pp.1.R.length : Nat) : Int))), (19, .bool false), (20, .bool false), (24, pV b94), (31, pV r283), (206, .bool true)] : Fr) (by kernel_rfl) (fun a => PO _ _ _ _ a _) (fun lr300 => ?_)
          refine yA ?_
          refine yCl 225 Try.call18 (works_ht) h299 ?_
          rintro v K w301 (⟨rfl, rfl⟩) h302
          refine ⟨_, rfl, ?_⟩
          have h303 := ap0 h302
          refine yB0 [] [19, 20] [(14, .bool true), (226, .bool true)] (.mk ?_)
          refine yK [(14, .bool true)] fun lr304 => ?_
          refine yRt ?_
          repeat (first | simp only [Exit.inBlock] | simp only [Exit.then])
          have h305 := tk7 (sf6 (sf5 (sf5 (sf5 (sf5 (sf5 (sf6 h303)))))))
          have h306 := tk2 (sf1 (sf6 h305))
          refine hi_out [] (.bool true) [] (by kernel_rfl) (by intro q hq; cases hq) ?_
          exact ⟨.bool true, [Old wo], rfl, ⟨rfl, rfl⟩, h306⟩
     ·
      refine ySq ?_
      refine ySq ?_
      refine yPl [0, 1, 2, 3] ?_
      refine yB0 [3] [0, 1, 2] [(74, iV ((((liveL pp.1.E).length : Nat) : Int))), (73, .slice p38 (((liveL pp.1.E).length)) c39), (72, iV (i : Int))] ?_
      by_cases c307 : (i : Int) < (((liveL pp.1.E).length : Nat) : Int)
      ·
       refine yBb [] [(75, .bool true)] [e1 3 (.bool true)] [] [(.bool (decide ((i : Int) < (((liveL pp.1.E).length : Nat) : Int))), .bool true)] ⟨(ov_t (by omega)), trivial⟩ nC (.mk ?_)
       refine yK [(4, .string (St L)), (10, pV r1), (12, pV r4), (13, pV r7), (15, pV b29), (17, .slice p38 (((liveL pp.1.E).length)) c39), (18, iV (((pp.1.R.length : Nat) : Int))), (19, .bool false), (20, .bool true), (21, iV (i : Int)), (75, .bool true)] fun lr308 => ?_
       refine yCt ?_
       refine ySk ?_
       refine ySq ?_
       refine yBk 1 ?_
       refine ySq ?_
       refine yPl [0, 1, 2, 3, 4, 5, 6, 7, 8, 9, 10, 11] ?_
       obtain ⟨b309, hp310⟩ := sl_ptr0 (j := 1) h65 rfl (by omega)
       refine yB0 [3, 4, 5, 6, 7, 8, 9, 10, 11] [0, 1, 2] [(81, iV (i : Int)), (80, .slice p38 (((liveL pp.1.E).length)) c39), (79, pV b29)] ?_
       refine plain_law (i := 3) 82 (.pointer (some ⟨b309, i * 3, none⟩)) (by kernel_rfl) (law_indexSlP (o := opA (RA Try.f10 [1, 1, 1, 1, 1, 1, 1, 0, 1, 0, 0, 1, 0, 0, 0]) 3) (x := (Operand.tmp 80)) (i := (Operand.tmp 81)) (p := p38) (b := b309) (off := 0) (z := (i : Int)) (len := (((liveL pp.1.E).length))) (cap := c39) (by kernel_rfl) Try.underlying45 3 (by kernel_rfl) i (by kernel_rfl) hp310 (by kernel_rfl) (by omega) (by omega) (i * 3) (by omega) _) ?_
       obtain ⟨x311, hx312⟩ : ∃ x, (liveL pp.1.E)[i]? = some x := ⟨_, List.getElem?_eq_getElem (by rw [hl58]; omega)⟩
       have hb313 := lv_ok hI_.W (List.mem_of_getElem? hx312)
       refine yBb [5, 6, 7, 8, 9, 10, 11] [(83, .agg #[iV x311.1, iV x311.2.1, uV x311.2.2])] [e2 4 [iV x311.1, iV x311.2.1, uV x311.2.2]] [(4, ⟨b309, i * 3, none⟩, iV x311.1), (4, ⟨b309, i * 3 + 1, none⟩, iV x311.2.1), (4, ⟨b309, i * 3 + 2, none⟩, uV x311.2.2)] [] trivial (kC (gv_cell (j := 1) h65 rfl (gv_sl _ _ _) hp310 (fl_get eO_ok (j := 0) (v := iV x311.1) hx312 rfl) (i * 3) (by omega)) (kC (gv_cell (j := 1) h65 rfl (gv_sl _ _ _) hp310 (fl_get eO_ok (j := 1) (v := iV x311.2.1) hx312 rfl) (i * 3 + 1) (by omega)) (kC (gv_cell (j := 1) h65 rfl (gv_sl _ _ _) hp310 (fl_get eO_ok (j := 2) (v := uV x311.2.2) hx312 rfl) (i * 3 + 2) (by omega)) nC))) ?_
       refine yA ?_
       refine yCl 84 Try.call26 ((by have h_ := thnd_w b29 nn pp.1 x311.1 x311.2.1 x311.2.2 (by omega) (by omega); rw [(is_there hI_.W (List.mem_of_getElem? hx312))] at h_; exact h_)) h65 ?_
       rintro v K w314 (⟨rfl, rfl⟩) h315
       refine ⟨_, rfl, ?_⟩
       have h316 := ap1 h315
       refine yB0 [9, 10, 11] [6, 7, 8] [(86, iV 0), (85, .agg #[iV ((fndX pp.1 (x311.1, x311.2.1, x311.2.2)).h.1), uV ((fndX pp.1 (x311.1, x311.2.1, x311.2.2)).h.2)]), (78, .tuple #[.agg #[iV ((fndX pp.1 (x311.1, x311.2.1, x311.2.2)).h.1), uV ((fndX pp.1 (x311.1, x311.2.1, x311.2.2)).h.2)], iV 0])] ?_
       refine yA ?_
       refine yNp 22 34 [iV 0, uV 0] h316 fun r317 w318 h319 => ?_
       refine yA ?_
       refine yS [(0, iV ((fndX pp.1 (x311.1, x311.2.1, x311.2.2)).h.1)), (1, uV ((fndX pp.1 (x311.1, x311.2.1, x311.2.2)).h.2))] [iV ((fndX pp.1 (x311.1, x311.2.1, x311.2.2)).h.1), uV ((fndX pp.1 (x311.1, x311.2.1, x311.2.2)).h.2)] h319 fun w320 h321 => ?_
       refine yB0 [] [11] [(23, iV 0)] (.mk ?_)
       refine yK [(4, .string (St L)), (10, pV r1), (12, pV r4), (13, pV r7), (15, pV b29), (17, .slice p38 (((liveL pp.1.E).length)) c39), (18, iV (((pp.1.R.length : Nat) : Int))), (19, .bool false), (20, .bool true), (21, iV (i : Int)), (22, pV r317)] fun lr322 => ?_
       refine yPl [0, 1, 2, 3, 4, 5, 6] ?_
       refine yB0 [] [0, 1, 2, 3, 4, 5, 6] [(20, .bool true), (92, .bool true), (91, undef), (90, undef), (89, undef), (88, .bool true), (87, .bool true)] (.mk ?_)
       refine yK [(4, .string (St L)), (10, pV r1), (12, pV r4), (13, pV r7), (15, pV b29), (17, .slice p38 (((liveL pp.1.E).length)) c39), (18, iV (((pp.1.R.length : Nat) : Int))), (19, .bool false), (20, .bool true), (21, iV (i : Int))] fun lr323 => ?_
       refine yPl [0, 1, 2] ?_
       refine yBb [] [(21, iV ((i : Int) + 1)), (77, iV ((i : Int) + 1)), (76, iV (i : Int))] [e0 0, e1 1 (iV ((i : Int) + 1)), e0 2] [] [(iV (IntKind.wrap .i64 ((i : Int) + 1)), iV ((i : Int) + 1))] ⟨(ov_i64 (by omega) (by omega) (by omega)), trivial⟩ nC (.mk ?_)
       have h324 := tk8 (sf7 (sf7 (sf7 (sf7 (sf7 (sf7 (sf7 h321)))))))
       have h325 := tk7 h324
       change ∃ n', n' < _ ∧ _
       refine ⟨(((liveL pp.1.E).length) - (i + 1)), by omega, (i + 1), true, _, rfl, (by omega), (any_t htb), (mk_live [(4, .string (St L)), (10, pV r1), (12, pV r4), (13, pV r7), (15, pV b29), (17, .slice p38 (((liveL pp.1.E).length)) c39), (18, iV (((pp.1.R.length : Nat) : Int))), (19, .bool false), (20, .bool (true)), (21, iV ((((i + 1) : Nat) : Int)))] ⟨rfl, rfl, rfl, rfl, rfl, rfl, rfl, rfl, rfl, (ov_int (by omega)), trivial⟩), h325⟩
      ·
       refine yBb [] [(75, .bool false)] [e1 3 (.bool false)] [] [(.bool (decide ((i : Int) < (((liveL pp.1.E).length : Nat) : Int))), .bool false)] ⟨(ov_f (by omega)), trivial⟩ nC (.mk ?_)
       refine yK [(4, .string (St L)), (10, pV r1), (12, pV r4), (13, pV r7), (15, pV b29), (17, .slice p38 (((liveL pp.1.E).length)) c39), (18, iV (((pp.1.R.length : Nat) : Int))), (19, .bool false), (20, .bool true), (21, iV (i : Int)), (75, .bool false)] fun lr326 => ?_
       refine yCf ?_
       refine yEx 0 ?_
       refine ySq ?_
       refine yPl [0, 1, 2] ?_
       refine yB0 [1, 2] [0] [(93, pV b29)] ?_
       refine yA ?_
       refine yCl 94 Try.call30 (tcopy_w b29 nn pp.1) h65 ?_
       rintro v K w328 (⟨b327, rfl, rfl⟩) h329
       refine ⟨_, rfl, ?_⟩
       have h330 := ap2 h329
       refine yB0 [] [2] [(24, pV b327)] (.mk ?_)
       refine yK [(4, .string (St L)), (10, pV r1), (12, pV r4), (13, pV r7), (15, pV b29), (17, .slice p38 (((liveL pp.1.E).length)) c39), (18, iV (((pp.1.R.length : Nat) : Int))), (19, .bool false), (20, .bool true), (24, pV b327)] fun lr331 => ?_
       refine ySq ?_
       refine yPl [0, 1, 2, 3, 4, 5, 6, 7, 8, 9, 10] ?_
       refine yBb [4, 5, 6, 7, 8, 9, 10] [(99, .agg #[iV hx, uV hy]), (98, .string (St L)), (97, .agg #[iV ox, iV oy, uV oz]), (96, pV b29)] [e0 0, e2 1 [iV ox, iV oy, uV oz], e0 2, e2 3 [iV hx, uV hy]] [(3, ⟨r4, 0, none⟩, iV hx), (3, ⟨r4, 1, none⟩, uV hy), (1, ⟨r1, 0, none⟩, iV ox), (1, ⟨r1, 1, none⟩, iV oy), (1, ⟨r1, 2, none⟩, uV oz)] [] trivial (kC (sat_cell h330 4 rfl rfl) (kC (sat_cell h330 4 rfl rfl) (kC (sat_cell h330 5 rfl rfl) (kC (sat_cell h330 5 rfl rfl) (kC (sat_cell h330 5 rfl rfl) nC))))) ?_
       by_cases c332 : (opnE pp.1 (ox, oy, oz) L (hx, hy)) = 2
       ·
        refine yA ?_
        refine yCl 100 Try.call12 ((by have he_ : opnE pp.1 (ox, oy, oz) L (hx, hy) = 2 := (by omega); have h_ := topen_w b29 nn pp.1 ox oy oz hx hy L (by omega) (by omega) (by omega); rw [(opn_bad he_ (by first | decide | omega)).1, (opn_bad he_ (by first | decide | omega)).2, he_] at h_; exact h_)) h330 ?_
        rintro v K w333 (⟨rfl, rfl⟩) h334
        refine ⟨_, rfl, ?_⟩
        have h335 := ap1 h334
        refine yB0 [8, 9, 10] [5, 6, 7] [(102, iV 2), (101, .agg #[iV 0, iV 0, uV 0]), (95, .tuple #[.agg #[iV 0, iV 0, uV 0], iV 2])] ?_
        refine yA ?_
        refine yNp 25 28 [iV 0, iV 0, uV 0] h335 fun r336 w337 h338 => ?_
        refine yA ?_
        refine yS [(0, iV 0), (1, iV 0), (2, uV 0)] [iV 0, iV 0, uV 0] h338 fun w339 h340 => ?_
        refine yB0 [] [10] [(26, iV 2)] (.mk ?_)
        refine yK [(10, pV r1), (12, pV r4), (13, pV r7), (15, pV b29), (17, .slice p38 (((liveL pp.1.E).length)) c39), (18, iV (((pp.1.R.length : Nat) : Int))), (19, .bool false), (20, .bool true), (24, pV b327), (25, pV r336), (26, iV 2)] fun lr341 => ?_
        refine gi_join (x := CA Try.f10 [1, 1, 1, 1, 1, 1, 1, 1, 1, 1, 0]) (y := CA Try.f10 [1, 1, 1, 1, 1, 1, 1, 1, 1, 1, 1]) (fun a w => ∃ lr : Fr, a = mk 281 (([(12, pV r4), (13, pV r7), (17, .slice p38 (((liveL pp.1.E).length)) c39), (18, iV (((pp.1.R.length : Nat) : Int))), (19, .bool false), (20, .bool true), (24, pV b327)] : Fr) ++ lr) ∧ sat g w [TW b327 nn pp.1, Cl r7 [iV dx, iV dy, uV dz] 28, Cl r4 [iV hx, uV hy] 34, Old wo, R]) (by kernel_rfl) ?_ ?_
        ·
         refine ySq ?_
         refine yPl [0, 1] ?_
         refine yB0 [] [0, 1] [(104, .bool false), (103, iV 2)] (.mk ?_)
         refine yK [(10, pV r1), (12, pV r4), (13, pV r7), (15, pV b29), (17, .slice p38 (((liveL pp.1.E).length)) c39), (18, iV (((pp.1.R.length : Nat) : Int))), (19, .bool false), (20, .bool true), (24, pV b327), (25, pV r336), (26, iV 2), (104, .bool false)] fun lr342 => ?_
         refine yCf ?_
         refine ySq ?_
         refine yPl [0, 1, 2, 3, 4, 5, 6, 7, 8, 9, 10, 11, 12, 13, 14, 15, 16, 17, 18, 19, 20, 21, 22, 23, 24, 25, 26, 27, 28, 29, 30, 31, 32, 33, 34] ?_
         refine yBb [2, 3, 4, 5, 6, 7, 8, 9, 10, 11, 12, 13, 14, 15, 16, 17, 18, 19, 20, 21, 22, 23, 24, 25, 26, 27, 28, 29, 30, 31, 32, 33, 34] [(164, .agg #[iV 0, iV 0, uV 0]), (163, .agg #[iV 0, iV 0, uV 0])] [e2 0 [iV 0, iV 0, uV 0], e0 1] [(0, ⟨r336, 0, none⟩, iV 0), (0, ⟨r336, 1, none⟩, iV 0), (0, ⟨r336, 2, none⟩, uV 0)] [] trivial (kC (sat_cell h340 0 rfl rfl) (kC (sat_cell h340 0 rfl rfl) (kC (sat_cell h340 0 rfl rfl) nC))) ?_
         refine plain_law (i := 2) 165 (.bool false) (by kernel_rfl) (q30e28_neq_t (o := opA (RA Try.f10 [1, 1, 1, 1, 1, 1, 1, 1, 1, 1, 0, 1, 1, 0]) 2) (x := (Operand.tmp 163)) (y := (Operand.tmp 164)) 0 0 0 0 0 0 (by kernel_rfl) (by kernel_rfl) (by kernel_rfl) ⟨rfl, rfl, rfl⟩ _) ?_
         refine yB0 [5, 6, 7, 8, 9, 10, 11, 12, 13, 14, 15, 16, 17, 18, 19, 20, 21, 22, 23, 24, 25, 26, 27, 28, 29, 30, 31, 32, 33, 34] [3, 4] [(167, pV b29), (166, .bool false)] ?_
         have h343 := tk9 (sf8 (sf7 (sf8 (sf8 (sf8 (sf8 (sf8 (sf8 (sf8 h340)))))))))
         refine yA ?_
         refine yCl 168 Try.call22 (tlen_w b29 nn pp.1) h343 ?_
         rintro v K w344 (⟨rfl, rfl⟩) h345
         refine ⟨_, rfl, ?_⟩
         have h346 := ap1 h345
         refine yBb [11, 12, 13, 14, 15, 16, 17, 18, 19, 20, 21, 22, 23, 24, 25, 26, 27, 28, 29, 30, 31, 32, 33, 34] [(173, pV b29), (172, .bool false), (171, .bool false), (170, .bool false), (169, iV (((pp.1.R.length : Nat) : Int)))] [e0 6, e1 7 (.bool false), e0 8, e0 9, e0 10] [] [(.bool ((((pp.1.R.length : Nat) : Int)) != (((pp.1.R.length : Nat) : Int))), .bool false)] ⟨(ov_nf (by omega)), trivial⟩ nC ?_
         have hll349 := live_len pp.1.E
         refine yA ?_
         refine yCl 174 Try.call24 (live_w b29 nn pp.1) h346 ?_
         rintro v K w350 (⟨p347, c348, rfl, rfl⟩) h351
         refine ⟨_, rfl, ?_⟩
         have h352 := ap2 h351
         refine yBb [] [(197, .bool false), (196, .bool false), (195, undef), (194, undef), (193, .bool false), (192, .bool false), (191, undef), (190, undef), (189, .bool false), (188, .bool false), (187, .bool false), (186, iV 2), (185, .bool true), (184, .bool true), (183, .bool true), (182, .bool false), (181, .bool false), (180, .bool false), (179, .bool false), (178, .bool false), (177, iV ((((liveL pp.1.E).length : Nat) : Int))), (176, .slice p38 (((liveL pp.1.E).length)) c39), (175, iV ((((liveL pp.1.E).length : Nat) : Int)))] [e0 12, e0 13, e0 14, e1 15 (.bool false), e0 16, e0 17, e0 18, e0 19, e0 20, e0 21, e0 22, e0 23, e0 24, e0 25, e0 26, e0 27, e0 28, e0 29, e0 30, e0 31, e0 32, e0 33, e0 34] [] [(.bool (((((liveL pp.1.E).length : Nat) : Int)) != ((((liveL pp.1.E).length : Nat) : Int))), .bool false)] ⟨(ov_nf (by omega)), trivial⟩ nC (.mk ?_)
         refine yK [(12, pV r4), (13, pV r7), (17, .slice p38 (((liveL pp.1.E).length)) c39), (18, iV (((pp.1.R.length : Nat) : Int))), (19, .bool false), (20, .bool true), (24, pV b327), (197, .bool false)] fun lr353 => ?_
         refine yCf ?_
         refine ySk ?_
         have h354 := tk10 (sf9 (sf9 (sf9 (sf9 (sf9 (sf4 (sf4 (sf4 (sf5 (sf7 h352))))))))))
         have h355 := tk5 h354
         exact ⟨_, (mk_live [(12, pV r4), (13, pV r7), (17, .slice p38 (((liveL pp.1.E).length)) c39), (18, iV (((pp.1.R.length : Nat) : Int))), (19, .bool false), (20, .bool true), (24, pV b327)] ⟨rfl, rfl, rfl, rfl, rfl, rfl, rfl, trivial⟩), h355⟩
        ·
         rintro a356 w357 ⟨lr359, rfl, h358⟩
         refine ySq ?_
         refine yPl [0, 1, 2, 3, 4, 5, 6, 7, 8, 9] ?_
         refine yBb [3, 4, 5, 6, 7, 8, 9] [(201, .agg #[iV hx, uV hy]), (200, .agg #[iV dx, iV dy, uV dz]), (199, pV b327)] [e0 0, e2 1 [iV dx, iV dy, uV dz], e2 2 [iV hx, uV hy]] [(2, ⟨r4, 0, none⟩, iV hx), (2, ⟨r4, 1, none⟩, uV hy), (1, ⟨r7, 0, none⟩, iV dx), (1, ⟨r7, 1, none⟩, iV dy), (1, ⟨r7, 2, none⟩, uV dz)] [] trivial (kC (sat_cell h358 2 rfl rfl) (kC (sat_cell h358 2 rfl rfl) (kC (sat_cell h358 1 rfl rfl) (kC (sat_cell h358 1 rfl rfl) (kC (sat_cell h358 1 rfl rfl) nC))))) ?_
         have hne_ : dupE pp.1 (dx, dy, dz) (hx, hy) ≠ 0 := fun q_ => (dup_obj q_).2 (of_decide_eq_true ((has_live hI_.W).symm.trans (any_all htb (by omega)).symm))
         refine yA ?_
         refine yCl 202 Try.call14 ((by have h_ := tdup_w b327 nn pp.1 dx dy dz hx hy (by omega) (by omega); rw [(dup_bad rfl (show dupE pp.1 (dx, dy, dz) (hx, hy) ≠ 0 from by omega)).1, (dup_bad rfl (show dupE pp.1 (dx, dy, dz) (hx, hy) ≠ 0 from by omega)).2] at h_; exact h_)) h358 ?_
         rintro v K w360 (⟨rfl, rfl⟩) h361
         refine ⟨_, rfl, ?_⟩
         have h362 := ap1 h361
         refine yB0 [7, 8, 9] [4, 5, 6] [(204, iV ((dupE pp.1 (dx, dy, dz) (hx, hy)))), (203, .agg #[iV 0, iV 0, uV 0]), (198, .tuple #[.agg #[iV 0, iV 0, uV 0], iV ((dupE pp.1 (dx, dy, dz) (hx, hy)))])] ?_
         refine yA ?_
         refine yNp 31 28 [iV 0, iV 0, uV 0] h362 fun r363 w364 h365 => ?_
         refine yA ?_
         refine yS [(0, iV 0), (1, iV 0), (2, uV 0)] [iV 0, iV 0, uV 0] h365 fun w366 h367 => ?_
         refine yB0 [] [9] [(32, iV ((dupE pp.1 (dx, dy, dz) (hx, hy))))] (.mk ?_)
         refine yK [(13, pV r7), (17, .slice p38 (((liveL pp.1.E).length)) c39), (18, iV (((pp.1.R.length : Nat) : Int))), (19, .bool false), (20, .bool true), (24, pV b327), (31, pV r363), (32, iV ((dupE pp.1 (dx, dy, dz) (hx, hy))))] fun lr368 => ?_
         refine ySq ?_
         refine ySq ?_
         refine yPl [0, 1] ?_
         refine yBb [] [(206, .bool true), (205, iV ((dupE pp.1 (dx, dy, dz) (hx, hy))))] [e0 0, e1 1 (.bool true)] [] [(.bool (((dupE pp.1 (dx, dy, dz) (hx, hy))) != 0), .bool true)] ⟨(ov_nt (by omega)), trivial⟩ nC (.mk ?_)
         refine yK [(13, pV r7), (17, .slice p38 (((liveL pp.1.E).length)) c39), (18, iV (((pp.1.R.length : Nat) : Int))), (19, .bool false), (20, .bool true), (24, pV b327), (31, pV r363), (206, .bool true)] fun lr369 => ?_
         refine yCt ?_
         refine ySq ?_
         refine yPl [0, 1, 2, 3, 4, 5, 6, 7, 8, 9, 10, 11, 12, 13, 14, 15, 16, 17, 18, 19, 20] ?_
         refine yBb [2, 3, 4, 5, 6, 7, 8, 9, 10, 11, 12, 13, 14, 15, 16, 17, 18, 19, 20] [(208, .agg #[iV 0, iV 0, uV 0]), (207, .agg #[iV 0, iV 0, uV 0])] [e2 0 [iV 0, iV 0, uV 0], e0 1] [(0, ⟨r363, 0, none⟩, iV 0), (0, ⟨r363, 1, none⟩, iV 0), (0, ⟨r363, 2, none⟩, uV 0)] [] trivial (kC (sat_cell h367 0 rfl rfl) (kC (sat_cell h367 0 rfl rfl) (kC (sat_cell h367 0 rfl rfl) nC))) ?_
         refine plain_law (i := 2) 209 (.bool true) (by kernel_rfl) (q30e28_eql_t (o := opA (RA Try.f10 [1, 1, 1, 1, 1, 1, 1, 1, 1, 1, 1, 1, 0, 1, 0, 0]) 2) (x := (Operand.tmp 207)) (y := (Operand.tmp 208)) 0 0 0 0 0 0 (by kernel_rfl) (by kernel_rfl) (by kernel_rfl) ⟨rfl, rfl, rfl⟩ _) ?_
         refine yB0 [5, 6, 7, 8, 9, 10, 11, 12, 13, 14, 15, 16, 17, 18, 19, 20] [3, 4] [(211, pV b327), (210, .bool true)] ?_
         have hll372 := live_len pp.1.E
         have h373 := tk6 (sf5 (sf4 (sf5 (sf5 (sf5 (sf5 h367))))))
         refine yA ?_
         refine yCl 212 Try.call24 (live_w b327 nn pp.1) h373 ?_
         rintro v K w374 (⟨p370, c371, rfl, rfl⟩) h375
         refine ⟨_, rfl, ?_⟩
         have h376 := ap2 h375
         refine yBb [13, 14, 15, 16, 17, 18, 19, 20] [(219, pV b327), (218, .bool true), (217, .bool true), (216, .bool true), (215, iV ((((liveL pp.1.E).length : Nat) : Int))), (214, .slice p38 (((liveL pp.1.E).length)) c39), (213, iV ((((liveL pp.1.E).length : Nat) : Int)))] [e0 6, e0 7, e0 8, e1 9 (.bool true), e0 10, e0 11, e0 12] [] [(.bool (((((liveL pp.1.E).length : Nat) : Int)) == ((((liveL pp.1.E).length : Nat) : Int))), .bool true)] ⟨(ov_et (by omega)), trivial⟩ nC ?_
         refine yA ?_
         refine yCl 220 Try.call22 (tlen_w b327 nn pp.1) h376 ?_
         rintro v K w377 (⟨rfl, rfl⟩) h378
         refine ⟨_, rfl, ?_⟩
         have h379 := ap1 h378
         refine yBb [18, 19, 20] [(224, .bool true), (223, .bool true), (222, .bool true), (221, iV (((pp.1.R.length : Nat) : Int)))] [e0 14, e1 15 (.bool true), e0 16, e0 17] [] [(.bool ((((pp.1.R.length : Nat) : Int)) == (((pp.1.R.length : Nat) : Int))), .bool true)] ⟨(ov_et (by omega)), trivial⟩ nC ?_
         refine fk_cut ([(224, .bool true), (13, pV r7), (17, .slice p38 (((liveL pp.1.E).length)) c39), (18, iV (((pp.1.R.length : Nat) : Int))), (19, .bool false), (20, .bool true), (24, pV b327), (31, pV r363), (206, .bool true)] : Fr) (by kernel_rfl) (fun a => PO _ _ _ _ a _) (fun lr380 => ?_)
         refine yA ?_
         refine yCl 225 Try.call18 (works_ht) h379 ?_
         rintro v K w381 (⟨rfl, rfl⟩) h382
         refine ⟨_, rfl, ?_⟩
         have h383 := ap0 h382
         refine yB0 [] [19, 20] [(14, .bool true), (226, .bool true)] (.mk ?_)
         refine yK [(14, .bool true)] fun lr384 => ?_
         refine yRt ?_
         repeat (first | simp only [Exit.inBlock] | simp only [Exit.then])
         have h385 := tk7 (sf6 (sf5 (sf5 (sf5 (sf5 (sf5 (sf6 h383)))))))
         have h386 := tk2 (sf1 (sf6 h385))
         refine hi_out [] (.bool true) [] (by kernel_rfl) (by intro q hq; cases hq) ?_
         exact ⟨.bool true, [Old wo], rfl, ⟨rfl, rfl⟩, h386⟩
       ·
        by_cases c387 : (opnE pp.1 (ox, oy, oz) L (hx, hy)) = 6
        ·
         refine yA ?_
         refine yCl 100 Try.call12 ((by have he_ : opnE pp.1 (ox, oy, oz) L (hx, hy) = 6 := (by omega); have h_ := topen_w b29 nn pp.1 ox oy oz hx hy L (by omega) (by omega) (by omega); rw [(opn_bad he_ (by first | decide | omega)).1, (opn_bad he_ (by first | decide | omega)).2, he_] at h_; exact h_)) h330 ?_
         rintro v K w388 (⟨rfl, rfl⟩) h389
         refine ⟨_, rfl, ?_⟩
         have h390 := ap1 h389
         refine yB0 [8, 9, 10] [5, 6, 7] [(102, iV 6), (101, .agg #[iV 0, iV 0, uV 0]), (95, .tuple #[.agg #[iV 0, iV 0, uV 0], iV 6])] ?_
         refine yA ?_
         refine yNp 25 28 [iV 0, iV 0, uV 0] h390 fun r391 w392 h393 => ?_
         refine yA ?_
         refine yS [(0, iV 0), (1, iV 0), (2, uV 0)] [iV 0, iV 0, uV 0] h393 fun w394 h395 => ?_
         refine yB0 [] [10] [(26, iV 6)] (.mk ?_)
         refine yK [(10, pV r1), (12, pV r4), (13, pV r7), (15, pV b29), (17, .slice p38 (((liveL pp.1.E).length)) c39), (18, iV (((pp.1.R.length : Nat) : Int))), (19, .bool false), (20, .bool true), (24, pV b327), (25, pV r391), (26, iV 6)] fun lr396 => ?_
         refine gi_join (x := CA Try.f10 [1, 1, 1, 1, 1, 1, 1, 1, 1, 1, 0]) (y := CA Try.f10 [1, 1, 1, 1, 1, 1, 1, 1, 1, 1, 1]) (fun a w => ∃ lr : Fr, a = mk 281 (([(12, pV r4), (13, pV r7), (17, .slice p38 (((liveL pp.1.E).length)) c39), (18, iV (((pp.1.R.length : Nat) : Int))), (19, .bool false), (20, .bool true), (24, pV b327)] : Fr) ++ lr) ∧ sat g w [TW b327 nn pp.1, Cl r7 [iV dx, iV dy, uV dz] 28, Cl r4 [iV hx, uV hy] 34, Old wo, R]) (by kernel_rfl) ?_ ?_
         ·
          refine ySq ?_
          refine yPl [0, 1] ?_
          refine yB0 [] [0, 1] [(104, .bool false), (103, iV 6)] (.mk ?_)
          refine yK [(10, pV r1), (12, pV r4), (13, pV r7), (15, pV b29), (17, .slice p38 (((liveL pp.1.E).length)) c39), (18, iV (((pp.1.R.length : Nat) : Int))), (19, .bool false), (20, .bool true), (24, pV b327), (25, pV r391), (26, iV 6), (104, .bool false)] fun lr397 => ?_
          refine yCf ?_
          refine ySq ?_
          refine yPl [0, 1, 2, 3, 4, 5, 6, 7, 8, 9, 10, 11, 12, 13, 14, 15, 16, 17, 18, 19, 20, 21, 22, 23, 24, 25, 26, 27, 28, 29, 30, 31, 32, 33, 34] ?_
          refine yBb [2, 3, 4, 5, 6, 7, 8, 9, 10, 11, 12, 13, 14, 15, 16, 17, 18, 19, 20, 21, 22, 23, 24, 25, 26, 27, 28, 29, 30, 31, 32, 33, 34] [(164, .agg #[iV 0, iV 0, uV 0]), (163, .agg #[iV 0, iV 0, uV 0])] [e2 0 [iV 0, iV 0, uV 0], e0 1] [(0, ⟨r391, 0, none⟩, iV 0), (0, ⟨r391, 1, none⟩, iV 0), (0, ⟨r391, 2, none⟩, uV 0)] [] trivial (kC (sat_cell h395 0 rfl rfl) (kC (sat_cell h395 0 rfl rfl) (kC (sat_cell h395 0 rfl rfl) nC))) ?_
          refine plain_law (i := 2) 165 (.bool false) (by kernel_rfl) (q30e28_neq_t (o := opA (RA Try.f10 [1, 1, 1, 1, 1, 1, 1, 1, 1, 1, 0, 1, 1, 0]) 2) (x := (Operand.tmp 163)) (y := (Operand.tmp 164)) 0 0 0 0 0 0 (by kernel_rfl) (by kernel_rfl) (by kernel_rfl) ⟨rfl, rfl, rfl⟩ _) ?_
          refine yB0 [5, 6, 7, 8, 9, 10, 11, 12, 13, 14, 15, 16, 17, 18, 19, 20, 21, 22, 23, 24, 25, 26, 27, 28, 29, 30, 31, 32, 33, 34] [3, 4] [(167, pV b29), (166, .bool false)] ?_
          have h398 := tk9 (sf8 (sf7 (sf8 (sf8 (sf8 (sf8 (sf8 (sf8 (sf8 h395)))))))))
          refine yA ?_
          refine yCl 168 Try.call22 (tlen_w b29 nn pp.1) h398 ?_
          rintro v K w399 (⟨rfl, rfl⟩) h400
          refine ⟨_, rfl, ?_⟩
          have h401 := ap1 h400
          refine yBb [11, 12, 13, 14, 15, 16, 17, 18, 19, 20, 21, 22, 23, 24, 25, 26, 27, 28, 29, 30, 31, 32, 33, 34] [(173, pV b29), (172, .bool false), (171, .bool false), (170, .bool false), (169, iV (((pp.1.R.length : Nat) : Int)))] [e0 6, e1 7 (.bool false), e0 8, e0 9, e0 10] [] [(.bool ((((pp.1.R.length : Nat) : Int)) != (((pp.1.R.length : Nat) : Int))), .bool false)] ⟨(ov_nf (by omega)), trivial⟩ nC ?_
          have hll404 := live_len pp.1.E
          refine yA ?_
          refine yCl 174 Try.call24 (live_w b29 nn pp.1) h401 ?_
          rintro v K w405 (⟨p402, c403, rfl, rfl⟩) h406
          refine ⟨_, rfl, ?_⟩
          have h407 := ap2 h406
          refine yBb [] [(197, .bool false), (196, .bool false), (195, undef), (194, undef), (193, .bool false), (192, .bool false), (191, .bool false), (190, iV 6), (189, .bool true), (188, .bool true), (187, .bool true), (186, iV 6), (185, .bool true), (184, .bool true), (183, .bool true), (182, .bool false), (181, .bool false), (180, .bool false), (179, .bool false), (178, .bool false), (177, iV ((((liveL pp.1.E).length : Nat) : Int))), (176, .slice p38 (((liveL pp.1.E).length)) c39), (175, iV ((((liveL pp.1.E).length : Nat) : Int)))] [e0 12, e0 13, e0 14, e1 15 (.bool false), e0 16, e0 17, e0 18, e0 19, e0 20, e0 21, e0 22, e0 23, e0 24, e0 25, e0 26, e0 27, e0 28, e0 29, e0 30, e0 31, e0 32, e0 33, e0 34] [] [(.bool (((((liveL pp.1.E).length : Nat) : Int)) != ((((liveL pp.1.E).length : Nat) : Int))), .bool false)] ⟨(ov_nf (by omega)), trivial⟩ nC (.mk ?_)
          refine yK [(12, pV r4), (13, pV r7), (17, .slice p38 (((liveL pp.1.E).length)) c39), (18, iV (((pp.1.R.length : Nat) : Int))), (19, .bool false), (20, .bool true), (24, pV b327), (197, .bool false)] fun lr408 => ?_
          refine yCf ?_
          refine ySk ?_
          have h409 := tk10 (sf9 (sf9 (sf9 (sf9 (sf9 (sf4 (sf4 (sf4 (sf5 (sf7 h407))))))))))
          have h410 := tk5 h409
          exact ⟨_, (mk_live [(12, pV r4), (13, pV r7), (17, .slice p38 (((liveL pp.1.E).length)) c39), (18, iV (((pp.1.R.length : Nat) : Int))), (19, .bool false), (20, .bool true), (24, pV b327)] ⟨rfl, rfl, rfl, rfl, rfl, rfl, rfl, trivial⟩), h410⟩
         ·
          rintro a411 w412 ⟨lr414, rfl, h413⟩
          refine ySq ?_
          refine yPl [0, 1, 2, 3, 4, 5, 6, 7, 8, 9] ?_
          refine yBb [3, 4, 5, 6, 7, 8, 9] [(201, .agg #[iV hx, uV hy]), (200, .agg #[iV dx, iV dy, uV dz]), (199, pV b327)] [e0 0, e2 1 [iV dx, iV dy, uV dz], e2 2 [iV hx, uV hy]] [(2, ⟨r4, 0, none⟩, iV hx), (2, ⟨r4, 1, none⟩, uV hy), (1, ⟨r7, 0, none⟩, iV dx), (1, ⟨r7, 1, none⟩, iV dy), (1, ⟨r7, 2, none⟩, uV dz)] [] trivial (kC (sat_cell h413 2 rfl rfl) (kC (sat_cell h413 2 rfl rfl) (kC (sat_cell h413 1 rfl rfl) (kC (sat_cell h413 1 rfl rfl) (kC (sat_cell h413 1 rfl rfl) nC))))) ?_
          have hne_ : dupE pp.1 (dx, dy, dz) (hx, hy) ≠ 0 := fun q_ => (dup_obj q_).2 (of_decide_eq_true ((has_live hI_.W).symm.trans (any_all htb (by omega)).symm))
          refine yA ?_
          refine yCl 202 Try.call14 ((by have h_ := tdup_w b327 nn pp.1 dx dy dz hx hy (by omega) (by omega); rw [(dup_bad rfl (show dupE pp.1 (dx, dy, dz) (hx, hy) ≠ 0 from by omega)).1, (dup_bad rfl (show dupE pp.1 (dx, dy, dz) (hx, hy) ≠ 0 from by omega)).2] at h_; exact h_)) h413 ?_
          rintro v K w415 (⟨rfl, rfl⟩) h416
          refine ⟨_, rfl, ?_⟩
          have h417 := ap1 h416
          refine yB0 [7, 8, 9] [4, 5, 6] [(204, iV ((dupE pp.1 (dx, dy, dz) (hx, hy)))), (203, .agg #[iV 0, iV 0, uV 0]), (198, .tuple #[.agg #[iV 0, iV 0, uV 0], iV ((dupE pp.1 (dx, dy, dz) (hx, hy)))])] ?_
          refine yA ?_
          refine yNp 31 28 [iV 0, iV 0, uV 0] h417 fun r418 w419 h420 => ?_
          refine yA ?_
          refine yS [(0, iV 0), (1, iV 0), (2, uV 0)] [iV 0, iV 0, uV 0] h420 fun w421 h422 => ?_
          refine yB0 [] [9] [(32, iV ((dupE pp.1 (dx, dy, dz) (hx, hy))))] (.mk ?_)
          refine yK [(13, pV r7), (17, .slice p38 (((liveL pp.1.E).length)) c39), (18, iV (((pp.1.R.length : Nat) : Int))), (19, .bool false), (20, .bool true), (24, pV b327), (31, pV r418), (32, iV ((dupE pp.1 (dx, dy, dz) (hx, hy))))] fun lr423 => ?_
          refine ySq ?_
          refine ySq ?_
          refine yPl [0, 1] ?_
          refine yBb [] [(206, .bool true), (205, iV ((dupE pp.1 (dx, dy, dz) (hx, hy))))] [e0 0, e1 1 (.bool true)] [] [(.bool (((dupE pp.1 (dx, dy, dz) (hx, hy))) != 0), .bool true)] ⟨(ov_nt (by omega)), trivial⟩ nC (.mk ?_)
          refine yK [(13, pV r7), (17, .slice p38 (((liveL pp.1.E).length)) c39), (18, iV (((pp.1.R.length : Nat) : Int))), (19, .bool false), (20, .bool true), (24, pV b327), (31, pV r418), (206, .bool true)] fun lr424 => ?_
          refine yCt ?_
          refine ySq ?_
          refine yPl [0, 1, 2, 3, 4, 5, 6, 7, 8, 9, 10, 11, 12, 13, 14, 15, 16, 17, 18, 19, 20] ?_
          refine yBb [2, 3, 4, 5, 6, 7, 8, 9, 10, 11, 12, 13, 14, 15, 16, 17, 18, 19, 20] [(208, .agg #[iV 0, iV 0, uV 0]), (207, .agg #[iV 0, iV 0, uV 0])] [e2 0 [iV 0, iV 0, uV 0], e0 1] [(0, ⟨r418, 0, none⟩, iV 0), (0, ⟨r418, 1, none⟩, iV 0), (0, ⟨r418, 2, none⟩, uV 0)] [] trivial (kC (sat_cell h422 0 rfl rfl) (kC (sat_cell h422 0 rfl rfl) (kC (sat_cell h422 0 rfl rfl) nC))) ?_
          refine plain_law (i := 2) 209 (.bool true) (by kernel_rfl) (q30e28_eql_t (o := opA (RA Try.f10 [1, 1, 1, 1, 1, 1, 1, 1, 1, 1, 1, 1, 0, 1, 0, 0]) 2) (x := (Operand.tmp 207)) (y := (Operand.tmp 208)) 0 0 0 0 0 0 (by kernel_rfl) (by kernel_rfl) (by kernel_rfl) ⟨rfl, rfl, rfl⟩ _) ?_
          refine yB0 [5, 6, 7, 8, 9, 10, 11, 12, 13, 14, 15, 16, 17, 18, 19, 20] [3, 4] [(211, pV b327), (210, .bool true)] ?_
          have hll427 := live_len pp.1.E
          have h428 := tk6 (sf5 (sf4 (sf5 (sf5 (sf5 (sf5 h422))))))
          refine yA ?_
          refine yCl 212 Try.call24 (live_w b327 nn pp.1) h428 ?_
          rintro v K w429 (⟨p425, c426, rfl, rfl⟩) h430
          refine ⟨_, rfl, ?_⟩
          have h431 := ap2 h430
          refine yBb [13, 14, 15, 16, 17, 18, 19, 20] [(219, pV b327), (218, .bool true), (217, .bool true), (216, .bool true), (215, iV ((((liveL pp.1.E).length : Nat) : Int))), (214, .slice p38 (((liveL pp.1.E).length)) c39), (213, iV ((((liveL pp.1.E).length : Nat) : Int)))] [e0 6, e0 7, e0 8, e1 9 (.bool true), e0 10, e0 11, e0 12] [] [(.bool (((((liveL pp.1.E).length : Nat) : Int)) == ((((liveL pp.1.E).length : Nat) : Int))), .bool true)] ⟨(ov_et (by omega)), trivial⟩ nC ?_
          refine yA ?_
          refine yCl 220 Try.call22 (tlen_w b327 nn pp.1) h431 ?_
          rintro v K w432 (⟨rfl, rfl⟩) h433
          refine ⟨_, rfl, ?_⟩
          have h434 := ap1 h433
          refine yBb [18, 19, 20] [(224, .bool true), (223, .bool true), (222, .bool true), (221, iV (((pp.1.R.length : Nat) : Int)))] [e0 14, e1 15 (.bool true), e0 16, e0 17] [] [(.bool ((((pp.1.R.length : Nat) : Int)) == (((pp.1.R.length : Nat) : Int))), .bool true)] ⟨(ov_et (by omega)), trivial⟩ nC ?_
          refine fk_cut ([(224, .bool true), (13, pV r7), (17, .slice p38 (((liveL pp.1.E).length)) c39), (18, iV (((pp.1.R.length : Nat) : Int))), (19, .bool false), (20, .bool true), (24, pV b327), (31, pV r418), (206, .bool true)] : Fr) (by kernel_rfl) (fun a => PO _ _ _ _ a _) (fun lr435 => ?_)
          refine yA ?_
          refine yCl 225 Try.call18 (works_ht) h434 ?_
          rintro v K w436 (⟨rfl, rfl⟩) h437
          refine ⟨_, rfl, ?_⟩
          have h438 := ap0 h437
          refine yB0 [] [19, 20] [(14, .bool true), (226, .bool true)] (.mk ?_)
          refine yK [(14, .bool true)] fun lr439 => ?_
          refine yRt ?_
          repeat (first | simp only [Exit.inBlock] | simp only [Exit.then])
          have h440 := tk7 (sf6 (sf5 (sf5 (sf5 (sf5 (sf5 (sf6 h438)))))))
          have h441 := tk2 (sf1 (sf6 h440))
          refine hi_out [] (.bool true) [] (by kernel_rfl) (by intro q hq; cases hq) ?_
          exact ⟨.bool true, [Old wo], rfl, ⟨rfl, rfl⟩, h441⟩
        ·
         refine yA ?_
         refine yCl 100 Try.call12 ((by have he_ : opnE pp.1 (ox, oy, oz) L (hx, hy) = 16 := (by have hr_ := opn_ref (S := pp.1) (o := (ox, oy, oz)) (L := L) (h := (hx, hy)) (.inr (of_decide_eq_true ((has_live hI_.W).symm.trans (any_all htb (by omega)).symm))); omega); have h_ := topen_w b29 nn pp.1 ox oy oz hx hy L (by omega) (by omega) (by omega); rw [(opn_bad he_ (by first | decide | omega)).1, (opn_bad he_ (by first | decide | omega)).2, he_] at h_; exact h_)) h330 ?_
         rintro v K w442 (⟨rfl, rfl⟩) h443
         refine ⟨_, rfl, ?_⟩
         have h444 := ap1 h443
         refine yB0 [8, 9, 10] [5, 6, 7] [(102, iV 16), (101, .agg #[iV 0, iV 0, uV 0]), (95, .tuple #[.agg #[iV 0, iV 0, uV 0], iV 16])] ?_
         refine yA ?_
         refine yNp 25 28 [iV 0, iV 0, uV 0] h444 fun r445 w446 h447 => ?_
         refine yA ?_
         refine yS [(0, iV 0), (1, iV 0), (2, uV 0)] [iV 0, iV 0, uV 0] h447 fun w448 h449 => ?_
         refine yB0 [] [10] [(26, iV 16)] (.mk ?_)
         refine yK [(10, pV r1), (12, pV r4), (13, pV r7), (15, pV b29), (17, .slice p38 (((liveL pp.1.E).length)) c39), (18, iV (((pp.1.R.length : Nat) : Int))), (19, .bool false), (20, .bool true), (24, pV b327), (25, pV r445), (26, iV 16)] fun lr450 => ?_
         refine gi_join (x := CA Try.f10 [1, 1, 1, 1, 1, 1, 1, 1, 1, 1, 0]) (y := CA Try.f10 [1, 1, 1, 1, 1, 1, 1, 1, 1, 1, 1]) (fun a w => ∃ lr : Fr, a = mk 281 (([(12, pV r4), (13, pV r7), (17, .slice p38 (((liveL pp.1.E).length)) c39), (18, iV (((pp.1.R.length : Nat) : Int))), (19, .bool false), (20, .bool true), (24, pV b327)] : Fr) ++ lr) ∧ sat g w [TW b327 nn pp.1, Cl r7 [iV dx, iV dy, uV dz] 28, Cl r4 [iV hx, uV hy] 34, Old wo, R]) (by kernel_rfl) ?_ ?_
         ·
          refine ySq ?_
          refine yPl [0, 1] ?_
          refine yB0 [] [0, 1] [(104, .bool false), (103, iV 16)] (.mk ?_)
          refine yK [(10, pV r1), (12, pV r4), (13, pV r7), (15, pV b29), (17, .slice p38 (((liveL pp.1.E).length)) c39), (18, iV (((pp.1.R.length : Nat) : Int))), (19, .bool false), (20, .bool true), (24, pV b327), (25, pV r445), (26, iV 16), (104, .bool false)] fun lr451 => ?_
          refine yCf ?_
          refine ySq ?_
          refine yPl [0, 1, 2, 3, 4, 5, 6, 7, 8, 9, 10, 11, 12, 13, 14, 15, 16, 17, 18, 19, 20, 21, 22, 23, 24, 25, 26, 27, 28, 29, 30, 31, 32, 33, 34] ?_
          refine yBb [2, 3, 4, 5, 6, 7, 8, 9, 10, 11, 12, 13, 14, 15, 16, 17, 18, 19, 20, 21, 22, 23, 24, 25, 26, 27, 28, 29, 30, 31, 32, 33, 34] [(164, .agg #[iV 0, iV 0, uV 0]), (163, .agg #[iV 0, iV 0, uV 0])] [e2 0 [iV 0, iV 0, uV 0], e0 1] [(0, ⟨r445, 0, none⟩, iV 0), (0, ⟨r445, 1, none⟩, iV 0), (0, ⟨r445, 2, none⟩, uV 0)] [] trivial (kC (sat_cell h449 0 rfl rfl) (kC (sat_cell h449 0 rfl rfl) (kC (sat_cell h449 0 rfl rfl) nC))) ?_
          refine plain_law (i := 2) 165 (.bool false) (by kernel_rfl) (q30e28_neq_t (o := opA (RA Try.f10 [1, 1, 1, 1, 1, 1, 1, 1, 1, 1, 0, 1, 1, 0]) 2) (x := (Operand.tmp 163)) (y := (Operand.tmp 164)) 0 0 0 0 0 0 (by kernel_rfl) (by kernel_rfl) (by kernel_rfl) ⟨rfl, rfl, rfl⟩ _) ?_
          refine yB0 [5, 6, 7, 8, 9, 10, 11, 12, 13, 14, 15, 16, 17, 18, 19, 20, 21, 22, 23, 24, 25, 26, 27, 28, 29, 30, 31, 32, 33, 34] [3, 4] [(167, pV b29), (166, .bool false)] ?_
          have h452 := tk9 (sf8 (sf7 (sf8 (sf8 (sf8 (sf8 (sf8 (sf8 (sf8 h449)))))))))
          refine yA ?_
          refine yCl 168 Try.call22 (tlen_w b29 nn pp.1) h452 ?_
          rintro v K w453 (⟨rfl, rfl⟩) h454
          refine ⟨_, rfl, ?_⟩
          have h455 := ap1 h454
          refine yBb [11, 12, 13, 14, 15, 16, 17, 18, 19, 20, 21, 22, 23, 24, 25, 26, 27, 28, 29, 30, 31, 32, 33, 34] [(173, pV b29), (172, .bool false), (171, .bool false), (170, .bool false), (169, iV (((pp.1.R.length : Nat) : Int)))] [e0 6, e1 7 (.bool false), e0 8, e0 9, e0 10] [] [(.bool ((((pp.1.R.length : Nat) : Int)) != (((pp.1.R.length : Nat) : Int))), .bool false)] ⟨(ov_nf (by omega)), trivial⟩ nC ?_
          have hll458 := live_len pp.1.E
          refine yA ?_
          refine yCl 174 Try.call24 (live_w b29 nn pp.1) h455 ?_
          rintro v K w459 (⟨p456, c457, rfl, rfl⟩) h460
          refine ⟨_, rfl, ?_⟩
          have h461 := ap2 h460
          refine yBb [] [(197, .bool false), (196, .bool false), (195, .bool false), (194, iV 16), (193, .bool true), (192, .bool true), (191, .bool true), (190, iV 16), (189, .bool true), (188, .bool true), (187, .bool true), (186, iV 16), (185, .bool true), (184, .bool true), (183, .bool true), (182, .bool false), (181, .bool false), (180, .bool false), (179, .bool false), (178, .bool false), (177, iV ((((liveL pp.1.E).length : Nat) : Int))), (176, .slice p38 (((liveL pp.1.E).length)) c39), (175, iV ((((liveL pp.1.E).length : Nat) : Int)))] [e0 12, e0 13, e0 14, e1 15 (.bool false), e0 16, e0 17, e0 18, e0 19, e0 20, e0 21, e0 22, e0 23, e0 24, e0 25, e0 26, e0 27, e0 28, e0 29, e0 30, e0 31, e0 32, e0 33, e0 34] [] [(.bool (((((liveL pp.1.E).length : Nat) : Int)) != ((((liveL pp.1.E).length : Nat) : Int))), .bool false)] ⟨(ov_nf (by omega)), trivial⟩ nC (.mk ?_)
          refine yK [(12, pV r4), (13, pV r7), (17, .slice p38 (((liveL pp.1.E).length)) c39), (18, iV (((pp.1.R.length : Nat) : Int))), (19, .bool false), (20, .bool true), (24, pV b327), (197, .bool false)] fun lr462 => ?_
          refine yCf ?_
          refine ySk ?_
          have h463 := tk10 (sf9 (sf9 (sf9 (sf9 (sf9 (sf4 (sf4 (sf4 (sf5 (sf7 h461))))))))))
          have h464 := tk5 h463
          exact ⟨_, (mk_live [(12, pV r4), (13, pV r7), (17, .slice p38 (((liveL pp.1.E).length)) c39), (18, iV (((pp.1.R.length : Nat) : Int))), (19, .bool false), (20, .bool true), (24, pV b327)] ⟨rfl, rfl, rfl, rfl, rfl, rfl, rfl, trivial⟩), h464⟩
         ·
          rintro a465 w466 ⟨lr468, rfl, h467⟩
          refine ySq ?_
          refine yPl [0, 1, 2, 3, 4, 5, 6, 7, 8, 9] ?_
          refine yBb [3, 4, 5, 6, 7, 8, 9] [(201, .agg #[iV hx, uV hy]), (200, .agg #[iV dx, iV dy, uV dz]), (199, pV b327)] [e0 0, e2 1 [iV dx, iV dy, uV dz], e2 2 [iV hx, uV hy]] [(2, ⟨r4, 0, none⟩, iV hx), (2, ⟨r4, 1, none⟩, uV hy), (1, ⟨r7, 0, none⟩, iV dx), (1, ⟨r7, 1, none⟩, iV dy), (1, ⟨r7, 2, none⟩, uV dz)] [] trivial (kC (sat_cell h467 2 rfl rfl) (kC (sat_cell h467 2 rfl rfl) (kC (sat_cell h467 1 rfl rfl) (kC (sat_cell h467 1 rfl rfl) (kC (sat_cell h467 1 rfl rfl) nC))))) ?_
          have hne_ : dupE pp.1 (dx, dy, dz) (hx, hy) ≠ 0 := fun q_ => (dup_obj q_).2 (of_decide_eq_true ((has_live hI_.W).symm.trans (any_all htb (by omega)).symm))
          refine yA ?_
          refine yCl 202 Try.call14 ((by have h_ := tdup_w b327 nn pp.1 dx dy dz hx hy (by omega) (by omega); rw [(dup_bad rfl (show dupE pp.1 (dx, dy, dz) (hx, hy) ≠ 0 from by omega)).1, (dup_bad rfl (show dupE pp.1 (dx, dy, dz) (hx, hy) ≠ 0 from by omega)).2] at h_; exact h_)) h467 ?_
          rintro v K w469 (⟨rfl, rfl⟩) h470
          refine ⟨_, rfl, ?_⟩
          have h471 := ap1 h470
          refine yB0 [7, 8, 9] [4, 5, 6] [(204, iV ((dupE pp.1 (dx, dy, dz) (hx, hy)))), (203, .agg #[iV 0, iV 0, uV 0]), (198, .tuple #[.agg #[iV 0, iV 0, uV 0], iV ((dupE pp.1 (dx, dy, dz) (hx, hy)))])] ?_
          refine yA ?_
          refine yNp 31 28 [iV 0, iV 0, uV 0] h471 fun r472 w473 h474 => ?_
          refine yA ?_
          refine yS [(0, iV 0), (1, iV 0), (2, uV 0)] [iV 0, iV 0, uV 0] h474 fun w475 h476 => ?_
          refine yB0 [] [9] [(32, iV ((dupE pp.1 (dx, dy, dz) (hx, hy))))] (.mk ?_)
          refine yK [(13, pV r7), (17, .slice p38 (((liveL pp.1.E).length)) c39), (18, iV (((pp.1.R.length : Nat) : Int))), (19, .bool false), (20, .bool true), (24, pV b327), (31, pV r472), (32, iV ((dupE pp.1 (dx, dy, dz) (hx, hy))))] fun lr477 => ?_
          refine ySq ?_
          refine ySq ?_
          refine yPl [0, 1] ?_
          refine yBb [] [(206, .bool true), (205, iV ((dupE pp.1 (dx, dy, dz) (hx, hy))))] [e0 0, e1 1 (.bool true)] [] [(.bool (((dupE pp.1 (dx, dy, dz) (hx, hy))) != 0), .bool true)] ⟨(ov_nt (by omega)), trivial⟩ nC (.mk ?_)
          refine yK [(13, pV r7), (17, .slice p38 (((liveL pp.1.E).length)) c39), (18, iV (((pp.1.R.length : Nat) : Int))), (19, .bool false), (20, .bool true), (24, pV b327), (31, pV r472), (206, .bool true)] fun lr478 => ?_
          refine yCt ?_
          refine ySq ?_
          refine yPl [0, 1, 2, 3, 4, 5, 6, 7, 8, 9, 10, 11, 12, 13, 14, 15, 16, 17, 18, 19, 20] ?_
          refine yBb [2, 3, 4, 5, 6, 7, 8, 9, 10, 11, 12, 13, 14, 15, 16, 17, 18, 19, 20] [(208, .agg #[iV 0, iV 0, uV 0]), (207, .agg #[iV 0, iV 0, uV 0])] [e2 0 [iV 0, iV 0, uV 0], e0 1] [(0, ⟨r472, 0, none⟩, iV 0), (0, ⟨r472, 1, none⟩, iV 0), (0, ⟨r472, 2, none⟩, uV 0)] [] trivial (kC (sat_cell h476 0 rfl rfl) (kC (sat_cell h476 0 rfl rfl) (kC (sat_cell h476 0 rfl rfl) nC))) ?_
          refine plain_law (i := 2) 209 (.bool true) (by kernel_rfl) (q30e28_eql_t (o := opA (RA Try.f10 [1, 1, 1, 1, 1, 1, 1, 1, 1, 1, 1, 1, 0, 1, 0, 0]) 2) (x := (Operand.tmp 207)) (y := (Operand.tmp 208)) 0 0 0 0 0 0 (by kernel_rfl) (by kernel_rfl) (by kernel_rfl) ⟨rfl, rfl, rfl⟩ _) ?_
          refine yB0 [5, 6, 7, 8, 9, 10, 11, 12, 13, 14, 15, 16, 17, 18, 19, 20] [3, 4] [(211, pV b327), (210, .bool true)] ?_
          have hll481 := live_len pp.1.E
          have h482 := tk6 (sf5 (sf4 (sf5 (sf5 (sf5 (sf5 h476))))))
          refine yA ?_
          refine yCl 212 Try.call24 (live_w b327 nn pp.1) h482 ?_
          rintro v K w483 (⟨p479, c480, rfl, rfl⟩) h484
          refine ⟨_, rfl, ?_⟩
          have h485 := ap2 h484
          refine yBb [13, 14, 15, 16, 17, 18, 19, 20] [(219, pV b327), (218, .bool true), (217, .bool true), (216, .bool true), (215, iV ((((liveL pp.1.E).length : Nat) : Int))), (214, .slice p38 (((liveL pp.1.E).length)) c39), (213, iV ((((liveL pp.1.E).length : Nat) : Int)))] [e0 6, e0 7, e0 8, e1 9 (.bool true), e0 10, e0 11, e0 12] [] [(.bool (((((liveL pp.1.E).length : Nat) : Int)) == ((((liveL pp.1.E).length : Nat) : Int))), .bool true)] ⟨(ov_et (by omega)), trivial⟩ nC ?_
          refine yA ?_
          refine yCl 220 Try.call22 (tlen_w b327 nn pp.1) h485 ?_
          rintro v K w486 (⟨rfl, rfl⟩) h487
          refine ⟨_, rfl, ?_⟩
          have h488 := ap1 h487
          refine yBb [18, 19, 20] [(224, .bool true), (223, .bool true), (222, .bool true), (221, iV (((pp.1.R.length : Nat) : Int)))] [e0 14, e1 15 (.bool true), e0 16, e0 17] [] [(.bool ((((pp.1.R.length : Nat) : Int)) == (((pp.1.R.length : Nat) : Int))), .bool true)] ⟨(ov_et (by omega)), trivial⟩ nC ?_
          refine fk_cut ([(224, .bool true), (13, pV r7), (17, .slice p38 (((liveL pp.1.E).length)) c39), (18, iV (((pp.1.R.length : Nat) : Int))), (19, .bool false), (20, .bool true), (24, pV b327), (31, pV r472), (206, .bool true)] : Fr) (by kernel_rfl) (fun a => PO _ _ _ _ a _) (fun lr489 => ?_)
          refine yA ?_
          refine yCl 225 Try.call18 (works_ht) h488 ?_
          rintro v K w490 (⟨rfl, rfl⟩) h491
          refine ⟨_, rfl, ?_⟩
          have h492 := ap0 h491
          refine yB0 [] [19, 20] [(14, .bool true), (226, .bool true)] (.mk ?_)
          refine yK [(14, .bool true)] fun lr493 => ?_
          refine yRt ?_
          repeat (first | simp only [Exit.inBlock] | simp only [Exit.then])
          have h494 := tk7 (sf6 (sf5 (sf5 (sf5 (sf5 (sf5 (sf6 h492)))))))
          have h495 := tk2 (sf1 (sf6 h494))
          refine hi_out [] (.bool true) [] (by kernel_rfl) (by intro q hq; cases hq) ?_
          exact ⟨.bool true, [Old wo], rfl, ⟨rfl, rfl⟩, h495⟩
    ·
     refine ySq ?_
     refine yPl [0] ?_
     refine yB0 [] [0] [(20, .bool false)] (.mk ?_)
     refine yK [(4, .string (St L)), (10, pV r1), (12, pV r4), (13, pV r7), (15, pV b29), (17, .slice p38 (((liveL pp.1.E).length)) c39), (18, iV (((pp.1.R.length : Nat) : Int))), (19, .bool true), (20, .bool false)] fun lr496 => ?_
     refine ySq ?_
     refine ySq ?_
     refine yPl [0] ?_
     refine yB0 [] [0] [(21, iV 0)] (.mk ?_)
     refine yK [(4, .string (St L)), (10, pV r1), (12, pV r4), (13, pV r7), (15, pV b29), (17, .slice p38 (((liveL pp.1.E).length)) c39), (18, iV (((pp.1.R.length : Nat) : Int))), (19, .bool true), (20, .bool false), (21, iV 0)] fun lr497 => ?_
     refine yBk 0 ?_
     have h498 := tk8 (sf7 (sf6 (sf7 (sf7 (sf7 (sf7 (sf7 (sf7 h53))))))))
     have hl499 := fl_n eO_ok (by decide) h498
     have hRl_ := hI_.W.rl
     have h500 := tk8 (sf7 (sf6 (sf7 (sf7 (sf7 (sf4 (sf7 (sf2 h498))))))))
     have h501 := tk7 h500
     refine gi_lp (x := CA Try.f10 [1, 1, 1, 1, 1, 1, 1, 0, 1, 0, 0]) (by kernel_rfl) (fun mz_ a w => ∃ i : Nat, ∃ tb : Bool, ∃ lr : Fr, mz_ = ((liveL pp.1.E).length) - i ∧ (i ≤ ((liveL pp.1.E).length)) ∧ (tb = ((liveL pp.1.E).take i).any (fun y : Ky => decide ((fndX pp.1 (y.1, y.2.1, y.2.2)).h = (hx, hy)))) ∧ a = mk 281 (([(4, .string (St L)), (10, pV r1), (12, pV r4), (13, pV r7), (15, pV b29), (17, .slice p38 (((liveL pp.1.E).length)) c39), (18, iV (((pp.1.R.length : Nat) : Int))), (19, .bool true), (20, .bool (tb)), (21, iV (i : Int))] : Fr) ++ lr) ∧ sat g w [TW b29 nn pp.1, Sl 28 3 p38 (((liveL pp.1.E).length)) c39 (fl eO (liveL pp.1.E)), Cl r7 [iV dx, iV dy, uV dz] 28, Cl r4 [iV hx, uV hy] 34, Cl r1 [iV ox, iV oy, uV oz] 32, Old wo, R]) (((liveL pp.1.E).length) - 0) ⟨0, false, _, rfl, (Nat.zero_le _), rfl, (mk_live [(4, .string (St L)), (10, pV r1), (12, pV r4), (13, pV r7), (15, pV b29), (17, .slice p38 (((liveL pp.1.E).length)) c39), (18, iV (((pp.1.R.length : Nat) : Int))), (19, .bool true), (20, .bool (false)), (21, iV (0 : Int))] ⟨rfl, rfl, rfl, rfl, rfl, rfl, rfl, rfl, rfl, (ov_int (by omega)), trivial⟩), h501⟩ ?_
     rintro m503 a504 w505 ⟨i, tb, lr502, rfl, hi_, htb, rfl, h506⟩
     cases tb
     ·
      refine ySq ?_
      refine ySq ?_
      refine yPl [0, 1, 2, 3] ?_
      refine yB0 [3] [0, 1, 2] [(74, iV ((((liveL pp.1.E).length : Nat) : Int))), (73, .slice p38 (((liveL pp.1.E).length)) c39), (72, iV (i : Int))] ?_
      by_cases c507 : (i : Int) < (((liveL pp.1.E).length : Nat) : Int)
      ·
       refine yBb [] [(75, .bool true)] [e1 3 (.bool true)] [] [(.bool (decide ((i : Int) < (((liveL pp.1.E).length : Nat) : Int))), .bool true)] ⟨(ov_t (by omega)), trivial⟩ nC (.mk ?_)
       refine yK [(4, .string (St L)), (10, pV r1), (12, pV r4), (13, pV r7), (15, pV b29), (17, .slice p38 (((liveL pp.1.E).length)) c39), (18, iV (((pp.1.R.length : Nat) : Int))), (19, .bool true), (20, .bool false), (21, iV (i : Int)), (75, .bool true)] fun lr508 => ?_
       refine yCt ?_
       refine ySk ?_
       refine ySq ?_
       refine yBk 1 ?_
       refine ySq ?_
       refine yPl [0, 1, 2, 3, 4, 5, 6, 7, 8, 9, 10, 11] ?_
       obtain ⟨b509, hp510⟩ := sl_ptr0 (j := 1) h506 rfl (by omega)
       refine yB0 [3, 4, 5, 6, 7, 8, 9, 10, 11] [0, 1, 2] [(81, iV (i : Int)), (80, .slice p38 (((liveL pp.1.E).length)) c39), (79, pV b29)] ?_
       refine plain_law (i := 3) 82 (.pointer (some ⟨b509, i * 3, none⟩)) (by kernel_rfl) (law_indexSlP (o := opA (RA Try.f10 [1, 1, 1, 1, 1, 1, 1, 0, 1, 0, 0, 1, 0, 0, 0]) 3) (x := (Operand.tmp 80)) (i := (Operand.tmp 81)) (p := p38) (b := b509) (off := 0) (z := (i : Int)) (len := (((liveL pp.1.E).length))) (cap := c39) (by kernel_rfl) Try.underlying45 3 (by kernel_rfl) i (by kernel_rfl) hp510 (by kernel_rfl) (by omega) (by omega) (i * 3) (by omega) _) ?_
       obtain ⟨x511, hx512⟩ : ∃ x, (liveL pp.1.E)[i]? = some x := ⟨_, List.getElem?_eq_getElem (by rw [hl499]; omega)⟩
       have hb513 := lv_ok hI_.W (List.mem_of_getElem? hx512)
       refine yBb [5, 6, 7, 8, 9, 10, 11] [(83, .agg #[iV x511.1, iV x511.2.1, uV x511.2.2])] [e2 4 [iV x511.1, iV x511.2.1, uV x511.2.2]] [(4, ⟨b509, i * 3, none⟩, iV x511.1), (4, ⟨b509, i * 3 + 1, none⟩, iV x511.2.1), (4, ⟨b509, i * 3 + 2, none⟩, uV x511.2.2)] [] trivial (kC (gv_cell (j := 1) h506 rfl (gv_sl _ _ _) hp510 (fl_get eO_ok (j := 0) (v := iV x511.1) hx512 rfl) (i * 3) (by omega)) (kC (gv_cell (j := 1) h506 rfl (gv_sl _ _ _) hp510 (fl_get eO_ok (j := 1) (v := iV x511.2.1) hx512 rfl) (i * 3 + 1) (by omega)) (kC (gv_cell (j := 1) h506 rfl (gv_sl _ _ _) hp510 (fl_get eO_ok (j := 2) (v := uV x511.2.2) hx512 rfl) (i * 3 + 2) (by omega)) nC))) ?_
       refine yA ?_
       refine yCl 84 Try.call26 ((by have h_ := thnd_w b29 nn pp.1 x511.1 x511.2.1 x511.2.2 (by omega) (by omega); rw [(is_there hI_.W (List.mem_of_getElem? hx512))] at h_; exact h_)) h506 ?_
       rintro v K w514 (⟨rfl, rfl⟩) h515
       refine ⟨_, rfl, ?_⟩
       have h516 := ap1 h515
       refine yB0 [9, 10, 11] [6, 7, 8] [(86, iV 0), (85, .agg #[iV ((fndX pp.1 (x511.1, x511.2.1, x511.2.2)).h.1), uV ((fndX pp.1 (x511.1, x511.2.1, x511.2.2)).h.2)]), (78, .tuple #[.agg #[iV ((fndX pp.1 (x511.1, x511.2.1, x511.2.2)).h.1), uV ((fndX pp.1 (x511.1, x511.2.1, x511.2.2)).h.2)], iV 0])] ?_
       refine yA ?_
       refine yNp 22 34 [iV 0, uV 0] h516 fun r517 w518 h519 => ?_
       refine yA ?_
       refine yS [(0, iV ((fndX pp.1 (x511.1, x511.2.1, x511.2.2)).h.1)), (1, uV ((fndX pp.1 (x511.1, x511.2.1, x511.2.2)).h.2))] [iV ((fndX pp.1 (x511.1, x511.2.1, x511.2.2)).h.1), uV ((fndX pp.1 (x511.1, x511.2.1, x511.2.2)).h.2)] h519 fun w520 h521 => ?_
       refine yB0 [] [11] [(23, iV 0)] (.mk ?_)
       refine yK [(4, .string (St L)), (10, pV r1), (12, pV r4), (13, pV r7), (15, pV b29), (17, .slice p38 (((liveL pp.1.E).length)) c39), (18, iV (((pp.1.R.length : Nat) : Int))), (19, .bool true), (20, .bool false), (21, iV (i : Int)), (22, pV r517)] fun lr522 => ?_
       refine yPl [0, 1, 2, 3, 4, 5, 6] ?_
       refine yBb [4, 5, 6] [(90, .agg #[iV hx, uV hy]), (89, .agg #[iV ((fndX pp.1 (x511.1, x511.2.1, x511.2.2)).h.1), uV ((fndX pp.1 (x511.1, x511.2.1, x511.2.2)).h.2)]), (88, .bool false), (87, .bool false)] [e0 0, e0 1, e2 2 [iV ((fndX pp.1 (x511.1, x511.2.1, x511.2.2)).h.1), uV ((fndX pp.1 (x511.1, x511.2.1, x511.2.2)).h.2)], e2 3 [iV hx, uV hy]] [(3, ⟨r4, 0, none⟩, iV hx), (3, ⟨r4, 1, none⟩, uV hy), (2, ⟨r517, 0, none⟩, iV ((fndX pp.1 (x511.1, x511.2.1, x511.2.2)).h.1)), (2, ⟨r517, 1, none⟩, uV ((fndX pp.1 (x511.1, x511.2.1, x511.2.2)).h.2))] [] trivial (kC (sat_cell h521 4 rfl rfl) (kC (sat_cell h521 4 rfl rfl) (kC (sat_cell h521 0 rfl rfl) (kC (sat_cell h521 0 rfl rfl) nC)))) ?_
       by_cases c523 : (fndX pp.1 (x511.1, x511.2.1, x511.2.2)).h.1 = hx
       ·
        by_cases c524 : (fndX pp.1 (x511.1, x511.2.1, x511.2.2)).h.2 = hy
        ·
         refine plain_law (i := 4) 91 (.bool true) (by kernel_rfl) (q30e34_eql_t (o := opA (RA Try.f10 [1, 1, 1, 1, 1, 1, 1, 0, 1, 0, 0, 1, 0, 0, 1]) 4) (x := (Operand.tmp 89)) (y := (Operand.tmp 90)) ((fndX pp.1 (x511.1, x511.2.1, x511.2.2)).h.1) ((fndX pp.1 (x511.1, x511.2.1, x511.2.2)).h.2) hx hy (by kernel_rfl) (by kernel_rfl) (by kernel_rfl) ⟨(by omega), (by omega)⟩ _) ?_
         refine yB0 [] [5, 6] [(20, .bool true), (92, .bool true)] (.mk ?_)
         refine yK [(4, .string (St L)), (10, pV r1), (12, pV r4), (13, pV r7), (15, pV b29), (17, .slice p38 (((liveL pp.1.E).length)) c39), (18, iV (((pp.1.R.length : Nat) : Int))), (19, .bool true), (20, .bool true), (21, iV (i : Int))] fun lr525 => ?_
         refine yPl [0, 1, 2] ?_
         refine yBb [] [(21, iV ((i : Int) + 1)), (77, iV ((i : Int) + 1)), (76, iV (i : Int))] [e0 0, e1 1 (iV ((i : Int) + 1)), e0 2] [] [(iV (IntKind.wrap .i64 ((i : Int) + 1)), iV ((i : Int) + 1))] ⟨(ov_i64 (by omega) (by omega) (by omega)), trivial⟩ nC (.mk ?_)
         have h526 := tk8 (sf7 (sf7 (sf7 (sf7 (sf7 (sf7 (sf7 h521)))))))
         have h527 := tk7 h526
         change ∃ n', n' < _ ∧ _
         refine ⟨(((liveL pp.1.E).length) - (i + 1)), by omega, (i + 1), true, _, rfl, (by omega), (any_go htb hx512 (decide_eq_true (Prod.ext (by show _ = hx; omega) (by show _ = hy; omega)))), (mk_live [(4, .string (St L)), (10, pV r1), (12, pV r4), (13, pV r7), (15, pV b29), (17, .slice p38 (((liveL pp.1.E).length)) c39), (18, iV (((pp.1.R.length : Nat) : Int))), (19, .bool true), (20, .bool (true)), (21, iV ((((i + 1) : Nat) : Int)))] ⟨rfl, rfl, rfl, rfl, rfl, rfl, rfl, rfl, rfl, (ov_int (by omega)), trivial⟩), h527⟩
        ·
         refine plain_law (i := 4) 91 (.bool false) (by kernel_rfl) (q30e34_eql_f (o := opA (RA Try.f10 [1, 1, 1, 1, 1, 1, 1, 0, 1, 0, 0, 1, 0, 0, 1]) 4) (x := (Operand.tmp 89)) (y := (Operand.tmp 90)) ((fndX pp.1 (x511.1, x511.2.1, x511.2.2)).h.1) ((fndX pp.1 (x511.1, x511.2.1, x511.2.2)).h.2) hx hy (by kernel_rfl) (by kernel_rfl) (by kernel_rfl) (by omega) _) ?_
         refine yB0 [] [5, 6] [(20, .bool false), (92, .bool false)] (.mk ?_)
         refine yK [(4, .string (St L)), (10, pV r1), (12, pV r4), (13, pV r7), (15, pV b29), (17, .slice p38 (((liveL pp.1.E).length)) c39), (18, iV (((pp.1.R.length : Nat) : Int))), (19, .bool true), (20, .bool false), (21, iV (i : Int))] fun lr528 => ?_
         refine yPl [0, 1, 2] ?_
         refine yBb [] [(21, iV ((i : Int) + 1)), (77, iV ((i : Int) + 1)), (76, iV (i : Int))] [e0 0, e1 1 (iV ((i : Int) + 1)), e0 2] [] [(iV (IntKind.wrap .i64 ((i : Int) + 1)), iV ((i : Int) + 1))] ⟨(ov_i64 (by omega) (by omega) (by omega)), trivial⟩ nC (.mk ?_)
         have h529 := tk8 (sf7 (sf7 (sf7 (sf7 (sf7 (sf7 (sf7 h521)))))))
         have h530 := tk7 h529
         change ∃ n', n' < _ ∧ _
         refine ⟨(((liveL pp.1.E).length) - (i + 1)), by omega, (i + 1), false, _, rfl, (by omega), (any_go htb hx512 (decide_eq_false (ne_pair (by omega)))), (mk_live [(4, .string (St L)), (10, pV r1), (12, pV r4), (13, pV r7), (15, pV b29), (17, .slice p38 (((liveL pp.1.E).length)) c39), (18, iV (((pp.1.R.length : Nat) : Int))), (19, .bool true), (20, .bool (false)), (21, iV ((((i + 1) : Nat) : Int)))] ⟨rfl, rfl, rfl, rfl, rfl, rfl, rfl, rfl, rfl, (ov_int (by omega)), trivial⟩), h530⟩
       ·
        refine plain_law (i := 4) 91 (.bool false) (by kernel_rfl) (q30e34_eql_f (o := opA (RA Try.f10 [1, 1, 1, 1, 1, 1, 1, 0, 1, 0, 0, 1, 0, 0, 1]) 4) (x := (Operand.tmp 89)) (y := (Operand.tmp 90)) ((fndX pp.1 (x511.1, x511.2.1, x511.2.2)).h.1) ((fndX pp.1 (x511.1, x511.2.1, x511.2.2)).h.2) hx hy (by kernel_rfl) (by kernel_rfl) (by kernel_rfl) (by omega) _) ?_
        refine yB0 [] [5, 6] [(20, .bool false), (92, .bool false)] (.mk ?_)
        refine yK [(4, .string (St L)), (10, pV r1), (12, pV r4), (13, pV r7), (15, pV b29), (17, .slice p38 (((liveL pp.1.E).length)) c39), (18, iV (((pp.1.R.length : Nat) : Int))), (19, .bool true), (20, .bool false), (21, iV (i : Int))] fun lr531 => ?_
        refine yPl [0, 1, 2] ?_
        refine yBb [] [(21, iV ((i : Int) + 1)), (77, iV ((i : Int) + 1)), (76, iV (i : Int))] [e0 0, e1 1 (iV ((i : Int) + 1)), e0 2] [] [(iV (IntKind.wrap .i64 ((i : Int) + 1)), iV ((i : Int) + 1))] ⟨(ov_i64 (by omega) (by omega) (by omega)), trivial⟩ nC (.mk ?_)
        have h532 := tk8 (sf7 (sf7 (sf7 (sf7 (sf7 (sf7 (sf7 h521)))))))
        have h533 := tk7 h532
        change ∃ n', n' < _ ∧ _
        refine ⟨(((liveL pp.1.E).length) - (i + 1)), by omega, (i + 1), false, _, rfl, (by omega), (any_go htb hx512 (decide_eq_false (ne_pair (by omega)))), (mk_live [(4, .string (St L)), (10, pV r1), (12, pV r4), (13, pV r7), (15, pV b29), (17, .slice p38 (((liveL pp.1.E).length)) c39), (18, iV (((pp.1.R.length : Nat) : Int))), (19, .bool true), (20, .bool (false)), (21, iV ((((i + 1) : Nat) : Int)))] ⟨rfl, rfl, rfl, rfl, rfl, rfl, rfl, rfl, rfl, (ov_int (by omega)), trivial⟩), h533⟩
      ·
       refine yBb [] [(75, .bool false)] [e1 3 (.bool false)] [] [(.bool (decide ((i : Int) < (((liveL pp.1.E).length : Nat) : Int))), .bool false)] ⟨(ov_f (by omega)), trivial⟩ nC (.mk ?_)
       refine yK [(4, .string (St L)), (10, pV r1), (12, pV r4), (13, pV r7), (15, pV b29), (17, .slice p38 (((liveL pp.1.E).length)) c39), (18, iV (((pp.1.R.length : Nat) : Int))), (19, .bool true), (20, .bool false), (21, iV (i : Int)), (75, .bool false)] fun lr534 => ?_
       refine yCf ?_
       refine yEx 0 ?_
       refine ySq ?_
       refine yPl [0, 1, 2] ?_
       refine yB0 [1, 2] [0] [(93, pV b29)] ?_
       refine yA ?_
       refine yCl 94 Try.call30 (tcopy_w b29 nn pp.1) h506 ?_
       rintro v K w536 (⟨b535, rfl, rfl⟩) h537
       refine ⟨_, rfl, ?_⟩
       have h538 := ap2 h537
       refine yB0 [] [2] [(24, pV b535)] (.mk ?_)
       refine yK [(4, .string (St L)), (10, pV r1), (12, pV r4), (13, pV r7), (15, pV b29), (17, .slice p38 (((liveL pp.1.E).length)) c39), (18, iV (((pp.1.R.length : Nat) : Int))), (19, .bool true), (20, .bool false), (24, pV b535)] fun lr539 => ?_
       refine ySq ?_
       refine yPl [0, 1, 2, 3, 4, 5, 6, 7, 8, 9, 10] ?_
       refine yBb [4, 5, 6, 7, 8, 9, 10] [(99, .agg #[iV hx, uV hy]), (98, .string (St L)), (97, .agg #[iV ox, iV oy, uV oz]), (96, pV b29)] [e0 0, e2 1 [iV ox, iV oy, uV oz], e0 2, e2 3 [iV hx, uV hy]] [(3, ⟨r4, 0, none⟩, iV hx), (3, ⟨r4, 1, none⟩, uV hy), (1, ⟨r1, 0, none⟩, iV ox), (1, ⟨r1, 1, none⟩, iV oy), (1, ⟨r1, 2, none⟩, uV oz)] [] trivial (kC (sat_cell h538 4 rfl rfl) (kC (sat_cell h538 4 rfl rfl) (kC (sat_cell h538 5 rfl rfl) (kC (sat_cell h538 5 rfl rfl) (kC (sat_cell h538 5 rfl rfl) nC))))) ?_
       by_cases c540 : (opnE pp.1 (ox, oy, oz) L (hx, hy)) = 2
       ·
        refine yA ?_
        refine yCl 100 Try.call12 ((by have he_ : opnE pp.1 (ox, oy, oz) L (hx, hy) = 2 := (by omega); have h_ := topen_w b29 nn pp.1 ox oy oz hx hy L (by omega) (by omega) (by omega); rw [(opn_bad he_ (by first | decide | omega)).1, (opn_bad he_ (by first | decide | omega)).2, he_] at h_; exact h_)) h538 ?_
        rintro v K w541 (⟨rfl, rfl⟩) h542
        refine ⟨_, rfl, ?_⟩
        have h543 := ap1 h542
        refine yB0 [8, 9, 10] [5, 6, 7] [(102, iV 2), (101, .agg #[iV 0, iV 0, uV 0]), (95, .tuple #[.agg #[iV 0, iV 0, uV 0], iV 2])] ?_
        refine yA ?_
        refine yNp 25 28 [iV 0, iV 0, uV 0] h543 fun r544 w545 h546 => ?_
        refine yA ?_
        refine yS [(0, iV 0), (1, iV 0), (2, uV 0)] [iV 0, iV 0, uV 0] h546 fun w547 h548 => ?_
        refine yB0 [] [10] [(26, iV 2)] (.mk ?_)
        refine yK [(10, pV r1), (12, pV r4), (13, pV r7), (15, pV b29), (17, .slice p38 (((liveL pp.1.E).length)) c39), (18, iV (((pp.1.R.length : Nat) : Int))), (19, .bool true), (20, .bool false), (24, pV b535), (25, pV r544), (26, iV 2)] fun lr549 => ?_
        refine gi_join (x := CA Try.f10 [1, 1, 1, 1, 1, 1, 1, 1, 1, 1, 0]) (y := CA Try.f10 [1, 1, 1, 1, 1, 1, 1, 1, 1, 1, 1]) (fun a w => ∃ lr : Fr, a = mk 281 (([(12, pV r4), (13, pV r7), (17, .slice p38 (((liveL pp.1.E).length)) c39), (18, iV (((pp.1.R.length : Nat) : Int))), (19, .bool true), (20, .bool false), (24, pV b535)] : Fr) ++ lr) ∧ sat g w [TW b535 nn pp.1, Cl r7 [iV dx, iV dy, uV dz] 28, Cl r4 [iV hx, uV hy] 34, Old wo, R]) (by kernel_rfl) ?_ ?_
        ·
         refine ySq ?_
         refine yPl [0, 1] ?_
         refine yB0 [] [0, 1] [(104, .bool false), (103, iV 2)] (.mk ?_)
         refine yK [(10, pV r1), (12, pV r4), (13, pV r7), (15, pV b29), (17, .slice p38 (((liveL pp.1.E).length)) c39), (18, iV (((pp.1.R.length : Nat) : Int))), (19, .bool true), (20, .bool false), (24, pV b535), (25, pV r544), (26, iV 2), (104, .bool false)] fun lr550 => ?_
         refine yCf ?_
         refine ySq ?_
         refine yPl [0, 1, 2, 3, 4, 5, 6, 7, 8, 9, 10, 11, 12, 13, 14, 15, 16, 17, 18, 19, 20, 21, 22, 23, 24, 25, 26, 27, 28, 29, 30, 31, 32, 33, 34] ?_
         refine yBb [2, 3, 4, 5, 6, 7, 8, 9, 10, 11, 12, 13, 14, 15, 16, 17, 18, 19, 20, 21, 22, 23, 24, 25, 26, 27, 28, 29, 30, 31, 32, 33, 34] [(164, .agg #[iV 0, iV 0, uV 0]), (163, .agg #[iV 0, iV 0, uV 0])] [e2 0 [iV 0, iV 0, uV 0], e0 1] [(0, ⟨r544, 0, none⟩, iV 0), (0, ⟨r544, 1, none⟩, iV 0), (0, ⟨r544, 2, none⟩, uV 0)] [] trivial (kC (sat_cell h548 0 rfl rfl) (kC (sat_cell h548 0 rfl rfl) (kC (sat_cell h548 0 rfl rfl) nC))) ?_
         refine plain_law (i := 2) 165 (.bool false) (by kernel_rfl) (q30e28_neq_t (o := opA (RA Try.f10 [1, 1, 1, 1, 1, 1, 1, 1, 1, 1, 0, 1, 1, 0]) 2) (x := (Operand.tmp 163)) (y := (Operand.tmp 164)) 0 0 0 0 0 0 (by kernel_rfl) (by kernel_rfl) (by kernel_rfl) ⟨rfl, rfl, rfl⟩ _) ?_
         refine yB0 [5, 6, 7, 8, 9, 10, 11, 12, 13, 14, 15, 16, 17, 18, 19, 20, 21, 22, 23, 24, 25, 26, 27, 28, 29, 30, 31, 32, 33, 34] [3, 4] [(167, pV b29), (166, .bool false)] ?_
         have h551 := tk9 (sf8 (sf7 (sf8 (sf8 (sf8 (sf8 (sf8 (sf8 (sf8 h548)))))))))
         refine yA ?_
         refine yCl 168 Try.call22 (tlen_w b29 nn pp.1) h551 ?_
         rintro v K w552 (⟨rfl, rfl⟩) h553
         refine ⟨_, rfl, ?_⟩
         have h554 := ap1 h553
         refine yBb [11, 12, 13, 14, 15, 16, 17, 18, 19, 20, 21, 22, 23, 24, 25, 26, 27, 28, 29, 30, 31, 32, 33, 34] [(173, pV b29), (172, .bool false), (171, .bool false), (170, .bool false), (169, iV (((pp.1.R.length : Nat) : Int)))] [e0 6, e1 7 (.bool false), e0 8, e0 9, e0 10] [] [(.bool ((((pp.1.R.length : Nat) : Int)) != (((pp.1.R.length : Nat) : Int))), .bool false)] ⟨(ov_nf (by omega)), trivial⟩ nC ?_
         have hll557 := live_len pp.1.E
         refine yA ?_
         refine yCl 174 Try.call24 (live_w b29 nn pp.1) h554 ?_
         rintro v K w558 (⟨p555, c556, rfl, rfl⟩) h559
         refine ⟨_, rfl, ?_⟩
         have h560 := ap2 h559
         refine yBb [] [(197, .bool false), (196, .bool false), (195, undef), (194, undef), (193, .bool false), (192, .bool false), (191, undef), (190, undef), (189, .bool false), (188, .bool false), (187, .bool false), (186, iV 2), (185, .bool true), (184, .bool true), (183, undef), (182, .bool true), (181, .bool true), (180, .bool false), (179, .bool false), (178, .bool false), (177, iV ((((liveL pp.1.E).length : Nat) : Int))), (176, .slice p38 (((liveL pp.1.E).length)) c39), (175, iV ((((liveL pp.1.E).length : Nat) : Int)))] [e0 12, e0 13, e0 14, e1 15 (.bool false), e0 16, e0 17, e0 18, e0 19, e0 20, e0 21, e0 22, e0 23, e0 24, e0 25, e0 26, e0 27, e0 28, e0 29, e0 30, e0 31, e0 32, e0 33, e0 34] [] [(.bool (((((liveL pp.1.E).length : Nat) : Int)) != ((((liveL pp.1.E).length : Nat) : Int))), .bool false)] ⟨(ov_nf (by omega)), trivial⟩ nC (.mk ?_)
         refine yK [(12, pV r4), (13, pV r7), (17, .slice p38 (((liveL pp.1.E).length)) c39), (18, iV (((pp.1.R.length : Nat) : Int))), (19, .bool true), (20, .bool false), (24, pV b535), (197, .bool false)] fun lr561 => ?_
         refine yCf ?_
         refine ySk ?_
         have h562 := tk10 (sf9 (sf9 (sf9 (sf9 (sf9 (sf4 (sf4 (sf4 (sf5 (sf7 h560))))))))))
         have h563 := tk5 h562
         exact ⟨_, (mk_live [(12, pV r4), (13, pV r7), (17, .slice p38 (((liveL pp.1.E).length)) c39), (18, iV (((pp.1.R.length : Nat) : Int))), (19, .bool true), (20, .bool false), (24, pV b535)] ⟨rfl, rfl, rfl, rfl, rfl, rfl, rfl, trivial⟩), h563⟩
        ·
         rintro a564 w565 ⟨lr567, rfl, h566⟩
         refine ySq ?_
         refine yPl [0, 1, 2, 3, 4, 5, 6, 7, 8, 9] ?_
         refine yBb [3, 4, 5, 6, 7, 8, 9] [(201, .agg #[iV hx, uV hy]), (200, .agg #[iV dx, iV dy, uV dz]), (199, pV b535)] [e0 0, e2 1 [iV dx, iV dy, uV dz], e2 2 [iV hx, uV hy]] [(2, ⟨r4, 0, none⟩, iV hx), (2, ⟨r4, 1, none⟩, uV hy), (1, ⟨r7, 0, none⟩, iV dx), (1, ⟨r7, 1, none⟩, iV dy), (1, ⟨r7, 2, none⟩, uV dz)] [] trivial (kC (sat_cell h566 2 rfl rfl) (kC (sat_cell h566 2 rfl rfl) (kC (sat_cell h566 1 rfl rfl) (kC (sat_cell h566 1 rfl rfl) (kC (sat_cell h566 1 rfl rfl) nC))))) ?_
         have hne_ : dupE pp.1 (dx, dy, dz) (hx, hy) ≠ 0 := fun q_ => absurd (dup_obj q_).1 (of_decide_eq_true htk.symm)
         refine yA ?_
         refine yCl 202 Try.call14 ((by have h_ := tdup_w b535 nn pp.1 dx dy dz hx hy (by omega) (by omega); rw [(dup_bad rfl (show dupE pp.1 (dx, dy, dz) (hx, hy) ≠ 0 from by omega)).1, (dup_bad rfl (show dupE pp.1 (dx, dy, dz) (hx, hy) ≠ 0 from by omega)).2] at h_; exact h_)) h566 ?_
         rintro v K w568 (⟨rfl, rfl⟩) h569
         refine ⟨_, rfl, ?_⟩
         have h570 := ap1 h569
         refine yB0 [7, 8, 9] [4, 5, 6] [(204, iV ((dupE pp.1 (dx, dy, dz) (hx, hy)))), (203, .agg #[iV 0, iV 0, uV 0]), (198, .tuple #[.agg #[iV 0, iV 0, uV 0], iV ((dupE pp.1 (dx, dy, dz) (hx, hy)))])] ?_
         refine yA ?_
         refine yNp 31 28 [iV 0, iV 0, uV 0] h570 fun r571 w572 h573 => ?_
         refine yA ?_
         refine yS [(0, iV 0), (1, iV 0), (2, uV 0)] [iV 0, iV 0, uV 0] h573 fun w574 h575 => ?_
         refine yB0 [] [9] [(32, iV ((dupE pp.1 (dx, dy, dz) (hx, hy))))] (.mk ?_)
         refine yK [(13, pV r7), (17, .slice p38 (((liveL pp.1.E).length)) c39), (18, iV (((pp.1.R.length : Nat) : Int))), (19, .bool true), (20, .bool false), (24, pV b535), (31, pV r571), (32, iV ((dupE pp.1 (dx, dy, dz) (hx, hy))))] fun lr576 => ?_
         refine ySq ?_
         refine ySq ?_
         refine yPl [0, 1] ?_
         refine yBb [] [(206, .bool true), (205, iV ((dupE pp.1 (dx, dy, dz) (hx, hy))))] [e0 0, e1 1 (.bool true)] [] [(.bool (((dupE pp.1 (dx, dy, dz) (hx, hy))) != 0), .bool true)] ⟨(ov_nt (by omega)), trivial⟩ nC (.mk ?_)
         refine yK [(13, pV r7), (17, .slice p38 (((liveL pp.1.E).length)) c39), (18, iV (((pp.1.R.length : Nat) : Int))), (19, .bool true), (20, .bool false), (24, pV b535), (31, pV r571), (206, .bool true)] fun lr577 => ?_
         refine yCt ?_
         refine ySq ?_
         refine yPl [0, 1, 2, 3, 4, 5, 6, 7, 8, 9, 10, 11, 12, 13, 14, 15, 16, 17, 18, 19, 20] ?_
         refine yBb [2, 3, 4, 5, 6, 7, 8, 9, 10, 11, 12, 13, 14, 15, 16, 17, 18, 19, 20] [(208, .agg #[iV 0, iV 0, uV 0]), (207, .agg #[iV 0, iV 0, uV 0])] [e2 0 [iV 0, iV 0, uV 0], e0 1] [(0, ⟨r571, 0, none⟩, iV 0), (0, ⟨r571, 1, none⟩, iV 0), (0, ⟨r571, 2, none⟩, uV 0)] [] trivial (kC (sat_cell h575 0 rfl rfl) (kC (sat_cell h575 0 rfl rfl) (kC (sat_cell h575 0 rfl rfl) nC))) ?_
         refine plain_law (i := 2) 209 (.bool true) (by kernel_rfl) (q30e28_eql_t (o := opA (RA Try.f10 [1, 1, 1, 1, 1, 1, 1, 1, 1, 1, 1, 1, 0, 1, 0, 0]) 2) (x := (Operand.tmp 207)) (y := (Operand.tmp 208)) 0 0 0 0 0 0 (by kernel_rfl) (by kernel_rfl) (by kernel_rfl) ⟨rfl, rfl, rfl⟩ _) ?_
         refine yB0 [5, 6, 7, 8, 9, 10, 11, 12, 13, 14, 15, 16, 17, 18, 19, 20] [3, 4] [(211, pV b535), (210, .bool true)] ?_
         have hll580 := live_len pp.1.E
         have h581 := tk6 (sf5 (sf4 (sf5 (sf5 (sf5 (sf5 h575))))))
         refine yA ?_
         refine yCl 212 Try.call24 (live_w b535 nn pp.1) h581 ?_
         rintro v K w582 (⟨p578, c579, rfl, rfl⟩) h583
         refine ⟨_, rfl, ?_⟩
         have h584 := ap2 h583
         refine yBb [13, 14, 15, 16, 17, 18, 19, 20] [(219, pV b535), (218, .bool true), (217, .bool true), (216, .bool true), (215, iV ((((liveL pp.1.E).length : Nat) : Int))), (214, .slice p38 (((liveL pp.1.E).length)) c39), (213, iV ((((liveL pp.1.E).length : Nat) : Int)))] [e0 6, e0 7, e0 8, e1 9 (.bool true), e0 10, e0 11, e0 12] [] [(.bool (((((liveL pp.1.E).length : Nat) : Int)) == ((((liveL pp.1.E).length : Nat) : Int))), .bool true)] ⟨(ov_et (by omega)), trivial⟩ nC ?_
         refine yA ?_
         refine yCl 220 Try.call22 (tlen_w b535 nn pp.1) h584 ?_
         rintro v K w585 (⟨rfl, rfl⟩) h586
         refine ⟨_, rfl, ?_⟩
         have h587 := ap1 h586
         refine yBb [18, 19, 20] [(224, .bool true), (223, .bool true), (222, .bool true), (221, iV (((pp.1.R.length : Nat) : Int)))] [e0 14, e1 15 (.bool true), e0 16, e0 17] [] [(.bool ((((pp.1.R.length : Nat) : Int)) == (((pp.1.R.length : Nat) : Int))), .bool true)] ⟨(ov_et (by omega)), trivial⟩ nC ?_
         refine fk_cut ([(224, .bool true), (13, pV r7), (17, .slice p38 (((liveL pp.1.E).length)) c39), (18, iV (((pp.1.R.length : Nat) : Int))), (19, .bool true), (20, .bool false), (24, pV b535), (31, pV r571), (206, .bool true)] : Fr) (by kernel_rfl) (fun a => PO _ _ _ _ a _) (fun lr588 => ?_)
         refine yA ?_
         refine yCl 225 Try.call18 (works_ht) h587 ?_
         rintro v K w589 (⟨rfl, rfl⟩) h590
         refine ⟨_, rfl, ?_⟩
         have h591 := ap0 h590
         refine yB0 [] [19, 20] [(14, .bool true), (226, .bool true)] (.mk ?_)
         refine yK [(14, .bool true)] fun lr592 => ?_
         refine yRt ?_
         repeat (first | simp only [Exit.inBlock] | simp only [Exit.then])
         have h593 := tk7 (sf6 (sf5 (sf5 (sf5 (sf5 (sf5 (sf6 h591)))))))
         have h594 := tk2 (sf1 (sf6 h593))
         refine hi_out [] (.bool true) [] (by kernel_rfl) (by intro q hq; cases hq) ?_
         exact ⟨.bool true, [Old wo], rfl, ⟨rfl, rfl⟩, h594⟩
       ·
        by_cases c595 : (opnE pp.1 (ox, oy, oz) L (hx, hy)) = 6
        ·
         refine yA ?_
         refine yCl 100 Try.call12 ((by have he_ : opnE pp.1 (ox, oy, oz) L (hx, hy) = 6 := (by omega); have h_ := topen_w b29 nn pp.1 ox oy oz hx hy L (by omega) (by omega) (by omega); rw [(opn_bad he_ (by first | decide | omega)).1, (opn_bad he_ (by first | decide | omega)).2, he_] at h_; exact h_)) h538 ?_
         rintro v K w596 (⟨rfl, rfl⟩) h597
         refine ⟨_, rfl, ?_⟩
         have h598 := ap1 h597
         refine yB0 [8, 9, 10] [5, 6, 7] [(102, iV 6), (101, .agg #[iV 0, iV 0, uV 0]), (95, .tuple #[.agg #[iV 0, iV 0, uV 0], iV 6])] ?_
         refine yA ?_
         refine yNp 25 28 [iV 0, iV 0, uV 0] h598 fun r599 w600 h601 => ?_
         refine yA ?_
         refine yS [(0, iV 0), (1, iV 0), (2, uV 0)] [iV 0, iV 0, uV 0] h601 fun w602 h603 => ?_
         refine yB0 [] [10] [(26, iV 6)] (.mk ?_)
         refine yK [(10, pV r1), (12, pV r4), (13, pV r7), (15, pV b29), (17, .slice p38 (((liveL pp.1.E).length)) c39), (18, iV (((pp.1.R.length : Nat) : Int))), (19, .bool true), (20, .bool false), (24, pV b535), (25, pV r599), (26, iV 6)] fun lr604 => ?_
         refine gi_join (x := CA Try.f10 [1, 1, 1, 1, 1, 1, 1, 1, 1, 1, 0]) (y := CA Try.f10 [1, 1, 1, 1, 1, 1, 1, 1, 1, 1, 1]) (fun a w => ∃ lr : Fr, a = mk 281 (([(12, pV r4), (13, pV r7), (17, .slice p38 (((liveL pp.1.E).length)) c39), (18, iV (((pp.1.R.length : Nat) : Int))), (19, .bool true), (20, .bool false), (24, pV b535)] : Fr) ++ lr) ∧ sat g w [TW b535 nn pp.1, Cl r7 [iV dx, iV dy, uV dz] 28, Cl r4 [iV hx, uV hy] 34, Old wo, R]) (by kernel_rfl) ?_ ?_
         ·
          refine ySq ?_
          refine yPl [0, 1] ?_
          refine yB0 [] [0, 1] [(104, .bool false), (103, iV 6)] (.mk ?_)
          refine yK [(10, pV r1), (12, pV r4), (13, pV r7), (15, pV b29), (17, .slice p38 (((liveL pp.1.E).length)) c39), (18, iV (((pp.1.R.length : Nat) : Int))), (19, .bool true), (20, .bool false), (24, pV b535), (25, pV r599), (26, iV 6), (104, .bool false)] fun lr605 => ?_
          refine yCf ?_
          refine ySq ?_
          refine yPl [0, 1, 2, 3, 4, 5, 6, 7, 8, 9, 10, 11, 12, 13, 14, 15, 16, 17, 18, 19, 20, 21, 22, 23, 24, 25, 26, 27, 28, 29, 30, 31, 32, 33, 34] ?_
          refine yBb [2, 3, 4, 5, 6, 7, 8, 9, 10, 11, 12, 13, 14, 15, 16, 17, 18, 19, 20, 21, 22, 23, 24, 25, 26, 27, 28, 29, 30, 31, 32, 33, 34] [(164, .agg #[iV 0, iV 0, uV 0]), (163, .agg #[iV 0, iV 0, uV 0])] [e2 0 [iV 0, iV 0, uV 0], e0 1] [(0, ⟨r599, 0, none⟩, iV 0), (0, ⟨r599, 1, none⟩, iV 0), (0, ⟨r599, 2, none⟩, uV 0)] [] trivial (kC (sat_cell h603 0 rfl rfl) (kC (sat_cell h603 0 rfl rfl) (kC (sat_cell h603 0 rfl rfl) nC))) ?_
          refine plain_law (i := 2) 165 (.bool false) (by kernel_rfl) (q30e28_neq_t (o := opA (RA Try.f10 [1, 1, 1, 1, 1, 1, 1, 1, 1, 1, 0, 1, 1, 0]) 2) (x := (Operand.tmp 163)) (y := (Operand.tmp 164)) 0 0 0 0 0 0 (by kernel_rfl) (by kernel_rfl) (by kernel_rfl) ⟨rfl, rfl, rfl⟩ _) ?_
          refine yB0 [5, 6, 7, 8, 9, 10, 11, 12, 13, 14, 15, 16, 17, 18, 19, 20, 21, 22, 23, 24, 25, 26, 27, 28, 29, 30, 31, 32, 33, 34] [3, 4] [(167, pV b29), (166, .bool false)] ?_
          have h606 := tk9 (sf8 (sf7 (sf8 (sf8 (sf8 (sf8 (sf8 (sf8 (sf8 h603)))))))))
          refine yA ?_
          refine yCl 168 Try.call22 (tlen_w b29 nn pp.1) h606 ?_
          rintro v K w607 (⟨rfl, rfl⟩) h608
          refine ⟨_, rfl, ?_⟩
          have h609 := ap1 h608
          refine yBb [11, 12, 13, 14, 15, 16, 17, 18, 19, 20, 21, 22, 23, 24, 25, 26, 27, 28, 29, 30, 31, 32, 33, 34] [(173, pV b29), (172, .bool false), (171, .bool false), (170, .bool false), (169, iV (((pp.1.R.length : Nat) : Int)))] [e0 6, e1 7 (.bool false), e0 8, e0 9, e0 10] [] [(.bool ((((pp.1.R.length : Nat) : Int)) != (((pp.1.R.length : Nat) : Int))), .bool false)] ⟨(ov_nf (by omega)), trivial⟩ nC ?_
          have hll612 := live_len pp.1.E
          refine yA ?_
          refine yCl 174 Try.call24 (live_w b29 nn pp.1) h609 ?_
          rintro v K w613 (⟨p610, c611, rfl, rfl⟩) h614
          refine ⟨_, rfl, ?_⟩
          have h615 := ap2 h614
          refine yBb [] [(197, .bool false), (196, .bool false), (195, undef), (194, undef), (193, .bool false), (192, .bool false), (191, .bool false), (190, iV 6), (189, .bool true), (188, .bool true), (187, .bool true), (186, iV 6), (185, .bool true), (184, .bool true), (183, undef), (182, .bool true), (181, .bool true), (180, .bool false), (179, .bool false), (178, .bool false), (177, iV ((((liveL pp.1.E).length : Nat) : Int))), (176, .slice p38 (((liveL pp.1.E).length)) c39), (175, iV ((((liveL pp.1.E).length : Nat) : Int)))] [e0 12, e0 13, e0 14, e1 15 (.bool false), e0 16, e0 17, e0 18, e0 19, e0 20, e0 21, e0 22, e0 23, e0 24, e0 25, e0 26, e0 27, e0 28, e0 29, e0 30, e0 31, e0 32, e0 33, e0 34] [] [(.bool (((((liveL pp.1.E).length : Nat) : Int)) != ((((liveL pp.1.E).length : Nat) : Int))), .bool false)] ⟨(ov_nf (by omega)), trivial⟩ nC (.mk ?_)
          refine yK [(12, pV r4), (13, pV r7), (17, .slice p38 (((liveL pp.1.E).length)) c39), (18, iV (((pp.1.R.length : Nat) : Int))), (19, .bool true), (20, .bool false), (24, pV b535), (197, .bool false)] fun lr616 => ?_
          refine yCf ?_
          refine ySk ?_
          have h617 := tk10 (sf9 (sf9 (sf9 (sf9 (sf9 (sf4 (sf4 (sf4 (sf5 (sf7 h615))))))))))
          have h618 := tk5 h617
          exact ⟨_, (mk_live [(12, pV r4), (13, pV r7), (17, .slice p38 (((liveL pp.1.E).length)) c39), (18, iV (((pp.1.R.length : Nat) : Int))), (19, .bool true), (20, .bool false), (24, pV b535)] ⟨rfl, rfl, rfl, rfl, rfl, rfl, rfl, trivial⟩), h618⟩
         ·
          rintro a619 w620 ⟨lr622, rfl, h621⟩
          refine ySq ?_
          refine yPl [0, 1, 2, 3, 4, 5, 6, 7, 8, 9] ?_
          refine yBb [3, 4, 5, 6, 7, 8, 9] [(201, .agg #[iV hx, uV hy]), (200, .agg #[iV dx, iV dy, uV dz]), (199, pV b535)] [e0 0, e2 1 [iV dx, iV dy, uV dz], e2 2 [iV hx, uV hy]] [(2, ⟨r4, 0, none⟩, iV hx), (2, ⟨r4, 1, none⟩, uV hy), (1, ⟨r7, 0, none⟩, iV dx), (1, ⟨r7, 1, none⟩, iV dy), (1, ⟨r7, 2, none⟩, uV dz)] [] trivial (kC (sat_cell h621 2 rfl rfl) (kC (sat_cell h621 2 rfl rfl) (kC (sat_cell h621 1 rfl rfl) (kC (sat_cell h621 1 rfl rfl) (kC (sat_cell h621 1 rfl rfl) nC))))) ?_
          have hne_ : dupE pp.1 (dx, dy, dz) (hx, hy) ≠ 0 := fun q_ => absurd (dup_obj q_).1 (of_decide_eq_true htk.symm)
          refine yA ?_
          refine yCl 202 Try.call14 ((by have h_ := tdup_w b535 nn pp.1 dx dy dz hx hy (by omega) (by omega); rw [(dup_bad rfl (show dupE pp.1 (dx, dy, dz) (hx, hy) ≠ 0 from by omega)).1, (dup_bad rfl (show dupE pp.1 (dx, dy, dz) (hx, hy) ≠ 0 from by omega)).2] at h_; exact h_)) h621 ?_
          rintro v K w623 (⟨rfl, rfl⟩) h624
          refine ⟨_, rfl, ?_⟩
          have h625 := ap1 h624
          refine yB0 [7, 8, 9] [4, 5, 6] [(204, iV ((dupE pp.1 (dx, dy, dz) (hx, hy)))), (203, .agg #[iV 0, iV 0, uV 0]), (198, .tuple #[.agg #[iV 0, iV 0, uV 0], iV ((dupE pp.1 (dx, dy, dz) (hx, hy)))])] ?_
          refine yA ?_
          refine yNp 31 28 [iV 0, iV 0, uV 0] h625 fun r626 w627 h628 => ?_
          refine yA ?_
          refine yS [(0, iV 0), (1, iV 0), (2, uV 0)] [iV 0, iV 0, uV 0] h628 fun w629 h630 => ?_
          refine yB0 [] [9] [(32, iV ((dupE pp.1 (dx, dy, dz) (hx, hy))))] (.mk ?_)
          refine yK [(13, pV r7), (17, .slice p38 (((liveL pp.1.E).length)) c39), (18, iV (((pp.1.R.length : Nat) : Int))), (19, .bool true), (20, .bool false), (24, pV b535), (31, pV r626), (32, iV ((dupE pp.1 (dx, dy, dz) (hx, hy))))] fun lr631 => ?_
          refine ySq ?_
          refine ySq ?_
          refine yPl [0, 1] ?_
          refine yBb [] [(206, .bool true), (205, iV ((dupE pp.1 (dx, dy, dz) (hx, hy))))] [e0 0, e1 1 (.bool true)] [] [(.bool (((dupE pp.1 (dx, dy, dz) (hx, hy))) != 0), .bool true)] ⟨(ov_nt (by omega)), trivial⟩ nC (.mk ?_)
          refine yK [(13, pV r7), (17, .slice p38 (((liveL pp.1.E).length)) c39), (18, iV (((pp.1.R.length : Nat) : Int))), (19, .bool true), (20, .bool false), (24, pV b535), (31, pV r626), (206, .bool true)] fun lr632 => ?_
          refine yCt ?_
          refine ySq ?_
          refine yPl [0, 1, 2, 3, 4, 5, 6, 7, 8, 9, 10, 11, 12, 13, 14, 15, 16, 17, 18, 19, 20] ?_
          refine yBb [2, 3, 4, 5, 6, 7, 8, 9, 10, 11, 12, 13, 14, 15, 16, 17, 18, 19, 20] [(208, .agg #[iV 0, iV 0, uV 0]), (207, .agg #[iV 0, iV 0, uV 0])] [e2 0 [iV 0, iV 0, uV 0], e0 1] [(0, ⟨r626, 0, none⟩, iV 0), (0, ⟨r626, 1, none⟩, iV 0), (0, ⟨r626, 2, none⟩, uV 0)] [] trivial (kC (sat_cell h630 0 rfl rfl) (kC (sat_cell h630 0 rfl rfl) (kC (sat_cell h630 0 rfl rfl) nC))) ?_
          refine plain_law (i := 2) 209 (.bool true) (by kernel_rfl) (q30e28_eql_t (o := opA (RA Try.f10 [1, 1, 1, 1, 1, 1, 1, 1, 1, 1, 1, 1, 0, 1, 0, 0]) 2) (x := (Operand.tmp 207)) (y := (Operand.tmp 208)) 0 0 0 0 0 0 (by kernel_rfl) (by kernel_rfl) (by kernel_rfl) ⟨rfl, rfl, rfl⟩ _) ?_
          refine yB0 [5, 6, 7, 8, 9, 10, 11, 12, 13, 14, 15, 16, 17, 18, 19, 20] [3, 4] [(211, pV b535), (210, .bool true)] ?_
          have hll635 := live_len pp.1.E
          have h636 := tk6 (sf5 (sf4 (sf5 (sf5 (sf5 (sf5 h630))))))
          refine yA ?_
          refine yCl 212 Try.call24 (live_w b535 nn pp.1) h636 ?_
          rintro v K w637 (⟨p633, c634, rfl, rfl⟩) h638
          refine ⟨_, rfl, ?_⟩
          have h639 := ap2 h638
          refine yBb [13, 14, 15, 16, 17, 18, 19, 20] [(219, pV b535), (218, .bool true), (217, .bool true), (216, .bool true), (215, iV ((((liveL pp.1.E).length : Nat) : Int))), (214, .slice p38 (((liveL pp.1.E).length)) c39), (213, iV ((((liveL pp.1.E).length : Nat) : Int)))] [e0 6, e0 7, e0 8, e1 9 (.bool true), e0 10, e0 11, e0 12] [] [(.bool (((((liveL pp.1.E).length : Nat) : Int)) == ((((liveL pp.1.E).length : Nat) : Int))), .bool true)] ⟨(ov_et (by omega)), trivial⟩ nC ?_
          refine yA ?_
          refine yCl 220 Try.call22 (tlen_w b535 nn pp.1) h639 ?_
          rintro v K w640 (⟨rfl, rfl⟩) h641
          refine ⟨_, rfl, ?_⟩
          have h642 := ap1 h641
          refine yBb [18, 19, 20] [(224, .bool true), (223, .bool true), (222, .bool true), (221, iV (((pp.1.R.length : Nat) : Int)))] [e0 14, e1 15 (.bool true), e0 16, e0 17] [] [(.bool ((((pp.1.R.length : Nat) : Int)) == (((pp.1.R.length : Nat) : Int))), .bool true)] ⟨(ov_et (by omega)), trivial⟩ nC ?_
          refine fk_cut ([(224, .bool true), (13, pV r7), (17, .slice p38 (((liveL pp.1.E).length)) c39), (18, iV (((pp.1.R.length : Nat) : Int))), (19, .bool true), (20, .bool false), (24, pV b535), (31, pV r626), (206, .bool true)] : Fr) (by kernel_rfl) (fun a => PO _ _ _ _ a _) (fun lr643 => ?_)
          refine yA ?_
          refine yCl 225 Try.call18 (works_ht) h642 ?_
          rintro v K w644 (⟨rfl, rfl⟩) h645
          refine ⟨_, rfl, ?_⟩
          have h646 := ap0 h645
          refine yB0 [] [19, 20] [(14, .bool true), (226, .bool true)] (.mk ?_)
          refine yK [(14, .bool true)] fun lr647 => ?_
          refine yRt ?_
          repeat (first | simp only [Exit.inBlock] | simp only [Exit.then])
          have h648 := tk7 (sf6 (sf5 (sf5 (sf5 (sf5 (sf5 (sf6 h646)))))))
          have h649 := tk2 (sf1 (sf6 h648))
          refine hi_out [] (.bool true) [] (by kernel_rfl) (by intro q hq; cases hq) ?_
          exact ⟨.bool true, [Old wo], rfl, ⟨rfl, rfl⟩, h649⟩
        ·
         refine yA ?_
         refine yCl 100 Try.call12 ((by have he_ : opnE pp.1 (ox, oy, oz) L (hx, hy) = 16 := (by have hr_ := opn_ref (S := pp.1) (o := (ox, oy, oz)) (L := L) (h := (hx, hy)) (.inl (of_decide_eq_true htk.symm)); omega); have h_ := topen_w b29 nn pp.1 ox oy oz hx hy L (by omega) (by omega) (by omega); rw [(opn_bad he_ (by first | decide | omega)).1, (opn_bad he_ (by first | decide | omega)).2, he_] at h_; exact h_)) h538 ?_
         rintro v K w650 (⟨rfl, rfl⟩) h651
         refine ⟨_, rfl, ?_⟩
         have h652 := ap1 h651
         refine yB0 [8, 9, 10] [5, 6, 7] [(102, iV 16), (101, .agg #[iV 0, iV 0, uV 0]), (95, .tuple #[.agg #[iV 0, iV 0, uV 0], iV 16])] ?_
         refine yA ?_
         refine yNp 25 28 [iV 0, iV 0, uV 0] h652 fun r653 w654 h655 => ?_
         refine yA ?_
         refine yS [(0, iV 0), (1, iV 0), (2, uV 0)] [iV 0, iV 0, uV 0] h655 fun w656 h657 => ?_
         refine yB0 [] [10] [(26, iV 16)] (.mk ?_)
         refine yK [(10, pV r1), (12, pV r4), (13, pV r7), (15, pV b29), (17, .slice p38 (((liveL pp.1.E).length)) c39), (18, iV (((pp.1.R.length : Nat) : Int))), (19, .bool true), (20, .bool false), (24, pV b535), (25, pV r653), (26, iV 16)] fun lr658 => ?_
         refine gi_join (x := CA Try.f10 [1, 1, 1, 1, 1, 1, 1, 1, 1, 1, 0]) (y := CA Try.f10 [1, 1, 1, 1, 1, 1, 1, 1, 1, 1, 1]) (fun a w => ∃ lr : Fr, a = mk 281 (([(12, pV r4), (13, pV r7), (17, .slice p38 (((liveL pp.1.E).length)) c39), (18, iV (((pp.1.R.length : Nat) : Int))), (19, .bool true), (20, .bool false), (24, pV b535)] : Fr) ++ lr) ∧ sat g w [TW b535 nn pp.1, Cl r7 [iV dx, iV dy, uV dz] 28, Cl r4 [iV hx, uV hy] 34, Old wo, R]) (by kernel_rfl) ?_ ?_
         ·
          refine ySq ?_
          refine yPl [0, 1] ?_
          refine yB0 [] [0, 1] [(104, .bool false), (103, iV 16)] (.mk ?_)
          refine yK [(10, pV r1), (12, pV r4), (13, pV r7), (15, pV b29), (17, .slice p38 (((liveL pp.1.E).length)) c39), (18, iV (((pp.1.R.length : Nat) : Int))), (19, .bool true), (20, .bool false), (24, pV b535), (25, pV r653), (26, iV 16), (104, .bool false)] fun lr659 => ?_
          refine yCf ?_
          refine ySq ?_
          refine yPl [0, 1, 2, 3, 4, 5, 6, 7, 8, 9, 10, 11, 12, 13, 14, 15, 16, 17, 18, 19, 20, 21, 22, 23, 24, 25, 26, 27, 28, 29, 30, 31, 32, 33, 34] ?_
          refine yBb [2, 3, 4, 5, 6, 7, 8, 9, 10, 11, 12, 13, 14, 15, 16, 17, 18, 19, 20, 21, 22, 23, 24, 25, 26, 27, 28, 29, 30, 31, 32, 33, 34] [(164, .agg #[iV 0, iV 0, uV 0]), (163, .agg #[iV 0, iV 0, uV 0])] [e2 0 [iV 0, iV 0, uV 0], e0 1] [(0, ⟨r653, 0, none⟩, iV 0), (0, ⟨r653, 1, none⟩, iV 0), (0, ⟨r653, 2, none⟩, uV 0)] [] trivial (kC (sat_cell h657 0 rfl rfl) (kC (sat_cell h657 0 rfl rfl) (kC (sat_cell h657 0 rfl rfl) nC))) ?_
          refine plain_law (i := 2) 165 (.bool false) (by kernel_rfl) (q30e28_neq_t (o := opA (RA Try.f10 [1, 1, 1, 1, 1, 1, 1, 1, 1, 1, 0, 1, 1, 0]) 2) (x := (Operand.tmp 163)) (y := (Operand.tmp 164)) 0 0 0 0 0 0 (by kernel_rfl) (by kernel_rfl) (by kernel_rfl) ⟨rfl, rfl, rfl⟩ _) ?_
          refine yB0 [5, 6, 7, 8, 9, 10, 11, 12, 13, 14, 15, 16, 17, 18, 19, 20, 21, 22, 23, 24, 25, 26, 27, 28, 29, 30, 31, 32, 33, 34] [3, 4] [(167, pV b29), (166, .bool false)] ?_
          have h660 := tk9 (sf8 (sf7 (sf8 (sf8 (sf8 (sf8 (sf8 (sf8 (sf8 h657)))))))))
          refine yA ?_
          refine yCl 168 Try.call22 (tlen_w b29 nn pp.1) h660 ?_
          rintro v K w661 (⟨rfl, rfl⟩) h662
          refine ⟨_, rfl, ?_⟩
          have h663 := ap1 h662
          refine yBb [11, 12, 13, 14, 15, 16, 17, 18, 19, 20, 21, 22, 23, 24, 25, 26, 27, 28, 29, 30, 31, 32, 33, 34] [(173, pV b29), (172, .bool false), (171, .bool false), (170, .bool false), (169, iV (((pp.1.R.length : Nat) : Int)))] [e0 6, e1 7 (.bool false), e0 8, e0 9, e0 10] [] [(.bool ((((pp.1.R.length : Nat) : Int)) != (((pp.1.R.length : Nat) : Int))), .bool false)] ⟨(ov_nf (by omega)), trivial⟩ nC ?_
          have hll666 := live_len pp.1.E
          refine yA ?_
          refine yCl 174 Try.call24 (live_w b29 nn pp.1) h663 ?_
          rintro v K w667 (⟨p664, c665, rfl, rfl⟩) h668
          refine ⟨_, rfl, ?_⟩
          have h669 := ap2 h668
          refine yBb [] [(197, .bool false), (196, .bool false), (195, .bool false), (194, iV 16), (193, .bool true), (192, .bool true), (191, .bool true), (190, iV 16), (189, .bool true), (188, .bool true), (187, .bool true), (186, iV 16), (185, .bool true), (184, .bool true), (183, undef), (182, .bool true), (181, .bool true), (180, .bool false), (179, .bool false), (178, .bool false), (177, iV ((((liveL pp.1.E).length : Nat) : Int))), (176, .slice p38 (((liveL pp.1.E).length)) c39), (175, iV ((((liveL pp.1.E).length : Nat) : Int)))] [e0 12, e0 13, e0 14, e1 15 (.bool false), e0 16, e0 17, e0 18, e0 19, e0 20, e0 21, e0 22, e0 23, e0 24, e0 25, e0 26, e0 27, e0 28, e0 29, e0 30, e0 31, e0 32, e0 33, e0 34] [] [(.bool (((((liveL pp.1.E).length : Nat) : Int)) != ((((liveL pp.1.E).length : Nat) : Int))), .bool false)] ⟨(ov_nf (by omega)), trivial⟩ nC (.mk ?_)
          refine yK [(12, pV r4), (13, pV r7), (17, .slice p38 (((liveL pp.1.E).length)) c39), (18, iV (((pp.1.R.length : Nat) : Int))), (19, .bool true), (20, .bool false), (24, pV b535), (197, .bool false)] fun lr670 => ?_
          refine yCf ?_
          refine ySk ?_
          have h671 := tk10 (sf9 (sf9 (sf9 (sf9 (sf9 (sf4 (sf4 (sf4 (sf5 (sf7 h669))))))))))
          have h672 := tk5 h671
          exact ⟨_, (mk_live [(12, pV r4), (13, pV r7), (17, .slice p38 (((liveL pp.1.E).length)) c39), (18, iV (((pp.1.R.length : Nat) : Int))), (19, .bool true), (20, .bool false), (24, pV b535)] ⟨rfl, rfl, rfl, rfl, rfl, rfl, rfl, trivial⟩), h672⟩
         ·
          rintro a673 w674 ⟨lr676, rfl, h675⟩
          refine ySq ?_
          refine yPl [0, 1, 2, 3, 4, 5, 6, 7, 8, 9] ?_
          refine yBb [3, 4, 5, 6, 7, 8, 9] [(201, .agg #[iV hx, uV hy]), (200, .agg #[iV dx, iV dy, uV dz]), (199, pV b535)] [e0 0, e2 1 [iV dx, iV dy, uV dz], e2 2 [iV hx, uV hy]] [(2, ⟨r4, 0, none⟩, iV hx), (2, ⟨r4, 1, none⟩, uV hy), (1, ⟨r7, 0, none⟩, iV dx), (1, ⟨r7, 1, none⟩, iV dy), (1, ⟨r7, 2, none⟩, uV dz)] [] trivial (kC (sat_cell h675 2 rfl rfl) (kC (sat_cell h675 2 rfl rfl) (kC (sat_cell h675 1 rfl rfl) (kC (sat_cell h675 1 rfl rfl) (kC (sat_cell h675 1 rfl rfl) nC))))) ?_
          have hne_ : dupE pp.1 (dx, dy, dz) (hx, hy) ≠ 0 := fun q_ => absurd (dup_obj q_).1 (of_decide_eq_true htk.symm)
          refine yA ?_
          refine yCl 202 Try.call14 ((by have h_ := tdup_w b535 nn pp.1 dx dy dz hx hy (by omega) (by omega); rw [(dup_bad rfl (show dupE pp.1 (dx, dy, dz) (hx, hy) ≠ 0 from by omega)).1, (dup_bad rfl (show dupE pp.1 (dx, dy, dz) (hx, hy) ≠ 0 from by omega)).2] at h_; exact h_)) h675 ?_
          rintro v K w677 (⟨rfl, rfl⟩) h678
          refine ⟨_, rfl, ?_⟩
          have h679 := ap1 h678
          refine yB0 [7, 8, 9] [4, 5, 6] [(204, iV ((dupE pp.1 (dx, dy, dz) (hx, hy)))), (203, .agg #[iV 0, iV 0, uV 0]), (198, .tuple #[.agg #[iV 0, iV 0, uV 0], iV ((dupE pp.1 (dx, dy, dz) (hx, hy)))])] ?_
          refine yA ?_
          refine yNp 31 28 [iV 0, iV 0, uV 0] h679 fun r680 w681 h682 => ?_
          refine yA ?_
          refine yS [(0, iV 0), (1, iV 0), (2, uV 0)] [iV 0, iV 0, uV 0] h682 fun w683 h684 => ?_
          refine yB0 [] [9] [(32, iV ((dupE pp.1 (dx, dy, dz) (hx, hy))))] (.mk ?_)
          refine yK [(13, pV r7), (17, .slice p38 (((liveL pp.1.E).length)) c39), (18, iV (((pp.1.R.length : Nat) : Int))), (19, .bool true), (20, .bool false), (24, pV b535), (31, pV r680), (32, iV ((dupE pp.1 (dx, dy, dz) (hx, hy))))] fun lr685 => ?_
          refine ySq ?_
          refine ySq ?_
          refine yPl [0, 1] ?_
          refine yBb [] [(206, .bool true), (205, iV ((dupE pp.1 (dx, dy, dz) (hx, hy))))] [e0 0, e1 1 (.bool true)] [] [(.bool (((dupE pp.1 (dx, dy, dz) (hx, hy))) != 0), .bool true)] ⟨(ov_nt (by omega)), trivial⟩ nC (.mk ?_)
          refine yK [(13, pV r7), (17, .slice p38 (((liveL pp.1.E).length)) c39), (18, iV (((pp.1.R.length : Nat) : Int))), (19, .bool true), (20, .bool false), (24, pV b535), (31, pV r680), (206, .bool true)] fun lr686 => ?_
          refine yCt ?_
          refine ySq ?_
          refine yPl [0, 1, 2, 3, 4, 5, 6, 7, 8, 9, 10, 11, 12, 13, 14, 15, 16, 17, 18, 19, 20] ?_
          refine yBb [2, 3, 4, 5, 6, 7, 8, 9, 10, 11, 12, 13, 14, 15, 16, 17, 18, 19, 20] [(208, .agg #[iV 0, iV 0, uV 0]), (207, .agg #[iV 0, iV 0, uV 0])] [e2 0 [iV 0, iV 0, uV 0], e0 1] [(0, ⟨r680, 0, none⟩, iV 0), (0, ⟨r680, 1, none⟩, iV 0), (0, ⟨r680, 2, none⟩, uV 0)] [] trivial (kC (sat_cell h684 0 rfl rfl) (kC (sat_cell h684 0 rfl rfl) (kC (sat_cell h684 0 rfl rfl) nC))) ?_
          refine plain_law (i := 2) 209 (.bool true) (by kernel_rfl) (q30e28_eql_t (o := opA (RA Try.f10 [1, 1, 1, 1, 1, 1, 1, 1, 1, 1, 1, 1, 0, 1, 0, 0]) 2) (x := (Operand.tmp 207)) (y := (Operand.tmp 208)) 0 0 0 0 0 0 (by kernel_rfl) (by kernel_rfl) (by kernel_rfl) ⟨rfl, rfl, rfl⟩ _) ?_
          refine yB0 [5, 6, 7, 8, 9, 10, 11, 12, 13, 14, 15, 16, 17, 18, 19, 20] [3, 4] [(211, pV b535), (210, .bool true)] ?_
          have hll689 := live_len pp.1.E
          have h690 := tk6 (sf5 (sf4 (sf5 (sf5 (sf5 (sf5 h684))))))
          refine yA ?_
          refine yCl 212 Try.call24 (live_w b535 nn pp.1) h690 ?_
          rintro v K w691 (⟨p687, c688, rfl, rfl⟩) h692
          refine ⟨_, rfl, ?_⟩
          have h693 := ap2 h692
          refine yBb [13, 14, 15, 16, 17, 18, 19, 20] [(219, pV b535), (218, .bool true), (217, .bool true), (216, .bool true), (215, iV ((((liveL pp.1.E).length : Nat) : Int))), (214, .slice p38 (((liveL pp.1.E).length)) c39), (213, iV ((((liveL pp.1.E).length : Nat) : Int)))] [e0 6, e0 7, e0 8, e1 9 (.bool true), e0 10, e0 11, e0 12] [] [(.bool (((((liveL pp.1.E).length : Nat) : Int)) == ((((liveL pp.1.E).length : Nat) : Int))), .bool true)] ⟨(ov_et (by omega)), trivial⟩ nC ?_
          refine yA ?_
          refine yCl 220 Try.call22 (tlen_w b535 nn pp.1) h693 ?_
          rintro v K w694 (⟨rfl, rfl⟩) h695
          refine ⟨_, rfl, ?_⟩
          have h696 := ap1 h695
          refine yBb [18, 19, 20] [(224, .bool true), (223, .bool true), (222, .bool true), (221, iV (((pp.1.R.length : Nat) : Int)))] [e0 14, e1 15 (.bool true), e0 16, e0 17] [] [(.bool ((((pp.1.R.length : Nat) : Int)) == (((pp.1.R.length : Nat) : Int))), .bool true)] ⟨(ov_et (by omega)), trivial⟩ nC ?_
          refine fk_cut ([(224, .bool true), (13, pV r7), (17, .slice p38 (((liveL pp.1.E).length)) c39), (18, iV (((pp.1.R.length : Nat) : Int))), (19, .bool true), (20, .bool false), (24, pV b535), (31, pV r680), (206, .bool true)] : Fr) (by kernel_rfl) (fun a => PO _ _ _ _ a _) (fun lr697 => ?_)
          refine yA ?_
          refine yCl 225 Try.call18 (works_ht) h696 ?_
          rintro v K w698 (⟨rfl, rfl⟩) h699
          refine ⟨_, rfl, ?_⟩
          have h700 := ap0 h699
          refine yB0 [] [19, 20] [(14, .bool true), (226, .bool true)] (.mk ?_)
          refine yK [(14, .bool true)] fun lr701 => ?_
          refine yRt ?_
          repeat (first | simp only [Exit.inBlock] | simp only [Exit.then])
          have h702 := tk7 (sf6 (sf5 (sf5 (sf5 (sf5 (sf5 (sf6 h700)))))))
          have h703 := tk2 (sf1 (sf6 h702))
          refine hi_out [] (.bool true) [] (by kernel_rfl) (by intro q hq; cases hq) ?_
          exact ⟨.bool true, [Old wo], rfl, ⟨rfl, rfl⟩, h703⟩
     ·
      refine ySq ?_
      refine ySq ?_
      refine yPl [0, 1, 2, 3] ?_
      refine yB0 [3] [0, 1, 2] [(74, iV ((((liveL pp.1.E).length : Nat) : Int))), (73, .slice p38 (((liveL pp.1.E).length)) c39), (72, iV (i : Int))] ?_
      by_cases c704 : (i : Int) < (((liveL pp.1.E).length : Nat) : Int)
      ·
       refine yBb [] [(75, .bool true)] [e1 3 (.bool true)] [] [(.bool (decide ((i : Int) < (((liveL pp.1.E).length : Nat) : Int))), .bool true)] ⟨(ov_t (by omega)), trivial⟩ nC (.mk ?_)
       refine yK [(4, .string (St L)), (10, pV r1), (12, pV r4), (13, pV r7), (15, pV b29), (17, .slice p38 (((liveL pp.1.E).length)) c39), (18, iV (((pp.1.R.length : Nat) : Int))), (19, .bool true), (20, .bool true), (21, iV (i : Int)), (75, .bool true)] fun lr705 => ?_
       refine yCt ?_
       refine ySk ?_
       refine ySq ?_
       refine yBk 1 ?_
       refine ySq ?_
       refine yPl [0, 1, 2, 3, 4, 5, 6, 7, 8, 9, 10, 11] ?_
       obtain ⟨b706, hp707⟩ := sl_ptr0 (j := 1) h506 rfl (by omega)
       refine yB0 [3, 4, 5, 6, 7, 8, 9, 10, 11] [0, 1, 2] [(81, iV (i : Int)), (80, .slice p38 (((liveL pp.1.E).length)) c39), (79, pV b29)] ?_
       refine plain_law (i := 3) 82 (.pointer (some ⟨b706, i * 3, none⟩)) (by kernel_rfl) (law_indexSlP (o := opA (RA Try.f10 [1, 1, 1, 1, 1, 1, 1, 0, 1, 0, 0, 1, 0, 0, 0]) 3) (x := (Operand.tmp 80)) (i := (Operand.tmp 81)) (p := p38) (b := b706) (off := 0) (z := (i : Int)) (len := (((liveL pp.1.E).length))) (cap := c39) (by kernel_rfl) Try.underlying45 3 (by kernel_rfl) i (by kernel_rfl) hp707 (by kernel_rfl) (by omega) (by omega) (i * 3) (by omega) _) ?_
       obtain ⟨x708, hx709⟩ : ∃ x, (liveL pp.1.E)[i]? = some x := ⟨_, List.getElem?_eq_getElem (by rw [hl499]; omega)⟩
       have hb710 := lv_ok hI_.W (List.mem_of_getElem? hx709)
       refine yBb [5, 6, 7, 8, 9, 10, 11] [(83, .agg #[iV x708.1, iV x708.2.1, uV x708.2.2])] [e2 4 [iV x708.1, iV x708.2.1, uV x708.2.2]] [(4, ⟨b706, i * 3, none⟩, iV x708.1), (4, ⟨b706, i * 3 + 1, none⟩, iV x708.2.1), (4, ⟨b706, i * 3 + 2, none⟩, uV x708.2.2)] [] trivial (kC (gv_cell (j := 1) h506 rfl (gv_sl _ _ _) hp707 (fl_get eO_ok (j := 0) (v := iV x708.1) hx709 rfl) (i * 3) (by omega)) (kC (gv_cell (j := 1) h506 rfl (gv_sl _ _ _) hp707 (fl_get eO_ok (j := 1) (v := iV x708.2.1) hx709 rfl) (i * 3 + 1) (by omega)) (kC (gv_cell (j := 1) h506 rfl (gv_sl _ _ _) hp707 (fl_get eO_ok (j := 2) (v := uV x708.2.2) hx709 rfl) (i * 3 + 2) (by omega)) nC))) ?_
       refine yA ?_
       refine yCl 84 Try.call26 ((by have h_ := thnd_w b29 nn pp.1 x708.1 x708.2.1 x708.2.2 (by omega) (by omega); rw [(is_there hI_.W (List.mem_of_getElem? hx709))] at h_; exact h_)) h506 ?_
       rintro v K w711 (⟨rfl, rfl⟩) h712
       refine ⟨_, rfl, ?_⟩
       have h713 := ap1 h712
       refine yB0 [9, 10, 11] [6, 7, 8] [(86, iV 0), (85, .agg #[iV ((fndX pp.1 (x708.1, x708.2.1, x708.2.2)).h.1), uV ((fndX pp.1 (x708.1, x708.2.1, x708.2.2)).h.2)]), (78, .tuple #[.agg #[iV ((fndX pp.1 (x708.1, x708.2.1, x708.2.2)).h.1), uV ((fndX pp.1 (x708.1, x708.2.1, x708.2.2)).h.2)], iV 0])] ?_
       refine yA ?_
       refine yNp 22 34 [iV 0, uV 0] h713 fun r714 w715 h716 => ?_
       refine yA ?_
       refine yS [(0, iV ((fndX pp.1 (x708.1, x708.2.1, x708.2.2)).h.1)), (1, uV ((fndX pp.1 (x708.1, x708.2.1, x708.2.2)).h.2))] [iV ((fndX pp.1 (x708.1, x708.2.1, x708.2.2)).h.1), uV ((fndX pp.1 (x708.1, x708.2.1, x708.2.2)).h.2)] h716 fun w717 h718 => ?_
       refine yB0 [] [11] [(23, iV 0)] (.mk ?_)
       refine yK [(4, .string (St L)), (10, pV r1), (12, pV r4), (13, pV r7), (15, pV b29), (17, .slice p38 (((liveL pp.1.E).length)) c39), (18, iV (((pp.1.R.length : Nat) : Int))), (19, .bool true), (20, .bool true), (21, iV (i : Int)), (22, pV r714)] fun lr719 => ?_
       refine yPl [0, 1, 2, 3, 4, 5, 6] ?_
       refine yB0 [] [0, 1, 2, 3, 4, 5, 6] [(20, .bool true), (92, .bool true), (91, undef), (90, undef), (89, undef), (88, .bool true), (87, .bool true)] (.mk ?_)
       refine yK [(4, .string (St L)), (10, pV r1), (12, pV r4), (13, pV r7), (15, pV b29), (17, .slice p38 (((liveL pp.1.E).length)) c39), (18, iV (((pp.1.R.length : Nat) : Int))), (19, .bool true), (20, .bool true), (21, iV (i : Int))] fun lr720 => ?_
       refine yPl [0, 1, 2] ?_
       refine yBb [] [(21, iV ((i : Int) + 1)), (77, iV ((i : Int) + 1)), (76, iV (i : Int))] [e0 0, e1 1 (iV ((i : Int) + 1)), e0 2] [] [(iV (IntKind.wrap .i64 ((i : Int) + 1)), iV ((i : Int) + 1))] ⟨(ov_i64 (by omega) (by omega) (by omega)), trivial⟩ nC (.mk ?_)
       have h721 := tk8 (sf7 (sf7 (sf7 (sf7 (sf7 (sf7 (sf7 h718)))))))
       have h722 := tk7 h721
       change ∃ n', n' < _ ∧ _
       refine ⟨(((liveL pp.1.E).length) - (i + 1)), by omega, (i + 1), true, _, rfl, (by omega), (any_t htb), (mk_live [(4, .string (St L)), (10, pV r1), (12, pV r4), (13, pV r7), (15, pV b29), (17, .slice p38 (((liveL pp.1.E).length)) c39), (18, iV (((pp.1.R.length : Nat) : Int))), (19, .bool true), (20, .bool (true)), (21, iV ((((i + 1) : Nat) : Int)))] ⟨rfl, rfl, rfl, rfl, rfl, rfl, rfl, rfl, rfl, (ov_int (by omega)), trivial⟩), h722⟩
      ·
       refine yBb [] [(75, .bool false)] [e1 3 (.bool false)] [] [(.bool (decide ((i : Int) < (((liveL pp.1.E).length : Nat) : Int))), .bool false)] ⟨(ov_f (by omega)), trivial⟩ nC (.mk ?_)
       refine yK [(4, .string (St L)), (10, pV r1), (12, pV r4), (13, pV r7), (15, pV b29), (17, .slice p38 (((liveL pp.1.E).length)) c39), (18, iV (((pp.1.R.length : Nat) : Int))), (19, .bool true), (20, .bool true), (21, iV (i : Int)), (75, .bool false)] fun lr723 => ?_
       refine yCf ?_
       refine yEx 0 ?_
       refine ySq ?_
       refine yPl [0, 1, 2] ?_
       refine yB0 [1, 2] [0] [(93, pV b29)] ?_
       refine yA ?_
       refine yCl 94 Try.call30 (tcopy_w b29 nn pp.1) h506 ?_
       rintro v K w725 (⟨b724, rfl, rfl⟩) h726
       refine ⟨_, rfl, ?_⟩
       have h727 := ap2 h726
       refine yB0 [] [2] [(24, pV b724)] (.mk ?_)
       refine yK [(4, .string (St L)), (10, pV r1), (12, pV r4), (13, pV r7), (15, pV b29), (17, .slice p38 (((liveL pp.1.E).length)) c39), (18, iV (((pp.1.R.length : Nat) : Int))), (19, .bool true), (20, .bool true), (24, pV b724)] fun lr728 => ?_
       refine ySq ?_
       refine yPl [0, 1, 2, 3, 4, 5, 6, 7, 8, 9, 10] ?_
       refine yBb [4, 5, 6, 7, 8, 9, 10] [(99, .agg #[iV hx, uV hy]), (98, .string (St L)), (97, .agg #[iV ox, iV oy, uV oz]), (96, pV b29)] [e0 0, e2 1 [iV ox, iV oy, uV oz], e0 2, e2 3 [iV hx, uV hy]] [(3, ⟨r4, 0, none⟩, iV hx), (3, ⟨r4, 1, none⟩, uV hy), (1, ⟨r1, 0, none⟩, iV ox), (1, ⟨r1, 1, none⟩, iV oy), (1, ⟨r1, 2, none⟩, uV oz)] [] trivial (kC (sat_cell h727 4 rfl rfl) (kC (sat_cell h727 4 rfl rfl) (kC (sat_cell h727 5 rfl rfl) (kC (sat_cell h727 5 rfl rfl) (kC (sat_cell h727 5 rfl rfl) nC))))) ?_
       by_cases c729 : (opnE pp.1 (ox, oy, oz) L (hx, hy)) = 2
       ·
        refine yA ?_
        refine yCl 100 Try.call12 ((by have he_ : opnE pp.1 (ox, oy, oz) L (hx, hy) = 2 := (by omega); have h_ := topen_w b29 nn pp.1 ox oy oz hx hy L (by omega) (by omega) (by omega); rw [(opn_bad he_ (by first | decide | omega)).1, (opn_bad he_ (by first | decide | omega)).2, he_] at h_; exact h_)) h727 ?_
        rintro v K w730 (⟨rfl, rfl⟩) h731
        refine ⟨_, rfl, ?_⟩
        have h732 := ap1 h731
        refine yB0 [8, 9, 10] [5, 6, 7] [(102, iV 2), (101, .agg #[iV 0, iV 0, uV 0]), (95, .tuple #[.agg #[iV 0, iV 0, uV 0], iV 2])] ?_
        refine yA ?_
        refine yNp 25 28 [iV 0, iV 0, uV 0] h732 fun r733 w734 h735 => ?_
        refine yA ?_
        refine yS [(0, iV 0), (1, iV 0), (2, uV 0)] [iV 0, iV 0, uV 0] h735 fun w736 h737 => ?_
        refine yB0 [] [10] [(26, iV 2)] (.mk ?_)
        refine yK [(10, pV r1), (12, pV r4), (13, pV r7), (15, pV b29), (17, .slice p38 (((liveL pp.1.E).length)) c39), (18, iV (((pp.1.R.length : Nat) : Int))), (19, .bool true), (20, .bool true), (24, pV b724), (25, pV r733), (26, iV 2)] fun lr738 => ?_
        refine gi_join (x := CA Try.f10 [1, 1, 1, 1, 1, 1, 1, 1, 1, 1, 0]) (y := CA Try.f10 [1, 1, 1, 1, 1, 1, 1, 1, 1, 1, 1]) (fun a w => ∃ lr : Fr, a = mk 281 (([(12, pV r4), (13, pV r7), (17, .slice p38 (((liveL pp.1.E).length)) c39), (18, iV (((pp.1.R.length : Nat) : Int))), (19, .bool true), (20, .bool true), (24, pV b724)] : Fr) ++ lr) ∧ sat g w [TW b724 nn pp.1, Cl r7 [iV dx, iV dy, uV dz] 28, Cl r4 [iV hx, uV hy] 34, Old wo, R]) (by kernel_rfl) ?_ ?_
        ·
         refine ySq ?_
         refine yPl [0, 1] ?_
         refine yB0 [] [0, 1] [(104, .bool false), (103, iV 2)] (.mk ?_)
         refine yK [(10, pV r1), (12, pV r4), (13, pV r7), (15, pV b29), (17, .slice p38 (((liveL pp.1.E).length)) c39), (18, iV (((pp.1.R.length : Nat) : Int))), (19, .bool true), (20, .bool true), (24, pV b724), (25, pV r733), (26, iV 2), (104, .bool false)] fun lr739 => ?_
         refine yCf ?_
         refine ySq ?_
         refine yPl [0, 1, 2, 3, 4, 5, 6, 7, 8, 9, 10, 11, 12, 13, 14, 15, 16, 17, 18, 19, 20, 21, 22, 23, 24, 25, 26, 27, 28, 29, 30, 31, 32, 33, 34] ?_
         refine yBb [2, 3, 4, 5, 6, 7, 8, 9, 10, 11, 12, 13, 14, 15, 16, 17, 18, 19, 20, 21, 22, 23, 24, 25, 26, 27, 28, 29, 30, 31, 32, 33, 34] [(164, .agg #[iV 0, iV 0, uV 0]), (163, .agg #[iV 0, iV 0, uV 0])] [e2 0 [iV 0, iV 0, uV 0], e0 1] [(0, ⟨r733, 0, none⟩, iV 0), (0, ⟨r733, 1, none⟩, iV 0), (0, ⟨r733, 2, none⟩, uV 0)] [] trivial (kC (sat_cell h737 0 rfl rfl) (kC (sat_cell h737 0 rfl rfl) (kC (sat_cell h737 0 rfl rfl) nC))) ?_
         refine plain_law (i := 2) 165 (.bool false) (by kernel_rfl) (q30e28_neq_t (o := opA (RA Try.f10 [1, 1, 1, 1, 1, 1, 1, 1, 1, 1, 0, 1, 1, 0]) 2) (x := (Operand.tmp 163)) (y := (Operand.tmp 164)) 0 0 0 0 0 0 (by kernel_rfl) (by kernel_rfl) (by kernel_rfl) ⟨rfl, rfl, rfl⟩ _) ?_
         refine yB0 [5, 6, 7, 8, 9, 10, 11, 12, 13, 14, 15, 16, 17, 18, 19, 20, 21, 22, 23, 24, 25, 26, 27, 28, 29, 30, 31, 32, 33, 34] [3, 4] [(167, pV b29), (166, .bool false)] ?_
         have h740 := tk9 (sf8 (sf7 (sf8 (sf8 (sf8 (sf8 (sf8 (sf8 (sf8 h737)))))))))
         refine yA ?_
         refine yCl 168 Try.call22 (tlen_w b29 nn pp.1) h740 ?_
         rintro v K w741 (⟨rfl, rfl⟩) h742
         refine ⟨_, rfl, ?_⟩
         have h743 := ap1 h742
         refine yBb [11, 12, 13, 14, 15, 16, 17, 18, 19, 20, 21, 22, 23, 24, 25, 26, 27, 28, 29, 30, 31, 32, 33, 34] [(173, pV b29), (172, .bool false), (171, .bool false), (170, .bool false), (169, iV (((pp.1.R.length : Nat) : Int)))] [e0 6, e1 7 (.bool false), e0 8, e0 9, e0 10] [] [(.bool ((((pp.1.R.length : Nat) : Int)) != (((pp.1.R.length : Nat) : Int))), .bool false)] ⟨(ov_nf (by omega)), trivial⟩ nC ?_
         have hll746 := live_len pp.1.E
         refine yA ?_
         refine yCl 174 Try.call24 (live_w b29 nn pp.1) h743 ?_
         rintro v K w747 (⟨p744, c745, rfl, rfl⟩) h748
         refine ⟨_, rfl, ?_⟩
         have h749 := ap2 h748
         refine yBb [] [(197, .bool false), (196, .bool false), (195, undef), (194, undef), (193, .bool false), (192, .bool false), (191, undef), (190, undef), (189, .bool false), (188, .bool false), (187, .bool false), (186, iV 2), (185, .bool true), (184, .bool true), (183, undef), (182, .bool true), (181, .bool true), (180, .bool false), (179, .bool false), (178, .bool false), (177, iV ((((liveL pp.1.E).length : Nat) : Int))), (176, .slice p38 (((liveL pp.1.E).length)) c39), (175, iV ((((liveL pp.1.E).length : Nat) : Int)))] [e0 12, e0 13, e0 14, e1 15 (.bool false), e0 16, e0 17, e0 18, e0 19, e0 20, e0 21, e0 22, e0 23, e0 24, e0 25, e0 26, e0 27, e0 28, e0 29, e0 30, e0 31, e0 32, e0 33, e0 34] [] [(.bool (((((liveL pp.1.E).length : Nat) : Int)) != ((((liveL pp.1.E).length : Nat) : Int))), .bool false)] ⟨(ov_nf (by omega)), trivial⟩ nC (.mk ?_)
         refine yK [(12, pV r4), (13, pV r7), (17, .slice p38 (((liveL pp.1.E).length)) c39), (18, iV (((pp.1.R.length : Nat) : Int))), (19, .bool true), (20, .bool true), (24, pV b724), (197, .bool false)] fun lr750 => ?_
         refine yCf ?_
         refine ySk ?_
         have h751 := tk10 (sf9 (sf9 (sf9 (sf9 (sf9 (sf4 (sf4 (sf4 (sf5 (sf7 h749))))))))))
         have h752 := tk5 h751
         exact ⟨_, (mk_live [(12, pV r4), (13, pV r7), (17, .slice p38 (((liveL pp.1.E).length)) c39), (18, iV (((pp.1.R.length : Nat) : Int))), (19, .bool true), (20, .bool true), (24, pV b724)] ⟨rfl, rfl, rfl, rfl, rfl, rfl, rfl, trivial⟩), h752⟩
        ·
         rintro a753 w754 ⟨lr756, rfl, h755⟩
         refine ySq ?_
         refine yPl [0, 1, 2, 3, 4, 5, 6, 7, 8, 9] ?_
         refine yBb [3, 4, 5, 6, 7, 8, 9] [(201, .agg #[iV hx, uV hy]), (200, .agg #[iV dx, iV dy, uV dz]), (199, pV b724)] [e0 0, e2 1 [iV dx, iV dy, uV dz], e2 2 [iV hx, uV hy]] [(2, ⟨r4, 0, none⟩, iV hx), (2, ⟨r4, 1, none⟩, uV hy), (1, ⟨r7, 0, none⟩, iV dx), (1, ⟨r7, 1, none⟩, iV dy), (1, ⟨r7, 2, none⟩, uV dz)] [] trivial (kC (sat_cell h755 2 rfl rfl) (kC (sat_cell h755 2 rfl rfl) (kC (sat_cell h755 1 rfl rfl) (kC (sat_cell h755 1 rfl rfl) (kC (sat_cell h755 1 rfl rfl) nC))))) ?_
         have hne_ : dupE pp.1 (dx, dy, dz) (hx, hy) ≠ 0 := fun q_ => absurd (dup_obj q_).1 (of_decide_eq_true htk.symm)
         refine yA ?_
         refine yCl 202 Try.call14 ((by have h_ := tdup_w b724 nn pp.1 dx dy dz hx hy (by omega) (by omega); rw [(dup_bad rfl (show dupE pp.1 (dx, dy, dz) (hx, hy) ≠ 0 from by omega)).1, (dup_bad rfl (show dupE pp.1 (dx, dy, dz) (hx, hy) ≠ 0 from by omega)).2] at h_; exact h_)) h755 ?_
         rintro v K w757 (⟨rfl, rfl⟩) h758
         refine ⟨_, rfl, ?_⟩
         have h759 := ap1 h758
         refine yB0 [7, 8, 9] [4, 5, 6] [(204, iV ((dupE pp.1 (dx, dy, dz) (hx, hy)))), (203, .agg #[iV 0, iV 0, uV 0]), (198, .tuple #[.agg #[iV 0, iV 0, uV 0], iV ((dupE pp.1 (dx, dy, dz) (hx, hy)))])] ?_
         refine yA ?_
         refine yNp 31 28 [iV 0, iV 0, uV 0] h759 fun r760 w761 h762 => ?_
         refine yA ?_
         refine yS [(0, iV 0), (1, iV 0), (2, uV 0)] [iV 0, iV 0, uV 0] h762 fun w763 h764 => ?_
         refine yB0 [] [9] [(32, iV ((dupE pp.1 (dx, dy, dz) (hx, hy))))] (.mk ?_)
         refine yK [(13, pV r7), (17, .slice p38 (((liveL pp.1.E).length)) c39), (18, iV (((pp.1.R.length : Nat) : Int))), (19, .bool true), (20, .bool true), (24, pV b724), (31, pV r760), (32, iV ((dupE pp.1 (dx, dy, dz) (hx, hy))))] fun lr765 => ?_
         refine ySq ?_
         refine ySq ?_
         refine yPl [0, 1] ?_
         refine yBb [] [(206, .bool true), (205, iV ((dupE pp.1 (dx, dy, dz) (hx, hy))))] [e0 0, e1 1 (.bool true)] [] [(.bool (((dupE pp.1 (dx, dy, dz) (hx, hy))) != 0), .bool true)] ⟨(ov_nt (by omega)), trivial⟩ nC (.mk ?_)
         refine yK [(13, pV r7), (17, .slice p38 (((liveL pp.1.E).length)) c39), (18, iV (((pp.1.R.length : Nat) : Int))), (19, .bool true), (20, .bool true), (24, pV b724), (31, pV r760), (206, .bool true)] fun lr766 => ?_
         refine yCt ?_
         refine ySq ?_
         refine yPl [0, 1, 2, 3, 4, 5, 6, 7, 8, 9, 10, 11, 12, 13, 14, 15, 16, 17, 18, 19, 20] ?_
         refine yBb [2, 3, 4, 5, 6, 7, 8, 9, 10, 11, 12, 13, 14, 15, 16, 17, 18, 19, 20] [(208, .agg #[iV 0, iV 0, uV 0]), (207, .agg #[iV 0, iV 0, uV 0])] [e2 0 [iV 0, iV 0, uV 0], e0 1] [(0, ⟨r760, 0, none⟩, iV 0), (0, ⟨r760, 1, none⟩, iV 0), (0, ⟨r760, 2, none⟩, uV 0)] [] trivial (kC (sat_cell h764 0 rfl rfl) (kC (sat_cell h764 0 rfl rfl) (kC (sat_cell h764 0 rfl rfl) nC))) ?_
         refine plain_law (i := 2) 209 (.bool true) (by kernel_rfl) (q30e28_eql_t (o := opA (RA Try.f10 [1, 1, 1, 1, 1, 1, 1, 1, 1, 1, 1, 1, 0, 1, 0, 0]) 2) (x := (Operand.tmp 207)) (y := (Operand.tmp 208)) 0 0 0 0 0 0 (by kernel_rfl) (by kernel_rfl) (by kernel_rfl) ⟨rfl, rfl, rfl⟩ _) ?_
         refine yB0 [5, 6, 7, 8, 9, 10, 11, 12, 13, 14, 15, 16, 17, 18, 19, 20] [3, 4] [(211, pV b724), (210, .bool true)] ?_
         have hll769 := live_len pp.1.E
         have h770 := tk6 (sf5 (sf4 (sf5 (sf5 (sf5 (sf5 h764))))))
         refine yA ?_
         refine yCl 212 Try.call24 (live_w b724 nn pp.1) h770 ?_
         rintro v K w771 (⟨p767, c768, rfl, rfl⟩) h772
         refine ⟨_, rfl, ?_⟩
         have h773 := ap2 h772
         refine yBb [13, 14, 15, 16, 17, 18, 19, 20] [(219, pV b724), (218, .bool true), (217, .bool true), (216, .bool true), (215, iV ((((liveL pp.1.E).length : Nat) : Int))), (214, .slice p38 (((liveL pp.1.E).length)) c39), (213, iV ((((liveL pp.1.E).length : Nat) : Int)))] [e0 6, e0 7, e0 8, e1 9 (.bool true), e0 10, e0 11, e0 12] [] [(.bool (((((liveL pp.1.E).length : Nat) : Int)) == ((((liveL pp.1.E).length : Nat) : Int))), .bool true)] ⟨(ov_et (by omega)), trivial⟩ nC ?_
         refine yA ?_
         refine yCl 220 Try.call22 (tlen_w b724 nn pp.1) h773 ?_
         rintro v K w774 (⟨rfl, rfl⟩) h775
         refine ⟨_, rfl, ?_⟩
         have h776 := ap1 h775
         refine yBb [18, 19, 20] [(224, .bool true), (223, .bool true), (222, .bool true), (221, iV (((pp.1.R.length : Nat) : Int)))] [e0 14, e1 15 (.bool true), e0 16, e0 17] [] [(.bool ((((pp.1.R.length : Nat) : Int)) == (((pp.1.R.length : Nat) : Int))), .bool true)] ⟨(ov_et (by omega)), trivial⟩ nC ?_
         refine fk_cut ([(224, .bool true), (13, pV r7), (17, .slice p38 (((liveL pp.1.E).length)) c39), (18, iV (((pp.1.R.length : Nat) : Int))), (19, .bool true), (20, .bool true), (24, pV b724), (31, pV r760), (206, .bool true)] : Fr) (by kernel_rfl) (fun a => PO _ _ _ _ a _) (fun lr777 => ?_)
         refine yA ?_
         refine yCl 225 Try.call18 (works_ht) h776 ?_
         rintro v K w778 (⟨rfl, rfl⟩) h779
         refine ⟨_, rfl, ?_⟩
         have h780 := ap0 h779
         refine yB0 [] [19, 20] [(14, .bool true), (226, .bool true)] (.mk ?_)
         refine yK [(14, .bool true)] fun lr781 => ?_
         refine yRt ?_
         repeat (first | simp only [Exit.inBlock] | simp only [Exit.then])
         have h782 := tk7 (sf6 (sf5 (sf5 (sf5 (sf5 (sf5 (sf6 h780)))))))
         have h783 := tk2 (sf1 (sf6 h782))
         refine hi_out [] (.bool true) [] (by kernel_rfl) (by intro q hq; cases hq) ?_
         exact ⟨.bool true, [Old wo], rfl, ⟨rfl, rfl⟩, h783⟩
       ·
        by_cases c784 : (opnE pp.1 (ox, oy, oz) L (hx, hy)) = 6
        ·
         refine yA ?_
         refine yCl 100 Try.call12 ((by have he_ : opnE pp.1 (ox, oy, oz) L (hx, hy) = 6 := (by omega); have h_ := topen_w b29 nn pp.1 ox oy oz hx hy L (by omega) (by omega) (by omega); rw [(opn_bad he_ (by first | decide | omega)).1, (opn_bad he_ (by first | decide | omega)).2, he_] at h_; exact h_)) h727 ?_
         rintro v K w785 (⟨rfl, rfl⟩) h786
         refine ⟨_, rfl, ?_⟩
         have h787 := ap1 h786
         refine yB0 [8, 9, 10] [5, 6, 7] [(102, iV 6), (101, .agg #[iV 0, iV 0, uV 0]), (95, .tuple #[.agg #[iV 0, iV 0, uV 0], iV 6])] ?_
         refine yA ?_
         refine yNp 25 28 [iV 0, iV 0, uV 0] h787 fun r788 w789 h790 => ?_
         refine yA ?_
         refine yS [(0, iV 0), (1, iV 0), (2, uV 0)] [iV 0, iV 0, uV 0] h790 fun w791 h792 => ?_
         refine yB0 [] [10] [(26, iV 6)] (.mk ?_)
         refine yK [(10, pV r1), (12, pV r4), (13, pV r7), (15, pV b29), (17, .slice p38 (((liveL pp.1.E).length)) c39), (18, iV (((pp.1.R.length : Nat) : Int))), (19, .bool true), (20, .bool true), (24, pV b724), (25, pV r788), (26, iV 6)] fun lr793 => ?_
         refine gi_join (x := CA Try.f10 [1, 1, 1, 1, 1, 1, 1, 1, 1, 1, 0]) (y := CA Try.f10 [1, 1, 1, 1, 1, 1, 1, 1, 1, 1, 1]) (fun a w => ∃ lr : Fr, a = mk 281 (([(12, pV r4), (13, pV r7), (17, .slice p38 (((liveL pp.1.E).length)) c39), (18, iV (((pp.1.R.length : Nat) : Int))), (19, .bool true), (20, .bool true), (24, pV b724)] : Fr) ++ lr) ∧ sat g w [TW b724 nn pp.1, Cl r7 [iV dx, iV dy, uV dz] 28, Cl r4 [iV hx, uV hy] 34, Old wo, R]) (by kernel_rfl) ?_ ?_
         ·
          refine ySq ?_
          refine yPl [0, 1] ?_
          refine yB0 [] [0, 1] [(104, .bool false), (103, iV 6)] (.mk ?_)
          refine yK [(10, pV r1), (12, pV r4), (13, pV r7), (15, pV b29), (17, .slice p38 (((liveL pp.1.E).length)) c39), (18, iV (((pp.1.R.length : Nat) : Int))), (19, .bool true), (20, .bool true), (24, pV b724), (25, pV r788), (26, iV 6), (104, .bool false)] fun lr794 => ?_
          refine yCf ?_
          refine ySq ?_
          refine yPl [0, 1, 2, 3, 4, 5, 6, 7, 8, 9, 10, 11, 12, 13, 14, 15, 16, 17, 18, 19, 20, 21, 22, 23, 24, 25, 26, 27, 28, 29, 30, 31, 32, 33, 34] ?_
          refine yBb [2, 3, 4, 5, 6, 7, 8, 9, 10, 11, 12, 13, 14, 15, 16, 17, 18, 19, 20, 21, 22, 23, 24, 25, 26, 27, 28, 29, 30, 31, 32, 33, 34] [(164, .agg #[iV 0, iV 0, uV 0]), (163, .agg #[iV 0, iV 0, uV 0])] [e2 0 [iV 0, iV 0, uV 0], e0 1] [(0, ⟨r788, 0, none⟩, iV 0), (0, ⟨r788, 1, none⟩, iV 0), (0, ⟨r788, 2, none⟩, uV 0)] [] trivial (kC (sat_cell h792 0 rfl rfl) (kC (sat_cell h792 0 rfl rfl) (kC (sat_cell h792 0 rfl rfl) nC))) ?_
          refine plain_law (i := 2) 165 (.bool false) (by kernel_rfl) (q30e28_neq_t (o := opA (RA Try.f10 [1, 1, 1, 1, 1, 1, 1, 1, 1, 1, 0, 1, 1, 0]) 2) (x := (Operand.tmp 163)) (y := (Operand.tmp 164)) 0 0 0 0 0 0 (by kernel_rfl) (by kernel_rfl) (by kernel_rfl) ⟨rfl, rfl, rfl⟩ _) ?_
          refine yB0 [5, 6, 7, 8, 9, 10, 11, 12, 13, 14, 15, 16, 17, 18, 19, 20, 21, 22, 23, 24, 25, 26, 27, 28, 29, 30, 31, 32, 33, 34] [3, 4] [(167, pV b29), (166, .bool false)] ?_
          have h795 := tk9 (sf8 (sf7 (sf8 (sf8 (sf8 (sf8 (sf8 (sf8 (sf8 h792)))))))))
          refine yA ?_
          refine yCl 168 Try.call22 (tlen_w b29 nn pp.1) h795 ?_
          rintro v K w796 (⟨rfl, rfl⟩) h797
          refine ⟨_, rfl, ?_⟩
          have h798 := ap1 h797
          refine yBb [11, 12, 13, 14, 15, 16, 17, 18, 19, 20, 21, 22, 23, 24, 25, 26, 27, 28, 29, 30, 31, 32, 33, 34] [(173, pV b29), (172, .bool false), (171, .bool false), (170, .bool false), (169, iV (((pp.1.R.length : Nat) : Int)))] [e0 6, e1 7 (.bool false), e0 8, e0 9, e0 10] [] [(.bool ((((pp.1.R.length : Nat) : Int)) != (((pp.1.R.length : Nat) : Int))), .bool false)] ⟨(ov_nf (by omega)), trivial⟩ nC ?_
          have hll801 := live_len pp.1.E
          refine yA ?_
          refine yCl 174 Try.call24 (live_w b29 nn pp.1) h798 ?_
          rintro v K w802 (⟨p799, c800, rfl, rfl⟩) h803
          refine ⟨_, rfl, ?_⟩
          have h804 := ap2 h803
          refine yBb [] [(197, .bool false), (196, .bool false), (195, undef), (194, undef), (193, .bool false), (192, .bool false), (191, .bool false), (190, iV 6), (189, .bool true), (188, .bool true), (187, .bool true), (186, iV 6), (185, .bool true), (184, .bool true), (183, undef), (182, .bool true), (181, .bool true), (180, .bool false), (179, .bool false), (178, .bool false), (177, iV ((((liveL pp.1.E).length : Nat) : Int))), (176, .slice p38 (((liveL pp.1.E).length)) c39), (175, iV ((((liveL pp.1.E).length : Nat) : Int)))] [e0 12, e0 13, e0 14, e1 15 (.bool false), e0 16, e0 17, e0 18, e0 19, e0 20, e0 21, e0 22, e0 23, e0 24, e0 25, e0 26, e0 27, e0 28, e0 29, e0 30, e0 31, e0 32, e0 33, e0 34] [] [(.bool (((((liveL pp.1.E).length : Nat) : Int)) != ((((liveL pp.1.E).length : Nat) : Int))), .bool false)] ⟨(ov_nf (by omega)), trivial⟩ nC (.mk ?_)
          refine yK [(12, pV r4), (13, pV r7), (17, .slice p38 (((liveL pp.1.E).length)) c39), (18, iV (((pp.1.R.length : Nat) : Int))), (19, .bool true), (20, .bool true), (24, pV b724), (197, .bool false)] fun lr805 => ?_
          refine yCf ?_
          refine ySk ?_
          have h806 := tk10 (sf9 (sf9 (sf9 (sf9 (sf9 (sf4 (sf4 (sf4 (sf5 (sf7 h804))))))))))
          have h807 := tk5 h806
          exact ⟨_, (mk_live [(12, pV r4), (13, pV r7), (17, .slice p38 (((liveL pp.1.E).length)) c39), (18, iV (((pp.1.R.length : Nat) : Int))), (19, .bool true), (20, .bool true), (24, pV b724)] ⟨rfl, rfl, rfl, rfl, rfl, rfl, rfl, trivial⟩), h807⟩
         ·
          rintro a808 w809 ⟨lr811, rfl, h810⟩
          refine ySq ?_
          refine yPl [0, 1, 2, 3, 4, 5, 6, 7, 8, 9] ?_
          refine yBb [3, 4, 5, 6, 7, 8, 9] [(201, .agg #[iV hx, uV hy]), (200, .agg #[iV dx, iV dy, uV dz]), (199, pV b724)] [e0 0, e2 1 [iV dx, iV dy, uV dz], e2 2 [iV hx, uV hy]] [(2, ⟨r4, 0, none⟩, iV hx), (2, ⟨r4, 1, none⟩, uV hy), (1, ⟨r7, 0, none⟩, iV dx), (1, ⟨r7, 1, none⟩, iV dy), (1, ⟨r7, 2, none⟩, uV dz)] [] trivial (kC (sat_cell h810 2 rfl rfl) (kC (sat_cell h810 2 rfl rfl) (kC (sat_cell h810 1 rfl rfl) (kC (sat_cell h810 1 rfl rfl) (kC (sat_cell h810 1 rfl rfl) nC))))) ?_
          have hne_ : dupE pp.1 (dx, dy, dz) (hx, hy) ≠ 0 := fun q_ => absurd (dup_obj q_).1 (of_decide_eq_true htk.symm)
          refine yA ?_
          refine yCl 202 Try.call14 ((by have h_ := tdup_w b724 nn pp.1 dx dy dz hx hy (by omega) (by omega); rw [(dup_bad rfl (show dupE pp.1 (dx, dy, dz) (hx, hy) ≠ 0 from by omega)).1, (dup_bad rfl (show dupE pp.1 (dx, dy, dz) (hx, hy) ≠ 0 from by omega)).2] at h_; exact h_)) h810 ?_
          rintro v K w812 (⟨rfl, rfl⟩) h813
          refine ⟨_, rfl, ?_⟩
          have h814 := ap1 h813
          refine yB0 [7, 8, 9] [4, 5, 6] [(204, iV ((dupE pp.1 (dx, dy, dz) (hx, hy)))), (203, .agg #[iV 0, iV 0, uV 0]), (198, .tuple #[.agg #[iV 0, iV 0, uV 0], iV ((dupE pp.1 (dx, dy, dz) (hx, hy)))])] ?_
          refine yA ?_
          refine yNp 31 28 [iV 0, iV 0, uV 0] h814 fun r815 w816 h817 => ?_
          refine yA ?_
          refine yS [(0, iV 0), (1, iV 0), (2, uV 0)] [iV 0, iV 0, uV 0] h817 fun w818 h819 => ?_
          refine yB0 [] [9] [(32, iV ((dupE pp.1 (dx, dy, dz) (hx, hy))))] (.mk ?_)
          refine yK [(13, pV r7), (17, .slice p38 (((liveL pp.1.E).length)) c39), (18, iV (((pp.1.R.length : Nat) : Int))), (19, .bool true), (20, .bool true), (24, pV b724), (31, pV r815), (32, iV ((dupE pp.1 (dx, dy, dz) (hx, hy))))] fun lr820 => ?_
          refine ySq ?_
          refine ySq ?_
          refine yPl [0, 1] ?_
          refine yBb [] [(206, .bool true), (205, iV ((dupE pp.1 (dx, dy, dz) (hx, hy))))] [e0 0, e1 1 (.bool true)] [] [(.bool (((dupE pp.1 (dx, dy, dz) (hx, hy))) != 0), .bool true)] ⟨(ov_nt (by omega)), trivial⟩ nC (.mk ?_)
          refine yK [(13, pV r7), (17, .slice p38 (((liveL pp.1.E).length)) c39), (18, iV (((pp.1.R.length : Nat) : Int))), (19, .bool true), (20, .bool true), (24, pV b724), (31, pV r815), (206, .bool true)] fun lr821 => ?_
          refine yCt ?_
          refine ySq ?_
          refine yPl [0, 1, 2, 3, 4, 5, 6, 7, 8, 9, 10, 11, 12, 13, 14, 15, 16, 17, 18, 19, 20] ?_
          refine yBb [2, 3, 4, 5, 6, 7, 8, 9, 10, 11, 12, 13, 14, 15, 16, 17, 18, 19, 20] [(208, .agg #[iV 0, iV 0, uV 0]), (207, .agg #[iV 0, iV 0, uV 0])] [e2 0 [iV 0, iV 0, uV 0], e0 1] [(0, ⟨r815, 0, none⟩, iV 0), (0, ⟨r815, 1, none⟩, iV 0), (0, ⟨r815, 2, none⟩, uV 0)] [] trivial (kC (sat_cell h819 0 rfl rfl) (kC (sat_cell h819 0 rfl rfl) (kC (sat_cell h819 0 rfl rfl) nC))) ?_
          refine plain_law (i := 2) 209 (.bool true) (by kernel_rfl) (q30e28_eql_t (o := opA (RA Try.f10 [1, 1, 1, 1, 1, 1, 1, 1, 1, 1, 1, 1, 0, 1, 0, 0]) 2) (x := (Operand.tmp 207)) (y := (Operand.tmp 208)) 0 0 0 0 0 0 (by kernel_rfl) (by kernel_rfl) (by kernel_rfl) ⟨rfl, rfl, rfl⟩ _) ?_
          refine yB0 [5, 6, 7, 8, 9, 10, 11, 12, 13, 14, 15, 16, 17, 18, 19, 20] [3, 4] [(211, pV b724), (210, .bool true)] ?_
          have hll824 := live_len pp.1.E
          have h825 := tk6 (sf5 (sf4 (sf5 (sf5 (sf5 (sf5 h819))))))
          refine yA ?_
          refine yCl 212 Try.call24 (live_w b724 nn pp.1) h825 ?_
          rintro v K w826 (⟨p822, c823, rfl, rfl⟩) h827
          refine ⟨_, rfl, ?_⟩
          have h828 := ap2 h827
          refine yBb [13, 14, 15, 16, 17, 18, 19, 20] [(219, pV b724), (218, .bool true), (217, .bool true), (216, .bool true), (215, iV ((((liveL pp.1.E).length : Nat) : Int))), (214, .slice p38 (((liveL pp.1.E).length)) c39), (213, iV ((((liveL pp.1.E).length : Nat) : Int)))] [e0 6, e0 7, e0 8, e1 9 (.bool true), e0 10, e0 11, e0 12] [] [(.bool (((((liveL pp.1.E).length : Nat) : Int)) == ((((liveL pp.1.E).length : Nat) : Int))), .bool true)] ⟨(ov_et (by omega)), trivial⟩ nC ?_
          refine yA ?_
          refine yCl 220 Try.call22 (tlen_w b724 nn pp.1) h828 ?_
          rintro v K w829 (⟨rfl, rfl⟩) h830
          refine ⟨_, rfl, ?_⟩
          have h831 := ap1 h830
          refine yBb [18, 19, 20] [(224, .bool true), (223, .bool true), (222, .bool true), (221, iV (((pp.1.R.length : Nat) : Int)))] [e0 14, e1 15 (.bool true), e0 16, e0 17] [] [(.bool ((((pp.1.R.length : Nat) : Int)) == (((pp.1.R.length : Nat) : Int))), .bool true)] ⟨(ov_et (by omega)), trivial⟩ nC ?_
          refine fk_cut ([(224, .bool true), (13, pV r7), (17, .slice p38 (((liveL pp.1.E).length)) c39), (18, iV (((pp.1.R.length : Nat) : Int))), (19, .bool true), (20, .bool true), (24, pV b724), (31, pV r815), (206, .bool true)] : Fr) (by kernel_rfl) (fun a => PO _ _ _ _ a _) (fun lr832 => ?_)
          refine yA ?_
          refine yCl 225 Try.call18 (works_ht) h831 ?_
          rintro v K w833 (⟨rfl, rfl⟩) h834
          refine ⟨_, rfl, ?_⟩
          have h835 := ap0 h834
          refine yB0 [] [19, 20] [(14, .bool true), (226, .bool true)] (.mk ?_)
          refine yK [(14, .bool true)] fun lr836 => ?_
          refine yRt ?_
          repeat (first | simp only [Exit.inBlock] | simp only [Exit.then])
          have h837 := tk7 (sf6 (sf5 (sf5 (sf5 (sf5 (sf5 (sf6 h835)))))))
          have h838 := tk2 (sf1 (sf6 h837))
          refine hi_out [] (.bool true) [] (by kernel_rfl) (by intro q hq; cases hq) ?_
          exact ⟨.bool true, [Old wo], rfl, ⟨rfl, rfl⟩, h838⟩
        ·
         refine yA ?_
         refine yCl 100 Try.call12 ((by have he_ : opnE pp.1 (ox, oy, oz) L (hx, hy) = 16 := (by have hr_ := opn_ref (S := pp.1) (o := (ox, oy, oz)) (L := L) (h := (hx, hy)) (.inl (of_decide_eq_true htk.symm)); omega); have h_ := topen_w b29 nn pp.1 ox oy oz hx hy L (by omega) (by omega) (by omega); rw [(opn_bad he_ (by first | decide | omega)).1, (opn_bad he_ (by first | decide | omega)).2, he_] at h_; exact h_)) h727 ?_
         rintro v K w839 (⟨rfl, rfl⟩) h840
         refine ⟨_, rfl, ?_⟩
         have h841 := ap1 h840
         refine yB0 [8, 9, 10] [5, 6, 7] [(102, iV 16), (101, .agg #[iV 0, iV 0, uV 0]), (95, .tuple #[.agg #[iV 0, iV 0, uV 0], iV 16])] ?_
         refine yA ?_
         refine yNp 25 28 [iV 0, iV 0, uV 0] h841 fun r842 w843 h844 => ?_
         refine yA ?_
         refine yS [(0, iV 0), (1, iV 0), (2, uV 0)] [iV 0, iV 0, uV 0] h844 fun w845 h846 => ?_
         refine yB0 [] [10] [(26, iV 16)] (.mk ?_)
         refine yK [(10, pV r1), (12, pV r4), (13, pV r7), (15, pV b29), (17, .slice p38 (((liveL pp.1.E).length)) c39), (18, iV (((pp.1.R.length : Nat) : Int))), (19, .bool true), (20, .bool true), (24, pV b724), (25, pV r842), (26, iV 16)] fun lr847 => ?_
         refine gi_join (x := CA Try.f10 [1, 1, 1, 1, 1, 1, 1, 1, 1, 1, 0]) (y := CA Try.f10 [1, 1, 1, 1, 1, 1, 1, 1, 1, 1, 1]) (fun a w => ∃ lr : Fr, a = mk 281 (([(12, pV r4), (13, pV r7), (17, .slice p38 (((liveL pp.1.E).length)) c39), (18, iV (((pp.1.R.length : Nat) : Int))), (19, .bool true), (20, .bool true), (24, pV b724)] : Fr) ++ lr) ∧ sat g w [TW b724 nn pp.1, Cl r7 [iV dx, iV dy, uV dz] 28, Cl r4 [iV hx, uV hy] 34, Old wo, R]) (by kernel_rfl) ?_ ?_
         ·
          refine ySq ?_
          refine yPl [0, 1] ?_
          refine yB0 [] [0, 1] [(104, .bool false), (103, iV 16)] (.mk ?_)
          refine yK [(10, pV r1), (12, pV r4), (13, pV r7), (15, pV b29), (17, .slice p38 (((liveL pp.1.E).length)) c39), (18, iV (((pp.1.R.length : Nat) : Int))), (19, .bool true), (20, .bool true), (24, pV b724), (25, pV r842), (26, iV 16), (104, .bool false)] fun lr848 => ?_
          refine yCf ?_
          refine ySq ?_
          refine yPl [0, 1, 2, 3, 4, 5, 6, 7, 8, 9, 10, 11, 12, 13, 14, 15, 16, 17, 18, 19, 20, 21, 22, 23, 24, 25, 26, 27, 28, 29, 30, 31, 32, 33, 34] ?_
          refine yBb [2, 3, 4, 5, 6, 7, 8, 9, 10, 11, 12, 13, 14, 15, 16, 17, 18, 19, 20, 21, 22, 23, 24, 25, 26, 27, 28, 29, 30, 31, 32, 33, 34] [(164, .agg #[iV 0, iV 0, uV 0]), (163, .agg #[iV 0, iV 0, uV 0])] [e2 0 [iV 0, iV 0, uV 0], e0 1] [(0, ⟨r842, 0, none⟩, iV 0), (0, ⟨r842, 1, none⟩, iV 0), (0, ⟨r842, 2, none⟩, uV 0)] [] trivial (kC (sat_cell h846 0 rfl rfl) (kC (sat_cell h846 0 rfl rfl) (kC (sat_cell h846 0 rfl rfl) nC))) ?_
          refine plain_law (i := 2) 165 (.bool false) (by kernel_rfl) (q30e28_neq_t (o := opA (RA Try.f10 [1, 1, 1, 1, 1, 1, 1, 1, 1, 1, 0, 1, 1, 0]) 2) (x := (Operand.tmp 163)) (y := (Operand.tmp 164)) 0 0 0 0 0 0 (by kernel_rfl) (by kernel_rfl) (by kernel_rfl) ⟨rfl, rfl, rfl⟩ _) ?_
          refine yB0 [5, 6, 7, 8, 9, 10, 11, 12, 13, 14, 15, 16, 17, 18, 19, 20, 21, 22, 23, 24, 25, 26, 27, 28, 29, 30, 31, 32, 33, 34] [3, 4] [(167, pV b29), (166, .bool false)] ?_
          have h849 := tk9 (sf8 (sf7 (sf8 (sf8 (sf8 (sf8 (sf8 (sf8 (sf8 h846)))))))))
          refine yA ?_
          refine yCl 168 Try.call22 (tlen_w b29 nn pp.1) h849 ?_
          rintro v K w850 (⟨rfl, rfl⟩) h851
          refine ⟨_, rfl, ?_⟩
          have h852 := ap1 h851
          refine yBb [11, 12, 13, 14, 15, 16, 17, 18, 19, 20, 21, 22, 23, 24, 25, 26, 27, 28, 29, 30, 31, 32, 33, 34] [(173, pV b29), (172, .bool false), (171, .bool false), (170, .bool false), (169, iV (((pp.1.R.length : Nat) : Int)))] [e0 6, e1 7 (.bool false), e0 8, e0 9, e0 10] [] [(.bool ((((pp.1.R.length : Nat) : Int)) != (((pp.1.R.length : Nat) : Int))), .bool false)] ⟨(ov_nf (by omega)), trivial⟩ nC ?_
          have hll855 := live_len pp.1.E
          refine yA ?_
          refine yCl 174 Try.call24 (live_w b29 nn pp.1) h852 ?_
          rintro v K w856 (⟨p853, c854, rfl, rfl⟩) h857
          refine ⟨_, rfl, ?_⟩
          have h858 := ap2 h857
          refine yBb [] [(197, .bool false), (196, .bool false), (195, .bool false), (194, iV 16), (193, .bool true), (192, .bool true), (191, .bool true), (190, iV 16), (189, .bool true), (188, .bool true), (187, .bool true), (186, iV 16), (185, .bool true), (184, .bool true), (183, undef), (182, .bool true), (181, .bool true), (180, .bool false), (179, .bool false), (178, .bool false), (177, iV ((((liveL pp.1.E).length : Nat) : Int))), (176, .slice p38 (((liveL pp.1.E).length)) c39), (175, iV ((((liveL pp.1.E).length : Nat) : Int)))] [e0 12, e0 13, e0 14, e1 15 (.bool false), e0 16, e0 17, e0 18, e0 19, e0 20, e0 21, e0 22, e0 23, e0 24, e0 25, e0 26, e0 27, e0 28, e0 29, e0 30, e0 31, e0 32, e0 33, e0 34] [] [(.bool (((((liveL pp.1.E).length : Nat) : Int)) != ((((liveL pp.1.E).length : Nat) : Int))), .bool false)] ⟨(ov_nf (by omega)), trivial⟩ nC (.mk ?_)
          refine yK [(12, pV r4), (13, pV r7), (17, .slice p38 (((liveL pp.1.E).length)) c39), (18, iV (((pp.1.R.length : Nat) : Int))), (19, .bool true), (20, .bool true), (24, pV b724), (197, .bool false)] fun lr859 => ?_
          refine yCf ?_
          refine ySk ?_
          have h860 := tk10 (sf9 (sf9 (sf9 (sf9 (sf9 (sf4 (sf4 (sf4 (sf5 (sf7 h858))))))))))
          have h861 := tk5 h860
          exact ⟨_, (mk_live [(12, pV r4), (13, pV r7), (17, .slice p38 (((liveL pp.1.E).length)) c39), (18, iV (((pp.1.R.length : Nat) : Int))), (19, .bool true), (20, .bool true), (24, pV b724)] ⟨rfl, rfl, rfl, rfl, rfl, rfl, rfl, trivial⟩), h861⟩
         ·
          rintro a862 w863 ⟨lr865, rfl, h864⟩
          refine ySq ?_
          refine yPl [0, 1, 2, 3, 4, 5, 6, 7, 8, 9] ?_
          refine yBb [3, 4, 5, 6, 7, 8, 9] [(201, .agg #[iV hx, uV hy]), (200, .agg #[iV dx, iV dy, uV dz]), (199, pV b724)] [e0 0, e2 1 [iV dx, iV dy, uV dz], e2 2 [iV hx, uV hy]] [(2, ⟨r4, 0, none⟩, iV hx), (2, ⟨r4, 1, none⟩, uV hy), (1, ⟨r7, 0, none⟩, iV dx), (1, ⟨r7, 1, none⟩, iV dy), (1, ⟨r7, 2, none⟩, uV dz)] [] trivial (kC (sat_cell h864 2 rfl rfl) (kC (sat_cell h864 2 rfl rfl) (kC (sat_cell h864 1 rfl rfl) (kC (sat_cell h864 1 rfl rfl) (kC (sat_cell h864 1 rfl rfl) nC))))) ?_
          have hne_ : dupE pp.1 (dx, dy, dz) (hx, hy) ≠ 0 := fun q_ => absurd (dup_obj q_).1 (of_decide_eq_true htk.symm)
          refine yA ?_
          refine yCl 202 Try.call14 ((by have h_ := tdup_w b724 nn pp.1 dx dy dz hx hy (by omega) (by omega); rw [(dup_bad rfl (show dupE pp.1 (dx, dy, dz) (hx, hy) ≠ 0 from by omega)).1, (dup_bad rfl (show dupE pp.1 (dx, dy, dz) (hx, hy) ≠ 0 from by omega)).2] at h_; exact h_)) h864 ?_
          rintro v K w866 (⟨rfl, rfl⟩) h867
          refine ⟨_, rfl, ?_⟩
          have h868 := ap1 h867
          refine yB0 [7, 8, 9] [4, 5, 6] [(204, iV ((dupE pp.1 (dx, dy, dz) (hx, hy)))), (203, .agg #[iV 0, iV 0, uV 0]), (198, .tuple #[.agg #[iV 0, iV 0, uV 0], iV ((dupE pp.1 (dx, dy, dz) (hx, hy)))])] ?_
          refine yA ?_
          refine yNp 31 28 [iV 0, iV 0, uV 0] h868 fun r869 w870 h871 => ?_
          refine yA ?_
          refine yS [(0, iV 0), (1, iV 0), (2, uV 0)] [iV 0, iV 0, uV 0] h871 fun w872 h873 => ?_
          refine yB0 [] [9] [(32, iV ((dupE pp.1 (dx, dy, dz) (hx, hy))))] (.mk ?_)
          refine yK [(13, pV r7), (17, .slice p38 (((liveL pp.1.E).length)) c39), (18, iV (((pp.1.R.length : Nat) : Int))), (19, .bool true), (20, .bool true), (24, pV b724), (31, pV r869), (32, iV ((dupE pp.1 (dx, dy, dz) (hx, hy))))] fun lr874 => ?_
          refine ySq ?_
          refine ySq ?_
          refine yPl [0, 1] ?_
          refine yBb [] [(206, .bool true), (205, iV ((dupE pp.1 (dx, dy, dz) (hx, hy))))] [e0 0, e1 1 (.bool true)] [] [(.bool (((dupE pp.1 (dx, dy, dz) (hx, hy))) != 0), .bool true)] ⟨(ov_nt (by omega)), trivial⟩ nC (.mk ?_)
          refine yK [(13, pV r7), (17, .slice p38 (((liveL pp.1.E).length)) c39), (18, iV (((pp.1.R.length : Nat) : Int))), (19, .bool true), (20, .bool true), (24, pV b724), (31, pV r869), (206, .bool true)] fun lr875 => ?_
          refine yCt ?_
          refine ySq ?_
          refine yPl [0, 1, 2, 3, 4, 5, 6, 7, 8, 9, 10, 11, 12, 13, 14, 15, 16, 17, 18, 19, 20] ?_
          refine yBb [2, 3, 4, 5, 6, 7, 8, 9, 10, 11, 12, 13, 14, 15, 16, 17, 18, 19, 20] [(208, .agg #[iV 0, iV 0, uV 0]), (207, .agg #[iV 0, iV 0, uV 0])] [e2 0 [iV 0, iV 0, uV 0], e0 1] [(0, ⟨r869, 0, none⟩, iV 0), (0, ⟨r869, 1, none⟩, iV 0), (0, ⟨r869, 2, none⟩, uV 0)] [] trivial (kC (sat_cell h873 0 rfl rfl) (kC (sat_cell h873 0 rfl rfl) (kC (sat_cell h873 0 rfl rfl) nC))) ?_
          refine plain_law (i := 2) 209 (.bool true) (by kernel_rfl) (q30e28_eql_t (o := opA (RA Try.f10 [1, 1, 1, 1, 1, 1, 1, 1, 1, 1, 1, 1, 0, 1, 0, 0]) 2) (x := (Operand.tmp 207)) (y := (Operand.tmp 208)) 0 0 0 0 0 0 (by kernel_rfl) (by kernel_rfl) (by kernel_rfl) ⟨rfl, rfl, rfl⟩ _) ?_
          refine yB0 [5, 6, 7, 8, 9, 10, 11, 12, 13, 14, 15, 16, 17, 18, 19, 20] [3, 4] [(211, pV b724), (210, .bool true)] ?_
          have hll878 := live_len pp.1.E
          have h879 := tk6 (sf5 (sf4 (sf5 (sf5 (sf5 (sf5 h873))))))
          refine yA ?_
          refine yCl 212 Try.call24 (live_w b724 nn pp.1) h879 ?_
          rintro v K w880 (⟨p876, c877, rfl, rfl⟩) h881
          refine ⟨_, rfl, ?_⟩
          have h882 := ap2 h881
          refine yBb [13, 14, 15, 16, 17, 18, 19, 20] [(219, pV b724), (218, .bool true), (217, .bool true), (216, .bool true), (215, iV ((((liveL pp.1.E).length : Nat) : Int))), (214, .slice p38 (((liveL pp.1.E).length)) c39), (213, iV ((((liveL pp.1.E).length : Nat) : Int)))] [e0 6, e0 7, e0 8, e1 9 (.bool true), e0 10, e0 11, e0 12] [] [(.bool (((((liveL pp.1.E).length : Nat) : Int)) == ((((liveL pp.1.E).length : Nat) : Int))), .bool true)] ⟨(ov_et (by omega)), trivial⟩ nC ?_
          refine yA ?_
          refine yCl 220 Try.call22 (tlen_w b724 nn pp.1) h882 ?_
          rintro v K w883 (⟨rfl, rfl⟩) h884
          refine ⟨_, rfl, ?_⟩
          have h885 := ap1 h884
          refine yBb [18, 19, 20] [(224, .bool true), (223, .bool true), (222, .bool true), (221, iV (((pp.1.R.length : Nat) : Int)))] [e0 14, e1 15 (.bool true), e0 16, e0 17] [] [(.bool ((((pp.1.R.length : Nat) : Int)) == (((pp.1.R.length : Nat) : Int))), .bool true)] ⟨(ov_et (by omega)), trivial⟩ nC ?_
          refine fk_cut ([(224, .bool true), (13, pV r7), (17, .slice p38 (((liveL pp.1.E).length)) c39), (18, iV (((pp.1.R.length : Nat) : Int))), (19, .bool true), (20, .bool true), (24, pV b724), (31, pV r869), (206, .bool true)] : Fr) (by kernel_rfl) (fun a => PO _ _ _ _ a _) (fun lr886 => ?_)
          refine yA ?_
          refine yCl 225 Try.call18 (works_ht) h885 ?_
          rintro v K w887 (⟨rfl, rfl⟩) h888
          refine ⟨_, rfl, ?_⟩
          have h889 := ap0 h888
          refine yB0 [] [19, 20] [(14, .bool true), (226, .bool true)] (.mk ?_)
          refine yK [(14, .bool true)] fun lr890 => ?_
          refine yRt ?_
          repeat (first | simp only [Exit.inBlock] | simp only [Exit.then])
          have h891 := tk7 (sf6 (sf5 (sf5 (sf5 (sf5 (sf5 (sf6 h889)))))))
          have h892 := tk2 (sf1 (sf6 h891))
          refine hi_out [] (.bool true) [] (by kernel_rfl) (by intro q hq; cases hq) ?_
          exact ⟨.bool true, [Old wo], rfl, ⟨rfl, rfl⟩, h892⟩

end Go.Proofs.Ytjjpmehiolejgaa
