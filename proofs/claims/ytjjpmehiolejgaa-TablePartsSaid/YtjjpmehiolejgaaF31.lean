/- Walks, printed by my generator gen31.py. -/
import Derived.Test.YtjjpmehiolejgaaBundle30
namespace Go.Proofs.Ytjjpmehiolejgaa
theorem nE_ok3 {S : Ts} {v : Int} (h : 1 ≤ v ∧ v ≤ (S.R.length : Int)) : nE S v = 0 := if_pos h
theorem q31e34_eql_f {n : Nat} {l : Fr} {o : Oper} {x y : Operand} (a0 : Int) (a1 : Int) (c0 : Int) (c1 : Int) (ho : o.op = .binOp .eql 34 x y 34) (hx : fe n l x = .agg #[.int .i64 a0, .int .u32 a1]) (hy : fe n l y = .agg #[.int .i64 c0, .int .u32 c1]) (h : ¬ (a0 = c0 ∧ a1 = c1)) (w : World) : (execOp (fe n l) o).run Try.prog w = .ok (.value (.bool false)) w := by
  by_cases h0 : a0 = c0
  · skip
    by_cases h1 : a1 = c1
    · exact absurd ⟨h0, h1⟩ h
    · simp [execOp, ho, hx, hy, go_sem, h0, h1]
  · simp [execOp, ho, hx, hy, go_sem, h0]
set_option maxHeartbeats 4000000 in
theorem parts_law (wo : World) (sz bl : Int) (hsz : 0 ≤ sz ∧ sz ≤ 255) (hbl : 0 ≤ bl ∧ bl ≤ 255) (p0 : Option Addr) (n cp : Nat) (T : List Mv) (hr : Rd wo p0 n (fl eMv T)) (hT : T.length = n) (hO : ∀ m ∈ T, MvOk m) : HT Try.prog 6 [Value.int IntKind.u8 sz, Value.int IntKind.u8 bl, Value.slice p0 n cp] [Old wo] (fun v K => v = Value.bool true ∧ K = [Old wo]) := by
 refine hi_in 267 ([(0, yV sz), (1, yV bl), (2, .slice p0 n cp)] : Fr) Try.func6 (by kernel_rfl) Try.ntmps6 rfl rfl ?_
 intro g w0 R h0
 obtain ⟨nn, hnn⟩ : ∃ nn : Nat, (nn : Int) = sz % 12 + 1 := ⟨(sz % 12 + 1).toNat, by omega⟩
 obtain ⟨gg, hgg⟩ : ∃ g : Int, g = 4294967295 - bl % 6 := ⟨_, rfl⟩
 refine ySq ?_
 refine yPl [0] ?_
 refine yB0 [] [0] [(6, .bool false)] (.mk ?_)
 refine yK [(0, yV sz), (1, yV bl), (2, .slice p0 n cp)] fun lr1 => ?_
 refine ySq ?_
 refine ySq ?_
 refine yPl [0, 1, 2] ?_
 refine yB0 [2] [0, 1] [(32, iV (n : Int)), (31, .slice p0 n cp)] ?_
 by_cases c2 : (n : Int) > 120
 ·
  refine yBb [] [(33, .bool true)] [e1 2 (.bool true)] [] [(.bool (decide ((n : Int) > 120)), .bool true)] ⟨(ov_t (by omega)), trivial⟩ nC (.mk ?_)
  refine yK [(0, yV sz), (1, yV bl), (2, .slice p0 n cp), (33, .bool true)] fun lr3 => ?_
  refine yCt ?_
  refine ySq ?_
  refine yPl [0, 1] ?_
  refine yA ?_
  refine yCl 34 Try.call18 (works_ht) h0 ?_
  rintro v K w4 (⟨rfl, rfl⟩) h5
  refine ⟨_, rfl, ?_⟩
  have h6 := ap0 h5
  refine yB0 [] [1] [(6, .bool true)] (.mk ?_)
  refine yK [(6, .bool true)] fun lr7 => ?_
  refine yRt ?_
  repeat (first | simp only [Exit.inBlock] | simp only [Exit.then])
  refine hi_out [] (.bool true) [] (by kernel_rfl) (by intro q hq; cases hq) ?_
  exact ⟨.bool true, [Old wo], rfl, ⟨rfl, rfl⟩, h6⟩
 ·
  refine yBb [] [(33, .bool false)] [e1 2 (.bool false)] [] [(.bool (decide ((n : Int) > 120)), .bool false)] ⟨(ov_f (by omega)), trivial⟩ nC (.mk ?_)
  refine yK [(0, yV sz), (1, yV bl), (2, .slice p0 n cp), (33, .bool false)] fun lr8 => ?_
  refine yCf ?_
  refine ySk ?_
  refine ySq ?_
  refine yPl [0, 1, 2, 3, 4, 5, 6, 7, 8] ?_
  refine yB0 [3, 4, 5, 6, 7, 8] [0, 1, 2] [(38, .slice p0 n cp), (37, yV bl), (36, yV sz)] ?_
  obtain ⟨pp, hpp⟩ : ∃ pp, madeK nn gg T n = pp := ⟨_, rfl⟩
  have hI_ : MInv nn pp := hpp ▸ minv_made (n := nn) (g := gg) (by omega) (by omega) hO (k := n) (by omega) (by omega)
  have hal_ : pp.2.length ≤ n := hpp ▸ madeK_all nn gg T n
  have hm9 := made_w wo sz bl hsz hbl nn hnn gg hgg p0 n cp T hr hT hO (by omega)
  rw [hpp] at hm9
  refine yA ?_
  refine yCl 39 Try.call19 (hm9) h0 ?_
  rintro v K w13 (⟨b10, p11, c12, rfl, rfl⟩) h14
  refine ⟨_, rfl, ?_⟩
  have h15 := ap3 h14
  refine yB0 [] [4, 5, 6, 7, 8] [(8, .slice p11 pp.2.length c12), (7, pV b10), (41, .slice p11 pp.2.length c12), (40, pV b10), (35, .tuple #[pV b10, .slice p11 pp.2.length c12])] (.mk ?_)
  refine yK [(0, yV sz), (7, pV b10)] fun lr16 => ?_
  refine ySq ?_
  refine ySq ?_
  refine yPl [0, 1] ?_
  refine yB0 [] [0, 1] [(43, .bool false), (42, pV b10)] (.mk ?_)
  refine yK [(0, yV sz), (7, pV b10), (43, .bool false)] fun lr17 => ?_
  refine yCf ?_
  refine ySk ?_
  refine ySq ?_
  refine yPl [0, 1, 2] ?_
  refine yB0 [1, 2] [0] [(44, pV b10)] ?_
  have hll20 := live_len pp.1.E
  refine yA ?_
  refine yCl 45 Try.call24 (live_w b10 nn pp.1) h15 ?_
  rintro v K w21 (⟨p18, c19, rfl, rfl⟩) h22
  refine ⟨_, rfl, ?_⟩
  have h23 := ap2 h22
  refine yB0 [] [2] [(9, .slice p18 (((liveL pp.1.E).length)) c19)] (.mk ?_)
  refine yK [(0, yV sz), (7, pV b10), (9, .slice p18 (((liveL pp.1.E).length)) c19)] fun lr24 => ?_
  refine ySq ?_
  refine yPl [0] ?_
  refine yB0 [] [0] [(10, iV 0)] (.mk ?_)
  refine yK [(0, yV sz), (7, pV b10), (9, .slice p18 (((liveL pp.1.E).length)) c19), (10, iV 0)] fun lr25 => ?_
  refine ySq ?_
  refine ySq ?_
  refine yPl [0] ?_
  refine yB0 [] [0] [(11, iV 1)] (.mk ?_)
  refine yK [(0, yV sz), (7, pV b10), (9, .slice p18 (((liveL pp.1.E).length)) c19), (10, iV 0), (11, iV 1)] fun lr26 => ?_
  refine yBk 0 ?_
  have h27 := tk5 (sf4 (sf3 (sf4 (sf4 (sf4 h23)))))
  have hl28 := fl_n eO_ok (by decide) h27
  have hRl_ := hI_.W.rl; have hcz_ : cntD pp.1.E 0 = 0 := rfl
  have h29 := tk5 (sf4 (sf3 (sf4 (sf4 (sf2 h27)))))
  have h30 := tk4 h29
  refine gi_lp (x := CA Try.f6 [1, 1, 1, 1, 1, 1, 0, 1, 0, 0]) (by kernel_rfl) (fun mz_ a w => ∃ i : Nat, ∃ lr : Fr, mz_ = pp.1.R.length - i ∧ (i ≤ pp.1.R.length) ∧ a = mk 267 (([(0, yV sz), (7, pV b10), (9, .slice p18 (((liveL pp.1.E).length)) c19), (10, iV ((((cntD pp.1.E i) : Nat) : Int))), (11, iV ((i : Int) + 1))] : Fr) ++ lr) ∧ sat g w [TW b10 nn pp.1, Sl 28 3 p18 (((liveL pp.1.E).length)) c19 (fl eO (liveL pp.1.E)), Old wo, R]) (pp.1.R.length - 0) ⟨0, _, rfl, (Nat.zero_le _), (mk_live [(0, yV sz), (7, pV b10), (9, .slice p18 (((liveL pp.1.E).length)) c19), (10, iV ((((cntD pp.1.E 0) : Nat) : Int))), (11, iV ((0 : Int) + 1))] ⟨rfl, rfl, rfl, (ov_int (by omega)), (ov_int (by omega)), trivial⟩), h30⟩ ?_
  rintro m32 a33 w34 ⟨i, lr31, rfl, hi_, rfl, h35⟩
  have hcl_ := cntD_le (E := pp.1.E) i
  refine ySq ?_
  refine ySq ?_
  refine yPl [0, 1, 2, 3] ?_
  refine yB0 [2, 3] [0, 1] [(47, pV b10), (46, iV ((i : Int) + 1))] ?_
  refine yA ?_
  refine yCl 48 Try.call22 (tlen_w b10 nn pp.1) h35 ?_
  rintro v K w36 (⟨rfl, rfl⟩) h37
  refine ⟨_, rfl, ?_⟩
  have h38 := ap1 h37
  by_cases c39 : (i : Int) + 1 ≤ ((pp.1.R.length : Nat) : Int)
  ·
   refine yBb [] [(49, .bool true)] [e1 3 (.bool true)] [] [(.bool (decide ((i : Int) + 1 ≤ ((pp.1.R.length : Nat) : Int))), .bool true)] ⟨(ov_t (by omega)), trivial⟩ nC (.mk ?_)
   refine yK [(0, yV sz), (7, pV b10), (9, .slice p18 (((liveL pp.1.E).length)) c19), (10, iV ((((cntD pp.1.E i) : Nat) : Int))), (11, iV ((i : Int) + 1)), (49, .bool true)] fun lr40 => ?_
   refine yCt ?_
   refine ySk ?_
   refine ySq ?_
   refine yBk 1 ?_
   refine ySq ?_
   refine yPl [0, 1, 2, 3, 4, 5, 6, 7, 8] ?_
   refine yB0 [2, 3, 4, 5, 6, 7, 8] [0, 1] [(54, iV ((i : Int) + 1)), (53, pV b10)] ?_
   have hra_ := res_at hI_ (k := i) (by omega)
   have hrb_ := hra_.2.1; have hrc_ := hra_.2.2.1; have hrd_ := hra_.2.2.2; have hdl_ := descs_len pp.1.E ((i : Int) + 1)
   refine yA ?_
   refine yCl 55 Try.call20 ((by have h_ := tget_w b10 nn pp.1 ((i : Int) + 1); rw [nE_ok3 (show 1 ≤ (i : Int) + 1 ∧ (i : Int) + 1 ≤ (pp.1.R.length : Int) from by omega)] at h_; exact h_)) h38 ?_
   rintro v K w41 (⟨rfl, rfl⟩) h42
   refine ⟨_, rfl, ?_⟩
   have h43 := ap1 h42
   refine yB0 [6, 7, 8] [3, 4, 5] [(57, iV 0), (56, .agg #[iV ((getR pp.1 ((i : Int) + 1)).out.1), iV ((getR pp.1 ((i : Int) + 1)).out.2.1), uV ((getR pp.1 ((i : Int) + 1)).out.2.2), iV ((getR pp.1 ((i : Int) + 1)).st), iV ((getR pp.1 ((i : Int) + 1)).why), iV ((getR pp.1 ((i : Int) + 1)).tr), iV ((getR pp.1 ((i : Int) + 1)).nx), .string (St ((getR pp.1 ((i : Int) + 1)).tag))]), (52, .tuple #[.agg #[iV ((getR pp.1 ((i : Int) + 1)).out.1), iV ((getR pp.1 ((i : Int) + 1)).out.2.1), uV ((getR pp.1 ((i : Int) + 1)).out.2.2), iV ((getR pp.1 ((i : Int) + 1)).st), iV ((getR pp.1 ((i : Int) + 1)).why), iV ((getR pp.1 ((i : Int) + 1)).tr), iV ((getR pp.1 ((i : Int) + 1)).nx), .string (St ((getR pp.1 ((i : Int) + 1)).tag))], iV 0])] ?_
   refine yA ?_
   refine yNp 12 42 [iV 0, iV 0, uV 0, iV 0, iV 0, iV 0, iV 0, .string (St [])] h43 fun r44 w45 h46 => ?_
   refine yA ?_
   refine yS [(0, iV ((getR pp.1 ((i : Int) + 1)).out.1)), (1, iV ((getR pp.1 ((i : Int) + 1)).out.2.1)), (2, uV ((getR pp.1 ((i : Int) + 1)).out.2.2)), (3, iV ((getR pp.1 ((i : Int) + 1)).st)), (4, iV ((getR pp.1 ((i : Int) + 1)).why)), (5, iV ((getR pp.1 ((i : Int) + 1)).tr)), (6, iV ((getR pp.1 ((i : Int) + 1)).nx)), (7, .string (St ((getR pp.1 ((i : Int) + 1)).tag)))] [iV ((getR pp.1 ((i : Int) + 1)).out.1), iV ((getR pp.1 ((i : Int) + 1)).out.2.1), uV ((getR pp.1 ((i : Int) + 1)).out.2.2), iV ((getR pp.1 ((i : Int) + 1)).st), iV ((getR pp.1 ((i : Int) + 1)).why), iV ((getR pp.1 ((i : Int) + 1)).tr), iV ((getR pp.1 ((i : Int) + 1)).nx), .string (St ((getR pp.1 ((i : Int) + 1)).tag))] h46 fun w47 h48 => ?_
   refine yB0 [] [8] [(13, iV 0)] (.mk ?_)
   refine yK [(0, yV sz), (7, pV b10), (9, .slice p18 (((liveL pp.1.E).length)) c19), (10, iV ((((cntD pp.1.E i) : Nat) : Int))), (11, iV ((i : Int) + 1)), (12, pV r44), (13, iV 0)] fun lr49 => ?_
   refine ySq ?_
   refine yPl [0, 1, 2, 3, 4, 5, 6, 7] ?_
   refine yB0 [2, 3, 4, 5, 6, 7] [0, 1] [(60, iV ((i : Int) + 1)), (59, pV b10)] ?_
   have h52 := tk5 (sf4 (sf3 (sf4 (sf4 (sf4 h48)))))
   refine yA ?_
   refine yCl 61 Try.call21 ((by have h_ := tdescs_w b10 nn pp.1 ((i : Int) + 1); rw [nE_ok3 (show 1 ≤ (i : Int) + 1 ∧ (i : Int) + 1 ≤ (pp.1.R.length : Int) from by omega)] at h_; exact h_)) h52 ?_
   rintro v K w53 (⟨p50, c51, rfl, rfl⟩) h54
   refine ⟨_, rfl, ?_⟩
   have h55 := ap2 h54
   refine yB0 [] [3, 4, 5, 6, 7] [(15, iV 0), (14, .slice p50 (((descs pp.1.E ((i : Int) + 1)).length)) c51), (63, iV 0), (62, .slice p50 (((descs pp.1.E ((i : Int) + 1)).length)) c51), (58, .tuple #[.slice p50 (((descs pp.1.E ((i : Int) + 1)).length)) c51, iV 0])] (.mk ?_)
   refine yK [(0, yV sz), (7, pV b10), (9, .slice p18 (((liveL pp.1.E).length)) c19), (10, iV ((((cntD pp.1.E i) : Nat) : Int))), (11, iV ((i : Int) + 1)), (12, pV r44), (13, iV 0), (14, .slice p50 (((descs pp.1.E ((i : Int) + 1)).length)) c51), (15, iV 0)] fun lr56 => ?_
   refine ySq ?_
   refine ySq ?_
   refine yPl [0, 1, 2, 3, 4, 5, 6, 7, 8, 9, 10, 11, 12, 13, 14, 15, 16, 17, 18, 19] ?_
   refine yBb [8, 9, 10, 11, 12, 13, 14, 15, 16, 17, 18, 19] [(71, .agg #[iV ((getR pp.1 ((i : Int) + 1)).out.1), iV ((getR pp.1 ((i : Int) + 1)).out.2.1), uV ((getR pp.1 ((i : Int) + 1)).out.2.2), iV ((getR pp.1 ((i : Int) + 1)).st), iV ((getR pp.1 ((i : Int) + 1)).why), iV ((getR pp.1 ((i : Int) + 1)).tr), iV ((getR pp.1 ((i : Int) + 1)).nx), .string (St ((getR pp.1 ((i : Int) + 1)).tag))]), (70, .bool false), (69, .bool false), (68, .bool false), (67, iV 0), (66, .bool false), (65, .bool false), (64, iV 0)] [e0 0, e0 1, e0 2, e0 3, e0 4, e0 5, e0 6, e2 7 [iV ((getR pp.1 ((i : Int) + 1)).out.1), iV ((getR pp.1 ((i : Int) + 1)).out.2.1), uV ((getR pp.1 ((i : Int) + 1)).out.2.2), iV ((getR pp.1 ((i : Int) + 1)).st), iV ((getR pp.1 ((i : Int) + 1)).why), iV ((getR pp.1 ((i : Int) + 1)).tr), iV ((getR pp.1 ((i : Int) + 1)).nx), .string (St ((getR pp.1 ((i : Int) + 1)).tag))]] [(7, ⟨r44, 0, none⟩, iV ((getR pp.1 ((i : Int) + 1)).out.1)), (7, ⟨r44, 1, none⟩, iV ((getR pp.1 ((i : Int) + 1)).out.2.1)), (7, ⟨r44, 2, none⟩, uV ((getR pp.1 ((i : Int) + 1)).out.2.2)), (7, ⟨r44, 3, none⟩, iV ((getR pp.1 ((i : Int) + 1)).st)), (7, ⟨r44, 4, none⟩, iV ((getR pp.1 ((i : Int) + 1)).why)), (7, ⟨r44, 5, none⟩, iV ((getR pp.1 ((i : Int) + 1)).tr)), (7, ⟨r44, 6, none⟩, iV ((getR pp.1 ((i : Int) + 1)).nx)), (7, ⟨r44, 7, none⟩, .string (St ((getR pp.1 ((i : Int) + 1)).tag)))] [] trivial (kC (sat_cell h55 2 rfl rfl) (kC (sat_cell h55 2 rfl rfl) (kC (sat_cell h55 2 rfl rfl) (kC (sat_cell h55 2 rfl rfl) (kC (sat_cell h55 2 rfl rfl) (kC (sat_cell h55 2 rfl rfl) (kC (sat_cell h55 2 rfl rfl) (kC (sat_cell h55 2 rfl rfl) nC)))))))) ?_
   refine yA ?_
   refine yCl 72 Try.call23 ((by have h_ := rchk_ht ((getR pp.1 ((i : Int) + 1)).out.1) ((getR pp.1 ((i : Int) + 1)).out.2.1) ((getR pp.1 ((i : Int) + 1)).out.2.2) ((getR pp.1 ((i : Int) + 1)).st) ((getR pp.1 ((i : Int) + 1)).why) ((getR pp.1 ((i : Int) + 1)).tr) ((getR pp.1 ((i : Int) + 1)).nx) ((getR pp.1 ((i : Int) + 1)).tag) (by omega) (by omega) (by omega); rw [show resE ((getR pp.1 ((i : Int) + 1)).out.1) ((getR pp.1 ((i : Int) + 1)).out.2.1) ((getR pp.1 ((i : Int) + 1)).out.2.2) ((getR pp.1 ((i : Int) + 1)).st) ((getR pp.1 ((i : Int) + 1)).why) ((getR pp.1 ((i : Int) + 1)).tr) ((getR pp.1 ((i : Int) + 1)).nx) ((getR pp.1 ((i : Int) + 1)).tag) = 0 from hra_.1] at h_; exact h_)) h55 ?_
   rintro v K w57 (⟨rfl, rfl⟩) h58
   refine ⟨_, rfl, ?_⟩
   have h59 := ap0 h58
   refine yB0 [14, 15, 16, 17, 18, 19] [9, 10, 11, 12, 13] [(77, iV ((((descs pp.1.E ((i : Int) + 1)).length : Nat) : Int))), (76, .slice p50 (((descs pp.1.E ((i : Int) + 1)).length)) c51), (75, .bool false), (74, .bool false), (73, .bool false)] ?_
   by_cases c60 : (((descs pp.1.E ((i : Int) + 1)).length : Nat) : Int) > 0
   ·
    refine yBb [18, 19] [(81, .bool true), (80, iV ((getR pp.1 ((i : Int) + 1)).st)), (79, .pointer (some ⟨r44, 3, none⟩)), (78, .bool true)] [e1 14 (.bool true), e0 15, e2 16 [iV ((getR pp.1 ((i : Int) + 1)).st)], e1 17 (.bool true)] [(16, ⟨r44, 3, none⟩, iV ((getR pp.1 ((i : Int) + 1)).st))] [(.bool (decide ((((descs pp.1.E ((i : Int) + 1)).length : Nat) : Int) > 0)), .bool true), (.bool (((getR pp.1 ((i : Int) + 1)).st) == 1), .bool true)] ⟨(ov_t (by omega)), (ov_et (by omega)), trivial⟩ (kC (sat_cell h59 2 rfl rfl) nC) ?_
    refine fk_cut ([(81, .bool true), (78, .bool true), (75, .bool false), (0, yV sz), (7, pV b10), (9, .slice p18 (((liveL pp.1.E).length)) c19), (10, iV ((((cntD pp.1.E i) : Nat) : Int))), (11, iV ((i : Int) + 1)), (12, pV r44), (13, iV 0), (14, .slice p50 (((descs pp.1.E ((i : Int) + 1)).length)) c51), (15, iV 0)] : Fr) (by kernel_rfl) (fun a => PO _ _ _ _ a _) (fun lr61 => ?_)
    refine plain_law (i := 18) 82 (.bool false) (by kernel_rfl) (law_neBool (t := 4) (o := opA (RA Try.f6 [1, 1, 1, 1, 1, 1, 0, 1, 0, 0, 1, 0, 0, 1, 1, 0, 0]) 18) (x := (Operand.tmp 78)) (y := (Operand.tmp 81)) true true false (by kernel_rfl) Try.underlying4 (by kernel_rfl) (by kernel_rfl) rfl _) ?_
    refine yB0 [] [19] [(83, .bool false)] (.mk ?_)
    refine yK [(0, yV sz), (7, pV b10), (9, .slice p18 (((liveL pp.1.E).length)) c19), (10, iV ((((cntD pp.1.E i) : Nat) : Int))), (11, iV ((i : Int) + 1)), (12, pV r44), (14, .slice p50 (((descs pp.1.E ((i : Int) + 1)).length)) c51), (83, .bool false)] fun lr62 => ?_
    refine yCf ?_
    refine ySk ?_
    refine ySq ?_
    refine yPl [0, 1, 2, 3, 4] ?_
    refine yBb [] [(10, iV ((((cntD pp.1.E i) : Nat) : Int) + (((descs pp.1.E ((i : Int) + 1)).length : Nat) : Int))), (87, iV ((((cntD pp.1.E i) : Nat) : Int) + (((descs pp.1.E ((i : Int) + 1)).length : Nat) : Int))), (86, iV ((((descs pp.1.E ((i : Int) + 1)).length : Nat) : Int))), (85, .slice p50 (((descs pp.1.E ((i : Int) + 1)).length)) c51), (84, iV ((((cntD pp.1.E i) : Nat) : Int)))] [e0 0, e0 1, e0 2, e1 3 (iV ((((cntD pp.1.E i) : Nat) : Int) + (((descs pp.1.E ((i : Int) + 1)).length : Nat) : Int))), e0 4] [] [(iV (IntKind.wrap .i64 (((((cntD pp.1.E i) : Nat) : Int)) + ((((descs pp.1.E ((i : Int) + 1)).length : Nat) : Int)))), iV ((((cntD pp.1.E i) : Nat) : Int) + (((descs pp.1.E ((i : Int) + 1)).length : Nat) : Int)))] ⟨(ov_i64 (by omega) (by omega) (by omega)), trivial⟩ nC (.mk ?_)
    refine yK [(0, yV sz), (7, pV b10), (9, .slice p18 (((liveL pp.1.E).length)) c19), (10, iV ((((cntD pp.1.E i) : Nat) : Int) + (((descs pp.1.E ((i : Int) + 1)).length : Nat) : Int))), (11, iV ((i : Int) + 1)), (12, pV r44), (14, .slice p50 (((descs pp.1.E ((i : Int) + 1)).length)) c51)] fun lr63 => ?_
    refine ySq ?_
    refine yPl [0] ?_
    refine yB0 [] [0] [(16, iV 0)] (.mk ?_)
    refine yK [(0, yV sz), (7, pV b10), (9, .slice p18 (((liveL pp.1.E).length)) c19), (10, iV ((((cntD pp.1.E i) : Nat) : Int) + (((descs pp.1.E ((i : Int) + 1)).length : Nat) : Int))), (11, iV ((i : Int) + 1)), (12, pV r44), (14, .slice p50 (((descs pp.1.E ((i : Int) + 1)).length)) c51), (16, iV 0)] fun lr64 => ?_
    refine yBk 2 ?_
    have h65 := tk6 (sf5 (sf4 (sf5 (sf5 (sf5 (sf5 h59))))))
    have hl66 := fl_n eO_ok (by decide) h65
    have h67 := tk6 (sf5 (sf5 (sf3 (sf4 (sf5 (sf5 h65))))))
    refine gi_lp (x := CA Try.f6 [1, 1, 1, 1, 1, 1, 0, 1, 0, 0, 1, 0, 0, 1, 1, 1, 1, 1, 0, 0]) (by kernel_rfl) (fun mz_ a w => ∃ j : Nat, ∃ lr : Fr, mz_ = ((descs pp.1.E ((i : Int) + 1)).length) - j ∧ (j ≤ ((descs pp.1.E ((i : Int) + 1)).length)) ∧ a = mk 267 (([(0, yV sz), (7, pV b10), (9, .slice p18 (((liveL pp.1.E).length)) c19), (10, iV ((((cntD pp.1.E i) : Nat) : Int) + (((descs pp.1.E ((i : Int) + 1)).length : Nat) : Int))), (11, iV ((i : Int) + 1)), (12, pV r44), (14, .slice p50 (((descs pp.1.E ((i : Int) + 1)).length)) c51), (16, iV (j : Int))] : Fr) ++ lr) ∧ sat g w [TW b10 nn pp.1, Sl 28 3 p18 (((liveL pp.1.E).length)) c19 (fl eO (liveL pp.1.E)), Sl 28 3 p50 (((descs pp.1.E ((i : Int) + 1)).length)) c51 (fl eO (descs pp.1.E ((i : Int) + 1))), Cl r44 [iV ((getR pp.1 ((i : Int) + 1)).out.1), iV ((getR pp.1 ((i : Int) + 1)).out.2.1), uV ((getR pp.1 ((i : Int) + 1)).out.2.2), iV ((getR pp.1 ((i : Int) + 1)).st), iV ((getR pp.1 ((i : Int) + 1)).why), iV ((getR pp.1 ((i : Int) + 1)).tr), iV ((getR pp.1 ((i : Int) + 1)).nx), .string (St ((getR pp.1 ((i : Int) + 1)).tag))] 42, Old wo, R]) (((descs pp.1.E ((i : Int) + 1)).length) - 0) ⟨0, _, rfl, (Nat.zero_le _), (mk_live [(0, yV sz), (7, pV b10), (9, .slice p18 (((liveL pp.1.E).length)) c19), (10, iV ((((cntD pp.1.E i) : Nat) : Int) + (((descs pp.1.E ((i : Int) + 1)).length : Nat) : Int))), (11, iV ((i : Int) + 1)), (12, pV r44), (14, .slice p50 (((descs pp.1.E ((i : Int) + 1)).length)) c51), (16, iV (0 : Int))] ⟨rfl, rfl, rfl, rfl, rfl, rfl, rfl, (ov_int (by omega)), trivial⟩), h67⟩ ?_
    rintro m69 a70 w71 ⟨j, lr68, rfl, hj_, rfl, h72⟩
    refine ySq ?_
    refine ySq ?_
    refine yPl [0, 1, 2, 3] ?_
    refine yB0 [3] [0, 1, 2] [(90, iV ((((descs pp.1.E ((i : Int) + 1)).length : Nat) : Int))), (89, .slice p50 (((descs pp.1.E ((i : Int) + 1)).length)) c51), (88, iV (j : Int))] ?_
    by_cases c73 : (j : Int) < (((descs pp.1.E ((i : Int) + 1)).length : Nat) : Int)
    ·
     refine yBb [] [(91, .bool true)] [e1 3 (.bool true)] [] [(.bool (decide ((j : Int) < (((descs pp.1.E ((i : Int) + 1)).length : Nat) : Int))), .bool true)] ⟨(ov_t (by omega)), trivial⟩ nC (.mk ?_)
     refine yK [(0, yV sz), (7, pV b10), (9, .slice p18 (((liveL pp.1.E).length)) c19), (10, iV ((((cntD pp.1.E i) : Nat) : Int) + (((descs pp.1.E ((i : Int) + 1)).length : Nat) : Int))), (11, iV ((i : Int) + 1)), (12, pV r44), (14, .slice p50 (((descs pp.1.E ((i : Int) + 1)).length)) c51), (16, iV (j : Int)), (91, .bool true)] fun lr74 => ?_
     refine yCt ?_
     refine ySk ?_
     refine ySq ?_
     refine yBk 3 ?_
     refine ySq ?_
     refine yPl [0, 1, 2, 3, 4, 5, 6, 7, 8, 9, 10] ?_
     obtain ⟨b75, hp76⟩ := sl_ptr0 (j := 2) h72 rfl (by omega)
     refine yB0 [3, 4, 5, 6, 7, 8, 9, 10] [0, 1, 2] [(97, iV (j : Int)), (96, .slice p50 (((descs pp.1.E ((i : Int) + 1)).length)) c51), (95, pV b10)] ?_
     refine plain_law (i := 3) 98 (.pointer (some ⟨b75, j * 3, none⟩)) (by kernel_rfl) (law_indexSlP (o := opA (RA Try.f6 [1, 1, 1, 1, 1, 1, 0, 1, 0, 0, 1, 0, 0, 1, 1, 1, 1, 1, 0, 0, 1, 0, 0, 0]) 3) (x := (Operand.tmp 96)) (i := (Operand.tmp 97)) (p := p50) (b := b75) (off := 0) (z := (j : Int)) (len := (((descs pp.1.E ((i : Int) + 1)).length))) (cap := c51) (by kernel_rfl) Try.underlying45 3 (by kernel_rfl) j (by kernel_rfl) hp76 (by kernel_rfl) (by omega) (by omega) (j * 3) (by omega) _) ?_
     obtain ⟨x77, hx78⟩ : ∃ x, (descs pp.1.E ((i : Int) + 1))[j]? = some x := ⟨_, List.getElem?_eq_getElem (by rw [hl66]; omega)⟩
     have hb79 := desc_in hI_.W (List.mem_of_getElem? hx78)
     have hb79a := hb79.1; have hb79b := hb79.2.1; have hb79c := hb79.2.2.1; unfold goodD at hb79a
     refine yBb [5, 6, 7, 8, 9, 10] [(99, .agg #[iV x77.1, iV x77.2.1, uV x77.2.2])] [e2 4 [iV x77.1, iV x77.2.1, uV x77.2.2]] [(4, ⟨b75, j * 3, none⟩, iV x77.1), (4, ⟨b75, j * 3 + 1, none⟩, iV x77.2.1), (4, ⟨b75, j * 3 + 2, none⟩, uV x77.2.2)] [] trivial (kC (gv_cell (j := 2) h72 rfl (gv_sl _ _ _) hp76 (fl_get eO_ok (j := 0) (v := iV x77.1) hx78 rfl) (j * 3) (by omega)) (kC (gv_cell (j := 2) h72 rfl (gv_sl _ _ _) hp76 (fl_get eO_ok (j := 1) (v := iV x77.2.1) hx78 rfl) (j * 3 + 1) (by omega)) (kC (gv_cell (j := 2) h72 rfl (gv_sl _ _ _) hp76 (fl_get eO_ok (j := 2) (v := uV x77.2.2) hx78 rfl) (j * 3 + 2) (by omega)) nC))) ?_
     refine yA ?_
     refine yCl 100 Try.call25 ((by have h_ := tnum_w b10 nn pp.1 x77.1 x77.2.1 x77.2.2 (by omega) (by omega); rw [hb79.2.2.2.1, hb79.2.2.2.2] at h_; exact h_)) h72 ?_
     rintro v K w80 (⟨rfl, rfl⟩) h81
     refine ⟨_, rfl, ?_⟩
     have h82 := ap1 h81
     refine yB0 [] [6, 7, 8, 9, 10] [(18, iV 0), (17, iV ((i : Int) + 1)), (102, iV 0), (101, iV ((i : Int) + 1)), (94, .tuple #[iV ((i : Int) + 1), iV 0])] (.mk ?_)
     refine yK [(0, yV sz), (7, pV b10), (9, .slice p18 (((liveL pp.1.E).length)) c19), (10, iV ((((cntD pp.1.E i) : Nat) : Int) + (((descs pp.1.E ((i : Int) + 1)).length : Nat) : Int))), (11, iV ((i : Int) + 1)), (12, pV r44), (14, .slice p50 (((descs pp.1.E ((i : Int) + 1)).length)) c51), (16, iV (j : Int)), (17, iV ((i : Int) + 1)), (18, iV 0)] fun lr83 => ?_
     refine ySq ?_
     refine gi_drw (id := 20) (ops := RA Try.f6 [1, 1, 1, 1, 1, 1, 0, 1, 0, 0, 1, 0, 0, 1, 1, 1, 1, 1, 0, 0, 1, 0, 0, 1, 0]) (Tr.fl 0 (Tr.fl 1 (Tr.fl 2 (Tr.fl 3 (Tr.fl 4 (Tr.fl 5 (Tr.fl 6 (Tr.fl 7 (Tr.fl 8 (Tr.fl 9 (Tr.fl 10 (Tr.fl 11 (Tr.fl 12 (Tr.fl 13 (Tr.fl 14 (Tr.fl 15 (Tr.fl 16 (Tr.fl 17 (Tr.fl 18 (Tr.fl 19 (Tr.fl 20 (Tr.fl 21 (Tr.fl 22 (Tr.an 23 (Tr.fl 24 (Tr.fl 25 (Tr.fl 26 (Tr.fl 27 (Tr.fl 28 (Tr.fl 29 (Tr.fl 30 (Tr.fl 31 (Tr.fl 32 (Tr.fl 33 (Tr.fl 34 (Tr.fl 35 (Tr.fl 36 (Tr.fl 37 (Tr.fl 38 (Tr.fl 39 (Tr.fl 40 (Tr.fl 41 (Tr.fl 42 (Tr.fl 43 Tr.nil)))))))))))))))))))))))))))))))))))))))))))) (by kernel_rfl) (by kernel_rfl) (by kernel_rfl) (by kernel_rfl) (by kernel_rfl) (fun _ _ d _ _ h => by cases d <;> exact h) h82 ?_
     intro w84 h85
     refine yD _ [(112, iV (j : Int)), (111, .slice p50 (((descs pp.1.E ((i : Int) + 1)).length)) c51), (110, .bool false), (109, .bool false), (108, .bool false), (107, iV ((i : Int) + 1)), (106, iV ((i : Int) + 1)), (105, .bool false), (104, .bool false), (103, iV 0)] [e0 0, e0 1, e0 2, e0 3, e0 4, e1 5 (.bool false), e0 6, e0 7, e0 8, e0 9] [] [(.bool (((i : Int) + 1) != ((i : Int) + 1)), .bool false)] ⟨(ov_nf (by omega)), trivial⟩ nC ?_
     refine draw_law (i := 10) 113 (.pointer (some ⟨b75, j * 3, none⟩)) [] (by kernel_rfl) (fun _ _ => law_indexSlP (o := opA (RA Try.f6 [1, 1, 1, 1, 1, 1, 0, 1, 0, 0, 1, 0, 0, 1, 1, 1, 1, 1, 0, 0, 1, 0, 0, 1, 0]) 10) (x := (Operand.tmp 111)) (i := (Operand.tmp 112)) (p := p50) (b := b75) (off := 0) (z := (j : Int)) (len := (((descs pp.1.E ((i : Int) + 1)).length))) (cap := c51) (by kernel_rfl) Try.underlying45 3 (by kernel_rfl) j (by kernel_rfl) hp76 (by kernel_rfl) (by omega) (by omega) (j * 3) (by omega) _) (by intro q hq; cases hq) ?_
     refine yD _ [(123, iV (j : Int)), (122, .slice p50 (((descs pp.1.E ((i : Int) + 1)).length)) c51), (121, .bool false), (120, .bool false), (119, .bool false), (118, iV ((getR pp.1 ((i : Int) + 1)).out.1)), (117, pV r44), (116, pV r44), (115, iV x77.1), (114, .pointer (some ⟨b75, j * 3, none⟩))] [e0 11, e2 12 [iV x77.1], e0 13, e0 14, e2 15 [iV ((getR pp.1 ((i : Int) + 1)).out.1)], e1 16 (.bool false), e0 17, e0 18, e0 19, e0 20] [(15, ⟨r44, 0, none⟩, iV ((getR pp.1 ((i : Int) + 1)).out.1)), (12, ⟨b75, j * 3, none⟩, iV x77.1)] [(.bool (x77.1 != ((getR pp.1 ((i : Int) + 1)).out.1)), .bool false)] ⟨(ov_nf (by omega)), trivial⟩ (kC (sat_cell h85 3 rfl rfl) (kC (gv_cell (j := 2) h85 rfl (gv_sl _ _ _) hp76 (fl_get eO_ok (j := 0) (v := iV x77.1) hx78 rfl) (j * 3) (by omega)) nC)) ?_
     refine fk_cut ([(123, iV (j : Int)), (122, .slice p50 (((descs pp.1.E ((i : Int) + 1)).length)) c51), (121, .bool false), (0, yV sz), (7, pV b10), (9, .slice p18 (((liveL pp.1.E).length)) c19), (10, iV ((((cntD pp.1.E i) : Nat) : Int) + (((descs pp.1.E ((i : Int) + 1)).length : Nat) : Int))), (11, iV ((i : Int) + 1)), (12, pV r44), (14, .slice p50 (((descs pp.1.E ((i : Int) + 1)).length)) c51), (16, iV (j : Int)), (17, iV ((i : Int) + 1)), (18, iV 0)] : Fr) (by kernel_rfl) (fun a => RW _ _ _ _ _ a _) (fun lr86 => ?_)
     refine draw_law (i := 21) 124 (.pointer (some ⟨b75, j * 3, none⟩)) [] (by kernel_rfl) (fun _ _ => law_indexSlP (o := opA (RA Try.f6 [1, 1, 1, 1, 1, 1, 0, 1, 0, 0, 1, 0, 0, 1, 1, 1, 1, 1, 0, 0, 1, 0, 0, 1, 0]) 21) (x := (Operand.tmp 122)) (i := (Operand.tmp 123)) (p := p50) (b := b75) (off := 0) (z := (j : Int)) (len := (((descs pp.1.E ((i : Int) + 1)).length))) (cap := c51) (by kernel_rfl) Try.underlying45 3 (by kernel_rfl) j (by kernel_rfl) hp76 (by kernel_rfl) (by omega) (by omega) (j * 3) (by omega) _) (by intro q hq; cases hq) ?_
     refine yD _ [(125, .agg #[iV x77.1, iV x77.2.1, uV x77.2.2])] [e2 22 [iV x77.1, iV x77.2.1, uV x77.2.2]] [(22, ⟨b75, j * 3, none⟩, iV x77.1), (22, ⟨b75, j * 3 + 1, none⟩, iV x77.2.1), (22, ⟨b75, j * 3 + 2, none⟩, uV x77.2.2)] [] trivial (kC (gv_cell (j := 2) h85 rfl (gv_sl _ _ _) hp76 (fl_get eO_ok (j := 0) (v := iV x77.1) hx78 rfl) (j * 3) (by omega)) (kC (gv_cell (j := 2) h85 rfl (gv_sl _ _ _) hp76 (fl_get eO_ok (j := 1) (v := iV x77.2.1) hx78 rfl) (j * 3 + 1) (by omega)) (kC (gv_cell (j := 2) h85 rfl (gv_sl _ _ _) hp76 (fl_get eO_ok (j := 2) (v := uV x77.2.2) hx78 rfl) (j * 3 + 2) (by omega)) nC))) ?_
     refine draw_act (i := 23) [(15, ⟨r44, 0, none⟩, iV ((getR pp.1 ((i : Int) + 1)).out.1)), (12, ⟨b75, j * 3, none⟩, iV x77.1)] (by kernel_rfl) (by kernel_rfl) ?_
     refine yCl 126 Try.call27 (cdesc_ok x77.1 x77.2.1 x77.2.2 (by omega) (by omega) (by omega)) h85 ?_
     rintro v K w87 (⟨rfl, rfl⟩) h88
     refine ⟨_, rfl, ?_⟩
     have h89 := ap0 h88
     refine ⟨(AllC_cons (sat_cell h89 3 rfl rfl) (AllC_cons (gv_cell (j := 2) h89 rfl (gv_sl _ _ _) hp76 (fl_get eO_ok (j := 0) (v := iV x77.1) hx78 rfl) (j * 3) (by omega)) (AllC_nil _))), ?_⟩
     refine yD _ [(130, iV (j : Int)), (129, .bool false), (128, .bool false), (127, .bool false)] [e0 24, e0 25, e0 26, e0 27] [] [] trivial nC ?_
     by_cases c90 : (j : Int) > 0
     ·
      refine yD _ [(134, iV (j : Int)), (133, .slice p50 (((descs pp.1.E ((i : Int) + 1)).length)) c51), (132, .bool true), (131, .bool true)] [e1 28 (.bool true), e0 29, e0 30, e0 31] [] [(.bool (decide ((j : Int) > 0)), .bool true)] ⟨(ov_t (by omega)), trivial⟩ nC ?_
      refine draw_law (i := 32) 135 (.pointer (some ⟨b75, j * 3, none⟩)) [] (by kernel_rfl) (fun _ _ => law_indexSlP (o := opA (RA Try.f6 [1, 1, 1, 1, 1, 1, 0, 1, 0, 0, 1, 0, 0, 1, 1, 1, 1, 1, 0, 0, 1, 0, 0, 1, 0]) 32) (x := (Operand.tmp 133)) (i := (Operand.tmp 134)) (p := p50) (b := b75) (off := 0) (z := (j : Int)) (len := (((descs pp.1.E ((i : Int) + 1)).length))) (cap := c51) (by kernel_rfl) Try.underlying45 3 (by kernel_rfl) j (by kernel_rfl) hp76 (by kernel_rfl) (by omega) (by omega) (j * 3) (by omega) _) (by intro q hq; cases hq) ?_
      obtain ⟨kk91, hk92⟩ : ∃ z : Nat, z = j - 1 := ⟨_, rfl⟩
      refine yD _ [(140, iV ((j : Int) - 1)), (139, iV (j : Int)), (138, .slice p50 (((descs pp.1.E ((i : Int) + 1)).length)) c51), (137, iV x77.2.1), (136, .pointer (some ⟨b75, j * 3 + 1, none⟩))] [e0 33, e2 34 [iV x77.2.1], e0 35, e0 36, e1 37 (iV ((j : Int) - 1))] [(34, ⟨b75, j * 3 + 1, none⟩, iV x77.2.1)] [(iV (IntKind.wrap .i64 ((j : Int) - 1)), iV ((j : Int) - 1))] ⟨(ov_i64 (by omega) (by omega) (by omega)), trivial⟩ (kC (gv_cell (j := 2) h89 rfl (gv_sl _ _ _) hp76 (fl_get eO_ok (j := 1) (v := iV x77.2.1) hx78 rfl) (j * 3 + 1) (by omega)) nC) ?_
      refine fk_cut ([(140, iV ((j : Int) - 1)), (138, .slice p50 (((descs pp.1.E ((i : Int) + 1)).length)) c51), (137, iV x77.2.1), (132, .bool true), (129, .bool false), (0, yV sz), (7, pV b10), (9, .slice p18 (((liveL pp.1.E).length)) c19), (10, iV ((((cntD pp.1.E i) : Nat) : Int) + (((descs pp.1.E ((i : Int) + 1)).length : Nat) : Int))), (11, iV ((i : Int) + 1)), (12, pV r44), (14, .slice p50 (((descs pp.1.E ((i : Int) + 1)).length)) c51), (16, iV (j : Int)), (17, iV ((i : Int) + 1)), (18, iV 0)] : Fr) (by kernel_rfl) (fun a => RW _ _ _ _ _ a _) (fun lr93 => ?_)
      refine draw_law (i := 38) 141 (.pointer (some ⟨b75, kk91 * 3, none⟩)) [] (by kernel_rfl) (fun _ _ => law_indexSlP (o := opA (RA Try.f6 [1, 1, 1, 1, 1, 1, 0, 1, 0, 0, 1, 0, 0, 1, 1, 1, 1, 1, 0, 0, 1, 0, 0, 1, 0]) 38) (x := (Operand.tmp 138)) (i := (Operand.tmp 140)) (p := p50) (b := b75) (off := 0) (z := ((j : Int) - 1)) (len := (((descs pp.1.E ((i : Int) + 1)).length))) (cap := c51) (by kernel_rfl) Try.underlying45 3 (by kernel_rfl) kk91 (by kernel_rfl) hp76 (by kernel_rfl) (by omega) (by omega) (kk91 * 3) (by omega) _) (by intro q hq; cases hq) ?_
      obtain ⟨x94, hx95⟩ : ∃ x, (descs pp.1.E ((i : Int) + 1))[j - 1]? = some x := ⟨_, List.getElem?_eq_getElem (by rw [hl66]; omega)⟩
      have hb96 := desc_in hI_.W (List.mem_of_getElem? hx95)
      have hb96a := hb96.1; have hb96b := hb96.2.1; have hb96c := hb96.2.2.1; unfold goodD at hb96a
      have hs97 := slot_lt (descs_lt hI_.W _) hx95 hx78 (by omega)
      refine yD _ [(146, .bool false), (145, .bool false), (144, .bool false), (143, iV x94.2.1), (142, .pointer (some ⟨b75, kk91 * 3 + 1, none⟩))] [e0 39, e2 40 [iV x94.2.1], e1 41 (.bool false), e0 42, e0 43] [(40, ⟨b75, kk91 * 3 + 1, none⟩, iV x94.2.1)] [(.bool (decide (x77.2.1 ≤ x94.2.1)), .bool false)] ⟨(ov_f (by omega)), trivial⟩ (kC (gv_cell (j := 2) h89 rfl (gv_sl _ _ _) hp76 (fl_get eO_ok (j := 1) (v := iV x94.2.1) hx95 rfl) (kk91 * 3 + 1) (by omega)) nC) ?_
      refine yK [(0, yV sz), (7, pV b10), (9, .slice p18 (((liveL pp.1.E).length)) c19), (10, iV ((((cntD pp.1.E i) : Nat) : Int) + (((descs pp.1.E ((i : Int) + 1)).length : Nat) : Int))), (11, iV ((i : Int) + 1)), (12, pV r44), (14, .slice p50 (((descs pp.1.E ((i : Int) + 1)).length)) c51), (16, iV (j : Int)), (146, .bool false)] fun lr98 => ?_
      refine yCf ?_
      refine ySk ?_
      refine yPl [0, 1, 2] ?_
      refine yBb [] [(16, iV ((j : Int) + 1)), (93, iV ((j : Int) + 1)), (92, iV (j : Int))] [e0 0, e1 1 (iV ((j : Int) + 1)), e0 2] [] [(iV (IntKind.wrap .i64 ((j : Int) + 1)), iV ((j : Int) + 1))] ⟨(ov_i64 (by omega) (by omega) (by omega)), trivial⟩ nC (.mk ?_)
      change ∃ n', n' < _ ∧ _
      refine ⟨(((descs pp.1.E ((i : Int) + 1)).length) - (j + 1)), by omega, (j + 1), _, rfl, (by omega), (mk_live [(0, yV sz), (7, pV b10), (9, .slice p18 (((liveL pp.1.E).length)) c19), (10, iV ((((cntD pp.1.E i) : Nat) : Int) + (((descs pp.1.E ((i : Int) + 1)).length : Nat) : Int))), (11, iV ((i : Int) + 1)), (12, pV r44), (14, .slice p50 (((descs pp.1.E ((i : Int) + 1)).length)) c51), (16, iV ((((j + 1) : Nat) : Int)))] ⟨rfl, rfl, rfl, rfl, rfl, rfl, rfl, (ov_int (by omega)), trivial⟩), h89⟩
     ·
      refine yD _ [(146, .bool false), (145, .bool false), (144, undef), (143, undef), (142, undef), (141, undef), (140, undef), (139, undef), (138, undef), (137, undef), (136, undef), (135, undef), (134, undef), (133, undef), (132, .bool false), (131, .bool false)] [e1 28 (.bool false), e0 29, e0 30, e0 31, e0 32, e0 33, e0 34, e0 35, e0 36, e0 37, e0 38, e0 39, e0 40, e0 41, e0 42, e0 43] [] [(.bool (decide ((j : Int) > 0)), .bool false)] ⟨(ov_f (by omega)), trivial⟩ nC ?_
      refine yK [(0, yV sz), (7, pV b10), (9, .slice p18 (((liveL pp.1.E).length)) c19), (10, iV ((((cntD pp.1.E i) : Nat) : Int) + (((descs pp.1.E ((i : Int) + 1)).length : Nat) : Int))), (11, iV ((i : Int) + 1)), (12, pV r44), (14, .slice p50 (((descs pp.1.E ((i : Int) + 1)).length)) c51), (16, iV (j : Int)), (146, .bool false)] fun lr99 => ?_
      refine yCf ?_
      refine ySk ?_
      refine yPl [0, 1, 2] ?_
      refine yBb [] [(16, iV ((j : Int) + 1)), (93, iV ((j : Int) + 1)), (92, iV (j : Int))] [e0 0, e1 1 (iV ((j : Int) + 1)), e0 2] [] [(iV (IntKind.wrap .i64 ((j : Int) + 1)), iV ((j : Int) + 1))] ⟨(ov_i64 (by omega) (by omega) (by omega)), trivial⟩ nC (.mk ?_)
      change ∃ n', n' < _ ∧ _
      refine ⟨(((descs pp.1.E ((i : Int) + 1)).length) - (j + 1)), by omega, (j + 1), _, rfl, (by omega), (mk_live [(0, yV sz), (7, pV b10), (9, .slice p18 (((liveL pp.1.E).length)) c19), (10, iV ((((cntD pp.1.E i) : Nat) : Int) + (((descs pp.1.E ((i : Int) + 1)).length : Nat) : Int))), (11, iV ((i : Int) + 1)), (12, pV r44), (14, .slice p50 (((descs pp.1.E ((i : Int) + 1)).length)) c51), (16, iV ((((j + 1) : Nat) : Int)))] ⟨rfl, rfl, rfl, rfl, rfl, rfl, rfl, (ov_int (by omega)), trivial⟩), h89⟩
    ·
     refine yBb [] [(91, .bool false)] [e1 3 (.bool false)] [] [(.bool (decide ((j : Int) < (((descs pp.1.E ((i : Int) + 1)).length : Nat) : Int))), .bool false)] ⟨(ov_f (by omega)), trivial⟩ nC (.mk ?_)
     refine yK [(0, yV sz), (7, pV b10), (9, .slice p18 (((liveL pp.1.E).length)) c19), (10, iV ((((cntD pp.1.E i) : Nat) : Int) + (((descs pp.1.E ((i : Int) + 1)).length : Nat) : Int))), (11, iV ((i : Int) + 1)), (12, pV r44), (14, .slice p50 (((descs pp.1.E ((i : Int) + 1)).length)) c51), (16, iV (j : Int)), (91, .bool false)] fun lr100 => ?_
     refine yCf ?_
     refine yEx 2 ?_
     refine yPl [0, 1, 2] ?_
     refine yBb [] [(11, iV ((i : Int) + 2)), (51, iV ((i : Int) + 2)), (50, iV ((i : Int) + 1))] [e0 0, e1 1 (iV ((i : Int) + 2)), e0 2] [] [(iV (IntKind.wrap .i64 (((i : Int) + 1) + 1)), iV ((i : Int) + 2))] ⟨(ov_i64 (by omega) (by omega) (by omega)), trivial⟩ nC (.mk ?_)
     have hcs_ : cntD pp.1.E (i + 1) = cntD pp.1.E i + ((descs pp.1.E ((i : Int) + 1)).length) := rfl
     have h101 := tk6 (sf5 (sf5 (sf5 (sf5 (sf3 (sf3 h72))))))
     have h102 := tk4 h101
     change ∃ n', n' < _ ∧ _
     refine ⟨(pp.1.R.length - (i + 1)), by omega, (i + 1), _, rfl, (by omega), (mk_live [(0, yV sz), (7, pV b10), (9, .slice p18 (((liveL pp.1.E).length)) c19), (10, iV ((((cntD pp.1.E (i + 1)) : Nat) : Int))), (11, iV ((((i + 1) : Nat) : Int) + 1))] ⟨rfl, rfl, rfl, (ov_int (by omega)), (ov_int (by omega)), trivial⟩), h102⟩
   ·
    refine yBb [18, 19] [(81, .bool false), (80, iV ((getR pp.1 ((i : Int) + 1)).st)), (79, .pointer (some ⟨r44, 3, none⟩)), (78, .bool false)] [e1 14 (.bool false), e0 15, e2 16 [iV ((getR pp.1 ((i : Int) + 1)).st)], e1 17 (.bool false)] [(16, ⟨r44, 3, none⟩, iV ((getR pp.1 ((i : Int) + 1)).st))] [(.bool (decide ((((descs pp.1.E ((i : Int) + 1)).length : Nat) : Int) > 0)), .bool false), (.bool (((getR pp.1 ((i : Int) + 1)).st) == 1), .bool false)] ⟨(ov_f (by omega)), (ov_ef (by omega)), trivial⟩ (kC (sat_cell h59 2 rfl rfl) nC) ?_
    refine fk_cut ([(81, .bool false), (78, .bool false), (75, .bool false), (0, yV sz), (7, pV b10), (9, .slice p18 (((liveL pp.1.E).length)) c19), (10, iV ((((cntD pp.1.E i) : Nat) : Int))), (11, iV ((i : Int) + 1)), (12, pV r44), (13, iV 0), (14, .slice p50 (((descs pp.1.E ((i : Int) + 1)).length)) c51), (15, iV 0)] : Fr) (by kernel_rfl) (fun a => PO _ _ _ _ a _) (fun lr103 => ?_)
    refine plain_law (i := 18) 82 (.bool false) (by kernel_rfl) (law_neBool (t := 4) (o := opA (RA Try.f6 [1, 1, 1, 1, 1, 1, 0, 1, 0, 0, 1, 0, 0, 1, 1, 0, 0]) 18) (x := (Operand.tmp 78)) (y := (Operand.tmp 81)) false false false (by kernel_rfl) Try.underlying4 (by kernel_rfl) (by kernel_rfl) rfl _) ?_
    refine yB0 [] [19] [(83, .bool false)] (.mk ?_)
    refine yK [(0, yV sz), (7, pV b10), (9, .slice p18 (((liveL pp.1.E).length)) c19), (10, iV ((((cntD pp.1.E i) : Nat) : Int))), (11, iV ((i : Int) + 1)), (12, pV r44), (14, .slice p50 (((descs pp.1.E ((i : Int) + 1)).length)) c51), (83, .bool false)] fun lr104 => ?_
    refine yCf ?_
    refine ySk ?_
    refine ySq ?_
    refine yPl [0, 1, 2, 3, 4] ?_
    refine yBb [] [(10, iV ((((cntD pp.1.E i) : Nat) : Int) + (((descs pp.1.E ((i : Int) + 1)).length : Nat) : Int))), (87, iV ((((cntD pp.1.E i) : Nat) : Int) + (((descs pp.1.E ((i : Int) + 1)).length : Nat) : Int))), (86, iV ((((descs pp.1.E ((i : Int) + 1)).length : Nat) : Int))), (85, .slice p50 (((descs pp.1.E ((i : Int) + 1)).length)) c51), (84, iV ((((cntD pp.1.E i) : Nat) : Int)))] [e0 0, e0 1, e0 2, e1 3 (iV ((((cntD pp.1.E i) : Nat) : Int) + (((descs pp.1.E ((i : Int) + 1)).length : Nat) : Int))), e0 4] [] [(iV (IntKind.wrap .i64 (((((cntD pp.1.E i) : Nat) : Int)) + ((((descs pp.1.E ((i : Int) + 1)).length : Nat) : Int)))), iV ((((cntD pp.1.E i) : Nat) : Int) + (((descs pp.1.E ((i : Int) + 1)).length : Nat) : Int)))] ⟨(ov_i64 (by omega) (by omega) (by omega)), trivial⟩ nC (.mk ?_)
    refine yK [(0, yV sz), (7, pV b10), (9, .slice p18 (((liveL pp.1.E).length)) c19), (10, iV ((((cntD pp.1.E i) : Nat) : Int) + (((descs pp.1.E ((i : Int) + 1)).length : Nat) : Int))), (11, iV ((i : Int) + 1)), (12, pV r44), (14, .slice p50 (((descs pp.1.E ((i : Int) + 1)).length)) c51)] fun lr105 => ?_
    refine ySq ?_
    refine yPl [0] ?_
    refine yB0 [] [0] [(16, iV 0)] (.mk ?_)
    refine yK [(0, yV sz), (7, pV b10), (9, .slice p18 (((liveL pp.1.E).length)) c19), (10, iV ((((cntD pp.1.E i) : Nat) : Int) + (((descs pp.1.E ((i : Int) + 1)).length : Nat) : Int))), (11, iV ((i : Int) + 1)), (12, pV r44), (14, .slice p50 (((descs pp.1.E ((i : Int) + 1)).length)) c51), (16, iV 0)] fun lr106 => ?_
    refine yBk 2 ?_
    have h107 := tk6 (sf5 (sf4 (sf5 (sf5 (sf5 (sf5 h59))))))
    have hl108 := fl_n eO_ok (by decide) h107
    have h109 := tk6 (sf5 (sf5 (sf3 (sf4 (sf5 (sf5 h107))))))
    refine gi_lp (x := CA Try.f6 [1, 1, 1, 1, 1, 1, 0, 1, 0, 0, 1, 0, 0, 1, 1, 1, 1, 1, 0, 0]) (by kernel_rfl) (fun mz_ a w => ∃ j : Nat, ∃ lr : Fr, mz_ = ((descs pp.1.E ((i : Int) + 1)).length) - j ∧ (j ≤ ((descs pp.1.E ((i : Int) + 1)).length)) ∧ a = mk 267 (([(0, yV sz), (7, pV b10), (9, .slice p18 (((liveL pp.1.E).length)) c19), (10, iV ((((cntD pp.1.E i) : Nat) : Int) + (((descs pp.1.E ((i : Int) + 1)).length : Nat) : Int))), (11, iV ((i : Int) + 1)), (12, pV r44), (14, .slice p50 (((descs pp.1.E ((i : Int) + 1)).length)) c51), (16, iV (j : Int))] : Fr) ++ lr) ∧ sat g w [TW b10 nn pp.1, Sl 28 3 p18 (((liveL pp.1.E).length)) c19 (fl eO (liveL pp.1.E)), Sl 28 3 p50 (((descs pp.1.E ((i : Int) + 1)).length)) c51 (fl eO (descs pp.1.E ((i : Int) + 1))), Cl r44 [iV ((getR pp.1 ((i : Int) + 1)).out.1), iV ((getR pp.1 ((i : Int) + 1)).out.2.1), uV ((getR pp.1 ((i : Int) + 1)).out.2.2), iV ((getR pp.1 ((i : Int) + 1)).st), iV ((getR pp.1 ((i : Int) + 1)).why), iV ((getR pp.1 ((i : Int) + 1)).tr), iV ((getR pp.1 ((i : Int) + 1)).nx), .string (St ((getR pp.1 ((i : Int) + 1)).tag))] 42, Old wo, R]) (((descs pp.1.E ((i : Int) + 1)).length) - 0) ⟨0, _, rfl, (Nat.zero_le _), (mk_live [(0, yV sz), (7, pV b10), (9, .slice p18 (((liveL pp.1.E).length)) c19), (10, iV ((((cntD pp.1.E i) : Nat) : Int) + (((descs pp.1.E ((i : Int) + 1)).length : Nat) : Int))), (11, iV ((i : Int) + 1)), (12, pV r44), (14, .slice p50 (((descs pp.1.E ((i : Int) + 1)).length)) c51), (16, iV (0 : Int))] ⟨rfl, rfl, rfl, rfl, rfl, rfl, rfl, (ov_int (by omega)), trivial⟩), h109⟩ ?_
    rintro m111 a112 w113 ⟨j, lr110, rfl, hj_, rfl, h114⟩
    refine ySq ?_
    refine ySq ?_
    refine yPl [0, 1, 2, 3] ?_
    refine yBb [] [(91, .bool false), (90, iV ((((descs pp.1.E ((i : Int) + 1)).length : Nat) : Int))), (89, .slice p50 (((descs pp.1.E ((i : Int) + 1)).length)) c51), (88, iV (j : Int))] [e0 0, e0 1, e0 2, e1 3 (.bool false)] [] [(.bool (decide ((j : Int) < (((descs pp.1.E ((i : Int) + 1)).length : Nat) : Int))), .bool false)] ⟨(ov_f (by omega)), trivial⟩ nC (.mk ?_)
    refine yK [(0, yV sz), (7, pV b10), (9, .slice p18 (((liveL pp.1.E).length)) c19), (10, iV ((((cntD pp.1.E i) : Nat) : Int) + (((descs pp.1.E ((i : Int) + 1)).length : Nat) : Int))), (11, iV ((i : Int) + 1)), (12, pV r44), (14, .slice p50 (((descs pp.1.E ((i : Int) + 1)).length)) c51), (16, iV (j : Int)), (91, .bool false)] fun lr115 => ?_
    refine yCf ?_
    refine yEx 2 ?_
    refine yPl [0, 1, 2] ?_
    refine yBb [] [(11, iV ((i : Int) + 2)), (51, iV ((i : Int) + 2)), (50, iV ((i : Int) + 1))] [e0 0, e1 1 (iV ((i : Int) + 2)), e0 2] [] [(iV (IntKind.wrap .i64 (((i : Int) + 1) + 1)), iV ((i : Int) + 2))] ⟨(ov_i64 (by omega) (by omega) (by omega)), trivial⟩ nC (.mk ?_)
    have hcs_ : cntD pp.1.E (i + 1) = cntD pp.1.E i + ((descs pp.1.E ((i : Int) + 1)).length) := rfl
    have h116 := tk6 (sf5 (sf5 (sf5 (sf5 (sf3 (sf3 h114))))))
    have h117 := tk4 h116
    change ∃ n', n' < _ ∧ _
    refine ⟨(pp.1.R.length - (i + 1)), by omega, (i + 1), _, rfl, (by omega), (mk_live [(0, yV sz), (7, pV b10), (9, .slice p18 (((liveL pp.1.E).length)) c19), (10, iV ((((cntD pp.1.E (i + 1)) : Nat) : Int))), (11, iV ((((i + 1) : Nat) : Int) + 1))] ⟨rfl, rfl, rfl, (ov_int (by omega)), (ov_int (by omega)), trivial⟩), h117⟩
  ·
   refine yBb [] [(49, .bool false)] [e1 3 (.bool false)] [] [(.bool (decide ((i : Int) + 1 ≤ ((pp.1.R.length : Nat) : Int))), .bool false)] ⟨(ov_f (by omega)), trivial⟩ nC (.mk ?_)
   refine yK [(0, yV sz), (7, pV b10), (9, .slice p18 (((liveL pp.1.E).length)) c19), (10, iV ((((cntD pp.1.E i) : Nat) : Int))), (11, iV ((i : Int) + 1)), (49, .bool false)] fun lr118 => ?_
   refine yCf ?_
   refine yEx 0 ?_
   refine ySq ?_
   refine ySq ?_
   refine yPl [0] ?_
   refine yB0 [] [0] [(19, iV 0)] (.mk ?_)
   refine yK [(0, yV sz), (7, pV b10), (9, .slice p18 (((liveL pp.1.E).length)) c19), (10, iV ((((cntD pp.1.E i) : Nat) : Int))), (19, iV 0)] fun lr119 => ?_
   refine yBk 4 ?_
   have hci_ : cntD pp.1.E i = ((liveL pp.1.E).length) := (show i = pp.1.R.length from by omega) ▸ cntD_all hI_.W
   refine gi_lp (x := CA Try.f6 [1, 1, 1, 1, 1, 1, 1, 0, 1, 0, 0]) (by kernel_rfl) (fun mz_ a w => ∃ ia : Nat, ∃ lr : Fr, mz_ = ((liveL pp.1.E).length) - ia ∧ (ia ≤ ((liveL pp.1.E).length)) ∧ a = mk 267 (([(0, yV sz), (7, pV b10), (9, .slice p18 (((liveL pp.1.E).length)) c19), (10, iV ((((cntD pp.1.E i) : Nat) : Int))), (19, iV (ia : Int))] : Fr) ++ lr) ∧ sat g w [TW b10 nn pp.1, Sl 28 3 p18 (((liveL pp.1.E).length)) c19 (fl eO (liveL pp.1.E)), Old wo, R]) (((liveL pp.1.E).length) - 0) ⟨0, _, rfl, (Nat.zero_le _), (mk_live [(0, yV sz), (7, pV b10), (9, .slice p18 (((liveL pp.1.E).length)) c19), (10, iV ((((cntD pp.1.E i) : Nat) : Int))), (19, iV (0 : Int))] ⟨rfl, rfl, rfl, rfl, (ov_int (by omega)), trivial⟩), h38⟩ ?_
   rintro m121 a122 w123 ⟨ia, lr120, rfl, hia_, rfl, h124⟩
   refine ySq ?_
   refine ySq ?_
   refine yPl [0, 1, 2, 3] ?_
   refine yB0 [3] [0, 1, 2] [(149, iV ((((liveL pp.1.E).length : Nat) : Int))), (148, .slice p18 (((liveL pp.1.E).length)) c19), (147, iV (ia : Int))] ?_
   by_cases c125 : (ia : Int) < (((liveL pp.1.E).length : Nat) : Int)
   ·
    refine yBb [] [(150, .bool true)] [e1 3 (.bool true)] [] [(.bool (decide ((ia : Int) < (((liveL pp.1.E).length : Nat) : Int))), .bool true)] ⟨(ov_t (by omega)), trivial⟩ nC (.mk ?_)
    refine yK [(0, yV sz), (7, pV b10), (9, .slice p18 (((liveL pp.1.E).length)) c19), (10, iV ((((cntD pp.1.E i) : Nat) : Int))), (19, iV (ia : Int)), (150, .bool true)] fun lr126 => ?_
    refine yCt ?_
    refine ySk ?_
    refine ySq ?_
    refine yBk 5 ?_
    refine ySq ?_
    refine yPl [0, 1, 2, 3, 4, 5, 6, 7, 8, 9, 10, 11] ?_
    obtain ⟨b127, hp128⟩ := sl_ptr0 (j := 1) h124 rfl (by omega)
    refine yB0 [3, 4, 5, 6, 7, 8, 9, 10, 11] [0, 1, 2] [(156, iV (ia : Int)), (155, .slice p18 (((liveL pp.1.E).length)) c19), (154, pV b10)] ?_
    refine plain_law (i := 3) 157 (.pointer (some ⟨b127, ia * 3, none⟩)) (by kernel_rfl) (law_indexSlP (o := opA (RA Try.f6 [1, 1, 1, 1, 1, 1, 1, 0, 1, 0, 0, 1, 0, 0, 0]) 3) (x := (Operand.tmp 155)) (i := (Operand.tmp 156)) (p := p18) (b := b127) (off := 0) (z := (ia : Int)) (len := (((liveL pp.1.E).length))) (cap := c19) (by kernel_rfl) Try.underlying45 3 (by kernel_rfl) ia (by kernel_rfl) hp128 (by kernel_rfl) (by omega) (by omega) (ia * 3) (by omega) _) ?_
    obtain ⟨x129, hx130⟩ : ∃ x, (liveL pp.1.E)[ia]? = some x := ⟨_, List.getElem?_eq_getElem (by rw [hl28]; omega)⟩
    have hb131 := lv_ok hI_.W (List.mem_of_getElem? hx130)
    refine yBb [5, 6, 7, 8, 9, 10, 11] [(158, .agg #[iV x129.1, iV x129.2.1, uV x129.2.2])] [e2 4 [iV x129.1, iV x129.2.1, uV x129.2.2]] [(4, ⟨b127, ia * 3, none⟩, iV x129.1), (4, ⟨b127, ia * 3 + 1, none⟩, iV x129.2.1), (4, ⟨b127, ia * 3 + 2, none⟩, uV x129.2.2)] [] trivial (kC (gv_cell (j := 1) h124 rfl (gv_sl _ _ _) hp128 (fl_get eO_ok (j := 0) (v := iV x129.1) hx130 rfl) (ia * 3) (by omega)) (kC (gv_cell (j := 1) h124 rfl (gv_sl _ _ _) hp128 (fl_get eO_ok (j := 1) (v := iV x129.2.1) hx130 rfl) (ia * 3 + 1) (by omega)) (kC (gv_cell (j := 1) h124 rfl (gv_sl _ _ _) hp128 (fl_get eO_ok (j := 2) (v := uV x129.2.2) hx130 rfl) (ia * 3 + 2) (by omega)) nC))) ?_
    refine yA ?_
    refine yCl 159 Try.call26 ((by have h_ := thnd_w b10 nn pp.1 x129.1 x129.2.1 x129.2.2 (by omega) (by omega); rw [(is_there hI_.W (List.mem_of_getElem? hx130))] at h_; exact h_)) h124 ?_
    rintro v K w132 (⟨rfl, rfl⟩) h133
    refine ⟨_, rfl, ?_⟩
    have h134 := ap1 h133
    refine yB0 [9, 10, 11] [6, 7, 8] [(161, iV 0), (160, .agg #[iV ((fndX pp.1 (x129.1, x129.2.1, x129.2.2)).h.1), uV ((fndX pp.1 (x129.1, x129.2.1, x129.2.2)).h.2)]), (153, .tuple #[.agg #[iV ((fndX pp.1 (x129.1, x129.2.1, x129.2.2)).h.1), uV ((fndX pp.1 (x129.1, x129.2.1, x129.2.2)).h.2)], iV 0])] ?_
    refine yA ?_
    refine yNp 20 34 [iV 0, uV 0] h134 fun r135 w136 h137 => ?_
    refine yA ?_
    refine yS [(0, iV ((fndX pp.1 (x129.1, x129.2.1, x129.2.2)).h.1)), (1, uV ((fndX pp.1 (x129.1, x129.2.1, x129.2.2)).h.2))] [iV ((fndX pp.1 (x129.1, x129.2.1, x129.2.2)).h.1), uV ((fndX pp.1 (x129.1, x129.2.1, x129.2.2)).h.2)] h137 fun w138 h139 => ?_
    refine yB0 [] [11] [(21, iV 0)] (.mk ?_)
    refine yK [(0, yV sz), (7, pV b10), (9, .slice p18 (((liveL pp.1.E).length)) c19), (10, iV ((((cntD pp.1.E i) : Nat) : Int))), (19, iV (ia : Int)), (20, pV r135), (21, iV 0)] fun lr140 => ?_
    refine ySq ?_
    refine ySq ?_
    refine yPl [0, 1] ?_
    refine yB0 [] [0, 1] [(163, .bool false), (162, iV 0)] (.mk ?_)
    refine yK [(0, yV sz), (7, pV b10), (9, .slice p18 (((liveL pp.1.E).length)) c19), (10, iV ((((cntD pp.1.E i) : Nat) : Int))), (19, iV (ia : Int)), (20, pV r135), (163, .bool false)] fun lr141 => ?_
    refine yCf ?_
    refine ySk ?_
    refine ySq ?_
    refine yPl [0] ?_
    refine yB0 [] [0] [(22, iV 0)] (.mk ?_)
    refine yK [(0, yV sz), (7, pV b10), (9, .slice p18 (((liveL pp.1.E).length)) c19), (10, iV ((((cntD pp.1.E i) : Nat) : Int))), (19, iV (ia : Int)), (20, pV r135), (22, iV 0)] fun lr142 => ?_
    refine yBk 6 ?_
    have h143 := tk5 (sf4 (sf4 (sf2 (sf4 (sf4 h139)))))
    refine gi_lp (x := CA Try.f6 [1, 1, 1, 1, 1, 1, 1, 0, 1, 0, 0, 1, 0, 0, 1, 1, 1, 0, 0]) (by kernel_rfl) (fun mz_ a w => ∃ ib : Nat, ∃ lr : Fr, mz_ = ia - ib ∧ (ib ≤ ia) ∧ a = mk 267 (([(0, yV sz), (7, pV b10), (9, .slice p18 (((liveL pp.1.E).length)) c19), (10, iV ((((cntD pp.1.E i) : Nat) : Int))), (19, iV (ia : Int)), (20, pV r135), (22, iV (ib : Int))] : Fr) ++ lr) ∧ sat g w [TW b10 nn pp.1, Sl 28 3 p18 (((liveL pp.1.E).length)) c19 (fl eO (liveL pp.1.E)), Cl r135 [iV ((fndX pp.1 (x129.1, x129.2.1, x129.2.2)).h.1), uV ((fndX pp.1 (x129.1, x129.2.1, x129.2.2)).h.2)] 34, Old wo, R]) (ia - 0) ⟨0, _, rfl, (Nat.zero_le _), (mk_live [(0, yV sz), (7, pV b10), (9, .slice p18 (((liveL pp.1.E).length)) c19), (10, iV ((((cntD pp.1.E i) : Nat) : Int))), (19, iV (ia : Int)), (20, pV r135), (22, iV (0 : Int))] ⟨rfl, rfl, rfl, rfl, rfl, rfl, (ov_int (by omega)), trivial⟩), h143⟩ ?_
    rintro m145 a146 w147 ⟨ib, lr144, rfl, hib_, rfl, h148⟩
    refine ySq ?_
    refine ySq ?_
    refine yPl [0, 1, 2] ?_
    refine yB0 [2] [0, 1] [(165, iV (ia : Int)), (164, iV (ib : Int))] ?_
    by_cases c149 : (ib : Int) < (ia : Int)
    ·
     refine yBb [] [(166, .bool true)] [e1 2 (.bool true)] [] [(.bool (decide ((ib : Int) < (ia : Int))), .bool true)] ⟨(ov_t (by omega)), trivial⟩ nC (.mk ?_)
     refine yK [(0, yV sz), (7, pV b10), (9, .slice p18 (((liveL pp.1.E).length)) c19), (10, iV ((((cntD pp.1.E i) : Nat) : Int))), (19, iV (ia : Int)), (20, pV r135), (22, iV (ib : Int)), (166, .bool true)] fun lr150 => ?_
     refine yCt ?_
     refine ySk ?_
     refine ySq ?_
     refine yBk 7 ?_
     refine ySq ?_
     refine yPl [0, 1, 2, 3, 4, 5, 6, 7, 8, 9, 10, 11] ?_
     refine yB0 [3, 4, 5, 6, 7, 8, 9, 10, 11] [0, 1, 2] [(172, iV (ib : Int)), (171, .slice p18 (((liveL pp.1.E).length)) c19), (170, pV b10)] ?_
     refine plain_law (i := 3) 173 (.pointer (some ⟨b127, ib * 3, none⟩)) (by kernel_rfl) (law_indexSlP (o := opA (RA Try.f6 [1, 1, 1, 1, 1, 1, 1, 0, 1, 0, 0, 1, 0, 0, 1, 1, 1, 0, 0, 1, 0, 0, 0]) 3) (x := (Operand.tmp 171)) (i := (Operand.tmp 172)) (p := p18) (b := b127) (off := 0) (z := (ib : Int)) (len := (((liveL pp.1.E).length))) (cap := c19) (by kernel_rfl) Try.underlying45 3 (by kernel_rfl) ib (by kernel_rfl) hp128 (by kernel_rfl) (by omega) (by omega) (ib * 3) (by omega) _) ?_
     obtain ⟨x151, hx152⟩ : ∃ x, (liveL pp.1.E)[ib]? = some x := ⟨_, List.getElem?_eq_getElem (by rw [hl28]; omega)⟩
     have hb153 := lv_ok hI_.W (List.mem_of_getElem? hx152)
     refine yBb [5, 6, 7, 8, 9, 10, 11] [(174, .agg #[iV x151.1, iV x151.2.1, uV x151.2.2])] [e2 4 [iV x151.1, iV x151.2.1, uV x151.2.2]] [(4, ⟨b127, ib * 3, none⟩, iV x151.1), (4, ⟨b127, ib * 3 + 1, none⟩, iV x151.2.1), (4, ⟨b127, ib * 3 + 2, none⟩, uV x151.2.2)] [] trivial (kC (gv_cell (j := 1) h148 rfl (gv_sl _ _ _) hp128 (fl_get eO_ok (j := 0) (v := iV x151.1) hx152 rfl) (ib * 3) (by omega)) (kC (gv_cell (j := 1) h148 rfl (gv_sl _ _ _) hp128 (fl_get eO_ok (j := 1) (v := iV x151.2.1) hx152 rfl) (ib * 3 + 1) (by omega)) (kC (gv_cell (j := 1) h148 rfl (gv_sl _ _ _) hp128 (fl_get eO_ok (j := 2) (v := uV x151.2.2) hx152 rfl) (ib * 3 + 2) (by omega)) nC))) ?_
     refine yA ?_
     refine yCl 175 Try.call26 ((by have h_ := thnd_w b10 nn pp.1 x151.1 x151.2.1 x151.2.2 (by omega) (by omega); rw [(is_there hI_.W (List.mem_of_getElem? hx152))] at h_; exact h_)) h148 ?_
     rintro v K w154 (⟨rfl, rfl⟩) h155
     refine ⟨_, rfl, ?_⟩
     have h156 := ap1 h155
     refine yB0 [9, 10, 11] [6, 7, 8] [(177, iV 0), (176, .agg #[iV ((fndX pp.1 (x151.1, x151.2.1, x151.2.2)).h.1), uV ((fndX pp.1 (x151.1, x151.2.1, x151.2.2)).h.2)]), (169, .tuple #[.agg #[iV ((fndX pp.1 (x151.1, x151.2.1, x151.2.2)).h.1), uV ((fndX pp.1 (x151.1, x151.2.1, x151.2.2)).h.2)], iV 0])] ?_
     refine yA ?_
     refine yNp 23 34 [iV 0, uV 0] h156 fun r157 w158 h159 => ?_
     refine yA ?_
     refine yS [(0, iV ((fndX pp.1 (x151.1, x151.2.1, x151.2.2)).h.1)), (1, uV ((fndX pp.1 (x151.1, x151.2.1, x151.2.2)).h.2))] [iV ((fndX pp.1 (x151.1, x151.2.1, x151.2.2)).h.1), uV ((fndX pp.1 (x151.1, x151.2.1, x151.2.2)).h.2)] h159 fun w160 h161 => ?_
     refine yB0 [] [11] [(24, iV 0)] (.mk ?_)
     refine yK [(0, yV sz), (7, pV b10), (9, .slice p18 (((liveL pp.1.E).length)) c19), (10, iV ((((cntD pp.1.E i) : Nat) : Int))), (19, iV (ia : Int)), (20, pV r135), (22, iV (ib : Int)), (23, pV r157)] fun lr162 => ?_
     refine ySq ?_
     refine yPl [0, 1, 2] ?_
     refine yBb [2] [(179, .agg #[iV ((fndX pp.1 (x129.1, x129.2.1, x129.2.2)).h.1), uV ((fndX pp.1 (x129.1, x129.2.1, x129.2.2)).h.2)]), (178, .agg #[iV ((fndX pp.1 (x151.1, x151.2.1, x151.2.2)).h.1), uV ((fndX pp.1 (x151.1, x151.2.1, x151.2.2)).h.2)])] [e2 0 [iV ((fndX pp.1 (x151.1, x151.2.1, x151.2.2)).h.1), uV ((fndX pp.1 (x151.1, x151.2.1, x151.2.2)).h.2)], e2 1 [iV ((fndX pp.1 (x129.1, x129.2.1, x129.2.2)).h.1), uV ((fndX pp.1 (x129.1, x129.2.1, x129.2.2)).h.2)]] [(1, ⟨r135, 0, none⟩, iV ((fndX pp.1 (x129.1, x129.2.1, x129.2.2)).h.1)), (1, ⟨r135, 1, none⟩, uV ((fndX pp.1 (x129.1, x129.2.1, x129.2.2)).h.2)), (0, ⟨r157, 0, none⟩, iV ((fndX pp.1 (x151.1, x151.2.1, x151.2.2)).h.1)), (0, ⟨r157, 1, none⟩, uV ((fndX pp.1 (x151.1, x151.2.1, x151.2.2)).h.2))] [] trivial (kC (sat_cell h161 3 rfl rfl) (kC (sat_cell h161 3 rfl rfl) (kC (sat_cell h161 0 rfl rfl) (kC (sat_cell h161 0 rfl rfl) nC)))) ?_
     refine plain_law (i := 2) 180 (.bool false) (by kernel_rfl) (q31e34_eql_f (o := opA (RA Try.f6 [1, 1, 1, 1, 1, 1, 1, 0, 1, 0, 0, 1, 0, 0, 1, 1, 1, 0, 0, 1, 0, 0, 1, 0]) 2) (x := (Operand.tmp 178)) (y := (Operand.tmp 179)) ((fndX pp.1 (x151.1, x151.2.1, x151.2.2)).h.1) ((fndX pp.1 (x151.1, x151.2.1, x151.2.2)).h.2) ((fndX pp.1 (x129.1, x129.2.1, x129.2.2)).h.1) ((fndX pp.1 (x129.1, x129.2.1, x129.2.2)).h.2) (by kernel_rfl) (by kernel_rfl) (by kernel_rfl) (hnd_ne hI_.W hx152 hx130 (by omega)) _) (.mk ?_)
     refine yK [(0, yV sz), (7, pV b10), (9, .slice p18 (((liveL pp.1.E).length)) c19), (10, iV ((((cntD pp.1.E i) : Nat) : Int))), (19, iV (ia : Int)), (20, pV r135), (22, iV (ib : Int)), (180, .bool false)] fun lr163 => ?_
     refine yCf ?_
     refine ySk ?_
     refine yPl [0, 1, 2] ?_
     refine yBb [] [(22, iV ((ib : Int) + 1)), (168, iV ((ib : Int) + 1)), (167, iV (ib : Int))] [e0 0, e1 1 (iV ((ib : Int) + 1)), e0 2] [] [(iV (IntKind.wrap .i64 ((ib : Int) + 1)), iV ((ib : Int) + 1))] ⟨(ov_i64 (by omega) (by omega) (by omega)), trivial⟩ nC (.mk ?_)
     have h164 := tk6 (sf5 (sf5 (sf5 (sf5 (sf5 h161)))))
     have h165 := tk5 h164
     change ∃ n', n' < _ ∧ _
     refine ⟨(ia - (ib + 1)), by omega, (ib + 1), _, rfl, (by omega), (mk_live [(0, yV sz), (7, pV b10), (9, .slice p18 (((liveL pp.1.E).length)) c19), (10, iV ((((cntD pp.1.E i) : Nat) : Int))), (19, iV (ia : Int)), (20, pV r135), (22, iV ((((ib + 1) : Nat) : Int)))] ⟨rfl, rfl, rfl, rfl, rfl, rfl, (ov_int (by omega)), trivial⟩), h165⟩
    ·
     refine yBb [] [(166, .bool false)] [e1 2 (.bool false)] [] [(.bool (decide ((ib : Int) < (ia : Int))), .bool false)] ⟨(ov_f (by omega)), trivial⟩ nC (.mk ?_)
     refine yK [(0, yV sz), (7, pV b10), (9, .slice p18 (((liveL pp.1.E).length)) c19), (10, iV ((((cntD pp.1.E i) : Nat) : Int))), (19, iV (ia : Int)), (20, pV r135), (22, iV (ib : Int)), (166, .bool false)] fun lr166 => ?_
     refine yCf ?_
     refine yEx 6 ?_
     refine yPl [0, 1, 2] ?_
     refine yBb [] [(19, iV ((ia : Int) + 1)), (152, iV ((ia : Int) + 1)), (151, iV (ia : Int))] [e0 0, e1 1 (iV ((ia : Int) + 1)), e0 2] [] [(iV (IntKind.wrap .i64 ((ia : Int) + 1)), iV ((ia : Int) + 1))] ⟨(ov_i64 (by omega) (by omega) (by omega)), trivial⟩ nC (.mk ?_)
     have h167 := tk5 (sf4 (sf4 (sf4 (sf4 (sf2 h148)))))
     have h168 := tk4 h167
     change ∃ n', n' < _ ∧ _
     refine ⟨(((liveL pp.1.E).length) - (ia + 1)), by omega, (ia + 1), _, rfl, (by omega), (mk_live [(0, yV sz), (7, pV b10), (9, .slice p18 (((liveL pp.1.E).length)) c19), (10, iV ((((cntD pp.1.E i) : Nat) : Int))), (19, iV ((((ia + 1) : Nat) : Int)))] ⟨rfl, rfl, rfl, rfl, (ov_int (by omega)), trivial⟩), h168⟩
   ·
    refine yBb [] [(150, .bool false)] [e1 3 (.bool false)] [] [(.bool (decide ((ia : Int) < (((liveL pp.1.E).length : Nat) : Int))), .bool false)] ⟨(ov_f (by omega)), trivial⟩ nC (.mk ?_)
    refine yK [(0, yV sz), (7, pV b10), (9, .slice p18 (((liveL pp.1.E).length)) c19), (10, iV ((((cntD pp.1.E i) : Nat) : Int))), (19, iV (ia : Int)), (150, .bool false)] fun lr169 => ?_
    refine yCf ?_
    refine yEx 4 ?_
    refine ySq ?_
    refine yPl [0] ?_
    refine yB0 [] [0] [(25, iV 0)] (.mk ?_)
    refine yK [(0, yV sz), (7, pV b10), (9, .slice p18 (((liveL pp.1.E).length)) c19), (10, iV ((((cntD pp.1.E i) : Nat) : Int))), (25, iV 0)] fun lr170 => ?_
    refine ySq ?_
    refine ySq ?_
    refine yPl [0] ?_
    refine yB0 [] [0] [(26, iV 1)] (.mk ?_)
    refine yK [(0, yV sz), (7, pV b10), (9, .slice p18 (((liveL pp.1.E).length)) c19), (10, iV ((((cntD pp.1.E i) : Nat) : Int))), (25, iV 0), (26, iV 1)] fun lr171 => ?_
    refine yBk 8 ?_
    have hco_ := cntN_one hI_.W
    refine gi_lp (x := CA Try.f6 [1, 1, 1, 1, 1, 1, 1, 1, 1, 0, 1, 0, 0]) (by kernel_rfl) (fun mz_ a w => ∃ q : Nat, ∃ lr : Fr, mz_ = 5 - q ∧ (1 ≤ q ∧ q ≤ 5) ∧ a = mk 267 (([(0, yV sz), (7, pV b10), (9, .slice p18 (((liveL pp.1.E).length)) c19), (10, iV ((((cntD pp.1.E i) : Nat) : Int))), (25, iV ((((cntN pp.1.R q) : Nat) : Int))), (26, iV (q : Int))] : Fr) ++ lr) ∧ sat g w [TW b10 nn pp.1, Sl 28 3 p18 (((liveL pp.1.E).length)) c19 (fl eO (liveL pp.1.E)), Old wo, R]) (5 - 1) ⟨1, _, rfl, ⟨Nat.le_refl _, by decide⟩, (mk_live [(0, yV sz), (7, pV b10), (9, .slice p18 (((liveL pp.1.E).length)) c19), (10, iV ((((cntD pp.1.E i) : Nat) : Int))), (25, iV ((((cntN pp.1.R 1) : Nat) : Int))), (26, iV (1 : Int))] ⟨rfl, rfl, rfl, rfl, (ov_int (by omega)), (ov_int (by omega)), trivial⟩), h124⟩ ?_
    rintro m173 a174 w175 ⟨q, lr172, rfl, hq_, rfl, h176⟩
    have hcn_ := cntN_le pp.1.R q
    refine ySq ?_
    refine ySq ?_
    refine yPl [0, 1] ?_
    refine yB0 [1] [0] [(181, iV (q : Int))] ?_
    by_cases c177 : (q : Int) ≤ 4
    ·
     refine yBb [] [(182, .bool true)] [e1 1 (.bool true)] [] [(.bool (decide ((q : Int) ≤ 4)), .bool true)] ⟨(ov_t (by omega)), trivial⟩ nC (.mk ?_)
     refine yK [(0, yV sz), (7, pV b10), (9, .slice p18 (((liveL pp.1.E).length)) c19), (10, iV ((((cntD pp.1.E i) : Nat) : Int))), (25, iV ((((cntN pp.1.R q) : Nat) : Int))), (26, iV (q : Int)), (182, .bool true)] fun lr178 => ?_
     refine yCt ?_
     refine ySk ?_
     refine ySq ?_
     refine yBk 9 ?_
     refine ySq ?_
     refine yPl [0, 1, 2, 3] ?_
     refine yB0 [2, 3] [0, 1] [(186, iV (q : Int)), (185, pV b10)] ?_
     have hnl179 : ((nums pp.1.R (q : Int)).length) ≤ pp.1.R.length := numsT_len _ _ _
     refine yA ?_
     refine yCl 187 Try.call28 (tnums_w b10 nn pp.1 (q : Int)) h176 ?_
     rintro v K w182 (⟨p180, c181, rfl, rfl⟩) h183
     refine ⟨_, rfl, ?_⟩
     have h184 := ap2 h183
     refine yB0 [] [3] [(27, .slice p180 (((nums pp.1.R (q : Int)).length)) c181)] (.mk ?_)
     refine yK [(0, yV sz), (7, pV b10), (9, .slice p18 (((liveL pp.1.E).length)) c19), (10, iV ((((cntD pp.1.E i) : Nat) : Int))), (25, iV ((((cntN pp.1.R q) : Nat) : Int))), (26, iV (q : Int)), (27, .slice p180 (((nums pp.1.R (q : Int)).length)) c181)] fun lr185 => ?_
     refine ySq ?_
     refine yPl [0, 1, 2, 3, 4] ?_
     refine yBb [] [(25, iV ((((cntN pp.1.R q) : Nat) : Int) + (((nums pp.1.R (q : Int)).length : Nat) : Int))), (191, iV ((((cntN pp.1.R q) : Nat) : Int) + (((nums pp.1.R (q : Int)).length : Nat) : Int))), (190, iV ((((nums pp.1.R (q : Int)).length : Nat) : Int))), (189, .slice p180 (((nums pp.1.R (q : Int)).length)) c181), (188, iV ((((cntN pp.1.R q) : Nat) : Int)))] [e0 0, e0 1, e0 2, e1 3 (iV ((((cntN pp.1.R q) : Nat) : Int) + (((nums pp.1.R (q : Int)).length : Nat) : Int))), e0 4] [] [(iV (IntKind.wrap .i64 (((((cntN pp.1.R q) : Nat) : Int)) + ((((nums pp.1.R (q : Int)).length : Nat) : Int)))), iV ((((cntN pp.1.R q) : Nat) : Int) + (((nums pp.1.R (q : Int)).length : Nat) : Int)))] ⟨(ov_i64 (by omega) (by omega) (by omega)), trivial⟩ nC (.mk ?_)
     refine yK [(0, yV sz), (7, pV b10), (9, .slice p18 (((liveL pp.1.E).length)) c19), (10, iV ((((cntD pp.1.E i) : Nat) : Int))), (25, iV ((((cntN pp.1.R q) : Nat) : Int) + (((nums pp.1.R (q : Int)).length : Nat) : Int))), (26, iV (q : Int)), (27, .slice p180 (((nums pp.1.R (q : Int)).length)) c181)] fun lr186 => ?_
     refine ySq ?_
     refine yPl [0] ?_
     refine yB0 [] [0] [(28, iV 0)] (.mk ?_)
     refine yK [(0, yV sz), (7, pV b10), (9, .slice p18 (((liveL pp.1.E).length)) c19), (10, iV ((((cntD pp.1.E i) : Nat) : Int))), (25, iV ((((cntN pp.1.R q) : Nat) : Int) + (((nums pp.1.R (q : Int)).length : Nat) : Int))), (26, iV (q : Int)), (27, .slice p180 (((nums pp.1.R (q : Int)).length)) c181), (28, iV 0)] fun lr187 => ?_
     refine yBk 10 ?_
     have h188 := tk5 (sf4 (sf3 (sf4 (sf4 (sf4 h184)))))
     have hl189 := fl_n eI_ok (by decide) h188
     have h190 := tk5 (sf4 (sf4 (sf2 (sf4 (sf4 h188)))))
     refine gi_lp (x := CA Try.f6 [1, 1, 1, 1, 1, 1, 1, 1, 1, 0, 1, 0, 0, 1, 0, 0, 1, 1, 1, 0, 0]) (by kernel_rfl) (fun mz_ a w => ∃ u : Nat, ∃ lr : Fr, mz_ = ((nums pp.1.R (q : Int)).length) - u ∧ (u ≤ ((nums pp.1.R (q : Int)).length)) ∧ a = mk 267 (([(0, yV sz), (7, pV b10), (9, .slice p18 (((liveL pp.1.E).length)) c19), (10, iV ((((cntD pp.1.E i) : Nat) : Int))), (25, iV ((((cntN pp.1.R q) : Nat) : Int) + (((nums pp.1.R (q : Int)).length : Nat) : Int))), (26, iV (q : Int)), (27, .slice p180 (((nums pp.1.R (q : Int)).length)) c181), (28, iV (u : Int))] : Fr) ++ lr) ∧ sat g w [TW b10 nn pp.1, Sl 28 3 p18 (((liveL pp.1.E).length)) c19 (fl eO (liveL pp.1.E)), Sl 3 1 p180 (((nums pp.1.R (q : Int)).length)) c181 (fl eI (nums pp.1.R (q : Int))), Old wo, R]) (((nums pp.1.R (q : Int)).length) - 0) ⟨0, _, rfl, (Nat.zero_le _), (mk_live [(0, yV sz), (7, pV b10), (9, .slice p18 (((liveL pp.1.E).length)) c19), (10, iV ((((cntD pp.1.E i) : Nat) : Int))), (25, iV ((((cntN pp.1.R q) : Nat) : Int) + (((nums pp.1.R (q : Int)).length : Nat) : Int))), (26, iV (q : Int)), (27, .slice p180 (((nums pp.1.R (q : Int)).length)) c181), (28, iV (0 : Int))] ⟨rfl, rfl, rfl, rfl, rfl, rfl, rfl, (ov_int (by omega)), trivial⟩), h190⟩ ?_
     rintro m192 a193 w194 ⟨u, lr191, rfl, hu_, rfl, h195⟩
     refine ySq ?_
     refine ySq ?_
     refine yPl [0, 1, 2, 3] ?_
     refine yB0 [3] [0, 1, 2] [(194, iV ((((nums pp.1.R (q : Int)).length : Nat) : Int))), (193, .slice p180 (((nums pp.1.R (q : Int)).length)) c181), (192, iV (u : Int))] ?_
     by_cases c196 : (u : Int) < (((nums pp.1.R (q : Int)).length : Nat) : Int)
     ·
      refine yBb [] [(195, .bool true)] [e1 3 (.bool true)] [] [(.bool (decide ((u : Int) < (((nums pp.1.R (q : Int)).length : Nat) : Int))), .bool true)] ⟨(ov_t (by omega)), trivial⟩ nC (.mk ?_)
      refine yK [(0, yV sz), (7, pV b10), (9, .slice p18 (((liveL pp.1.E).length)) c19), (10, iV ((((cntD pp.1.E i) : Nat) : Int))), (25, iV ((((cntN pp.1.R q) : Nat) : Int) + (((nums pp.1.R (q : Int)).length : Nat) : Int))), (26, iV (q : Int)), (27, .slice p180 (((nums pp.1.R (q : Int)).length)) c181), (28, iV (u : Int)), (195, .bool true)] fun lr197 => ?_
      refine yCt ?_
      refine ySk ?_
      refine ySq ?_
      refine yBk 11 ?_
      refine ySq ?_
      refine yPl [0, 1, 2, 3, 4, 5, 6, 7, 8, 9, 10, 11] ?_
      obtain ⟨b198, hp199⟩ := sl_ptr0 (j := 2) h195 rfl (by omega)
      refine yB0 [3, 4, 5, 6, 7, 8, 9, 10, 11] [0, 1, 2] [(201, iV (u : Int)), (200, .slice p180 (((nums pp.1.R (q : Int)).length)) c181), (199, pV b10)] ?_
      refine plain_law (i := 3) 202 (.pointer (some ⟨b198, u, none⟩)) (by kernel_rfl) (law_indexSlP (o := opA (RA Try.f6 [1, 1, 1, 1, 1, 1, 1, 1, 1, 0, 1, 0, 0, 1, 0, 0, 1, 1, 1, 0, 0, 1, 0, 0, 0]) 3) (x := (Operand.tmp 200)) (i := (Operand.tmp 201)) (p := p180) (b := b198) (off := 0) (z := (u : Int)) (len := (((nums pp.1.R (q : Int)).length))) (cap := c181) (by kernel_rfl) Try.underlying62 1 (by kernel_rfl) u (by kernel_rfl) hp199 (by kernel_rfl) (by omega) (by omega) u (by omega) _) ?_
      obtain ⟨x200, hx201⟩ : ∃ x, (nums pp.1.R (q : Int))[u]? = some x := ⟨_, List.getElem?_eq_getElem (by rw [hl189]; omega)⟩
      have hb202 := nums_get (List.mem_of_getElem? hx201)
      have hb202a := hb202.1; have hb202b := hb202.2
      refine yBb [5, 6, 7, 8, 9, 10, 11] [(203, iV x200)] [e2 4 [iV x200]] [(4, ⟨b198, u, none⟩, iV x200)] [] trivial (kC (gv_cell (j := 2) h195 rfl (gv_sl _ _ _) hp199 (fl_get eI_ok (j := 0) (v := iV x200) hx201 rfl) u (by omega)) nC) ?_
      refine yA ?_
      refine yCl 204 Try.call20 ((by have h_ := tget_w b10 nn pp.1 x200; rw [nE_ok3 (show 1 ≤ x200 ∧ x200 ≤ (pp.1.R.length : Int) from by omega)] at h_; exact h_)) h195 ?_
      rintro v K w203 (⟨rfl, rfl⟩) h204
      refine ⟨_, rfl, ?_⟩
      have h205 := ap1 h204
      refine yB0 [9, 10, 11] [6, 7, 8] [(206, iV 0), (205, .agg #[iV ((getR pp.1 x200).out.1), iV ((getR pp.1 x200).out.2.1), uV ((getR pp.1 x200).out.2.2), iV ((getR pp.1 x200).st), iV ((getR pp.1 x200).why), iV ((getR pp.1 x200).tr), iV ((getR pp.1 x200).nx), .string (St ((getR pp.1 x200).tag))]), (198, .tuple #[.agg #[iV ((getR pp.1 x200).out.1), iV ((getR pp.1 x200).out.2.1), uV ((getR pp.1 x200).out.2.2), iV ((getR pp.1 x200).st), iV ((getR pp.1 x200).why), iV ((getR pp.1 x200).tr), iV ((getR pp.1 x200).nx), .string (St ((getR pp.1 x200).tag))], iV 0])] ?_
      refine yA ?_
      refine yNp 29 42 [iV 0, iV 0, uV 0, iV 0, iV 0, iV 0, iV 0, .string (St [])] h205 fun r206 w207 h208 => ?_
      refine yA ?_
      refine yS [(0, iV ((getR pp.1 x200).out.1)), (1, iV ((getR pp.1 x200).out.2.1)), (2, uV ((getR pp.1 x200).out.2.2)), (3, iV ((getR pp.1 x200).st)), (4, iV ((getR pp.1 x200).why)), (5, iV ((getR pp.1 x200).tr)), (6, iV ((getR pp.1 x200).nx)), (7, .string (St ((getR pp.1 x200).tag)))] [iV ((getR pp.1 x200).out.1), iV ((getR pp.1 x200).out.2.1), uV ((getR pp.1 x200).out.2.2), iV ((getR pp.1 x200).st), iV ((getR pp.1 x200).why), iV ((getR pp.1 x200).tr), iV ((getR pp.1 x200).nx), .string (St ((getR pp.1 x200).tag))] h208 fun w209 h210 => ?_
      refine yB0 [] [11] [(30, iV 0)] (.mk ?_)
      refine yK [(0, yV sz), (7, pV b10), (9, .slice p18 (((liveL pp.1.E).length)) c19), (10, iV ((((cntD pp.1.E i) : Nat) : Int))), (25, iV ((((cntN pp.1.R q) : Nat) : Int) + (((nums pp.1.R (q : Int)).length : Nat) : Int))), (26, iV (q : Int)), (27, .slice p180 (((nums pp.1.R (q : Int)).length)) c181), (28, iV (u : Int)), (29, pV r206), (30, iV 0)] fun lr211 => ?_
      refine ySq ?_
      refine gi_drw (id := 44) (ops := RA Try.f6 [1, 1, 1, 1, 1, 1, 1, 1, 1, 0, 1, 0, 0, 1, 0, 0, 1, 1, 1, 0, 0, 1, 0, 0, 1, 0]) (Tr.fl 0 (Tr.fl 1 (Tr.fl 2 (Tr.fl 3 (Tr.fl 4 (Tr.fl 5 (Tr.fl 6 (Tr.fl 7 (Tr.fl 8 (Tr.fl 9 (Tr.fl 10 (Tr.fl 11 (Tr.fl 12 (Tr.fl 13 (Tr.fl 14 (Tr.fl 15 (Tr.fl 16 (Tr.fl 17 (Tr.fl 18 (Tr.fl 19 (Tr.fl 20 (Tr.fl 21 (Tr.fl 22 (Tr.fl 23 Tr.nil)))))))))))))))))))))))) (by kernel_rfl) (by kernel_rfl) (by kernel_rfl) (by kernel_rfl) (by kernel_rfl) (fun _ _ d _ _ h => by cases d <;> exact h) h210 ?_
      intro w212 h213
      refine yD _ [(216, iV (u : Int)), (215, .bool false), (214, .bool false), (213, .bool false), (212, iV (q : Int)), (211, iV ((getR pp.1 x200).st)), (210, .pointer (some ⟨r206, 3, none⟩)), (209, .bool false), (208, .bool false), (207, iV 0)] [e0 0, e0 1, e0 2, e0 3, e2 4 [iV ((getR pp.1 x200).st)], e0 5, e1 6 (.bool false), e0 7, e0 8, e0 9] [(4, ⟨r206, 3, none⟩, iV ((getR pp.1 x200).st))] [(.bool (((getR pp.1 x200).st) != (q : Int)), .bool false)] ⟨(ov_nf (by omega)), trivial⟩ (kC (sat_cell h213 0 rfl rfl) nC) ?_
      by_cases c214 : (u : Int) > 0
      ·
       refine yD _ [(220, iV (u : Int)), (219, .slice p180 (((nums pp.1.R (q : Int)).length)) c181), (218, .bool true), (217, .bool true)] [e1 10 (.bool true), e0 11, e0 12, e0 13] [] [(.bool (decide ((u : Int) > 0)), .bool true)] ⟨(ov_t (by omega)), trivial⟩ nC ?_
       refine draw_law (i := 14) 221 (.pointer (some ⟨b198, u, none⟩)) [] (by kernel_rfl) (fun _ _ => law_indexSlP (o := opA (RA Try.f6 [1, 1, 1, 1, 1, 1, 1, 1, 1, 0, 1, 0, 0, 1, 0, 0, 1, 1, 1, 0, 0, 1, 0, 0, 1, 0]) 14) (x := (Operand.tmp 219)) (i := (Operand.tmp 220)) (p := p180) (b := b198) (off := 0) (z := (u : Int)) (len := (((nums pp.1.R (q : Int)).length))) (cap := c181) (by kernel_rfl) Try.underlying62 1 (by kernel_rfl) u (by kernel_rfl) hp199 (by kernel_rfl) (by omega) (by omega) u (by omega) _) (by intro q hq; cases hq) ?_
       obtain ⟨kk215, hk216⟩ : ∃ z : Nat, z = u - 1 := ⟨_, rfl⟩
       refine yD _ [(225, iV ((u : Int) - 1)), (224, iV (u : Int)), (223, .slice p180 (((nums pp.1.R (q : Int)).length)) c181), (222, iV x200)] [e2 15 [iV x200], e0 16, e0 17, e1 18 (iV ((u : Int) - 1))] [(15, ⟨b198, u, none⟩, iV x200)] [(iV (IntKind.wrap .i64 ((u : Int) - 1)), iV ((u : Int) - 1))] ⟨(ov_i64 (by omega) (by omega) (by omega)), trivial⟩ (kC (gv_cell (j := 3) h213 rfl (gv_sl _ _ _) hp199 (fl_get eI_ok (j := 0) (v := iV x200) hx201 rfl) u (by omega)) nC) ?_
       refine fk_cut ([(225, iV ((u : Int) - 1)), (223, .slice p180 (((nums pp.1.R (q : Int)).length)) c181), (222, iV x200), (218, .bool true), (215, .bool false), (0, yV sz), (7, pV b10), (9, .slice p18 (((liveL pp.1.E).length)) c19), (10, iV ((((cntD pp.1.E i) : Nat) : Int))), (25, iV ((((cntN pp.1.R q) : Nat) : Int) + (((nums pp.1.R (q : Int)).length : Nat) : Int))), (26, iV (q : Int)), (27, .slice p180 (((nums pp.1.R (q : Int)).length)) c181), (28, iV (u : Int)), (29, pV r206), (30, iV 0)] : Fr) (by kernel_rfl) (fun a => RW _ _ _ _ _ a _) (fun lr217 => ?_)
       refine draw_law (i := 19) 226 (.pointer (some ⟨b198, kk215, none⟩)) [] (by kernel_rfl) (fun _ _ => law_indexSlP (o := opA (RA Try.f6 [1, 1, 1, 1, 1, 1, 1, 1, 1, 0, 1, 0, 0, 1, 0, 0, 1, 1, 1, 0, 0, 1, 0, 0, 1, 0]) 19) (x := (Operand.tmp 223)) (i := (Operand.tmp 225)) (p := p180) (b := b198) (off := 0) (z := ((u : Int) - 1)) (len := (((nums pp.1.R (q : Int)).length))) (cap := c181) (by kernel_rfl) Try.underlying62 1 (by kernel_rfl) kk215 (by kernel_rfl) hp199 (by kernel_rfl) (by omega) (by omega) kk215 (by omega) _) (by intro q hq; cases hq) ?_
       obtain ⟨x218, hx219⟩ : ∃ x, (nums pp.1.R (q : Int))[u - 1]? = some x := ⟨_, List.getElem?_eq_getElem (by rw [hl189]; omega)⟩
       have hb220 := nums_get (List.mem_of_getElem? hx219)
       have hb220a := hb220.1; have hb220b := hb220.2
       have hs221 := num_lt hx219 hx201 (by omega)
       refine yD _ [(230, .bool false), (229, .bool false), (228, .bool false), (227, iV x218)] [e2 20 [iV x218], e1 21 (.bool false), e0 22, e0 23] [(20, ⟨b198, kk215, none⟩, iV x218)] [(.bool (decide (x200 ≤ x218)), .bool false)] ⟨(ov_f (by omega)), trivial⟩ (kC (gv_cell (j := 3) h213 rfl (gv_sl _ _ _) hp199 (fl_get eI_ok (j := 0) (v := iV x218) hx219 rfl) kk215 (by omega)) nC) ?_
       refine yK [(0, yV sz), (7, pV b10), (9, .slice p18 (((liveL pp.1.E).length)) c19), (10, iV ((((cntD pp.1.E i) : Nat) : Int))), (25, iV ((((cntN pp.1.R q) : Nat) : Int) + (((nums pp.1.R (q : Int)).length : Nat) : Int))), (26, iV (q : Int)), (27, .slice p180 (((nums pp.1.R (q : Int)).length)) c181), (28, iV (u : Int)), (230, .bool false)] fun lr222 => ?_
       refine yCf ?_
       refine ySk ?_
       refine yPl [0, 1, 2] ?_
       refine yBb [] [(28, iV ((u : Int) + 1)), (197, iV ((u : Int) + 1)), (196, iV (u : Int))] [e0 0, e1 1 (iV ((u : Int) + 1)), e0 2] [] [(iV (IntKind.wrap .i64 ((u : Int) + 1)), iV ((u : Int) + 1))] ⟨(ov_i64 (by omega) (by omega) (by omega)), trivial⟩ nC (.mk ?_)
       have h223 := tk6 (sf5 (sf5 (sf5 (sf5 (sf5 h213)))))
       have h224 := tk5 h223
       change ∃ n', n' < _ ∧ _
       refine ⟨(((nums pp.1.R (q : Int)).length) - (u + 1)), by omega, (u + 1), _, rfl, (by omega), (mk_live [(0, yV sz), (7, pV b10), (9, .slice p18 (((liveL pp.1.E).length)) c19), (10, iV ((((cntD pp.1.E i) : Nat) : Int))), (25, iV ((((cntN pp.1.R q) : Nat) : Int) + (((nums pp.1.R (q : Int)).length : Nat) : Int))), (26, iV (q : Int)), (27, .slice p180 (((nums pp.1.R (q : Int)).length)) c181), (28, iV ((((u + 1) : Nat) : Int)))] ⟨rfl, rfl, rfl, rfl, rfl, rfl, rfl, (ov_int (by omega)), trivial⟩), h224⟩
      ·
       refine yD _ [(230, .bool false), (229, .bool false), (228, undef), (227, undef), (226, undef), (225, undef), (224, undef), (223, undef), (222, undef), (221, undef), (220, undef), (219, undef), (218, .bool false), (217, .bool false)] [e1 10 (.bool false), e0 11, e0 12, e0 13, e0 14, e0 15, e0 16, e0 17, e0 18, e0 19, e0 20, e0 21, e0 22, e0 23] [] [(.bool (decide ((u : Int) > 0)), .bool false)] ⟨(ov_f (by omega)), trivial⟩ nC ?_
       refine yK [(0, yV sz), (7, pV b10), (9, .slice p18 (((liveL pp.1.E).length)) c19), (10, iV ((((cntD pp.1.E i) : Nat) : Int))), (25, iV ((((cntN pp.1.R q) : Nat) : Int) + (((nums pp.1.R (q : Int)).length : Nat) : Int))), (26, iV (q : Int)), (27, .slice p180 (((nums pp.1.R (q : Int)).length)) c181), (28, iV (u : Int)), (230, .bool false)] fun lr225 => ?_
       refine yCf ?_
       refine ySk ?_
       refine yPl [0, 1, 2] ?_
       refine yBb [] [(28, iV ((u : Int) + 1)), (197, iV ((u : Int) + 1)), (196, iV (u : Int))] [e0 0, e1 1 (iV ((u : Int) + 1)), e0 2] [] [(iV (IntKind.wrap .i64 ((u : Int) + 1)), iV ((u : Int) + 1))] ⟨(ov_i64 (by omega) (by omega) (by omega)), trivial⟩ nC (.mk ?_)
       have h226 := tk6 (sf5 (sf5 (sf5 (sf5 (sf5 h213)))))
       have h227 := tk5 h226
       change ∃ n', n' < _ ∧ _
       refine ⟨(((nums pp.1.R (q : Int)).length) - (u + 1)), by omega, (u + 1), _, rfl, (by omega), (mk_live [(0, yV sz), (7, pV b10), (9, .slice p18 (((liveL pp.1.E).length)) c19), (10, iV ((((cntD pp.1.E i) : Nat) : Int))), (25, iV ((((cntN pp.1.R q) : Nat) : Int) + (((nums pp.1.R (q : Int)).length : Nat) : Int))), (26, iV (q : Int)), (27, .slice p180 (((nums pp.1.R (q : Int)).length)) c181), (28, iV ((((u + 1) : Nat) : Int)))] ⟨rfl, rfl, rfl, rfl, rfl, rfl, rfl, (ov_int (by omega)), trivial⟩), h227⟩
     ·
      refine yBb [] [(195, .bool false)] [e1 3 (.bool false)] [] [(.bool (decide ((u : Int) < (((nums pp.1.R (q : Int)).length : Nat) : Int))), .bool false)] ⟨(ov_f (by omega)), trivial⟩ nC (.mk ?_)
      refine yK [(0, yV sz), (7, pV b10), (9, .slice p18 (((liveL pp.1.E).length)) c19), (10, iV ((((cntD pp.1.E i) : Nat) : Int))), (25, iV ((((cntN pp.1.R q) : Nat) : Int) + (((nums pp.1.R (q : Int)).length : Nat) : Int))), (26, iV (q : Int)), (27, .slice p180 (((nums pp.1.R (q : Int)).length)) c181), (28, iV (u : Int)), (195, .bool false)] fun lr228 => ?_
      refine yCf ?_
      refine yEx 10 ?_
      refine yPl [0, 1, 2] ?_
      refine yBb [] [(26, iV ((q : Int) + 1)), (184, iV ((q : Int) + 1)), (183, iV (q : Int))] [e0 0, e1 1 (iV ((q : Int) + 1)), e0 2] [] [(iV (IntKind.wrap .i64 ((q : Int) + 1)), iV ((q : Int) + 1))] ⟨(ov_i64 (by omega) (by omega) (by omega)), trivial⟩ nC (.mk ?_)
      have hcs_ : cntN pp.1.R (q + 1) = cntN pp.1.R q + ((nums pp.1.R (q : Int)).length) := rfl
      have h229 := tk5 (sf4 (sf4 (sf4 (sf4 (sf2 h195)))))
      have h230 := tk4 h229
      change ∃ n', n' < _ ∧ _
      refine ⟨(5 - (q + 1)), by omega, (q + 1), _, rfl, ⟨by omega, by omega⟩, (mk_live [(0, yV sz), (7, pV b10), (9, .slice p18 (((liveL pp.1.E).length)) c19), (10, iV ((((cntD pp.1.E i) : Nat) : Int))), (25, iV ((((cntN pp.1.R (q + 1)) : Nat) : Int))), (26, iV ((((q + 1) : Nat) : Int)))] ⟨rfl, rfl, rfl, rfl, (ov_int (by omega)), (ov_int (by omega)), trivial⟩), h230⟩
    ·
     refine yBb [] [(182, .bool false)] [e1 1 (.bool false)] [] [(.bool (decide ((q : Int) ≤ 4)), .bool false)] ⟨(ov_f (by omega)), trivial⟩ nC (.mk ?_)
     refine yK [(0, yV sz), (7, pV b10), (9, .slice p18 (((liveL pp.1.E).length)) c19), (10, iV ((((cntD pp.1.E i) : Nat) : Int))), (25, iV ((((cntN pp.1.R q) : Nat) : Int))), (26, iV (q : Int)), (182, .bool false)] fun lr231 => ?_
     refine yCf ?_
     refine yEx 8 ?_
     refine ySq ?_
     have hcq_ : cntN pp.1.R q = pp.1.R.length := (show q = 5 from by omega) ▸ cntN_all hI_.W
     have hfl_ := free_live hI_.W
     refine yPl [0, 1, 2, 3, 4, 5, 6, 7, 8, 9, 10, 11, 12, 13, 14, 15, 16, 17, 18, 19, 20, 21, 22, 23, 24, 25, 26, 27, 28, 29, 30, 31, 32, 33, 34, 35, 36] ?_
     refine yBb [7, 8, 9, 10, 11, 12, 13, 14, 15, 16, 17, 18, 19, 20, 21, 22, 23, 24, 25, 26, 27, 28, 29, 30, 31, 32, 33, 34, 35, 36] [(237, pV b10), (236, iV ((((cntN pp.1.R q) : Nat) : Int))), (235, .bool true), (234, .bool true), (233, iV ((((liveL pp.1.E).length : Nat) : Int))), (232, .slice p18 (((liveL pp.1.E).length)) c19), (231, iV ((((cntD pp.1.E i) : Nat) : Int)))] [e0 0, e0 1, e0 2, e1 3 (.bool true), e0 4, e0 5, e0 6] [] [(.bool (((((cntD pp.1.E i) : Nat) : Int)) == ((((liveL pp.1.E).length : Nat) : Int))), .bool true)] ⟨(ov_et (by omega)), trivial⟩ nC ?_
     refine yA ?_
     refine yCl 238 Try.call22 (tlen_w b10 nn pp.1) h176 ?_
     rintro v K w232 (⟨rfl, rfl⟩) h233
     refine ⟨_, rfl, ?_⟩
     have h234 := ap1 h233
     refine yBb [12, 13, 14, 15, 16, 17, 18, 19, 20, 21, 22, 23, 24, 25, 26, 27, 28, 29, 30, 31, 32, 33, 34, 35, 36] [(242, pV b10), (241, .bool true), (240, .bool true), (239, .bool true)] [e1 8 (.bool true), e0 9, e0 10, e0 11] [] [(.bool (((((cntN pp.1.R q) : Nat) : Int)) == (((pp.1.R.length : Nat) : Int))), .bool true)] ⟨(ov_et (by omega)), trivial⟩ nC ?_
     have hnz_ := nums_zero hI_.W
     refine yA ?_
     refine yCl 243 Try.call28 (tnums_w b10 nn pp.1 0) h234 ?_
     rintro v K w237 (⟨p235, c236, rfl, rfl⟩) h238
     refine ⟨_, rfl, ?_⟩
     have h239 := ap2 h238
     refine yBb [18, 19, 20, 21, 22, 23, 24, 25, 26, 27, 28, 29, 30, 31, 32, 33, 34, 35, 36] [(248, pV b10), (247, .bool true), (246, .bool true), (245, .bool true), (244, iV ((((nums pp.1.R 0).length : Nat) : Int)))] [e0 13, e1 14 (.bool true), e0 15, e0 16, e0 17] [] [(.bool (((((nums pp.1.R 0).length : Nat) : Int)) == 0), .bool true)] ⟨(ov_et (by omega)), trivial⟩ nC ?_
     refine fk_cut ([(248, pV b10), (247, .bool true), (0, yV sz), (7, pV b10), (9, .slice p18 (((liveL pp.1.E).length)) c19), (10, iV ((((cntD pp.1.E i) : Nat) : Int))), (25, iV ((((cntN pp.1.R q) : Nat) : Int))), (26, iV (q : Int)), (182, .bool false)] : Fr) (by kernel_rfl) (fun a => PO _ _ _ _ a _) (fun lr240 => ?_)
     refine yA ?_
     refine yCl 249 Try.call29 (troom_w b10 nn pp.1) h239 ?_
     rintro v K w241 (⟨rfl, rfl⟩) h242
     refine ⟨_, rfl, ?_⟩
     have h243 := ap1 h242
     refine yBb [23, 24, 25, 26, 27, 28, 29, 30, 31, 32, 33, 34, 35, 36] [(253, pV b10), (252, .bool true), (251, .bool true), (250, .bool true)] [e1 19 (.bool true), e0 20, e0 21, e0 22] [] [(.bool (decide ((((inS 0 pp.1.A 0).length : Nat) : Int) ≥ 0)), .bool true)] ⟨(ov_t (by omega)), trivial⟩ nC ?_
     refine yA ?_
     refine yCl 254 Try.call29 (troom_w b10 nn pp.1) h243 ?_
     rintro v K w244 (⟨rfl, rfl⟩) h245
     refine ⟨_, rfl, ?_⟩
     have h246 := ap1 h245
     have hb247 := rem_bd (a := sz) (b := 12) (by omega) (by omega)
     refine yBb [28, 29, 30, 31, 32, 33, 34, 35, 36] [(258, yV sz), (257, iV ((((inS 0 pp.1.A 0).length : Nat) : Int) + (((liveL pp.1.E).length : Nat) : Int))), (256, iV ((((liveL pp.1.E).length : Nat) : Int))), (255, .slice p18 (((liveL pp.1.E).length)) c19)] [e0 24, e0 25, e1 26 (iV ((((inS 0 pp.1.A 0).length : Nat) : Int) + (((liveL pp.1.E).length : Nat) : Int))), e0 27] [] [(iV (IntKind.wrap .i64 (((((inS 0 pp.1.A 0).length : Nat) : Int)) + ((((liveL pp.1.E).length : Nat) : Int)))), iV ((((inS 0 pp.1.A 0).length : Nat) : Int) + (((liveL pp.1.E).length : Nat) : Int)))] ⟨(ov_i64 (by omega) (by omega) (by omega)), trivial⟩ nC ?_
     refine plain_law (i := 28) 259 (yV ((sz % 12))) (by kernel_rfl) (law_rem (o := opA (RA Try.f6 [1, 1, 1, 1, 1, 1, 1, 1, 1, 1, 0]) 28) (t := 5) (x := (Operand.tmp 258)) (y := (Operand.const (yV 12))) (by kernel_rfl) sz 12 (by kernel_rfl) (by kernel_rfl) (by omega) ((sz % 12)) (rem_ex (by omega)) _) ?_
     refine yBb [34, 35, 36] [(264, .bool true), (263, .bool true), (262, .bool true), (261, iV ((sz % 12) + 1)), (260, iV ((sz % 12)))] [e1 29 (iV ((sz % 12))), e1 30 (iV ((sz % 12) + 1)), e1 31 (.bool true), e0 32, e0 33] [] [(iV (IntKind.wrap .i64 ((sz % 12))), iV ((sz % 12))), (iV (IntKind.wrap .i64 (1 + ((sz % 12)))), iV ((sz % 12) + 1)), (.bool (decide ((((inS 0 pp.1.A 0).length : Nat) : Int) + (((liveL pp.1.E).length : Nat) : Int) ≤ (sz % 12) + 1)), .bool true)] ⟨(ov_i64 rfl (by omega) (by omega)), (ov_i64 (by omega) (by omega) (by omega)), (ov_t (by omega)), trivial⟩ nC ?_
     refine fk_cut ([(264, .bool true), (0, yV sz), (7, pV b10), (9, .slice p18 (((liveL pp.1.E).length)) c19), (10, iV ((((cntD pp.1.E i) : Nat) : Int))), (25, iV ((((cntN pp.1.R q) : Nat) : Int))), (26, iV (q : Int)), (182, .bool false)] : Fr) (by kernel_rfl) (fun a => PO _ _ _ _ a _) (fun lr248 => ?_)
     refine yA ?_
     refine yCl 265 Try.call18 (works_ht) h246 ?_
     rintro v K w249 (⟨rfl, rfl⟩) h250
     refine ⟨_, rfl, ?_⟩
     have h251 := ap0 h250
     refine yB0 [] [35, 36] [(6, .bool true), (266, .bool true)] (.mk ?_)
     refine yK [(6, .bool true)] fun lr252 => ?_
     refine yRt ?_
     repeat (first | simp only [Exit.inBlock] | simp only [Exit.then])
     have h253 := tk5 (sf4 (sf3 (sf3 (sf3 (sf4 h251)))))
     have h254 := tk2 (sf1 (sf4 h253))
     refine hi_out [] (.bool true) [] (by kernel_rfl) (by intro q hq; cases hq) ?_
     exact ⟨.bool true, [Old wo], rfl, ⟨rfl, rfl⟩, h254⟩

end Go.Proofs.Ytjjpmehiolejgaa
