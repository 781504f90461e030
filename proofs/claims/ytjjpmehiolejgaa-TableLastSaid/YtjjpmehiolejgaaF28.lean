/- Walks, printed by my generator gen28.py. -/
import Derived.Test.YtjjpmehiolejgaaF24
import Derived.Test.YtjjpmehiolejgaaF18
import Derived.Test.YtjjpmehiolejgaaTabI
namespace Go.Proofs.Ytjjpmehiolejgaa
theorem nE_ok2 {S : Ts} {v : Int} (h : 1 ≤ v ∧ v ≤ (S.R.length : Int)) : nE S v = 0 := if_pos h
theorem desc_ok1 {n : Nat} {S : Ts} (W : Wf n S) {v : Int} {x : Ky} (hx : x ∈ descs S.E v) : 1 ≤ x.2.2 ∧ x.2.2 ≤ 4294967295 := by
  obtain ⟨e, h1, h2, _⟩ := descs_at W hx
  have hg := wf_good W h1
  have := (gen_ok W h1).2
  rw [h2] at hg this
  exact ⟨hg.2.2.2.2, this⟩
theorem q28e28_neq_t {n : Nat} {l : Fr} {o : Oper} {x y : Operand} (a0 : Int) (a1 : Int) (a2 : Int) (c0 : Int) (c1 : Int) (c2 : Int) (ho : o.op = .binOp .neq 28 x y 28) (hx : fe n l x = .agg #[.int .i64 a0, .int .i64 a1, .int .u32 a2]) (hy : fe n l y = .agg #[.int .i64 c0, .int .i64 c1, .int .u32 c2]) (h : a0 = c0 ∧ a1 = c1 ∧ a2 = c2) (w : World) : (execOp (fe n l) o).run Try.prog w = .ok (.value (.bool false)) w := by
  obtain ⟨rfl, rfl, rfl⟩ := h
  simp [execOp, ho, hx, hy, go_sem]
set_option maxHeartbeats 4000000 in
theorem last_law (wo : World) (sz bl : Int) (hsz : 0 ≤ sz ∧ sz ≤ 255) (hbl : 0 ≤ bl ∧ bl ≤ 255) (p0 : Option Addr) (n cp : Nat) (T : List Mv) (hr : Rd wo p0 n (fl eMv T)) (hT : T.length = n) (hO : ∀ m ∈ T, MvOk m) (wh : Int) (hwh : 0 ≤ wh ∧ wh ≤ 65535) : HT Try.prog 7 [Value.int IntKind.u8 sz, Value.int IntKind.u8 bl, Value.slice p0 n cp, Value.int IntKind.u16 wh] [Old wo] (fun v K => v = Value.bool true ∧ K = [Old wo]) := by
 refine hi_in 187 ([(0, yV sz), (1, yV bl), (2, .slice p0 n cp), (3, .int .u16 wh)] : Fr) Try.func7 (by kernel_rfl) Try.ntmps7 rfl rfl ?_
 intro g w0 R h0
 obtain ⟨nn, hnn⟩ : ∃ nn : Nat, (nn : Int) = sz % 12 + 1 := ⟨(sz % 12 + 1).toNat, by omega⟩
 obtain ⟨gg, hgg⟩ : ∃ g : Int, g = 4294967295 - bl % 6 := ⟨_, rfl⟩
 refine ySq ?_
 refine yPl [0] ?_
 refine yB0 [] [0] [(8, .bool false)] (.mk ?_)
 refine yK [(0, yV sz), (1, yV bl), (2, .slice p0 n cp), (3, .int .u16 wh)] fun lr1 => ?_
 refine ySq ?_
 refine ySq ?_
 refine yPl [0, 1, 2] ?_
 refine yB0 [2] [0, 1] [(30, iV (n : Int)), (29, .slice p0 n cp)] ?_
 by_cases c2 : (n : Int) > 100
 ·
  refine yBb [] [(31, .bool true)] [e1 2 (.bool true)] [] [(.bool (decide ((n : Int) > 100)), .bool true)] ⟨(ov_t (by omega)), trivial⟩ nC (.mk ?_)
  refine yK [(0, yV sz), (1, yV bl), (2, .slice p0 n cp), (3, .int .u16 wh), (31, .bool true)] fun lr3 => ?_
  refine yCt ?_
  refine ySq ?_
  refine yPl [0, 1] ?_
  refine yA ?_
  refine yCl 32 Try.call18 (works_ht) h0 ?_
  rintro v K w4 (⟨rfl, rfl⟩) h5
  refine ⟨_, rfl, ?_⟩
  have h6 := ap0 h5
  refine yB0 [] [1] [(8, .bool true)] (.mk ?_)
  refine yK [(8, .bool true)] fun lr7 => ?_
  refine yRt ?_
  repeat (first | simp only [Exit.inBlock] | simp only [Exit.then])
  refine hi_out [] (.bool true) [] (by kernel_rfl) (by intro q hq; cases hq) ?_
  exact ⟨.bool true, [Old wo], rfl, ⟨rfl, rfl⟩, h6⟩
 ·
  refine yBb [] [(31, .bool false)] [e1 2 (.bool false)] [] [(.bool (decide ((n : Int) > 100)), .bool false)] ⟨(ov_f (by omega)), trivial⟩ nC (.mk ?_)
  refine yK [(0, yV sz), (1, yV bl), (2, .slice p0 n cp), (3, .int .u16 wh), (31, .bool false)] fun lr8 => ?_
  refine yCf ?_
  refine ySk ?_
  refine ySq ?_
  refine yPl [0, 1, 2, 3, 4, 5, 6, 7, 8] ?_
  refine yB0 [3, 4, 5, 6, 7, 8] [0, 1, 2] [(36, .slice p0 n cp), (35, yV bl), (34, yV sz)] ?_
  obtain ⟨pp, hpp⟩ : ∃ pp, madeK nn gg T n = pp := ⟨_, rfl⟩
  have hI_ : MInv nn pp := hpp ▸ minv_made (n := nn) (g := gg) (by omega) (by omega) hO (k := n) (by omega) (by omega)
  have hal_ : pp.2.length ≤ n := hpp ▸ madeK_all nn gg T n
  have hm9 := made_w wo sz bl hsz hbl nn hnn gg hgg p0 n cp T hr hT hO (by omega)
  rw [hpp] at hm9
  refine yA ?_
  refine yCl 37 Try.call19 (hm9) h0 ?_
  rintro v K w13 (⟨b10, p11, c12, rfl, rfl⟩) h14
  refine ⟨_, rfl, ?_⟩
  have h15 := ap3 h14
  refine yB0 [] [4, 5, 6, 7, 8] [(10, .slice p11 pp.2.length c12), (9, pV b10), (39, .slice p11 pp.2.length c12), (38, pV b10), (33, .tuple #[pV b10, .slice p11 pp.2.length c12])] (.mk ?_)
  refine yK [(3, .int .u16 wh), (9, pV b10)] fun lr16 => ?_
  refine ySq ?_
  refine ySq ?_
  refine yPl [0, 1, 2, 3, 4, 5, 6] ?_
  refine yB0 [4, 5, 6] [0, 1, 2, 3] [(43, pV b10), (42, .bool false), (41, .bool false), (40, pV b10)] ?_
  refine yA ?_
  refine yCl 44 Try.call22 (tlen_w b10 nn pp.1) h15 ?_
  rintro v K w17 (⟨rfl, rfl⟩) h18
  refine ⟨_, rfl, ?_⟩
  have h19 := ap1 h18
  by_cases c20 : ((pp.1.R.length : Nat) : Int) = 0
  ·
   refine yBb [] [(46, .bool true), (45, .bool true)] [e1 5 (.bool true), e0 6] [] [(.bool ((((pp.1.R.length : Nat) : Int)) == 0), .bool true)] ⟨(ov_et (by omega)), trivial⟩ nC (.mk ?_)
   refine yK [(3, .int .u16 wh), (9, pV b10), (46, .bool true)] fun lr21 => ?_
   refine yCt ?_
   refine ySq ?_
   refine yPl [0, 1, 2, 3, 4, 5] ?_
   refine yB0 [3, 4, 5] [0, 1, 2] [(49, .bool true), (48, .bool true), (47, pV b10)] ?_
   refine yA ?_
   refine yCl 50 Try.call18 (works_ht) h19 ?_
   rintro v K w22 (⟨rfl, rfl⟩) h23
   refine ⟨_, rfl, ?_⟩
   have h24 := ap0 h23
   refine yB0 [] [4, 5] [(8, .bool true), (51, .bool true)] (.mk ?_)
   refine yK [(8, .bool true)] fun lr25 => ?_
   refine yRt ?_
   repeat (first | simp only [Exit.inBlock] | simp only [Exit.then])
   have h26 := tk4 (sf3 (sf2 (sf2 (sf3 h24))))
   have h27 := tk2 (sf1 (sf3 h26))
   refine hi_out [] (.bool true) [] (by kernel_rfl) (by intro q hq; cases hq) ?_
   exact ⟨.bool true, [Old wo], rfl, ⟨rfl, rfl⟩, h27⟩
  ·
   refine yBb [] [(46, .bool false), (45, .bool false)] [e1 5 (.bool false), e0 6] [] [(.bool ((((pp.1.R.length : Nat) : Int)) == 0), .bool false)] ⟨(ov_ef (by omega)), trivial⟩ nC (.mk ?_)
   refine yK [(3, .int .u16 wh), (9, pV b10), (46, .bool false)] fun lr28 => ?_
   refine yCf ?_
   refine ySk ?_
   refine ySq ?_
   refine yPl [0, 1, 2, 3, 4, 5, 6] ?_
   refine yBb [3, 4, 5, 6] [(54, pV b10), (53, iV wh), (52, .int .u16 wh)] [e0 0, e1 1 (iV wh), e0 2] [] [(iV (IntKind.wrap .i64 wh), iV wh)] ⟨(ov_i64 rfl (by omega) (by omega)), trivial⟩ nC ?_
   refine yA ?_
   refine yCl 55 Try.call22 (tlen_w b10 nn pp.1) h19 ?_
   rintro v K w29 (⟨rfl, rfl⟩) h30
   refine ⟨_, rfl, ?_⟩
   have h31 := ap1 h30
   have hb32 := rem_bd (a := wh) (b := ((pp.1.R.length : Nat) : Int)) (by omega) (by omega)
   refine plain_law (i := 4) 56 (iV ((wh % (((pp.1.R.length : Nat) : Int))))) (by kernel_rfl) (law_rem (o := opA (RA Try.f7 [1, 1, 1, 1, 0]) 4) (t := 3) (x := (Operand.tmp 53)) (y := (Operand.tmp 55)) (by kernel_rfl) wh (((pp.1.R.length : Nat) : Int)) (by kernel_rfl) (by kernel_rfl) (by omega) ((wh % (((pp.1.R.length : Nat) : Int)))) (rem_ex (by omega)) _) ?_
   obtain ⟨vn, hvn⟩ : ∃ vn : Int, (wh % (((pp.1.R.length : Nat) : Int))) + 1 = vn := ⟨_, rfl⟩
   refine yBb [] [(11, iV vn), (57, iV vn)] [e1 5 (iV vn), e0 6] [] [(iV (IntKind.wrap .i64 (1 + ((wh % (((pp.1.R.length : Nat) : Int)))))), iV vn)] ⟨(ov_i64 (by omega) (by omega) (by omega)), trivial⟩ nC (.mk ?_)
   refine yK [(9, pV b10), (11, iV vn)] fun lr33 => ?_
   refine ySq ?_
   refine yPl [0, 1, 2, 3, 4, 5, 6, 7] ?_
   refine yB0 [2, 3, 4, 5, 6, 7] [0, 1] [(60, iV vn), (59, pV b10)] ?_
   have hdl_ := descs_len pp.1.E vn
   refine yA ?_
   refine yCl 61 Try.call21 ((by have h_ := tdescs_w b10 nn pp.1 vn; rw [nE_ok2 (show 1 ≤ vn ∧ vn ≤ (pp.1.R.length : Int) from by omega)] at h_; exact h_)) h31 ?_
   rintro v K w36 (⟨p34, c35, rfl, rfl⟩) h37
   refine ⟨_, rfl, ?_⟩
   have h38 := ap2 h37
   refine yB0 [] [3, 4, 5, 6, 7] [(13, iV 0), (12, .slice p34 (((descs pp.1.E vn).length)) c35), (63, iV 0), (62, .slice p34 (((descs pp.1.E vn).length)) c35), (58, .tuple #[.slice p34 (((descs pp.1.E vn).length)) c35, iV 0])] (.mk ?_)
   refine yK [(9, pV b10), (11, iV vn), (12, .slice p34 (((descs pp.1.E vn).length)) c35), (13, iV 0)] fun lr39 => ?_
   refine ySq ?_
   refine yPl [0, 1, 2] ?_
   refine yB0 [1, 2] [0] [(64, pV b10)] ?_
   refine yA ?_
   refine yCl 65 Try.call30 (tcopy_w b10 nn pp.1) h38 ?_
   rintro v K w41 (⟨b40, rfl, rfl⟩) h42
   refine ⟨_, rfl, ?_⟩
   have h43 := ap2 h42
   refine yB0 [] [2] [(14, pV b40)] (.mk ?_)
   refine yK [(9, pV b10), (11, iV vn), (12, .slice p34 (((descs pp.1.E vn).length)) c35), (13, iV 0), (14, pV b40)] fun lr44 => ?_
   refine ySq ?_
   refine ySq ?_
   refine yPl [0, 1, 2, 3, 4, 5] ?_
   refine yB0 [] [0, 1, 2, 3, 4, 5] [(71, .bool false), (70, .bool false), (69, pV b40), (68, .bool false), (67, .bool false), (66, iV 0)] (.mk ?_)
   refine yK [(9, pV b10), (11, iV vn), (12, .slice p34 (((descs pp.1.E vn).length)) c35), (14, pV b40), (71, .bool false)] fun lr45 => ?_
   refine yCf ?_
   refine ySk ?_
   refine ySq ?_
   refine ySq ?_
   refine yPl [0] ?_
   refine yB0 [] [0] [(15, iV 0)] (.mk ?_)
   refine yK [(9, pV b10), (11, iV vn), (12, .slice p34 (((descs pp.1.E vn).length)) c35), (14, pV b40), (15, iV 0)] fun lr46 => ?_
   refine yBk 0 ?_
   have h47 := tk6 (sf5 (sf4 (sf4 (sf5 (sf5 (sf5 h43))))))
   have hl48 := fl_n eO_ok (by decide) h47
   have h49 := tk6 (sf5 (sf4 (sf5 (sf5 (sf5 (sf3 h47))))))
   have h50 := tk5 h49
   refine gi_lp (x := CA Try.f7 [1, 1, 1, 1, 1, 1, 1, 1, 0, 1, 0, 0]) (by kernel_rfl) (fun mz_ a w => ∃ i : Nat, ∃ lr : Fr, mz_ = ((descs pp.1.E vn).length) - i ∧ (i ≤ ((descs pp.1.E vn).length)) ∧ a = mk 187 (([(9, pV b10), (11, iV vn), (12, .slice p34 (((descs pp.1.E vn).length)) c35), (14, pV b40), (15, iV (i : Int))] : Fr) ++ lr) ∧ sat g w [TW b10 nn (dropK pp.1 vn i), Sl 28 3 p34 (((descs pp.1.E vn).length)) c35 (fl eO (descs pp.1.E vn)), TW b40 nn pp.1, Old wo, R]) (((descs pp.1.E vn).length) - 0) ⟨0, _, rfl, (Nat.zero_le _), (mk_live [(9, pV b10), (11, iV vn), (12, .slice p34 (((descs pp.1.E vn).length)) c35), (14, pV b40), (15, iV (0 : Int))] ⟨rfl, rfl, rfl, rfl, (ov_int (by omega)), trivial⟩), h50⟩ ?_
   rintro m52 a53 w54 ⟨i, lr51, rfl, hi_i, rfl, h55⟩
   refine ySq ?_
   refine ySq ?_
   refine yPl [0, 1, 2, 3] ?_
   refine yB0 [3] [0, 1, 2] [(74, iV ((((descs pp.1.E vn).length : Nat) : Int))), (73, .slice p34 (((descs pp.1.E vn).length)) c35), (72, iV (i : Int))] ?_
   by_cases c56 : (i : Int) < (((descs pp.1.E vn).length : Nat) : Int)
   ·
    refine yBb [] [(75, .bool true)] [e1 3 (.bool true)] [] [(.bool (decide ((i : Int) < (((descs pp.1.E vn).length : Nat) : Int))), .bool true)] ⟨(ov_t (by omega)), trivial⟩ nC (.mk ?_)
    refine yK [(9, pV b10), (11, iV vn), (12, .slice p34 (((descs pp.1.E vn).length)) c35), (14, pV b40), (15, iV (i : Int)), (75, .bool true)] fun lr57 => ?_
    refine yCt ?_
    refine ySk ?_
    refine ySq ?_
    refine yBk 1 ?_
    refine ySq ?_
    refine yPl [0, 1, 2, 3, 4, 5, 6, 7, 8, 9, 10, 11, 12] ?_
    obtain ⟨b58, hp59⟩ := sl_ptr0 (j := 1) h55 rfl (by omega)
    refine yB0 [3, 4, 5, 6, 7, 8, 9, 10, 11, 12] [0, 1, 2] [(81, iV (i : Int)), (80, .slice p34 (((descs pp.1.E vn).length)) c35), (79, pV b10)] ?_
    refine plain_law (i := 3) 82 (.pointer (some ⟨b58, i * 3, none⟩)) (by kernel_rfl) (law_indexSlP (o := opA (RA Try.f7 [1, 1, 1, 1, 1, 1, 1, 1, 0, 1, 0, 0, 1, 0, 0, 0]) 3) (x := (Operand.tmp 80)) (i := (Operand.tmp 81)) (p := p34) (b := b58) (off := 0) (z := (i : Int)) (len := (((descs pp.1.E vn).length))) (cap := c35) (by kernel_rfl) Try.underlying45 3 (by kernel_rfl) i (by kernel_rfl) hp59 (by kernel_rfl) (by omega) (by omega) (i * 3) (by omega) _) ?_
    obtain ⟨x60, hx61⟩ : ∃ x, (descs pp.1.E vn)[i]? = some x := ⟨_, List.getElem?_eq_getElem (by rw [hl48]; omega)⟩
    have hb62 := desc_ok1 hI_.W (List.mem_of_getElem? hx61)
    refine yBb [5, 6, 7, 8, 9, 10, 11, 12] [(83, .agg #[iV x60.1, iV x60.2.1, uV x60.2.2])] [e2 4 [iV x60.1, iV x60.2.1, uV x60.2.2]] [(4, ⟨b58, i * 3, none⟩, iV x60.1), (4, ⟨b58, i * 3 + 1, none⟩, iV x60.2.1), (4, ⟨b58, i * 3 + 2, none⟩, uV x60.2.2)] [] trivial (kC (gv_cell (j := 1) h55 rfl (gv_sl _ _ _) hp59 (fl_get eO_ok (j := 0) (v := iV x60.1) hx61 rfl) (i * 3) (by omega)) (kC (gv_cell (j := 1) h55 rfl (gv_sl _ _ _) hp59 (fl_get eO_ok (j := 1) (v := iV x60.2.1) hx61 rfl) (i * 3 + 1) (by omega)) (kC (gv_cell (j := 1) h55 rfl (gv_sl _ _ _) hp59 (fl_get eO_ok (j := 2) (v := uV x60.2.2) hx61 rfl) (i * 3 + 2) (by omega)) nC))) ?_
    by_cases c63 : i + 1 = ((descs pp.1.E vn).length)
    ·
     refine yA ?_
     refine yCl 84 Try.call15 ((by have h_ := tclose_w b10 nn (dropK pp.1 vn i) x60.1 x60.2.1 x60.2.2 (by omega) (by omega); rw [(close_at hI_.W hx61).1, (close_at hI_.W hx61).2.1, (close_at hI_.W hx61).2.2.1, (close_at hI_.W hx61).2.2.2, decide_eq_true (by omega)] at h_; exact h_)) h55 ?_
     rintro v K w64 (⟨rfl, rfl⟩) h65
     refine ⟨_, rfl, ?_⟩
     have h66 := ap1 h65
     refine yB0 [] [6, 7, 8, 9, 10, 11, 12] [(18, iV 0), (17, .bool true), (16, iV vn), (87, iV 0), (86, .bool true), (85, iV vn), (78, .tuple #[iV vn, .bool true, iV 0])] (.mk ?_)
     refine yK [(9, pV b10), (11, iV vn), (12, .slice p34 (((descs pp.1.E vn).length)) c35), (14, pV b40), (15, iV (i : Int)), (16, iV vn), (17, .bool true), (18, iV 0)] fun lr67 => ?_
     refine ySq ?_
     refine yPl [0, 1, 2, 3, 4, 5, 6, 7, 8, 9, 10, 11, 12, 13, 14, 15] ?_
     refine yBb [14, 15] [(101, .bool true), (100, iV ((((descs pp.1.E vn).length : Nat) : Int) - 1)), (99, iV ((((descs pp.1.E vn).length : Nat) : Int))), (98, .slice p34 (((descs pp.1.E vn).length)) c35), (97, iV (i : Int)), (96, .bool true), (95, .bool false), (94, .bool false), (93, .bool false), (92, iV vn), (91, iV vn), (90, .bool false), (89, .bool false), (88, iV 0)] [e0 0, e0 1, e0 2, e0 3, e0 4, e1 5 (.bool false), e0 6, e0 7, e0 8, e0 9, e0 10, e0 11, e1 12 (iV ((((descs pp.1.E vn).length : Nat) : Int) - 1)), e1 13 (.bool true)] [] [(.bool (vn != vn), .bool false), (iV (IntKind.wrap .i64 (((((descs pp.1.E vn).length : Nat) : Int)) - 1)), iV ((((descs pp.1.E vn).length : Nat) : Int) - 1)), (.bool ((i : Int) == ((((descs pp.1.E vn).length : Nat) : Int) - 1)), .bool true)] ⟨(ov_nf (by omega)), (ov_i64 (by omega) (by omega) (by omega)), (ov_et (by omega)), trivial⟩ nC ?_
     refine plain_law (i := 14) 102 (.bool false) (by kernel_rfl) (law_neBool (t := 4) (o := opA (RA Try.f7 [1, 1, 1, 1, 1, 1, 1, 1, 0, 1, 0, 0, 1, 0, 0, 1, 0]) 14) (x := (Operand.tmp 96)) (y := (Operand.tmp 101)) true true false (by kernel_rfl) Try.underlying4 (by kernel_rfl) (by kernel_rfl) rfl _) ?_
     refine yB0 [] [15] [(103, .bool false)] (.mk ?_)
     refine yK [(9, pV b10), (11, iV vn), (12, .slice p34 (((descs pp.1.E vn).length)) c35), (14, pV b40), (15, iV (i : Int)), (103, .bool false)] fun lr68 => ?_
     refine yCf ?_
     refine ySk ?_
     refine yPl [0, 1, 2] ?_
     refine yBb [] [(15, iV ((i : Int) + 1)), (77, iV ((i : Int) + 1)), (76, iV (i : Int))] [e0 0, e1 1 (iV ((i : Int) + 1)), e0 2] [] [(iV (IntKind.wrap .i64 ((i : Int) + 1)), iV ((i : Int) + 1))] ⟨(ov_i64 (by omega) (by omega) (by omega)), trivial⟩ nC (.mk ?_)
     change ∃ n', n' < _ ∧ _
     refine ⟨(((descs pp.1.E vn).length) - (i + 1)), by omega, (i + 1), _, rfl, (by omega), (mk_live [(9, pV b10), (11, iV vn), (12, .slice p34 (((descs pp.1.E vn).length)) c35), (14, pV b40), (15, iV ((((i + 1) : Nat) : Int)))] ⟨rfl, rfl, rfl, rfl, (ov_int (by omega)), trivial⟩), h66⟩
    ·
     refine yA ?_
     refine yCl 84 Try.call15 ((by have h_ := tclose_w b10 nn (dropK pp.1 vn i) x60.1 x60.2.1 x60.2.2 (by omega) (by omega); rw [(close_at hI_.W hx61).1, (close_at hI_.W hx61).2.1, (close_at hI_.W hx61).2.2.1, (close_at hI_.W hx61).2.2.2, decide_eq_false (by omega)] at h_; exact h_)) h55 ?_
     rintro v K w69 (⟨rfl, rfl⟩) h70
     refine ⟨_, rfl, ?_⟩
     have h71 := ap1 h70
     refine yB0 [] [6, 7, 8, 9, 10, 11, 12] [(18, iV 0), (17, .bool false), (16, iV vn), (87, iV 0), (86, .bool false), (85, iV vn), (78, .tuple #[iV vn, .bool false, iV 0])] (.mk ?_)
     refine yK [(9, pV b10), (11, iV vn), (12, .slice p34 (((descs pp.1.E vn).length)) c35), (14, pV b40), (15, iV (i : Int)), (16, iV vn), (17, .bool false), (18, iV 0)] fun lr72 => ?_
     refine ySq ?_
     refine yPl [0, 1, 2, 3, 4, 5, 6, 7, 8, 9, 10, 11, 12, 13, 14, 15] ?_
     refine yBb [14, 15] [(101, .bool false), (100, iV ((((descs pp.1.E vn).length : Nat) : Int) - 1)), (99, iV ((((descs pp.1.E vn).length : Nat) : Int))), (98, .slice p34 (((descs pp.1.E vn).length)) c35), (97, iV (i : Int)), (96, .bool false), (95, .bool false), (94, .bool false), (93, .bool false), (92, iV vn), (91, iV vn), (90, .bool false), (89, .bool false), (88, iV 0)] [e0 0, e0 1, e0 2, e0 3, e0 4, e1 5 (.bool false), e0 6, e0 7, e0 8, e0 9, e0 10, e0 11, e1 12 (iV ((((descs pp.1.E vn).length : Nat) : Int) - 1)), e1 13 (.bool false)] [] [(.bool (vn != vn), .bool false), (iV (IntKind.wrap .i64 (((((descs pp.1.E vn).length : Nat) : Int)) - 1)), iV ((((descs pp.1.E vn).length : Nat) : Int) - 1)), (.bool ((i : Int) == ((((descs pp.1.E vn).length : Nat) : Int) - 1)), .bool false)] ⟨(ov_nf (by omega)), (ov_i64 (by omega) (by omega) (by omega)), (ov_ef (by omega)), trivial⟩ nC ?_
     refine plain_law (i := 14) 102 (.bool false) (by kernel_rfl) (law_neBool (t := 4) (o := opA (RA Try.f7 [1, 1, 1, 1, 1, 1, 1, 1, 0, 1, 0, 0, 1, 0, 0, 1, 0]) 14) (x := (Operand.tmp 96)) (y := (Operand.tmp 101)) false false false (by kernel_rfl) Try.underlying4 (by kernel_rfl) (by kernel_rfl) rfl _) ?_
     refine yB0 [] [15] [(103, .bool false)] (.mk ?_)
     refine yK [(9, pV b10), (11, iV vn), (12, .slice p34 (((descs pp.1.E vn).length)) c35), (14, pV b40), (15, iV (i : Int)), (103, .bool false)] fun lr73 => ?_
     refine yCf ?_
     refine ySk ?_
     refine yPl [0, 1, 2] ?_
     refine yBb [] [(15, iV ((i : Int) + 1)), (77, iV ((i : Int) + 1)), (76, iV (i : Int))] [e0 0, e1 1 (iV ((i : Int) + 1)), e0 2] [] [(iV (IntKind.wrap .i64 ((i : Int) + 1)), iV ((i : Int) + 1))] ⟨(ov_i64 (by omega) (by omega) (by omega)), trivial⟩ nC (.mk ?_)
     change ∃ n', n' < _ ∧ _
     refine ⟨(((descs pp.1.E vn).length) - (i + 1)), by omega, (i + 1), _, rfl, (by omega), (mk_live [(9, pV b10), (11, iV vn), (12, .slice p34 (((descs pp.1.E vn).length)) c35), (14, pV b40), (15, iV ((((i + 1) : Nat) : Int)))] ⟨rfl, rfl, rfl, rfl, (ov_int (by omega)), trivial⟩), h71⟩
   ·
    refine yBb [] [(75, .bool false)] [e1 3 (.bool false)] [] [(.bool (decide ((i : Int) < (((descs pp.1.E vn).length : Nat) : Int))), .bool false)] ⟨(ov_f (by omega)), trivial⟩ nC (.mk ?_)
    refine yK [(9, pV b10), (11, iV vn), (12, .slice p34 (((descs pp.1.E vn).length)) c35), (14, pV b40), (15, iV (i : Int)), (75, .bool false)] fun lr74 => ?_
    refine yCf ?_
    refine yEx 0 ?_
    refine ySq ?_
    refine yPl [0, 1, 2, 3, 4, 5, 6, 7] ?_
    refine yB0 [2, 3, 4, 5, 6, 7] [0, 1] [(106, iV vn), (105, pV b40)] ?_
    have h77 := tk5 (sf4 (sf3 (sf3 (sf4 (sf4 h55)))))
    refine yA ?_
    refine yCl 107 Try.call31 ((by have h_ := texp_w b40 nn pp.1 vn; rw [nE_ok2 (show 1 ≤ vn ∧ vn ≤ (pp.1.R.length : Int) from by omega)] at h_; exact h_)) h77 ?_
    rintro v K w78 (⟨p75, c76, rfl, rfl⟩) h79
    refine ⟨_, rfl, ?_⟩
    have h80 := ap2 h79
    refine yB0 [] [3, 4, 5, 6, 7] [(20, iV 0), (19, .slice p75 (((descs pp.1.E vn).length)) c76), (109, iV 0), (108, .slice p75 (((descs pp.1.E vn).length)) c76), (104, .tuple #[.slice p75 (((descs pp.1.E vn).length)) c76, iV 0])] (.mk ?_)
    refine yK [(9, pV b10), (11, iV vn), (12, .slice p34 (((descs pp.1.E vn).length)) c35), (14, pV b40), (19, .slice p75 (((descs pp.1.E vn).length)) c76), (20, iV 0)] fun lr81 => ?_
    refine ySq ?_
    refine yPl [0, 1, 2, 3, 4, 5, 6, 7] ?_
    refine yB0 [2, 3, 4, 5, 6, 7] [0, 1] [(112, iV vn), (111, pV b40)] ?_
    have hz84 := exp_descs hI_.W vn
    refine yA ?_
    refine yCl 113 Try.call31 ((by have h_ := texp_w b40 nn (expS pp.1 vn) vn; rw [exp_exp hI_.W, nE_exp, nE_ok2 (show 1 ≤ vn ∧ vn ≤ (pp.1.R.length : Int) from by omega)] at h_; exact h_)) h80 ?_
    rintro v K w85 (⟨p82, c83, rfl, rfl⟩) h86
    refine ⟨_, rfl, ?_⟩
    have h87 := ap2 h86
    refine yB0 [] [3, 4, 5, 6, 7] [(22, iV 0), (21, .slice p82 (((descs (expS pp.1 vn).E vn).length)) c83), (115, iV 0), (114, .slice p82 (((descs (expS pp.1 vn).E vn).length)) c83), (110, .tuple #[.slice p82 (((descs (expS pp.1 vn).E vn).length)) c83, iV 0])] (.mk ?_)
    refine yK [(9, pV b10), (12, .slice p34 (((descs pp.1.E vn).length)) c35), (14, pV b40), (19, .slice p75 (((descs pp.1.E vn).length)) c76), (20, iV 0), (21, .slice p82 (((descs (expS pp.1 vn).E vn).length)) c83), (22, iV 0)] fun lr88 => ?_
    refine ySq ?_
    refine ySq ?_
    refine yPl [0, 1, 2, 3, 4, 5, 6, 7, 8, 9, 10, 11, 12, 13, 14, 15, 16, 17] ?_
    refine yBb [] [(133, .bool false), (132, .bool false), (131, iV ((((descs pp.1.E vn).length : Nat) : Int))), (130, .slice p34 (((descs pp.1.E vn).length)) c35), (129, iV ((((descs pp.1.E vn).length : Nat) : Int))), (128, .slice p75 (((descs pp.1.E vn).length)) c76), (127, .bool false), (126, .bool false), (125, .bool false), (124, iV ((((descs (expS pp.1 vn).E vn).length : Nat) : Int))), (123, .slice p82 (((descs (expS pp.1 vn).E vn).length)) c83), (122, .bool false), (121, .bool false), (120, .bool false), (119, iV 0), (118, .bool false), (117, .bool false), (116, iV 0)] [e0 0, e0 1, e0 2, e0 3, e0 4, e0 5, e0 6, e0 7, e0 8, e1 9 (.bool false), e0 10, e0 11, e0 12, e0 13, e0 14, e0 15, e1 16 (.bool false), e0 17] [] [(.bool (((((descs (expS pp.1 vn).E vn).length : Nat) : Int)) != 0), .bool false), (.bool (((((descs pp.1.E vn).length : Nat) : Int)) != ((((descs pp.1.E vn).length : Nat) : Int))), .bool false)] ⟨(ov_nf (by omega)), (ov_nf (by omega)), trivial⟩ nC (.mk ?_)
    refine yK [(9, pV b10), (12, .slice p34 (((descs pp.1.E vn).length)) c35), (14, pV b40), (19, .slice p75 (((descs pp.1.E vn).length)) c76), (133, .bool false)] fun lr89 => ?_
    refine yCf ?_
    refine ySk ?_
    refine ySq ?_
    refine ySq ?_
    refine yPl [0] ?_
    refine yB0 [] [0] [(23, iV 0)] (.mk ?_)
    refine yK [(9, pV b10), (12, .slice p34 (((descs pp.1.E vn).length)) c35), (14, pV b40), (19, .slice p75 (((descs pp.1.E vn).length)) c76), (23, iV 0)] fun lr90 => ?_
    refine yBk 2 ?_
    have h91 := tk7 (sf6 (sf5 (sf5 (sf5 (sf6 (sf6 (sf6 h87)))))))
    have h92 : sat g w85 [TW b10 nn (expS pp.1 vn), TW b40 nn (expS pp.1 vn), Sl 28 3 p82 (((descs (expS pp.1 vn).E vn).length)) c83 (fl eO (descs (expS pp.1 vn).E vn)), Sl 28 3 p75 (((descs pp.1.E vn).length)) c76 (fl eO (descs pp.1.E vn)), Sl 28 3 p34 (((descs pp.1.E vn).length)) c35 (fl eO (descs pp.1.E vn)), Old wo, R] := (show (dropK pp.1 vn i) = (expS pp.1 vn) from dropK_all pp.1 vn (by omega)) ▸ h91
    have h93 := tk7 (sf6 (sf6 (sf5 (sf3 (sf6 (sf6 (sf2 h92)))))))
    have h94 := tk6 h93
    refine gi_lp (x := CA Try.f7 [1, 1, 1, 1, 1, 1, 1, 1, 1, 1, 1, 1, 0, 1, 0, 0]) (by kernel_rfl) (fun mz_ a w => ∃ j : Nat, ∃ lr : Fr, mz_ = ((descs pp.1.E vn).length) - j ∧ (j ≤ ((descs pp.1.E vn).length)) ∧ a = mk 187 (([(9, pV b10), (12, .slice p34 (((descs pp.1.E vn).length)) c35), (14, pV b40), (19, .slice p75 (((descs pp.1.E vn).length)) c76), (23, iV (j : Int))] : Fr) ++ lr) ∧ sat g w [TW b40 nn (expS pp.1 vn), Sl 28 3 p34 (((descs pp.1.E vn).length)) c35 (fl eO (descs pp.1.E vn)), Sl 28 3 p75 (((descs pp.1.E vn).length)) c76 (fl eO (descs pp.1.E vn)), TW b10 nn (expS pp.1 vn), Old wo, R]) (((descs pp.1.E vn).length) - 0) ⟨0, _, rfl, (Nat.zero_le _), (mk_live [(9, pV b10), (12, .slice p34 (((descs pp.1.E vn).length)) c35), (14, pV b40), (19, .slice p75 (((descs pp.1.E vn).length)) c76), (23, iV (0 : Int))] ⟨rfl, rfl, rfl, rfl, (ov_int (by omega)), trivial⟩), h94⟩ ?_
    rintro m96 a97 w98 ⟨j, lr95, rfl, hi_j, rfl, h99⟩
    refine ySq ?_
    refine ySq ?_
    refine yPl [0, 1, 2, 3] ?_
    refine yB0 [3] [0, 1, 2] [(136, iV ((((descs pp.1.E vn).length : Nat) : Int))), (135, .slice p34 (((descs pp.1.E vn).length)) c35), (134, iV (j : Int))] ?_
    by_cases c100 : (j : Int) < (((descs pp.1.E vn).length : Nat) : Int)
    ·
     refine yBb [] [(137, .bool true)] [e1 3 (.bool true)] [] [(.bool (decide ((j : Int) < (((descs pp.1.E vn).length : Nat) : Int))), .bool true)] ⟨(ov_t (by omega)), trivial⟩ nC (.mk ?_)
     refine yK [(9, pV b10), (12, .slice p34 (((descs pp.1.E vn).length)) c35), (14, pV b40), (19, .slice p75 (((descs pp.1.E vn).length)) c76), (23, iV (j : Int)), (137, .bool true)] fun lr101 => ?_
     refine yCt ?_
     refine ySk ?_
     refine ySq ?_
     refine yBk 3 ?_
     refine ySq ?_
     refine yPl [0, 1, 2, 3, 4, 5, 6, 7, 8, 9, 10] ?_
     obtain ⟨b102, hp103⟩ := sl_ptr0 (j := 1) h99 rfl (by omega)
     refine yB0 [3, 4, 5, 6, 7, 8, 9, 10] [0, 1, 2] [(143, iV (j : Int)), (142, .slice p34 (((descs pp.1.E vn).length)) c35), (141, pV b40)] ?_
     refine plain_law (i := 3) 144 (.pointer (some ⟨b102, j * 3, none⟩)) (by kernel_rfl) (law_indexSlP (o := opA (RA Try.f7 [1, 1, 1, 1, 1, 1, 1, 1, 1, 1, 1, 1, 0, 1, 0, 0, 1, 0, 0, 0]) 3) (x := (Operand.tmp 142)) (i := (Operand.tmp 143)) (p := p34) (b := b102) (off := 0) (z := (j : Int)) (len := (((descs pp.1.E vn).length))) (cap := c35) (by kernel_rfl) Try.underlying45 3 (by kernel_rfl) j (by kernel_rfl) hp103 (by kernel_rfl) (by omega) (by omega) (j * 3) (by omega) _) ?_
     obtain ⟨x104, hx105⟩ : ∃ x, (descs pp.1.E vn)[j]? = some x := ⟨_, List.getElem?_eq_getElem (by rw [hl48]; omega)⟩
     have hb106 := desc_ok1 hI_.W (List.mem_of_getElem? hx105)
     refine yBb [5, 6, 7, 8, 9, 10] [(145, .agg #[iV x104.1, iV x104.2.1, uV x104.2.2])] [e2 4 [iV x104.1, iV x104.2.1, uV x104.2.2]] [(4, ⟨b102, j * 3, none⟩, iV x104.1), (4, ⟨b102, j * 3 + 1, none⟩, iV x104.2.1), (4, ⟨b102, j * 3 + 2, none⟩, uV x104.2.2)] [] trivial (kC (gv_cell (j := 1) h99 rfl (gv_sl _ _ _) hp103 (fl_get eO_ok (j := 0) (v := iV x104.1) hx105 rfl) (j * 3) (by omega)) (kC (gv_cell (j := 1) h99 rfl (gv_sl _ _ _) hp103 (fl_get eO_ok (j := 1) (v := iV x104.2.1) hx105 rfl) (j * 3 + 1) (by omega)) (kC (gv_cell (j := 1) h99 rfl (gv_sl _ _ _) hp103 (fl_get eO_ok (j := 2) (v := uV x104.2.2) hx105 rfl) (j * 3 + 2) (by omega)) nC))) ?_
     refine yA ?_
     refine yCl 146 Try.call25 ((by have h_ := tnum_w b40 nn (expS pp.1 vn) x104.1 x104.2.1 x104.2.2 (by omega) (by omega); rw [(exp_stale hI_.W (List.mem_of_getElem? hx105)).1, (exp_stale hI_.W (List.mem_of_getElem? hx105)).2] at h_; exact h_)) h99 ?_
     rintro v K w107 (⟨rfl, rfl⟩) h108
     refine ⟨_, rfl, ?_⟩
     have h109 := ap1 h108
     refine yB0 [] [6, 7, 8, 9, 10] [(25, iV 7), (24, iV 0), (148, iV 7), (147, iV 0), (140, .tuple #[iV 0, iV 7])] (.mk ?_)
     refine yK [(9, pV b10), (12, .slice p34 (((descs pp.1.E vn).length)) c35), (14, pV b40), (19, .slice p75 (((descs pp.1.E vn).length)) c76), (23, iV (j : Int)), (25, iV 7)] fun lr110 => ?_
     refine ySq ?_
     refine gi_drw (id := 25) (ops := RA Try.f7 [1, 1, 1, 1, 1, 1, 1, 1, 1, 1, 1, 1, 0, 1, 0, 0, 1, 0, 0, 1, 0]) (Tr.fl 0 (Tr.fl 1 (Tr.fl 2 (Tr.fl 3 (Tr.fl 4 (Tr.fl 5 (Tr.fl 6 (Tr.fl 7 (Tr.fl 8 (Tr.fl 9 (Tr.fl 10 (Tr.fl 11 (Tr.fl 12 Tr.nil))))))))))))) (by kernel_rfl) (by kernel_rfl) (by kernel_rfl) (by kernel_rfl) (by kernel_rfl) (fun _ _ d _ _ h => by cases d <;> exact h) h109 ?_
     intro w111 h112
     obtain ⟨b113, hp114⟩ := sl_ptr0 (j := 2) h112 rfl (by omega)
     refine yD _ [(150, iV (j : Int)), (149, .slice p75 (((descs pp.1.E vn).length)) c76)] [e0 0, e0 1] [] [] trivial nC ?_
     refine draw_law (i := 2) 151 (.pointer (some ⟨b113, j * 3, none⟩)) [] (by kernel_rfl) (fun _ _ => law_indexSlP (o := opA (RA Try.f7 [1, 1, 1, 1, 1, 1, 1, 1, 1, 1, 1, 1, 0, 1, 0, 0, 1, 0, 0, 1, 0]) 2) (x := (Operand.tmp 149)) (i := (Operand.tmp 150)) (p := p75) (b := b113) (off := 0) (z := (j : Int)) (len := (((descs pp.1.E vn).length))) (cap := c76) (by kernel_rfl) Try.underlying45 3 (by kernel_rfl) j (by kernel_rfl) hp114 (by kernel_rfl) (by omega) (by omega) (j * 3) (by omega) _) (by intro q hq; cases hq) ?_
     have h115 := tk6 (sf5 (sf4 (sf4 (sf5 (sf5 (sf5 h112))))))
     have hl116 := fl_n eO_ok (by decide) h115
     refine yD _ [(154, iV (j : Int)), (153, .slice p34 (((descs pp.1.E vn).length)) c35), (152, .agg #[iV x104.1, iV x104.2.1, uV x104.2.2])] [e2 3 [iV x104.1, iV x104.2.1, uV x104.2.2], e0 4, e0 5] [(3, ⟨b113, j * 3, none⟩, iV x104.1), (3, ⟨b113, j * 3 + 1, none⟩, iV x104.2.1), (3, ⟨b113, j * 3 + 2, none⟩, uV x104.2.2)] [] trivial (kC (gv_cell (j := 0) h115 rfl (gv_sl _ _ _) hp114 (fl_get eO_ok (j := 0) (v := iV x104.1) hx105 rfl) (j * 3) (by omega)) (kC (gv_cell (j := 0) h115 rfl (gv_sl _ _ _) hp114 (fl_get eO_ok (j := 1) (v := iV x104.2.1) hx105 rfl) (j * 3 + 1) (by omega)) (kC (gv_cell (j := 0) h115 rfl (gv_sl _ _ _) hp114 (fl_get eO_ok (j := 2) (v := uV x104.2.2) hx105 rfl) (j * 3 + 2) (by omega)) nC))) ?_
     refine draw_law (i := 6) 155 (.pointer (some ⟨b102, j * 3, none⟩)) [] (by kernel_rfl) (fun _ _ => law_indexSlP (o := opA (RA Try.f7 [1, 1, 1, 1, 1, 1, 1, 1, 1, 1, 1, 1, 0, 1, 0, 0, 1, 0, 0, 1, 0]) 6) (x := (Operand.tmp 153)) (i := (Operand.tmp 154)) (p := p34) (b := b102) (off := 0) (z := (j : Int)) (len := (((descs pp.1.E vn).length))) (cap := c35) (by kernel_rfl) Try.underlying45 3 (by kernel_rfl) j (by kernel_rfl) hp103 (by kernel_rfl) (by omega) (by omega) (j * 3) (by omega) _) (by intro q hq; cases hq) ?_
     refine yD _ [(156, .agg #[iV x104.1, iV x104.2.1, uV x104.2.2])] [e2 7 [iV x104.1, iV x104.2.1, uV x104.2.2]] [(7, ⟨b102, j * 3, none⟩, iV x104.1), (7, ⟨b102, j * 3 + 1, none⟩, iV x104.2.1), (7, ⟨b102, j * 3 + 2, none⟩, uV x104.2.2)] [] trivial (kC (gv_cell (j := 2) h115 rfl (gv_sl _ _ _) hp103 (fl_get eO_ok (j := 0) (v := iV x104.1) hx105 rfl) (j * 3) (by omega)) (kC (gv_cell (j := 2) h115 rfl (gv_sl _ _ _) hp103 (fl_get eO_ok (j := 1) (v := iV x104.2.1) hx105 rfl) (j * 3 + 1) (by omega)) (kC (gv_cell (j := 2) h115 rfl (gv_sl _ _ _) hp103 (fl_get eO_ok (j := 2) (v := uV x104.2.2) hx105 rfl) (j * 3 + 2) (by omega)) nC))) ?_
     refine draw_law (i := 8) 157 (.bool false) [] (by kernel_rfl) (fun _ _ => q28e28_neq_t (o := opA (RA Try.f7 [1, 1, 1, 1, 1, 1, 1, 1, 1, 1, 1, 1, 0, 1, 0, 0, 1, 0, 0, 1, 0]) 8) (x := (Operand.tmp 152)) (y := (Operand.tmp 156)) x104.1 x104.2.1 x104.2.2 x104.1 x104.2.1 x104.2.2 (by kernel_rfl) (by kernel_rfl) (by kernel_rfl) ⟨rfl, rfl, rfl⟩ _) (by intro q hq; cases hq) ?_
     refine yD _ [(161, .bool false), (160, .bool false), (159, iV 7), (158, .bool false)] [e0 9, e0 10, e0 11, e0 12] [] [] trivial nC ?_
     refine yK [(9, pV b10), (12, .slice p34 (((descs pp.1.E vn).length)) c35), (14, pV b40), (19, .slice p75 (((descs pp.1.E vn).length)) c76), (23, iV (j : Int)), (161, .bool false)] fun lr117 => ?_
     refine yCf ?_
     refine ySk ?_
     refine yPl [0, 1, 2] ?_
     refine yBb [] [(23, iV ((j : Int) + 1)), (139, iV ((j : Int) + 1)), (138, iV (j : Int))] [e0 0, e1 1 (iV ((j : Int) + 1)), e0 2] [] [(iV (IntKind.wrap .i64 ((j : Int) + 1)), iV ((j : Int) + 1))] ⟨(ov_i64 (by omega) (by omega) (by omega)), trivial⟩ nC (.mk ?_)
     have h118 := tk6 (sf5 (sf5 (sf3 (sf5 (sf5 (sf5 h115))))))
     change ∃ n', n' < _ ∧ _
     refine ⟨(((descs pp.1.E vn).length) - (j + 1)), by omega, (j + 1), _, rfl, (by omega), (mk_live [(9, pV b10), (12, .slice p34 (((descs pp.1.E vn).length)) c35), (14, pV b40), (19, .slice p75 (((descs pp.1.E vn).length)) c76), (23, iV ((((j + 1) : Nat) : Int)))] ⟨rfl, rfl, rfl, rfl, (ov_int (by omega)), trivial⟩), h118⟩
    ·
     refine yBb [] [(137, .bool false)] [e1 3 (.bool false)] [] [(.bool (decide ((j : Int) < (((descs pp.1.E vn).length : Nat) : Int))), .bool false)] ⟨(ov_f (by omega)), trivial⟩ nC (.mk ?_)
     refine yK [(9, pV b10), (12, .slice p34 (((descs pp.1.E vn).length)) c35), (14, pV b40), (19, .slice p75 (((descs pp.1.E vn).length)) c76), (23, iV (j : Int)), (137, .bool false)] fun lr119 => ?_
     refine yCf ?_
     refine yEx 2 ?_
     refine ySq ?_
     refine yPl [0, 1, 2, 3, 4, 5] ?_
     refine yB0 [1, 2, 3, 4, 5] [0] [(162, pV b10)] ?_
     have hll122 := live_len (expS pp.1 vn).E
     have h123 := tk6 (sf5 (sf4 (sf4 (sf4 (sf5 (sf5 h99))))))
     refine yA ?_
     refine yCl 163 Try.call24 (live_w b10 nn (expS pp.1 vn)) h123 ?_
     rintro v K w124 (⟨p120, c121, rfl, rfl⟩) h125
     refine ⟨_, rfl, ?_⟩
     have h126 := ap2 h125
     refine yB0 [3, 4, 5] [2] [(164, pV b40)] ?_
     have hll129 := live_len (expS pp.1 vn).E
     have h130 := tk7 (sf6 (sf5 (sf5 (sf6 (sf6 (sf6 (sf6 h126)))))))
     refine yA ?_
     refine yCl 165 Try.call24 (live_w b40 nn (expS pp.1 vn)) h130 ?_
     rintro v K w131 (⟨p127, c128, rfl, rfl⟩) h132
     refine ⟨_, rfl, ?_⟩
     have h133 := ap2 h132
     refine yB0 [] [4, 5] [(27, .slice p127 (((liveL (expS pp.1 vn).E).length)) c128), (26, .slice p120 (((liveL (expS pp.1 vn).E).length)) c121)] (.mk ?_)
     refine yK [(26, .slice p120 (((liveL (expS pp.1 vn).E).length)) c121), (27, .slice p127 (((liveL (expS pp.1 vn).E).length)) c128)] fun lr134 => ?_
     refine ySq ?_
     refine ySq ?_
     refine yPl [0, 1, 2, 3, 4] ?_
     refine yBb [] [(170, .bool false), (169, iV ((((liveL (expS pp.1 vn).E).length : Nat) : Int))), (168, .slice p127 (((liveL (expS pp.1 vn).E).length)) c128), (167, iV ((((liveL (expS pp.1 vn).E).length : Nat) : Int))), (166, .slice p120 (((liveL (expS pp.1 vn).E).length)) c121)] [e0 0, e0 1, e0 2, e0 3, e1 4 (.bool false)] [] [(.bool (((((liveL (expS pp.1 vn).E).length : Nat) : Int)) != ((((liveL (expS pp.1 vn).E).length : Nat) : Int))), .bool false)] ⟨(ov_nf (by omega)), trivial⟩ nC (.mk ?_)
     refine yK [(26, .slice p120 (((liveL (expS pp.1 vn).E).length)) c121), (27, .slice p127 (((liveL (expS pp.1 vn).E).length)) c128), (170, .bool false)] fun lr135 => ?_
     refine yCf ?_
     refine ySk ?_
     refine ySq ?_
     refine ySq ?_
     refine yPl [0] ?_
     refine yB0 [] [0] [(28, iV 0)] (.mk ?_)
     refine yK [(26, .slice p120 (((liveL (expS pp.1 vn).E).length)) c121), (27, .slice p127 (((liveL (expS pp.1 vn).E).length)) c128), (28, iV 0)] fun lr136 => ?_
     refine yBk 4 ?_
     have h137 := tk8 (sf7 (sf6 (sf6 (sf6 (sf7 (sf7 (sf7 (sf7 h133))))))))
     have hl138 := fl_n eO_ok (by decide) h137
     have h139 := tk8 (sf7 (sf6 (sf6 (sf7 (sf7 (sf7 (sf7 (sf7 h137))))))))
     have hl140 := fl_n eO_ok (by decide) h139
     have h141 := tk8 (sf7 (sf6 (sf7 (sf7 (sf5 (sf5 (sf5 (sf5 h139))))))))
     have h142 := tk4 h141
     refine gi_lp (x := CA Try.f7 [1, 1, 1, 1, 1, 1, 1, 1, 1, 1, 1, 1, 1, 1, 1, 0, 1, 0, 0]) (by kernel_rfl) (fun mz_ a w => ∃ k : Nat, ∃ lr : Fr, mz_ = ((liveL (expS pp.1 vn).E).length) - k ∧ (k ≤ ((liveL (expS pp.1 vn).E).length)) ∧ a = mk 187 (([(26, .slice p120 (((liveL (expS pp.1 vn).E).length)) c121), (27, .slice p127 (((liveL (expS pp.1 vn).E).length)) c128), (28, iV (k : Int))] : Fr) ++ lr) ∧ sat g w [Sl 28 3 p120 (((liveL (expS pp.1 vn).E).length)) c121 (fl eO (liveL (expS pp.1 vn).E)), Sl 28 3 p127 (((liveL (expS pp.1 vn).E).length)) c128 (fl eO (liveL (expS pp.1 vn).E)), Old wo, R]) (((liveL (expS pp.1 vn).E).length) - 0) ⟨0, _, rfl, (Nat.zero_le _), (mk_live [(26, .slice p120 (((liveL (expS pp.1 vn).E).length)) c121), (27, .slice p127 (((liveL (expS pp.1 vn).E).length)) c128), (28, iV (0 : Int))] ⟨rfl, rfl, (ov_int (by omega)), trivial⟩), h142⟩ ?_
     rintro m144 a145 w146 ⟨k, lr143, rfl, hi_k, rfl, h147⟩
     refine ySq ?_
     refine ySq ?_
     refine yPl [0, 1, 2, 3] ?_
     refine yB0 [3] [0, 1, 2] [(173, iV ((((liveL (expS pp.1 vn).E).length : Nat) : Int))), (172, .slice p120 (((liveL (expS pp.1 vn).E).length)) c121), (171, iV (k : Int))] ?_
     by_cases c148 : (k : Int) < (((liveL (expS pp.1 vn).E).length : Nat) : Int)
     ·
      refine yBb [] [(174, .bool true)] [e1 3 (.bool true)] [] [(.bool (decide ((k : Int) < (((liveL (expS pp.1 vn).E).length : Nat) : Int))), .bool true)] ⟨(ov_t (by omega)), trivial⟩ nC (.mk ?_)
      refine yK [(26, .slice p120 (((liveL (expS pp.1 vn).E).length)) c121), (27, .slice p127 (((liveL (expS pp.1 vn).E).length)) c128), (28, iV (k : Int)), (174, .bool true)] fun lr149 => ?_
      refine yCt ?_
      refine ySk ?_
      refine ySq ?_
      refine yBk 5 ?_
      refine ySq ?_
      refine gi_drw (id := 33) (ops := RA Try.f7 [1, 1, 1, 1, 1, 1, 1, 1, 1, 1, 1, 1, 1, 1, 1, 0, 1, 0, 0, 1, 0, 0, 0]) (Tr.fl 0 (Tr.fl 1 (Tr.fl 2 (Tr.fl 3 (Tr.fl 4 (Tr.fl 5 (Tr.fl 6 (Tr.fl 7 (Tr.fl 8 Tr.nil))))))))) (by kernel_rfl) (by kernel_rfl) (by kernel_rfl) (by kernel_rfl) (by kernel_rfl) (fun _ _ d _ _ h => by cases d <;> exact h) h147 ?_
      intro w150 h151
      obtain ⟨b152, hp153⟩ := sl_ptr0 (j := 0) h151 rfl (by omega)
      refine yD _ [(178, iV (k : Int)), (177, .slice p120 (((liveL (expS pp.1 vn).E).length)) c121)] [e0 0, e0 1] [] [] trivial nC ?_
      refine draw_law (i := 2) 179 (.pointer (some ⟨b152, k * 3, none⟩)) [] (by kernel_rfl) (fun _ _ => law_indexSlP (o := opA (RA Try.f7 [1, 1, 1, 1, 1, 1, 1, 1, 1, 1, 1, 1, 1, 1, 1, 0, 1, 0, 0, 1, 0, 0, 0]) 2) (x := (Operand.tmp 177)) (i := (Operand.tmp 178)) (p := p120) (b := b152) (off := 0) (z := (k : Int)) (len := (((liveL (expS pp.1 vn).E).length))) (cap := c121) (by kernel_rfl) Try.underlying45 3 (by kernel_rfl) k (by kernel_rfl) hp153 (by kernel_rfl) (by omega) (by omega) (k * 3) (by omega) _) (by intro q hq; cases hq) ?_
      obtain ⟨x154, hx155⟩ : ∃ x, (liveL (expS pp.1 vn).E)[k]? = some x := ⟨_, List.getElem?_eq_getElem (by rw [hl138]; omega)⟩
      obtain ⟨b156, hp157⟩ := sl_ptr0 (j := 1) h151 rfl (by omega)
      refine yD _ [(182, iV (k : Int)), (181, .slice p127 (((liveL (expS pp.1 vn).E).length)) c128), (180, .agg #[iV x154.1, iV x154.2.1, uV x154.2.2])] [e2 3 [iV x154.1, iV x154.2.1, uV x154.2.2], e0 4, e0 5] [(3, ⟨b152, k * 3, none⟩, iV x154.1), (3, ⟨b152, k * 3 + 1, none⟩, iV x154.2.1), (3, ⟨b152, k * 3 + 2, none⟩, uV x154.2.2)] [] trivial (kC (gv_cell (j := 0) h151 rfl (gv_sl _ _ _) hp153 (fl_get eO_ok (j := 0) (v := iV x154.1) hx155 rfl) (k * 3) (by omega)) (kC (gv_cell (j := 0) h151 rfl (gv_sl _ _ _) hp153 (fl_get eO_ok (j := 1) (v := iV x154.2.1) hx155 rfl) (k * 3 + 1) (by omega)) (kC (gv_cell (j := 0) h151 rfl (gv_sl _ _ _) hp153 (fl_get eO_ok (j := 2) (v := uV x154.2.2) hx155 rfl) (k * 3 + 2) (by omega)) nC))) ?_
      refine draw_law (i := 6) 183 (.pointer (some ⟨b156, k * 3, none⟩)) [] (by kernel_rfl) (fun _ _ => law_indexSlP (o := opA (RA Try.f7 [1, 1, 1, 1, 1, 1, 1, 1, 1, 1, 1, 1, 1, 1, 1, 0, 1, 0, 0, 1, 0, 0, 0]) 6) (x := (Operand.tmp 181)) (i := (Operand.tmp 182)) (p := p127) (b := b156) (off := 0) (z := (k : Int)) (len := (((liveL (expS pp.1 vn).E).length))) (cap := c128) (by kernel_rfl) Try.underlying45 3 (by kernel_rfl) k (by kernel_rfl) hp157 (by kernel_rfl) (by omega) (by omega) (k * 3) (by omega) _) (by intro q hq; cases hq) ?_
      refine yD _ [(184, .agg #[iV x154.1, iV x154.2.1, uV x154.2.2])] [e2 7 [iV x154.1, iV x154.2.1, uV x154.2.2]] [(7, ⟨b156, k * 3, none⟩, iV x154.1), (7, ⟨b156, k * 3 + 1, none⟩, iV x154.2.1), (7, ⟨b156, k * 3 + 2, none⟩, uV x154.2.2)] [] trivial (kC (gv_cell (j := 1) h151 rfl (gv_sl _ _ _) hp157 (fl_get eO_ok (j := 0) (v := iV x154.1) hx155 rfl) (k * 3) (by omega)) (kC (gv_cell (j := 1) h151 rfl (gv_sl _ _ _) hp157 (fl_get eO_ok (j := 1) (v := iV x154.2.1) hx155 rfl) (k * 3 + 1) (by omega)) (kC (gv_cell (j := 1) h151 rfl (gv_sl _ _ _) hp157 (fl_get eO_ok (j := 2) (v := uV x154.2.2) hx155 rfl) (k * 3 + 2) (by omega)) nC))) ?_
      refine draw_law (i := 8) 185 (.bool false) [] (by kernel_rfl) (fun _ _ => q28e28_neq_t (o := opA (RA Try.f7 [1, 1, 1, 1, 1, 1, 1, 1, 1, 1, 1, 1, 1, 1, 1, 0, 1, 0, 0, 1, 0, 0, 0]) 8) (x := (Operand.tmp 180)) (y := (Operand.tmp 184)) x154.1 x154.2.1 x154.2.2 x154.1 x154.2.1 x154.2.2 (by kernel_rfl) (by kernel_rfl) (by kernel_rfl) ⟨rfl, rfl, rfl⟩ _) (by intro q hq; cases hq) ?_
      refine yK [(26, .slice p120 (((liveL (expS pp.1 vn).E).length)) c121), (27, .slice p127 (((liveL (expS pp.1 vn).E).length)) c128), (28, iV (k : Int)), (185, .bool false)] fun lr158 => ?_
      refine yCf ?_
      refine ySk ?_
      refine yPl [0, 1, 2] ?_
      refine yBb [] [(28, iV ((k : Int) + 1)), (176, iV ((k : Int) + 1)), (175, iV (k : Int))] [e0 0, e1 1 (iV ((k : Int) + 1)), e0 2] [] [(iV (IntKind.wrap .i64 ((k : Int) + 1)), iV ((k : Int) + 1))] ⟨(ov_i64 (by omega) (by omega) (by omega)), trivial⟩ nC (.mk ?_)
      change ∃ n', n' < _ ∧ _
      refine ⟨(((liveL (expS pp.1 vn).E).length) - (k + 1)), by omega, (k + 1), _, rfl, (by omega), (mk_live [(26, .slice p120 (((liveL (expS pp.1 vn).E).length)) c121), (27, .slice p127 (((liveL (expS pp.1 vn).E).length)) c128), (28, iV ((((k + 1) : Nat) : Int)))] ⟨rfl, rfl, (ov_int (by omega)), trivial⟩), h151⟩
     ·
      refine yBb [] [(174, .bool false)] [e1 3 (.bool false)] [] [(.bool (decide ((k : Int) < (((liveL (expS pp.1 vn).E).length : Nat) : Int))), .bool false)] ⟨(ov_f (by omega)), trivial⟩ nC (.mk ?_)
      refine yK [(26, .slice p120 (((liveL (expS pp.1 vn).E).length)) c121), (27, .slice p127 (((liveL (expS pp.1 vn).E).length)) c128), (28, iV (k : Int)), (174, .bool false)] fun lr159 => ?_
      refine yCf ?_
      refine yEx 4 ?_
      refine ySq ?_
      refine yPl [0, 1] ?_
      refine yA ?_
      refine yCl 186 Try.call18 (works_ht) h147 ?_
      rintro v K w160 (⟨rfl, rfl⟩) h161
      refine ⟨_, rfl, ?_⟩
      have h162 := ap0 h161
      refine yB0 [] [1] [(8, .bool true)] (.mk ?_)
      refine yK [(8, .bool true)] fun lr163 => ?_
      refine yRt ?_
      repeat (first | simp only [Exit.inBlock] | simp only [Exit.then])
      have h164 := tk4 (sf3 (sf2 (sf2 (sf3 h162))))
      have h165 := tk2 (sf1 (sf3 h164))
      refine hi_out [] (.bool true) [] (by kernel_rfl) (by intro q hq; cases hq) ?_
      exact ⟨.bool true, [Old wo], rfl, ⟨rfl, rfl⟩, h165⟩

end Go.Proofs.Ytjjpmehiolejgaa
