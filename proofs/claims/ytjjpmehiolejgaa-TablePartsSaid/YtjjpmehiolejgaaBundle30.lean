/- Walks, printed by my generator gen24.py. -/
import Derived.Test.YtjjpmehiolejgaaBundle28
import Derived.Test.YtjjpmehiolejgaaMod
import Derived.Test.YtjjpmehiolejgaaBundle24
namespace Go.Proofs.Ytjjpmehiolejgaa
theorem tnew_made (sz bl : Int) (hsz : 0 ≤ sz ∧ sz ≤ 255) (hbl : 0 ≤ bl ∧ bl ≤ 255) (nn : Nat) (hnn : (nn : Int) = sz % 12 + 1) (gg : Int) (hgg : gg = 4294967295 - bl % 6) : HT Try.prog 11 [Value.int IntKind.i64 ((sz % 12) + 1), Value.int IntKind.u32 (-(bl % 6) + 4294967295)] [] (fun v K => ∃ b : Nat, v = Value.tuple #[Value.pointer (some ⟨b, 0, none⟩), Value.int IntKind.i64 0] ∧ K = [TW b nn ⟨List.replicate nn (0, gg), [], []⟩]) := by
  have h_ := tnew_w nn gg (by omega) (by omega)
  rw [show ((nn : Nat) : Int) = (sz % 12) + 1 from by omega] at h_
  have hg_ : gg = -(bl % 6) + 4294967295 := by omega
  have h2_ : ∀ q : Int, gg = q → HT Try.prog 11 [Value.int IntKind.i64 ((sz % 12) + 1), Value.int .u32 q] [] (fun v K => ∃ b : Nat, v = Value.tuple #[Value.pointer (some ⟨b, 0, none⟩), Value.int IntKind.i64 0] ∧ K = [TW b nn ⟨List.replicate nn (0, gg), [], []⟩]) := fun q hq => by
    subst hq
    exact h_
  exact h2_ _ hg_
set_option maxHeartbeats 4000000 in
theorem made_w (wo : World) (sz bl : Int) (hsz : 0 ≤ sz ∧ sz ≤ 255) (hbl : 0 ≤ bl ∧ bl ≤ 255) (nn : Nat) (hnn : (nn : Int) = sz % 12 + 1) (gg : Int) (hgg : gg = 4294967295 - bl % 6) (p0 : Option Addr) (n cp : Nat) (T : List Mv) (hr : Rd wo p0 n (fl eMv T)) (hT : T.length = n) (hO : ∀ m ∈ T, MvOk m) (hn : n ≤ 120) : HT Try.prog 19 [Value.int IntKind.u8 sz, Value.int IntKind.u8 bl, Value.slice p0 n cp] [Old wo] (fun v K => ∃ (b : Nat) (p : Option Addr) (c : Nat), v = Value.tuple #[Value.pointer (some ⟨b, 0, none⟩), Value.slice p (((madeK nn gg T n).2.length)) c] ∧ K = [TW b nn ((madeK nn gg T n).1), Sl 28 3 p (((madeK nn gg T n).2.length)) c (fl eO ((madeK nn gg T n).2)), Old wo]) := by
 refine hi_in 167 ([(0, yV sz), (1, yV bl), (2, .slice p0 n cp)] : Fr) Try.func19 (by kernel_rfl) Try.ntmps19 rfl rfl ?_
 intro g w0 R h0
 refine ySq ?_
 refine yPl [0, 1] ?_
 refine yB0 [] [0, 1] [(7, .slice none 0 0), (6, .pointer none)] (.mk ?_)
 refine yK [(0, yV sz), (1, yV bl), (2, .slice p0 n cp)] fun lr1 => ?_
 refine ySq ?_
 refine yPl [0, 1, 2, 3, 4, 5, 6, 7, 8, 9, 10, 11, 12, 13] ?_
 have hb2 := rem_bd (a := sz) (b := 12) (by omega) (by omega)
 refine yB0 [1, 2, 3, 4, 5, 6, 7, 8, 9, 10, 11, 12, 13] [0] [(21, yV sz)] ?_
 refine plain_law (i := 1) 22 (yV ((sz % 12))) (by kernel_rfl) (law_rem (o := opA (RA Try.f19 [1, 0]) 1) (t := 5) (x := (Operand.tmp 21)) (y := (Operand.const (yV 12))) (by kernel_rfl) sz 12 (by kernel_rfl) (by kernel_rfl) (by omega) ((sz % 12)) (rem_ex (by omega)) _) ?_
 have hb3 := rem_bd (a := bl) (b := 6) (by omega) (by omega)
 refine yBb [5, 6, 7, 8, 9, 10, 11, 12, 13] [(25, yV bl), (24, iV ((sz % 12) + 1)), (23, iV ((sz % 12)))] [e1 2 (iV ((sz % 12))), e1 3 (iV ((sz % 12) + 1)), e0 4] [] [(iV (IntKind.wrap .i64 ((sz % 12))), iV ((sz % 12))), (iV (IntKind.wrap .i64 (1 + ((sz % 12)))), iV ((sz % 12) + 1))] ⟨(ov_i64 rfl (by omega) (by omega)), (ov_i64 (by omega) (by omega) (by omega)), trivial⟩ nC ?_
 refine plain_law (i := 5) 26 (yV ((bl % 6))) (by kernel_rfl) (law_rem (o := opA (RA Try.f19 [1, 0]) 5) (t := 5) (x := (Operand.tmp 25)) (y := (Operand.const (yV 6))) (by kernel_rfl) bl 6 (by kernel_rfl) (by kernel_rfl) (by omega) ((bl % 6)) (rem_ex (by omega)) _) ?_
 refine yBb [8, 9, 10, 11, 12, 13] [(28, uV (-(bl % 6) + 4294967295)), (27, uV ((bl % 6)))] [e1 6 (uV ((bl % 6))), e1 7 (uV (-(bl % 6) + 4294967295))] [] [(uV (IntKind.wrap .u32 ((bl % 6))), uV ((bl % 6))), (uV (IntKind.wrap .u32 (4294967295 - ((bl % 6)))), uV (-(bl % 6) + 4294967295))] ⟨(ov_u32 rfl (by omega) (by omega)), (ov_u32 (by omega) (by omega) (by omega)), trivial⟩ nC ?_
 refine yA ?_
 refine yCl 29 Try.call11 (tnew_made sz bl hsz hbl nn hnn gg hgg) h0 ?_
 rintro v K w5 (⟨b4, rfl, rfl⟩) h6
 refine ⟨_, rfl, ?_⟩
 have h7 := ap1 h6
 refine yB0 [] [9, 10, 11, 12, 13] [(9, iV 0), (8, pV b4), (31, iV 0), (30, pV b4), (20, .tuple #[pV b4, iV 0])] (.mk ?_)
 refine yK [(2, .slice p0 n cp), (8, pV b4), (9, iV 0)] fun lr8 => ?_
 refine ySq ?_
 refine ySq ?_
 refine yPl [0, 1] ?_
 refine yB0 [] [0, 1] [(33, .bool false), (32, iV 0)] (.mk ?_)
 refine yK [(2, .slice p0 n cp), (8, pV b4), (33, .bool false)] fun lr9 => ?_
 refine yCf ?_
 refine ySk ?_
 refine ySq ?_
 refine yPl [0] ?_
 refine yB0 [] [0] [(10, .slice none 0 0)] (.mk ?_)
 refine yK [(2, .slice p0 n cp), (8, pV b4), (10, .slice none 0 0)] fun lr10 => ?_
 refine ySq ?_
 refine ySq ?_
 refine yPl [0] ?_
 refine yB0 [] [0] [(11, iV 0)] (.mk ?_)
 refine yK [(2, .slice p0 n cp), (8, pV b4), (10, .slice none 0 0), (11, iV 0)] fun lr11 => ?_
 refine yBk 0 ?_
 have h12 : sat g w5 [Sl 28 3 none 0 0 (fl eO []), TW b4 nn (⟨List.replicate nn (0, gg), [], []⟩), Old wo, R] := sl_nil 28 3 h7
 have h13 := tk4 (sf3 (sf2 (sf3 (sf3 h12))))
 refine gi_lp (x := CA Try.f19 [1, 1, 1, 1, 0, 1, 0, 0]) (by kernel_rfl) (fun mz_ a w => ∃ i : Nat, ∃ p2 : Option Addr, ∃ m2 : Nat, ∃ c2 : Nat, ∃ lr : Fr, mz_ = n - i ∧ (i ≤ n) ∧ (m2 ≤ i) ∧ a = mk 167 (([(2, .slice p0 n cp), (8, pV b4), (10, .slice p2 m2 c2), (11, iV (i : Int))] : Fr) ++ lr) ∧ sat g w [TW b4 nn ((madeK nn gg T i).1), Sl 28 3 p2 m2 c2 (fl eO ((madeK nn gg T i).2)), Old wo, R]) (n - 0) ⟨0, none, 0, 0, _, rfl, (Nat.zero_le _), (Nat.le_refl _), (mk_live [(2, .slice p0 n cp), (8, pV b4), (10, .slice none 0 0), (11, iV (0 : Int))] ⟨rfl, rfl, rfl, (ov_int (by omega)), trivial⟩), h13⟩ ?_
 rintro m15 a16 w17 ⟨i, p2, m2, c2, lr14, rfl, hi_, hm2, rfl, h18⟩
 have hWi_ := (wi_out h18).1
 refine ySq ?_
 refine ySq ?_
 refine yPl [0, 1, 2, 3] ?_
 refine yB0 [3] [0, 1, 2] [(36, iV (n : Int)), (35, .slice p0 n cp), (34, iV (i : Int))] ?_
 by_cases c19 : (i : Int) < (n : Int)
 ·
  refine yBb [] [(37, .bool true)] [e1 3 (.bool true)] [] [(.bool (decide ((i : Int) < (n : Int))), .bool true)] ⟨(ov_t (by omega)), trivial⟩ nC (.mk ?_)
  refine yK [(2, .slice p0 n cp), (8, pV b4), (10, .slice p2 m2 c2), (11, iV (i : Int)), (37, .bool true)] fun lr20 => ?_
  refine yCt ?_
  refine ySk ?_
  refine ySq ?_
  refine yBk 1 ?_
  refine ySq ?_
  refine yPl [0, 1, 2, 3, 4, 5, 6, 7, 8] ?_
  have hb21 := rem_bd (a := (i : Int)) (b := 256) (by omega) (by omega)
  refine yB0 [1, 2, 3, 4, 5, 6, 7, 8] [0] [(40, iV (i : Int))] ?_
  refine plain_law (i := 1) 41 (iV ((i : Int) % 256)) (by kernel_rfl) (law_rem (o := opA (RA Try.f19 [1, 1, 1, 1, 0, 1, 0, 0, 1, 0, 0, 0]) 1) (t := 3) (x := (Operand.tmp 40)) (y := (Operand.const (iV 256))) (by kernel_rfl) (i : Int) 256 (by kernel_rfl) (by kernel_rfl) (by omega) ((i : Int) % 256) (rem_ex (by omega)) _) ?_
  have hb22 := quo_bd (a := (i : Int)) (b := 256) (by omega) (by omega)
  refine yB0 [3, 4, 5, 6, 7, 8] [2] [(42, iV (i : Int))] ?_
  refine plain_law (i := 3) 43 (iV ((i : Int) / 256)) (by kernel_rfl) (law_quo (o := opA (RA Try.f19 [1, 1, 1, 1, 0, 1, 0, 0, 1, 0, 0, 0]) 3) (t := 3) (x := (Operand.tmp 42)) (y := (Operand.const (iV 256))) (by kernel_rfl) (i : Int) 256 (by kernel_rfl) (by kernel_rfl) (by omega) ((i : Int) / 256) (quo_i64 (by omega) (by omega) (by omega)) _) ?_
  refine yBb [7, 8] [(46, .agg #[iV ((i : Int) % 256), uV ((i : Int) / 256 + 1)]), (45, uV ((i : Int) / 256 + 1)), (44, iV ((i : Int) / 256 + 1))] [e1 4 (iV ((i : Int) / 256 + 1)), e1 5 (uV ((i : Int) / 256 + 1)), e0 6] [] [(iV (IntKind.wrap .i64 (1 + ((i : Int) / 256))), iV ((i : Int) / 256 + 1)), (uV (IntKind.wrap .u32 ((i : Int) / 256 + 1)), uV ((i : Int) / 256 + 1))] ⟨(ov_i64 (by omega) (by omega) (by omega)), (ov_u32 rfl (by omega) (by omega)), trivial⟩ nC ?_
  refine yA ?_
  refine yNp 12 34 [iV 0, uV 0] h18 fun r23 w24 h25 => ?_
  refine yA ?_
  refine yS [(0, iV ((i : Int) % 256)), (1, uV ((i : Int) / 256 + 1))] [iV ((i : Int) % 256), uV ((i : Int) / 256 + 1)] h25 fun w26 h27 => ?_
  refine PO.mk ?_
  refine yK [(2, .slice p0 n cp), (8, pV b4), (10, .slice p2 m2 c2), (11, iV (i : Int)), (12, pV r23)] fun lr28 => ?_
  refine ySq ?_
  refine yPl [0, 1, 2] ?_
  refine yB0 [1, 2] [0] [(47, pV b4)] ?_
  have hll31 := live_len ((madeK nn gg T i).1).E
  have h32 := tk5 (sf4 (sf3 (sf4 (sf4 (sf4 h27)))))
  refine yA ?_
  refine yCl 48 Try.call24 (live_w b4 nn ((madeK nn gg T i).1)) h32 ?_
  rintro v K w33 (⟨p29, c30, rfl, rfl⟩) h34
  refine ⟨_, rfl, ?_⟩
  have h35 := ap2 h34
  refine yB0 [] [2] [(13, .slice p29 (((liveL ((madeK nn gg T i).1).E).length)) c30)] (.mk ?_)
  refine yK [(2, .slice p0 n cp), (8, pV b4), (10, .slice p2 m2 c2), (11, iV (i : Int)), (12, pV r23), (13, .slice p29 (((liveL ((madeK nn gg T i).1).E).length)) c30)] fun lr36 => ?_
  refine yBk 2 ?_
  refine ySq ?_
  refine yPl [0, 1, 2, 3, 4, 5, 6, 7] ?_
  obtain ⟨b37, off39, hp38⟩ := gv_ptr (j := 4) h35 rfl (gv_old hr) (by omega)
  refine yB0 [2, 3, 4, 5, 6, 7] [0, 1] [(74, iV (i : Int)), (73, .slice p0 n cp)] ?_
  refine plain_law (i := 2) 75 (.pointer (some ⟨b37, off39 + i * 2, none⟩)) (by kernel_rfl) (law_indexSlP (o := opA (RA Try.f19 [1, 1, 1, 1, 0, 1, 0, 0, 1, 0, 0, 1, 1, 0, 0]) 2) (x := (Operand.tmp 73)) (i := (Operand.tmp 74)) (p := p0) (b := b37) (off := off39) (z := (i : Int)) (len := n) (cap := cp) (by kernel_rfl) Try.underlying44 2 (by kernel_rfl) i (by kernel_rfl) hp38 (by kernel_rfl) (by omega) (by omega) (off39 + i * 2) (by omega) _) ?_
  obtain ⟨x40, hx41⟩ : ∃ x, T[i]? = some x := ⟨_, List.getElem?_eq_getElem (by rw [hT]; omega)⟩
  have hb42 := hO _ (List.mem_of_getElem? hx41)
  have hb420 := hb42.1; have hb421 := hb42.2
  have hb43 := rem_bd (a := x40.1) (b := 8) (by omega) (by omega)
  refine yBb [5, 6, 7] [(77, yV x40.1), (76, .pointer (some ⟨b37, off39 + i * 2, none⟩))] [e0 3, e2 4 [yV x40.1]] [(4, ⟨b37, off39 + i * 2, none⟩, yV x40.1)] [] trivial (kC (gv_cell (j := 4) h35 rfl (gv_old hr) hp38 (fl_get eMv_ok (j := 0) (v := yV x40.1) hx41 rfl) (off39 + i * 2) (by omega)) nC) ?_
  refine plain_law (i := 5) 78 (yV ((x40.1 % 8))) (by kernel_rfl) (law_rem (o := opA (RA Try.f19 [1, 1, 1, 1, 0, 1, 0, 0, 1, 0, 0, 1, 1, 0, 0]) 5) (t := 5) (x := (Operand.tmp 77)) (y := (Operand.const (yV 8))) (by kernel_rfl) x40.1 8 (by kernel_rfl) (by kernel_rfl) (by omega) ((x40.1 % 8)) (rem_ex (by omega)) _) ?_
  by_cases c44 : (x40.1 % 8) < 3
  ·
   refine yBb [] [(72, .bool true), (79, .bool true)] [e1 6 (.bool true), e0 7] [] [(.bool (decide ((x40.1 % 8) < 3)), .bool true)] ⟨(ov_t (by omega)), trivial⟩ nC (.mk ?_)
   refine yK [(2, .slice p0 n cp), (8, pV b4), (10, .slice p2 m2 c2), (11, iV (i : Int)), (12, pV r23), (13, .slice p29 (((liveL ((madeK nn gg T i).1).E).length)) c30), (72, .bool true)] fun lr45 => ?_
   refine yCt ?_
   refine ySq ?_
   refine gi_drw (id := 14) (ops := RA Try.f19 [1, 1, 1, 1, 0, 1, 0, 0, 1, 0, 0, 1, 1, 0, 1, 0, 0]) (Tr.fl 0 (Tr.fl 1 (Tr.fl 2 (Tr.fl 3 (Tr.fl 4 (Tr.fl 5 (Tr.fl 6 (Tr.fl 7 (Tr.fl 8 (Tr.fl 9 (Tr.fl 10 (Tr.fl 11 (Tr.fl 12 (Tr.fl 13 (Tr.fl 14 (Tr.fl 15 (Tr.fl 16 (Tr.an2 17 (Tr.fl 18 (Tr.fl 19 (Tr.fl 20 (Tr.an 21 (Tr.an 22 (Tr.fl 23 Tr.nil)))))) 21 (Tr.an 17 (Tr.fl 18 (Tr.fl 19 (Tr.fl 20 (Tr.an 22 (Tr.fl 23 Tr.nil)))))))))))))))))))))))) (by kernel_rfl) (by kernel_rfl) (by kernel_rfl) (by kernel_rfl) (by kernel_rfl) (fun _ _ d _ _ h => by cases d <;> exact h) h35 ?_
   intro w46 h47
   refine yD _ [(83, iV (i : Int)), (82, .slice p0 n cp), (81, pV b4)] [e0 0, e0 1, e0 2] [] [] trivial nC ?_
   refine draw_law (i := 3) 84 (.pointer (some ⟨b37, off39 + i * 2, none⟩)) [] (by kernel_rfl) (fun _ _ => law_indexSlP (o := opA (RA Try.f19 [1, 1, 1, 1, 0, 1, 0, 0, 1, 0, 0, 1, 1, 0, 1, 0, 0]) 3) (x := (Operand.tmp 82)) (i := (Operand.tmp 83)) (p := p0) (b := b37) (off := off39) (z := (i : Int)) (len := n) (cap := cp) (by kernel_rfl) Try.underlying44 2 (by kernel_rfl) i (by kernel_rfl) hp38 (by kernel_rfl) (by omega) (by omega) (off39 + i * 2) (by omega) _) (by intro q hq; cases hq) ?_
   have hb48 := rem_bd (a := x40.2) (b := 3) (by omega) (by omega)
   refine yD _ [(87, iV x40.2), (86, yV x40.2), (85, .pointer (some ⟨b37, off39 + i * 2 + 1, none⟩))] [e0 4, e2 5 [yV x40.2], e1 6 (iV x40.2)] [(5, ⟨b37, off39 + i * 2 + 1, none⟩, yV x40.2)] [(iV (IntKind.wrap .i64 x40.2), iV x40.2)] ⟨(ov_i64 rfl (by omega) (by omega)), trivial⟩ (kC (gv_cell (j := 4) h47 rfl (gv_old hr) hp38 (fl_get eMv_ok (j := 1) (v := yV x40.2) hx41 rfl) (off39 + i * 2 + 1) (by omega)) nC) ?_
   refine draw_law (i := 7) 88 (iV ((x40.2 % 3))) [] (by kernel_rfl) (fun _ _ => law_rem (o := opA (RA Try.f19 [1, 1, 1, 1, 0, 1, 0, 0, 1, 0, 0, 1, 1, 0, 1, 0, 0]) 7) (t := 3) (x := (Operand.tmp 87)) (y := (Operand.const (iV 3))) (by kernel_rfl) x40.2 3 (by kernel_rfl) (by kernel_rfl) (by omega) ((x40.2 % 3)) (rem_ex (by omega)) _) (by intro q hq; cases hq) ?_
   have hb49 := rem_bd (a := (i : Int)) (b := 64) (by omega) (by omega)
   refine yD _ [(90, iV (i : Int)), (89, iV ((x40.2 % 3) + 1))] [e1 8 (iV ((x40.2 % 3) + 1)), e0 9] [] [(iV (IntKind.wrap .i64 (1 + ((x40.2 % 3)))), iV ((x40.2 % 3) + 1))] ⟨(ov_i64 (by omega) (by omega) (by omega)), trivial⟩ nC ?_
   refine draw_law (i := 10) 91 (iV ((i : Int) % 64)) [] (by kernel_rfl) (fun _ _ => law_rem (o := opA (RA Try.f19 [1, 1, 1, 1, 0, 1, 0, 0, 1, 0, 0, 1, 1, 0, 1, 0, 0]) 10) (t := 3) (x := (Operand.tmp 90)) (y := (Operand.const (iV 64))) (by kernel_rfl) (i : Int) 64 (by kernel_rfl) (by kernel_rfl) (by omega) ((i : Int) % 64) (rem_ex (by omega)) _) (by intro q hq; cases hq) ?_
   have hb50 := quo_bd (a := (i : Int)) (b := 64) (by omega) (by omega)
   refine yD _ [(92, iV (i : Int))] [e0 11] [] [] trivial nC ?_
   refine draw_law (i := 12) 93 (iV ((i : Int) / 64)) [] (by kernel_rfl) (fun _ _ => law_quo (o := opA (RA Try.f19 [1, 1, 1, 1, 0, 1, 0, 0, 1, 0, 0, 1, 1, 0, 1, 0, 0]) 12) (t := 3) (x := (Operand.tmp 92)) (y := (Operand.const (iV 64))) (by kernel_rfl) (i : Int) 64 (by kernel_rfl) (by kernel_rfl) (by omega) ((i : Int) / 64) (quo_i64 (by omega) (by omega) (by omega)) _) (by intro q hq; cases hq) ?_
   refine yD _ [(97, .agg #[iV ((i : Int) % 256), uV ((i : Int) / 256 + 1)]), (96, .agg #[iV ((x40.2 % 3) + 1), iV ((i : Int) % 64), uV ((i : Int) / 64 + 1)]), (95, uV ((i : Int) / 64 + 1)), (94, iV ((i : Int) / 64 + 1))] [e1 13 (iV ((i : Int) / 64 + 1)), e1 14 (uV ((i : Int) / 64 + 1)), e0 15, e2 16 [iV ((i : Int) % 256), uV ((i : Int) / 256 + 1)]] [(16, ⟨r23, 0, none⟩, iV ((i : Int) % 256)), (16, ⟨r23, 1, none⟩, uV ((i : Int) / 256 + 1))] [(iV (IntKind.wrap .i64 (1 + ((i : Int) / 64))), iV ((i : Int) / 64 + 1)), (uV (IntKind.wrap .u32 ((i : Int) / 64 + 1)), uV ((i : Int) / 64 + 1))] ⟨(ov_i64 (by omega) (by omega) (by omega)), (ov_u32 rfl (by omega) (by omega)), trivial⟩ (kC (sat_cell h47 2 rfl rfl) (kC (sat_cell h47 2 rfl rfl) nC)) ?_
   refine ⟨?_, ?_⟩
   ·
    refine draw_act (i := 17) [(5, ⟨b37, off39 + i * 2 + 1, none⟩, yV x40.2)] (by kernel_rfl) (by kernel_rfl) ?_
    refine yCl 98 Try.call12 (topen_w b4 nn ((madeK nn gg T i).1) ((x40.2 % 3) + 1) ((i : Int) % 64) ((i : Int) / 64 + 1) ((i : Int) % 256) ((i : Int) / 256 + 1) [116] (by omega) (by omega) (by simp only [List.length_cons, List.length_nil]; omega)) h47 ?_
    rintro v K w51 (⟨rfl, rfl⟩) h52
    refine ⟨_, rfl, ?_⟩
    have h53 := ap1 h52
    refine ⟨(AllC_cons (gv_cell (j := 4) h53 rfl (gv_old hr) hp38 (fl_get eMv_ok (j := 1) (v := yV x40.2) hx41 rfl) (off39 + i * 2 + 1) (by omega)) (AllC_nil _)), ?_⟩
    refine yD _ [(100, iV ((opnE ((madeK nn gg T i).1) ((x40.2 % 3) + 1, (i : Int) % 64, (i : Int) / 64 + 1) [116] ((i : Int) % 256, (i : Int) / 256 + 1)))), (99, .agg #[iV ((opnD ((madeK nn gg T i).1) ((x40.2 % 3) + 1, (i : Int) % 64, (i : Int) / 64 + 1) [116] ((i : Int) % 256, (i : Int) / 256 + 1)).1), iV ((opnD ((madeK nn gg T i).1) ((x40.2 % 3) + 1, (i : Int) % 64, (i : Int) / 64 + 1) [116] ((i : Int) % 256, (i : Int) / 256 + 1)).2.1), uV ((opnD ((madeK nn gg T i).1) ((x40.2 % 3) + 1, (i : Int) % 64, (i : Int) / 64 + 1) [116] ((i : Int) % 256, (i : Int) / 256 + 1)).2.2)]), (80, .tuple #[.agg #[iV ((opnD ((madeK nn gg T i).1) ((x40.2 % 3) + 1, (i : Int) % 64, (i : Int) / 64 + 1) [116] ((i : Int) % 256, (i : Int) / 256 + 1)).1), iV ((opnD ((madeK nn gg T i).1) ((x40.2 % 3) + 1, (i : Int) % 64, (i : Int) / 64 + 1) [116] ((i : Int) % 256, (i : Int) / 256 + 1)).2.1), uV ((opnD ((madeK nn gg T i).1) ((x40.2 % 3) + 1, (i : Int) % 64, (i : Int) / 64 + 1) [116] ((i : Int) % 256, (i : Int) / 256 + 1)).2.2)], iV ((opnE ((madeK nn gg T i).1) ((x40.2 % 3) + 1, (i : Int) % 64, (i : Int) / 64 + 1) [116] ((i : Int) % 256, (i : Int) / 256 + 1)))])] [e0 18, e0 19, e0 20] [] [] trivial nC ?_
    refine fk_cut ([(100, iV ((opnE ((madeK nn gg T i).1) ((x40.2 % 3) + 1, (i : Int) % 64, (i : Int) / 64 + 1) [116] ((i : Int) % 256, (i : Int) / 256 + 1)))), (99, .agg #[iV ((opnD ((madeK nn gg T i).1) ((x40.2 % 3) + 1, (i : Int) % 64, (i : Int) / 64 + 1) [116] ((i : Int) % 256, (i : Int) / 256 + 1)).1), iV ((opnD ((madeK nn gg T i).1) ((x40.2 % 3) + 1, (i : Int) % 64, (i : Int) / 64 + 1) [116] ((i : Int) % 256, (i : Int) / 256 + 1)).2.1), uV ((opnD ((madeK nn gg T i).1) ((x40.2 % 3) + 1, (i : Int) % 64, (i : Int) / 64 + 1) [116] ((i : Int) % 256, (i : Int) / 256 + 1)).2.2)]), (2, .slice p0 n cp), (8, pV b4), (10, .slice p2 m2 c2), (11, iV (i : Int)), (12, pV r23), (13, .slice p29 (((liveL ((madeK nn gg T i).1).E).length)) c30), (72, .bool true)] : Fr) (by kernel_rfl) (fun a => RW _ _ _ _ _ a _) (fun lr54 => ?_)
    refine draw_act (i := 21) [(5, ⟨b37, off39 + i * 2 + 1, none⟩, yV x40.2)] (by kernel_rfl) (by kernel_rfl) ?_
    refine yNp 14 28 [iV 0, iV 0, uV 0] h53 fun r55 w56 h57 => ?_
    refine ⟨(AllC_cons (gv_cell (j := 5) h57 rfl (gv_old hr) hp38 (fl_get eMv_ok (j := 1) (v := yV x40.2) hx41 rfl) (off39 + i * 2 + 1) (by omega)) (AllC_nil _)), ?_⟩
    refine draw_act (i := 22) [] (by kernel_rfl) (by kernel_rfl) ?_
    refine yS [(0, iV ((opnD ((madeK nn gg T i).1) ((x40.2 % 3) + 1, (i : Int) % 64, (i : Int) / 64 + 1) [116] ((i : Int) % 256, (i : Int) / 256 + 1)).1)), (1, iV ((opnD ((madeK nn gg T i).1) ((x40.2 % 3) + 1, (i : Int) % 64, (i : Int) / 64 + 1) [116] ((i : Int) % 256, (i : Int) / 256 + 1)).2.1)), (2, uV ((opnD ((madeK nn gg T i).1) ((x40.2 % 3) + 1, (i : Int) % 64, (i : Int) / 64 + 1) [116] ((i : Int) % 256, (i : Int) / 256 + 1)).2.2))] [iV ((opnD ((madeK nn gg T i).1) ((x40.2 % 3) + 1, (i : Int) % 64, (i : Int) / 64 + 1) [116] ((i : Int) % 256, (i : Int) / 256 + 1)).1), iV ((opnD ((madeK nn gg T i).1) ((x40.2 % 3) + 1, (i : Int) % 64, (i : Int) / 64 + 1) [116] ((i : Int) % 256, (i : Int) / 256 + 1)).2.1), uV ((opnD ((madeK nn gg T i).1) ((x40.2 % 3) + 1, (i : Int) % 64, (i : Int) / 64 + 1) [116] ((i : Int) % 256, (i : Int) / 256 + 1)).2.2)] h57 fun w58 h59 => ?_
    refine ⟨(AllC_nil _), ?_⟩
    refine yD _ [(15, iV ((opnE ((madeK nn gg T i).1) ((x40.2 % 3) + 1, (i : Int) % 64, (i : Int) / 64 + 1) [116] ((i : Int) % 256, (i : Int) / 256 + 1))))] [e0 23] [] [] trivial nC ?_
    refine yK [(2, .slice p0 n cp), (8, pV b4), (10, .slice p2 m2 c2), (11, iV (i : Int)), (14, pV r55), (15, iV ((opnE ((madeK nn gg T i).1) ((x40.2 % 3) + 1, (i : Int) % 64, (i : Int) / 64 + 1) [116] ((i : Int) % 256, (i : Int) / 256 + 1))))] fun lr60 => ?_
    refine ySq ?_
    refine yPl [0, 1] ?_
    refine yB0 [1] [0] [(101, iV ((opnE ((madeK nn gg T i).1) ((x40.2 % 3) + 1, (i : Int) % 64, (i : Int) / 64 + 1) [116] ((i : Int) % 256, (i : Int) / 256 + 1))))] ?_
    by_cases c61 : (opnE ((madeK nn gg T i).1) ((x40.2 % 3) + 1, (i : Int) % 64, (i : Int) / 64 + 1) [116] ((i : Int) % 256, (i : Int) / 256 + 1)) = 0
    ·
     refine yBb [] [(102, .bool true)] [e1 1 (.bool true)] [] [(.bool (((opnE ((madeK nn gg T i).1) ((x40.2 % 3) + 1, (i : Int) % 64, (i : Int) / 64 + 1) [116] ((i : Int) % 256, (i : Int) / 256 + 1))) == 0), .bool true)] ⟨(ov_et (by omega)), trivial⟩ nC (.mk ?_)
     refine yK [(2, .slice p0 n cp), (8, pV b4), (10, .slice p2 m2 c2), (11, iV (i : Int)), (14, pV r55), (102, .bool true)] fun lr62 => ?_
     refine yCt ?_
     refine yPl [0, 1, 2, 3, 4] ?_
     refine yBb [2, 3, 4] [(104, .agg #[iV ((opnD ((madeK nn gg T i).1) ((x40.2 % 3) + 1, (i : Int) % 64, (i : Int) / 64 + 1) [116] ((i : Int) % 256, (i : Int) / 256 + 1)).1), iV ((opnD ((madeK nn gg T i).1) ((x40.2 % 3) + 1, (i : Int) % 64, (i : Int) / 64 + 1) [116] ((i : Int) % 256, (i : Int) / 256 + 1)).2.1), uV ((opnD ((madeK nn gg T i).1) ((x40.2 % 3) + 1, (i : Int) % 64, (i : Int) / 64 + 1) [116] ((i : Int) % 256, (i : Int) / 256 + 1)).2.2)]), (103, .slice p2 m2 c2)] [e0 0, e2 1 [iV ((opnD ((madeK nn gg T i).1) ((x40.2 % 3) + 1, (i : Int) % 64, (i : Int) / 64 + 1) [116] ((i : Int) % 256, (i : Int) / 256 + 1)).1), iV ((opnD ((madeK nn gg T i).1) ((x40.2 % 3) + 1, (i : Int) % 64, (i : Int) / 64 + 1) [116] ((i : Int) % 256, (i : Int) / 256 + 1)).2.1), uV ((opnD ((madeK nn gg T i).1) ((x40.2 % 3) + 1, (i : Int) % 64, (i : Int) / 64 + 1) [116] ((i : Int) % 256, (i : Int) / 256 + 1)).2.2)]] [(1, ⟨r55, 0, none⟩, iV ((opnD ((madeK nn gg T i).1) ((x40.2 % 3) + 1, (i : Int) % 64, (i : Int) / 64 + 1) [116] ((i : Int) % 256, (i : Int) / 256 + 1)).1)), (1, ⟨r55, 1, none⟩, iV ((opnD ((madeK nn gg T i).1) ((x40.2 % 3) + 1, (i : Int) % 64, (i : Int) / 64 + 1) [116] ((i : Int) % 256, (i : Int) / 256 + 1)).2.1)), (1, ⟨r55, 2, none⟩, uV ((opnD ((madeK nn gg T i).1) ((x40.2 % 3) + 1, (i : Int) % 64, (i : Int) / 64 + 1) [116] ((i : Int) % 256, (i : Int) / 256 + 1)).2.2))] [] trivial (kC (sat_cell h59 0 rfl rfl) (kC (sat_cell h59 0 rfl rfl) (kC (sat_cell h59 0 rfl rfl) nC))) ?_
     refine yA ?_
     refine an_new (d := 105) (fun xb_ => .slice (some ⟨xb_, 0, none⟩) 1 1) (fun xb_ => Obj.cells [iV ((opnD ((madeK nn gg T i).1) ((x40.2 % 3) + 1, (i : Int) % 64, (i : Int) / 64 + 1) [116] ((i : Int) % 256, (i : Int) / 256 + 1)).1), iV ((opnD ((madeK nn gg T i).1) ((x40.2 % 3) + 1, (i : Int) % 64, (i : Int) / 64 + 1) [116] ((i : Int) % 256, (i : Int) / 256 + 1)).2.1), uV ((opnD ((madeK nn gg T i).1) ((x40.2 % 3) + 1, (i : Int) % 64, (i : Int) / 64 + 1) [116] ((i : Int) % 256, (i : Int) / 256 + 1)).2.2)].toArray 28 (0, 0)) (fun xb_ => by kernel_rfl) (by kernel_rfl) rfl h59 ?_
     intro r63 w64 (h65 : sat g w64 [Cl r63 [iV ((opnD ((madeK nn gg T i).1) ((x40.2 % 3) + 1, (i : Int) % 64, (i : Int) / 64 + 1) [116] ((i : Int) % 256, (i : Int) / 256 + 1)).1), iV ((opnD ((madeK nn gg T i).1) ((x40.2 % 3) + 1, (i : Int) % 64, (i : Int) / 64 + 1) [116] ((i : Int) % 256, (i : Int) / 256 + 1)).2.1), uV ((opnD ((madeK nn gg T i).1) ((x40.2 % 3) + 1, (i : Int) % 64, (i : Int) / 64 + 1) [116] ((i : Int) % 256, (i : Int) / 256 + 1)).2.2)] 28, Cl r55 [iV ((opnD ((madeK nn gg T i).1) ((x40.2 % 3) + 1, (i : Int) % 64, (i : Int) / 64 + 1) [116] ((i : Int) % 256, (i : Int) / 256 + 1)).1), iV ((opnD ((madeK nn gg T i).1) ((x40.2 % 3) + 1, (i : Int) % 64, (i : Int) / 64 + 1) [116] ((i : Int) % 256, (i : Int) / 256 + 1)).2.1), uV ((opnD ((madeK nn gg T i).1) ((x40.2 % 3) + 1, (i : Int) % 64, (i : Int) / 64 + 1) [116] ((i : Int) % 256, (i : Int) / 256 + 1)).2.2)] 28, TW b4 nn (opnS ((madeK nn gg T i).1) ((x40.2 % 3) + 1, (i : Int) % 64, (i : Int) / 64 + 1) [116] ((i : Int) % 256, (i : Int) / 256 + 1)), Sl 28 3 p29 (((liveL ((madeK nn gg T i).1).E).length)) c30 (fl eO (liveL ((madeK nn gg T i).1).E)), Cl r23 [iV ((i : Int) % 256), uV ((i : Int) / 256 + 1)] 34, Sl 28 3 p2 m2 c2 (fl eO ((madeK nn gg T i).2)), Old wo, R])
     have h66 := tk8 (sf7 (sf6 (sf6 (sf6 (sf6 (sf6 (sf7 (sf7 h65))))))))
     refine yA ?_
     refine an_append (d := 106) (sz := 3) (s := (Operand.tmp 103)) (x := (Operand.tmp 105)) (z := .agg #[iV 0, iV 0, uV 0]) (p := p2) (m := m2) (c := c2) (k := 1) (c2 := 1) (a := ⟨r63, 0, none⟩) (by_ := 24) (by kernel_rfl) (by kernel_rfl) rfl Try.underlying45 (by kernel_rfl) rfl (by decide) (by kernel_rfl) (by kernel_rfl) h66 (fl eO [((opnD ((madeK nn gg T i).1) ((x40.2 % 3) + 1, (i : Int) % 64, (i : Int) / 64 + 1) [116] ((i : Int) % 256, (i : Int) / 256 + 1)).1, (opnD ((madeK nn gg T i).1) ((x40.2 % 3) + 1, (i : Int) % 64, (i : Int) / 64 + 1) [116] ((i : Int) % 256, (i : Int) / 256 + 1)).2.1, (opnD ((madeK nn gg T i).1) ((x40.2 % 3) + 1, (i : Int) % 64, (i : Int) / 64 + 1) [116] ((i : Int) % 256, (i : Int) / 256 + 1)).2.2)]) rfl (fun j u hj => by rw [add_off]; exact sat_cell h66 1 rfl (by rw [Nat.zero_add]; exact hj)) (fl_one eO_ok _) (by omega) (by omega) (m2 + 1) (by omega) ?_
     intro p67 cap68 w69 h70
     have h71 : sat g w69 [Sl 28 3 p67 (m2 + 1) cap68 (fl eO (((madeK nn gg T i).2) ++ [((opnD ((madeK nn gg T i).1) ((x40.2 % 3) + 1, (i : Int) % 64, (i : Int) / 64 + 1) [116] ((i : Int) % 256, (i : Int) / 256 + 1)).1, (opnD ((madeK nn gg T i).1) ((x40.2 % 3) + 1, (i : Int) % 64, (i : Int) / 64 + 1) [116] ((i : Int) % 256, (i : Int) / 256 + 1)).2.1, (opnD ((madeK nn gg T i).1) ((x40.2 % 3) + 1, (i : Int) % 64, (i : Int) / 64 + 1) [116] ((i : Int) % 256, (i : Int) / 256 + 1)).2.2)])), Cl r63 [iV ((opnD ((madeK nn gg T i).1) ((x40.2 % 3) + 1, (i : Int) % 64, (i : Int) / 64 + 1) [116] ((i : Int) % 256, (i : Int) / 256 + 1)).1), iV ((opnD ((madeK nn gg T i).1) ((x40.2 % 3) + 1, (i : Int) % 64, (i : Int) / 64 + 1) [116] ((i : Int) % 256, (i : Int) / 256 + 1)).2.1), uV ((opnD ((madeK nn gg T i).1) ((x40.2 % 3) + 1, (i : Int) % 64, (i : Int) / 64 + 1) [116] ((i : Int) % 256, (i : Int) / 256 + 1)).2.2)] 28, Cl r55 [iV ((opnD ((madeK nn gg T i).1) ((x40.2 % 3) + 1, (i : Int) % 64, (i : Int) / 64 + 1) [116] ((i : Int) % 256, (i : Int) / 256 + 1)).1), iV ((opnD ((madeK nn gg T i).1) ((x40.2 % 3) + 1, (i : Int) % 64, (i : Int) / 64 + 1) [116] ((i : Int) % 256, (i : Int) / 256 + 1)).2.1), uV ((opnD ((madeK nn gg T i).1) ((x40.2 % 3) + 1, (i : Int) % 64, (i : Int) / 64 + 1) [116] ((i : Int) % 256, (i : Int) / 256 + 1)).2.2)] 28, TW b4 nn (opnS ((madeK nn gg T i).1) ((x40.2 % 3) + 1, (i : Int) % 64, (i : Int) / 64 + 1) [116] ((i : Int) % 256, (i : Int) / 256 + 1)), Sl 28 3 p29 (((liveL ((madeK nn gg T i).1).E).length)) c30 (fl eO (liveL ((madeK nn gg T i).1).E)), Cl r23 [iV ((i : Int) % 256), uV ((i : Int) / 256 + 1)] 34, Old wo, R] := sat_imp h70 (fun _ hh => by rw [fl_app]; exact hh)
     obtain ⟨hn72, hn73⟩ := sl_le h71
     refine yB0 [] [4] [(10, .slice p67 (m2 + 1) cap68)] (.mk ?_)
     refine yK [(2, .slice p0 n cp), (8, pV b4), (10, .slice p67 (m2 + 1) cap68), (11, iV (i : Int))] fun lr74 => ?_
     refine yPl [0, 1, 2] ?_
     refine yBb [] [(11, iV ((i : Int) + 1)), (39, iV ((i : Int) + 1)), (38, iV (i : Int))] [e0 0, e1 1 (iV ((i : Int) + 1)), e0 2] [] [(iV (IntKind.wrap .i64 ((i : Int) + 1)), iV ((i : Int) + 1))] ⟨(ov_i64 (by omega) (by omega) (by omega)), trivial⟩ nC (.mk ?_)
     have ht75 := madeK_go (n := nn) (g := gg) hx41 (turn_open1 (p := (madeK nn gg T i)) (i := i) (m := x40) (by omega) (by show opnE _ _ _ _ = 0; unfold tO tH; omega))
     have h76 := tk8 (sf7 (sf6 (sf6 (sf6 (sf7 (sf7 (sf7 (sf7 h71))))))))
     have h77 : sat g w69 [TW b4 nn ((madeK nn gg T (i + 1)).1), Sl 28 3 p67 (m2 + 1) cap68 (fl eO (((madeK nn gg T i).2) ++ [((opnD ((madeK nn gg T i).1) ((x40.2 % 3) + 1, (i : Int) % 64, (i : Int) / 64 + 1) [116] ((i : Int) % 256, (i : Int) / 256 + 1)).1, (opnD ((madeK nn gg T i).1) ((x40.2 % 3) + 1, (i : Int) % 64, (i : Int) / 64 + 1) [116] ((i : Int) % 256, (i : Int) / 256 + 1)).2.1, (opnD ((madeK nn gg T i).1) ((x40.2 % 3) + 1, (i : Int) % 64, (i : Int) / 64 + 1) [116] ((i : Int) % 256, (i : Int) / 256 + 1)).2.2)])), Cl r63 [iV ((opnD ((madeK nn gg T i).1) ((x40.2 % 3) + 1, (i : Int) % 64, (i : Int) / 64 + 1) [116] ((i : Int) % 256, (i : Int) / 256 + 1)).1), iV ((opnD ((madeK nn gg T i).1) ((x40.2 % 3) + 1, (i : Int) % 64, (i : Int) / 64 + 1) [116] ((i : Int) % 256, (i : Int) / 256 + 1)).2.1), uV ((opnD ((madeK nn gg T i).1) ((x40.2 % 3) + 1, (i : Int) % 64, (i : Int) / 64 + 1) [116] ((i : Int) % 256, (i : Int) / 256 + 1)).2.2)] 28, Cl r55 [iV ((opnD ((madeK nn gg T i).1) ((x40.2 % 3) + 1, (i : Int) % 64, (i : Int) / 64 + 1) [116] ((i : Int) % 256, (i : Int) / 256 + 1)).1), iV ((opnD ((madeK nn gg T i).1) ((x40.2 % 3) + 1, (i : Int) % 64, (i : Int) / 64 + 1) [116] ((i : Int) % 256, (i : Int) / 256 + 1)).2.1), uV ((opnD ((madeK nn gg T i).1) ((x40.2 % 3) + 1, (i : Int) % 64, (i : Int) / 64 + 1) [116] ((i : Int) % 256, (i : Int) / 256 + 1)).2.2)] 28, Sl 28 3 p29 (((liveL ((madeK nn gg T i).1).E).length)) c30 (fl eO (liveL ((madeK nn gg T i).1).E)), Cl r23 [iV ((i : Int) % 256), uV ((i : Int) / 256 + 1)] 34, Old wo, R] := (show (opnS ((madeK nn gg T i).1) ((x40.2 % 3) + 1, (i : Int) % 64, (i : Int) / 64 + 1) [116] ((i : Int) % 256, (i : Int) / 256 + 1)) = (madeK nn gg T (i + 1)).1 from (congrArg Prod.fst ht75).symm) ▸ h76
     have h78 := tk8 (sf7 (sf6 (sf7 (sf7 (sf7 (sf7 (sf7 (sf7 h77))))))))
     have h79 : sat g w69 [Sl 28 3 p67 (m2 + 1) cap68 (fl eO ((madeK nn gg T (i + 1)).2)), TW b4 nn ((madeK nn gg T (i + 1)).1), Cl r63 [iV ((opnD ((madeK nn gg T i).1) ((x40.2 % 3) + 1, (i : Int) % 64, (i : Int) / 64 + 1) [116] ((i : Int) % 256, (i : Int) / 256 + 1)).1), iV ((opnD ((madeK nn gg T i).1) ((x40.2 % 3) + 1, (i : Int) % 64, (i : Int) / 64 + 1) [116] ((i : Int) % 256, (i : Int) / 256 + 1)).2.1), uV ((opnD ((madeK nn gg T i).1) ((x40.2 % 3) + 1, (i : Int) % 64, (i : Int) / 64 + 1) [116] ((i : Int) % 256, (i : Int) / 256 + 1)).2.2)] 28, Cl r55 [iV ((opnD ((madeK nn gg T i).1) ((x40.2 % 3) + 1, (i : Int) % 64, (i : Int) / 64 + 1) [116] ((i : Int) % 256, (i : Int) / 256 + 1)).1), iV ((opnD ((madeK nn gg T i).1) ((x40.2 % 3) + 1, (i : Int) % 64, (i : Int) / 64 + 1) [116] ((i : Int) % 256, (i : Int) / 256 + 1)).2.1), uV ((opnD ((madeK nn gg T i).1) ((x40.2 % 3) + 1, (i : Int) % 64, (i : Int) / 64 + 1) [116] ((i : Int) % 256, (i : Int) / 256 + 1)).2.2)] 28, Sl 28 3 p29 (((liveL ((madeK nn gg T i).1).E).length)) c30 (fl eO (liveL ((madeK nn gg T i).1).E)), Cl r23 [iV ((i : Int) % 256), uV ((i : Int) / 256 + 1)] 34, Old wo, R] := sat_imp h78 (fun _ hh_ => by rw [show ((((madeK nn gg T i).2) ++ [((opnD ((madeK nn gg T i).1) ((x40.2 % 3) + 1, (i : Int) % 64, (i : Int) / 64 + 1) [116] ((i : Int) % 256, (i : Int) / 256 + 1)).1, (opnD ((madeK nn gg T i).1) ((x40.2 % 3) + 1, (i : Int) % 64, (i : Int) / 64 + 1) [116] ((i : Int) % 256, (i : Int) / 256 + 1)).2.1, (opnD ((madeK nn gg T i).1) ((x40.2 % 3) + 1, (i : Int) % 64, (i : Int) / 64 + 1) [116] ((i : Int) % 256, (i : Int) / 256 + 1)).2.2)]) : List Ky) = (madeK nn gg T (i + 1)).2 from (congrArg Prod.snd ht75).symm] at hh_; exact hh_)
     have h80 := tk8 (sf7 (sf6 (sf7 (sf7 (sf5 (sf5 (sf5 (sf5 h79))))))))
     have h81 := tk4 h80
     change ∃ n', n' < _ ∧ _
     refine ⟨(n - (i + 1)), by omega, (i + 1), p67, m2 + 1, cap68, _, rfl, (by omega), (by omega), (mk_live [(2, .slice p0 n cp), (8, pV b4), (10, .slice p67 (m2 + 1) cap68), (11, iV ((((i + 1) : Nat) : Int)))] ⟨rfl, rfl, rfl, (ov_int (by omega)), trivial⟩), h81⟩
    ·
     refine yBb [] [(102, .bool false)] [e1 1 (.bool false)] [] [(.bool (((opnE ((madeK nn gg T i).1) ((x40.2 % 3) + 1, (i : Int) % 64, (i : Int) / 64 + 1) [116] ((i : Int) % 256, (i : Int) / 256 + 1))) == 0), .bool false)] ⟨(ov_ef (by omega)), trivial⟩ nC (.mk ?_)
     refine yK [(2, .slice p0 n cp), (8, pV b4), (10, .slice p2 m2 c2), (11, iV (i : Int)), (14, pV r55), (102, .bool false)] fun lr82 => ?_
     refine yCf ?_
     refine ySk ?_
     refine yPl [0, 1, 2] ?_
     refine yBb [] [(11, iV ((i : Int) + 1)), (39, iV ((i : Int) + 1)), (38, iV (i : Int))] [e0 0, e1 1 (iV ((i : Int) + 1)), e0 2] [] [(iV (IntKind.wrap .i64 ((i : Int) + 1)), iV ((i : Int) + 1))] ⟨(ov_i64 (by omega) (by omega) (by omega)), trivial⟩ nC (.mk ?_)
     have ht83 := madeK_go (n := nn) (g := gg) hx41 (turn_open0 (p := (madeK nn gg T i)) (i := i) (m := x40) (by omega) (by show opnE _ _ _ _ ≠ 0; unfold tO tH; omega))
     have h84 := tk7 (sf6 (sf5 (sf6 (sf6 (sf6 (sf6 (sf6 h59)))))))
     have h85 : sat g w58 [TW b4 nn ((madeK nn gg T (i + 1)).1), Cl r55 [iV ((opnD ((madeK nn gg T i).1) ((x40.2 % 3) + 1, (i : Int) % 64, (i : Int) / 64 + 1) [116] ((i : Int) % 256, (i : Int) / 256 + 1)).1), iV ((opnD ((madeK nn gg T i).1) ((x40.2 % 3) + 1, (i : Int) % 64, (i : Int) / 64 + 1) [116] ((i : Int) % 256, (i : Int) / 256 + 1)).2.1), uV ((opnD ((madeK nn gg T i).1) ((x40.2 % 3) + 1, (i : Int) % 64, (i : Int) / 64 + 1) [116] ((i : Int) % 256, (i : Int) / 256 + 1)).2.2)] 28, Sl 28 3 p29 (((liveL ((madeK nn gg T i).1).E).length)) c30 (fl eO (liveL ((madeK nn gg T i).1).E)), Cl r23 [iV ((i : Int) % 256), uV ((i : Int) / 256 + 1)] 34, Sl 28 3 p2 m2 c2 (fl eO ((madeK nn gg T i).2)), Old wo, R] := (show (opnS ((madeK nn gg T i).1) ((x40.2 % 3) + 1, (i : Int) % 64, (i : Int) / 64 + 1) [116] ((i : Int) % 256, (i : Int) / 256 + 1)) = (madeK nn gg T (i + 1)).1 from (congrArg Prod.fst ht83).symm) ▸ h84
     have h86 := tk7 (sf6 (sf5 (sf5 (sf5 (sf5 (sf6 (sf6 h85)))))))
     have h87 : sat g w58 [Sl 28 3 p2 m2 c2 (fl eO ((madeK nn gg T (i + 1)).2)), TW b4 nn ((madeK nn gg T (i + 1)).1), Cl r55 [iV ((opnD ((madeK nn gg T i).1) ((x40.2 % 3) + 1, (i : Int) % 64, (i : Int) / 64 + 1) [116] ((i : Int) % 256, (i : Int) / 256 + 1)).1), iV ((opnD ((madeK nn gg T i).1) ((x40.2 % 3) + 1, (i : Int) % 64, (i : Int) / 64 + 1) [116] ((i : Int) % 256, (i : Int) / 256 + 1)).2.1), uV ((opnD ((madeK nn gg T i).1) ((x40.2 % 3) + 1, (i : Int) % 64, (i : Int) / 64 + 1) [116] ((i : Int) % 256, (i : Int) / 256 + 1)).2.2)] 28, Sl 28 3 p29 (((liveL ((madeK nn gg T i).1).E).length)) c30 (fl eO (liveL ((madeK nn gg T i).1).E)), Cl r23 [iV ((i : Int) % 256), uV ((i : Int) / 256 + 1)] 34, Old wo, R] := sat_imp h86 (fun _ hh_ => by rw [show ((madeK nn gg T i).2 : List Ky) = (madeK nn gg T (i + 1)).2 from (congrArg Prod.snd ht83).symm] at hh_; exact hh_)
     have h88 := tk7 (sf6 (sf5 (sf6 (sf6 (sf4 (sf4 (sf4 h87)))))))
     have h89 := tk4 h88
     change ∃ n', n' < _ ∧ _
     refine ⟨(n - (i + 1)), by omega, (i + 1), p2, m2, c2, _, rfl, (by omega), (by omega), (mk_live [(2, .slice p0 n cp), (8, pV b4), (10, .slice p2 m2 c2), (11, iV ((((i + 1) : Nat) : Int)))] ⟨rfl, rfl, rfl, (ov_int (by omega)), trivial⟩), h89⟩
   ·
    refine draw_act (i := 21) [(16, ⟨r23, 0, none⟩, iV ((i : Int) % 256)), (16, ⟨r23, 1, none⟩, uV ((i : Int) / 256 + 1)), (5, ⟨b37, off39 + i * 2 + 1, none⟩, yV x40.2)] (by kernel_rfl) (by kernel_rfl) ?_
    refine yNp 14 28 [iV 0, iV 0, uV 0] h47 fun r90 w91 h92 => ?_
    refine ⟨(AllC_cons (sat_cell h92 3 rfl rfl) (AllC_cons (sat_cell h92 3 rfl rfl) (AllC_cons (gv_cell (j := 5) h92 rfl (gv_old hr) hp38 (fl_get eMv_ok (j := 1) (v := yV x40.2) hx41 rfl) (off39 + i * 2 + 1) (by omega)) (AllC_nil _)))), ?_⟩
    have h93 := tk7 (sf6 (sf5 (sf6 (sf6 (sf6 (sf6 (sf6 h92)))))))
    refine draw_act (i := 17) [(5, ⟨b37, off39 + i * 2 + 1, none⟩, yV x40.2)] (by kernel_rfl) (by kernel_rfl) ?_
    refine yCl 98 Try.call12 (topen_w b4 nn ((madeK nn gg T i).1) ((x40.2 % 3) + 1) ((i : Int) % 64) ((i : Int) / 64 + 1) ((i : Int) % 256) ((i : Int) / 256 + 1) [116] (by omega) (by omega) (by simp only [List.length_cons, List.length_nil]; omega)) h93 ?_
    rintro v K w94 (⟨rfl, rfl⟩) h95
    refine ⟨_, rfl, ?_⟩
    have h96 := ap1 h95
    refine ⟨(AllC_cons (gv_cell (j := 5) h96 rfl (gv_old hr) hp38 (fl_get eMv_ok (j := 1) (v := yV x40.2) hx41 rfl) (off39 + i * 2 + 1) (by omega)) (AllC_nil _)), ?_⟩
    refine yD _ [(100, iV ((opnE ((madeK nn gg T i).1) ((x40.2 % 3) + 1, (i : Int) % 64, (i : Int) / 64 + 1) [116] ((i : Int) % 256, (i : Int) / 256 + 1)))), (99, .agg #[iV ((opnD ((madeK nn gg T i).1) ((x40.2 % 3) + 1, (i : Int) % 64, (i : Int) / 64 + 1) [116] ((i : Int) % 256, (i : Int) / 256 + 1)).1), iV ((opnD ((madeK nn gg T i).1) ((x40.2 % 3) + 1, (i : Int) % 64, (i : Int) / 64 + 1) [116] ((i : Int) % 256, (i : Int) / 256 + 1)).2.1), uV ((opnD ((madeK nn gg T i).1) ((x40.2 % 3) + 1, (i : Int) % 64, (i : Int) / 64 + 1) [116] ((i : Int) % 256, (i : Int) / 256 + 1)).2.2)]), (80, .tuple #[.agg #[iV ((opnD ((madeK nn gg T i).1) ((x40.2 % 3) + 1, (i : Int) % 64, (i : Int) / 64 + 1) [116] ((i : Int) % 256, (i : Int) / 256 + 1)).1), iV ((opnD ((madeK nn gg T i).1) ((x40.2 % 3) + 1, (i : Int) % 64, (i : Int) / 64 + 1) [116] ((i : Int) % 256, (i : Int) / 256 + 1)).2.1), uV ((opnD ((madeK nn gg T i).1) ((x40.2 % 3) + 1, (i : Int) % 64, (i : Int) / 64 + 1) [116] ((i : Int) % 256, (i : Int) / 256 + 1)).2.2)], iV ((opnE ((madeK nn gg T i).1) ((x40.2 % 3) + 1, (i : Int) % 64, (i : Int) / 64 + 1) [116] ((i : Int) % 256, (i : Int) / 256 + 1)))])] [e0 18, e0 19, e0 20] [] [] trivial nC ?_
    refine fk_cut ([(100, iV ((opnE ((madeK nn gg T i).1) ((x40.2 % 3) + 1, (i : Int) % 64, (i : Int) / 64 + 1) [116] ((i : Int) % 256, (i : Int) / 256 + 1)))), (99, .agg #[iV ((opnD ((madeK nn gg T i).1) ((x40.2 % 3) + 1, (i : Int) % 64, (i : Int) / 64 + 1) [116] ((i : Int) % 256, (i : Int) / 256 + 1)).1), iV ((opnD ((madeK nn gg T i).1) ((x40.2 % 3) + 1, (i : Int) % 64, (i : Int) / 64 + 1) [116] ((i : Int) % 256, (i : Int) / 256 + 1)).2.1), uV ((opnD ((madeK nn gg T i).1) ((x40.2 % 3) + 1, (i : Int) % 64, (i : Int) / 64 + 1) [116] ((i : Int) % 256, (i : Int) / 256 + 1)).2.2)]), (14, pV r90), (2, .slice p0 n cp), (8, pV b4), (10, .slice p2 m2 c2), (11, iV (i : Int)), (12, pV r23), (13, .slice p29 (((liveL ((madeK nn gg T i).1).E).length)) c30), (72, .bool true)] : Fr) (by kernel_rfl) (fun a => RW _ _ _ _ _ a _) (fun lr97 => ?_)
    have h98 := tk7 (sf6 (sf5 (sf6 (sf6 (sf6 (sf6 (sf6 h96)))))))
    refine draw_act (i := 22) [] (by kernel_rfl) (by kernel_rfl) ?_
    refine yS [(0, iV ((opnD ((madeK nn gg T i).1) ((x40.2 % 3) + 1, (i : Int) % 64, (i : Int) / 64 + 1) [116] ((i : Int) % 256, (i : Int) / 256 + 1)).1)), (1, iV ((opnD ((madeK nn gg T i).1) ((x40.2 % 3) + 1, (i : Int) % 64, (i : Int) / 64 + 1) [116] ((i : Int) % 256, (i : Int) / 256 + 1)).2.1)), (2, uV ((opnD ((madeK nn gg T i).1) ((x40.2 % 3) + 1, (i : Int) % 64, (i : Int) / 64 + 1) [116] ((i : Int) % 256, (i : Int) / 256 + 1)).2.2))] [iV ((opnD ((madeK nn gg T i).1) ((x40.2 % 3) + 1, (i : Int) % 64, (i : Int) / 64 + 1) [116] ((i : Int) % 256, (i : Int) / 256 + 1)).1), iV ((opnD ((madeK nn gg T i).1) ((x40.2 % 3) + 1, (i : Int) % 64, (i : Int) / 64 + 1) [116] ((i : Int) % 256, (i : Int) / 256 + 1)).2.1), uV ((opnD ((madeK nn gg T i).1) ((x40.2 % 3) + 1, (i : Int) % 64, (i : Int) / 64 + 1) [116] ((i : Int) % 256, (i : Int) / 256 + 1)).2.2)] h98 fun w99 h100 => ?_
    refine ⟨(AllC_nil _), ?_⟩
    refine yD _ [(15, iV ((opnE ((madeK nn gg T i).1) ((x40.2 % 3) + 1, (i : Int) % 64, (i : Int) / 64 + 1) [116] ((i : Int) % 256, (i : Int) / 256 + 1))))] [e0 23] [] [] trivial nC ?_
    refine yK [(2, .slice p0 n cp), (8, pV b4), (10, .slice p2 m2 c2), (11, iV (i : Int)), (14, pV r90), (15, iV ((opnE ((madeK nn gg T i).1) ((x40.2 % 3) + 1, (i : Int) % 64, (i : Int) / 64 + 1) [116] ((i : Int) % 256, (i : Int) / 256 + 1))))] fun lr101 => ?_
    refine ySq ?_
    refine yPl [0, 1] ?_
    refine yB0 [1] [0] [(101, iV ((opnE ((madeK nn gg T i).1) ((x40.2 % 3) + 1, (i : Int) % 64, (i : Int) / 64 + 1) [116] ((i : Int) % 256, (i : Int) / 256 + 1))))] ?_
    by_cases c102 : (opnE ((madeK nn gg T i).1) ((x40.2 % 3) + 1, (i : Int) % 64, (i : Int) / 64 + 1) [116] ((i : Int) % 256, (i : Int) / 256 + 1)) = 0
    ·
     refine yBb [] [(102, .bool true)] [e1 1 (.bool true)] [] [(.bool (((opnE ((madeK nn gg T i).1) ((x40.2 % 3) + 1, (i : Int) % 64, (i : Int) / 64 + 1) [116] ((i : Int) % 256, (i : Int) / 256 + 1))) == 0), .bool true)] ⟨(ov_et (by omega)), trivial⟩ nC (.mk ?_)
     refine yK [(2, .slice p0 n cp), (8, pV b4), (10, .slice p2 m2 c2), (11, iV (i : Int)), (14, pV r90), (102, .bool true)] fun lr103 => ?_
     refine yCt ?_
     refine yPl [0, 1, 2, 3, 4] ?_
     refine yBb [2, 3, 4] [(104, .agg #[iV ((opnD ((madeK nn gg T i).1) ((x40.2 % 3) + 1, (i : Int) % 64, (i : Int) / 64 + 1) [116] ((i : Int) % 256, (i : Int) / 256 + 1)).1), iV ((opnD ((madeK nn gg T i).1) ((x40.2 % 3) + 1, (i : Int) % 64, (i : Int) / 64 + 1) [116] ((i : Int) % 256, (i : Int) / 256 + 1)).2.1), uV ((opnD ((madeK nn gg T i).1) ((x40.2 % 3) + 1, (i : Int) % 64, (i : Int) / 64 + 1) [116] ((i : Int) % 256, (i : Int) / 256 + 1)).2.2)]), (103, .slice p2 m2 c2)] [e0 0, e2 1 [iV ((opnD ((madeK nn gg T i).1) ((x40.2 % 3) + 1, (i : Int) % 64, (i : Int) / 64 + 1) [116] ((i : Int) % 256, (i : Int) / 256 + 1)).1), iV ((opnD ((madeK nn gg T i).1) ((x40.2 % 3) + 1, (i : Int) % 64, (i : Int) / 64 + 1) [116] ((i : Int) % 256, (i : Int) / 256 + 1)).2.1), uV ((opnD ((madeK nn gg T i).1) ((x40.2 % 3) + 1, (i : Int) % 64, (i : Int) / 64 + 1) [116] ((i : Int) % 256, (i : Int) / 256 + 1)).2.2)]] [(1, ⟨r90, 0, none⟩, iV ((opnD ((madeK nn gg T i).1) ((x40.2 % 3) + 1, (i : Int) % 64, (i : Int) / 64 + 1) [116] ((i : Int) % 256, (i : Int) / 256 + 1)).1)), (1, ⟨r90, 1, none⟩, iV ((opnD ((madeK nn gg T i).1) ((x40.2 % 3) + 1, (i : Int) % 64, (i : Int) / 64 + 1) [116] ((i : Int) % 256, (i : Int) / 256 + 1)).2.1)), (1, ⟨r90, 2, none⟩, uV ((opnD ((madeK nn gg T i).1) ((x40.2 % 3) + 1, (i : Int) % 64, (i : Int) / 64 + 1) [116] ((i : Int) % 256, (i : Int) / 256 + 1)).2.2))] [] trivial (kC (sat_cell h100 0 rfl rfl) (kC (sat_cell h100 0 rfl rfl) (kC (sat_cell h100 0 rfl rfl) nC))) ?_
     refine yA ?_
     refine an_new (d := 105) (fun xb_ => .slice (some ⟨xb_, 0, none⟩) 1 1) (fun xb_ => Obj.cells [iV ((opnD ((madeK nn gg T i).1) ((x40.2 % 3) + 1, (i : Int) % 64, (i : Int) / 64 + 1) [116] ((i : Int) % 256, (i : Int) / 256 + 1)).1), iV ((opnD ((madeK nn gg T i).1) ((x40.2 % 3) + 1, (i : Int) % 64, (i : Int) / 64 + 1) [116] ((i : Int) % 256, (i : Int) / 256 + 1)).2.1), uV ((opnD ((madeK nn gg T i).1) ((x40.2 % 3) + 1, (i : Int) % 64, (i : Int) / 64 + 1) [116] ((i : Int) % 256, (i : Int) / 256 + 1)).2.2)].toArray 28 (0, 0)) (fun xb_ => by kernel_rfl) (by kernel_rfl) rfl h100 ?_
     intro r104 w105 (h106 : sat g w105 [Cl r104 [iV ((opnD ((madeK nn gg T i).1) ((x40.2 % 3) + 1, (i : Int) % 64, (i : Int) / 64 + 1) [116] ((i : Int) % 256, (i : Int) / 256 + 1)).1), iV ((opnD ((madeK nn gg T i).1) ((x40.2 % 3) + 1, (i : Int) % 64, (i : Int) / 64 + 1) [116] ((i : Int) % 256, (i : Int) / 256 + 1)).2.1), uV ((opnD ((madeK nn gg T i).1) ((x40.2 % 3) + 1, (i : Int) % 64, (i : Int) / 64 + 1) [116] ((i : Int) % 256, (i : Int) / 256 + 1)).2.2)] 28, Cl r90 [iV ((opnD ((madeK nn gg T i).1) ((x40.2 % 3) + 1, (i : Int) % 64, (i : Int) / 64 + 1) [116] ((i : Int) % 256, (i : Int) / 256 + 1)).1), iV ((opnD ((madeK nn gg T i).1) ((x40.2 % 3) + 1, (i : Int) % 64, (i : Int) / 64 + 1) [116] ((i : Int) % 256, (i : Int) / 256 + 1)).2.1), uV ((opnD ((madeK nn gg T i).1) ((x40.2 % 3) + 1, (i : Int) % 64, (i : Int) / 64 + 1) [116] ((i : Int) % 256, (i : Int) / 256 + 1)).2.2)] 28, TW b4 nn (opnS ((madeK nn gg T i).1) ((x40.2 % 3) + 1, (i : Int) % 64, (i : Int) / 64 + 1) [116] ((i : Int) % 256, (i : Int) / 256 + 1)), Sl 28 3 p29 (((liveL ((madeK nn gg T i).1).E).length)) c30 (fl eO (liveL ((madeK nn gg T i).1).E)), Cl r23 [iV ((i : Int) % 256), uV ((i : Int) / 256 + 1)] 34, Sl 28 3 p2 m2 c2 (fl eO ((madeK nn gg T i).2)), Old wo, R])
     have h107 := tk8 (sf7 (sf6 (sf6 (sf6 (sf6 (sf6 (sf7 (sf7 h106))))))))
     refine yA ?_
     refine an_append (d := 106) (sz := 3) (s := (Operand.tmp 103)) (x := (Operand.tmp 105)) (z := .agg #[iV 0, iV 0, uV 0]) (p := p2) (m := m2) (c := c2) (k := 1) (c2 := 1) (a := ⟨r104, 0, none⟩) (by_ := 24) (by kernel_rfl) (by kernel_rfl) rfl Try.underlying45 (by kernel_rfl) rfl (by decide) (by kernel_rfl) (by kernel_rfl) h107 (fl eO [((opnD ((madeK nn gg T i).1) ((x40.2 % 3) + 1, (i : Int) % 64, (i : Int) / 64 + 1) [116] ((i : Int) % 256, (i : Int) / 256 + 1)).1, (opnD ((madeK nn gg T i).1) ((x40.2 % 3) + 1, (i : Int) % 64, (i : Int) / 64 + 1) [116] ((i : Int) % 256, (i : Int) / 256 + 1)).2.1, (opnD ((madeK nn gg T i).1) ((x40.2 % 3) + 1, (i : Int) % 64, (i : Int) / 64 + 1) [116] ((i : Int) % 256, (i : Int) / 256 + 1)).2.2)]) rfl (fun j u hj => by rw [add_off]; exact sat_cell h107 1 rfl (by rw [Nat.zero_add]; exact hj)) (fl_one eO_ok _) (by omega) (by omega) (m2 + 1) (by omega) ?_
     intro p108 cap109 w110 h111
     have h112 : sat g w110 [Sl 28 3 p108 (m2 + 1) cap109 (fl eO (((madeK nn gg T i).2) ++ [((opnD ((madeK nn gg T i).1) ((x40.2 % 3) + 1, (i : Int) % 64, (i : Int) / 64 + 1) [116] ((i : Int) % 256, (i : Int) / 256 + 1)).1, (opnD ((madeK nn gg T i).1) ((x40.2 % 3) + 1, (i : Int) % 64, (i : Int) / 64 + 1) [116] ((i : Int) % 256, (i : Int) / 256 + 1)).2.1, (opnD ((madeK nn gg T i).1) ((x40.2 % 3) + 1, (i : Int) % 64, (i : Int) / 64 + 1) [116] ((i : Int) % 256, (i : Int) / 256 + 1)).2.2)])), Cl r104 [iV ((opnD ((madeK nn gg T i).1) ((x40.2 % 3) + 1, (i : Int) % 64, (i : Int) / 64 + 1) [116] ((i : Int) % 256, (i : Int) / 256 + 1)).1), iV ((opnD ((madeK nn gg T i).1) ((x40.2 % 3) + 1, (i : Int) % 64, (i : Int) / 64 + 1) [116] ((i : Int) % 256, (i : Int) / 256 + 1)).2.1), uV ((opnD ((madeK nn gg T i).1) ((x40.2 % 3) + 1, (i : Int) % 64, (i : Int) / 64 + 1) [116] ((i : Int) % 256, (i : Int) / 256 + 1)).2.2)] 28, Cl r90 [iV ((opnD ((madeK nn gg T i).1) ((x40.2 % 3) + 1, (i : Int) % 64, (i : Int) / 64 + 1) [116] ((i : Int) % 256, (i : Int) / 256 + 1)).1), iV ((opnD ((madeK nn gg T i).1) ((x40.2 % 3) + 1, (i : Int) % 64, (i : Int) / 64 + 1) [116] ((i : Int) % 256, (i : Int) / 256 + 1)).2.1), uV ((opnD ((madeK nn gg T i).1) ((x40.2 % 3) + 1, (i : Int) % 64, (i : Int) / 64 + 1) [116] ((i : Int) % 256, (i : Int) / 256 + 1)).2.2)] 28, TW b4 nn (opnS ((madeK nn gg T i).1) ((x40.2 % 3) + 1, (i : Int) % 64, (i : Int) / 64 + 1) [116] ((i : Int) % 256, (i : Int) / 256 + 1)), Sl 28 3 p29 (((liveL ((madeK nn gg T i).1).E).length)) c30 (fl eO (liveL ((madeK nn gg T i).1).E)), Cl r23 [iV ((i : Int) % 256), uV ((i : Int) / 256 + 1)] 34, Old wo, R] := sat_imp h111 (fun _ hh => by rw [fl_app]; exact hh)
     obtain ⟨hn113, hn114⟩ := sl_le h112
     refine yB0 [] [4] [(10, .slice p108 (m2 + 1) cap109)] (.mk ?_)
     refine yK [(2, .slice p0 n cp), (8, pV b4), (10, .slice p108 (m2 + 1) cap109), (11, iV (i : Int))] fun lr115 => ?_
     refine yPl [0, 1, 2] ?_
     refine yBb [] [(11, iV ((i : Int) + 1)), (39, iV ((i : Int) + 1)), (38, iV (i : Int))] [e0 0, e1 1 (iV ((i : Int) + 1)), e0 2] [] [(iV (IntKind.wrap .i64 ((i : Int) + 1)), iV ((i : Int) + 1))] ⟨(ov_i64 (by omega) (by omega) (by omega)), trivial⟩ nC (.mk ?_)
     have ht116 := madeK_go (n := nn) (g := gg) hx41 (turn_open1 (p := (madeK nn gg T i)) (i := i) (m := x40) (by omega) (by show opnE _ _ _ _ = 0; unfold tO tH; omega))
     have h117 := tk8 (sf7 (sf6 (sf6 (sf6 (sf7 (sf7 (sf7 (sf7 h112))))))))
     have h118 : sat g w110 [TW b4 nn ((madeK nn gg T (i + 1)).1), Sl 28 3 p108 (m2 + 1) cap109 (fl eO (((madeK nn gg T i).2) ++ [((opnD ((madeK nn gg T i).1) ((x40.2 % 3) + 1, (i : Int) % 64, (i : Int) / 64 + 1) [116] ((i : Int) % 256, (i : Int) / 256 + 1)).1, (opnD ((madeK nn gg T i).1) ((x40.2 % 3) + 1, (i : Int) % 64, (i : Int) / 64 + 1) [116] ((i : Int) % 256, (i : Int) / 256 + 1)).2.1, (opnD ((madeK nn gg T i).1) ((x40.2 % 3) + 1, (i : Int) % 64, (i : Int) / 64 + 1) [116] ((i : Int) % 256, (i : Int) / 256 + 1)).2.2)])), Cl r104 [iV ((opnD ((madeK nn gg T i).1) ((x40.2 % 3) + 1, (i : Int) % 64, (i : Int) / 64 + 1) [116] ((i : Int) % 256, (i : Int) / 256 + 1)).1), iV ((opnD ((madeK nn gg T i).1) ((x40.2 % 3) + 1, (i : Int) % 64, (i : Int) / 64 + 1) [116] ((i : Int) % 256, (i : Int) / 256 + 1)).2.1), uV ((opnD ((madeK nn gg T i).1) ((x40.2 % 3) + 1, (i : Int) % 64, (i : Int) / 64 + 1) [116] ((i : Int) % 256, (i : Int) / 256 + 1)).2.2)] 28, Cl r90 [iV ((opnD ((madeK nn gg T i).1) ((x40.2 % 3) + 1, (i : Int) % 64, (i : Int) / 64 + 1) [116] ((i : Int) % 256, (i : Int) / 256 + 1)).1), iV ((opnD ((madeK nn gg T i).1) ((x40.2 % 3) + 1, (i : Int) % 64, (i : Int) / 64 + 1) [116] ((i : Int) % 256, (i : Int) / 256 + 1)).2.1), uV ((opnD ((madeK nn gg T i).1) ((x40.2 % 3) + 1, (i : Int) % 64, (i : Int) / 64 + 1) [116] ((i : Int) % 256, (i : Int) / 256 + 1)).2.2)] 28, Sl 28 3 p29 (((liveL ((madeK nn gg T i).1).E).length)) c30 (fl eO (liveL ((madeK nn gg T i).1).E)), Cl r23 [iV ((i : Int) % 256), uV ((i : Int) / 256 + 1)] 34, Old wo, R] := (show (opnS ((madeK nn gg T i).1) ((x40.2 % 3) + 1, (i : Int) % 64, (i : Int) / 64 + 1) [116] ((i : Int) % 256, (i : Int) / 256 + 1)) = (madeK nn gg T (i + 1)).1 from (congrArg Prod.fst ht116).symm) ▸ h117
     have h119 := tk8 (sf7 (sf6 (sf7 (sf7 (sf7 (sf7 (sf7 (sf7 h118))))))))
     have h120 : sat g w110 [Sl 28 3 p108 (m2 + 1) cap109 (fl eO ((madeK nn gg T (i + 1)).2)), TW b4 nn ((madeK nn gg T (i + 1)).1), Cl r104 [iV ((opnD ((madeK nn gg T i).1) ((x40.2 % 3) + 1, (i : Int) % 64, (i : Int) / 64 + 1) [116] ((i : Int) % 256, (i : Int) / 256 + 1)).1), iV ((opnD ((madeK nn gg T i).1) ((x40.2 % 3) + 1, (i : Int) % 64, (i : Int) / 64 + 1) [116] ((i : Int) % 256, (i : Int) / 256 + 1)).2.1), uV ((opnD ((madeK nn gg T i).1) ((x40.2 % 3) + 1, (i : Int) % 64, (i : Int) / 64 + 1) [116] ((i : Int) % 256, (i : Int) / 256 + 1)).2.2)] 28, Cl r90 [iV ((opnD ((madeK nn gg T i).1) ((x40.2 % 3) + 1, (i : Int) % 64, (i : Int) / 64 + 1) [116] ((i : Int) % 256, (i : Int) / 256 + 1)).1), iV ((opnD ((madeK nn gg T i).1) ((x40.2 % 3) + 1, (i : Int) % 64, (i : Int) / 64 + 1) [116] ((i : Int) % 256, (i : Int) / 256 + 1)).2.1), uV ((opnD ((madeK nn gg T i).1) ((x40.2 % 3) + 1, (i : Int) % 64, (i : Int) / 64 + 1) [116] ((i : Int) % 256, (i : Int) / 256 + 1)).2.2)] 28, Sl 28 3 p29 (((liveL ((madeK nn gg T i).1).E).length)) c30 (fl eO (liveL ((madeK nn gg T i).1).E)), Cl r23 [iV ((i : Int) % 256), uV ((i : Int) / 256 + 1)] 34, Old wo, R] := sat_imp h119 (fun _ hh_ => by rw [show ((((madeK nn gg T i).2) ++ [((opnD ((madeK nn gg T i).1) ((x40.2 % 3) + 1, (i : Int) % 64, (i : Int) / 64 + 1) [116] ((i : Int) % 256, (i : Int) / 256 + 1)).1, (opnD ((madeK nn gg T i).1) ((x40.2 % 3) + 1, (i : Int) % 64, (i : Int) / 64 + 1) [116] ((i : Int) % 256, (i : Int) / 256 + 1)).2.1, (opnD ((madeK nn gg T i).1) ((x40.2 % 3) + 1, (i : Int) % 64, (i : Int) / 64 + 1) [116] ((i : Int) % 256, (i : Int) / 256 + 1)).2.2)]) : List Ky) = (madeK nn gg T (i + 1)).2 from (congrArg Prod.snd ht116).symm] at hh_; exact hh_)
     have h121 := tk8 (sf7 (sf6 (sf7 (sf7 (sf5 (sf5 (sf5 (sf5 h120))))))))
     have h122 := tk4 h121
     change ∃ n', n' < _ ∧ _
     refine ⟨(n - (i + 1)), by omega, (i + 1), p108, m2 + 1, cap109, _, rfl, (by omega), (by omega), (mk_live [(2, .slice p0 n cp), (8, pV b4), (10, .slice p108 (m2 + 1) cap109), (11, iV ((((i + 1) : Nat) : Int)))] ⟨rfl, rfl, rfl, (ov_int (by omega)), trivial⟩), h122⟩
    ·
     refine yBb [] [(102, .bool false)] [e1 1 (.bool false)] [] [(.bool (((opnE ((madeK nn gg T i).1) ((x40.2 % 3) + 1, (i : Int) % 64, (i : Int) / 64 + 1) [116] ((i : Int) % 256, (i : Int) / 256 + 1))) == 0), .bool false)] ⟨(ov_ef (by omega)), trivial⟩ nC (.mk ?_)
     refine yK [(2, .slice p0 n cp), (8, pV b4), (10, .slice p2 m2 c2), (11, iV (i : Int)), (14, pV r90), (102, .bool false)] fun lr123 => ?_
     refine yCf ?_
     refine ySk ?_
     refine yPl [0, 1, 2] ?_
     refine yBb [] [(11, iV ((i : Int) + 1)), (39, iV ((i : Int) + 1)), (38, iV (i : Int))] [e0 0, e1 1 (iV ((i : Int) + 1)), e0 2] [] [(iV (IntKind.wrap .i64 ((i : Int) + 1)), iV ((i : Int) + 1))] ⟨(ov_i64 (by omega) (by omega) (by omega)), trivial⟩ nC (.mk ?_)
     have ht124 := madeK_go (n := nn) (g := gg) hx41 (turn_open0 (p := (madeK nn gg T i)) (i := i) (m := x40) (by omega) (by show opnE _ _ _ _ ≠ 0; unfold tO tH; omega))
     have h125 := tk7 (sf6 (sf5 (sf6 (sf6 (sf6 (sf6 (sf6 h100)))))))
     have h126 : sat g w99 [TW b4 nn ((madeK nn gg T (i + 1)).1), Cl r90 [iV ((opnD ((madeK nn gg T i).1) ((x40.2 % 3) + 1, (i : Int) % 64, (i : Int) / 64 + 1) [116] ((i : Int) % 256, (i : Int) / 256 + 1)).1), iV ((opnD ((madeK nn gg T i).1) ((x40.2 % 3) + 1, (i : Int) % 64, (i : Int) / 64 + 1) [116] ((i : Int) % 256, (i : Int) / 256 + 1)).2.1), uV ((opnD ((madeK nn gg T i).1) ((x40.2 % 3) + 1, (i : Int) % 64, (i : Int) / 64 + 1) [116] ((i : Int) % 256, (i : Int) / 256 + 1)).2.2)] 28, Sl 28 3 p29 (((liveL ((madeK nn gg T i).1).E).length)) c30 (fl eO (liveL ((madeK nn gg T i).1).E)), Cl r23 [iV ((i : Int) % 256), uV ((i : Int) / 256 + 1)] 34, Sl 28 3 p2 m2 c2 (fl eO ((madeK nn gg T i).2)), Old wo, R] := (show (opnS ((madeK nn gg T i).1) ((x40.2 % 3) + 1, (i : Int) % 64, (i : Int) / 64 + 1) [116] ((i : Int) % 256, (i : Int) / 256 + 1)) = (madeK nn gg T (i + 1)).1 from (congrArg Prod.fst ht124).symm) ▸ h125
     have h127 := tk7 (sf6 (sf5 (sf5 (sf5 (sf5 (sf6 (sf6 h126)))))))
     have h128 : sat g w99 [Sl 28 3 p2 m2 c2 (fl eO ((madeK nn gg T (i + 1)).2)), TW b4 nn ((madeK nn gg T (i + 1)).1), Cl r90 [iV ((opnD ((madeK nn gg T i).1) ((x40.2 % 3) + 1, (i : Int) % 64, (i : Int) / 64 + 1) [116] ((i : Int) % 256, (i : Int) / 256 + 1)).1), iV ((opnD ((madeK nn gg T i).1) ((x40.2 % 3) + 1, (i : Int) % 64, (i : Int) / 64 + 1) [116] ((i : Int) % 256, (i : Int) / 256 + 1)).2.1), uV ((opnD ((madeK nn gg T i).1) ((x40.2 % 3) + 1, (i : Int) % 64, (i : Int) / 64 + 1) [116] ((i : Int) % 256, (i : Int) / 256 + 1)).2.2)] 28, Sl 28 3 p29 (((liveL ((madeK nn gg T i).1).E).length)) c30 (fl eO (liveL ((madeK nn gg T i).1).E)), Cl r23 [iV ((i : Int) % 256), uV ((i : Int) / 256 + 1)] 34, Old wo, R] := sat_imp h127 (fun _ hh_ => by rw [show ((madeK nn gg T i).2 : List Ky) = (madeK nn gg T (i + 1)).2 from (congrArg Prod.snd ht124).symm] at hh_; exact hh_)
     have h129 := tk7 (sf6 (sf5 (sf6 (sf6 (sf4 (sf4 (sf4 h128)))))))
     have h130 := tk4 h129
     change ∃ n', n' < _ ∧ _
     refine ⟨(n - (i + 1)), by omega, (i + 1), p2, m2, c2, _, rfl, (by omega), (by omega), (mk_live [(2, .slice p0 n cp), (8, pV b4), (10, .slice p2 m2 c2), (11, iV ((((i + 1) : Nat) : Int)))] ⟨rfl, rfl, rfl, (ov_int (by omega)), trivial⟩), h130⟩
  ·
   refine yBb [] [(72, .bool false), (79, .bool false)] [e1 6 (.bool false), e0 7] [] [(.bool (decide ((x40.1 % 8) < 3)), .bool false)] ⟨(ov_f (by omega)), trivial⟩ nC (.mk ?_)
   refine yK [(2, .slice p0 n cp), (8, pV b4), (10, .slice p2 m2 c2), (11, iV (i : Int)), (12, pV r23), (13, .slice p29 (((liveL ((madeK nn gg T i).1).E).length)) c30), (72, .bool false)] fun lr131 => ?_
   refine yCf ?_
   refine ySq ?_
   refine yPl [0, 1, 2, 3] ?_
   refine yB0 [2, 3] [0, 1] [(109, iV ((((liveL ((madeK nn gg T i).1).E).length : Nat) : Int))), (108, .slice p29 (((liveL ((madeK nn gg T i).1).E).length)) c30)] ?_
   by_cases c132 : (((liveL ((madeK nn gg T i).1).E).length : Nat) : Int) = 0
   ·
    refine yBb [] [(107, .bool true), (110, .bool true)] [e1 2 (.bool true), e0 3] [] [(.bool (((((liveL ((madeK nn gg T i).1).E).length : Nat) : Int)) == 0), .bool true)] ⟨(ov_et (by omega)), trivial⟩ nC (.mk ?_)
    refine yK [(2, .slice p0 n cp), (8, pV b4), (10, .slice p2 m2 c2), (11, iV (i : Int)), (12, pV r23), (13, .slice p29 (((liveL ((madeK nn gg T i).1).E).length)) c30), (107, .bool true)] fun lr133 => ?_
    refine yCt ?_
    refine ySk ?_
    refine yPl [0, 1, 2] ?_
    refine yBb [] [(11, iV ((i : Int) + 1)), (39, iV ((i : Int) + 1)), (38, iV (i : Int))] [e0 0, e1 1 (iV ((i : Int) + 1)), e0 2] [] [(iV (IntKind.wrap .i64 ((i : Int) + 1)), iV ((i : Int) + 1))] ⟨(ov_i64 (by omega) (by omega) (by omega)), trivial⟩ nC (.mk ?_)
    have ht134 := madeK_go (n := nn) (g := gg) hx41 (turn_none (p := (madeK nn gg T i)) (i := i) (m := x40) (by omega) (by omega))
    have h135 : sat g w33 [TW b4 nn ((madeK nn gg T (i + 1)).1), Sl 28 3 p29 (((liveL ((madeK nn gg T i).1).E).length)) c30 (fl eO (liveL ((madeK nn gg T i).1).E)), Cl r23 [iV ((i : Int) % 256), uV ((i : Int) / 256 + 1)] 34, Sl 28 3 p2 m2 c2 (fl eO ((madeK nn gg T i).2)), Old wo, R] := (show (madeK nn gg T i).1 = (madeK nn gg T (i + 1)).1 from (congrArg Prod.fst ht134).symm) ▸ h35
    have h136 := tk6 (sf5 (sf4 (sf4 (sf4 (sf5 (sf5 h135))))))
    have h137 : sat g w33 [Sl 28 3 p2 m2 c2 (fl eO ((madeK nn gg T (i + 1)).2)), TW b4 nn ((madeK nn gg T (i + 1)).1), Sl 28 3 p29 (((liveL ((madeK nn gg T i).1).E).length)) c30 (fl eO (liveL ((madeK nn gg T i).1).E)), Cl r23 [iV ((i : Int) % 256), uV ((i : Int) / 256 + 1)] 34, Old wo, R] := sat_imp h136 (fun _ hh_ => by rw [show ((madeK nn gg T i).2 : List Ky) = (madeK nn gg T (i + 1)).2 from (congrArg Prod.snd ht134).symm] at hh_; exact hh_)
    have h138 := tk6 (sf5 (sf4 (sf5 (sf5 (sf3 (sf3 h137))))))
    have h139 := tk4 h138
    change ∃ n', n' < _ ∧ _
    refine ⟨(n - (i + 1)), by omega, (i + 1), p2, m2, c2, _, rfl, (by omega), (by omega), (mk_live [(2, .slice p0 n cp), (8, pV b4), (10, .slice p2 m2 c2), (11, iV ((((i + 1) : Nat) : Int)))] ⟨rfl, rfl, rfl, (ov_int (by omega)), trivial⟩), h139⟩
   ·
    refine yBb [] [(107, .bool false), (110, .bool false)] [e1 2 (.bool false), e0 3] [] [(.bool (((((liveL ((madeK nn gg T i).1).E).length : Nat) : Int)) == 0), .bool false)] ⟨(ov_ef (by omega)), trivial⟩ nC (.mk ?_)
    refine yK [(2, .slice p0 n cp), (8, pV b4), (10, .slice p2 m2 c2), (11, iV (i : Int)), (12, pV r23), (13, .slice p29 (((liveL ((madeK nn gg T i).1).E).length)) c30), (107, .bool false)] fun lr140 => ?_
    refine yCf ?_
    refine ySq ?_
    refine yPl [0, 1, 2, 3, 4, 5, 6, 7] ?_
    refine yB0 [2, 3, 4, 5, 6, 7] [0, 1] [(113, iV (i : Int)), (112, .slice p0 n cp)] ?_
    refine plain_law (i := 2) 114 (.pointer (some ⟨b37, off39 + i * 2, none⟩)) (by kernel_rfl) (law_indexSlP (o := opA (RA Try.f19 [1, 1, 1, 1, 0, 1, 0, 0, 1, 0, 0, 1, 1, 0, 1, 1, 1, 1, 0]) 2) (x := (Operand.tmp 112)) (i := (Operand.tmp 113)) (p := p0) (b := b37) (off := off39) (z := (i : Int)) (len := n) (cap := cp) (by kernel_rfl) Try.underlying44 2 (by kernel_rfl) i (by kernel_rfl) hp38 (by kernel_rfl) (by omega) (by omega) (off39 + i * 2) (by omega) _) ?_
    have hb141 := rem_bd (a := x40.1) (b := 8) (by omega) (by omega)
    refine yBb [5, 6, 7] [(116, yV x40.1), (115, .pointer (some ⟨b37, off39 + i * 2, none⟩))] [e0 3, e2 4 [yV x40.1]] [(4, ⟨b37, off39 + i * 2, none⟩, yV x40.1)] [] trivial (kC (gv_cell (j := 4) h35 rfl (gv_old hr) hp38 (fl_get eMv_ok (j := 0) (v := yV x40.1) hx41 rfl) (off39 + i * 2) (by omega)) nC) ?_
    refine plain_law (i := 5) 117 (yV ((x40.1 % 8))) (by kernel_rfl) (law_rem (o := opA (RA Try.f19 [1, 1, 1, 1, 0, 1, 0, 0, 1, 0, 0, 1, 1, 0, 1, 1, 1, 1, 0]) 5) (t := 5) (x := (Operand.tmp 116)) (y := (Operand.const (yV 8))) (by kernel_rfl) x40.1 8 (by kernel_rfl) (by kernel_rfl) (by omega) ((x40.1 % 8)) (rem_ex (by omega)) _) ?_
    by_cases c142 : (x40.1 % 8) < 5
    ·
     refine yBb [] [(111, .bool true), (118, .bool true)] [e1 6 (.bool true), e0 7] [] [(.bool (decide ((x40.1 % 8) < 5)), .bool true)] ⟨(ov_t (by omega)), trivial⟩ nC (.mk ?_)
     refine yK [(2, .slice p0 n cp), (8, pV b4), (10, .slice p2 m2 c2), (11, iV (i : Int)), (12, pV r23), (13, .slice p29 (((liveL ((madeK nn gg T i).1).E).length)) c30), (111, .bool true)] fun lr143 => ?_
     refine yCt ?_
     refine ySq ?_
     refine gi_drw (id := 19) (ops := RA Try.f19 [1, 1, 1, 1, 0, 1, 0, 0, 1, 0, 0, 1, 1, 0, 1, 1, 1, 1, 1, 0, 0]) (Tr.fl 0 (Tr.fl 1 (Tr.fl 2 (Tr.fl 3 (Tr.fl 4 (Tr.fl 5 (Tr.fl 6 (Tr.fl 7 (Tr.fl 8 (Tr.fl 9 (Tr.fl 10 (Tr.fl 11 (Tr.fl 12 (Tr.fl 13 (Tr.an2 14 (Tr.fl 15 (Tr.fl 16 (Tr.fl 17 (Tr.an 18 (Tr.an 19 (Tr.fl 20 Tr.nil)))))) 18 (Tr.an 14 (Tr.fl 15 (Tr.fl 16 (Tr.fl 17 (Tr.an 19 (Tr.fl 20 Tr.nil))))))))))))))))))))) (by kernel_rfl) (by kernel_rfl) (by kernel_rfl) (by kernel_rfl) (by kernel_rfl) (fun _ _ d _ _ h => by cases d <;> exact h) h35 ?_
     intro w144 h145
     refine yD _ [(123, iV (i : Int)), (122, .slice p0 n cp), (121, .slice p29 (((liveL ((madeK nn gg T i).1).E).length)) c30), (120, pV b4)] [e0 0, e0 1, e0 2, e0 3] [] [] trivial nC ?_
     refine draw_law (i := 4) 124 (.pointer (some ⟨b37, off39 + i * 2, none⟩)) [] (by kernel_rfl) (fun _ _ => law_indexSlP (o := opA (RA Try.f19 [1, 1, 1, 1, 0, 1, 0, 0, 1, 0, 0, 1, 1, 0, 1, 1, 1, 1, 1, 0, 0]) 4) (x := (Operand.tmp 122)) (i := (Operand.tmp 123)) (p := p0) (b := b37) (off := off39) (z := (i : Int)) (len := n) (cap := cp) (by kernel_rfl) Try.underlying44 2 (by kernel_rfl) i (by kernel_rfl) hp38 (by kernel_rfl) (by omega) (by omega) (off39 + i * 2) (by omega) _) (by intro q hq; cases hq) ?_
     have hb146 := rem_bd (a := x40.2) (b := (((liveL ((madeK nn gg T i).1).E).length : Nat) : Int)) (by omega) (by omega)
     refine yD _ [(129, iV ((((liveL ((madeK nn gg T i).1).E).length : Nat) : Int))), (128, .slice p29 (((liveL ((madeK nn gg T i).1).E).length)) c30), (127, iV x40.2), (126, yV x40.2), (125, .pointer (some ⟨b37, off39 + i * 2 + 1, none⟩))] [e0 5, e2 6 [yV x40.2], e1 7 (iV x40.2), e0 8, e0 9] [(6, ⟨b37, off39 + i * 2 + 1, none⟩, yV x40.2)] [(iV (IntKind.wrap .i64 x40.2), iV x40.2)] ⟨(ov_i64 rfl (by omega) (by omega)), trivial⟩ (kC (gv_cell (j := 4) h145 rfl (gv_old hr) hp38 (fl_get eMv_ok (j := 1) (v := yV x40.2) hx41 rfl) (off39 + i * 2 + 1) (by omega)) nC) ?_
     refine draw_law (i := 10) 130 (iV ((x40.2 % ((((liveL ((madeK nn gg T i).1).E).length : Nat) : Int))))) [] (by kernel_rfl) (fun _ _ => law_rem (o := opA (RA Try.f19 [1, 1, 1, 1, 0, 1, 0, 0, 1, 0, 0, 1, 1, 0, 1, 1, 1, 1, 1, 0, 0]) 10) (t := 3) (x := (Operand.tmp 127)) (y := (Operand.tmp 129)) (by kernel_rfl) x40.2 ((((liveL ((madeK nn gg T i).1).E).length : Nat) : Int)) (by kernel_rfl) (by kernel_rfl) (by omega) ((x40.2 % ((((liveL ((madeK nn gg T i).1).E).length : Nat) : Int)))) (rem_ex (by omega)) _) (by intro q hq; cases hq) ?_
     obtain ⟨b147, hp148⟩ := sl_ptr0 (j := 1) h145 rfl (by omega)
     obtain ⟨kk149, hk150⟩ : ∃ z_ : Nat, (x40.2 % ((((liveL ((madeK nn gg T i).1).E).length : Nat) : Int))) = (z_ : Int) := ⟨((x40.2 % ((((liveL ((madeK nn gg T i).1).E).length : Nat) : Int)))).toNat, by omega⟩
     refine draw_law (i := 11) 131 (.pointer (some ⟨b147, kk149 * 3, none⟩)) [] (by kernel_rfl) (fun _ _ => law_indexSlP (o := opA (RA Try.f19 [1, 1, 1, 1, 0, 1, 0, 0, 1, 0, 0, 1, 1, 0, 1, 1, 1, 1, 1, 0, 0]) 11) (x := (Operand.tmp 121)) (i := (Operand.tmp 130)) (p := p29) (b := b147) (off := 0) (z := ((x40.2 % ((((liveL ((madeK nn gg T i).1).E).length : Nat) : Int))))) (len := (((liveL ((madeK nn gg T i).1).E).length))) (cap := c30) (by kernel_rfl) Try.underlying45 3 (by kernel_rfl) kk149 (by kernel_rfl) hp148 (by kernel_rfl) (by omega) (by omega) (kk149 * 3) (by omega) _) (by intro q hq; cases hq) ?_
     have h151 := tk6 (sf5 (sf4 (sf5 (sf5 (sf5 (sf5 h145))))))
     have hl152 := fl_n eO_ok (by decide) h151
     obtain ⟨x153, hx154⟩ : ∃ x, (liveL ((madeK nn gg T i).1).E)[kk149]? = some x := ⟨_, List.getElem?_eq_getElem (by rw [hl152]; omega)⟩
     have hv155 := live_ok hWi_ (List.mem_of_getElem? hx154)
     have hv155a := hv155.1; have hv155b := hv155.2.2.1; unfold goodD at hv155a
     refine yD _ [(133, .agg #[iV ((i : Int) % 256), uV ((i : Int) / 256 + 1)]), (132, .agg #[iV x153.1, iV x153.2.1, uV x153.2.2])] [e2 12 [iV x153.1, iV x153.2.1, uV x153.2.2], e2 13 [iV ((i : Int) % 256), uV ((i : Int) / 256 + 1)]] [(13, ⟨r23, 0, none⟩, iV ((i : Int) % 256)), (13, ⟨r23, 1, none⟩, uV ((i : Int) / 256 + 1)), (12, ⟨b147, kk149 * 3, none⟩, iV x153.1), (12, ⟨b147, kk149 * 3 + 1, none⟩, iV x153.2.1), (12, ⟨b147, kk149 * 3 + 2, none⟩, uV x153.2.2)] [] trivial (kC (sat_cell h151 2 rfl rfl) (kC (sat_cell h151 2 rfl rfl) (kC (gv_cell (j := 0) h151 rfl (gv_sl _ _ _) hp148 (fl_get eO_ok (j := 0) (v := iV x153.1) hx154 rfl) (kk149 * 3) (by omega)) (kC (gv_cell (j := 0) h151 rfl (gv_sl _ _ _) hp148 (fl_get eO_ok (j := 1) (v := iV x153.2.1) hx154 rfl) (kk149 * 3 + 1) (by omega)) (kC (gv_cell (j := 0) h151 rfl (gv_sl _ _ _) hp148 (fl_get eO_ok (j := 2) (v := uV x153.2.2) hx154 rfl) (kk149 * 3 + 2) (by omega)) nC))))) ?_
     refine ⟨?_, ?_⟩
     ·
      have h156 := tk6 (sf5 (sf4 (sf5 (sf5 (sf5 (sf5 h151))))))
      refine draw_act (i := 14) [(6, ⟨b37, off39 + i * 2 + 1, none⟩, yV x40.2)] (by kernel_rfl) (by kernel_rfl) ?_
      refine yCl 134 Try.call14 (tdup_w b4 nn ((madeK nn gg T i).1) x153.1 x153.2.1 x153.2.2 ((i : Int) % 256) ((i : Int) / 256 + 1) (by omega) (by omega)) h156 ?_
      rintro v K w157 (⟨rfl, rfl⟩) h158
      refine ⟨_, rfl, ?_⟩
      have h159 := ap1 h158
      refine ⟨(AllC_cons (gv_cell (j := 4) h159 rfl (gv_old hr) hp38 (fl_get eMv_ok (j := 1) (v := yV x40.2) hx41 rfl) (off39 + i * 2 + 1) (by omega)) (AllC_nil _)), ?_⟩
      refine yD _ [(136, iV ((dupE ((madeK nn gg T i).1) (x153.1, x153.2.1, x153.2.2) ((i : Int) % 256, (i : Int) / 256 + 1)))), (135, .agg #[iV ((dupD ((madeK nn gg T i).1) (x153.1, x153.2.1, x153.2.2) ((i : Int) % 256, (i : Int) / 256 + 1)).1), iV ((dupD ((madeK nn gg T i).1) (x153.1, x153.2.1, x153.2.2) ((i : Int) % 256, (i : Int) / 256 + 1)).2.1), uV ((dupD ((madeK nn gg T i).1) (x153.1, x153.2.1, x153.2.2) ((i : Int) % 256, (i : Int) / 256 + 1)).2.2)]), (119, .tuple #[.agg #[iV ((dupD ((madeK nn gg T i).1) (x153.1, x153.2.1, x153.2.2) ((i : Int) % 256, (i : Int) / 256 + 1)).1), iV ((dupD ((madeK nn gg T i).1) (x153.1, x153.2.1, x153.2.2) ((i : Int) % 256, (i : Int) / 256 + 1)).2.1), uV ((dupD ((madeK nn gg T i).1) (x153.1, x153.2.1, x153.2.2) ((i : Int) % 256, (i : Int) / 256 + 1)).2.2)], iV ((dupE ((madeK nn gg T i).1) (x153.1, x153.2.1, x153.2.2) ((i : Int) % 256, (i : Int) / 256 + 1)))])] [e0 15, e0 16, e0 17] [] [] trivial nC ?_
      refine fk_cut ([(136, iV ((dupE ((madeK nn gg T i).1) (x153.1, x153.2.1, x153.2.2) ((i : Int) % 256, (i : Int) / 256 + 1)))), (135, .agg #[iV ((dupD ((madeK nn gg T i).1) (x153.1, x153.2.1, x153.2.2) ((i : Int) % 256, (i : Int) / 256 + 1)).1), iV ((dupD ((madeK nn gg T i).1) (x153.1, x153.2.1, x153.2.2) ((i : Int) % 256, (i : Int) / 256 + 1)).2.1), uV ((dupD ((madeK nn gg T i).1) (x153.1, x153.2.1, x153.2.2) ((i : Int) % 256, (i : Int) / 256 + 1)).2.2)]), (2, .slice p0 n cp), (8, pV b4), (10, .slice p2 m2 c2), (11, iV (i : Int)), (12, pV r23), (13, .slice p29 (((liveL ((madeK nn gg T i).1).E).length)) c30), (111, .bool true)] : Fr) (by kernel_rfl) (fun a => RW _ _ _ _ _ a _) (fun lr160 => ?_)
      refine draw_act (i := 18) [(6, ⟨b37, off39 + i * 2 + 1, none⟩, yV x40.2)] (by kernel_rfl) (by kernel_rfl) ?_
      refine yNp 16 28 [iV 0, iV 0, uV 0] h159 fun r161 w162 h163 => ?_
      refine ⟨(AllC_cons (gv_cell (j := 5) h163 rfl (gv_old hr) hp38 (fl_get eMv_ok (j := 1) (v := yV x40.2) hx41 rfl) (off39 + i * 2 + 1) (by omega)) (AllC_nil _)), ?_⟩
      refine draw_act (i := 19) [] (by kernel_rfl) (by kernel_rfl) ?_
      refine yS [(0, iV ((dupD ((madeK nn gg T i).1) (x153.1, x153.2.1, x153.2.2) ((i : Int) % 256, (i : Int) / 256 + 1)).1)), (1, iV ((dupD ((madeK nn gg T i).1) (x153.1, x153.2.1, x153.2.2) ((i : Int) % 256, (i : Int) / 256 + 1)).2.1)), (2, uV ((dupD ((madeK nn gg T i).1) (x153.1, x153.2.1, x153.2.2) ((i : Int) % 256, (i : Int) / 256 + 1)).2.2))] [iV ((dupD ((madeK nn gg T i).1) (x153.1, x153.2.1, x153.2.2) ((i : Int) % 256, (i : Int) / 256 + 1)).1), iV ((dupD ((madeK nn gg T i).1) (x153.1, x153.2.1, x153.2.2) ((i : Int) % 256, (i : Int) / 256 + 1)).2.1), uV ((dupD ((madeK nn gg T i).1) (x153.1, x153.2.1, x153.2.2) ((i : Int) % 256, (i : Int) / 256 + 1)).2.2)] h163 fun w164 h165 => ?_
      refine ⟨(AllC_nil _), ?_⟩
      refine yD _ [(17, iV ((dupE ((madeK nn gg T i).1) (x153.1, x153.2.1, x153.2.2) ((i : Int) % 256, (i : Int) / 256 + 1))))] [e0 20] [] [] trivial nC ?_
      refine yK [(2, .slice p0 n cp), (8, pV b4), (10, .slice p2 m2 c2), (11, iV (i : Int)), (16, pV r161), (17, iV ((dupE ((madeK nn gg T i).1) (x153.1, x153.2.1, x153.2.2) ((i : Int) % 256, (i : Int) / 256 + 1))))] fun lr166 => ?_
      refine ySq ?_
      refine yPl [0, 1] ?_
      refine yB0 [1] [0] [(137, iV ((dupE ((madeK nn gg T i).1) (x153.1, x153.2.1, x153.2.2) ((i : Int) % 256, (i : Int) / 256 + 1))))] ?_
      by_cases c167 : (dupE ((madeK nn gg T i).1) (x153.1, x153.2.1, x153.2.2) ((i : Int) % 256, (i : Int) / 256 + 1)) = 0
      ·
       refine yBb [] [(138, .bool true)] [e1 1 (.bool true)] [] [(.bool (((dupE ((madeK nn gg T i).1) (x153.1, x153.2.1, x153.2.2) ((i : Int) % 256, (i : Int) / 256 + 1))) == 0), .bool true)] ⟨(ov_et (by omega)), trivial⟩ nC (.mk ?_)
       refine yK [(2, .slice p0 n cp), (8, pV b4), (10, .slice p2 m2 c2), (11, iV (i : Int)), (16, pV r161), (138, .bool true)] fun lr168 => ?_
       refine yCt ?_
       refine yPl [0, 1, 2, 3, 4] ?_
       refine yBb [2, 3, 4] [(140, .agg #[iV ((dupD ((madeK nn gg T i).1) (x153.1, x153.2.1, x153.2.2) ((i : Int) % 256, (i : Int) / 256 + 1)).1), iV ((dupD ((madeK nn gg T i).1) (x153.1, x153.2.1, x153.2.2) ((i : Int) % 256, (i : Int) / 256 + 1)).2.1), uV ((dupD ((madeK nn gg T i).1) (x153.1, x153.2.1, x153.2.2) ((i : Int) % 256, (i : Int) / 256 + 1)).2.2)]), (139, .slice p2 m2 c2)] [e0 0, e2 1 [iV ((dupD ((madeK nn gg T i).1) (x153.1, x153.2.1, x153.2.2) ((i : Int) % 256, (i : Int) / 256 + 1)).1), iV ((dupD ((madeK nn gg T i).1) (x153.1, x153.2.1, x153.2.2) ((i : Int) % 256, (i : Int) / 256 + 1)).2.1), uV ((dupD ((madeK nn gg T i).1) (x153.1, x153.2.1, x153.2.2) ((i : Int) % 256, (i : Int) / 256 + 1)).2.2)]] [(1, ⟨r161, 0, none⟩, iV ((dupD ((madeK nn gg T i).1) (x153.1, x153.2.1, x153.2.2) ((i : Int) % 256, (i : Int) / 256 + 1)).1)), (1, ⟨r161, 1, none⟩, iV ((dupD ((madeK nn gg T i).1) (x153.1, x153.2.1, x153.2.2) ((i : Int) % 256, (i : Int) / 256 + 1)).2.1)), (1, ⟨r161, 2, none⟩, uV ((dupD ((madeK nn gg T i).1) (x153.1, x153.2.1, x153.2.2) ((i : Int) % 256, (i : Int) / 256 + 1)).2.2))] [] trivial (kC (sat_cell h165 0 rfl rfl) (kC (sat_cell h165 0 rfl rfl) (kC (sat_cell h165 0 rfl rfl) nC))) ?_
       refine yA ?_
       refine an_new (d := 141) (fun xb_ => .slice (some ⟨xb_, 0, none⟩) 1 1) (fun xb_ => Obj.cells [iV ((dupD ((madeK nn gg T i).1) (x153.1, x153.2.1, x153.2.2) ((i : Int) % 256, (i : Int) / 256 + 1)).1), iV ((dupD ((madeK nn gg T i).1) (x153.1, x153.2.1, x153.2.2) ((i : Int) % 256, (i : Int) / 256 + 1)).2.1), uV ((dupD ((madeK nn gg T i).1) (x153.1, x153.2.1, x153.2.2) ((i : Int) % 256, (i : Int) / 256 + 1)).2.2)].toArray 28 (0, 0)) (fun xb_ => by kernel_rfl) (by kernel_rfl) rfl h165 ?_
       intro r169 w170 (h171 : sat g w170 [Cl r169 [iV ((dupD ((madeK nn gg T i).1) (x153.1, x153.2.1, x153.2.2) ((i : Int) % 256, (i : Int) / 256 + 1)).1), iV ((dupD ((madeK nn gg T i).1) (x153.1, x153.2.1, x153.2.2) ((i : Int) % 256, (i : Int) / 256 + 1)).2.1), uV ((dupD ((madeK nn gg T i).1) (x153.1, x153.2.1, x153.2.2) ((i : Int) % 256, (i : Int) / 256 + 1)).2.2)] 28, Cl r161 [iV ((dupD ((madeK nn gg T i).1) (x153.1, x153.2.1, x153.2.2) ((i : Int) % 256, (i : Int) / 256 + 1)).1), iV ((dupD ((madeK nn gg T i).1) (x153.1, x153.2.1, x153.2.2) ((i : Int) % 256, (i : Int) / 256 + 1)).2.1), uV ((dupD ((madeK nn gg T i).1) (x153.1, x153.2.1, x153.2.2) ((i : Int) % 256, (i : Int) / 256 + 1)).2.2)] 28, TW b4 nn (dupS ((madeK nn gg T i).1) (x153.1, x153.2.1, x153.2.2) ((i : Int) % 256, (i : Int) / 256 + 1)), Sl 28 3 p29 (((liveL ((madeK nn gg T i).1).E).length)) c30 (fl eO (liveL ((madeK nn gg T i).1).E)), Cl r23 [iV ((i : Int) % 256), uV ((i : Int) / 256 + 1)] 34, Sl 28 3 p2 m2 c2 (fl eO ((madeK nn gg T i).2)), Old wo, R])
       have h172 := tk8 (sf7 (sf6 (sf6 (sf6 (sf6 (sf6 (sf7 (sf7 h171))))))))
       refine yA ?_
       refine an_append (d := 142) (sz := 3) (s := (Operand.tmp 139)) (x := (Operand.tmp 141)) (z := .agg #[iV 0, iV 0, uV 0]) (p := p2) (m := m2) (c := c2) (k := 1) (c2 := 1) (a := ⟨r169, 0, none⟩) (by_ := 24) (by kernel_rfl) (by kernel_rfl) rfl Try.underlying45 (by kernel_rfl) rfl (by decide) (by kernel_rfl) (by kernel_rfl) h172 (fl eO [((dupD ((madeK nn gg T i).1) (x153.1, x153.2.1, x153.2.2) ((i : Int) % 256, (i : Int) / 256 + 1)).1, (dupD ((madeK nn gg T i).1) (x153.1, x153.2.1, x153.2.2) ((i : Int) % 256, (i : Int) / 256 + 1)).2.1, (dupD ((madeK nn gg T i).1) (x153.1, x153.2.1, x153.2.2) ((i : Int) % 256, (i : Int) / 256 + 1)).2.2)]) rfl (fun j u hj => by rw [add_off]; exact sat_cell h172 1 rfl (by rw [Nat.zero_add]; exact hj)) (fl_one eO_ok _) (by omega) (by omega) (m2 + 1) (by omega) ?_
       intro p173 cap174 w175 h176
       have h177 : sat g w175 [Sl 28 3 p173 (m2 + 1) cap174 (fl eO (((madeK nn gg T i).2) ++ [((dupD ((madeK nn gg T i).1) (x153.1, x153.2.1, x153.2.2) ((i : Int) % 256, (i : Int) / 256 + 1)).1, (dupD ((madeK nn gg T i).1) (x153.1, x153.2.1, x153.2.2) ((i : Int) % 256, (i : Int) / 256 + 1)).2.1, (dupD ((madeK nn gg T i).1) (x153.1, x153.2.1, x153.2.2) ((i : Int) % 256, (i : Int) / 256 + 1)).2.2)])), Cl r169 [iV ((dupD ((madeK nn gg T i).1) (x153.1, x153.2.1, x153.2.2) ((i : Int) % 256, (i : Int) / 256 + 1)).1), iV ((dupD ((madeK nn gg T i).1) (x153.1, x153.2.1, x153.2.2) ((i : Int) % 256, (i : Int) / 256 + 1)).2.1), uV ((dupD ((madeK nn gg T i).1) (x153.1, x153.2.1, x153.2.2) ((i : Int) % 256, (i : Int) / 256 + 1)).2.2)] 28, Cl r161 [iV ((dupD ((madeK nn gg T i).1) (x153.1, x153.2.1, x153.2.2) ((i : Int) % 256, (i : Int) / 256 + 1)).1), iV ((dupD ((madeK nn gg T i).1) (x153.1, x153.2.1, x153.2.2) ((i : Int) % 256, (i : Int) / 256 + 1)).2.1), uV ((dupD ((madeK nn gg T i).1) (x153.1, x153.2.1, x153.2.2) ((i : Int) % 256, (i : Int) / 256 + 1)).2.2)] 28, TW b4 nn (dupS ((madeK nn gg T i).1) (x153.1, x153.2.1, x153.2.2) ((i : Int) % 256, (i : Int) / 256 + 1)), Sl 28 3 p29 (((liveL ((madeK nn gg T i).1).E).length)) c30 (fl eO (liveL ((madeK nn gg T i).1).E)), Cl r23 [iV ((i : Int) % 256), uV ((i : Int) / 256 + 1)] 34, Old wo, R] := sat_imp h176 (fun _ hh => by rw [fl_app]; exact hh)
       obtain ⟨hn178, hn179⟩ := sl_le h177
       refine yB0 [] [4] [(10, .slice p173 (m2 + 1) cap174)] (.mk ?_)
       refine yK [(2, .slice p0 n cp), (8, pV b4), (10, .slice p173 (m2 + 1) cap174), (11, iV (i : Int))] fun lr180 => ?_
       refine yPl [0, 1, 2] ?_
       refine yBb [] [(11, iV ((i : Int) + 1)), (39, iV ((i : Int) + 1)), (38, iV (i : Int))] [e0 0, e1 1 (iV ((i : Int) + 1)), e0 2] [] [(iV (IntKind.wrap .i64 ((i : Int) + 1)), iV ((i : Int) + 1))] ⟨(ov_i64 (by omega) (by omega) (by omega)), trivial⟩ nC (.mk ?_)
       have ht181 := madeK_go (n := nn) (g := gg) hx41 (turn_dup1 (p := (madeK nn gg T i)) (i := i) (m := x40) (by omega) (by omega) (by omega) (tD_at (by omega) hx154) (by unfold tH; omega))
       have h182 := tk8 (sf7 (sf6 (sf6 (sf6 (sf7 (sf7 (sf7 (sf7 h177))))))))
       have h183 : sat g w175 [TW b4 nn ((madeK nn gg T (i + 1)).1), Sl 28 3 p173 (m2 + 1) cap174 (fl eO (((madeK nn gg T i).2) ++ [((dupD ((madeK nn gg T i).1) (x153.1, x153.2.1, x153.2.2) ((i : Int) % 256, (i : Int) / 256 + 1)).1, (dupD ((madeK nn gg T i).1) (x153.1, x153.2.1, x153.2.2) ((i : Int) % 256, (i : Int) / 256 + 1)).2.1, (dupD ((madeK nn gg T i).1) (x153.1, x153.2.1, x153.2.2) ((i : Int) % 256, (i : Int) / 256 + 1)).2.2)])), Cl r169 [iV ((dupD ((madeK nn gg T i).1) (x153.1, x153.2.1, x153.2.2) ((i : Int) % 256, (i : Int) / 256 + 1)).1), iV ((dupD ((madeK nn gg T i).1) (x153.1, x153.2.1, x153.2.2) ((i : Int) % 256, (i : Int) / 256 + 1)).2.1), uV ((dupD ((madeK nn gg T i).1) (x153.1, x153.2.1, x153.2.2) ((i : Int) % 256, (i : Int) / 256 + 1)).2.2)] 28, Cl r161 [iV ((dupD ((madeK nn gg T i).1) (x153.1, x153.2.1, x153.2.2) ((i : Int) % 256, (i : Int) / 256 + 1)).1), iV ((dupD ((madeK nn gg T i).1) (x153.1, x153.2.1, x153.2.2) ((i : Int) % 256, (i : Int) / 256 + 1)).2.1), uV ((dupD ((madeK nn gg T i).1) (x153.1, x153.2.1, x153.2.2) ((i : Int) % 256, (i : Int) / 256 + 1)).2.2)] 28, Sl 28 3 p29 (((liveL ((madeK nn gg T i).1).E).length)) c30 (fl eO (liveL ((madeK nn gg T i).1).E)), Cl r23 [iV ((i : Int) % 256), uV ((i : Int) / 256 + 1)] 34, Old wo, R] := (show (dupS ((madeK nn gg T i).1) (x153.1, x153.2.1, x153.2.2) ((i : Int) % 256, (i : Int) / 256 + 1)) = (madeK nn gg T (i + 1)).1 from (congrArg Prod.fst ht181).symm) ▸ h182
       have h184 := tk8 (sf7 (sf6 (sf7 (sf7 (sf7 (sf7 (sf7 (sf7 h183))))))))
       have h185 : sat g w175 [Sl 28 3 p173 (m2 + 1) cap174 (fl eO ((madeK nn gg T (i + 1)).2)), TW b4 nn ((madeK nn gg T (i + 1)).1), Cl r169 [iV ((dupD ((madeK nn gg T i).1) (x153.1, x153.2.1, x153.2.2) ((i : Int) % 256, (i : Int) / 256 + 1)).1), iV ((dupD ((madeK nn gg T i).1) (x153.1, x153.2.1, x153.2.2) ((i : Int) % 256, (i : Int) / 256 + 1)).2.1), uV ((dupD ((madeK nn gg T i).1) (x153.1, x153.2.1, x153.2.2) ((i : Int) % 256, (i : Int) / 256 + 1)).2.2)] 28, Cl r161 [iV ((dupD ((madeK nn gg T i).1) (x153.1, x153.2.1, x153.2.2) ((i : Int) % 256, (i : Int) / 256 + 1)).1), iV ((dupD ((madeK nn gg T i).1) (x153.1, x153.2.1, x153.2.2) ((i : Int) % 256, (i : Int) / 256 + 1)).2.1), uV ((dupD ((madeK nn gg T i).1) (x153.1, x153.2.1, x153.2.2) ((i : Int) % 256, (i : Int) / 256 + 1)).2.2)] 28, Sl 28 3 p29 (((liveL ((madeK nn gg T i).1).E).length)) c30 (fl eO (liveL ((madeK nn gg T i).1).E)), Cl r23 [iV ((i : Int) % 256), uV ((i : Int) / 256 + 1)] 34, Old wo, R] := sat_imp h184 (fun _ hh_ => by rw [show ((((madeK nn gg T i).2) ++ [((dupD ((madeK nn gg T i).1) (x153.1, x153.2.1, x153.2.2) ((i : Int) % 256, (i : Int) / 256 + 1)).1, (dupD ((madeK nn gg T i).1) (x153.1, x153.2.1, x153.2.2) ((i : Int) % 256, (i : Int) / 256 + 1)).2.1, (dupD ((madeK nn gg T i).1) (x153.1, x153.2.1, x153.2.2) ((i : Int) % 256, (i : Int) / 256 + 1)).2.2)]) : List Ky) = (madeK nn gg T (i + 1)).2 from (congrArg Prod.snd ht181).symm] at hh_; exact hh_)
       have h186 := tk8 (sf7 (sf6 (sf7 (sf7 (sf5 (sf5 (sf5 (sf5 h185))))))))
       have h187 := tk4 h186
       change ∃ n', n' < _ ∧ _
       refine ⟨(n - (i + 1)), by omega, (i + 1), p173, m2 + 1, cap174, _, rfl, (by omega), (by omega), (mk_live [(2, .slice p0 n cp), (8, pV b4), (10, .slice p173 (m2 + 1) cap174), (11, iV ((((i + 1) : Nat) : Int)))] ⟨rfl, rfl, rfl, (ov_int (by omega)), trivial⟩), h187⟩
      ·
       refine yBb [] [(138, .bool false)] [e1 1 (.bool false)] [] [(.bool (((dupE ((madeK nn gg T i).1) (x153.1, x153.2.1, x153.2.2) ((i : Int) % 256, (i : Int) / 256 + 1))) == 0), .bool false)] ⟨(ov_ef (by omega)), trivial⟩ nC (.mk ?_)
       refine yK [(2, .slice p0 n cp), (8, pV b4), (10, .slice p2 m2 c2), (11, iV (i : Int)), (16, pV r161), (138, .bool false)] fun lr188 => ?_
       refine yCf ?_
       refine ySk ?_
       refine yPl [0, 1, 2] ?_
       refine yBb [] [(11, iV ((i : Int) + 1)), (39, iV ((i : Int) + 1)), (38, iV (i : Int))] [e0 0, e1 1 (iV ((i : Int) + 1)), e0 2] [] [(iV (IntKind.wrap .i64 ((i : Int) + 1)), iV ((i : Int) + 1))] ⟨(ov_i64 (by omega) (by omega) (by omega)), trivial⟩ nC (.mk ?_)
       have ht189 := madeK_go (n := nn) (g := gg) hx41 (turn_dup0 (p := (madeK nn gg T i)) (i := i) (m := x40) (by omega) (by omega) (by omega) (tD_at (by omega) hx154) (by unfold tH; omega))
       have h190 := tk7 (sf6 (sf5 (sf6 (sf6 (sf6 (sf6 (sf6 h165)))))))
       have h191 : sat g w164 [TW b4 nn ((madeK nn gg T (i + 1)).1), Cl r161 [iV ((dupD ((madeK nn gg T i).1) (x153.1, x153.2.1, x153.2.2) ((i : Int) % 256, (i : Int) / 256 + 1)).1), iV ((dupD ((madeK nn gg T i).1) (x153.1, x153.2.1, x153.2.2) ((i : Int) % 256, (i : Int) / 256 + 1)).2.1), uV ((dupD ((madeK nn gg T i).1) (x153.1, x153.2.1, x153.2.2) ((i : Int) % 256, (i : Int) / 256 + 1)).2.2)] 28, Sl 28 3 p29 (((liveL ((madeK nn gg T i).1).E).length)) c30 (fl eO (liveL ((madeK nn gg T i).1).E)), Cl r23 [iV ((i : Int) % 256), uV ((i : Int) / 256 + 1)] 34, Sl 28 3 p2 m2 c2 (fl eO ((madeK nn gg T i).2)), Old wo, R] := (show (dupS ((madeK nn gg T i).1) (x153.1, x153.2.1, x153.2.2) ((i : Int) % 256, (i : Int) / 256 + 1)) = (madeK nn gg T (i + 1)).1 from (congrArg Prod.fst ht189).symm) ▸ h190
       have h192 := tk7 (sf6 (sf5 (sf5 (sf5 (sf5 (sf6 (sf6 h191)))))))
       have h193 : sat g w164 [Sl 28 3 p2 m2 c2 (fl eO ((madeK nn gg T (i + 1)).2)), TW b4 nn ((madeK nn gg T (i + 1)).1), Cl r161 [iV ((dupD ((madeK nn gg T i).1) (x153.1, x153.2.1, x153.2.2) ((i : Int) % 256, (i : Int) / 256 + 1)).1), iV ((dupD ((madeK nn gg T i).1) (x153.1, x153.2.1, x153.2.2) ((i : Int) % 256, (i : Int) / 256 + 1)).2.1), uV ((dupD ((madeK nn gg T i).1) (x153.1, x153.2.1, x153.2.2) ((i : Int) % 256, (i : Int) / 256 + 1)).2.2)] 28, Sl 28 3 p29 (((liveL ((madeK nn gg T i).1).E).length)) c30 (fl eO (liveL ((madeK nn gg T i).1).E)), Cl r23 [iV ((i : Int) % 256), uV ((i : Int) / 256 + 1)] 34, Old wo, R] := sat_imp h192 (fun _ hh_ => by rw [show ((madeK nn gg T i).2 : List Ky) = (madeK nn gg T (i + 1)).2 from (congrArg Prod.snd ht189).symm] at hh_; exact hh_)
       have h194 := tk7 (sf6 (sf5 (sf6 (sf6 (sf4 (sf4 (sf4 h193)))))))
       have h195 := tk4 h194
       change ∃ n', n' < _ ∧ _
       refine ⟨(n - (i + 1)), by omega, (i + 1), p2, m2, c2, _, rfl, (by omega), (by omega), (mk_live [(2, .slice p0 n cp), (8, pV b4), (10, .slice p2 m2 c2), (11, iV ((((i + 1) : Nat) : Int)))] ⟨rfl, rfl, rfl, (ov_int (by omega)), trivial⟩), h195⟩
     ·
      refine draw_act (i := 18) [(13, ⟨r23, 0, none⟩, iV ((i : Int) % 256)), (13, ⟨r23, 1, none⟩, uV ((i : Int) / 256 + 1)), (12, ⟨b147, kk149 * 3, none⟩, iV x153.1), (12, ⟨b147, kk149 * 3 + 1, none⟩, iV x153.2.1), (12, ⟨b147, kk149 * 3 + 2, none⟩, uV x153.2.2), (6, ⟨b37, off39 + i * 2 + 1, none⟩, yV x40.2)] (by kernel_rfl) (by kernel_rfl) ?_
      refine yNp 16 28 [iV 0, iV 0, uV 0] h151 fun r196 w197 h198 => ?_
      refine ⟨(AllC_cons (sat_cell h198 3 rfl rfl) (AllC_cons (sat_cell h198 3 rfl rfl) (AllC_cons (gv_cell (j := 1) h198 rfl (gv_sl _ _ _) hp148 (fl_get eO_ok (j := 0) (v := iV x153.1) hx154 rfl) (kk149 * 3) (by omega)) (AllC_cons (gv_cell (j := 1) h198 rfl (gv_sl _ _ _) hp148 (fl_get eO_ok (j := 1) (v := iV x153.2.1) hx154 rfl) (kk149 * 3 + 1) (by omega)) (AllC_cons (gv_cell (j := 1) h198 rfl (gv_sl _ _ _) hp148 (fl_get eO_ok (j := 2) (v := uV x153.2.2) hx154 rfl) (kk149 * 3 + 2) (by omega)) (AllC_cons (gv_cell (j := 5) h198 rfl (gv_old hr) hp38 (fl_get eMv_ok (j := 1) (v := yV x40.2) hx41 rfl) (off39 + i * 2 + 1) (by omega)) (AllC_nil _))))))), ?_⟩
      have h199 := tk7 (sf6 (sf5 (sf5 (sf6 (sf6 (sf6 (sf6 h198)))))))
      refine draw_act (i := 14) [(6, ⟨b37, off39 + i * 2 + 1, none⟩, yV x40.2)] (by kernel_rfl) (by kernel_rfl) ?_
      refine yCl 134 Try.call14 (tdup_w b4 nn ((madeK nn gg T i).1) x153.1 x153.2.1 x153.2.2 ((i : Int) % 256) ((i : Int) / 256 + 1) (by omega) (by omega)) h199 ?_
      rintro v K w200 (⟨rfl, rfl⟩) h201
      refine ⟨_, rfl, ?_⟩
      have h202 := ap1 h201
      refine ⟨(AllC_cons (gv_cell (j := 5) h202 rfl (gv_old hr) hp38 (fl_get eMv_ok (j := 1) (v := yV x40.2) hx41 rfl) (off39 + i * 2 + 1) (by omega)) (AllC_nil _)), ?_⟩
      refine yD _ [(136, iV ((dupE ((madeK nn gg T i).1) (x153.1, x153.2.1, x153.2.2) ((i : Int) % 256, (i : Int) / 256 + 1)))), (135, .agg #[iV ((dupD ((madeK nn gg T i).1) (x153.1, x153.2.1, x153.2.2) ((i : Int) % 256, (i : Int) / 256 + 1)).1), iV ((dupD ((madeK nn gg T i).1) (x153.1, x153.2.1, x153.2.2) ((i : Int) % 256, (i : Int) / 256 + 1)).2.1), uV ((dupD ((madeK nn gg T i).1) (x153.1, x153.2.1, x153.2.2) ((i : Int) % 256, (i : Int) / 256 + 1)).2.2)]), (119, .tuple #[.agg #[iV ((dupD ((madeK nn gg T i).1) (x153.1, x153.2.1, x153.2.2) ((i : Int) % 256, (i : Int) / 256 + 1)).1), iV ((dupD ((madeK nn gg T i).1) (x153.1, x153.2.1, x153.2.2) ((i : Int) % 256, (i : Int) / 256 + 1)).2.1), uV ((dupD ((madeK nn gg T i).1) (x153.1, x153.2.1, x153.2.2) ((i : Int) % 256, (i : Int) / 256 + 1)).2.2)], iV ((dupE ((madeK nn gg T i).1) (x153.1, x153.2.1, x153.2.2) ((i : Int) % 256, (i : Int) / 256 + 1)))])] [e0 15, e0 16, e0 17] [] [] trivial nC ?_
      refine fk_cut ([(136, iV ((dupE ((madeK nn gg T i).1) (x153.1, x153.2.1, x153.2.2) ((i : Int) % 256, (i : Int) / 256 + 1)))), (135, .agg #[iV ((dupD ((madeK nn gg T i).1) (x153.1, x153.2.1, x153.2.2) ((i : Int) % 256, (i : Int) / 256 + 1)).1), iV ((dupD ((madeK nn gg T i).1) (x153.1, x153.2.1, x153.2.2) ((i : Int) % 256, (i : Int) / 256 + 1)).2.1), uV ((dupD ((madeK nn gg T i).1) (x153.1, x153.2.1, x153.2.2) ((i : Int) % 256, (i : Int) / 256 + 1)).2.2)]), (16, pV r196), (2, .slice p0 n cp), (8, pV b4), (10, .slice p2 m2 c2), (11, iV (i : Int)), (12, pV r23), (13, .slice p29 (((liveL ((madeK nn gg T i).1).E).length)) c30), (111, .bool true)] : Fr) (by kernel_rfl) (fun a => RW _ _ _ _ _ a _) (fun lr203 => ?_)
      have h204 := tk7 (sf6 (sf5 (sf6 (sf6 (sf6 (sf6 (sf6 h202)))))))
      refine draw_act (i := 19) [] (by kernel_rfl) (by kernel_rfl) ?_
      refine yS [(0, iV ((dupD ((madeK nn gg T i).1) (x153.1, x153.2.1, x153.2.2) ((i : Int) % 256, (i : Int) / 256 + 1)).1)), (1, iV ((dupD ((madeK nn gg T i).1) (x153.1, x153.2.1, x153.2.2) ((i : Int) % 256, (i : Int) / 256 + 1)).2.1)), (2, uV ((dupD ((madeK nn gg T i).1) (x153.1, x153.2.1, x153.2.2) ((i : Int) % 256, (i : Int) / 256 + 1)).2.2))] [iV ((dupD ((madeK nn gg T i).1) (x153.1, x153.2.1, x153.2.2) ((i : Int) % 256, (i : Int) / 256 + 1)).1), iV ((dupD ((madeK nn gg T i).1) (x153.1, x153.2.1, x153.2.2) ((i : Int) % 256, (i : Int) / 256 + 1)).2.1), uV ((dupD ((madeK nn gg T i).1) (x153.1, x153.2.1, x153.2.2) ((i : Int) % 256, (i : Int) / 256 + 1)).2.2)] h204 fun w205 h206 => ?_
      refine ⟨(AllC_nil _), ?_⟩
      refine yD _ [(17, iV ((dupE ((madeK nn gg T i).1) (x153.1, x153.2.1, x153.2.2) ((i : Int) % 256, (i : Int) / 256 + 1))))] [e0 20] [] [] trivial nC ?_
      refine yK [(2, .slice p0 n cp), (8, pV b4), (10, .slice p2 m2 c2), (11, iV (i : Int)), (16, pV r196), (17, iV ((dupE ((madeK nn gg T i).1) (x153.1, x153.2.1, x153.2.2) ((i : Int) % 256, (i : Int) / 256 + 1))))] fun lr207 => ?_
      refine ySq ?_
      refine yPl [0, 1] ?_
      refine yB0 [1] [0] [(137, iV ((dupE ((madeK nn gg T i).1) (x153.1, x153.2.1, x153.2.2) ((i : Int) % 256, (i : Int) / 256 + 1))))] ?_
      by_cases c208 : (dupE ((madeK nn gg T i).1) (x153.1, x153.2.1, x153.2.2) ((i : Int) % 256, (i : Int) / 256 + 1)) = 0
      ·
       refine yBb [] [(138, .bool true)] [e1 1 (.bool true)] [] [(.bool (((dupE ((madeK nn gg T i).1) (x153.1, x153.2.1, x153.2.2) ((i : Int) % 256, (i : Int) / 256 + 1))) == 0), .bool true)] ⟨(ov_et (by omega)), trivial⟩ nC (.mk ?_)
       refine yK [(2, .slice p0 n cp), (8, pV b4), (10, .slice p2 m2 c2), (11, iV (i : Int)), (16, pV r196), (138, .bool true)] fun lr209 => ?_
       refine yCt ?_
       refine yPl [0, 1, 2, 3, 4] ?_
       refine yBb [2, 3, 4] [(140, .agg #[iV ((dupD ((madeK nn gg T i).1) (x153.1, x153.2.1, x153.2.2) ((i : Int) % 256, (i : Int) / 256 + 1)).1), iV ((dupD ((madeK nn gg T i).1) (x153.1, x153.2.1, x153.2.2) ((i : Int) % 256, (i : Int) / 256 + 1)).2.1), uV ((dupD ((madeK nn gg T i).1) (x153.1, x153.2.1, x153.2.2) ((i : Int) % 256, (i : Int) / 256 + 1)).2.2)]), (139, .slice p2 m2 c2)] [e0 0, e2 1 [iV ((dupD ((madeK nn gg T i).1) (x153.1, x153.2.1, x153.2.2) ((i : Int) % 256, (i : Int) / 256 + 1)).1), iV ((dupD ((madeK nn gg T i).1) (x153.1, x153.2.1, x153.2.2) ((i : Int) % 256, (i : Int) / 256 + 1)).2.1), uV ((dupD ((madeK nn gg T i).1) (x153.1, x153.2.1, x153.2.2) ((i : Int) % 256, (i : Int) / 256 + 1)).2.2)]] [(1, ⟨r196, 0, none⟩, iV ((dupD ((madeK nn gg T i).1) (x153.1, x153.2.1, x153.2.2) ((i : Int) % 256, (i : Int) / 256 + 1)).1)), (1, ⟨r196, 1, none⟩, iV ((dupD ((madeK nn gg T i).1) (x153.1, x153.2.1, x153.2.2) ((i : Int) % 256, (i : Int) / 256 + 1)).2.1)), (1, ⟨r196, 2, none⟩, uV ((dupD ((madeK nn gg T i).1) (x153.1, x153.2.1, x153.2.2) ((i : Int) % 256, (i : Int) / 256 + 1)).2.2))] [] trivial (kC (sat_cell h206 0 rfl rfl) (kC (sat_cell h206 0 rfl rfl) (kC (sat_cell h206 0 rfl rfl) nC))) ?_
       refine yA ?_
       refine an_new (d := 141) (fun xb_ => .slice (some ⟨xb_, 0, none⟩) 1 1) (fun xb_ => Obj.cells [iV ((dupD ((madeK nn gg T i).1) (x153.1, x153.2.1, x153.2.2) ((i : Int) % 256, (i : Int) / 256 + 1)).1), iV ((dupD ((madeK nn gg T i).1) (x153.1, x153.2.1, x153.2.2) ((i : Int) % 256, (i : Int) / 256 + 1)).2.1), uV ((dupD ((madeK nn gg T i).1) (x153.1, x153.2.1, x153.2.2) ((i : Int) % 256, (i : Int) / 256 + 1)).2.2)].toArray 28 (0, 0)) (fun xb_ => by kernel_rfl) (by kernel_rfl) rfl h206 ?_
       intro r210 w211 (h212 : sat g w211 [Cl r210 [iV ((dupD ((madeK nn gg T i).1) (x153.1, x153.2.1, x153.2.2) ((i : Int) % 256, (i : Int) / 256 + 1)).1), iV ((dupD ((madeK nn gg T i).1) (x153.1, x153.2.1, x153.2.2) ((i : Int) % 256, (i : Int) / 256 + 1)).2.1), uV ((dupD ((madeK nn gg T i).1) (x153.1, x153.2.1, x153.2.2) ((i : Int) % 256, (i : Int) / 256 + 1)).2.2)] 28, Cl r196 [iV ((dupD ((madeK nn gg T i).1) (x153.1, x153.2.1, x153.2.2) ((i : Int) % 256, (i : Int) / 256 + 1)).1), iV ((dupD ((madeK nn gg T i).1) (x153.1, x153.2.1, x153.2.2) ((i : Int) % 256, (i : Int) / 256 + 1)).2.1), uV ((dupD ((madeK nn gg T i).1) (x153.1, x153.2.1, x153.2.2) ((i : Int) % 256, (i : Int) / 256 + 1)).2.2)] 28, TW b4 nn (dupS ((madeK nn gg T i).1) (x153.1, x153.2.1, x153.2.2) ((i : Int) % 256, (i : Int) / 256 + 1)), Sl 28 3 p29 (((liveL ((madeK nn gg T i).1).E).length)) c30 (fl eO (liveL ((madeK nn gg T i).1).E)), Cl r23 [iV ((i : Int) % 256), uV ((i : Int) / 256 + 1)] 34, Sl 28 3 p2 m2 c2 (fl eO ((madeK nn gg T i).2)), Old wo, R])
       have h213 := tk8 (sf7 (sf6 (sf6 (sf6 (sf6 (sf6 (sf7 (sf7 h212))))))))
       refine yA ?_
       refine an_append (d := 142) (sz := 3) (s := (Operand.tmp 139)) (x := (Operand.tmp 141)) (z := .agg #[iV 0, iV 0, uV 0]) (p := p2) (m := m2) (c := c2) (k := 1) (c2 := 1) (a := ⟨r210, 0, none⟩) (by_ := 24) (by kernel_rfl) (by kernel_rfl) rfl Try.underlying45 (by kernel_rfl) rfl (by decide) (by kernel_rfl) (by kernel_rfl) h213 (fl eO [((dupD ((madeK nn gg T i).1) (x153.1, x153.2.1, x153.2.2) ((i : Int) % 256, (i : Int) / 256 + 1)).1, (dupD ((madeK nn gg T i).1) (x153.1, x153.2.1, x153.2.2) ((i : Int) % 256, (i : Int) / 256 + 1)).2.1, (dupD ((madeK nn gg T i).1) (x153.1, x153.2.1, x153.2.2) ((i : Int) % 256, (i : Int) / 256 + 1)).2.2)]) rfl (fun j u hj => by rw [add_off]; exact sat_cell h213 1 rfl (by rw [Nat.zero_add]; exact hj)) (fl_one eO_ok _) (by omega) (by omega) (m2 + 1) (by omega) ?_
       intro p214 cap215 w216 h217
       have h218 : sat g w216 [Sl 28 3 p214 (m2 + 1) cap215 (fl eO (((madeK nn gg T i).2) ++ [((dupD ((madeK nn gg T i).1) (x153.1, x153.2.1, x153.2.2) ((i : Int) % 256, (i : Int) / 256 + 1)).1, (dupD ((madeK nn gg T i).1) (x153.1, x153.2.1, x153.2.2) ((i : Int) % 256, (i : Int) / 256 + 1)).2.1, (dupD ((madeK nn gg T i).1) (x153.1, x153.2.1, x153.2.2) ((i : Int) % 256, (i : Int) / 256 + 1)).2.2)])), Cl r210 [iV ((dupD ((madeK nn gg T i).1) (x153.1, x153.2.1, x153.2.2) ((i : Int) % 256, (i : Int) / 256 + 1)).1), iV ((dupD ((madeK nn gg T i).1) (x153.1, x153.2.1, x153.2.2) ((i : Int) % 256, (i : Int) / 256 + 1)).2.1), uV ((dupD ((madeK nn gg T i).1) (x153.1, x153.2.1, x153.2.2) ((i : Int) % 256, (i : Int) / 256 + 1)).2.2)] 28, Cl r196 [iV ((dupD ((madeK nn gg T i).1) (x153.1, x153.2.1, x153.2.2) ((i : Int) % 256, (i : Int) / 256 + 1)).1), iV ((dupD ((madeK nn gg T i).1) (x153.1, x153.2.1, x153.2.2) ((i : Int) % 256, (i : Int) / 256 + 1)).2.1), uV ((dupD ((madeK nn gg T i).1) (x153.1, x153.2.1, x153.2.2) ((i : Int) % 256, (i : Int) / 256 + 1)).2.2)] 28, TW b4 nn (dupS ((madeK nn gg T i).1) (x153.1, x153.2.1, x153.2.2) ((i : Int) % 256, (i : Int) / 256 + 1)), Sl 28 3 p29 (((liveL ((madeK nn gg T i).1).E).length)) c30 (fl eO (liveL ((madeK nn gg T i).1).E)), Cl r23 [iV ((i : Int) % 256), uV ((i : Int) / 256 + 1)] 34, Old wo, R] := sat_imp h217 (fun _ hh => by rw [fl_app]; exact hh)
       obtain ⟨hn219, hn220⟩ := sl_le h218
       refine yB0 [] [4] [(10, .slice p214 (m2 + 1) cap215)] (.mk ?_)
       refine yK [(2, .slice p0 n cp), (8, pV b4), (10, .slice p214 (m2 + 1) cap215), (11, iV (i : Int))] fun lr221 => ?_
       refine yPl [0, 1, 2] ?_
       refine yBb [] [(11, iV ((i : Int) + 1)), (39, iV ((i : Int) + 1)), (38, iV (i : Int))] [e0 0, e1 1 (iV ((i : Int) + 1)), e0 2] [] [(iV (IntKind.wrap .i64 ((i : Int) + 1)), iV ((i : Int) + 1))] ⟨(ov_i64 (by omega) (by omega) (by omega)), trivial⟩ nC (.mk ?_)
       have ht222 := madeK_go (n := nn) (g := gg) hx41 (turn_dup1 (p := (madeK nn gg T i)) (i := i) (m := x40) (by omega) (by omega) (by omega) (tD_at (by omega) hx154) (by unfold tH; omega))
       have h223 := tk8 (sf7 (sf6 (sf6 (sf6 (sf7 (sf7 (sf7 (sf7 h218))))))))
       have h224 : sat g w216 [TW b4 nn ((madeK nn gg T (i + 1)).1), Sl 28 3 p214 (m2 + 1) cap215 (fl eO (((madeK nn gg T i).2) ++ [((dupD ((madeK nn gg T i).1) (x153.1, x153.2.1, x153.2.2) ((i : Int) % 256, (i : Int) / 256 + 1)).1, (dupD ((madeK nn gg T i).1) (x153.1, x153.2.1, x153.2.2) ((i : Int) % 256, (i : Int) / 256 + 1)).2.1, (dupD ((madeK nn gg T i).1) (x153.1, x153.2.1, x153.2.2) ((i : Int) % 256, (i : Int) / 256 + 1)).2.2)])), Cl r210 [iV ((dupD ((madeK nn gg T i).1) (x153.1, x153.2.1, x153.2.2) ((i : Int) % 256, (i : Int) / 256 + 1)).1), iV ((dupD ((madeK nn gg T i).1) (x153.1, x153.2.1, x153.2.2) ((i : Int) % 256, (i : Int) / 256 + 1)).2.1), uV ((dupD ((madeK nn gg T i).1) (x153.1, x153.2.1, x153.2.2) ((i : Int) % 256, (i : Int) / 256 + 1)).2.2)] 28, Cl r196 [iV ((dupD ((madeK nn gg T i).1) (x153.1, x153.2.1, x153.2.2) ((i : Int) % 256, (i : Int) / 256 + 1)).1), iV ((dupD ((madeK nn gg T i).1) (x153.1, x153.2.1, x153.2.2) ((i : Int) % 256, (i : Int) / 256 + 1)).2.1), uV ((dupD ((madeK nn gg T i).1) (x153.1, x153.2.1, x153.2.2) ((i : Int) % 256, (i : Int) / 256 + 1)).2.2)] 28, Sl 28 3 p29 (((liveL ((madeK nn gg T i).1).E).length)) c30 (fl eO (liveL ((madeK nn gg T i).1).E)), Cl r23 [iV ((i : Int) % 256), uV ((i : Int) / 256 + 1)] 34, Old wo, R] := (show (dupS ((madeK nn gg T i).1) (x153.1, x153.2.1, x153.2.2) ((i : Int) % 256, (i : Int) / 256 + 1)) = (madeK nn gg T (i + 1)).1 from (congrArg Prod.fst ht222).symm) ▸ h223
       have h225 := tk8 (sf7 (sf6 (sf7 (sf7 (sf7 (sf7 (sf7 (sf7 h224))))))))
       have h226 : sat g w216 [Sl 28 3 p214 (m2 + 1) cap215 (fl eO ((madeK nn gg T (i + 1)).2)), TW b4 nn ((madeK nn gg T (i + 1)).1), Cl r210 [iV ((dupD ((madeK nn gg T i).1) (x153.1, x153.2.1, x153.2.2) ((i : Int) % 256, (i : Int) / 256 + 1)).1), iV ((dupD ((madeK nn gg T i).1) (x153.1, x153.2.1, x153.2.2) ((i : Int) % 256, (i : Int) / 256 + 1)).2.1), uV ((dupD ((madeK nn gg T i).1) (x153.1, x153.2.1, x153.2.2) ((i : Int) % 256, (i : Int) / 256 + 1)).2.2)] 28, Cl r196 [iV ((dupD ((madeK nn gg T i).1) (x153.1, x153.2.1, x153.2.2) ((i : Int) % 256, (i : Int) / 256 + 1)).1), iV ((dupD ((madeK nn gg T i).1) (x153.1, x153.2.1, x153.2.2) ((i : Int) % 256, (i : Int) / 256 + 1)).2.1), uV ((dupD ((madeK nn gg T i).1) (x153.1, x153.2.1, x153.2.2) ((i : Int) % 256, (i : Int) / 256 + 1)).2.2)] 28, Sl 28 3 p29 (((liveL ((madeK nn gg T i).1).E).length)) c30 (fl eO (liveL ((madeK nn gg T i).1).E)), Cl r23 [iV ((i : Int) % 256), uV ((i : Int) / 256 + 1)] 34, Old wo, R] := sat_imp h225 (fun _ hh_ => by rw [show ((((madeK nn gg T i).2) ++ [((dupD ((madeK nn gg T i).1) (x153.1, x153.2.1, x153.2.2) ((i : Int) % 256, (i : Int) / 256 + 1)).1, (dupD ((madeK nn gg T i).1) (x153.1, x153.2.1, x153.2.2) ((i : Int) % 256, (i : Int) / 256 + 1)).2.1, (dupD ((madeK nn gg T i).1) (x153.1, x153.2.1, x153.2.2) ((i : Int) % 256, (i : Int) / 256 + 1)).2.2)]) : List Ky) = (madeK nn gg T (i + 1)).2 from (congrArg Prod.snd ht222).symm] at hh_; exact hh_)
       have h227 := tk8 (sf7 (sf6 (sf7 (sf7 (sf5 (sf5 (sf5 (sf5 h226))))))))
       have h228 := tk4 h227
       change ∃ n', n' < _ ∧ _
       refine ⟨(n - (i + 1)), by omega, (i + 1), p214, m2 + 1, cap215, _, rfl, (by omega), (by omega), (mk_live [(2, .slice p0 n cp), (8, pV b4), (10, .slice p214 (m2 + 1) cap215), (11, iV ((((i + 1) : Nat) : Int)))] ⟨rfl, rfl, rfl, (ov_int (by omega)), trivial⟩), h228⟩
      ·
       refine yBb [] [(138, .bool false)] [e1 1 (.bool false)] [] [(.bool (((dupE ((madeK nn gg T i).1) (x153.1, x153.2.1, x153.2.2) ((i : Int) % 256, (i : Int) / 256 + 1))) == 0), .bool false)] ⟨(ov_ef (by omega)), trivial⟩ nC (.mk ?_)
       refine yK [(2, .slice p0 n cp), (8, pV b4), (10, .slice p2 m2 c2), (11, iV (i : Int)), (16, pV r196), (138, .bool false)] fun lr229 => ?_
       refine yCf ?_
       refine ySk ?_
       refine yPl [0, 1, 2] ?_
       refine yBb [] [(11, iV ((i : Int) + 1)), (39, iV ((i : Int) + 1)), (38, iV (i : Int))] [e0 0, e1 1 (iV ((i : Int) + 1)), e0 2] [] [(iV (IntKind.wrap .i64 ((i : Int) + 1)), iV ((i : Int) + 1))] ⟨(ov_i64 (by omega) (by omega) (by omega)), trivial⟩ nC (.mk ?_)
       have ht230 := madeK_go (n := nn) (g := gg) hx41 (turn_dup0 (p := (madeK nn gg T i)) (i := i) (m := x40) (by omega) (by omega) (by omega) (tD_at (by omega) hx154) (by unfold tH; omega))
       have h231 := tk7 (sf6 (sf5 (sf6 (sf6 (sf6 (sf6 (sf6 h206)))))))
       have h232 : sat g w205 [TW b4 nn ((madeK nn gg T (i + 1)).1), Cl r196 [iV ((dupD ((madeK nn gg T i).1) (x153.1, x153.2.1, x153.2.2) ((i : Int) % 256, (i : Int) / 256 + 1)).1), iV ((dupD ((madeK nn gg T i).1) (x153.1, x153.2.1, x153.2.2) ((i : Int) % 256, (i : Int) / 256 + 1)).2.1), uV ((dupD ((madeK nn gg T i).1) (x153.1, x153.2.1, x153.2.2) ((i : Int) % 256, (i : Int) / 256 + 1)).2.2)] 28, Sl 28 3 p29 (((liveL ((madeK nn gg T i).1).E).length)) c30 (fl eO (liveL ((madeK nn gg T i).1).E)), Cl r23 [iV ((i : Int) % 256), uV ((i : Int) / 256 + 1)] 34, Sl 28 3 p2 m2 c2 (fl eO ((madeK nn gg T i).2)), Old wo, R] := (show (dupS ((madeK nn gg T i).1) (x153.1, x153.2.1, x153.2.2) ((i : Int) % 256, (i : Int) / 256 + 1)) = (madeK nn gg T (i + 1)).1 from (congrArg Prod.fst ht230).symm) ▸ h231
       have h233 := tk7 (sf6 (sf5 (sf5 (sf5 (sf5 (sf6 (sf6 h232)))))))
       have h234 : sat g w205 [Sl 28 3 p2 m2 c2 (fl eO ((madeK nn gg T (i + 1)).2)), TW b4 nn ((madeK nn gg T (i + 1)).1), Cl r196 [iV ((dupD ((madeK nn gg T i).1) (x153.1, x153.2.1, x153.2.2) ((i : Int) % 256, (i : Int) / 256 + 1)).1), iV ((dupD ((madeK nn gg T i).1) (x153.1, x153.2.1, x153.2.2) ((i : Int) % 256, (i : Int) / 256 + 1)).2.1), uV ((dupD ((madeK nn gg T i).1) (x153.1, x153.2.1, x153.2.2) ((i : Int) % 256, (i : Int) / 256 + 1)).2.2)] 28, Sl 28 3 p29 (((liveL ((madeK nn gg T i).1).E).length)) c30 (fl eO (liveL ((madeK nn gg T i).1).E)), Cl r23 [iV ((i : Int) % 256), uV ((i : Int) / 256 + 1)] 34, Old wo, R] := sat_imp h233 (fun _ hh_ => by rw [show ((madeK nn gg T i).2 : List Ky) = (madeK nn gg T (i + 1)).2 from (congrArg Prod.snd ht230).symm] at hh_; exact hh_)
       have h235 := tk7 (sf6 (sf5 (sf6 (sf6 (sf4 (sf4 (sf4 h234)))))))
       have h236 := tk4 h235
       change ∃ n', n' < _ ∧ _
       refine ⟨(n - (i + 1)), by omega, (i + 1), p2, m2, c2, _, rfl, (by omega), (by omega), (mk_live [(2, .slice p0 n cp), (8, pV b4), (10, .slice p2 m2 c2), (11, iV ((((i + 1) : Nat) : Int)))] ⟨rfl, rfl, rfl, (ov_int (by omega)), trivial⟩), h236⟩
    ·
     refine yBb [] [(111, .bool false), (118, .bool false)] [e1 6 (.bool false), e0 7] [] [(.bool (decide ((x40.1 % 8) < 5)), .bool false)] ⟨(ov_f (by omega)), trivial⟩ nC (.mk ?_)
     refine yK [(2, .slice p0 n cp), (8, pV b4), (10, .slice p2 m2 c2), (11, iV (i : Int)), (12, pV r23), (13, .slice p29 (((liveL ((madeK nn gg T i).1).E).length)) c30), (111, .bool false)] fun lr237 => ?_
     refine yCf ?_
     refine ySq ?_
     refine yPl [0, 1, 2, 3, 4, 5, 6, 7] ?_
     refine yB0 [2, 3, 4, 5, 6, 7] [0, 1] [(145, iV (i : Int)), (144, .slice p0 n cp)] ?_
     refine plain_law (i := 2) 146 (.pointer (some ⟨b37, off39 + i * 2, none⟩)) (by kernel_rfl) (law_indexSlP (o := opA (RA Try.f19 [1, 1, 1, 1, 0, 1, 0, 0, 1, 0, 0, 1, 1, 0, 1, 1, 1, 1, 1, 1, 0]) 2) (x := (Operand.tmp 144)) (i := (Operand.tmp 145)) (p := p0) (b := b37) (off := off39) (z := (i : Int)) (len := n) (cap := cp) (by kernel_rfl) Try.underlying44 2 (by kernel_rfl) i (by kernel_rfl) hp38 (by kernel_rfl) (by omega) (by omega) (off39 + i * 2) (by omega) _) ?_
     have hb238 := rem_bd (a := x40.1) (b := 8) (by omega) (by omega)
     refine yBb [5, 6, 7] [(148, yV x40.1), (147, .pointer (some ⟨b37, off39 + i * 2, none⟩))] [e0 3, e2 4 [yV x40.1]] [(4, ⟨b37, off39 + i * 2, none⟩, yV x40.1)] [] trivial (kC (gv_cell (j := 4) h35 rfl (gv_old hr) hp38 (fl_get eMv_ok (j := 0) (v := yV x40.1) hx41 rfl) (off39 + i * 2) (by omega)) nC) ?_
     refine plain_law (i := 5) 149 (yV ((x40.1 % 8))) (by kernel_rfl) (law_rem (o := opA (RA Try.f19 [1, 1, 1, 1, 0, 1, 0, 0, 1, 0, 0, 1, 1, 0, 1, 1, 1, 1, 1, 1, 0]) 5) (t := 5) (x := (Operand.tmp 148)) (y := (Operand.const (yV 8))) (by kernel_rfl) x40.1 8 (by kernel_rfl) (by kernel_rfl) (by omega) ((x40.1 % 8)) (rem_ex (by omega)) _) ?_
     by_cases c239 : (x40.1 % 8) < 7
     ·
      refine yBb [] [(143, .bool true), (150, .bool true)] [e1 6 (.bool true), e0 7] [] [(.bool (decide ((x40.1 % 8) < 7)), .bool true)] ⟨(ov_t (by omega)), trivial⟩ nC (.mk ?_)
      refine yK [(2, .slice p0 n cp), (8, pV b4), (10, .slice p2 m2 c2), (11, iV (i : Int)), (13, .slice p29 (((liveL ((madeK nn gg T i).1).E).length)) c30), (143, .bool true)] fun lr240 => ?_
      refine yCt ?_
      refine yPl [0, 1, 2, 3, 4, 5, 6, 7, 8, 9, 10, 11, 12, 13] ?_
      refine yB0 [4, 5, 6, 7, 8, 9, 10, 11, 12, 13] [0, 1, 2, 3] [(154, iV (i : Int)), (153, .slice p0 n cp), (152, .slice p29 (((liveL ((madeK nn gg T i).1).E).length)) c30), (151, pV b4)] ?_
      refine plain_law (i := 4) 155 (.pointer (some ⟨b37, off39 + i * 2, none⟩)) (by kernel_rfl) (law_indexSlP (o := opA (RA Try.f19 [1, 1, 1, 1, 0, 1, 0, 0, 1, 0, 0, 1, 1, 0, 1, 1, 1, 1, 1, 1, 1, 0]) 4) (x := (Operand.tmp 153)) (i := (Operand.tmp 154)) (p := p0) (b := b37) (off := off39) (z := (i : Int)) (len := n) (cap := cp) (by kernel_rfl) Try.underlying44 2 (by kernel_rfl) i (by kernel_rfl) hp38 (by kernel_rfl) (by omega) (by omega) (off39 + i * 2) (by omega) _) ?_
      have hb241 := rem_bd (a := x40.2) (b := (((liveL ((madeK nn gg T i).1).E).length : Nat) : Int)) (by omega) (by omega)
      refine yBb [10, 11, 12, 13] [(160, iV ((((liveL ((madeK nn gg T i).1).E).length : Nat) : Int))), (159, .slice p29 (((liveL ((madeK nn gg T i).1).E).length)) c30), (158, iV x40.2), (157, yV x40.2), (156, .pointer (some ⟨b37, off39 + i * 2 + 1, none⟩))] [e0 5, e2 6 [yV x40.2], e1 7 (iV x40.2), e0 8, e0 9] [(6, ⟨b37, off39 + i * 2 + 1, none⟩, yV x40.2)] [(iV (IntKind.wrap .i64 x40.2), iV x40.2)] ⟨(ov_i64 rfl (by omega) (by omega)), trivial⟩ (kC (gv_cell (j := 4) h35 rfl (gv_old hr) hp38 (fl_get eMv_ok (j := 1) (v := yV x40.2) hx41 rfl) (off39 + i * 2 + 1) (by omega)) nC) ?_
      refine plain_law (i := 10) 161 (iV ((x40.2 % ((((liveL ((madeK nn gg T i).1).E).length : Nat) : Int))))) (by kernel_rfl) (law_rem (o := opA (RA Try.f19 [1, 1, 1, 1, 0, 1, 0, 0, 1, 0, 0, 1, 1, 0, 1, 1, 1, 1, 1, 1, 1, 0]) 10) (t := 3) (x := (Operand.tmp 158)) (y := (Operand.tmp 160)) (by kernel_rfl) x40.2 ((((liveL ((madeK nn gg T i).1).E).length : Nat) : Int)) (by kernel_rfl) (by kernel_rfl) (by omega) ((x40.2 % ((((liveL ((madeK nn gg T i).1).E).length : Nat) : Int)))) (rem_ex (by omega)) _) ?_
      obtain ⟨b242, hp243⟩ := sl_ptr0 (j := 1) h35 rfl (by omega)
      obtain ⟨kk244, hk245⟩ : ∃ z_ : Nat, (x40.2 % ((((liveL ((madeK nn gg T i).1).E).length : Nat) : Int))) = (z_ : Int) := ⟨((x40.2 % ((((liveL ((madeK nn gg T i).1).E).length : Nat) : Int)))).toNat, by omega⟩
      refine plain_law (i := 11) 162 (.pointer (some ⟨b242, kk244 * 3, none⟩)) (by kernel_rfl) (law_indexSlP (o := opA (RA Try.f19 [1, 1, 1, 1, 0, 1, 0, 0, 1, 0, 0, 1, 1, 0, 1, 1, 1, 1, 1, 1, 1, 0]) 11) (x := (Operand.tmp 152)) (i := (Operand.tmp 161)) (p := p29) (b := b242) (off := 0) (z := ((x40.2 % ((((liveL ((madeK nn gg T i).1).E).length : Nat) : Int))))) (len := (((liveL ((madeK nn gg T i).1).E).length))) (cap := c30) (by kernel_rfl) Try.underlying45 3 (by kernel_rfl) kk244 (by kernel_rfl) hp243 (by kernel_rfl) (by omega) (by omega) (kk244 * 3) (by omega) _) ?_
      have h246 := tk6 (sf5 (sf4 (sf5 (sf5 (sf5 (sf5 h35))))))
      have hl247 := fl_n eO_ok (by decide) h246
      obtain ⟨x248, hx249⟩ : ∃ x, (liveL ((madeK nn gg T i).1).E)[kk244]? = some x := ⟨_, List.getElem?_eq_getElem (by rw [hl247]; omega)⟩
      have hv250 := live_ok hWi_ (List.mem_of_getElem? hx249)
      have hv250a := hv250.1; have hv250b := hv250.2.2.1; unfold goodD at hv250a
      refine yBb [13] [(163, .agg #[iV x248.1, iV x248.2.1, uV x248.2.2])] [e2 12 [iV x248.1, iV x248.2.1, uV x248.2.2]] [(12, ⟨b242, kk244 * 3, none⟩, iV x248.1), (12, ⟨b242, kk244 * 3 + 1, none⟩, iV x248.2.1), (12, ⟨b242, kk244 * 3 + 2, none⟩, uV x248.2.2)] [] trivial (kC (gv_cell (j := 0) h246 rfl (gv_sl _ _ _) hp243 (fl_get eO_ok (j := 0) (v := iV x248.1) hx249 rfl) (kk244 * 3) (by omega)) (kC (gv_cell (j := 0) h246 rfl (gv_sl _ _ _) hp243 (fl_get eO_ok (j := 1) (v := iV x248.2.1) hx249 rfl) (kk244 * 3 + 1) (by omega)) (kC (gv_cell (j := 0) h246 rfl (gv_sl _ _ _) hp243 (fl_get eO_ok (j := 2) (v := uV x248.2.2) hx249 rfl) (kk244 * 3 + 2) (by omega)) nC))) ?_
      have h251 := tk6 (sf5 (sf4 (sf5 (sf5 (sf5 (sf5 h246))))))
      refine yA ?_
      refine yCl 164 Try.call32 (lclose_w b4 nn ((madeK nn gg T i).1) x248.1 x248.2.1 x248.2.2 (by omega) (by omega)) h251 ?_
      rintro v K w252 (⟨rfl, rfl⟩) h253
      refine ⟨_, rfl, ?_⟩
      have h254 := ap1 h253
      refine PO.mk ?_
      refine yK [(2, .slice p0 n cp), (8, pV b4), (10, .slice p2 m2 c2), (11, iV (i : Int))] fun lr255 => ?_
      refine yPl [0, 1, 2] ?_
      refine yBb [] [(11, iV ((i : Int) + 1)), (39, iV ((i : Int) + 1)), (38, iV (i : Int))] [e0 0, e1 1 (iV ((i : Int) + 1)), e0 2] [] [(iV (IntKind.wrap .i64 ((i : Int) + 1)), iV ((i : Int) + 1))] ⟨(ov_i64 (by omega) (by omega) (by omega)), trivial⟩ nC (.mk ?_)
      have ht256 := madeK_go (n := nn) (g := gg) hx41 (turn_cls (p := (madeK nn gg T i)) (i := i) (m := x40) (by omega) (by omega) (by omega) (by omega) (tD_at (by omega) hx249))
      have h257 : sat g w252 [TW b4 nn ((madeK nn gg T (i + 1)).1), Sl 28 3 p29 (((liveL ((madeK nn gg T i).1).E).length)) c30 (fl eO (liveL ((madeK nn gg T i).1).E)), Cl r23 [iV ((i : Int) % 256), uV ((i : Int) / 256 + 1)] 34, Sl 28 3 p2 m2 c2 (fl eO ((madeK nn gg T i).2)), Old wo, R] := (show (lclS ((madeK nn gg T i).1) (x248.1, x248.2.1, x248.2.2)) = (madeK nn gg T (i + 1)).1 from (congrArg Prod.fst ht256).symm) ▸ h254
      have h258 := tk6 (sf5 (sf4 (sf4 (sf4 (sf5 (sf5 h257))))))
      have h259 : sat g w252 [Sl 28 3 p2 m2 c2 (fl eO ((madeK nn gg T (i + 1)).2)), TW b4 nn ((madeK nn gg T (i + 1)).1), Sl 28 3 p29 (((liveL ((madeK nn gg T i).1).E).length)) c30 (fl eO (liveL ((madeK nn gg T i).1).E)), Cl r23 [iV ((i : Int) % 256), uV ((i : Int) / 256 + 1)] 34, Old wo, R] := sat_imp h258 (fun _ hh_ => by rw [show ((madeK nn gg T i).2 : List Ky) = (madeK nn gg T (i + 1)).2 from (congrArg Prod.snd ht256).symm] at hh_; exact hh_)
      have h260 := tk6 (sf5 (sf4 (sf5 (sf5 (sf3 (sf3 h259))))))
      have h261 := tk4 h260
      change ∃ n', n' < _ ∧ _
      refine ⟨(n - (i + 1)), by omega, (i + 1), p2, m2, c2, _, rfl, (by omega), (by omega), (mk_live [(2, .slice p0 n cp), (8, pV b4), (10, .slice p2 m2 c2), (11, iV ((((i + 1) : Nat) : Int)))] ⟨rfl, rfl, rfl, (ov_int (by omega)), trivial⟩), h261⟩
     ·
      refine yBb [] [(143, .bool false), (150, .bool false)] [e1 6 (.bool false), e0 7] [] [(.bool (decide ((x40.1 % 8) < 7)), .bool false)] ⟨(ov_f (by omega)), trivial⟩ nC (.mk ?_)
      refine yK [(2, .slice p0 n cp), (8, pV b4), (10, .slice p2 m2 c2), (11, iV (i : Int)), (13, .slice p29 (((liveL ((madeK nn gg T i).1).E).length)) c30), (143, .bool false)] fun lr262 => ?_
      refine yCf ?_
      refine ySq ?_
      refine yPl [0, 1, 2, 3, 4, 5, 6, 7, 8, 9, 10, 11, 12, 13, 14, 15, 16, 17, 18] ?_
      refine yB0 [4, 5, 6, 7, 8, 9, 10, 11, 12, 13, 14, 15, 16, 17, 18] [0, 1, 2, 3] [(53, iV (i : Int)), (52, .slice p0 n cp), (51, .slice p29 (((liveL ((madeK nn gg T i).1).E).length)) c30), (50, pV b4)] ?_
      refine plain_law (i := 4) 54 (.pointer (some ⟨b37, off39 + i * 2, none⟩)) (by kernel_rfl) (law_indexSlP (o := opA (RA Try.f19 [1, 1, 1, 1, 0, 1, 0, 0, 1, 0, 0, 1, 1, 0, 1, 1, 1, 1, 1, 1, 1, 1, 0]) 4) (x := (Operand.tmp 52)) (i := (Operand.tmp 53)) (p := p0) (b := b37) (off := off39) (z := (i : Int)) (len := n) (cap := cp) (by kernel_rfl) Try.underlying44 2 (by kernel_rfl) i (by kernel_rfl) hp38 (by kernel_rfl) (by omega) (by omega) (off39 + i * 2) (by omega) _) ?_
      have hb263 := rem_bd (a := x40.2) (b := (((liveL ((madeK nn gg T i).1).E).length : Nat) : Int)) (by omega) (by omega)
      refine yBb [10, 11, 12, 13, 14, 15, 16, 17, 18] [(59, iV ((((liveL ((madeK nn gg T i).1).E).length : Nat) : Int))), (58, .slice p29 (((liveL ((madeK nn gg T i).1).E).length)) c30), (57, iV x40.2), (56, yV x40.2), (55, .pointer (some ⟨b37, off39 + i * 2 + 1, none⟩))] [e0 5, e2 6 [yV x40.2], e1 7 (iV x40.2), e0 8, e0 9] [(6, ⟨b37, off39 + i * 2 + 1, none⟩, yV x40.2)] [(iV (IntKind.wrap .i64 x40.2), iV x40.2)] ⟨(ov_i64 rfl (by omega) (by omega)), trivial⟩ (kC (gv_cell (j := 4) h35 rfl (gv_old hr) hp38 (fl_get eMv_ok (j := 1) (v := yV x40.2) hx41 rfl) (off39 + i * 2 + 1) (by omega)) nC) ?_
      refine plain_law (i := 10) 60 (iV ((x40.2 % ((((liveL ((madeK nn gg T i).1).E).length : Nat) : Int))))) (by kernel_rfl) (law_rem (o := opA (RA Try.f19 [1, 1, 1, 1, 0, 1, 0, 0, 1, 0, 0, 1, 1, 0, 1, 1, 1, 1, 1, 1, 1, 1, 0]) 10) (t := 3) (x := (Operand.tmp 57)) (y := (Operand.tmp 59)) (by kernel_rfl) x40.2 ((((liveL ((madeK nn gg T i).1).E).length : Nat) : Int)) (by kernel_rfl) (by kernel_rfl) (by omega) ((x40.2 % ((((liveL ((madeK nn gg T i).1).E).length : Nat) : Int)))) (rem_ex (by omega)) _) ?_
      obtain ⟨b264, hp265⟩ := sl_ptr0 (j := 1) h35 rfl (by omega)
      obtain ⟨kk266, hk267⟩ : ∃ z_ : Nat, (x40.2 % ((((liveL ((madeK nn gg T i).1).E).length : Nat) : Int))) = (z_ : Int) := ⟨((x40.2 % ((((liveL ((madeK nn gg T i).1).E).length : Nat) : Int)))).toNat, by omega⟩
      refine plain_law (i := 11) 61 (.pointer (some ⟨b264, kk266 * 3, none⟩)) (by kernel_rfl) (law_indexSlP (o := opA (RA Try.f19 [1, 1, 1, 1, 0, 1, 0, 0, 1, 0, 0, 1, 1, 0, 1, 1, 1, 1, 1, 1, 1, 1, 0]) 11) (x := (Operand.tmp 51)) (i := (Operand.tmp 60)) (p := p29) (b := b264) (off := 0) (z := ((x40.2 % ((((liveL ((madeK nn gg T i).1).E).length : Nat) : Int))))) (len := (((liveL ((madeK nn gg T i).1).E).length))) (cap := c30) (by kernel_rfl) Try.underlying45 3 (by kernel_rfl) kk266 (by kernel_rfl) hp265 (by kernel_rfl) (by omega) (by omega) (kk266 * 3) (by omega) _) ?_
      have h268 := tk6 (sf5 (sf4 (sf5 (sf5 (sf5 (sf5 h35))))))
      have hl269 := fl_n eO_ok (by decide) h268
      obtain ⟨x270, hx271⟩ : ∃ x, (liveL ((madeK nn gg T i).1).E)[kk266]? = some x := ⟨_, List.getElem?_eq_getElem (by rw [hl269]; omega)⟩
      have hv272 := live_ok hWi_ (List.mem_of_getElem? hx271)
      have hv272a := hv272.1; have hv272b := hv272.2.2.1; unfold goodD at hv272a
      refine yBb [13, 14, 15, 16, 17, 18] [(62, .agg #[iV x270.1, iV x270.2.1, uV x270.2.2])] [e2 12 [iV x270.1, iV x270.2.1, uV x270.2.2]] [(12, ⟨b264, kk266 * 3, none⟩, iV x270.1), (12, ⟨b264, kk266 * 3 + 1, none⟩, iV x270.2.1), (12, ⟨b264, kk266 * 3 + 2, none⟩, uV x270.2.2)] [] trivial (kC (gv_cell (j := 0) h268 rfl (gv_sl _ _ _) hp265 (fl_get eO_ok (j := 0) (v := iV x270.1) hx271 rfl) (kk266 * 3) (by omega)) (kC (gv_cell (j := 0) h268 rfl (gv_sl _ _ _) hp265 (fl_get eO_ok (j := 1) (v := iV x270.2.1) hx271 rfl) (kk266 * 3 + 1) (by omega)) (kC (gv_cell (j := 0) h268 rfl (gv_sl _ _ _) hp265 (fl_get eO_ok (j := 2) (v := uV x270.2.2) hx271 rfl) (kk266 * 3 + 2) (by omega)) nC))) ?_
      have h273 := tk6 (sf5 (sf4 (sf5 (sf5 (sf5 (sf5 h268))))))
      refine yA ?_
      refine yCl 63 Try.call25 (tnum_w b4 nn ((madeK nn gg T i).1) x270.1 x270.2.1 x270.2.2 (by omega) (by omega)) h273 ?_
      rintro v K w274 (⟨rfl, rfl⟩) h275
      refine ⟨_, rfl, ?_⟩
      have h276 := ap1 h275
      refine yB0 [] [14, 15, 16, 17, 18] [(19, iV ((fndE ((madeK nn gg T i).1) (x270.1, x270.2.1, x270.2.2)))), (18, iV ((fndX ((madeK nn gg T i).1) (x270.1, x270.2.1, x270.2.2)).num)), (65, iV ((fndE ((madeK nn gg T i).1) (x270.1, x270.2.1, x270.2.2)))), (64, iV ((fndX ((madeK nn gg T i).1) (x270.1, x270.2.1, x270.2.2)).num)), (49, .tuple #[iV ((fndX ((madeK nn gg T i).1) (x270.1, x270.2.1, x270.2.2)).num), iV ((fndE ((madeK nn gg T i).1) (x270.1, x270.2.1, x270.2.2)))])] (.mk ?_)
      refine yK [(2, .slice p0 n cp), (8, pV b4), (10, .slice p2 m2 c2), (11, iV (i : Int)), (18, iV ((fndX ((madeK nn gg T i).1) (x270.1, x270.2.1, x270.2.2)).num))] fun lr277 => ?_
      refine ySq ?_
      refine yPl [0, 1, 2] ?_
      refine yB0 [2] [0, 1] [(67, iV ((fndX ((madeK nn gg T i).1) (x270.1, x270.2.1, x270.2.2)).num)), (66, pV b4)] ?_
      refine yA ?_
      refine yCl 68 Try.call31 (texp_w b4 nn ((madeK nn gg T i).1) ((fndX ((madeK nn gg T i).1) (x270.1, x270.2.1, x270.2.2)).num)) h276 ?_
      rintro v K w280 (⟨p278, c279, rfl, rfl⟩) h281
      refine ⟨_, rfl, ?_⟩
      have h282 := ap2 h281
      refine PO.mk ?_
      refine yK [(2, .slice p0 n cp), (8, pV b4), (10, .slice p2 m2 c2), (11, iV (i : Int)), (18, iV ((fndX ((madeK nn gg T i).1) (x270.1, x270.2.1, x270.2.2)).num))] fun lr283 => ?_
      refine yPl [0, 1, 2] ?_
      refine yB0 [2] [0, 1] [(70, iV ((fndX ((madeK nn gg T i).1) (x270.1, x270.2.1, x270.2.2)).num)), (69, pV b4)] ?_
      refine yA ?_
      refine yCl 71 Try.call46 (leave_w b4 nn (expS ((madeK nn gg T i).1) ((fndX ((madeK nn gg T i).1) (x270.1, x270.2.1, x270.2.2)).num)) ((fndX ((madeK nn gg T i).1) (x270.1, x270.2.1, x270.2.2)).num) (exp_live hWi_ (List.mem_of_getElem? hx271)).1 (exp_live hWi_ (List.mem_of_getElem? hx271)).2.1 (exp_live hWi_ (List.mem_of_getElem? hx271)).2.2) h282 ?_
      rintro v K w284 (⟨rfl, rfl⟩) h285
      refine ⟨_, rfl, ?_⟩
      have h286 := ap1 h285
      refine PO.mk ?_
      refine yK [(2, .slice p0 n cp), (8, pV b4), (10, .slice p2 m2 c2), (11, iV (i : Int))] fun lr287 => ?_
      refine yPl [0, 1, 2] ?_
      refine yBb [] [(11, iV ((i : Int) + 1)), (39, iV ((i : Int) + 1)), (38, iV (i : Int))] [e0 0, e1 1 (iV ((i : Int) + 1)), e0 2] [] [(iV (IntKind.wrap .i64 ((i : Int) + 1)), iV ((i : Int) + 1))] ⟨(ov_i64 (by omega) (by omega) (by omega)), trivial⟩ nC (.mk ?_)
      have ht288 := madeK_go (n := nn) (g := gg) hx41 (turn_exp (p := (madeK nn gg T i)) (i := i) (m := x40) (by omega) (by omega) (by omega) (by omega) (tD_at (by omega) hx271))
      have h289 : sat g w284 [TW b4 nn ((madeK nn gg T (i + 1)).1), Sl 28 3 p278 (((descs ((madeK nn gg T i).1).E ((fndX ((madeK nn gg T i).1) (x270.1, x270.2.1, x270.2.2)).num)).length)) c279 (fl eO (descs ((madeK nn gg T i).1).E ((fndX ((madeK nn gg T i).1) (x270.1, x270.2.1, x270.2.2)).num))), Sl 28 3 p29 (((liveL ((madeK nn gg T i).1).E).length)) c30 (fl eO (liveL ((madeK nn gg T i).1).E)), Cl r23 [iV ((i : Int) % 256), uV ((i : Int) / 256 + 1)] 34, Sl 28 3 p2 m2 c2 (fl eO ((madeK nn gg T i).2)), Old wo, R] := (show (lvS (expS ((madeK nn gg T i).1) ((fndX ((madeK nn gg T i).1) (x270.1, x270.2.1, x270.2.2)).num)) ((fndX ((madeK nn gg T i).1) (x270.1, x270.2.1, x270.2.2)).num)) = (madeK nn gg T (i + 1)).1 from (congrArg Prod.fst ht288).symm) ▸ h286
      have h290 := tk7 (sf6 (sf5 (sf5 (sf5 (sf5 (sf6 (sf6 h289)))))))
      have h291 : sat g w284 [Sl 28 3 p2 m2 c2 (fl eO ((madeK nn gg T (i + 1)).2)), TW b4 nn ((madeK nn gg T (i + 1)).1), Sl 28 3 p278 (((descs ((madeK nn gg T i).1).E ((fndX ((madeK nn gg T i).1) (x270.1, x270.2.1, x270.2.2)).num)).length)) c279 (fl eO (descs ((madeK nn gg T i).1).E ((fndX ((madeK nn gg T i).1) (x270.1, x270.2.1, x270.2.2)).num))), Sl 28 3 p29 (((liveL ((madeK nn gg T i).1).E).length)) c30 (fl eO (liveL ((madeK nn gg T i).1).E)), Cl r23 [iV ((i : Int) % 256), uV ((i : Int) / 256 + 1)] 34, Old wo, R] := sat_imp h290 (fun _ hh_ => by rw [show ((madeK nn gg T i).2 : List Ky) = (madeK nn gg T (i + 1)).2 from (congrArg Prod.snd ht288).symm] at hh_; exact hh_)
      have h292 := tk7 (sf6 (sf5 (sf6 (sf6 (sf4 (sf4 (sf4 h291)))))))
      have h293 := tk4 h292
      change ∃ n', n' < _ ∧ _
      refine ⟨(n - (i + 1)), by omega, (i + 1), p2, m2, c2, _, rfl, (by omega), (by omega), (mk_live [(2, .slice p0 n cp), (8, pV b4), (10, .slice p2 m2 c2), (11, iV ((((i + 1) : Nat) : Int)))] ⟨rfl, rfl, rfl, (ov_int (by omega)), trivial⟩), h293⟩
 ·
  refine yBb [] [(37, .bool false)] [e1 3 (.bool false)] [] [(.bool (decide ((i : Int) < (n : Int))), .bool false)] ⟨(ov_f (by omega)), trivial⟩ nC (.mk ?_)
  refine yK [(2, .slice p0 n cp), (8, pV b4), (10, .slice p2 m2 c2), (11, iV (i : Int)), (37, .bool false)] fun lr294 => ?_
  refine yCf ?_
  refine yEx 0 ?_
  refine ySq ?_
  refine yPl [0, 1, 2, 3] ?_
  refine yB0 [] [0, 1, 2, 3] [(7, .slice p2 m2 c2), (6, pV b4), (166, .slice p2 m2 c2), (165, pV b4)] (.mk ?_)
  refine yK [(6, pV b4), (7, .slice p2 m2 c2)] fun lr295 => ?_
  refine yRt ?_
  repeat (first | simp only [Exit.inBlock] | simp only [Exit.then])
  have h296 : sat g w17 [TW b4 nn ((madeK nn gg T n).1), Sl 28 3 p2 m2 c2 (fl eO ((madeK nn gg T i).2)), Old wo, R] := (show (madeK nn gg T i).1 = (madeK nn gg T n).1 from by rw [show i = n from by omega]) ▸ h18
  have h297 := tk4 (sf3 (sf2 (sf3 (sf3 h296))))
  have h298 : sat g w17 [Sl 28 3 p2 m2 c2 (fl eO ((madeK nn gg T n).2)), TW b4 nn ((madeK nn gg T n).1), Old wo, R] := sat_imp h297 (fun _ hh_ => by rw [show ((madeK nn gg T i).2 : List Ky) = (madeK nn gg T n).2 from (by rw [show i = n from by omega])] at hh_; exact hh_)
  have hl299 := fl_n eO_ok (by decide) h298
  have h300 : sat g w17 [Sl 28 3 p2 (((madeK nn gg T n).2.length)) c2 (fl eO ((madeK nn gg T n).2)), TW b4 nn ((madeK nn gg T n).1), Old wo, R] := sat_imp h298 (fun _ hh_ => by rw [hl299]; exact hh_)
  have h301 := tk4 (sf3 (sf2 (sf3 (sf3 h300))))
  refine hi_out [] (.tuple #[pV b4, .slice p2 m2 c2]) [] (by kernel_rfl) (by intro q hq; cases hq) ?_
  exact ⟨.tuple #[pV b4, .slice p2 m2 c2], [TW b4 nn ((madeK nn gg T n).1), Sl 28 3 p2 (((madeK nn gg T n).2.length)) c2 (fl eO ((madeK nn gg T n).2)), Old wo], rfl, ⟨b4, p2, c2, by rw [hl299], rfl⟩, h301⟩

end Go.Proofs.Ytjjpmehiolejgaa

/- Walks, printed by my generator gen18.py. -/
namespace Go.Proofs.Ytjjpmehiolejgaa
theorem mem_vals {E : Tm} {k : Int} {e : Ety} (h : gget E k = some e) : ∃ q ∈ E, q.2 = e := by
  induction E with
  | nil => cases h
  | cons q E ih =>
    obtain ⟨a, v⟩ := q
    simp only [gget] at h
    split at h
    · exact ⟨_, List.mem_cons_self, Option.some.inj h⟩
    · obtain ⟨q, h1, h2⟩ := ih h
      exact ⟨q, List.mem_cons_of_mem _ h1, h2⟩
theorem not_has {E : Tm} {p : Int × Int} (h : ∀ q ∈ E, q.2.h ≠ p) : ∀ e ∈ allE E, e.h ≠ p := fun e he => by
  obtain ⟨k, _, hk⟩ := List.mem_filterMap.1 he
  obtain ⟨q, h1, h2⟩ := mem_vals hk
  rw [← h2]
  exact h q h1
theorem has_at {E : Tm} {p : Int × Int} (k : Nat) (e : Ety) (h : gget E (k : Int) = some e) (hk : k < 256) (he : e.h = p) : ∃ e ∈ allE E, e.h = p := ⟨e, List.mem_of_getElem? (allE_at h hk), he⟩
theorem tnew_lit (n : Nat) (gn : Int) (hn : 1 ≤ n ∧ n ≤ 256) (hgn : 1 ≤ gn ∧ gn ≤ 4294967295) (A2 : List Sl2) (hA : List.replicate n (0, gn) = A2) : HT Try.prog 11 [Value.int IntKind.i64 (((n : Nat) : Int)), Value.int IntKind.u32 gn] [] (fun v K => ∃ b : Nat, v = Value.tuple #[Value.pointer (some ⟨b, 0, none⟩), Value.int .i64 0] ∧ K = [Tab b n A2 [] []]) := by
  subst hA
  exact tnew_ok n gn hn hgn
theorem topen_lit (b n : Nat) (A : List Sl2) (E : Tm) (RL : List Rs) (x y z hx hy : Int) (L : List UInt8) (hz0 : 0 ≤ z) (hz1 : z ≤ 4294967295) (hm : L.length ≤ 1099511627776) (ho : 1 ≤ x ∧ x ≤ 3 ∧ 0 ≤ y ∧ y ≤ 63 ∧ 1 ≤ z) (ht : tagE L = 0) (hob : 0 ≤ hx ∧ hx ≤ 255 ∧ 1 ≤ hy) (hc : ∀ r ∈ RL, r.out ≠ (x, y, z)) (hh : ∀ e ∈ allE E, e.h ≠ (hx, hy)) (hl : RL.length < 2000) (j : Nat) (gj : Int) (hj : (inS 0 A 0)[0]? = some (j, gj)) (hfl_ : 1 ≤ (inS 0 A 0).length) (jz : Int) (hjz : (j : Int) = jz) (A2 : List Sl2) (E2 : Tm) (R2 : List Rs) (hA : A.set j (1, gj) = A2) (hE : gset E (j : Int) ⟨(x, (j : Int), gj), (RL.length : Int) + 1, (hx, hy)⟩ = E2) (hR : RL ++ [(⟨(x, y, z), 1, 0, 0, 0, L⟩ : Rs)] = R2) : HT Try.prog 12 [Value.pointer (some ⟨b, 0, none⟩), Value.agg #[Value.int IntKind.i64 x, Value.int IntKind.i64 y, Value.int IntKind.u32 z], Value.string (St L), Value.agg #[Value.int IntKind.i64 hx, Value.int IntKind.u32 hy]] [Tab b n A E RL] (fun v K => v = Value.tuple #[Value.agg #[Value.int IntKind.i64 x, Value.int IntKind.i64 jz, Value.int IntKind.u32 gj], Value.int IntKind.i64 0] ∧ K = [Tab b n A2 E2 R2]) := by
  subst hA
  subst hE
  subst hR
  subst hjz
  exact topen_ok b n A E RL x y z hx hy L hz0 hz1 hm ho ht hob hc hh hl j gj hj hfl_
theorem tdup_lit (b n : Nat) (A : List Sl2) (E : Tm) (RL : List Rs) (x y z hx hy : Int) (hob : 0 ≤ hx ∧ hx ≤ 255 ∧ 1 ≤ hy) (e : Ety) (hz0 : 0 ≤ z) (hz1 : z ≤ 4294967295) (ho : 1 ≤ x ∧ x ≤ 3 ∧ 0 ≤ y ∧ y ≤ 255 ∧ 1 ≤ z) (hg_ : gget E y = some e) (hd_ : e.d.1 = x ∧ e.d.2.1 = y ∧ e.d.2.2 = z) (hh : ∀ e ∈ allE E, e.h ≠ (hx, hy)) (q : Nat) (r : Rs) (hr : RL[q]? = some r) (hv : e.num = (q : Int) + 1) (j : Nat) (gj : Int) (hj : (inS 0 A 0)[0]? = some (j, gj)) (hfl_ : 1 ≤ (inS 0 A 0).length) (jz kz : Int) (hjz : (j : Int) = jz) (hkz : r.out.1 = kz) (A2 : List Sl2) (E2 : Tm) (hA : A.set j (1, gj) = A2) (hE : gset E (j : Int) ⟨(r.out.1, (j : Int), gj), e.num, (hx, hy)⟩ = E2) : HT Try.prog 14 [Value.pointer (some ⟨b, 0, none⟩), Value.agg #[Value.int IntKind.i64 x, Value.int IntKind.i64 y, Value.int IntKind.u32 z], Value.agg #[Value.int IntKind.i64 hx, Value.int IntKind.u32 hy]] [Tab b n A E RL] (fun v K => v = Value.tuple #[Value.agg #[Value.int IntKind.i64 kz, Value.int IntKind.i64 jz, Value.int IntKind.u32 gj], Value.int IntKind.i64 0] ∧ K = [Tab b n A2 E2 RL]) := by
  subst hA
  subst hE
  subst hjz
  subst hkz
  exact tdup_ok b n A E RL x y z hx hy hob e hz0 hz1 ho hg_ hd_ hh q r hr hv j gj hj hfl_
theorem tclose_lit (b n : Nat) (A : List Sl2) (E : Tm) (RL : List Rs) (x y z : Int) (e : Ety) (hz0 : 0 ≤ z) (hz1 : z ≤ 4294967295) (ho : 1 ≤ x ∧ x ≤ 3 ∧ 0 ≤ y ∧ y ≤ 255 ∧ 1 ≤ z) (hg_ : gget E y = some e) (hd_ : e.d.1 = x ∧ e.d.2.1 = y ∧ e.d.2.2 = z) (q : Nat) (s : Sl2) (hs : A[q]? = some s) (hs_ : y = (q : Int) ∧ s.1 = 1 ∧ s.2 = z) (hnum : 1 ≤ e.num ∧ e.num ≤ (RL.length : Int)) (nz : Int) (hnz : e.num = nz) (lb : Bool) (hlb : decide ((descs (gdel E y) e.num).length = 0) = lb) (A2 : List Sl2) (E2 : Tm) (hA : giveA A q z = A2) (hE : gdel E y = E2) : HT Try.prog 15 [Value.pointer (some ⟨b, 0, none⟩), Value.agg #[Value.int IntKind.i64 x, Value.int IntKind.i64 y, Value.int IntKind.u32 z]] [Tab b n A E RL] (fun v K => v = Value.tuple #[Value.int .i64 nz, Value.bool lb, Value.int .i64 0] ∧ K = [Tab b n A2 E2 RL]) := by
  subst hA
  subst hE
  subst hlb
  subst hnz
  exact tclose_ok b n A E RL x y z e hz0 hz1 ho hg_ hd_ q s hs hs_ hnum
theorem seq28_eql_t {n : Nat} {l : Fr} {o : Oper} {x y : Operand} (a0 : Int) (a1 : Int) (a2 : Int) (c0 : Int) (c1 : Int) (c2 : Int) (ho : o.op = .binOp .eql 28 x y 28) (hx : fe n l x = .agg #[.int .i64 a0, .int .i64 a1, .int .u32 a2]) (hy : fe n l y = .agg #[.int .i64 c0, .int .i64 c1, .int .u32 c2]) (h : a0 = c0 ∧ a1 = c1 ∧ a2 = c2) (w : World) : (execOp (fe n l) o).run Try.prog w = .ok (.value (.bool true)) w := by
  obtain ⟨rfl, rfl, rfl⟩ := h
  simp [execOp, ho, hx, hy, go_sem]
set_option maxHeartbeats 4000000 in
theorem lfile (y z : Int) : HT Try.prog 13 [Value.int IntKind.i64 y, Value.int IntKind.u32 z] [] (fun v K => v = Value.agg #[Value.int IntKind.i64 1, Value.int IntKind.i64 y, Value.int IntKind.u32 z] ∧ K = []) := by
 refine hi_in 8 ([(0, iV y), (1, uV z)] : Fr) Try.func13 (by kernel_rfl) Try.ntmps13 rfl rfl ?_
 intro g w0 R h0
 refine ySq ?_
 refine yPl [0] ?_
 refine yA ?_
 refine yNp 4 32 [iV 0, iV 0, uV 0] h0 fun r1 w2 h3 => ?_
 refine PO.mk ?_
 refine yK [(0, iV y), (1, uV z), (4, pV r1)] fun lr4 => ?_
 refine ySq ?_
 refine yPl [0, 1, 2, 3] ?_
 refine yB0 [3] [0, 1, 2] [(7, .agg #[iV 1, iV y, uV z]), (6, uV z), (5, iV y)] ?_
 refine yA ?_
 refine yS [(0, iV 1), (1, iV y), (2, uV z)] [iV 1, iV y, uV z] h3 fun w5 h6 => ?_
 refine PO.mk ?_
 refine yK [(4, pV r1)] fun lr7 => ?_
 refine yRt ?_
 repeat (first | simp only [Exit.inBlock] | simp only [Exit.then])
 have h8 := tk1 (sf1 h6)
 refine hi_out [iV 1, iV y, uV z] (.agg #[iV 1, iV y, uV z]) [(⟨r1, 0, none⟩, iV 1), (⟨r1, 1, none⟩, iV y), (⟨r1, 2, none⟩, uV z)] (by kernel_rfl) (allq ⟨sat_cell h6 0 rfl rfl, sat_cell h6 0 rfl rfl, sat_cell h6 0 rfl rfl, trivial⟩) ?_
 exact ⟨.agg #[iV 1, iV y, uV z], [], rfl, ⟨rfl, rfl⟩, h8⟩

set_option maxHeartbeats 4000000 in
theorem ldesc (y z : Int) : HT Try.prog 16 [Value.int IntKind.i64 y, Value.int IntKind.u32 z] [] (fun v K => v = Value.agg #[Value.int IntKind.i64 1, Value.int IntKind.i64 y, Value.int IntKind.u32 z] ∧ K = []) := by
 refine hi_in 8 ([(0, iV y), (1, uV z)] : Fr) Try.func16 (by kernel_rfl) Try.ntmps16 rfl rfl ?_
 intro g w0 R h0
 refine ySq ?_
 refine yPl [0] ?_
 refine yA ?_
 refine yNp 4 28 [iV 0, iV 0, uV 0] h0 fun r1 w2 h3 => ?_
 refine PO.mk ?_
 refine yK [(0, iV y), (1, uV z), (4, pV r1)] fun lr4 => ?_
 refine ySq ?_
 refine yPl [0, 1, 2, 3] ?_
 refine yB0 [3] [0, 1, 2] [(7, .agg #[iV 1, iV y, uV z]), (6, uV z), (5, iV y)] ?_
 refine yA ?_
 refine yS [(0, iV 1), (1, iV y), (2, uV z)] [iV 1, iV y, uV z] h3 fun w5 h6 => ?_
 refine PO.mk ?_
 refine yK [(4, pV r1)] fun lr7 => ?_
 refine yRt ?_
 repeat (first | simp only [Exit.inBlock] | simp only [Exit.then])
 have h8 := tk1 (sf1 h6)
 refine hi_out [iV 1, iV y, uV z] (.agg #[iV 1, iV y, uV z]) [(⟨r1, 0, none⟩, iV 1), (⟨r1, 1, none⟩, iV y), (⟨r1, 2, none⟩, uV z)] (by kernel_rfl) (allq ⟨sat_cell h6 0 rfl rfl, sat_cell h6 0 rfl rfl, sat_cell h6 0 rfl rfl, trivial⟩) ?_
 exact ⟨.agg #[iV 1, iV y, uV z], [], rfl, ⟨rfl, rfl⟩, h8⟩

set_option maxHeartbeats 4000000 in
theorem works_ht  : HT Try.prog 18 [] [] (fun v K => v = Value.bool true ∧ K = []) := by
 refine hi_in 148 ([] : Fr) Try.func18 (by kernel_rfl) Try.ntmps18 rfl rfl ?_
 intro g w0 R h0
 refine ySq ?_
 refine yPl [0] ?_
 refine yB0 [] [0] [(0, .bool false)] (.mk ?_)
 refine yK [] fun lr1 => ?_
 refine ySq ?_
 refine yPl [0, 1, 2, 3, 4, 5] ?_
 refine yA ?_
 refine yCl 22 Try.call11 (tnew_lit 2 1 (by omega) (by omega) [(0, 1), (0, 1)] (by kernel_rfl)) h0 ?_
 rintro v K w3 (⟨b2, rfl, rfl⟩) h4
 refine ⟨_, rfl, ?_⟩
 have h5 := ap1 h4
 refine yB0 [] [1, 2, 3, 4, 5] [(2, iV 0), (1, pV b2), (24, iV 0), (23, pV b2), (21, .tuple #[pV b2, iV 0])] (.mk ?_)
 refine yK [(1, pV b2), (2, iV 0)] fun lr6 => ?_
 refine ySq ?_
 refine ySq ?_
 refine yPl [0, 1, 2, 3, 4, 5] ?_
 refine yB0 [] [0, 1, 2, 3, 4, 5] [(30, .bool false), (29, .bool false), (28, pV b2), (27, .bool false), (26, .bool false), (25, iV 0)] (.mk ?_)
 refine yK [(1, pV b2), (30, .bool false)] fun lr7 => ?_
 refine yCf ?_
 refine ySk ?_
 refine ySq ?_
 refine yPl [0, 1, 2, 3, 4, 5, 6, 7, 8, 9] ?_
 refine yB0 [1, 2, 3, 4, 5, 6, 7, 8, 9] [0] [(32, pV b2)] ?_
 refine yA ?_
 refine yCl 33 Try.call13 (lfile 0 1) h5 ?_
 rintro v K w8 (⟨rfl, rfl⟩) h9
 refine ⟨_, rfl, ?_⟩
 have h10 := ap0 h9
 refine yB0 [3, 4, 5, 6, 7, 8, 9] [2] [(34, .agg #[iV 5, uV 1])] ?_
 refine yA ?_
 refine yCl 35 Try.call12 (topen_lit b2 2 [(0, 1), (0, 1)] [] [] (1) (0) (1) (5) (1) [109, 97, 105, 110] (by omega) (by omega) (by simp only [List.length_cons, List.length_nil]; omega) (by omega) (by kernel_rfl) (by omega) (by decide) (not_has (by decide)) (by decide) 0 1 (by kernel_rfl) (by decide) 0 rfl [(1, 1), (0, 1)] [(0, ⟨(1, 0, 1), 1, (5, 1)⟩)] [⟨(1, 0, 1), 1, 0, 0, 0, [109, 97, 105, 110]⟩] (by kernel_rfl) (by kernel_rfl) (by kernel_rfl)) h10 ?_
 rintro v K w11 (⟨rfl, rfl⟩) h12
 refine ⟨_, rfl, ?_⟩
 have h13 := ap1 h12
 refine yB0 [7, 8, 9] [4, 5, 6] [(37, iV 0), (36, .agg #[iV 1, iV 0, uV 1]), (31, .tuple #[.agg #[iV 1, iV 0, uV 1], iV 0])] ?_
 refine yA ?_
 refine yNp 3 28 [iV 0, iV 0, uV 0] h13 fun r14 w15 h16 => ?_
 refine yA ?_
 refine yS [(0, iV 1), (1, iV 0), (2, uV 1)] [iV 1, iV 0, uV 1] h16 fun w17 h18 => ?_
 refine yB0 [] [9] [(4, iV 0)] (.mk ?_)
 refine yK [(1, pV b2), (3, pV r14), (4, iV 0)] fun lr19 => ?_
 refine ySq ?_
 refine yPl [0, 1, 2, 3, 4, 5, 6, 7, 8, 9] ?_
 refine yB0 [1, 2, 3, 4, 5, 6, 7, 8, 9] [0] [(39, pV b2)] ?_
 refine yA ?_
 refine yCl 40 Try.call13 (lfile 1 1) h18 ?_
 rintro v K w20 (⟨rfl, rfl⟩) h21
 refine ⟨_, rfl, ?_⟩
 have h22 := ap0 h21
 refine yB0 [3, 4, 5, 6, 7, 8, 9] [2] [(41, .agg #[iV 5, uV 1])] ?_
 have h23 := tk3 (sf2 (sf1 (sf2 h22)))
 refine yA ?_
 refine yCl 42 Try.call12 (topen_have b2 2 [(1, 1), (0, 1)] [(0, ⟨(1, 0, 1), 1, (5, 1)⟩)] ([⟨(1, 0, 1), 1, 0, 0, 0, [109, 97, 105, 110]⟩]) (1) (1) (1) (5) (1) [120] (by omega) (by omega) (by simp only [List.length_cons, List.length_nil]; omega) (by omega) (by kernel_rfl) (by omega) (by decide) (has_at 0 ⟨(1, 0, 1), 1, (5, 1)⟩ (by kernel_rfl) (by decide) rfl)) h23 ?_
 rintro v K w24 (⟨rfl, rfl⟩) h25
 refine ⟨_, rfl, ?_⟩
 have h26 := ap1 h25
 refine yB0 [7, 8, 9] [4, 5, 6] [(44, iV 6), (43, .agg #[iV 0, iV 0, uV 0]), (38, .tuple #[.agg #[iV 0, iV 0, uV 0], iV 6])] ?_
 refine yA ?_
 refine yNp 5 28 [iV 0, iV 0, uV 0] h26 fun r27 w28 h29 => ?_
 refine yA ?_
 refine yS [(0, iV 0), (1, iV 0), (2, uV 0)] [iV 0, iV 0, uV 0] h29 fun w30 h31 => ?_
 refine yB0 [] [9] [(6, iV 6)] (.mk ?_)
 refine yK [(1, pV b2), (3, pV r14), (4, iV 0), (6, iV 6)] fun lr32 => ?_
 refine ySq ?_
 refine yPl [0, 1, 2, 3, 4, 5, 6, 7, 8, 9] ?_
 refine yBb [3, 4, 5, 6, 7, 8, 9] [(48, .agg #[iV 6, uV 1]), (47, .agg #[iV 1, iV 0, uV 1]), (46, pV b2)] [e0 0, e2 1 [iV 1, iV 0, uV 1], e0 2] [(1, ⟨r14, 0, none⟩, iV 1), (1, ⟨r14, 1, none⟩, iV 0), (1, ⟨r14, 2, none⟩, uV 1)] [] trivial (kC (sat_cell h31 2 rfl rfl) (kC (sat_cell h31 2 rfl rfl) (kC (sat_cell h31 2 rfl rfl) nC))) ?_
 have h33 := tk4 (sf3 (sf2 (sf3 (sf3 h31))))
 refine yA ?_
 refine yCl 49 Try.call14 (tdup_lit b2 2 [(1, 1), (0, 1)] [(0, ⟨(1, 0, 1), 1, (5, 1)⟩)] ([⟨(1, 0, 1), 1, 0, 0, 0, [109, 97, 105, 110]⟩]) 1 0 1 6 1 (by omega) ⟨(1, 0, 1), 1, (5, 1)⟩ (by omega) (by omega) (by omega) (by kernel_rfl) (by decide) (not_has (by decide)) 0 ⟨(1, 0, 1), 1, 0, 0, 0, [109, 97, 105, 110]⟩ rfl (by decide) 1 1 (by kernel_rfl) (by decide) 1 1 rfl rfl [(1, 1), (1, 1)] [(0, ⟨(1, 0, 1), 1, (5, 1)⟩), (1, ⟨(1, 1, 1), 1, (6, 1)⟩)] (by kernel_rfl) (by kernel_rfl)) h33 ?_
 rintro v K w34 (⟨rfl, rfl⟩) h35
 refine ⟨_, rfl, ?_⟩
 have h36 := ap1 h35
 refine yB0 [7, 8, 9] [4, 5, 6] [(51, iV 0), (50, .agg #[iV 1, iV 1, uV 1]), (45, .tuple #[.agg #[iV 1, iV 1, uV 1], iV 0])] ?_
 refine yA ?_
 refine yNp 7 28 [iV 0, iV 0, uV 0] h36 fun r37 w38 h39 => ?_
 refine yA ?_
 refine yS [(0, iV 1), (1, iV 1), (2, uV 1)] [iV 1, iV 1, uV 1] h39 fun w40 h41 => ?_
 refine yB0 [] [9] [(8, iV 0)] (.mk ?_)
 refine yK [(1, pV b2), (3, pV r14), (4, iV 0), (6, iV 6), (7, pV r37), (8, iV 0)] fun lr42 => ?_
 refine ySq ?_
 refine ySq ?_
 refine gi_drw (id := 7) (ops := RA Try.f18 [1, 1, 1, 1, 1, 1, 0, 0]) (Tr.fl 0 (Tr.fl 1 (Tr.fl 2 (Tr.fl 3 (Tr.an 4 (Tr.fl 5 (Tr.fl 6 (Tr.fl 7 (Tr.fl 8 (Tr.fl 9 (Tr.fl 10 (Tr.fl 11 (Tr.fl 12 (Tr.fl 13 (Tr.fl 14 (Tr.fl 15 (Tr.fl 16 (Tr.an 17 (Tr.fl 18 (Tr.fl 19 Tr.nil)))))))))))))))))))) (by kernel_rfl) (by kernel_rfl) (by kernel_rfl) (by kernel_rfl) (by kernel_rfl) (fun _ _ d _ _ h => by cases d <;> exact h) h41 ?_
 intro w43 h44
 refine yD _ [(55, .agg #[iV 1, iV 0, uV 1]), (54, .bool false), (53, .bool false), (52, iV 0)] [e0 0, e0 1, e0 2, e2 3 [iV 1, iV 0, uV 1]] [(3, ⟨r14, 0, none⟩, iV 1), (3, ⟨r14, 1, none⟩, iV 0), (3, ⟨r14, 2, none⟩, uV 1)] [] trivial (kC (sat_cell h44 3 rfl rfl) (kC (sat_cell h44 3 rfl rfl) (kC (sat_cell h44 3 rfl rfl) nC))) ?_
 refine draw_act (i := 4) [(3, ⟨r14, 0, none⟩, iV 1), (3, ⟨r14, 1, none⟩, iV 0), (3, ⟨r14, 2, none⟩, uV 1)] (by kernel_rfl) (by kernel_rfl) ?_
 refine yCl 56 Try.call16 (ldesc 0 1) h44 ?_
 rintro v K w45 (⟨rfl, rfl⟩) h46
 refine ⟨_, rfl, ?_⟩
 have h47 := ap0 h46
 refine ⟨(AllC_cons (sat_cell h47 3 rfl rfl) (AllC_cons (sat_cell h47 3 rfl rfl) (AllC_cons (sat_cell h47 3 rfl rfl) (AllC_nil _)))), ?_⟩
 refine draw_law (i := 5) 57 (.bool false) [] (by kernel_rfl) (fun _ _ => seq28_neq_t (o := opA (RA Try.f18 [1, 1, 1, 1, 1, 1, 0, 0]) 5) (x := (Operand.tmp 55)) (y := (Operand.tmp 56)) 1 0 1 1 0 1 (by kernel_rfl) (by kernel_rfl) (by kernel_rfl) ⟨rfl, rfl, rfl⟩ _) (by intro q hq; cases hq) ?_
 refine yD _ [(68, .agg #[iV 1, iV 1, uV 1]), (67, .bool false), (66, .bool false), (65, .bool false), (64, iV 0), (63, .bool false), (62, .bool false), (61, .bool false), (60, iV 6), (59, .bool false), (58, .bool false)] [e0 6, e0 7, e0 8, e0 9, e0 10, e0 11, e0 12, e0 13, e0 14, e0 15, e2 16 [iV 1, iV 1, uV 1]] [(16, ⟨r37, 0, none⟩, iV 1), (16, ⟨r37, 1, none⟩, iV 1), (16, ⟨r37, 2, none⟩, uV 1)] [] trivial (kC (sat_cell h47 0 rfl rfl) (kC (sat_cell h47 0 rfl rfl) (kC (sat_cell h47 0 rfl rfl) nC))) ?_
 refine draw_act (i := 17) [(16, ⟨r37, 0, none⟩, iV 1), (16, ⟨r37, 1, none⟩, iV 1), (16, ⟨r37, 2, none⟩, uV 1), (3, ⟨r14, 0, none⟩, iV 1), (3, ⟨r14, 1, none⟩, iV 0), (3, ⟨r14, 2, none⟩, uV 1)] (by kernel_rfl) (by kernel_rfl) ?_
 refine yCl 69 Try.call16 (ldesc 1 1) h47 ?_
 rintro v K w48 (⟨rfl, rfl⟩) h49
 refine ⟨_, rfl, ?_⟩
 have h50 := ap0 h49
 refine ⟨(AllC_cons (sat_cell h50 0 rfl rfl) (AllC_cons (sat_cell h50 0 rfl rfl) (AllC_cons (sat_cell h50 0 rfl rfl) (AllC_cons (sat_cell h50 3 rfl rfl) (AllC_cons (sat_cell h50 3 rfl rfl) (AllC_cons (sat_cell h50 3 rfl rfl) (AllC_nil _))))))), ?_⟩
 refine draw_law (i := 18) 70 (.bool false) [] (by kernel_rfl) (fun _ _ => seq28_neq_t (o := opA (RA Try.f18 [1, 1, 1, 1, 1, 1, 0, 0]) 18) (x := (Operand.tmp 68)) (y := (Operand.tmp 69)) 1 1 1 1 1 1 (by kernel_rfl) (by kernel_rfl) (by kernel_rfl) ⟨rfl, rfl, rfl⟩ _) (by intro q hq; cases hq) ?_
 refine yD _ [(71, .bool false)] [e0 19] [] [] trivial nC ?_
 refine yK [(1, pV b2), (3, pV r14), (7, pV r37), (71, .bool false)] fun lr51 => ?_
 refine yCf ?_
 refine ySk ?_
 refine ySq ?_
 refine yPl [0, 1, 2, 3, 4, 5, 6, 7, 8, 9] ?_
 refine yBb [2, 3, 4, 5, 6, 7, 8, 9] [(74, .agg #[iV 1, iV 0, uV 1]), (73, pV b2)] [e0 0, e2 1 [iV 1, iV 0, uV 1]] [(1, ⟨r14, 0, none⟩, iV 1), (1, ⟨r14, 1, none⟩, iV 0), (1, ⟨r14, 2, none⟩, uV 1)] [] trivial (kC (sat_cell h50 3 rfl rfl) (kC (sat_cell h50 3 rfl rfl) (kC (sat_cell h50 3 rfl rfl) nC))) ?_
 have h52 := tk5 (sf4 (sf3 (sf4 (sf4 (sf4 h50)))))
 refine yA ?_
 refine yCl 75 Try.call15 (tclose_lit b2 2 [(1, 1), (1, 1)] [(0, ⟨(1, 0, 1), 1, (5, 1)⟩), (1, ⟨(1, 1, 1), 1, (6, 1)⟩)] ([⟨(1, 0, 1), 1, 0, 0, 0, [109, 97, 105, 110]⟩]) 1 0 1 ⟨(1, 0, 1), 1, (5, 1)⟩ (by omega) (by omega) (by omega) (by kernel_rfl) (by decide) 0 (1, 1) rfl (by decide) (by decide) 1 rfl false (by kernel_rfl) [(0, 2), (1, 1)] [(1, ⟨(1, 1, 1), 1, (6, 1)⟩)] (by kernel_rfl) (by kernel_rfl)) h52 ?_
 rintro v K w53 (⟨rfl, rfl⟩) h54
 refine ⟨_, rfl, ?_⟩
 have h55 := ap1 h54
 refine yB0 [] [3, 4, 5, 6, 7, 8, 9] [(11, iV 0), (10, .bool false), (9, iV 1), (78, iV 0), (77, .bool false), (76, iV 1), (72, .tuple #[iV 1, .bool false, iV 0])] (.mk ?_)
 refine yK [(1, pV b2), (3, pV r14), (7, pV r37), (9, iV 1), (10, .bool false), (11, iV 0)] fun lr56 => ?_
 refine ySq ?_
 refine yPl [0, 1, 2, 3, 4, 5, 6, 7] ?_
 refine yBb [2, 3, 4, 5, 6, 7] [(81, .agg #[iV 1, iV 0, uV 1]), (80, pV b2)] [e0 0, e2 1 [iV 1, iV 0, uV 1]] [(1, ⟨r14, 0, none⟩, iV 1), (1, ⟨r14, 1, none⟩, iV 0), (1, ⟨r14, 2, none⟩, uV 1)] [] trivial (kC (sat_cell h55 3 rfl rfl) (kC (sat_cell h55 3 rfl rfl) (kC (sat_cell h55 3 rfl rfl) nC))) ?_
 refine yA ?_
 refine yCl 82 Try.call25 (tnum_none b2 2 [(0, 2), (1, 1)] [(1, ⟨(1, 1, 1), 1, (6, 1)⟩)] ([⟨(1, 0, 1), 1, 0, 0, 0, [109, 97, 105, 110]⟩]) 1 0 1 (by omega) (by omega) (by omega) (by kernel_rfl)) h55 ?_
 rintro v K w57 (⟨rfl, rfl⟩) h58
 refine ⟨_, rfl, ?_⟩
 have h59 := ap1 h58
 refine yB0 [] [3, 4, 5, 6, 7] [(13, iV 7), (12, iV 0), (84, iV 7), (83, iV 0), (79, .tuple #[iV 0, iV 7])] (.mk ?_)
 refine yK [(1, pV b2), (3, pV r14), (7, pV r37), (9, iV 1), (10, .bool false), (11, iV 0), (13, iV 7)] fun lr60 => ?_
 refine ySq ?_
 refine yPl [0, 1, 2, 3, 4, 5, 6, 7, 8, 9] ?_
 refine yBb [2, 3, 4, 5, 6, 7, 8, 9] [(87, .agg #[iV 1, iV 1, uV 1]), (86, pV b2)] [e0 0, e2 1 [iV 1, iV 1, uV 1]] [(1, ⟨r37, 0, none⟩, iV 1), (1, ⟨r37, 1, none⟩, iV 1), (1, ⟨r37, 2, none⟩, uV 1)] [] trivial (kC (sat_cell h59 1 rfl rfl) (kC (sat_cell h59 1 rfl rfl) (kC (sat_cell h59 1 rfl rfl) nC))) ?_
 refine yA ?_
 refine yCl 88 Try.call15 (tclose_lit b2 2 [(0, 2), (1, 1)] [(1, ⟨(1, 1, 1), 1, (6, 1)⟩)] ([⟨(1, 0, 1), 1, 0, 0, 0, [109, 97, 105, 110]⟩]) 1 1 1 ⟨(1, 1, 1), 1, (6, 1)⟩ (by omega) (by omega) (by omega) (by kernel_rfl) (by decide) 1 (1, 1) rfl (by decide) (by decide) 1 rfl true (by kernel_rfl) [(0, 2), (0, 2)] [] (by kernel_rfl) (by kernel_rfl)) h59 ?_
 rintro v K w61 (⟨rfl, rfl⟩) h62
 refine ⟨_, rfl, ?_⟩
 have h63 := ap1 h62
 refine yB0 [] [3, 4, 5, 6, 7, 8, 9] [(16, iV 0), (15, .bool true), (14, iV 1), (91, iV 0), (90, .bool true), (89, iV 1), (85, .tuple #[iV 1, .bool true, iV 0])] (.mk ?_)
 refine yK [(1, pV b2), (3, pV r14), (9, iV 1), (10, .bool false), (11, iV 0), (13, iV 7), (14, iV 1), (15, .bool true), (16, iV 0)] fun lr64 => ?_
 refine ySq ?_
 refine yPl [0, 1, 2, 3, 4, 5, 6, 7, 8, 9] ?_
 refine yB0 [1, 2, 3, 4, 5, 6, 7, 8, 9] [0] [(93, pV b2)] ?_
 refine yA ?_
 refine yCl 94 Try.call13 (lfile 1 1) h63 ?_
 rintro v K w65 (⟨rfl, rfl⟩) h66
 refine ⟨_, rfl, ?_⟩
 have h67 := ap0 h66
 refine yB0 [3, 4, 5, 6, 7, 8, 9] [2] [(95, .agg #[iV 5, uV 1])] ?_
 refine yA ?_
 refine yCl 96 Try.call12 (topen_lit b2 2 [(0, 2), (0, 2)] [] ([⟨(1, 0, 1), 1, 0, 0, 0, [109, 97, 105, 110]⟩]) (1) (1) (1) (5) (1) [120] (by omega) (by omega) (by simp only [List.length_cons, List.length_nil]; omega) (by omega) (by kernel_rfl) (by omega) (by decide) (not_has (by decide)) (by decide) 0 2 (by kernel_rfl) (by decide) 0 rfl [(1, 2), (0, 2)] [(0, ⟨(1, 0, 2), 2, (5, 1)⟩)] [⟨(1, 0, 1), 1, 0, 0, 0, [109, 97, 105, 110]⟩, ⟨(1, 1, 1), 1, 0, 0, 0, [120]⟩] (by kernel_rfl) (by kernel_rfl) (by kernel_rfl)) h67 ?_
 rintro v K w68 (⟨rfl, rfl⟩) h69
 refine ⟨_, rfl, ?_⟩
 have h70 := ap1 h69
 refine yB0 [7, 8, 9] [4, 5, 6] [(98, iV 0), (97, .agg #[iV 1, iV 0, uV 2]), (92, .tuple #[.agg #[iV 1, iV 0, uV 2], iV 0])] ?_
 refine yA ?_
 refine yNp 17 28 [iV 0, iV 0, uV 0] h70 fun r71 w72 h73 => ?_
 refine yA ?_
 refine yS [(0, iV 1), (1, iV 0), (2, uV 2)] [iV 1, iV 0, uV 2] h73 fun w74 h75 => ?_
 refine yB0 [] [9] [(18, iV 0)] (.mk ?_)
 refine yK [(1, pV b2), (3, pV r14), (9, iV 1), (10, .bool false), (11, iV 0), (13, iV 7), (14, iV 1), (15, .bool true), (16, iV 0), (17, pV r71), (18, iV 0)] fun lr76 => ?_
 refine ySq ?_
 refine yPl [0, 1, 2, 3, 4, 5, 6, 7] ?_
 refine yBb [2, 3, 4, 5, 6, 7] [(101, .agg #[iV 1, iV 0, uV 1]), (100, pV b2)] [e0 0, e2 1 [iV 1, iV 0, uV 1]] [(1, ⟨r14, 0, none⟩, iV 1), (1, ⟨r14, 1, none⟩, iV 0), (1, ⟨r14, 2, none⟩, uV 1)] [] trivial (kC (sat_cell h75 4 rfl rfl) (kC (sat_cell h75 4 rfl rfl) (kC (sat_cell h75 4 rfl rfl) nC))) ?_
 have h77 := tk6 (sf5 (sf4 (sf5 (sf5 (sf5 (sf5 h75))))))
 refine yA ?_
 refine yCl 102 Try.call25 (tnum_diff b2 2 [(1, 2), (0, 2)] [(0, ⟨(1, 0, 2), 2, (5, 1)⟩)] ([⟨(1, 0, 1), 1, 0, 0, 0, [109, 97, 105, 110]⟩, ⟨(1, 1, 1), 1, 0, 0, 0, [120]⟩]) 1 0 1 ⟨(1, 0, 2), 2, (5, 1)⟩ (by omega) (by omega) (by omega) (by kernel_rfl) (by decide)) h77 ?_
 rintro v K w78 (⟨rfl, rfl⟩) h79
 refine ⟨_, rfl, ?_⟩
 have h80 := ap1 h79
 refine yB0 [] [3, 4, 5, 6, 7] [(20, iV 7), (19, iV 0), (104, iV 7), (103, iV 0), (99, .tuple #[iV 0, iV 7])] (.mk ?_)
 refine yK [(1, pV b2), (9, iV 1), (10, .bool false), (11, iV 0), (13, iV 7), (14, iV 1), (15, .bool true), (16, iV 0), (17, pV r71), (18, iV 0), (20, iV 7)] fun lr81 => ?_
 refine ySq ?_
 refine gi_drw (id := 14) (ops := RA Try.f18 [1, 1, 1, 1, 1, 1, 1, 1, 1, 1, 1, 1, 0]) (Tr.fl 0 (Tr.fl 1 (Tr.fl 2 (Tr.fl 3 (Tr.fl 4 (Tr.fl 5 (Tr.fl 6 (Tr.fl 7 (Tr.fl 8 (Tr.fl 9 (Tr.fl 10 (Tr.fl 11 (Tr.fl 12 (Tr.fl 13 (Tr.fl 14 (Tr.fl 15 (Tr.fl 16 (Tr.fl 17 (Tr.fl 18 (Tr.fl 19 (Tr.fl 20 (Tr.fl 21 (Tr.fl 22 (Tr.fl 23 (Tr.fl 24 (Tr.fl 25 (Tr.fl 26 (Tr.fl 27 (Tr.fl 28 (Tr.fl 29 (Tr.fl 30 (Tr.an 31 (Tr.fl 32 (Tr.fl 33 (Tr.fl 34 (Tr.fl 35 (Tr.fl 36 (Tr.fl 37 (Tr.fl 38 (Tr.fl 39 (Tr.an 40 (Tr.fl 41 (Tr.fl 42 (Tr.fl 43 Tr.nil)))))))))))))))))))))))))))))))))))))))))))) (by kernel_rfl) (by kernel_rfl) (by kernel_rfl) (by kernel_rfl) (by kernel_rfl) (fun _ _ d _ _ h => by cases d <;> exact h) h80 ?_
 intro w82 h83
 refine yD _ [(135, .agg #[iV 1, iV 0, uV 2]), (134, .bool true), (133, .bool true), (132, .bool true), (131, iV 0), (130, .bool true), (129, .bool true), (128, .bool true), (127, .bool true), (126, .bool true), (125, .bool true), (124, iV 1), (123, .bool true), (122, .bool true), (121, .bool true), (120, iV 0), (119, .bool true), (118, .bool true), (117, .bool true), (116, iV 7), (115, .bool true), (114, .bool true), (113, .bool true), (112, .bool false), (111, .bool true), (110, .bool true), (109, .bool true), (108, iV 1), (107, .bool true), (106, .bool true), (105, iV 0)] [e0 0, e0 1, e0 2, e0 3, e0 4, e0 5, e0 6, e0 7, e0 8, e0 9, e0 10, e0 11, e0 12, e0 13, e0 14, e0 15, e0 16, e0 17, e0 18, e0 19, e0 20, e0 21, e0 22, e0 23, e0 24, e0 25, e0 26, e0 27, e0 28, e0 29, e2 30 [iV 1, iV 0, uV 2]] [(30, ⟨r71, 0, none⟩, iV 1), (30, ⟨r71, 1, none⟩, iV 0), (30, ⟨r71, 2, none⟩, uV 2)] [] trivial (kC (sat_cell h83 1 rfl rfl) (kC (sat_cell h83 1 rfl rfl) (kC (sat_cell h83 1 rfl rfl) nC))) ?_
 refine fk_cut ([(135, .agg #[iV 1, iV 0, uV 2]), (134, .bool true), (1, pV b2), (9, iV 1), (10, .bool false), (11, iV 0), (13, iV 7), (14, iV 1), (15, .bool true), (16, iV 0), (17, pV r71), (18, iV 0), (20, iV 7)] : Fr) (by kernel_rfl) (fun a => RW _ _ _ _ _ a _) (fun lr84 => ?_)
 refine draw_act (i := 31) [(30, ⟨r71, 0, none⟩, iV 1), (30, ⟨r71, 1, none⟩, iV 0), (30, ⟨r71, 2, none⟩, uV 2)] (by kernel_rfl) (by kernel_rfl) ?_
 refine yCl 136 Try.call16 (ldesc 0 2) h83 ?_
 rintro v K w85 (⟨rfl, rfl⟩) h86
 refine ⟨_, rfl, ?_⟩
 have h87 := ap0 h86
 refine ⟨(AllC_cons (sat_cell h87 1 rfl rfl) (AllC_cons (sat_cell h87 1 rfl rfl) (AllC_cons (sat_cell h87 1 rfl rfl) (AllC_nil _)))), ?_⟩
 refine draw_law (i := 32) 137 (.bool true) [] (by kernel_rfl) (fun _ _ => seq28_eql_t (o := opA (RA Try.f18 [1, 1, 1, 1, 1, 1, 1, 1, 1, 1, 1, 1, 0]) 32) (x := (Operand.tmp 135)) (y := (Operand.tmp 136)) 1 0 2 1 0 2 (by kernel_rfl) (by kernel_rfl) (by kernel_rfl) ⟨rfl, rfl, rfl⟩ _) (by intro q hq; cases hq) ?_
 refine yD _ [(144, pV b2), (143, .bool true), (142, .bool true), (141, .bool true), (140, iV 7), (139, .bool true), (138, .bool true)] [e0 33, e0 34, e0 35, e0 36, e0 37, e0 38, e0 39] [] [] trivial nC ?_
 refine draw_act (i := 40) [(30, ⟨r71, 0, none⟩, iV 1), (30, ⟨r71, 1, none⟩, iV 0), (30, ⟨r71, 2, none⟩, uV 2)] (by kernel_rfl) (by kernel_rfl) ?_
 refine yCl 145 Try.call22 ((by have h_ := tlen_ht b2 2 [(1, 2), (0, 2)] [(0, ⟨(1, 0, 2), 2, (5, 1)⟩)] ([⟨(1, 0, 1), 1, 0, 0, 0, [109, 97, 105, 110]⟩, ⟨(1, 1, 1), 1, 0, 0, 0, [120]⟩]); exact h_)) h87 ?_
 rintro v K w88 (⟨rfl, rfl⟩) h89
 refine ⟨_, rfl, ?_⟩
 have h90 := ap1 h89
 refine ⟨(AllC_cons (sat_cell h90 1 rfl rfl) (AllC_cons (sat_cell h90 1 rfl rfl) (AllC_cons (sat_cell h90 1 rfl rfl) (AllC_nil _)))), ?_⟩
 refine yD _ [(0, .bool true), (147, .bool true), (146, .bool true)] [e0 41, e0 42, e0 43] [] [] trivial nC ?_
 refine yK [(0, .bool true)] fun lr91 => ?_
 refine yRt ?_
 repeat (first | simp only [Exit.inBlock] | simp only [Exit.then])
 have h92 := tk1 (sf5 h90)
 refine hi_out [] (.bool true) [] (by kernel_rfl) (by intro q hq; cases hq) ?_
 exact ⟨.bool true, [], rfl, ⟨rfl, rfl⟩, h92⟩

end Go.Proofs.Ytjjpmehiolejgaa

/-
  What is true of a table behind turns. No program in sight.
-/
namespace Go.Proofs.Ytjjpmehiolejgaa
/-- No descriptor was given that its slot could give again. -/
def GenI (A : List Sl2) (al : List Ky) : Prop := ∀ d ∈ al, goodD d ∧ d.2.2 ≤ 4294967295 ∧ ∃ (q : Nat) (s : Sl2), d.2.1 = (q : Int) ∧ A[q]? = some s ∧ (d.2.2 < s.2 ∨ (d.2.2 = s.2 ∧ s.1 ≠ 0))
/-- A resource lives as long as it has descriptors. -/
def LvI (S : Ts) : Prop := ∀ (q : Nat) (r : Rs), S.R[q]? = some r → (r.st = 1 ↔ 0 < (descs S.E ((q : Int) + 1)).length)
structure MInv (n : Nat) (p : Tp) : Prop where
  W : Wf n p.1
  nd : p.2.Nodup
  gen : GenI p.1.A p.2
  ent : ∀ (k : Int) (e : Ety), gget p.1.E k = some e → e.d ∈ p.2
  lv : LvI p.1
theorem dpos {n : Nat} {S : Ts} (W : Wf n S) {v : Int} : 0 < (descs S.E v).length ↔ ∃ (k : Int) (e : Ety), gget S.E k = some e ∧ e.num = v := by
  constructor
  · intro h
    obtain ⟨e, h1, _, h3⟩ := descs_at W (List.getElem_mem h)
    exact ⟨_, e, h1, h3⟩
  · rintro ⟨k, e, h1, h2⟩
    exact List.length_pos_of_mem (mem_descs.2 ⟨e, wf_all W h1, h2, rfl⟩)
theorem free_no {n : Nat} {S : Ts} (W : Wf n S) {j : Nat} {g : Int} (h : freeS S.A = some (j, g)) : gget S.E (j : Int) = none := by
  cases hg : gget S.E (j : Int) with
  | none => rfl
  | some e =>
    obtain ⟨q2, h1, _, h2⟩ := wf_slot W hg
    obtain rfl : j = q2 := by omega
    rw [freeS_some h] at h2
    simp at h2
theorem gen_set {A : List Sl2} {al : List Ky} {j : Nat} {g : Int} (h : GenI A al) (hj : A[j]? = some (0, g)) : GenI (A.set j (1, g)) al := fun d hd => by
  obtain ⟨h1, h0, q, s, h2, h3, h4⟩ := h d hd
  refine ⟨h1, h0, ?_⟩
  by_cases hq : j = q
  · subst hq
    rw [hj] at h3
    obtain rfl := Option.some.inj h3
    exact ⟨j, (1, g), h2, List.getElem?_set_self (List.getElem?_eq_some_iff.1 hj).1, by simp only at h4 ⊢; omega⟩
  · exact ⟨q, s, h2, by rw [List.getElem?_set_ne hq]; exact h3, h4⟩
theorem gen_new {A : List Sl2} {al : List Ky} {j : Nat} {g k : Int} (h : GenI A al) (hj : A[j]? = some (0, g)) : (k, (j : Int), g) ∉ al := fun hm => by
  obtain ⟨_, _, q, s, h2, h3, h4⟩ := h _ hm
  simp only at h2 h4
  obtain rfl : j = q := by omega
  rw [hj] at h3
  obtain rfl := Option.some.inj h3
  simp only at h4
  omega
theorem gen_give {A : List Sl2} {al : List Ky} {j : Nat} {g : Int} (h : GenI A al) (hj : A[j]? = some (1, g)) : GenI (giveA A j g) al := fun d hd => by
  obtain ⟨h1, h0, q, s, h2, h3, h4⟩ := h d hd
  refine ⟨h1, h0, ?_⟩
  by_cases hq : q = j
  · subst hq
    rw [hj] at h3
    obtain rfl := Option.some.inj h3
    refine ⟨q, _, h2, giveA_self (List.getElem?_eq_some_iff.1 hj).1, ?_⟩
    split
    · simp only at h4 ⊢; omega
    · simp only at h4 ⊢; omega
  · exact ⟨q, s, h2, by rw [giveA_get hq]; exact h3, h4⟩
theorem gen_drop {n : Nat} {S : Ts} (W : Wf n S) {al : List Ky} (h : GenI S.A al) {d : Ky} {e : Ety} (he : gget S.E d.2.1 = some e) (hd : e.d = d) : GenI (dropS S d).A al := by
  obtain ⟨q, h1, _, h3⟩ := wf_slot W he
  rw [hd] at h3
  have hq : d.2.1.toNat = q := by omega
  unfold dropS
  rw [hq]
  exact gen_give h h3
theorem gen_drops {n : Nat} {al : List Ky} : ∀ {D : List Ky} {S : Ts}, Wf n S → GenI S.A al → (∀ d ∈ D, ∃ e, gget S.E d.2.1 = some e ∧ e.d = d) → (D.map (·.2.1)).Pairwise (· < ·) → GenI (D.foldl dropS S).A al
  | [], _, _, h, _, _ => h
  | d :: D, S, W, h, hd, hp => by
    obtain ⟨e, h1, h2⟩ := hd d List.mem_cons_self
    rw [List.map_cons, List.pairwise_cons] at hp
    refine gen_drops (D := D) (S := dropS S d) (wf_drop W h1 h2) (gen_drop W h h1 h2) (fun d2 hd2 => ?_) hp.2
    obtain ⟨e2, h3, h4⟩ := hd d2 (List.mem_cons_of_mem _ hd2)
    have := hp.1 _ (List.mem_map_of_mem (f := (·.2.1)) hd2)
    exact ⟨e2, by unfold dropS; simp only; rw [gget_del (by omega)]; exact h3, h4⟩
theorem gen_exp {n : Nat} {S : Ts} (W : Wf n S) {al : List Ky} (h : GenI S.A al) (v : Int) : GenI (expS S v).A al := gen_drops W h (fun d hd => by
  obtain ⟨e, h1, h2, _⟩ := descs_at W hd
  exact ⟨e, h1, h2⟩) (descs_lt W v)
theorem gen_app {A : List Sl2} {al : List Ky} {d : Ky} (h : GenI A al) (h1 : goodD d) (h0 : d.2.2 ≤ 4294967295) {q : Nat} {s : Sl2} (h2 : d.2.1 = (q : Int)) (h3 : A[q]? = some s) (h4 : d.2.2 = s.2 ∧ s.1 ≠ 0) : GenI A (al ++ [d]) := fun d2 hd2 => by
  rcases List.mem_append.1 hd2 with h5 | h5
  · exact h d2 h5
  · rw [List.mem_singleton.1 h5]
    exact ⟨h1, h0, q, s, h2, h3, .inr h4⟩
/-- One more descriptor, of a resource that lives. -/
theorem minv_add {n : Nat} {S : Ts} {al : List Ky} (h : MInv n (S, al)) {k num : Int} {hh : Int × Int} {j : Nat} {g : Int} (hf : freeS S.A = some (j, g)) {q : Nat} {r : Rs} (hr : S.R[q]? = some r) (hn : num = (q : Int) + 1) (hk : r.out.1 = k) (hst : r.st = 1) (ho : objH hh) (hno : ¬ hasH S.E hh) (lv : ∀ (q2 : Nat) (r2 : Rs), S.R[q2]? = some r2 → (r2.st = 1 ↔ 0 < (descs (addS S k num hh).E ((q2 : Int) + 1)).length)) : MInv n (addS S k num hh, al ++ [(k, (j : Int), g)]) := by
  have W2 := wf_add h.W hr hn hk hst ho hno
  have hj := freeS_some hf
  have hA : addS S k num hh = ⟨S.A.set j (1, g), gset S.E (j : Int) ⟨(k, (j : Int), g), num, hh⟩, S.R⟩ := by unfold addS; simp only [hf]
  have hR := h.W.res r (List.mem_of_getElem? hr)
  have hjl := (List.getElem?_eq_some_iff.1 hj).1
  have hsl := h.W.ok _ (List.mem_of_getElem? hj)
  have hb := h.W.bd
  have hl := h.W.len
  simp only at hsl hl hR
  have hgd : goodD (k, (j : Int), g) := by
    unfold resR resE at hR
    split at hR
    · rename_i hp
      have hx := hp.1
      unfold goodD
      simp only
      rw [hl] at hjl
      omega
    · omega
  refine ⟨W2, ?_, ?_, ?_, ?_⟩
  · show (al ++ [(k, (j : Int), g)]).Nodup
    refine List.nodup_append.2 ⟨h.nd, by simp, fun a ha b hb2 hab => ?_⟩
    rw [List.mem_singleton.1 hb2] at hab
    rw [hab] at ha
    exact gen_new h.gen hj ha
  · show GenI (addS S k num hh).A (al ++ [(k, (j : Int), g)])
    rw [hA]
    exact gen_app (gen_set h.gen hj) hgd (by simp only; omega) rfl (List.getElem?_set_self hjl) ⟨rfl, Int.one_ne_zero⟩
  · intro k2 e2 he
    simp only at he ⊢
    rw [hA] at he
    simp only at he
    rw [gget_set] at he
    split at he
    · obtain rfl := Option.some.inj he
      exact List.mem_append.2 (.inr (by simp))
    · exact List.mem_append.2 (.inl (h.ent k2 e2 he))
  · intro q2 r2 hq2
    have : (addS S k num hh).R = S.R := by rw [hA]
    simp only at hq2
    rw [this] at hq2
    exact lv q2 r2 hq2
theorem add_descs {n : Nat} {S : Ts} (W : Wf n S) {k num : Int} {hh : Int × Int} {j : Nat} {g : Int} (hf : freeS S.A = some (j, g)) (W2 : Wf n (addS S k num hh)) (v : Int) : 0 < (descs (addS S k num hh).E v).length ↔ v = num ∨ 0 < (descs S.E v).length := by
  have hA : addS S k num hh = ⟨S.A.set j (1, g), gset S.E (j : Int) ⟨(k, (j : Int), g), num, hh⟩, S.R⟩ := by unfold addS; simp only [hf]
  rw [dpos W2, dpos W, hA]
  simp only [gget_set]
  constructor
  · rintro ⟨k2, e2, h1, h2⟩
    split at h1
    · obtain rfl := Option.some.inj h1
      exact .inl h2.symm
    · exact .inr ⟨k2, e2, h1, h2⟩
  · rintro (h1 | ⟨k2, e2, h1, h2⟩)
    · exact ⟨(j : Int), _, if_pos rfl, h1.symm⟩
    · refine ⟨k2, e2, ?_, h2⟩
      rw [if_neg, h1]
      rintro rfl
      rw [free_no W hf] at h1
      cases h1
theorem minv_opn {n : Nat} {S : Ts} {al : List Ky} (h : MInv n (S, al)) {o : Ky} (hg : o.2.2 ≤ 4294967295) {L : List UInt8} {hh : Int × Int} : MInv n (opnS S o L hh, if opnE S o L hh = 0 then al ++ [opnD S o L hh] else al) := by
  by_cases h0 : opnE S o L hh = 0
  · obtain ⟨h1, h2, h3, h4, h5, j, g, h6⟩ := opnE_ok h0
    have W1 := wf_app h.W (r := ⟨o, 1, 0, 0, 0, L⟩) h5 h1 h3 hg
    have hr : (S.R ++ [(⟨o, 1, 0, 0, 0, L⟩ : Rs)])[S.R.length]? = some ⟨o, 1, 0, 0, 0, L⟩ := by simp
    have hnew : ¬ 0 < (descs S.E ((S.R.length : Int) + 1)).length := by
      have := descs_nil (S := S) h.W (v := (S.R.length : Int) + 1) (by omega)
      rw [this]
      simp
    have h7 : MInv n ((⟨S.A, S.E, S.R ++ [⟨o, 1, 0, 0, 0, L⟩]⟩ : Ts), al) ∨ True := .inr trivial
    have W2 := wf_add W1 (q := S.R.length) (r := ⟨o, 1, 0, 0, 0, L⟩) (k := o.1) (num := (S.R.length : Int) + 1) (h := hh) hr rfl rfl rfl h2 h4
    have hlv := add_descs W1 (k := o.1) (num := (S.R.length : Int) + 1) (hh := hh) h6 W2
    have hS : opnS S o L hh = addS ⟨S.A, S.E, S.R ++ [⟨o, 1, 0, 0, 0, L⟩]⟩ o.1 ((S.R.length : Int) + 1) hh := if_pos h0
    have hD : opnD S o L hh = (o.1, (j : Int), g) := by unfold opnD addD; rw [if_pos h0]; simp only [h6]
    rw [hS, if_pos h0, hD]
    have hj := freeS_some h6
    have hA : addS ⟨S.A, S.E, S.R ++ [⟨o, 1, 0, 0, 0, L⟩]⟩ o.1 ((S.R.length : Int) + 1) hh = ⟨S.A.set j (1, g), gset S.E (j : Int) ⟨(o.1, (j : Int), g), (S.R.length : Int) + 1, hh⟩, S.R ++ [⟨o, 1, 0, 0, 0, L⟩]⟩ := by unfold addS; simp only [h6]
    have hjl := (List.getElem?_eq_some_iff.1 hj).1
    have hsl := h.W.ok _ (List.mem_of_getElem? hj)
    have hb := h.W.bd
    have hl := h.W.len
    simp only at hsl hl
    have hn := newE_ok h1
    have hgd : goodD (o.1, (j : Int), g) := by
      unfold goodD
      simp only
      rw [hl] at hjl
      omega
    refine ⟨W2, ?_, ?_, ?_, ?_⟩
    · show (al ++ [(o.1, (j : Int), g)]).Nodup
      refine List.nodup_append.2 ⟨h.nd, by simp, fun a ha b hb2 hab => ?_⟩
      rw [List.mem_singleton.1 hb2] at hab
      rw [hab] at ha
      exact gen_new h.gen hj ha
    · simp only
      rw [hA]
      exact gen_app (gen_set h.gen hj) hgd (by simp only; omega) rfl (List.getElem?_set_self hjl) ⟨rfl, Int.one_ne_zero⟩
    · intro k2 e2 he
      simp only at he ⊢
      rw [hA] at he
      simp only at he
      rw [gget_set] at he
      split at he
      · obtain rfl := Option.some.inj he
        exact List.mem_append.2 (.inr (by simp))
      · exact List.mem_append.2 (.inl (h.ent k2 e2 he))
    · intro q2 r2 hq2
      simp only
      rw [hlv]
      simp only at hq2 ⊢
      rw [hA] at hq2
      simp only at hq2
      by_cases hq : q2 = S.R.length
      · subst hq
        rw [hr] at hq2
        obtain rfl := Option.some.inj hq2
        exact ⟨fun _ => .inl rfl, fun _ => rfl⟩
      · have hql : q2 < S.R.length := by
          have := (List.getElem?_eq_some_iff.1 hq2).1
          simp only [List.length_append, List.length_cons, List.length_nil] at this
          omega
        rw [List.getElem?_append_left hql] at hq2
        have := h.lv q2 r2 hq2
        simp only at this
        rw [this]
        constructor
        · exact .inr
        · rintro (h8 | h8)
          · omega
          · exact h8
  · have hS : opnS S o L hh = S := if_neg h0
    rw [hS, if_neg h0]
    exact h
theorem minv_dup {n : Nat} {S : Ts} {al : List Ky} (h : MInv n (S, al)) {d : Ky} {hh : Int × Int} : MInv n (dupS S d hh, if dupE S d hh = 0 then al ++ [dupD S d hh] else al) := by
  by_cases h0 : dupE S d hh = 0
  · obtain ⟨h1, h2, h3, j, g, h6⟩ := dupE_ok h0
    obtain ⟨hg, e, he, hd⟩ := fndE_ok.1 h2
    obtain ⟨_, _, ⟨q, r, h4, h5, h7, h8⟩, _⟩ := h.W.ent _ e he
    have hX := (fndX_ok hg he hd).2
    have hS : dupS S d hh = addS S d.1 e.num hh := by unfold dupS; rw [if_pos h0, hX]
    have hD : dupD S d hh = (d.1, (j : Int), g) := by unfold dupD addD; rw [if_pos h0, h6]
    have hk : r.out.1 = d.1 := by rw [h7, hd]
    rw [hS, if_pos h0, hD]
    refine minv_add h h6 h4 h5 hk h8 h1 h3 fun q2 r2 hq2 => ?_
    rw [add_descs h.W h6 (wf_add h.W h4 h5 hk h8 h1 h3), h.lv q2 r2 hq2]
    constructor
    · exact .inr
    · rintro (h9 | h9)
      · exact (dpos h.W).2 ⟨_, e, he, h9.symm⟩
      · exact h9
  · have hS : dupS S d hh = S := if_neg h0
    rw [hS, if_neg h0]
    exact h
/-- A resource without descriptors is made one that has to be released. -/
theorem lv_lvI {S : Ts} {v : Int} (hv : 1 ≤ v ∧ v ≤ (S.R.length : Int)) (hd : (descs S.E v).length = 0) (lv : ∀ (q : Nat) (r : Rs), S.R[q]? = some r → (q : Int) + 1 ≠ v → (r.st = 1 ↔ 0 < (descs S.E ((q : Int) + 1)).length)) : LvI (lvS S v) := fun q r hq => by
  unfold lvS at hq ⊢
  simp only at hq ⊢
  by_cases hqv : q = (v - 1).toNat
  · subst hqv
    rw [List.getElem?_set_self (by omega)] at hq
    obtain rfl := Option.some.inj hq
    rw [show (((v - 1).toNat : Nat) : Int) + 1 = v from by omega]
    unfold lvR
    simp only
    omega
  · rw [List.getElem?_set_ne (Ne.symm hqv)] at hq
    exact lv q r hq (by omega)
theorem drop_descs {n : Nat} {S : Ts} (W : Wf n S) {d : Ky} {e : Ety} (he : gget S.E d.2.1 = some e) (hd : e.d = d) {v : Int} (hv : v ≠ e.num) : 0 < (descs (dropS S d).E v).length ↔ 0 < (descs S.E v).length := by
  rw [dpos (wf_drop W he hd), dpos W]
  unfold dropS
  simp only
  constructor
  · rintro ⟨k, e2, h1, h2⟩
    by_cases hk : k = d.2.1
    · subst hk; rw [gget_del_self W.nd] at h1; cases h1
    · rw [gget_del hk] at h1; exact ⟨k, e2, h1, h2⟩
  · rintro ⟨k, e2, h1, h2⟩
    refine ⟨k, e2, ?_, h2⟩
    rw [gget_del]
    · exact h1
    · rintro rfl
      rw [he] at h1
      obtain rfl := Option.some.inj h1
      exact hv h2.symm
theorem minv_lcl {n : Nat} {S : Ts} {al : List Ky} (h : MInv n (S, al)) (d : Ky) : MInv n (lclS S d, al) := by
  by_cases h0 : fndE S d = 0
  · obtain ⟨hg, e, he, hd⟩ := fndE_ok.1 h0
    have hX := (fndX_ok hg he hd).2
    have hS := (cls_ok' h0)
    have hent := ent_live h.W he
    have gen := gen_drop h.W h.gen he hd
    have ent : ∀ (k : Int) (e2 : Ety), gget (dropS S d).E k = some e2 → e2.d ∈ al := fun k e2 h1 => by
      unfold dropS at h1
      simp only at h1
      by_cases hk : k = d.2.1
      · subst hk; rw [gget_del_self h.W.nd] at h1; cases h1
      · rw [gget_del hk] at h1; exact h.ent k e2 h1
    have lv : ∀ (q : Nat) (r : Rs), (dropS S d).R[q]? = some r → (q : Int) + 1 ≠ e.num → (r.st = 1 ↔ 0 < (descs (dropS S d).E ((q : Int) + 1)).length) := fun q r h1 h2 => by
      rw [drop_descs h.W he hd h2]
      exact h.lv q r h1
    have W3 := wf_lcl h.W d
    by_cases hl : clsL S d = true
    · have hL : lclS S d = lvS (dropS S d) e.num := by unfold lclS; rw [if_pos hl, hS, hX]
      have hd0 := (clsL_ok hl).2
      rw [hS, hX] at hd0
      rw [hL] at W3 ⊢
      exact ⟨W3, h.nd, gen, ent, lv_lvI (S := dropS S d) hent.1 hd0 lv⟩
    · have hL : lclS S d = dropS S d := by unfold lclS; rw [if_neg hl, hS]
      rw [hL] at W3 ⊢
      refine ⟨W3, h.nd, gen, ent, fun q r h1 => ?_⟩
      by_cases hq : (q : Int) + 1 = e.num
      · have h1' : S.R[q]? = some r := h1
        have hst := hent.2.1
        have hgr := getR_at hent.1
        rw [show (e.num - 1).toNat = q from by omega] at hgr
        simp only at hgr hst
        rw [h1'] at hgr
        rw [← Option.some.inj hgr] at hst
        refine ⟨fun _ => ?_, fun _ => hst⟩
        unfold clsL at hl
        rw [hX] at hl
        have := of_decide_eq_false (by simpa using hl : decide (fndE S d = 0 ∧ (descs (dropS S d).E e.num).length = 0) = false)
        simp only
        rw [hq]
        omega
      · exact lv q r h1 hq
  · have hl : clsL S d = false := decide_eq_false fun h2 => h0 h2.1
    have hL : lclS S d = S := by unfold lclS clsS; rw [if_neg (by rw [hl]; decide), if_neg h0]
    rw [hL]
    exact h
theorem minv_exp {n : Nat} {S : Ts} {al : List Ky} (h : MInv n (S, al)) {d : Ky} (hd : d ∈ liveL S.E) : MInv n (lvS (expS S (fndX S d).num) (fndX S d).num, al) := by
  obtain ⟨h1, h2, h3⟩ := exp_live h.W hd
  refine ⟨wf_lv (wf_exp h.W _) h1 h2 h3, h.nd, gen_exp h.W h.gen _, fun k e he => ?_, ?_⟩
  · have he' : gget (expS S (fndX S d).num).E k = some e := he
    exact h.ent k e ((exp_get h.W).1 he').1
  · refine lv_lvI h1 h3 fun q r hq hne => ?_
    rw [exp_R] at hq
    rw [h.lv q r hq, dpos h.W, dpos (wf_exp h.W _)]
    constructor
    · rintro ⟨k, e, h4, h5⟩
      exact ⟨k, e, (exp_get h.W).2 ⟨h4, by omega⟩, h5⟩
    · rintro ⟨k, e, h4, h5⟩
      exact ⟨k, e, ((exp_get h.W).1 h4).1, h5⟩
theorem minv_turn {n : Nat} {p : Tp} (h : MInv n p) {i : Nat} (hi : i ≤ 1000000) {m : Mv} (hm : 0 ≤ m.2) : MInv n (turnS p i m) := by
  obtain ⟨S, al⟩ := p
  unfold turnS
  split
  · exact minv_opn h (by unfold tO; simp only; omega)
  · split
    · exact h
    · rename_i hl
      split
      · exact minv_dup h
      · split
        · exact minv_lcl h _
        · exact minv_exp h (tD_mem hl hm)
theorem minv_new {n : Nat} {g : Int} (hn : 1 ≤ n ∧ n ≤ 256) (hg : 1 ≤ g ∧ g ≤ 4294967295) : MInv n (⟨List.replicate n (0, g), [], []⟩, []) :=
  ⟨wf_new hn hg, List.nodup_nil, (fun d hd => by cases hd), (fun k e he => by cases he), (fun q r hq => by cases hq)⟩
theorem minv_made {n : Nat} {g : Int} (hn : 1 ≤ n ∧ n ≤ 256) (hg : 1 ≤ g ∧ g ≤ 4294967295) {T : List Mv} (hT : ∀ m ∈ T, MvOk m) : ∀ {k : Nat}, k ≤ T.length → k ≤ 1000000 → MInv n (madeK n g T k)
  | 0, _, _ => minv_new hn hg
  | k + 1, h1, h2 => by
    have ih := minv_made hn hg hT (k := k) (by omega) (by omega)
    have hk : T[k]? = some T[k] := List.getElem?_eq_getElem (by omega)
    show MInv n (turnS (madeK n g T k) k (T.getD k (0, 0)))
    rw [getD_some hk]
    exact minv_turn ih (by omega) (hT _ (List.getElem_mem (by omega))).2.1
theorem lt_nodup {α : Type} {f : α → Int} {L : List α} (h : (L.map f).Pairwise (· < ·)) : L.Nodup := by
  rw [List.pairwise_map] at h
  exact h.imp fun {a b} hab he => by rw [he] at hab; omega
theorem live_nodup {n : Nat} {S : Ts} (W : Wf n S) : (liveL S.E).Nodup := lt_nodup (live_lt W)
theorem nd_ne {L : List Ky} (h : L.Nodup) {i j : Nat} {x y : Ky} (hi : L[i]? = some x) (hj : L[j]? = some y) (hij : i ≠ j) : x ≠ y := by
  rintro rfl
  obtain ⟨h1, h2⟩ := List.getElem?_eq_some_iff.1 hi
  obtain ⟨h3, h4⟩ := List.getElem?_eq_some_iff.1 hj
  exact hij ((List.getElem_inj h).1 (h2.trans h4.symm))
section
variable {L : List Ky} {k : Nat} {x y : Ky} {b : Bool}
end
theorem lv_ok {n : Nat} {S : Ts} (W : Wf n S) {d : Ky} (hd : d ∈ liveL S.E) : 1 ≤ d.2.2 ∧ d.2.2 ≤ 4294967295 := ⟨(live_ok W hd).1.2.2.2.2, (live_ok W hd).2.2.1⟩
theorem is_there {n : Nat} {S : Ts} (W : Wf n S) {d : Ky} (hf : d ∈ liveL S.E) : fndE S (d.1, d.2.1, d.2.2) = 0 := (live_ok W hf).2.1
section
variable {n : Nat} {S : Ts} {v : Int}
end
section
variable {α : Type} {L : List α} {k : Nat} {x : α} {p : α → Bool} {b : Bool}
end
end Go.Proofs.Ytjjpmehiolejgaa

/-
  Counting in a table: what TableParts says. No program in sight.
-/
namespace Go.Proofs.Ytjjpmehiolejgaa
def cntD (E : Tm) : Nat → Nat
  | 0 => 0
  | k + 1 => cntD E k + (descs E ((k : Int) + 1)).length
theorem cnt_num (L : List Ety) (k : Nat) : (L.filter fun e => decide (1 ≤ e.num ∧ e.num ≤ ((k + 1 : Nat) : Int))).length = (L.filter fun e => decide (1 ≤ e.num ∧ e.num ≤ (k : Int))).length + (L.filterMap fun e => if e.num = (k : Int) + 1 then some e.d else none).length := by
  induction L with
  | nil => rfl
  | cons e L ih =>
    simp only [List.filter_cons, List.filterMap_cons, decide_eq_true_eq]
    by_cases h : e.num = (k : Int) + 1
    · rw [if_pos (by omega), if_neg (by omega), if_pos h]
      simp only [List.length_cons]
      omega
    · rw [if_neg h]
      by_cases h2 : 1 ≤ e.num ∧ e.num ≤ (k : Int)
      · rw [if_pos (by omega), if_pos h2]
        simp only [List.length_cons]
        omega
      · rw [if_neg (by omega), if_neg h2]
        exact ih
theorem cntD_eq (E : Tm) (k : Nat) : cntD E k = ((allE E).filter fun e => decide (1 ≤ e.num ∧ e.num ≤ (k : Int))).length := by
  induction k with
  | zero =>
    rw [List.filter_eq_nil_iff.2]
    · rfl
    · intro e _
      rw [decide_eq_true_eq]
      omega
  | succ k ih => rw [cnt_num, ← ih]; rfl
theorem cntD_all {n : Nat} {S : Ts} (W : Wf n S) : cntD S.E S.R.length = (liveL S.E).length := by
  rw [cntD_eq, List.filter_eq_self.2]
  · unfold liveL; rw [List.length_map]
  · intro e he
    have := (ent_live W (wf_mem W he)).1
    rw [decide_eq_true_eq]
    exact this
theorem cntD_le {E : Tm} (k : Nat) : cntD E k ≤ 256 := by
  rw [cntD_eq]
  have h1 := List.length_filter_le (fun e => decide (1 ≤ e.num ∧ e.num ≤ (k : Int))) (allE E)
  have h2 : (allE E).length ≤ 256 := cntE_le E 256
  omega
/-- A resource, and its descriptors. -/
theorem res_at {n : Nat} {p : Tp} (h : MInv n p) {k : Nat} (hk : k < p.1.R.length) : resR (getR p.1 ((k : Int) + 1)) = 0 ∧ (0 ≤ (getR p.1 ((k : Int) + 1)).out.2.2 ∧ (getR p.1 ((k : Int) + 1)).out.2.2 ≤ 4294967295) ∧ (getR p.1 ((k : Int) + 1)).tag.length ≤ 96 ∧ ((0 < (descs p.1.E ((k : Int) + 1)).length ∧ (getR p.1 ((k : Int) + 1)).st = 1) ∨ ((descs p.1.E ((k : Int) + 1)).length = 0 ∧ 2 ≤ (getR p.1 ((k : Int) + 1)).st ∧ (getR p.1 ((k : Int) + 1)).st ≤ 4)) := by
  have hv : 1 ≤ (k : Int) + 1 ∧ (k : Int) + 1 ≤ (p.1.R.length : Int) := by omega
  have hg := getR_at hv
  have hm := List.mem_of_getElem? hg
  have hr := h.W.res _ hm
  have ho := h.W.og _ hm
  rw [show ((k : Int) + 1 - 1).toNat = k from by omega] at hg
  have hl := h.lv k _ hg
  have hr2 := hr
  unfold resR resE at hr2
  split at hr2
  · rename_i hp
    obtain ⟨h1, h2⟩ := hp
    refine ⟨hr, ⟨by omega, ho⟩, ?_, ?_⟩
    · unfold tagE at hr2
      split at hr2
      · omega
      · omega
    · by_cases hd : 0 < (descs p.1.E ((k : Int) + 1)).length
      · exact .inl ⟨hd, hl.2 hd⟩
      · refine .inr ⟨by omega, ?_⟩
        have : (getR p.1 ((k : Int) + 1)).st ≠ 1 := fun h3 => hd (hl.1 h3)
        omega
  · omega
theorem desc_in {n : Nat} {S : Ts} (W : Wf n S) {v : Int} {x : Ky} (hx : x ∈ descs S.E v) : goodD x ∧ x.2.2 ≤ 4294967295 ∧ x.1 = (getR S v).out.1 ∧ fndE S (x.1, x.2.1, x.2.2) = 0 ∧ (fndX S (x.1, x.2.1, x.2.2)).num = v := by
  obtain ⟨e, h1, h2, h3⟩ := descs_at W hx
  have hg := wf_good W h1
  have hb := (gen_ok W h1).2
  have he := ent_live W h1
  rw [h2] at hg hb
  rw [h3, h2] at he
  have hf := fndX_ok hg h1 h2
  exact ⟨hg, hb, he.2.2.symm, hf.1, by show (fndX S x).num = v; rw [hf.2, h3]⟩
theorem slot_lt {D : List Ky} (h : (D.map (·.2.1)).Pairwise (· < ·)) {i j : Nat} {x y : Ky} (hi : D[i]? = some x) (hj : D[j]? = some y) (hij : i < j) : x.2.1 < y.2.1 := by
  have hp := List.pairwise_iff_getElem.1 h i j (by rw [List.length_map]; exact (List.getElem?_eq_some_iff.1 hi).1) (by rw [List.length_map]; exact (List.getElem?_eq_some_iff.1 hj).1) hij
  rw [List.getElem_map, List.getElem_map, (List.getElem?_eq_some_iff.1 hi).2, (List.getElem?_eq_some_iff.1 hj).2] at hp
  exact hp
theorem hnd_ne {n : Nat} {S : Ts} (W : Wf n S) {i j : Nat} {x y : Ky} (hi : (liveL S.E)[i]? = some x) (hj : (liveL S.E)[j]? = some y) (hij : i ≠ j) : ¬ ((fndX S (x.1, x.2.1, x.2.2)).h.1 = (fndX S (y.1, y.2.1, y.2.2)).h.1 ∧ (fndX S (x.1, x.2.1, x.2.2)).h.2 = (fndX S (y.1, y.2.1, y.2.2)).h.2) := by
  obtain ⟨_, _, _, e1, h1, h2, h3⟩ := live_ok W (List.mem_of_getElem? hi)
  obtain ⟨_, _, _, e2, h4, h5, h6⟩ := live_ok W (List.mem_of_getElem? hj)
  intro hh
  have h7 : e1.h = e2.h := by
    rw [← h3, ← h6]
    exact Prod.ext hh.1 hh.2
  have h8 := W.hnd _ _ _ _ h1 h4 h7
  rw [h8, h4] at h1
  have h9 : y = x := by rw [← h2, ← h5, Option.some.inj h1]
  exact nd_ne (live_nodup W) hi hj hij h9.symm
/-- Resources by their states. -/
def cntN (R : List Rs) : Nat → Nat
  | 0 => 0
  | k + 1 => cntN R k + (nums R (k : Int)).length
theorem nums_len (R : List Rs) (st : Int) : (nums R st).length = (R.filter fun r => r.st == st).length := by
  have h : ∀ k, k ≤ R.length → (numsT R st k).length = ((R.take k).filter fun r => r.st == st).length := fun k => by
    induction k with
    | zero => intro _; simp [numsT]
    | succ k ih =>
      intro hk
      have hr : R[k]? = some R[k] := List.getElem?_eq_getElem (by omega)
      rw [List.take_add_one, hr, List.filter_append, List.length_append, ← ih (by omega)]
      by_cases hs : (R[k]).st = st
      · rw [← numsT_go hr hs, List.length_append]
        simp [hs]
      · rw [← numsT_no hr hs]
        simp [hs]
  unfold nums
  rw [h _ (Nat.le_refl _), List.take_length]
theorem cntN_eq (R : List Rs) (k : Nat) : cntN R k = (R.filter fun r => decide (0 ≤ r.st ∧ r.st < (k : Int))).length := by
  induction k with
  | zero =>
    rw [List.filter_eq_nil_iff.2]
    · rfl
    · intro e _
      rw [decide_eq_true_eq]
      omega
  | succ k ih =>
    show cntN R k + (nums R (k : Int)).length = _
    rw [ih, nums_len]
    clear ih
    induction R with
    | nil => rfl
    | cons r R ih2 =>
      simp only [List.filter_cons, decide_eq_true_eq, beq_iff_eq]
      by_cases h : r.st = (k : Int)
      · rw [if_neg (by omega), if_pos h, if_pos (by omega)]
        simp only [List.length_cons]
        omega
      · rw [if_neg h]
        by_cases h2 : 0 ≤ r.st ∧ r.st < (k : Int)
        · rw [if_pos h2, if_pos (by omega)]
          simp only [List.length_cons]
          omega
        · rw [if_neg h2, if_neg (by omega)]
          exact ih2
theorem st_bd {n : Nat} {S : Ts} (W : Wf n S) {r : Rs} (h : r ∈ S.R) : 1 ≤ r.st ∧ r.st ≤ 4 := by
  have hr := W.res r h
  unfold resR resE at hr
  split at hr
  · rename_i hp
    obtain ⟨_, h2⟩ := hp
    omega
  · omega
theorem cntN_all {n : Nat} {S : Ts} (W : Wf n S) : cntN S.R 5 = S.R.length := by
  rw [cntN_eq, List.filter_eq_self.2]
  intro r hr
  have := st_bd W hr
  rw [decide_eq_true_eq]
  omega
theorem cntN_le (R : List Rs) (k : Nat) : cntN R k ≤ R.length := by
  rw [cntN_eq]
  exact List.length_filter_le _ _
theorem nums_zero {n : Nat} {S : Ts} (W : Wf n S) : (nums S.R 0).length = 0 := by
  rw [nums_len, List.filter_eq_nil_iff.2]
  · rfl
  · intro r hr
    have := st_bd W hr
    simp only [beq_iff_eq]
    omega
theorem cntN_one {n : Nat} {S : Ts} (W : Wf n S) : cntN S.R 1 = 0 := by
  show 0 + (nums S.R ((0 : Nat) : Int)).length = 0
  have h := nums_zero W
  have h2 : (nums S.R ((0 : Nat) : Int)).length = 0 := h
  omega
theorem nums_mem {R : List Rs} {st z : Int} (h : z ∈ nums R st) : ∃ (q : Nat) (r : Rs), R[q]? = some r ∧ r.st = st ∧ z = (q : Int) + 1 := by
  unfold nums numsT at h
  obtain ⟨q, h1, h2⟩ := List.mem_map.1 h
  obtain ⟨h3, h4⟩ := List.mem_filter.1 h1
  cases hr : R[q]? with
  | none => rw [hr] at h4; cases h4
  | some r =>
    rw [hr] at h4
    exact ⟨q, r, hr, by simpa using h4, h2.symm⟩
theorem nums_get {S : Ts} {st z : Int} (h : z ∈ nums S.R st) : (1 ≤ z ∧ z ≤ (S.R.length : Int)) ∧ (getR S z).st = st := by
  obtain ⟨q, r, h1, h2, h3⟩ := nums_mem h
  have hl := (List.getElem?_eq_some_iff.1 h1).1
  have hv : 1 ≤ z ∧ z ≤ (S.R.length : Int) := by omega
  have hg := getR_at hv
  rw [show (z - 1).toNat = q from by omega, h1] at hg
  rw [← Option.some.inj hg]
  exact ⟨hv, h2⟩
theorem nums_lt (R : List Rs) (st : Int) : (nums R st).Pairwise (· < ·) := by
  unfold nums numsT
  rw [List.pairwise_map]
  refine List.Pairwise.imp (R := fun (a b : Nat) => a < b) (fun {a b} h => by omega) ?_
  exact List.Pairwise.sublist List.filter_sublist List.pairwise_lt_range
theorem num_lt {R : List Rs} {st : Int} {i j : Nat} {x y : Int} (hi : (nums R st)[i]? = some x) (hj : (nums R st)[j]? = some y) (hij : i < j) : x < y := by
  have hp := List.pairwise_iff_getElem.1 (nums_lt R st) i j (List.getElem?_eq_some_iff.1 hi).1 (List.getElem?_eq_some_iff.1 hj).1 hij
  rw [(List.getElem?_eq_some_iff.1 hi).2, (List.getElem?_eq_some_iff.1 hj).2] at hp
  exact hp
/-- Free slots and entries are together no more than the slots. -/
theorem free_live {n : Nat} {S : Ts} (W : Wf n S) : (inS 0 S.A 0).length + (liveL S.E).length ≤ n := by
  have h : ∀ k, k ≤ n → cnt 0 S.A k + (someE S.E k).length ≤ k := fun k => by
    induction k with
    | zero => intro _; simp [cnt, inS, someE]
    | succ k ih =>
      intro hk
      have h1 := ih (by omega)
      obtain ⟨s, hs⟩ : ∃ s, S.A[k]? = some s := ⟨_, List.getElem?_eq_getElem (by rw [W.len]; omega)⟩
      cases hg : gget S.E (k : Int) with
      | none =>
        rw [cntE_no hg]
        by_cases h0 : s.1 = 0
        · rw [cnt_go hs h0]; omega
        · rw [cnt_no hs h0]; omega
      | some e =>
        obtain ⟨q, h2, _, h3⟩ := wf_slot W hg
        obtain rfl : k = q := by omega
        have h0 : s.1 ≠ 0 := by
          rw [hs] at h3
          rw [Option.some.inj h3]
          exact Int.one_ne_zero
        rw [cntE_go hg, cnt_no hs h0]
        omega
  have h2 : ∀ k, n ≤ k → (someE S.E k).length = (someE S.E n).length := fun k hk => by
    obtain ⟨d, rfl⟩ : ∃ d, k = n + d := ⟨k - n, by omega⟩
    clear hk
    induction d with
    | zero => rfl
    | succ d ih =>
      have hg : gget S.E ((n + d : Nat) : Int) = none := by
        cases hg : gget S.E ((n + d : Nat) : Int) with
        | none => rfl
        | some e =>
          obtain ⟨q, h3, h4, _⟩ := wf_slot W hg
          omega
      rw [← Nat.add_assoc, cntE_no hg, ih]
  have h3 := h n (Nat.le_refl _)
  have h4 := h2 256 W.bd.2
  have h5 : cnt 0 S.A n = (inS 0 S.A 0).length := cnt_all 0 (by rw [W.len]; omega)
  unfold liveL allE
  rw [List.length_map]
  omega
end Go.Proofs.Ytjjpmehiolejgaa
