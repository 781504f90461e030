/- Walks, printed by my generator gen27.py. -/
import Derived.Test.YtjjpmehiolejgaaF24
import Derived.Test.YtjjpmehiolejgaaF18
import Derived.Test.YtjjpmehiolejgaaTabI
namespace Go.Proofs.Ytjjpmehiolejgaa
section
variable {S : Ts} {v : Int} {r : Rs}
theorem setE_no (h : ¬ (1 ≤ v ∧ v ≤ (S.R.length : Int))) : setE S v r = 3 := by
  unfold setE nE
  rw [if_neg h, if_pos (by decide)]
theorem nE_ok (h : 1 ≤ v ∧ v ≤ (S.R.length : Int)) : nE S v = 0 := if_pos h
theorem nE_no (h : ¬ (1 ≤ v ∧ v ≤ (S.R.length : Int))) : nE S v = 3 := if_neg h
theorem setE_res (h : 1 ≤ v ∧ v ≤ (S.R.length : Int)) (h1 : resR r ≠ 0) : setE S v r = resR r := by
  have := nE_ok h
  unfold setE
  rw [if_neg (by omega), if_pos h1]
theorem setE_dif (h : 1 ≤ v ∧ v ≤ (S.R.length : Int)) (h1 : resR r = 0) (h2 : r.out ≠ (getR S v).out ∨ r.tag ≠ (getR S v).tag) : setE S v r = 2 := by
  have := nE_ok h
  unfold setE
  rw [if_neg (by omega), if_neg (by omega), if_pos h2]
theorem setE_st (h : 1 ≤ v ∧ v ≤ (S.R.length : Int)) (h1 : resR r = 0) (h2 : r.out = (getR S v).out) (h3 : r.tag = (getR S v).tag) (h4 : r.st ≠ 1 ∧ 0 < (descs S.E v).length) : setE S v r = 8 := by
  have := nE_ok h
  unfold setE
  rw [if_neg (by omega), if_neg (by omega), if_neg (fun hh => hh.elim (fun q => q h2) (fun q => q h3)), if_pos h4]
theorem setE_go (h : 1 ≤ v ∧ v ≤ (S.R.length : Int)) (h1 : resR r = 0) (h2 : r.out = (getR S v).out) (h3 : r.tag = (getR S v).tag) (h4 : ¬ (r.st ≠ 1 ∧ 0 < (descs S.E v).length)) : setE S v r = 0 := by
  have := nE_ok h
  unfold setE
  rw [if_neg (by omega), if_neg (by omega), if_neg (fun hh => hh.elim (fun q => q h2) (fun q => q h3)), if_neg h4]
theorem getR_set (h0 : setE S v r = 0) : getR (setS S v r) v = r ∧ nE (setS S v r) v = 0 ∧ (setS S v r).R.length = S.R.length := by
  obtain ⟨h1, _⟩ := setE_ok h0
  unfold setS
  rw [if_pos h0]
  refine ⟨?_, ?_, List.length_set⟩
  · unfold getR
    simp only
    rw [if_pos h1.1, List.getElem?_set_self (by omega)]
    rfl
  · exact nE_ok (by simp only [List.length_set]; exact h1)
end
theorem q27e32_neq_t {n : Nat} {l : Fr} {o : Oper} {x y : Operand} (a0 : Int) (a1 : Int) (a2 : Int) (c0 : Int) (c1 : Int) (c2 : Int) (ho : o.op = .binOp .neq 32 x y 32) (hx : fe n l x = .agg #[.int .i64 a0, .int .i64 a1, .int .u32 a2]) (hy : fe n l y = .agg #[.int .i64 c0, .int .i64 c1, .int .u32 c2]) (h : a0 = c0 ∧ a1 = c1 ∧ a2 = c2) (w : World) : (execOp (fe n l) o).run Try.prog w = .ok (.value (.bool false)) w := by
  obtain ⟨rfl, rfl, rfl⟩ := h
  simp [execOp, ho, hx, hy, go_sem]
theorem q27e32_neq_f {n : Nat} {l : Fr} {o : Oper} {x y : Operand} (a0 : Int) (a1 : Int) (a2 : Int) (c0 : Int) (c1 : Int) (c2 : Int) (ho : o.op = .binOp .neq 32 x y 32) (hx : fe n l x = .agg #[.int .i64 a0, .int .i64 a1, .int .u32 a2]) (hy : fe n l y = .agg #[.int .i64 c0, .int .i64 c1, .int .u32 c2]) (h : ¬ (a0 = c0 ∧ a1 = c1 ∧ a2 = c2)) (w : World) : (execOp (fe n l) o).run Try.prog w = .ok (.value (.bool true)) w := by
  by_cases h0 : a0 = c0
  · skip
    by_cases h1 : a1 = c1
    · skip
      by_cases h2 : a2 = c2
      · exact absurd ⟨h0, h1, h2⟩ h
      · simp [execOp, ho, hx, hy, go_sem, h0, h1, h2]
    · simp [execOp, ho, hx, hy, go_sem, h0, h1]
  · simp [execOp, ho, hx, hy, go_sem, h0]
theorem q27e42_eql_t {n : Nat} {l : Fr} {o : Oper} {x y : Operand} (a0 : Int) (a1 : Int) (a2 : Int) (a3 : Int) (a4 : Int) (a5 : Int) (a6 : Int) (a7 : List UInt8) (c0 : Int) (c1 : Int) (c2 : Int) (c3 : Int) (c4 : Int) (c5 : Int) (c6 : Int) (c7 : List UInt8) (ho : o.op = .binOp .eql 42 x y 42) (hx : fe n l x = .agg #[.int .i64 a0, .int .i64 a1, .int .u32 a2, .int .i64 a3, .int .i64 a4, .int .i64 a5, .int .i64 a6, .string (St a7)]) (hy : fe n l y = .agg #[.int .i64 c0, .int .i64 c1, .int .u32 c2, .int .i64 c3, .int .i64 c4, .int .i64 c5, .int .i64 c6, .string (St c7)]) (h : a0 = c0 ∧ a1 = c1 ∧ a2 = c2 ∧ a3 = c3 ∧ a4 = c4 ∧ a5 = c5 ∧ a6 = c6 ∧ a7 = c7) (w : World) : (execOp (fe n l) o).run Try.prog w = .ok (.value (.bool true)) w := by
  obtain ⟨rfl, rfl, rfl, rfl, rfl, rfl, rfl, rfl⟩ := h
  simp [execOp, ho, hx, hy, go_sem]
set_option maxHeartbeats 4000000 in
theorem sets_law (wo : World) (sz bl : Int) (hsz : 0 ≤ sz ∧ sz ≤ 255) (hbl : 0 ≤ bl ∧ bl ≤ 255) (p0 : Option Addr) (n cp : Nat) (T : List Mv) (hr : Rd wo p0 n (fl eMv T)) (hT : T.length = n) (hO : ∀ m ∈ T, MvOk m) (vn rx ry rz rs rw_ rt rn : Int) (L : List UInt8) (hrz : 0 ≤ rz ∧ rz ≤ 4294967295) : HT Try.prog 4 [Value.int IntKind.u8 sz, Value.int IntKind.u8 bl, Value.slice p0 n cp, Value.int IntKind.i64 vn, Value.agg #[Value.int IntKind.i64 rx, Value.int IntKind.i64 ry, Value.int IntKind.u32 rz, Value.int IntKind.i64 rs, Value.int IntKind.i64 rw_, Value.int IntKind.i64 rt, Value.int IntKind.i64 rn, Value.string (St L)]] [Old wo] (fun v K => v = Value.bool true ∧ K = [Old wo]) := by
 refine hi_in 150 ([(0, yV sz), (1, yV bl), (2, .slice p0 n cp), (3, iV vn), (4, .agg #[iV rx, iV ry, uV rz, iV rs, iV rw_, iV rt, iV rn, .string (St L)])] : Fr) Try.func4 (by kernel_rfl) Try.ntmps4 rfl rfl ?_
 intro g w0 R h0
 obtain ⟨nn, hnn⟩ : ∃ nn : Nat, (nn : Int) = sz % 12 + 1 := ⟨(sz % 12 + 1).toNat, by omega⟩
 obtain ⟨gg, hgg⟩ : ∃ g : Int, g = 4294967295 - bl % 6 := ⟨_, rfl⟩
 refine ySq ?_
 refine yPl [0, 1] ?_
 refine yA ?_
 refine yNp 9 42 [iV rx, iV ry, uV rz, iV rs, iV rw_, iV rt, iV rn, .string (St L)] h0 fun r1 w2 h3 => ?_
 refine yB0 [] [1] [(10, .bool false)] (.mk ?_)
 refine yK [(0, yV sz), (1, yV bl), (2, .slice p0 n cp), (3, iV vn), (9, pV r1)] fun lr4 => ?_
 refine ySq ?_
 refine ySq ?_
 refine yPl [0, 1, 2, 3, 4, 5, 6, 7, 8] ?_
 refine yB0 [2, 3, 4, 5, 6, 7, 8] [0, 1] [(21, iV (n : Int)), (20, .slice p0 n cp)] ?_
 by_cases c5 : (n : Int) > 100
 ·
  refine yBb [] [(28, .bool true), (27, undef), (26, undef), (25, undef), (24, undef), (23, .bool true), (22, .bool true)] [e1 2 (.bool true), e0 3, e0 4, e0 5, e0 6, e0 7, e0 8] [] [(.bool (decide ((n : Int) > 100)), .bool true)] ⟨(ov_t (by omega)), trivial⟩ nC (.mk ?_)
  refine yK [(0, yV sz), (1, yV bl), (2, .slice p0 n cp), (3, iV vn), (9, pV r1), (28, .bool true)] fun lr6 => ?_
  refine yCt ?_
  refine ySq ?_
  refine yPl [0, 1] ?_
  refine yA ?_
  refine yCl 29 Try.call18 (works_ht) h3 ?_
  rintro v K w7 (⟨rfl, rfl⟩) h8
  refine ⟨_, rfl, ?_⟩
  have h9 := ap0 h8
  refine yB0 [] [1] [(10, .bool true)] (.mk ?_)
  refine yK [(10, .bool true)] fun lr10 => ?_
  refine yRt ?_
  repeat (first | simp only [Exit.inBlock] | simp only [Exit.then])
  have h11 := tk3 (sf2 (sf1 (sf2 h9)))
  have h12 := tk2 (sf1 (sf2 h11))
  refine hi_out [] (.bool true) [] (by kernel_rfl) (by intro q hq; cases hq) ?_
  exact ⟨.bool true, [Old wo], rfl, ⟨rfl, rfl⟩, h12⟩
 ·
  refine yBb [7, 8] [(26, iV (((L.length : Nat) : Int))), (25, .string (St L)), (24, .pointer (some ⟨r1, 7, none⟩)), (23, .bool false), (22, .bool false)] [e1 2 (.bool false), e0 3, e0 4, e2 5 [.string (St L)], e1 6 (iV (((L.length : Nat) : Int)))] [(5, ⟨r1, 7, none⟩, .string (St L))] [(.bool (decide ((n : Int) > 100)), .bool false), (iV ((St L).size : Int), iV (((L.length : Nat) : Int)))] ⟨(ov_f (by omega)), (ov_int (st_len _)), trivial⟩ (kC (sat_cell h3 0 rfl rfl) nC) ?_
  by_cases c13 : ((L.length : Nat) : Int) > 60
  ·
   refine yBb [] [(28, .bool true), (27, .bool true)] [e1 7 (.bool true), e0 8] [] [(.bool (decide (((L.length : Nat) : Int) > 60)), .bool true)] ⟨(ov_t (by omega)), trivial⟩ nC (.mk ?_)
   refine yK [(0, yV sz), (1, yV bl), (2, .slice p0 n cp), (3, iV vn), (9, pV r1), (28, .bool true)] fun lr14 => ?_
   refine yCt ?_
   refine ySq ?_
   refine yPl [0, 1] ?_
   refine yA ?_
   refine yCl 29 Try.call18 (works_ht) h3 ?_
   rintro v K w15 (⟨rfl, rfl⟩) h16
   refine ⟨_, rfl, ?_⟩
   have h17 := ap0 h16
   refine yB0 [] [1] [(10, .bool true)] (.mk ?_)
   refine yK [(10, .bool true)] fun lr18 => ?_
   refine yRt ?_
   repeat (first | simp only [Exit.inBlock] | simp only [Exit.then])
   have h19 := tk3 (sf2 (sf1 (sf2 h17)))
   have h20 := tk2 (sf1 (sf2 h19))
   refine hi_out [] (.bool true) [] (by kernel_rfl) (by intro q hq; cases hq) ?_
   exact ⟨.bool true, [Old wo], rfl, ⟨rfl, rfl⟩, h20⟩
  ·
   refine yBb [] [(28, .bool false), (27, .bool false)] [e1 7 (.bool false), e0 8] [] [(.bool (decide (((L.length : Nat) : Int) > 60)), .bool false)] ⟨(ov_f (by omega)), trivial⟩ nC (.mk ?_)
   refine yK [(0, yV sz), (1, yV bl), (2, .slice p0 n cp), (3, iV vn), (9, pV r1), (28, .bool false)] fun lr21 => ?_
   refine yCf ?_
   refine ySk ?_
   refine ySq ?_
   refine yPl [0, 1, 2, 3, 4, 5, 6, 7, 8] ?_
   refine yB0 [3, 4, 5, 6, 7, 8] [0, 1, 2] [(33, .slice p0 n cp), (32, yV bl), (31, yV sz)] ?_
   obtain ⟨pp, hpp⟩ : ∃ pp, madeK nn gg T n = pp := ⟨_, rfl⟩
   have hI_ : MInv nn pp := hpp ▸ minv_made (n := nn) (g := gg) (by omega) (by omega) hO (k := n) (by omega) (by omega)
   have hal_ : pp.2.length ≤ n := hpp ▸ madeK_all nn gg T n
   have hm22 := made_w wo sz bl hsz hbl nn hnn gg hgg p0 n cp T hr hT hO (by omega)
   rw [hpp] at hm22
   have h26 := tk3 (sf2 (sf1 (sf2 h3)))
   refine yA ?_
   refine yCl 34 Try.call19 (hm22) h26 ?_
   rintro v K w27 (⟨b23, p24, c25, rfl, rfl⟩) h28
   refine ⟨_, rfl, ?_⟩
   have h29 := ap3 h28
   refine yB0 [] [4, 5, 6, 7, 8] [(12, .slice p24 pp.2.length c25), (11, pV b23), (36, .slice p24 pp.2.length c25), (35, pV b23), (30, .tuple #[pV b23, .slice p24 pp.2.length c25])] (.mk ?_)
   refine yK [(3, iV vn), (9, pV r1), (11, pV b23)] fun lr30 => ?_
   refine ySq ?_
   refine ySq ?_
   refine yPl [0, 1] ?_
   refine yB0 [] [0, 1] [(38, .bool false), (37, pV b23)] (.mk ?_)
   refine yK [(3, iV vn), (9, pV r1), (11, pV b23), (38, .bool false)] fun lr31 => ?_
   refine yCf ?_
   refine ySk ?_
   refine ySq ?_
   refine yPl [0, 1, 2, 3, 4, 5, 6, 7, 8] ?_
   refine yB0 [2, 3, 4, 5, 6, 7, 8] [0, 1] [(41, iV vn), (40, pV b23)] ?_
   by_cases c32 : 1 ≤ vn
   ·
    by_cases c33 : vn ≤ ((pp.1.R.length : Nat) : Int)
    ·
     refine yA ?_
     refine yCl 42 Try.call20 ((by have h_ := tget_w b23 nn pp.1 vn; rw [nE_ok (S := pp.1) (v := vn) (by omega)] at h_; exact h_)) h29 ?_
     rintro v K w34 (⟨rfl, rfl⟩) h35
     refine ⟨_, rfl, ?_⟩
     have h36 := ap1 h35
     refine yB0 [6, 7, 8] [3, 4, 5] [(44, iV 0), (43, .agg #[iV ((getR pp.1 vn).out.1), iV ((getR pp.1 vn).out.2.1), uV ((getR pp.1 vn).out.2.2), iV ((getR pp.1 vn).st), iV ((getR pp.1 vn).why), iV ((getR pp.1 vn).tr), iV ((getR pp.1 vn).nx), .string (St ((getR pp.1 vn).tag))]), (39, .tuple #[.agg #[iV ((getR pp.1 vn).out.1), iV ((getR pp.1 vn).out.2.1), uV ((getR pp.1 vn).out.2.2), iV ((getR pp.1 vn).st), iV ((getR pp.1 vn).why), iV ((getR pp.1 vn).tr), iV ((getR pp.1 vn).nx), .string (St ((getR pp.1 vn).tag))], iV 0])] ?_
     refine yA ?_
     refine yNp 13 42 [iV 0, iV 0, uV 0, iV 0, iV 0, iV 0, iV 0, .string (St [])] h36 fun r37 w38 h39 => ?_
     refine yA ?_
     refine yS [(0, iV ((getR pp.1 vn).out.1)), (1, iV ((getR pp.1 vn).out.2.1)), (2, uV ((getR pp.1 vn).out.2.2)), (3, iV ((getR pp.1 vn).st)), (4, iV ((getR pp.1 vn).why)), (5, iV ((getR pp.1 vn).tr)), (6, iV ((getR pp.1 vn).nx)), (7, .string (St ((getR pp.1 vn).tag)))] [iV ((getR pp.1 vn).out.1), iV ((getR pp.1 vn).out.2.1), uV ((getR pp.1 vn).out.2.2), iV ((getR pp.1 vn).st), iV ((getR pp.1 vn).why), iV ((getR pp.1 vn).tr), iV ((getR pp.1 vn).nx), .string (St ((getR pp.1 vn).tag))] h39 fun w40 h41 => ?_
     refine yB0 [] [8] [(14, iV 0)] (.mk ?_)
     refine yK [(3, iV vn), (9, pV r1), (11, pV b23), (13, pV r37), (14, iV 0)] fun lr42 => ?_
     refine ySq ?_
     refine yPl [0, 1, 2, 3, 4, 5, 6, 7] ?_
     refine yB0 [2, 3, 4, 5, 6, 7] [0, 1] [(47, iV vn), (46, pV b23)] ?_
     have h45 := tk6 (sf5 (sf4 (sf5 (sf5 (sf5 (sf5 h41))))))
     refine yA ?_
     refine yCl 48 Try.call21 (tdescs_w b23 nn pp.1 vn) h45 ?_
     rintro v K w46 (⟨p43, c44, rfl, rfl⟩) h47
     refine ⟨_, rfl, ?_⟩
     have h48 := ap2 h47
     refine yB0 [] [3, 4, 5, 6, 7] [(16, iV ((nE pp.1 vn))), (15, .slice p43 (((descs pp.1.E vn).length)) c44), (50, iV ((nE pp.1 vn))), (49, .slice p43 (((descs pp.1.E vn).length)) c44), (45, .tuple #[.slice p43 (((descs pp.1.E vn).length)) c44, iV ((nE pp.1 vn))])] (.mk ?_)
     refine yK [(3, iV vn), (9, pV r1), (11, pV b23), (13, pV r37), (14, iV 0), (15, .slice p43 (((descs pp.1.E vn).length)) c44)] fun lr49 => ?_
     refine ySq ?_
     refine yPl [0, 1, 2, 3, 4] ?_
     refine yBb [3, 4] [(53, .agg #[iV rx, iV ry, uV rz, iV rs, iV rw_, iV rt, iV rn, .string (St L)]), (52, iV vn), (51, pV b23)] [e0 0, e0 1, e2 2 [iV rx, iV ry, uV rz, iV rs, iV rw_, iV rt, iV rn, .string (St L)]] [(2, ⟨r1, 0, none⟩, iV rx), (2, ⟨r1, 1, none⟩, iV ry), (2, ⟨r1, 2, none⟩, uV rz), (2, ⟨r1, 3, none⟩, iV rs), (2, ⟨r1, 4, none⟩, iV rw_), (2, ⟨r1, 5, none⟩, iV rt), (2, ⟨r1, 6, none⟩, iV rn), (2, ⟨r1, 7, none⟩, .string (St L))] [] trivial (kC (sat_cell h48 5 rfl rfl) (kC (sat_cell h48 5 rfl rfl) (kC (sat_cell h48 5 rfl rfl) (kC (sat_cell h48 5 rfl rfl) (kC (sat_cell h48 5 rfl rfl) (kC (sat_cell h48 5 rfl rfl) (kC (sat_cell h48 5 rfl rfl) (kC (sat_cell h48 5 rfl rfl) nC)))))))) ?_
     by_cases c50 : (resE rx ry rz rs rw_ rt rn L) = 0
     ·
      by_cases c51 : rx = (getR pp.1 vn).out.1
      ·
       by_cases c52 : ry = (getR pp.1 vn).out.2.1
       ·
        by_cases c53 : rz = (getR pp.1 vn).out.2.2
        ·
         by_cases cs54 : L = ((getR pp.1 vn).tag : List UInt8)
         ·
          by_cases c55 : rs = 1
          ·
           have hset56 : setE pp.1 vn ⟨(rx, ry, rz), rs, rw_, rt, rn, L⟩ = 0 := setE_go (S := pp.1) (v := vn) (r := ⟨(rx, ry, rz), rs, rw_, rt, rn, L⟩) (by omega) (show resE rx ry rz rs rw_ rt rn L = 0 from by omega) (k3e (by show rx = _ ∧ ry = _ ∧ rz = _; omega)) cs54 (by show ¬ (rs ≠ 1 ∧ 0 < (descs pp.1.E vn).length); omega)
           refine yA ?_
           refine yCl 54 Try.call17 ((by have h_ := tset_w b23 nn pp.1 vn rx ry rz rs rw_ rt rn L (by omega) (by omega) (by omega); rw [hset56] at h_; exact h_)) h48 ?_
           rintro v K w57 (⟨rfl, rfl⟩) h58
           refine ⟨_, rfl, ?_⟩
           have h59 := ap1 h58
           refine yB0 [] [4] [(17, iV 0)] (.mk ?_)
           refine yK [(3, iV vn), (9, pV r1), (11, pV b23), (13, pV r37), (14, iV 0), (15, .slice p43 (((descs pp.1.E vn).length)) c44), (17, iV 0)] fun lr60 => ?_
           refine ySq ?_
           refine yPl [0, 1, 2, 3, 4, 5, 6, 7, 8] ?_
           refine yB0 [2, 3, 4, 5, 6, 7, 8] [0, 1] [(57, iV vn), (56, pV b23)] ?_
           have hl61 := (getR_set hset56).2.2
           refine yA ?_
           refine yCl 58 Try.call20 ((by have h_ := tget_w b23 nn (setS pp.1 vn ⟨(rx, ry, rz), rs, rw_, rt, rn, L⟩) vn; rw [(getR_set hset56).1, (getR_set hset56).2.1] at h_; exact h_)) h59 ?_
           rintro v K w62 (⟨rfl, rfl⟩) h63
           refine ⟨_, rfl, ?_⟩
           have h64 := ap1 h63
           refine yB0 [6, 7, 8] [3, 4, 5] [(60, iV 0), (59, .agg #[iV rx, iV ry, uV rz, iV rs, iV rw_, iV rt, iV rn, .string (St L)]), (55, .tuple #[.agg #[iV rx, iV ry, uV rz, iV rs, iV rw_, iV rt, iV rn, .string (St L)], iV 0])] ?_
           refine yA ?_
           refine yNp 18 42 [iV 0, iV 0, uV 0, iV 0, iV 0, iV 0, iV 0, .string (St [])] h64 fun r65 w66 h67 => ?_
           refine yA ?_
           refine yS [(0, iV rx), (1, iV ry), (2, uV rz), (3, iV rs), (4, iV rw_), (5, iV rt), (6, iV rn), (7, .string (St L))] [iV rx, iV ry, uV rz, iV rs, iV rw_, iV rt, iV rn, .string (St L)] h67 fun w68 h69 => ?_
           refine yB0 [] [8] [(19, iV 0)] (.mk ?_)
           refine yK [(3, iV vn), (9, pV r1), (11, pV b23), (13, pV r37), (14, iV 0), (15, .slice p43 (((descs pp.1.E vn).length)) c44), (17, iV 0), (18, pV r65)] fun lr70 => ?_
           refine ySq ?_
           refine ySq ?_
           refine yPl [0, 1, 2, 3, 4, 5, 6, 7] ?_
           refine yBb [5, 6, 7] [(65, pV b23), (64, iV vn), (63, .bool false), (62, .bool false), (61, iV vn)] [e0 0, e1 1 (.bool false), e0 2, e0 3, e0 4] [] [(.bool (decide (vn < 1)), .bool false)] ⟨(ov_f (by omega)), trivial⟩ nC ?_
           have h71 := tk8 (sf7 (sf6 (sf7 (sf7 (sf7 (sf7 (sf7 (sf7 h69))))))))
           refine yA ?_
           refine yCl 66 Try.call22 (tlen_w b23 nn (setS pp.1 vn ⟨(rx, ry, rz), rs, rw_, rt, rn, L⟩)) h71 ?_
           rintro v K w72 (⟨rfl, rfl⟩) h73
           refine ⟨_, rfl, ?_⟩
           have h74 := ap1 h73
           refine yBb [] [(68, .bool false), (67, .bool false)] [e1 6 (.bool false), e0 7] [] [(.bool (decide (vn > (((setS pp.1 vn ⟨(rx, ry, rz), rs, rw_, rt, rn, L⟩).R.length : Nat) : Int))), .bool false)] ⟨(ov_f (by omega)), trivial⟩ nC (.mk ?_)
           refine yK [(9, pV r1), (13, pV r37), (14, iV 0), (15, .slice p43 (((descs pp.1.E vn).length)) c44), (17, iV 0), (18, pV r65), (68, .bool false)] fun lr75 => ?_
           refine yCf ?_
           refine ySk ?_
           refine ySq ?_
           refine yBk 0 ?_
           refine ySq ?_
           refine yPl [0, 1, 2, 3] ?_
           refine yBb [1, 2, 3] [(79, .agg #[iV rx, iV ry, uV rz, iV rs, iV rw_, iV rt, iV rn, .string (St L)])] [e2 0 [iV rx, iV ry, uV rz, iV rs, iV rw_, iV rt, iV rn, .string (St L)]] [(0, ⟨r1, 0, none⟩, iV rx), (0, ⟨r1, 1, none⟩, iV ry), (0, ⟨r1, 2, none⟩, uV rz), (0, ⟨r1, 3, none⟩, iV rs), (0, ⟨r1, 4, none⟩, iV rw_), (0, ⟨r1, 5, none⟩, iV rt), (0, ⟨r1, 6, none⟩, iV rn), (0, ⟨r1, 7, none⟩, .string (St L))] [] trivial (kC (sat_cell h74 6 rfl rfl) (kC (sat_cell h74 6 rfl rfl) (kC (sat_cell h74 6 rfl rfl) (kC (sat_cell h74 6 rfl rfl) (kC (sat_cell h74 6 rfl rfl) (kC (sat_cell h74 6 rfl rfl) (kC (sat_cell h74 6 rfl rfl) (kC (sat_cell h74 6 rfl rfl) nC)))))))) ?_
           refine yA ?_
           refine yCl 80 Try.call23 (rchk_ht rx ry rz rs rw_ rt rn L (by omega) (by omega) (by omega)) h74 ?_
           rintro v K w76 (⟨rfl, rfl⟩) h77
           refine ⟨_, rfl, ?_⟩
           have h78 := ap0 h77
           refine yBb [] [(78, .bool false), (81, .bool false)] [e1 2 (.bool false), e0 3] [] [(.bool (((resE rx ry rz rs rw_ rt rn L)) != 0), .bool false)] ⟨(ov_nf (by omega)), trivial⟩ nC (.mk ?_)
           refine yK [(9, pV r1), (13, pV r37), (14, iV 0), (15, .slice p43 (((descs pp.1.E vn).length)) c44), (17, iV 0), (18, pV r65), (78, .bool false)] fun lr79 => ?_
           refine yCf ?_
           refine ySq ?_
           refine yPl [0, 1, 2, 3, 4, 5, 6, 7, 8, 9, 10, 11, 12] ?_
           refine yBb [4, 5, 6, 7, 8, 9, 10, 11, 12] [(98, .agg #[iV ((getR pp.1 vn).out.1), iV ((getR pp.1 vn).out.2.1), uV ((getR pp.1 vn).out.2.2)]), (97, pV r37), (96, .agg #[iV rx, iV ry, uV rz]), (95, pV r1)] [e0 0, e2 1 [iV rx, iV ry, uV rz], e0 2, e2 3 [iV ((getR pp.1 vn).out.1), iV ((getR pp.1 vn).out.2.1), uV ((getR pp.1 vn).out.2.2)]] [(3, ⟨r37, 0, none⟩, iV ((getR pp.1 vn).out.1)), (3, ⟨r37, 1, none⟩, iV ((getR pp.1 vn).out.2.1)), (3, ⟨r37, 2, none⟩, uV ((getR pp.1 vn).out.2.2)), (1, ⟨r1, 0, none⟩, iV rx), (1, ⟨r1, 1, none⟩, iV ry), (1, ⟨r1, 2, none⟩, uV rz)] [] trivial (kC (sat_cell h78 3 rfl rfl) (kC (sat_cell h78 3 rfl rfl) (kC (sat_cell h78 3 rfl rfl) (kC (sat_cell h78 6 rfl rfl) (kC (sat_cell h78 6 rfl rfl) (kC (sat_cell h78 6 rfl rfl) nC)))))) ?_
           refine plain_law (i := 4) 99 (.bool false) (by kernel_rfl) (q27e32_neq_t (o := opA (RA Try.f4 [1, 1, 1, 1, 1, 1, 1, 1, 1, 0, 0, 1, 1, 0]) 4) (x := (Operand.tmp 96)) (y := (Operand.tmp 98)) rx ry rz ((getR pp.1 vn).out.1) ((getR pp.1 vn).out.2.1) ((getR pp.1 vn).out.2.2) (by kernel_rfl) (by kernel_rfl) (by kernel_rfl) ⟨(by omega), (by omega), (by omega)⟩ _) ?_
           refine yBb [10, 11, 12] [(104, .string (St ((getR pp.1 vn).tag))), (103, .pointer (some ⟨r37, 7, none⟩)), (102, .string (St L)), (101, .pointer (some ⟨r1, 7, none⟩)), (100, .bool false)] [e0 5, e0 6, e2 7 [.string (St L)], e0 8, e2 9 [.string (St ((getR pp.1 vn).tag))]] [(9, ⟨r37, 7, none⟩, .string (St ((getR pp.1 vn).tag))), (7, ⟨r1, 7, none⟩, .string (St L))] [] trivial (kC (sat_cell h78 3 rfl rfl) (kC (sat_cell h78 6 rfl rfl) nC)) ?_
           refine plain_law (i := 10) 105 (.bool false) (by kernel_rfl) (law_neStr (t := 9) (o := opA (RA Try.f4 [1, 1, 1, 1, 1, 1, 1, 1, 1, 0, 0, 1, 1, 0]) 10) (x := (Operand.tmp 102)) (y := (Operand.tmp 104)) (a := L) (b := (getR pp.1 vn).tag) (by kernel_rfl) (by kernel_rfl) (by kernel_rfl) false (decide_eq_true cs54) _) ?_
           refine yB0 [] [11, 12] [(94, .bool false), (106, .bool false)] (.mk ?_)
           refine yK [(9, pV r1), (13, pV r37), (14, iV 0), (15, .slice p43 (((descs pp.1.E vn).length)) c44), (17, iV 0), (18, pV r65), (94, .bool false)] fun lr80 => ?_
           refine yCf ?_
           refine ySq ?_
           refine yPl [0, 1, 2, 3, 4, 5, 6, 7, 8] ?_
           refine yB0 [2, 3, 4, 5, 6, 7, 8] [0, 1] [(119, iV ((((descs pp.1.E vn).length : Nat) : Int))), (118, .slice p43 (((descs pp.1.E vn).length)) c44)] ?_
           by_cases c81 : (((descs pp.1.E vn).length : Nat) : Int) > 0
           ·
            refine yBb [] [(117, .bool false), (125, .bool false), (124, .bool false), (123, iV rs), (122, .pointer (some ⟨r1, 3, none⟩)), (121, .bool true), (120, .bool true)] [e1 2 (.bool true), e0 3, e0 4, e2 5 [iV rs], e1 6 (.bool false), e0 7, e0 8] [(5, ⟨r1, 3, none⟩, iV rs)] [(.bool (decide ((((descs pp.1.E vn).length : Nat) : Int) > 0)), .bool true), (.bool (rs != 1), .bool false)] ⟨(ov_t (by omega)), (ov_nf (by omega)), trivial⟩ (kC (sat_cell h78 6 rfl rfl) nC) (.mk ?_)
            refine yK [(9, pV r1), (13, pV r37), (14, iV 0), (17, iV 0), (18, pV r65), (117, .bool false)] fun lr82 => ?_
            refine yCf ?_
            refine ySk ?_
            refine ySq ?_
            refine yPl [0, 1, 2, 3, 4, 5, 6, 7, 8, 9, 10, 11, 12, 13, 14] ?_
            refine yBb [9, 10, 11, 12, 13, 14] [(144, .agg #[iV rx, iV ry, uV rz, iV rs, iV rw_, iV rt, iV rn, .string (St L)]), (143, .agg #[iV rx, iV ry, uV rz, iV rs, iV rw_, iV rt, iV rn, .string (St L)]), (142, .bool true), (141, .bool true), (140, .bool true), (139, iV 0), (138, .bool true), (137, .bool true), (136, iV 0)] [e0 0, e0 1, e0 2, e0 3, e0 4, e0 5, e0 6, e2 7 [iV rx, iV ry, uV rz, iV rs, iV rw_, iV rt, iV rn, .string (St L)], e2 8 [iV rx, iV ry, uV rz, iV rs, iV rw_, iV rt, iV rn, .string (St L)]] [(8, ⟨r1, 0, none⟩, iV rx), (8, ⟨r1, 1, none⟩, iV ry), (8, ⟨r1, 2, none⟩, uV rz), (8, ⟨r1, 3, none⟩, iV rs), (8, ⟨r1, 4, none⟩, iV rw_), (8, ⟨r1, 5, none⟩, iV rt), (8, ⟨r1, 6, none⟩, iV rn), (8, ⟨r1, 7, none⟩, .string (St L)), (7, ⟨r65, 0, none⟩, iV rx), (7, ⟨r65, 1, none⟩, iV ry), (7, ⟨r65, 2, none⟩, uV rz), (7, ⟨r65, 3, none⟩, iV rs), (7, ⟨r65, 4, none⟩, iV rw_), (7, ⟨r65, 5, none⟩, iV rt), (7, ⟨r65, 6, none⟩, iV rn), (7, ⟨r65, 7, none⟩, .string (St L))] [] trivial (kC (sat_cell h78 6 rfl rfl) (kC (sat_cell h78 6 rfl rfl) (kC (sat_cell h78 6 rfl rfl) (kC (sat_cell h78 6 rfl rfl) (kC (sat_cell h78 6 rfl rfl) (kC (sat_cell h78 6 rfl rfl) (kC (sat_cell h78 6 rfl rfl) (kC (sat_cell h78 6 rfl rfl) (kC (sat_cell h78 1 rfl rfl) (kC (sat_cell h78 1 rfl rfl) (kC (sat_cell h78 1 rfl rfl) (kC (sat_cell h78 1 rfl rfl) (kC (sat_cell h78 1 rfl rfl) (kC (sat_cell h78 1 rfl rfl) (kC (sat_cell h78 1 rfl rfl) (kC (sat_cell h78 1 rfl rfl) nC)))))))))))))))) ?_
            refine plain_law (i := 9) 145 (.bool true) (by kernel_rfl) (q27e42_eql_t (o := opA (RA Try.f4 [1, 1, 1, 1, 1, 1, 1, 1, 1, 1, 0]) 9) (x := (Operand.tmp 143)) (y := (Operand.tmp 144)) rx ry rz rs rw_ rt rn L rx ry rz rs rw_ rt rn L (by kernel_rfl) (by kernel_rfl) (by kernel_rfl) ⟨rfl, rfl, rfl, rfl, rfl, rfl, rfl, rfl⟩ _) ?_
            refine yB0 [12, 13, 14] [10, 11] [(147, .bool true), (146, .bool true)] ?_
            refine yA ?_
            refine yCl 148 Try.call18 (works_ht) h78 ?_
            rintro v K w83 (⟨rfl, rfl⟩) h84
            refine ⟨_, rfl, ?_⟩
            have h85 := ap0 h84
            refine yB0 [] [13, 14] [(10, .bool true), (149, .bool true)] (.mk ?_)
            refine yK [(10, .bool true)] fun lr86 => ?_
            refine yRt ?_
            repeat (first | simp only [Exit.inBlock] | simp only [Exit.then])
            have h87 := tk8 (sf7 (sf6 (sf6 (sf6 (sf6 (sf6 (sf7 (sf7 h85))))))))
            have h88 := tk2 (sf1 (sf7 h87))
            refine hi_out [] (.bool true) [] (by kernel_rfl) (by intro q hq; cases hq) ?_
            exact ⟨.bool true, [Old wo], rfl, ⟨rfl, rfl⟩, h88⟩
           ·
            refine yBb [] [(117, .bool false), (125, .bool false), (124, undef), (123, undef), (122, undef), (121, .bool false), (120, .bool false)] [e1 2 (.bool false), e0 3, e0 4, e0 5, e0 6, e0 7, e0 8] [] [(.bool (decide ((((descs pp.1.E vn).length : Nat) : Int) > 0)), .bool false)] ⟨(ov_f (by omega)), trivial⟩ nC (.mk ?_)
            refine yK [(9, pV r1), (13, pV r37), (14, iV 0), (17, iV 0), (18, pV r65), (117, .bool false)] fun lr89 => ?_
            refine yCf ?_
            refine ySk ?_
            refine ySq ?_
            refine yPl [0, 1, 2, 3, 4, 5, 6, 7, 8, 9, 10, 11, 12, 13, 14] ?_
            refine yBb [9, 10, 11, 12, 13, 14] [(144, .agg #[iV rx, iV ry, uV rz, iV rs, iV rw_, iV rt, iV rn, .string (St L)]), (143, .agg #[iV rx, iV ry, uV rz, iV rs, iV rw_, iV rt, iV rn, .string (St L)]), (142, .bool true), (141, .bool true), (140, .bool true), (139, iV 0), (138, .bool true), (137, .bool true), (136, iV 0)] [e0 0, e0 1, e0 2, e0 3, e0 4, e0 5, e0 6, e2 7 [iV rx, iV ry, uV rz, iV rs, iV rw_, iV rt, iV rn, .string (St L)], e2 8 [iV rx, iV ry, uV rz, iV rs, iV rw_, iV rt, iV rn, .string (St L)]] [(8, ⟨r1, 0, none⟩, iV rx), (8, ⟨r1, 1, none⟩, iV ry), (8, ⟨r1, 2, none⟩, uV rz), (8, ⟨r1, 3, none⟩, iV rs), (8, ⟨r1, 4, none⟩, iV rw_), (8, ⟨r1, 5, none⟩, iV rt), (8, ⟨r1, 6, none⟩, iV rn), (8, ⟨r1, 7, none⟩, .string (St L)), (7, ⟨r65, 0, none⟩, iV rx), (7, ⟨r65, 1, none⟩, iV ry), (7, ⟨r65, 2, none⟩, uV rz), (7, ⟨r65, 3, none⟩, iV rs), (7, ⟨r65, 4, none⟩, iV rw_), (7, ⟨r65, 5, none⟩, iV rt), (7, ⟨r65, 6, none⟩, iV rn), (7, ⟨r65, 7, none⟩, .string (St L))] [] trivial (kC (sat_cell h78 6 rfl rfl) (kC (sat_cell h78 6 rfl rfl) (kC (sat_cell h78 6 rfl rfl) (kC (sat_cell h78 6 rfl rfl) (kC (sat_cell h78 6 rfl rfl) (kC (sat_cell h78 6 rfl rfl) (kC (sat_cell h78 6 rfl rfl) (kC (sat_cell h78 6 rfl rfl) (kC (sat_cell h78 1 rfl rfl) (kC (sat_cell h78 1 rfl rfl) (kC (sat_cell h78 1 rfl rfl) (kC (sat_cell h78 1 rfl rfl) (kC (sat_cell h78 1 rfl rfl) (kC (sat_cell h78 1 rfl rfl) (kC (sat_cell h78 1 rfl rfl) (kC (sat_cell h78 1 rfl rfl) nC)))))))))))))))) ?_
            refine plain_law (i := 9) 145 (.bool true) (by kernel_rfl) (q27e42_eql_t (o := opA (RA Try.f4 [1, 1, 1, 1, 1, 1, 1, 1, 1, 1, 0]) 9) (x := (Operand.tmp 143)) (y := (Operand.tmp 144)) rx ry rz rs rw_ rt rn L rx ry rz rs rw_ rt rn L (by kernel_rfl) (by kernel_rfl) (by kernel_rfl) ⟨rfl, rfl, rfl, rfl, rfl, rfl, rfl, rfl⟩ _) ?_
            refine yB0 [12, 13, 14] [10, 11] [(147, .bool true), (146, .bool true)] ?_
            refine yA ?_
            refine yCl 148 Try.call18 (works_ht) h78 ?_
            rintro v K w90 (⟨rfl, rfl⟩) h91
            refine ⟨_, rfl, ?_⟩
            have h92 := ap0 h91
            refine yB0 [] [13, 14] [(10, .bool true), (149, .bool true)] (.mk ?_)
            refine yK [(10, .bool true)] fun lr93 => ?_
            refine yRt ?_
            repeat (first | simp only [Exit.inBlock] | simp only [Exit.then])
            have h94 := tk8 (sf7 (sf6 (sf6 (sf6 (sf6 (sf6 (sf7 (sf7 h92))))))))
            have h95 := tk2 (sf1 (sf7 h94))
            refine hi_out [] (.bool true) [] (by kernel_rfl) (by intro q hq; cases hq) ?_
            exact ⟨.bool true, [Old wo], rfl, ⟨rfl, rfl⟩, h95⟩
          ·
           by_cases c96 : 0 < ((descs pp.1.E vn).length)
           ·
            refine yA ?_
            refine yCl 54 Try.call17 ((by have hq_ : setE pp.1 vn ⟨(rx, ry, rz), rs, rw_, rt, rn, L⟩ = 8 := setE_st (S := pp.1) (v := vn) (r := ⟨(rx, ry, rz), rs, rw_, rt, rn, L⟩) (by omega) (show resE rx ry rz rs rw_ rt rn L = 0 from by omega) (k3e (by show rx = _ ∧ ry = _ ∧ rz = _; omega)) cs54 (by show  (rs ≠ 1 ∧ 0 < (descs pp.1.E vn).length); omega); have h_ := tset_w b23 nn pp.1 vn rx ry rz rs rw_ rt rn L (by omega) (by omega) (by omega); rw [set_bad hq_ (by first | decide | omega), hq_] at h_; exact h_)) h48 ?_
            rintro v K w97 (⟨rfl, rfl⟩) h98
            refine ⟨_, rfl, ?_⟩
            have h99 := ap1 h98
            refine yB0 [] [4] [(17, iV 8)] (.mk ?_)
            refine yK [(3, iV vn), (9, pV r1), (11, pV b23), (13, pV r37), (14, iV 0), (15, .slice p43 (((descs pp.1.E vn).length)) c44), (17, iV 8)] fun lr100 => ?_
            refine ySq ?_
            refine yPl [0, 1, 2, 3, 4, 5, 6, 7, 8] ?_
            refine yB0 [2, 3, 4, 5, 6, 7, 8] [0, 1] [(57, iV vn), (56, pV b23)] ?_
            refine yA ?_
            refine yCl 58 Try.call20 ((by have h_ := tget_w b23 nn pp.1 vn; rw [nE_ok (S := pp.1) (v := vn) (by omega)] at h_; exact h_)) h99 ?_
            rintro v K w101 (⟨rfl, rfl⟩) h102
            refine ⟨_, rfl, ?_⟩
            have h103 := ap1 h102
            refine yB0 [6, 7, 8] [3, 4, 5] [(60, iV 0), (59, .agg #[iV ((getR pp.1 vn).out.1), iV ((getR pp.1 vn).out.2.1), uV ((getR pp.1 vn).out.2.2), iV ((getR pp.1 vn).st), iV ((getR pp.1 vn).why), iV ((getR pp.1 vn).tr), iV ((getR pp.1 vn).nx), .string (St ((getR pp.1 vn).tag))]), (55, .tuple #[.agg #[iV ((getR pp.1 vn).out.1), iV ((getR pp.1 vn).out.2.1), uV ((getR pp.1 vn).out.2.2), iV ((getR pp.1 vn).st), iV ((getR pp.1 vn).why), iV ((getR pp.1 vn).tr), iV ((getR pp.1 vn).nx), .string (St ((getR pp.1 vn).tag))], iV 0])] ?_
            refine yA ?_
            refine yNp 18 42 [iV 0, iV 0, uV 0, iV 0, iV 0, iV 0, iV 0, .string (St [])] h103 fun r104 w105 h106 => ?_
            refine yA ?_
            refine yS [(0, iV ((getR pp.1 vn).out.1)), (1, iV ((getR pp.1 vn).out.2.1)), (2, uV ((getR pp.1 vn).out.2.2)), (3, iV ((getR pp.1 vn).st)), (4, iV ((getR pp.1 vn).why)), (5, iV ((getR pp.1 vn).tr)), (6, iV ((getR pp.1 vn).nx)), (7, .string (St ((getR pp.1 vn).tag)))] [iV ((getR pp.1 vn).out.1), iV ((getR pp.1 vn).out.2.1), uV ((getR pp.1 vn).out.2.2), iV ((getR pp.1 vn).st), iV ((getR pp.1 vn).why), iV ((getR pp.1 vn).tr), iV ((getR pp.1 vn).nx), .string (St ((getR pp.1 vn).tag))] h106 fun w107 h108 => ?_
            refine yB0 [] [8] [(19, iV 0)] (.mk ?_)
            refine yK [(3, iV vn), (9, pV r1), (11, pV b23), (13, pV r37), (14, iV 0), (15, .slice p43 (((descs pp.1.E vn).length)) c44), (17, iV 8), (18, pV r104)] fun lr109 => ?_
            refine ySq ?_
            refine ySq ?_
            refine yPl [0, 1, 2, 3, 4, 5, 6, 7] ?_
            refine yBb [5, 6, 7] [(65, pV b23), (64, iV vn), (63, .bool false), (62, .bool false), (61, iV vn)] [e0 0, e1 1 (.bool false), e0 2, e0 3, e0 4] [] [(.bool (decide (vn < 1)), .bool false)] ⟨(ov_f (by omega)), trivial⟩ nC ?_
            have h110 := tk8 (sf7 (sf6 (sf7 (sf7 (sf7 (sf7 (sf7 (sf7 h108))))))))
            refine yA ?_
            refine yCl 66 Try.call22 (tlen_w b23 nn pp.1) h110 ?_
            rintro v K w111 (⟨rfl, rfl⟩) h112
            refine ⟨_, rfl, ?_⟩
            have h113 := ap1 h112
            refine yBb [] [(68, .bool false), (67, .bool false)] [e1 6 (.bool false), e0 7] [] [(.bool (decide (vn > ((pp.1.R.length : Nat) : Int))), .bool false)] ⟨(ov_f (by omega)), trivial⟩ nC (.mk ?_)
            refine yK [(9, pV r1), (13, pV r37), (14, iV 0), (15, .slice p43 (((descs pp.1.E vn).length)) c44), (17, iV 8), (18, pV r104), (68, .bool false)] fun lr114 => ?_
            refine yCf ?_
            refine ySk ?_
            refine ySq ?_
            refine yBk 0 ?_
            refine ySq ?_
            refine yPl [0, 1, 2, 3] ?_
            refine yBb [1, 2, 3] [(79, .agg #[iV rx, iV ry, uV rz, iV rs, iV rw_, iV rt, iV rn, .string (St L)])] [e2 0 [iV rx, iV ry, uV rz, iV rs, iV rw_, iV rt, iV rn, .string (St L)]] [(0, ⟨r1, 0, none⟩, iV rx), (0, ⟨r1, 1, none⟩, iV ry), (0, ⟨r1, 2, none⟩, uV rz), (0, ⟨r1, 3, none⟩, iV rs), (0, ⟨r1, 4, none⟩, iV rw_), (0, ⟨r1, 5, none⟩, iV rt), (0, ⟨r1, 6, none⟩, iV rn), (0, ⟨r1, 7, none⟩, .string (St L))] [] trivial (kC (sat_cell h113 6 rfl rfl) (kC (sat_cell h113 6 rfl rfl) (kC (sat_cell h113 6 rfl rfl) (kC (sat_cell h113 6 rfl rfl) (kC (sat_cell h113 6 rfl rfl) (kC (sat_cell h113 6 rfl rfl) (kC (sat_cell h113 6 rfl rfl) (kC (sat_cell h113 6 rfl rfl) nC)))))))) ?_
            refine yA ?_
            refine yCl 80 Try.call23 (rchk_ht rx ry rz rs rw_ rt rn L (by omega) (by omega) (by omega)) h113 ?_
            rintro v K w115 (⟨rfl, rfl⟩) h116
            refine ⟨_, rfl, ?_⟩
            have h117 := ap0 h116
            refine yBb [] [(78, .bool false), (81, .bool false)] [e1 2 (.bool false), e0 3] [] [(.bool (((resE rx ry rz rs rw_ rt rn L)) != 0), .bool false)] ⟨(ov_nf (by omega)), trivial⟩ nC (.mk ?_)
            refine yK [(9, pV r1), (13, pV r37), (14, iV 0), (15, .slice p43 (((descs pp.1.E vn).length)) c44), (17, iV 8), (18, pV r104), (78, .bool false)] fun lr118 => ?_
            refine yCf ?_
            refine ySq ?_
            refine yPl [0, 1, 2, 3, 4, 5, 6, 7, 8, 9, 10, 11, 12] ?_
            refine yBb [4, 5, 6, 7, 8, 9, 10, 11, 12] [(98, .agg #[iV ((getR pp.1 vn).out.1), iV ((getR pp.1 vn).out.2.1), uV ((getR pp.1 vn).out.2.2)]), (97, pV r37), (96, .agg #[iV rx, iV ry, uV rz]), (95, pV r1)] [e0 0, e2 1 [iV rx, iV ry, uV rz], e0 2, e2 3 [iV ((getR pp.1 vn).out.1), iV ((getR pp.1 vn).out.2.1), uV ((getR pp.1 vn).out.2.2)]] [(3, ⟨r37, 0, none⟩, iV ((getR pp.1 vn).out.1)), (3, ⟨r37, 1, none⟩, iV ((getR pp.1 vn).out.2.1)), (3, ⟨r37, 2, none⟩, uV ((getR pp.1 vn).out.2.2)), (1, ⟨r1, 0, none⟩, iV rx), (1, ⟨r1, 1, none⟩, iV ry), (1, ⟨r1, 2, none⟩, uV rz)] [] trivial (kC (sat_cell h117 3 rfl rfl) (kC (sat_cell h117 3 rfl rfl) (kC (sat_cell h117 3 rfl rfl) (kC (sat_cell h117 6 rfl rfl) (kC (sat_cell h117 6 rfl rfl) (kC (sat_cell h117 6 rfl rfl) nC)))))) ?_
            refine plain_law (i := 4) 99 (.bool false) (by kernel_rfl) (q27e32_neq_t (o := opA (RA Try.f4 [1, 1, 1, 1, 1, 1, 1, 1, 1, 0, 0, 1, 1, 0]) 4) (x := (Operand.tmp 96)) (y := (Operand.tmp 98)) rx ry rz ((getR pp.1 vn).out.1) ((getR pp.1 vn).out.2.1) ((getR pp.1 vn).out.2.2) (by kernel_rfl) (by kernel_rfl) (by kernel_rfl) ⟨(by omega), (by omega), (by omega)⟩ _) ?_
            refine yBb [10, 11, 12] [(104, .string (St ((getR pp.1 vn).tag))), (103, .pointer (some ⟨r37, 7, none⟩)), (102, .string (St L)), (101, .pointer (some ⟨r1, 7, none⟩)), (100, .bool false)] [e0 5, e0 6, e2 7 [.string (St L)], e0 8, e2 9 [.string (St ((getR pp.1 vn).tag))]] [(9, ⟨r37, 7, none⟩, .string (St ((getR pp.1 vn).tag))), (7, ⟨r1, 7, none⟩, .string (St L))] [] trivial (kC (sat_cell h117 3 rfl rfl) (kC (sat_cell h117 6 rfl rfl) nC)) ?_
            refine plain_law (i := 10) 105 (.bool false) (by kernel_rfl) (law_neStr (t := 9) (o := opA (RA Try.f4 [1, 1, 1, 1, 1, 1, 1, 1, 1, 0, 0, 1, 1, 0]) 10) (x := (Operand.tmp 102)) (y := (Operand.tmp 104)) (a := L) (b := (getR pp.1 vn).tag) (by kernel_rfl) (by kernel_rfl) (by kernel_rfl) false (decide_eq_true cs54) _) ?_
            refine yB0 [] [11, 12] [(94, .bool false), (106, .bool false)] (.mk ?_)
            refine yK [(9, pV r1), (13, pV r37), (14, iV 0), (15, .slice p43 (((descs pp.1.E vn).length)) c44), (17, iV 8), (18, pV r104), (94, .bool false)] fun lr119 => ?_
            refine yCf ?_
            refine ySq ?_
            refine yPl [0, 1, 2, 3, 4, 5, 6, 7, 8] ?_
            refine yBb [] [(117, .bool true), (125, .bool true), (124, .bool true), (123, iV rs), (122, .pointer (some ⟨r1, 3, none⟩)), (121, .bool true), (120, .bool true), (119, iV ((((descs pp.1.E vn).length : Nat) : Int))), (118, .slice p43 (((descs pp.1.E vn).length)) c44)] [e0 0, e0 1, e1 2 (.bool true), e0 3, e0 4, e2 5 [iV rs], e1 6 (.bool true), e0 7, e0 8] [(5, ⟨r1, 3, none⟩, iV rs)] [(.bool (decide ((((descs pp.1.E vn).length : Nat) : Int) > 0)), .bool true), (.bool (rs != 1), .bool true)] ⟨(ov_t (by omega)), (ov_nt (by omega)), trivial⟩ (kC (sat_cell h117 6 rfl rfl) nC) (.mk ?_)
            refine yK [(9, pV r1), (13, pV r37), (14, iV 0), (17, iV 8), (18, pV r104), (117, .bool true)] fun lr120 => ?_
            refine yCt ?_
            refine ySq ?_
            refine yPl [0, 1, 2, 3, 4, 5, 6, 7, 8, 9, 10] ?_
            refine yBb [5, 6, 7, 8, 9, 10] [(130, .agg #[iV ((getR pp.1 vn).out.1), iV ((getR pp.1 vn).out.2.1), uV ((getR pp.1 vn).out.2.2), iV ((getR pp.1 vn).st), iV ((getR pp.1 vn).why), iV ((getR pp.1 vn).tr), iV ((getR pp.1 vn).nx), .string (St ((getR pp.1 vn).tag))]), (129, .agg #[iV ((getR pp.1 vn).out.1), iV ((getR pp.1 vn).out.2.1), uV ((getR pp.1 vn).out.2.2), iV ((getR pp.1 vn).st), iV ((getR pp.1 vn).why), iV ((getR pp.1 vn).tr), iV ((getR pp.1 vn).nx), .string (St ((getR pp.1 vn).tag))]), (128, .bool true), (127, .bool true), (126, iV 8)] [e0 0, e0 1, e0 2, e2 3 [iV ((getR pp.1 vn).out.1), iV ((getR pp.1 vn).out.2.1), uV ((getR pp.1 vn).out.2.2), iV ((getR pp.1 vn).st), iV ((getR pp.1 vn).why), iV ((getR pp.1 vn).tr), iV ((getR pp.1 vn).nx), .string (St ((getR pp.1 vn).tag))], e2 4 [iV ((getR pp.1 vn).out.1), iV ((getR pp.1 vn).out.2.1), uV ((getR pp.1 vn).out.2.2), iV ((getR pp.1 vn).st), iV ((getR pp.1 vn).why), iV ((getR pp.1 vn).tr), iV ((getR pp.1 vn).nx), .string (St ((getR pp.1 vn).tag))]] [(4, ⟨r37, 0, none⟩, iV ((getR pp.1 vn).out.1)), (4, ⟨r37, 1, none⟩, iV ((getR pp.1 vn).out.2.1)), (4, ⟨r37, 2, none⟩, uV ((getR pp.1 vn).out.2.2)), (4, ⟨r37, 3, none⟩, iV ((getR pp.1 vn).st)), (4, ⟨r37, 4, none⟩, iV ((getR pp.1 vn).why)), (4, ⟨r37, 5, none⟩, iV ((getR pp.1 vn).tr)), (4, ⟨r37, 6, none⟩, iV ((getR pp.1 vn).nx)), (4, ⟨r37, 7, none⟩, .string (St ((getR pp.1 vn).tag))), (3, ⟨r104, 0, none⟩, iV ((getR pp.1 vn).out.1)), (3, ⟨r104, 1, none⟩, iV ((getR pp.1 vn).out.2.1)), (3, ⟨r104, 2, none⟩, uV ((getR pp.1 vn).out.2.2)), (3, ⟨r104, 3, none⟩, iV ((getR pp.1 vn).st)), (3, ⟨r104, 4, none⟩, iV ((getR pp.1 vn).why)), (3, ⟨r104, 5, none⟩, iV ((getR pp.1 vn).tr)), (3, ⟨r104, 6, none⟩, iV ((getR pp.1 vn).nx)), (3, ⟨r104, 7, none⟩, .string (St ((getR pp.1 vn).tag)))] [] trivial (kC (sat_cell h117 3 rfl rfl) (kC (sat_cell h117 3 rfl rfl) (kC (sat_cell h117 3 rfl rfl) (kC (sat_cell h117 3 rfl rfl) (kC (sat_cell h117 3 rfl rfl) (kC (sat_cell h117 3 rfl rfl) (kC (sat_cell h117 3 rfl rfl) (kC (sat_cell h117 3 rfl rfl) (kC (sat_cell h117 1 rfl rfl) (kC (sat_cell h117 1 rfl rfl) (kC (sat_cell h117 1 rfl rfl) (kC (sat_cell h117 1 rfl rfl) (kC (sat_cell h117 1 rfl rfl) (kC (sat_cell h117 1 rfl rfl) (kC (sat_cell h117 1 rfl rfl) (kC (sat_cell h117 1 rfl rfl) nC)))))))))))))))) ?_
            refine plain_law (i := 5) 131 (.bool true) (by kernel_rfl) (q27e42_eql_t (o := opA (RA Try.f4 [1, 1, 1, 1, 1, 1, 1, 1, 1, 0, 0, 1, 1, 1, 1, 1, 0, 0]) 5) (x := (Operand.tmp 129)) (y := (Operand.tmp 130)) ((getR pp.1 vn).out.1) ((getR pp.1 vn).out.2.1) ((getR pp.1 vn).out.2.2) ((getR pp.1 vn).st) ((getR pp.1 vn).why) ((getR pp.1 vn).tr) ((getR pp.1 vn).nx) ((getR pp.1 vn).tag) ((getR pp.1 vn).out.1) ((getR pp.1 vn).out.2.1) ((getR pp.1 vn).out.2.2) ((getR pp.1 vn).st) ((getR pp.1 vn).why) ((getR pp.1 vn).tr) ((getR pp.1 vn).nx) ((getR pp.1 vn).tag) (by kernel_rfl) (by kernel_rfl) (by kernel_rfl) ⟨rfl, rfl, rfl, rfl, rfl, rfl, rfl, rfl⟩ _) ?_
            refine yB0 [8, 9, 10] [6, 7] [(133, .bool true), (132, .bool true)] ?_
            refine yA ?_
            refine yCl 134 Try.call18 (works_ht) h117 ?_
            rintro v K w121 (⟨rfl, rfl⟩) h122
            refine ⟨_, rfl, ?_⟩
            have h123 := ap0 h122
            refine yB0 [] [9, 10] [(10, .bool true), (135, .bool true)] (.mk ?_)
            refine yK [(10, .bool true)] fun lr124 => ?_
            refine yRt ?_
            repeat (first | simp only [Exit.inBlock] | simp only [Exit.then])
            have h125 := tk8 (sf7 (sf6 (sf6 (sf6 (sf6 (sf6 (sf7 (sf7 h123))))))))
            have h126 := tk2 (sf1 (sf7 h125))
            refine hi_out [] (.bool true) [] (by kernel_rfl) (by intro q hq; cases hq) ?_
            exact ⟨.bool true, [Old wo], rfl, ⟨rfl, rfl⟩, h126⟩
           ·
            have hset127 : setE pp.1 vn ⟨(rx, ry, rz), rs, rw_, rt, rn, L⟩ = 0 := setE_go (S := pp.1) (v := vn) (r := ⟨(rx, ry, rz), rs, rw_, rt, rn, L⟩) (by omega) (show resE rx ry rz rs rw_ rt rn L = 0 from by omega) (k3e (by show rx = _ ∧ ry = _ ∧ rz = _; omega)) cs54 (by show ¬ (rs ≠ 1 ∧ 0 < (descs pp.1.E vn).length); omega)
            refine yA ?_
            refine yCl 54 Try.call17 ((by have h_ := tset_w b23 nn pp.1 vn rx ry rz rs rw_ rt rn L (by omega) (by omega) (by omega); rw [hset127] at h_; exact h_)) h48 ?_
            rintro v K w128 (⟨rfl, rfl⟩) h129
            refine ⟨_, rfl, ?_⟩
            have h130 := ap1 h129
            refine yB0 [] [4] [(17, iV 0)] (.mk ?_)
            refine yK [(3, iV vn), (9, pV r1), (11, pV b23), (13, pV r37), (14, iV 0), (15, .slice p43 (((descs pp.1.E vn).length)) c44), (17, iV 0)] fun lr131 => ?_
            refine ySq ?_
            refine yPl [0, 1, 2, 3, 4, 5, 6, 7, 8] ?_
            refine yB0 [2, 3, 4, 5, 6, 7, 8] [0, 1] [(57, iV vn), (56, pV b23)] ?_
            have hl132 := (getR_set hset127).2.2
            refine yA ?_
            refine yCl 58 Try.call20 ((by have h_ := tget_w b23 nn (setS pp.1 vn ⟨(rx, ry, rz), rs, rw_, rt, rn, L⟩) vn; rw [(getR_set hset127).1, (getR_set hset127).2.1] at h_; exact h_)) h130 ?_
            rintro v K w133 (⟨rfl, rfl⟩) h134
            refine ⟨_, rfl, ?_⟩
            have h135 := ap1 h134
            refine yB0 [6, 7, 8] [3, 4, 5] [(60, iV 0), (59, .agg #[iV rx, iV ry, uV rz, iV rs, iV rw_, iV rt, iV rn, .string (St L)]), (55, .tuple #[.agg #[iV rx, iV ry, uV rz, iV rs, iV rw_, iV rt, iV rn, .string (St L)], iV 0])] ?_
            refine yA ?_
            refine yNp 18 42 [iV 0, iV 0, uV 0, iV 0, iV 0, iV 0, iV 0, .string (St [])] h135 fun r136 w137 h138 => ?_
            refine yA ?_
            refine yS [(0, iV rx), (1, iV ry), (2, uV rz), (3, iV rs), (4, iV rw_), (5, iV rt), (6, iV rn), (7, .string (St L))] [iV rx, iV ry, uV rz, iV rs, iV rw_, iV rt, iV rn, .string (St L)] h138 fun w139 h140 => ?_
            refine yB0 [] [8] [(19, iV 0)] (.mk ?_)
            refine yK [(3, iV vn), (9, pV r1), (11, pV b23), (13, pV r37), (14, iV 0), (15, .slice p43 (((descs pp.1.E vn).length)) c44), (17, iV 0), (18, pV r136)] fun lr141 => ?_
            refine ySq ?_
            refine ySq ?_
            refine yPl [0, 1, 2, 3, 4, 5, 6, 7] ?_
            refine yBb [5, 6, 7] [(65, pV b23), (64, iV vn), (63, .bool false), (62, .bool false), (61, iV vn)] [e0 0, e1 1 (.bool false), e0 2, e0 3, e0 4] [] [(.bool (decide (vn < 1)), .bool false)] ⟨(ov_f (by omega)), trivial⟩ nC ?_
            have h142 := tk8 (sf7 (sf6 (sf7 (sf7 (sf7 (sf7 (sf7 (sf7 h140))))))))
            refine yA ?_
            refine yCl 66 Try.call22 (tlen_w b23 nn (setS pp.1 vn ⟨(rx, ry, rz), rs, rw_, rt, rn, L⟩)) h142 ?_
            rintro v K w143 (⟨rfl, rfl⟩) h144
            refine ⟨_, rfl, ?_⟩
            have h145 := ap1 h144
            refine yBb [] [(68, .bool false), (67, .bool false)] [e1 6 (.bool false), e0 7] [] [(.bool (decide (vn > (((setS pp.1 vn ⟨(rx, ry, rz), rs, rw_, rt, rn, L⟩).R.length : Nat) : Int))), .bool false)] ⟨(ov_f (by omega)), trivial⟩ nC (.mk ?_)
            refine yK [(9, pV r1), (13, pV r37), (14, iV 0), (15, .slice p43 (((descs pp.1.E vn).length)) c44), (17, iV 0), (18, pV r136), (68, .bool false)] fun lr146 => ?_
            refine yCf ?_
            refine ySk ?_
            refine ySq ?_
            refine yBk 0 ?_
            refine ySq ?_
            refine yPl [0, 1, 2, 3] ?_
            refine yBb [1, 2, 3] [(79, .agg #[iV rx, iV ry, uV rz, iV rs, iV rw_, iV rt, iV rn, .string (St L)])] [e2 0 [iV rx, iV ry, uV rz, iV rs, iV rw_, iV rt, iV rn, .string (St L)]] [(0, ⟨r1, 0, none⟩, iV rx), (0, ⟨r1, 1, none⟩, iV ry), (0, ⟨r1, 2, none⟩, uV rz), (0, ⟨r1, 3, none⟩, iV rs), (0, ⟨r1, 4, none⟩, iV rw_), (0, ⟨r1, 5, none⟩, iV rt), (0, ⟨r1, 6, none⟩, iV rn), (0, ⟨r1, 7, none⟩, .string (St L))] [] trivial (kC (sat_cell h145 6 rfl rfl) (kC (sat_cell h145 6 rfl rfl) (kC (sat_cell h145 6 rfl rfl) (kC (sat_cell h145 6 rfl rfl) (kC (sat_cell h145 6 rfl rfl) (kC (sat_cell h145 6 rfl rfl) (kC (sat_cell h145 6 rfl rfl) (kC (sat_cell h145 6 rfl rfl) nC)))))))) ?_
            refine yA ?_
            refine yCl 80 Try.call23 (rchk_ht rx ry rz rs rw_ rt rn L (by omega) (by omega) (by omega)) h145 ?_
            rintro v K w147 (⟨rfl, rfl⟩) h148
            refine ⟨_, rfl, ?_⟩
            have h149 := ap0 h148
            refine yBb [] [(78, .bool false), (81, .bool false)] [e1 2 (.bool false), e0 3] [] [(.bool (((resE rx ry rz rs rw_ rt rn L)) != 0), .bool false)] ⟨(ov_nf (by omega)), trivial⟩ nC (.mk ?_)
            refine yK [(9, pV r1), (13, pV r37), (14, iV 0), (15, .slice p43 (((descs pp.1.E vn).length)) c44), (17, iV 0), (18, pV r136), (78, .bool false)] fun lr150 => ?_
            refine yCf ?_
            refine ySq ?_
            refine yPl [0, 1, 2, 3, 4, 5, 6, 7, 8, 9, 10, 11, 12] ?_
            refine yBb [4, 5, 6, 7, 8, 9, 10, 11, 12] [(98, .agg #[iV ((getR pp.1 vn).out.1), iV ((getR pp.1 vn).out.2.1), uV ((getR pp.1 vn).out.2.2)]), (97, pV r37), (96, .agg #[iV rx, iV ry, uV rz]), (95, pV r1)] [e0 0, e2 1 [iV rx, iV ry, uV rz], e0 2, e2 3 [iV ((getR pp.1 vn).out.1), iV ((getR pp.1 vn).out.2.1), uV ((getR pp.1 vn).out.2.2)]] [(3, ⟨r37, 0, none⟩, iV ((getR pp.1 vn).out.1)), (3, ⟨r37, 1, none⟩, iV ((getR pp.1 vn).out.2.1)), (3, ⟨r37, 2, none⟩, uV ((getR pp.1 vn).out.2.2)), (1, ⟨r1, 0, none⟩, iV rx), (1, ⟨r1, 1, none⟩, iV ry), (1, ⟨r1, 2, none⟩, uV rz)] [] trivial (kC (sat_cell h149 3 rfl rfl) (kC (sat_cell h149 3 rfl rfl) (kC (sat_cell h149 3 rfl rfl) (kC (sat_cell h149 6 rfl rfl) (kC (sat_cell h149 6 rfl rfl) (kC (sat_cell h149 6 rfl rfl) nC)))))) ?_
            refine plain_law (i := 4) 99 (.bool false) (by kernel_rfl) (q27e32_neq_t (o := opA (RA Try.f4 [1, 1, 1, 1, 1, 1, 1, 1, 1, 0, 0, 1, 1, 0]) 4) (x := (Operand.tmp 96)) (y := (Operand.tmp 98)) rx ry rz ((getR pp.1 vn).out.1) ((getR pp.1 vn).out.2.1) ((getR pp.1 vn).out.2.2) (by kernel_rfl) (by kernel_rfl) (by kernel_rfl) ⟨(by omega), (by omega), (by omega)⟩ _) ?_
            refine yBb [10, 11, 12] [(104, .string (St ((getR pp.1 vn).tag))), (103, .pointer (some ⟨r37, 7, none⟩)), (102, .string (St L)), (101, .pointer (some ⟨r1, 7, none⟩)), (100, .bool false)] [e0 5, e0 6, e2 7 [.string (St L)], e0 8, e2 9 [.string (St ((getR pp.1 vn).tag))]] [(9, ⟨r37, 7, none⟩, .string (St ((getR pp.1 vn).tag))), (7, ⟨r1, 7, none⟩, .string (St L))] [] trivial (kC (sat_cell h149 3 rfl rfl) (kC (sat_cell h149 6 rfl rfl) nC)) ?_
            refine plain_law (i := 10) 105 (.bool false) (by kernel_rfl) (law_neStr (t := 9) (o := opA (RA Try.f4 [1, 1, 1, 1, 1, 1, 1, 1, 1, 0, 0, 1, 1, 0]) 10) (x := (Operand.tmp 102)) (y := (Operand.tmp 104)) (a := L) (b := (getR pp.1 vn).tag) (by kernel_rfl) (by kernel_rfl) (by kernel_rfl) false (decide_eq_true cs54) _) ?_
            refine yB0 [] [11, 12] [(94, .bool false), (106, .bool false)] (.mk ?_)
            refine yK [(9, pV r1), (13, pV r37), (14, iV 0), (15, .slice p43 (((descs pp.1.E vn).length)) c44), (17, iV 0), (18, pV r136), (94, .bool false)] fun lr151 => ?_
            refine yCf ?_
            refine ySq ?_
            refine yPl [0, 1, 2, 3, 4, 5, 6, 7, 8] ?_
            refine yBb [] [(117, .bool false), (125, .bool false), (124, undef), (123, undef), (122, undef), (121, .bool false), (120, .bool false), (119, iV ((((descs pp.1.E vn).length : Nat) : Int))), (118, .slice p43 (((descs pp.1.E vn).length)) c44)] [e0 0, e0 1, e1 2 (.bool false), e0 3, e0 4, e0 5, e0 6, e0 7, e0 8] [] [(.bool (decide ((((descs pp.1.E vn).length : Nat) : Int) > 0)), .bool false)] ⟨(ov_f (by omega)), trivial⟩ nC (.mk ?_)
            refine yK [(9, pV r1), (13, pV r37), (14, iV 0), (17, iV 0), (18, pV r136), (117, .bool false)] fun lr152 => ?_
            refine yCf ?_
            refine ySk ?_
            refine ySq ?_
            refine yPl [0, 1, 2, 3, 4, 5, 6, 7, 8, 9, 10, 11, 12, 13, 14] ?_
            refine yBb [9, 10, 11, 12, 13, 14] [(144, .agg #[iV rx, iV ry, uV rz, iV rs, iV rw_, iV rt, iV rn, .string (St L)]), (143, .agg #[iV rx, iV ry, uV rz, iV rs, iV rw_, iV rt, iV rn, .string (St L)]), (142, .bool true), (141, .bool true), (140, .bool true), (139, iV 0), (138, .bool true), (137, .bool true), (136, iV 0)] [e0 0, e0 1, e0 2, e0 3, e0 4, e0 5, e0 6, e2 7 [iV rx, iV ry, uV rz, iV rs, iV rw_, iV rt, iV rn, .string (St L)], e2 8 [iV rx, iV ry, uV rz, iV rs, iV rw_, iV rt, iV rn, .string (St L)]] [(8, ⟨r1, 0, none⟩, iV rx), (8, ⟨r1, 1, none⟩, iV ry), (8, ⟨r1, 2, none⟩, uV rz), (8, ⟨r1, 3, none⟩, iV rs), (8, ⟨r1, 4, none⟩, iV rw_), (8, ⟨r1, 5, none⟩, iV rt), (8, ⟨r1, 6, none⟩, iV rn), (8, ⟨r1, 7, none⟩, .string (St L)), (7, ⟨r136, 0, none⟩, iV rx), (7, ⟨r136, 1, none⟩, iV ry), (7, ⟨r136, 2, none⟩, uV rz), (7, ⟨r136, 3, none⟩, iV rs), (7, ⟨r136, 4, none⟩, iV rw_), (7, ⟨r136, 5, none⟩, iV rt), (7, ⟨r136, 6, none⟩, iV rn), (7, ⟨r136, 7, none⟩, .string (St L))] [] trivial (kC (sat_cell h149 6 rfl rfl) (kC (sat_cell h149 6 rfl rfl) (kC (sat_cell h149 6 rfl rfl) (kC (sat_cell h149 6 rfl rfl) (kC (sat_cell h149 6 rfl rfl) (kC (sat_cell h149 6 rfl rfl) (kC (sat_cell h149 6 rfl rfl) (kC (sat_cell h149 6 rfl rfl) (kC (sat_cell h149 1 rfl rfl) (kC (sat_cell h149 1 rfl rfl) (kC (sat_cell h149 1 rfl rfl) (kC (sat_cell h149 1 rfl rfl) (kC (sat_cell h149 1 rfl rfl) (kC (sat_cell h149 1 rfl rfl) (kC (sat_cell h149 1 rfl rfl) (kC (sat_cell h149 1 rfl rfl) nC)))))))))))))))) ?_
            refine plain_law (i := 9) 145 (.bool true) (by kernel_rfl) (q27e42_eql_t (o := opA (RA Try.f4 [1, 1, 1, 1, 1, 1, 1, 1, 1, 1, 0]) 9) (x := (Operand.tmp 143)) (y := (Operand.tmp 144)) rx ry rz rs rw_ rt rn L rx ry rz rs rw_ rt rn L (by kernel_rfl) (by kernel_rfl) (by kernel_rfl) ⟨rfl, rfl, rfl, rfl, rfl, rfl, rfl, rfl⟩ _) ?_
            refine yB0 [12, 13, 14] [10, 11] [(147, .bool true), (146, .bool true)] ?_
            refine yA ?_
            refine yCl 148 Try.call18 (works_ht) h149 ?_
            rintro v K w153 (⟨rfl, rfl⟩) h154
            refine ⟨_, rfl, ?_⟩
            have h155 := ap0 h154
            refine yB0 [] [13, 14] [(10, .bool true), (149, .bool true)] (.mk ?_)
            refine yK [(10, .bool true)] fun lr156 => ?_
            refine yRt ?_
            repeat (first | simp only [Exit.inBlock] | simp only [Exit.then])
            have h157 := tk8 (sf7 (sf6 (sf6 (sf6 (sf6 (sf6 (sf7 (sf7 h155))))))))
            have h158 := tk2 (sf1 (sf7 h157))
            refine hi_out [] (.bool true) [] (by kernel_rfl) (by intro q hq; cases hq) ?_
            exact ⟨.bool true, [Old wo], rfl, ⟨rfl, rfl⟩, h158⟩
         ·
          refine yA ?_
          refine yCl 54 Try.call17 ((by have hq_ : setE pp.1 vn ⟨(rx, ry, rz), rs, rw_, rt, rn, L⟩ = 2 := setE_dif (S := pp.1) (v := vn) (r := ⟨(rx, ry, rz), rs, rw_, rt, rn, L⟩) (by omega) (show resE rx ry rz rs rw_ rt rn L = 0 from by omega) (.inr cs54); have h_ := tset_w b23 nn pp.1 vn rx ry rz rs rw_ rt rn L (by omega) (by omega) (by omega); rw [set_bad hq_ (by first | decide | omega), hq_] at h_; exact h_)) h48 ?_
          rintro v K w159 (⟨rfl, rfl⟩) h160
          refine ⟨_, rfl, ?_⟩
          have h161 := ap1 h160
          refine yB0 [] [4] [(17, iV 2)] (.mk ?_)
          refine yK [(3, iV vn), (9, pV r1), (11, pV b23), (13, pV r37), (14, iV 0), (15, .slice p43 (((descs pp.1.E vn).length)) c44), (17, iV 2)] fun lr162 => ?_
          refine ySq ?_
          refine yPl [0, 1, 2, 3, 4, 5, 6, 7, 8] ?_
          refine yB0 [2, 3, 4, 5, 6, 7, 8] [0, 1] [(57, iV vn), (56, pV b23)] ?_
          refine yA ?_
          refine yCl 58 Try.call20 ((by have h_ := tget_w b23 nn pp.1 vn; rw [nE_ok (S := pp.1) (v := vn) (by omega)] at h_; exact h_)) h161 ?_
          rintro v K w163 (⟨rfl, rfl⟩) h164
          refine ⟨_, rfl, ?_⟩
          have h165 := ap1 h164
          refine yB0 [6, 7, 8] [3, 4, 5] [(60, iV 0), (59, .agg #[iV ((getR pp.1 vn).out.1), iV ((getR pp.1 vn).out.2.1), uV ((getR pp.1 vn).out.2.2), iV ((getR pp.1 vn).st), iV ((getR pp.1 vn).why), iV ((getR pp.1 vn).tr), iV ((getR pp.1 vn).nx), .string (St ((getR pp.1 vn).tag))]), (55, .tuple #[.agg #[iV ((getR pp.1 vn).out.1), iV ((getR pp.1 vn).out.2.1), uV ((getR pp.1 vn).out.2.2), iV ((getR pp.1 vn).st), iV ((getR pp.1 vn).why), iV ((getR pp.1 vn).tr), iV ((getR pp.1 vn).nx), .string (St ((getR pp.1 vn).tag))], iV 0])] ?_
          refine yA ?_
          refine yNp 18 42 [iV 0, iV 0, uV 0, iV 0, iV 0, iV 0, iV 0, .string (St [])] h165 fun r166 w167 h168 => ?_
          refine yA ?_
          refine yS [(0, iV ((getR pp.1 vn).out.1)), (1, iV ((getR pp.1 vn).out.2.1)), (2, uV ((getR pp.1 vn).out.2.2)), (3, iV ((getR pp.1 vn).st)), (4, iV ((getR pp.1 vn).why)), (5, iV ((getR pp.1 vn).tr)), (6, iV ((getR pp.1 vn).nx)), (7, .string (St ((getR pp.1 vn).tag)))] [iV ((getR pp.1 vn).out.1), iV ((getR pp.1 vn).out.2.1), uV ((getR pp.1 vn).out.2.2), iV ((getR pp.1 vn).st), iV ((getR pp.1 vn).why), iV ((getR pp.1 vn).tr), iV ((getR pp.1 vn).nx), .string (St ((getR pp.1 vn).tag))] h168 fun w169 h170 => ?_
          refine yB0 [] [8] [(19, iV 0)] (.mk ?_)
          refine yK [(3, iV vn), (9, pV r1), (11, pV b23), (13, pV r37), (14, iV 0), (15, .slice p43 (((descs pp.1.E vn).length)) c44), (17, iV 2), (18, pV r166)] fun lr171 => ?_
          refine ySq ?_
          refine ySq ?_
          refine yPl [0, 1, 2, 3, 4, 5, 6, 7] ?_
          refine yBb [5, 6, 7] [(65, pV b23), (64, iV vn), (63, .bool false), (62, .bool false), (61, iV vn)] [e0 0, e1 1 (.bool false), e0 2, e0 3, e0 4] [] [(.bool (decide (vn < 1)), .bool false)] ⟨(ov_f (by omega)), trivial⟩ nC ?_
          have h172 := tk8 (sf7 (sf6 (sf7 (sf7 (sf7 (sf7 (sf7 (sf7 h170))))))))
          refine yA ?_
          refine yCl 66 Try.call22 (tlen_w b23 nn pp.1) h172 ?_
          rintro v K w173 (⟨rfl, rfl⟩) h174
          refine ⟨_, rfl, ?_⟩
          have h175 := ap1 h174
          refine yBb [] [(68, .bool false), (67, .bool false)] [e1 6 (.bool false), e0 7] [] [(.bool (decide (vn > ((pp.1.R.length : Nat) : Int))), .bool false)] ⟨(ov_f (by omega)), trivial⟩ nC (.mk ?_)
          refine yK [(9, pV r1), (13, pV r37), (14, iV 0), (15, .slice p43 (((descs pp.1.E vn).length)) c44), (17, iV 2), (18, pV r166), (68, .bool false)] fun lr176 => ?_
          refine yCf ?_
          refine ySk ?_
          refine ySq ?_
          refine yBk 0 ?_
          refine ySq ?_
          refine yPl [0, 1, 2, 3] ?_
          refine yBb [1, 2, 3] [(79, .agg #[iV rx, iV ry, uV rz, iV rs, iV rw_, iV rt, iV rn, .string (St L)])] [e2 0 [iV rx, iV ry, uV rz, iV rs, iV rw_, iV rt, iV rn, .string (St L)]] [(0, ⟨r1, 0, none⟩, iV rx), (0, ⟨r1, 1, none⟩, iV ry), (0, ⟨r1, 2, none⟩, uV rz), (0, ⟨r1, 3, none⟩, iV rs), (0, ⟨r1, 4, none⟩, iV rw_), (0, ⟨r1, 5, none⟩, iV rt), (0, ⟨r1, 6, none⟩, iV rn), (0, ⟨r1, 7, none⟩, .string (St L))] [] trivial (kC (sat_cell h175 6 rfl rfl) (kC (sat_cell h175 6 rfl rfl) (kC (sat_cell h175 6 rfl rfl) (kC (sat_cell h175 6 rfl rfl) (kC (sat_cell h175 6 rfl rfl) (kC (sat_cell h175 6 rfl rfl) (kC (sat_cell h175 6 rfl rfl) (kC (sat_cell h175 6 rfl rfl) nC)))))))) ?_
          refine yA ?_
          refine yCl 80 Try.call23 (rchk_ht rx ry rz rs rw_ rt rn L (by omega) (by omega) (by omega)) h175 ?_
          rintro v K w177 (⟨rfl, rfl⟩) h178
          refine ⟨_, rfl, ?_⟩
          have h179 := ap0 h178
          refine yBb [] [(78, .bool false), (81, .bool false)] [e1 2 (.bool false), e0 3] [] [(.bool (((resE rx ry rz rs rw_ rt rn L)) != 0), .bool false)] ⟨(ov_nf (by omega)), trivial⟩ nC (.mk ?_)
          refine yK [(9, pV r1), (13, pV r37), (14, iV 0), (15, .slice p43 (((descs pp.1.E vn).length)) c44), (17, iV 2), (18, pV r166), (78, .bool false)] fun lr180 => ?_
          refine yCf ?_
          refine ySq ?_
          refine yPl [0, 1, 2, 3, 4, 5, 6, 7, 8, 9, 10, 11, 12] ?_
          refine yBb [4, 5, 6, 7, 8, 9, 10, 11, 12] [(98, .agg #[iV ((getR pp.1 vn).out.1), iV ((getR pp.1 vn).out.2.1), uV ((getR pp.1 vn).out.2.2)]), (97, pV r37), (96, .agg #[iV rx, iV ry, uV rz]), (95, pV r1)] [e0 0, e2 1 [iV rx, iV ry, uV rz], e0 2, e2 3 [iV ((getR pp.1 vn).out.1), iV ((getR pp.1 vn).out.2.1), uV ((getR pp.1 vn).out.2.2)]] [(3, ⟨r37, 0, none⟩, iV ((getR pp.1 vn).out.1)), (3, ⟨r37, 1, none⟩, iV ((getR pp.1 vn).out.2.1)), (3, ⟨r37, 2, none⟩, uV ((getR pp.1 vn).out.2.2)), (1, ⟨r1, 0, none⟩, iV rx), (1, ⟨r1, 1, none⟩, iV ry), (1, ⟨r1, 2, none⟩, uV rz)] [] trivial (kC (sat_cell h179 3 rfl rfl) (kC (sat_cell h179 3 rfl rfl) (kC (sat_cell h179 3 rfl rfl) (kC (sat_cell h179 6 rfl rfl) (kC (sat_cell h179 6 rfl rfl) (kC (sat_cell h179 6 rfl rfl) nC)))))) ?_
          refine plain_law (i := 4) 99 (.bool false) (by kernel_rfl) (q27e32_neq_t (o := opA (RA Try.f4 [1, 1, 1, 1, 1, 1, 1, 1, 1, 0, 0, 1, 1, 0]) 4) (x := (Operand.tmp 96)) (y := (Operand.tmp 98)) rx ry rz ((getR pp.1 vn).out.1) ((getR pp.1 vn).out.2.1) ((getR pp.1 vn).out.2.2) (by kernel_rfl) (by kernel_rfl) (by kernel_rfl) ⟨(by omega), (by omega), (by omega)⟩ _) ?_
          refine yBb [10, 11, 12] [(104, .string (St ((getR pp.1 vn).tag))), (103, .pointer (some ⟨r37, 7, none⟩)), (102, .string (St L)), (101, .pointer (some ⟨r1, 7, none⟩)), (100, .bool false)] [e0 5, e0 6, e2 7 [.string (St L)], e0 8, e2 9 [.string (St ((getR pp.1 vn).tag))]] [(9, ⟨r37, 7, none⟩, .string (St ((getR pp.1 vn).tag))), (7, ⟨r1, 7, none⟩, .string (St L))] [] trivial (kC (sat_cell h179 3 rfl rfl) (kC (sat_cell h179 6 rfl rfl) nC)) ?_
          refine plain_law (i := 10) 105 (.bool true) (by kernel_rfl) (law_neStr (t := 9) (o := opA (RA Try.f4 [1, 1, 1, 1, 1, 1, 1, 1, 1, 0, 0, 1, 1, 0]) 10) (x := (Operand.tmp 102)) (y := (Operand.tmp 104)) (a := L) (b := (getR pp.1 vn).tag) (by kernel_rfl) (by kernel_rfl) (by kernel_rfl) true ((decide_eq_false cs54).trans rfl) _) ?_
          refine yB0 [] [11, 12] [(94, .bool true), (106, .bool true)] (.mk ?_)
          refine yK [(9, pV r1), (13, pV r37), (14, iV 0), (15, .slice p43 (((descs pp.1.E vn).length)) c44), (17, iV 2), (18, pV r166), (94, .bool true)] fun lr181 => ?_
          refine yCt ?_
          refine ySq ?_
          refine yPl [0, 1, 2, 3, 4, 5, 6, 7, 8, 9, 10] ?_
          refine yBb [5, 6, 7, 8, 9, 10] [(111, .agg #[iV ((getR pp.1 vn).out.1), iV ((getR pp.1 vn).out.2.1), uV ((getR pp.1 vn).out.2.2), iV ((getR pp.1 vn).st), iV ((getR pp.1 vn).why), iV ((getR pp.1 vn).tr), iV ((getR pp.1 vn).nx), .string (St ((getR pp.1 vn).tag))]), (110, .agg #[iV ((getR pp.1 vn).out.1), iV ((getR pp.1 vn).out.2.1), uV ((getR pp.1 vn).out.2.2), iV ((getR pp.1 vn).st), iV ((getR pp.1 vn).why), iV ((getR pp.1 vn).tr), iV ((getR pp.1 vn).nx), .string (St ((getR pp.1 vn).tag))]), (109, .bool true), (108, .bool true), (107, iV 2)] [e0 0, e0 1, e0 2, e2 3 [iV ((getR pp.1 vn).out.1), iV ((getR pp.1 vn).out.2.1), uV ((getR pp.1 vn).out.2.2), iV ((getR pp.1 vn).st), iV ((getR pp.1 vn).why), iV ((getR pp.1 vn).tr), iV ((getR pp.1 vn).nx), .string (St ((getR pp.1 vn).tag))], e2 4 [iV ((getR pp.1 vn).out.1), iV ((getR pp.1 vn).out.2.1), uV ((getR pp.1 vn).out.2.2), iV ((getR pp.1 vn).st), iV ((getR pp.1 vn).why), iV ((getR pp.1 vn).tr), iV ((getR pp.1 vn).nx), .string (St ((getR pp.1 vn).tag))]] [(4, ⟨r37, 0, none⟩, iV ((getR pp.1 vn).out.1)), (4, ⟨r37, 1, none⟩, iV ((getR pp.1 vn).out.2.1)), (4, ⟨r37, 2, none⟩, uV ((getR pp.1 vn).out.2.2)), (4, ⟨r37, 3, none⟩, iV ((getR pp.1 vn).st)), (4, ⟨r37, 4, none⟩, iV ((getR pp.1 vn).why)), (4, ⟨r37, 5, none⟩, iV ((getR pp.1 vn).tr)), (4, ⟨r37, 6, none⟩, iV ((getR pp.1 vn).nx)), (4, ⟨r37, 7, none⟩, .string (St ((getR pp.1 vn).tag))), (3, ⟨r166, 0, none⟩, iV ((getR pp.1 vn).out.1)), (3, ⟨r166, 1, none⟩, iV ((getR pp.1 vn).out.2.1)), (3, ⟨r166, 2, none⟩, uV ((getR pp.1 vn).out.2.2)), (3, ⟨r166, 3, none⟩, iV ((getR pp.1 vn).st)), (3, ⟨r166, 4, none⟩, iV ((getR pp.1 vn).why)), (3, ⟨r166, 5, none⟩, iV ((getR pp.1 vn).tr)), (3, ⟨r166, 6, none⟩, iV ((getR pp.1 vn).nx)), (3, ⟨r166, 7, none⟩, .string (St ((getR pp.1 vn).tag)))] [] trivial (kC (sat_cell h179 3 rfl rfl) (kC (sat_cell h179 3 rfl rfl) (kC (sat_cell h179 3 rfl rfl) (kC (sat_cell h179 3 rfl rfl) (kC (sat_cell h179 3 rfl rfl) (kC (sat_cell h179 3 rfl rfl) (kC (sat_cell h179 3 rfl rfl) (kC (sat_cell h179 3 rfl rfl) (kC (sat_cell h179 1 rfl rfl) (kC (sat_cell h179 1 rfl rfl) (kC (sat_cell h179 1 rfl rfl) (kC (sat_cell h179 1 rfl rfl) (kC (sat_cell h179 1 rfl rfl) (kC (sat_cell h179 1 rfl rfl) (kC (sat_cell h179 1 rfl rfl) (kC (sat_cell h179 1 rfl rfl) nC)))))))))))))))) ?_
          refine plain_law (i := 5) 112 (.bool true) (by kernel_rfl) (q27e42_eql_t (o := opA (RA Try.f4 [1, 1, 1, 1, 1, 1, 1, 1, 1, 0, 0, 1, 1, 1, 0, 0]) 5) (x := (Operand.tmp 110)) (y := (Operand.tmp 111)) ((getR pp.1 vn).out.1) ((getR pp.1 vn).out.2.1) ((getR pp.1 vn).out.2.2) ((getR pp.1 vn).st) ((getR pp.1 vn).why) ((getR pp.1 vn).tr) ((getR pp.1 vn).nx) ((getR pp.1 vn).tag) ((getR pp.1 vn).out.1) ((getR pp.1 vn).out.2.1) ((getR pp.1 vn).out.2.2) ((getR pp.1 vn).st) ((getR pp.1 vn).why) ((getR pp.1 vn).tr) ((getR pp.1 vn).nx) ((getR pp.1 vn).tag) (by kernel_rfl) (by kernel_rfl) (by kernel_rfl) ⟨rfl, rfl, rfl, rfl, rfl, rfl, rfl, rfl⟩ _) ?_
          refine yB0 [8, 9, 10] [6, 7] [(114, .bool true), (113, .bool true)] ?_
          refine yA ?_
          refine yCl 115 Try.call18 (works_ht) h179 ?_
          rintro v K w182 (⟨rfl, rfl⟩) h183
          refine ⟨_, rfl, ?_⟩
          have h184 := ap0 h183
          refine yB0 [] [9, 10] [(10, .bool true), (116, .bool true)] (.mk ?_)
          refine yK [(10, .bool true)] fun lr185 => ?_
          refine yRt ?_
          repeat (first | simp only [Exit.inBlock] | simp only [Exit.then])
          have h186 := tk8 (sf7 (sf6 (sf6 (sf6 (sf6 (sf6 (sf7 (sf7 h184))))))))
          have h187 := tk2 (sf1 (sf7 h186))
          refine hi_out [] (.bool true) [] (by kernel_rfl) (by intro q hq; cases hq) ?_
          exact ⟨.bool true, [Old wo], rfl, ⟨rfl, rfl⟩, h187⟩
        ·
         refine yA ?_
         refine yCl 54 Try.call17 ((by have hq_ : setE pp.1 vn ⟨(rx, ry, rz), rs, rw_, rt, rn, L⟩ = 2 := setE_dif (S := pp.1) (v := vn) (r := ⟨(rx, ry, rz), rs, rw_, rt, rn, L⟩) (by omega) (show resE rx ry rz rs rw_ rt rn L = 0 from by omega) (.inl (k3ne (by show ¬ (rx = _ ∧ ry = _ ∧ rz = _); omega))); have h_ := tset_w b23 nn pp.1 vn rx ry rz rs rw_ rt rn L (by omega) (by omega) (by omega); rw [set_bad hq_ (by first | decide | omega), hq_] at h_; exact h_)) h48 ?_
         rintro v K w188 (⟨rfl, rfl⟩) h189
         refine ⟨_, rfl, ?_⟩
         have h190 := ap1 h189
         refine yB0 [] [4] [(17, iV 2)] (.mk ?_)
         refine yK [(3, iV vn), (9, pV r1), (11, pV b23), (13, pV r37), (14, iV 0), (15, .slice p43 (((descs pp.1.E vn).length)) c44), (17, iV 2)] fun lr191 => ?_
         refine ySq ?_
         refine yPl [0, 1, 2, 3, 4, 5, 6, 7, 8] ?_
         refine yB0 [2, 3, 4, 5, 6, 7, 8] [0, 1] [(57, iV vn), (56, pV b23)] ?_
         refine yA ?_
         refine yCl 58 Try.call20 ((by have h_ := tget_w b23 nn pp.1 vn; rw [nE_ok (S := pp.1) (v := vn) (by omega)] at h_; exact h_)) h190 ?_
         rintro v K w192 (⟨rfl, rfl⟩) h193
         refine ⟨_, rfl, ?_⟩
         have h194 := ap1 h193
         refine yB0 [6, 7, 8] [3, 4, 5] [(60, iV 0), (59, .agg #[iV ((getR pp.1 vn).out.1), iV ((getR pp.1 vn).out.2.1), uV ((getR pp.1 vn).out.2.2), iV ((getR pp.1 vn).st), iV ((getR pp.1 vn).why), iV ((getR pp.1 vn).tr), iV ((getR pp.1 vn).nx), .string (St ((getR pp.1 vn).tag))]), (55, .tuple #[.agg #[iV ((getR pp.1 vn).out.1), iV ((getR pp.1 vn).out.2.1), uV ((getR pp.1 vn).out.2.2), iV ((getR pp.1 vn).st), iV ((getR pp.1 vn).why), iV ((getR pp.1 vn).tr), iV ((getR pp.1 vn).nx), .string (St ((getR pp.1 vn).tag))], iV 0])] ?_
         refine yA ?_
         refine yNp 18 42 [iV 0, iV 0, uV 0, iV 0, iV 0, iV 0, iV 0, .string (St [])] h194 fun r195 w196 h197 => ?_
         refine yA ?_
         refine yS [(0, iV ((getR pp.1 vn).out.1)), (1, iV ((getR pp.1 vn).out.2.1)), (2, uV ((getR pp.1 vn).out.2.2)), (3, iV ((getR pp.1 vn).st)), (4, iV ((getR pp.1 vn).why)), (5, iV ((getR pp.1 vn).tr)), (6, iV ((getR pp.1 vn).nx)), (7, .string (St ((getR pp.1 vn).tag)))] [iV ((getR pp.1 vn).out.1), iV ((getR pp.1 vn).out.2.1), uV ((getR pp.1 vn).out.2.2), iV ((getR pp.1 vn).st), iV ((getR pp.1 vn).why), iV ((getR pp.1 vn).tr), iV ((getR pp.1 vn).nx), .string (St ((getR pp.1 vn).tag))] h197 fun w198 h199 => ?_
         refine yB0 [] [8] [(19, iV 0)] (.mk ?_)
         refine yK [(3, iV vn), (9, pV r1), (11, pV b23), (13, pV r37), (14, iV 0), (15, .slice p43 (((descs pp.1.E vn).length)) c44), (17, iV 2), (18, pV r195)] fun lr200 => ?_
         refine ySq ?_
         refine ySq ?_
         refine yPl [0, 1, 2, 3, 4, 5, 6, 7] ?_
         refine yBb [5, 6, 7] [(65, pV b23), (64, iV vn), (63, .bool false), (62, .bool false), (61, iV vn)] [e0 0, e1 1 (.bool false), e0 2, e0 3, e0 4] [] [(.bool (decide (vn < 1)), .bool false)] ⟨(ov_f (by omega)), trivial⟩ nC ?_
         have h201 := tk8 (sf7 (sf6 (sf7 (sf7 (sf7 (sf7 (sf7 (sf7 h199))))))))
         refine yA ?_
         refine yCl 66 Try.call22 (tlen_w b23 nn pp.1) h201 ?_
         rintro v K w202 (⟨rfl, rfl⟩) h203
         refine ⟨_, rfl, ?_⟩
         have h204 := ap1 h203
         refine yBb [] [(68, .bool false), (67, .bool false)] [e1 6 (.bool false), e0 7] [] [(.bool (decide (vn > ((pp.1.R.length : Nat) : Int))), .bool false)] ⟨(ov_f (by omega)), trivial⟩ nC (.mk ?_)
         refine yK [(9, pV r1), (13, pV r37), (14, iV 0), (15, .slice p43 (((descs pp.1.E vn).length)) c44), (17, iV 2), (18, pV r195), (68, .bool false)] fun lr205 => ?_
         refine yCf ?_
         refine ySk ?_
         refine ySq ?_
         refine yBk 0 ?_
         refine ySq ?_
         refine yPl [0, 1, 2, 3] ?_
         refine yBb [1, 2, 3] [(79, .agg #[iV rx, iV ry, uV rz, iV rs, iV rw_, iV rt, iV rn, .string (St L)])] [e2 0 [iV rx, iV ry, uV rz, iV rs, iV rw_, iV rt, iV rn, .string (St L)]] [(0, ⟨r1, 0, none⟩, iV rx), (0, ⟨r1, 1, none⟩, iV ry), (0, ⟨r1, 2, none⟩, uV rz), (0, ⟨r1, 3, none⟩, iV rs), (0, ⟨r1, 4, none⟩, iV rw_), (0, ⟨r1, 5, none⟩, iV rt), (0, ⟨r1, 6, none⟩, iV rn), (0, ⟨r1, 7, none⟩, .string (St L))] [] trivial (kC (sat_cell h204 6 rfl rfl) (kC (sat_cell h204 6 rfl rfl) (kC (sat_cell h204 6 rfl rfl) (kC (sat_cell h204 6 rfl rfl) (kC (sat_cell h204 6 rfl rfl) (kC (sat_cell h204 6 rfl rfl) (kC (sat_cell h204 6 rfl rfl) (kC (sat_cell h204 6 rfl rfl) nC)))))))) ?_
         refine yA ?_
         refine yCl 80 Try.call23 (rchk_ht rx ry rz rs rw_ rt rn L (by omega) (by omega) (by omega)) h204 ?_
         rintro v K w206 (⟨rfl, rfl⟩) h207
         refine ⟨_, rfl, ?_⟩
         have h208 := ap0 h207
         refine yBb [] [(78, .bool false), (81, .bool false)] [e1 2 (.bool false), e0 3] [] [(.bool (((resE rx ry rz rs rw_ rt rn L)) != 0), .bool false)] ⟨(ov_nf (by omega)), trivial⟩ nC (.mk ?_)
         refine yK [(9, pV r1), (13, pV r37), (14, iV 0), (15, .slice p43 (((descs pp.1.E vn).length)) c44), (17, iV 2), (18, pV r195), (78, .bool false)] fun lr209 => ?_
         refine yCf ?_
         refine ySq ?_
         refine yPl [0, 1, 2, 3, 4, 5, 6, 7, 8, 9, 10, 11, 12] ?_
         refine yBb [4, 5, 6, 7, 8, 9, 10, 11, 12] [(98, .agg #[iV ((getR pp.1 vn).out.1), iV ((getR pp.1 vn).out.2.1), uV ((getR pp.1 vn).out.2.2)]), (97, pV r37), (96, .agg #[iV rx, iV ry, uV rz]), (95, pV r1)] [e0 0, e2 1 [iV rx, iV ry, uV rz], e0 2, e2 3 [iV ((getR pp.1 vn).out.1), iV ((getR pp.1 vn).out.2.1), uV ((getR pp.1 vn).out.2.2)]] [(3, ⟨r37, 0, none⟩, iV ((getR pp.1 vn).out.1)), (3, ⟨r37, 1, none⟩, iV ((getR pp.1 vn).out.2.1)), (3, ⟨r37, 2, none⟩, uV ((getR pp.1 vn).out.2.2)), (1, ⟨r1, 0, none⟩, iV rx), (1, ⟨r1, 1, none⟩, iV ry), (1, ⟨r1, 2, none⟩, uV rz)] [] trivial (kC (sat_cell h208 3 rfl rfl) (kC (sat_cell h208 3 rfl rfl) (kC (sat_cell h208 3 rfl rfl) (kC (sat_cell h208 6 rfl rfl) (kC (sat_cell h208 6 rfl rfl) (kC (sat_cell h208 6 rfl rfl) nC)))))) ?_
         refine plain_law (i := 4) 99 (.bool true) (by kernel_rfl) (q27e32_neq_f (o := opA (RA Try.f4 [1, 1, 1, 1, 1, 1, 1, 1, 1, 0, 0, 1, 1, 0]) 4) (x := (Operand.tmp 96)) (y := (Operand.tmp 98)) rx ry rz ((getR pp.1 vn).out.1) ((getR pp.1 vn).out.2.1) ((getR pp.1 vn).out.2.2) (by kernel_rfl) (by kernel_rfl) (by kernel_rfl) (by omega) _) ?_
         refine yB0 [] [5, 6, 7, 8, 9, 10, 11, 12] [(94, .bool true), (106, .bool true), (105, undef), (104, undef), (103, undef), (102, undef), (101, undef), (100, .bool true)] (.mk ?_)
         refine yK [(9, pV r1), (13, pV r37), (14, iV 0), (15, .slice p43 (((descs pp.1.E vn).length)) c44), (17, iV 2), (18, pV r195), (94, .bool true)] fun lr210 => ?_
         refine yCt ?_
         refine ySq ?_
         refine yPl [0, 1, 2, 3, 4, 5, 6, 7, 8, 9, 10] ?_
         refine yBb [5, 6, 7, 8, 9, 10] [(111, .agg #[iV ((getR pp.1 vn).out.1), iV ((getR pp.1 vn).out.2.1), uV ((getR pp.1 vn).out.2.2), iV ((getR pp.1 vn).st), iV ((getR pp.1 vn).why), iV ((getR pp.1 vn).tr), iV ((getR pp.1 vn).nx), .string (St ((getR pp.1 vn).tag))]), (110, .agg #[iV ((getR pp.1 vn).out.1), iV ((getR pp.1 vn).out.2.1), uV ((getR pp.1 vn).out.2.2), iV ((getR pp.1 vn).st), iV ((getR pp.1 vn).why), iV ((getR pp.1 vn).tr), iV ((getR pp.1 vn).nx), .string (St ((getR pp.1 vn).tag))]), (109, .bool true), (108, .bool true), (107, iV 2)] [e0 0, e0 1, e0 2, e2 3 [iV ((getR pp.1 vn).out.1), iV ((getR pp.1 vn).out.2.1), uV ((getR pp.1 vn).out.2.2), iV ((getR pp.1 vn).st), iV ((getR pp.1 vn).why), iV ((getR pp.1 vn).tr), iV ((getR pp.1 vn).nx), .string (St ((getR pp.1 vn).tag))], e2 4 [iV ((getR pp.1 vn).out.1), iV ((getR pp.1 vn).out.2.1), uV ((getR pp.1 vn).out.2.2), iV ((getR pp.1 vn).st), iV ((getR pp.1 vn).why), iV ((getR pp.1 vn).tr), iV ((getR pp.1 vn).nx), .string (St ((getR pp.1 vn).tag))]] [(4, ⟨r37, 0, none⟩, iV ((getR pp.1 vn).out.1)), (4, ⟨r37, 1, none⟩, iV ((getR pp.1 vn).out.2.1)), (4, ⟨r37, 2, none⟩, uV ((getR pp.1 vn).out.2.2)), (4, ⟨r37, 3, none⟩, iV ((getR pp.1 vn).st)), (4, ⟨r37, 4, none⟩, iV ((getR pp.1 vn).why)), (4, ⟨r37, 5, none⟩, iV ((getR pp.1 vn).tr)), (4, ⟨r37, 6, none⟩, iV ((getR pp.1 vn).nx)), (4, ⟨r37, 7, none⟩, .string (St ((getR pp.1 vn).tag))), (3, ⟨r195, 0, none⟩, iV ((getR pp.1 vn).out.1)), (3, ⟨r195, 1, none⟩, iV ((getR pp.1 vn).out.2.1)), (3, ⟨r195, 2, none⟩, uV ((getR pp.1 vn).out.2.2)), (3, ⟨r195, 3, none⟩, iV ((getR pp.1 vn).st)), (3, ⟨r195, 4, none⟩, iV ((getR pp.1 vn).why)), (3, ⟨r195, 5, none⟩, iV ((getR pp.1 vn).tr)), (3, ⟨r195, 6, none⟩, iV ((getR pp.1 vn).nx)), (3, ⟨r195, 7, none⟩, .string (St ((getR pp.1 vn).tag)))] [] trivial (kC (sat_cell h208 3 rfl rfl) (kC (sat_cell h208 3 rfl rfl) (kC (sat_cell h208 3 rfl rfl) (kC (sat_cell h208 3 rfl rfl) (kC (sat_cell h208 3 rfl rfl) (kC (sat_cell h208 3 rfl rfl) (kC (sat_cell h208 3 rfl rfl) (kC (sat_cell h208 3 rfl rfl) (kC (sat_cell h208 1 rfl rfl) (kC (sat_cell h208 1 rfl rfl) (kC (sat_cell h208 1 rfl rfl) (kC (sat_cell h208 1 rfl rfl) (kC (sat_cell h208 1 rfl rfl) (kC (sat_cell h208 1 rfl rfl) (kC (sat_cell h208 1 rfl rfl) (kC (sat_cell h208 1 rfl rfl) nC)))))))))))))))) ?_
         refine plain_law (i := 5) 112 (.bool true) (by kernel_rfl) (q27e42_eql_t (o := opA (RA Try.f4 [1, 1, 1, 1, 1, 1, 1, 1, 1, 0, 0, 1, 1, 1, 0, 0]) 5) (x := (Operand.tmp 110)) (y := (Operand.tmp 111)) ((getR pp.1 vn).out.1) ((getR pp.1 vn).out.2.1) ((getR pp.1 vn).out.2.2) ((getR pp.1 vn).st) ((getR pp.1 vn).why) ((getR pp.1 vn).tr) ((getR pp.1 vn).nx) ((getR pp.1 vn).tag) ((getR pp.1 vn).out.1) ((getR pp.1 vn).out.2.1) ((getR pp.1 vn).out.2.2) ((getR pp.1 vn).st) ((getR pp.1 vn).why) ((getR pp.1 vn).tr) ((getR pp.1 vn).nx) ((getR pp.1 vn).tag) (by kernel_rfl) (by kernel_rfl) (by kernel_rfl) ⟨rfl, rfl, rfl, rfl, rfl, rfl, rfl, rfl⟩ _) ?_
         refine yB0 [8, 9, 10] [6, 7] [(114, .bool true), (113, .bool true)] ?_
         refine yA ?_
         refine yCl 115 Try.call18 (works_ht) h208 ?_
         rintro v K w211 (⟨rfl, rfl⟩) h212
         refine ⟨_, rfl, ?_⟩
         have h213 := ap0 h212
         refine yB0 [] [9, 10] [(10, .bool true), (116, .bool true)] (.mk ?_)
         refine yK [(10, .bool true)] fun lr214 => ?_
         refine yRt ?_
         repeat (first | simp only [Exit.inBlock] | simp only [Exit.then])
         have h215 := tk8 (sf7 (sf6 (sf6 (sf6 (sf6 (sf6 (sf7 (sf7 h213))))))))
         have h216 := tk2 (sf1 (sf7 h215))
         refine hi_out [] (.bool true) [] (by kernel_rfl) (by intro q hq; cases hq) ?_
         exact ⟨.bool true, [Old wo], rfl, ⟨rfl, rfl⟩, h216⟩
       ·
        refine yA ?_
        refine yCl 54 Try.call17 ((by have hq_ : setE pp.1 vn ⟨(rx, ry, rz), rs, rw_, rt, rn, L⟩ = 2 := setE_dif (S := pp.1) (v := vn) (r := ⟨(rx, ry, rz), rs, rw_, rt, rn, L⟩) (by omega) (show resE rx ry rz rs rw_ rt rn L = 0 from by omega) (.inl (k3ne (by show ¬ (rx = _ ∧ ry = _ ∧ rz = _); omega))); have h_ := tset_w b23 nn pp.1 vn rx ry rz rs rw_ rt rn L (by omega) (by omega) (by omega); rw [set_bad hq_ (by first | decide | omega), hq_] at h_; exact h_)) h48 ?_
        rintro v K w217 (⟨rfl, rfl⟩) h218
        refine ⟨_, rfl, ?_⟩
        have h219 := ap1 h218
        refine yB0 [] [4] [(17, iV 2)] (.mk ?_)
        refine yK [(3, iV vn), (9, pV r1), (11, pV b23), (13, pV r37), (14, iV 0), (15, .slice p43 (((descs pp.1.E vn).length)) c44), (17, iV 2)] fun lr220 => ?_
        refine ySq ?_
        refine yPl [0, 1, 2, 3, 4, 5, 6, 7, 8] ?_
        refine yB0 [2, 3, 4, 5, 6, 7, 8] [0, 1] [(57, iV vn), (56, pV b23)] ?_
        refine yA ?_
        refine yCl 58 Try.call20 ((by have h_ := tget_w b23 nn pp.1 vn; rw [nE_ok (S := pp.1) (v := vn) (by omega)] at h_; exact h_)) h219 ?_
        rintro v K w221 (⟨rfl, rfl⟩) h222
        refine ⟨_, rfl, ?_⟩
        have h223 := ap1 h222
        refine yB0 [6, 7, 8] [3, 4, 5] [(60, iV 0), (59, .agg #[iV ((getR pp.1 vn).out.1), iV ((getR pp.1 vn).out.2.1), uV ((getR pp.1 vn).out.2.2), iV ((getR pp.1 vn).st), iV ((getR pp.1 vn).why), iV ((getR pp.1 vn).tr), iV ((getR pp.1 vn).nx), .string (St ((getR pp.1 vn).tag))]), (55, .tuple #[.agg #[iV ((getR pp.1 vn).out.1), iV ((getR pp.1 vn).out.2.1), uV ((getR pp.1 vn).out.2.2), iV ((getR pp.1 vn).st), iV ((getR pp.1 vn).why), iV ((getR pp.1 vn).tr), iV ((getR pp.1 vn).nx), .string (St ((getR pp.1 vn).tag))], iV 0])] ?_
        refine yA ?_
        refine yNp 18 42 [iV 0, iV 0, uV 0, iV 0, iV 0, iV 0, iV 0, .string (St [])] h223 fun r224 w225 h226 => ?_
        refine yA ?_
        refine yS [(0, iV ((getR pp.1 vn).out.1)), (1, iV ((getR pp.1 vn).out.2.1)), (2, uV ((getR pp.1 vn).out.2.2)), (3, iV ((getR pp.1 vn).st)), (4, iV ((getR pp.1 vn).why)), (5, iV ((getR pp.1 vn).tr)), (6, iV ((getR pp.1 vn).nx)), (7, .string (St ((getR pp.1 vn).tag)))] [iV ((getR pp.1 vn).out.1), iV ((getR pp.1 vn).out.2.1), uV ((getR pp.1 vn).out.2.2), iV ((getR pp.1 vn).st), iV ((getR pp.1 vn).why), iV ((getR pp.1 vn).tr), iV ((getR pp.1 vn).nx), .string (St ((getR pp.1 vn).tag))] h226 fun w227 h228 => ?_
        refine yB0 [] [8] [(19, iV 0)] (.mk ?_)
        refine yK [(3, iV vn), (9, pV r1), (11, pV b23), (13, pV r37), (14, iV 0), (15, .slice p43 (((descs pp.1.E vn).length)) c44), (17, iV 2), (18, pV r224)] fun lr229 => ?_
        refine ySq ?_
        refine ySq ?_
        refine yPl [0, 1, 2, 3, 4, 5, 6, 7] ?_
        refine yBb [5, 6, 7] [(65, pV b23), (64, iV vn), (63, .bool false), (62, .bool false), (61, iV vn)] [e0 0, e1 1 (.bool false), e0 2, e0 3, e0 4] [] [(.bool (decide (vn < 1)), .bool false)] ⟨(ov_f (by omega)), trivial⟩ nC ?_
        have h230 := tk8 (sf7 (sf6 (sf7 (sf7 (sf7 (sf7 (sf7 (sf7 h228))))))))
        refine yA ?_
        refine yCl 66 Try.call22 (tlen_w b23 nn pp.1) h230 ?_
        rintro v K w231 (⟨rfl, rfl⟩) h232
        refine ⟨_, rfl, ?_⟩
        have h233 := ap1 h232
        refine yBb [] [(68, .bool false), (67, .bool false)] [e1 6 (.bool false), e0 7] [] [(.bool (decide (vn > ((pp.1.R.length : Nat) : Int))), .bool false)] ⟨(ov_f (by omega)), trivial⟩ nC (.mk ?_)
        refine yK [(9, pV r1), (13, pV r37), (14, iV 0), (15, .slice p43 (((descs pp.1.E vn).length)) c44), (17, iV 2), (18, pV r224), (68, .bool false)] fun lr234 => ?_
        refine yCf ?_
        refine ySk ?_
        refine ySq ?_
        refine yBk 0 ?_
        refine ySq ?_
        refine yPl [0, 1, 2, 3] ?_
        refine yBb [1, 2, 3] [(79, .agg #[iV rx, iV ry, uV rz, iV rs, iV rw_, iV rt, iV rn, .string (St L)])] [e2 0 [iV rx, iV ry, uV rz, iV rs, iV rw_, iV rt, iV rn, .string (St L)]] [(0, ⟨r1, 0, none⟩, iV rx), (0, ⟨r1, 1, none⟩, iV ry), (0, ⟨r1, 2, none⟩, uV rz), (0, ⟨r1, 3, none⟩, iV rs), (0, ⟨r1, 4, none⟩, iV rw_), (0, ⟨r1, 5, none⟩, iV rt), (0, ⟨r1, 6, none⟩, iV rn), (0, ⟨r1, 7, none⟩, .string (St L))] [] trivial (kC (sat_cell h233 6 rfl rfl) (kC (sat_cell h233 6 rfl rfl) (kC (sat_cell h233 6 rfl rfl) (kC (sat_cell h233 6 rfl rfl) (kC (sat_cell h233 6 rfl rfl) (kC (sat_cell h233 6 rfl rfl) (kC (sat_cell h233 6 rfl rfl) (kC (sat_cell h233 6 rfl rfl) nC)))))))) ?_
        refine yA ?_
        refine yCl 80 Try.call23 (rchk_ht rx ry rz rs rw_ rt rn L (by omega) (by omega) (by omega)) h233 ?_
        rintro v K w235 (⟨rfl, rfl⟩) h236
        refine ⟨_, rfl, ?_⟩
        have h237 := ap0 h236
        refine yBb [] [(78, .bool false), (81, .bool false)] [e1 2 (.bool false), e0 3] [] [(.bool (((resE rx ry rz rs rw_ rt rn L)) != 0), .bool false)] ⟨(ov_nf (by omega)), trivial⟩ nC (.mk ?_)
        refine yK [(9, pV r1), (13, pV r37), (14, iV 0), (15, .slice p43 (((descs pp.1.E vn).length)) c44), (17, iV 2), (18, pV r224), (78, .bool false)] fun lr238 => ?_
        refine yCf ?_
        refine ySq ?_
        refine yPl [0, 1, 2, 3, 4, 5, 6, 7, 8, 9, 10, 11, 12] ?_
        refine yBb [4, 5, 6, 7, 8, 9, 10, 11, 12] [(98, .agg #[iV ((getR pp.1 vn).out.1), iV ((getR pp.1 vn).out.2.1), uV ((getR pp.1 vn).out.2.2)]), (97, pV r37), (96, .agg #[iV rx, iV ry, uV rz]), (95, pV r1)] [e0 0, e2 1 [iV rx, iV ry, uV rz], e0 2, e2 3 [iV ((getR pp.1 vn).out.1), iV ((getR pp.1 vn).out.2.1), uV ((getR pp.1 vn).out.2.2)]] [(3, ⟨r37, 0, none⟩, iV ((getR pp.1 vn).out.1)), (3, ⟨r37, 1, none⟩, iV ((getR pp.1 vn).out.2.1)), (3, ⟨r37, 2, none⟩, uV ((getR pp.1 vn).out.2.2)), (1, ⟨r1, 0, none⟩, iV rx), (1, ⟨r1, 1, none⟩, iV ry), (1, ⟨r1, 2, none⟩, uV rz)] [] trivial (kC (sat_cell h237 3 rfl rfl) (kC (sat_cell h237 3 rfl rfl) (kC (sat_cell h237 3 rfl rfl) (kC (sat_cell h237 6 rfl rfl) (kC (sat_cell h237 6 rfl rfl) (kC (sat_cell h237 6 rfl rfl) nC)))))) ?_
        refine plain_law (i := 4) 99 (.bool true) (by kernel_rfl) (q27e32_neq_f (o := opA (RA Try.f4 [1, 1, 1, 1, 1, 1, 1, 1, 1, 0, 0, 1, 1, 0]) 4) (x := (Operand.tmp 96)) (y := (Operand.tmp 98)) rx ry rz ((getR pp.1 vn).out.1) ((getR pp.1 vn).out.2.1) ((getR pp.1 vn).out.2.2) (by kernel_rfl) (by kernel_rfl) (by kernel_rfl) (by omega) _) ?_
        refine yB0 [] [5, 6, 7, 8, 9, 10, 11, 12] [(94, .bool true), (106, .bool true), (105, undef), (104, undef), (103, undef), (102, undef), (101, undef), (100, .bool true)] (.mk ?_)
        refine yK [(9, pV r1), (13, pV r37), (14, iV 0), (15, .slice p43 (((descs pp.1.E vn).length)) c44), (17, iV 2), (18, pV r224), (94, .bool true)] fun lr239 => ?_
        refine yCt ?_
        refine ySq ?_
        refine yPl [0, 1, 2, 3, 4, 5, 6, 7, 8, 9, 10] ?_
        refine yBb [5, 6, 7, 8, 9, 10] [(111, .agg #[iV ((getR pp.1 vn).out.1), iV ((getR pp.1 vn).out.2.1), uV ((getR pp.1 vn).out.2.2), iV ((getR pp.1 vn).st), iV ((getR pp.1 vn).why), iV ((getR pp.1 vn).tr), iV ((getR pp.1 vn).nx), .string (St ((getR pp.1 vn).tag))]), (110, .agg #[iV ((getR pp.1 vn).out.1), iV ((getR pp.1 vn).out.2.1), uV ((getR pp.1 vn).out.2.2), iV ((getR pp.1 vn).st), iV ((getR pp.1 vn).why), iV ((getR pp.1 vn).tr), iV ((getR pp.1 vn).nx), .string (St ((getR pp.1 vn).tag))]), (109, .bool true), (108, .bool true), (107, iV 2)] [e0 0, e0 1, e0 2, e2 3 [iV ((getR pp.1 vn).out.1), iV ((getR pp.1 vn).out.2.1), uV ((getR pp.1 vn).out.2.2), iV ((getR pp.1 vn).st), iV ((getR pp.1 vn).why), iV ((getR pp.1 vn).tr), iV ((getR pp.1 vn).nx), .string (St ((getR pp.1 vn).tag))], e2 4 [iV ((getR pp.1 vn).out.1), iV ((getR pp.1 vn).out.2.1), uV ((getR pp.1 vn).out.2.2), iV ((getR pp.1 vn).st), iV ((getR pp.1 vn).why), iV ((getR pp.1 vn).tr), iV ((getR pp.1 vn).nx), .string (St ((getR pp.1 vn).tag))]] [(4, ⟨r37, 0, none⟩, iV ((getR pp.1 vn).out.1)), (4, ⟨r37, 1, none⟩, iV ((getR pp.1 vn).out.2.1)), (4, ⟨r37, 2, none⟩, uV ((getR pp.1 vn).out.2.2)), (4, ⟨r37, 3, none⟩, iV ((getR pp.1 vn).st)), (4, ⟨r37, 4, none⟩, iV ((getR pp.1 vn).why)), (4, ⟨r37, 5, none⟩, iV ((getR pp.1 vn).tr)), (4, ⟨r37, 6, none⟩, iV ((getR pp.1 vn).nx)), (4, ⟨r37, 7, none⟩, .string (St ((getR pp.1 vn).tag))), (3, ⟨r224, 0, none⟩, iV ((getR pp.1 vn).out.1)), (3, ⟨r224, 1, none⟩, iV ((getR pp.1 vn).out.2.1)), (3, ⟨r224, 2, none⟩, uV ((getR pp.1 vn).out.2.2)), (3, ⟨r224, 3, none⟩, iV ((getR pp.1 vn).st)), (3, ⟨r224, 4, none⟩, iV ((getR pp.1 vn).why)), (3, ⟨r224, 5, none⟩, iV ((getR pp.1 vn).tr)), (3, ⟨r224, 6, none⟩, iV ((getR pp.1 vn).nx)), (3, ⟨r224, 7, none⟩, .string (St ((getR pp.1 vn).tag)))] [] trivial (kC (sat_cell h237 3 rfl rfl) (kC (sat_cell h237 3 rfl rfl) (kC (sat_cell h237 3 rfl rfl) (kC (sat_cell h237 3 rfl rfl) (kC (sat_cell h237 3 rfl rfl) (kC (sat_cell h237 3 rfl rfl) (kC (sat_cell h237 3 rfl rfl) (kC (sat_cell h237 3 rfl rfl) (kC (sat_cell h237 1 rfl rfl) (kC (sat_cell h237 1 rfl rfl) (kC (sat_cell h237 1 rfl rfl) (kC (sat_cell h237 1 rfl rfl) (kC (sat_cell h237 1 rfl rfl) (kC (sat_cell h237 1 rfl rfl) (kC (sat_cell h237 1 rfl rfl) (kC (sat_cell h237 1 rfl rfl) nC)))))))))))))))) ?_
        refine plain_law (i := 5) 112 (.bool true) (by kernel_rfl) (q27e42_eql_t (o := opA (RA Try.f4 [1, 1, 1, 1, 1, 1, 1, 1, 1, 0, 0, 1, 1, 1, 0, 0]) 5) (x := (Operand.tmp 110)) (y := (Operand.tmp 111)) ((getR pp.1 vn).out.1) ((getR pp.1 vn).out.2.1) ((getR pp.1 vn).out.2.2) ((getR pp.1 vn).st) ((getR pp.1 vn).why) ((getR pp.1 vn).tr) ((getR pp.1 vn).nx) ((getR pp.1 vn).tag) ((getR pp.1 vn).out.1) ((getR pp.1 vn).out.2.1) ((getR pp.1 vn).out.2.2) ((getR pp.1 vn).st) ((getR pp.1 vn).why) ((getR pp.1 vn).tr) ((getR pp.1 vn).nx) ((getR pp.1 vn).tag) (by kernel_rfl) (by kernel_rfl) (by kernel_rfl) ⟨rfl, rfl, rfl, rfl, rfl, rfl, rfl, rfl⟩ _) ?_
        refine yB0 [8, 9, 10] [6, 7] [(114, .bool true), (113, .bool true)] ?_
        refine yA ?_
        refine yCl 115 Try.call18 (works_ht) h237 ?_
        rintro v K w240 (⟨rfl, rfl⟩) h241
        refine ⟨_, rfl, ?_⟩
        have h242 := ap0 h241
        refine yB0 [] [9, 10] [(10, .bool true), (116, .bool true)] (.mk ?_)
        refine yK [(10, .bool true)] fun lr243 => ?_
        refine yRt ?_
        repeat (first | simp only [Exit.inBlock] | simp only [Exit.then])
        have h244 := tk8 (sf7 (sf6 (sf6 (sf6 (sf6 (sf6 (sf7 (sf7 h242))))))))
        have h245 := tk2 (sf1 (sf7 h244))
        refine hi_out [] (.bool true) [] (by kernel_rfl) (by intro q hq; cases hq) ?_
        exact ⟨.bool true, [Old wo], rfl, ⟨rfl, rfl⟩, h245⟩
      ·
       refine yA ?_
       refine yCl 54 Try.call17 ((by have hq_ : setE pp.1 vn ⟨(rx, ry, rz), rs, rw_, rt, rn, L⟩ = 2 := setE_dif (S := pp.1) (v := vn) (r := ⟨(rx, ry, rz), rs, rw_, rt, rn, L⟩) (by omega) (show resE rx ry rz rs rw_ rt rn L = 0 from by omega) (.inl (k3ne (by show ¬ (rx = _ ∧ ry = _ ∧ rz = _); omega))); have h_ := tset_w b23 nn pp.1 vn rx ry rz rs rw_ rt rn L (by omega) (by omega) (by omega); rw [set_bad hq_ (by first | decide | omega), hq_] at h_; exact h_)) h48 ?_
       rintro v K w246 (⟨rfl, rfl⟩) h247
       refine ⟨_, rfl, ?_⟩
       have h248 := ap1 h247
       refine yB0 [] [4] [(17, iV 2)] (.mk ?_)
       refine yK [(3, iV vn), (9, pV r1), (11, pV b23), (13, pV r37), (14, iV 0), (15, .slice p43 (((descs pp.1.E vn).length)) c44), (17, iV 2)] fun lr249 => ?_
       refine ySq ?_
       refine yPl [0, 1, 2, 3, 4, 5, 6, 7, 8] ?_
       refine yB0 [2, 3, 4, 5, 6, 7, 8] [0, 1] [(57, iV vn), (56, pV b23)] ?_
       refine yA ?_
       refine yCl 58 Try.call20 ((by have h_ := tget_w b23 nn pp.1 vn; rw [nE_ok (S := pp.1) (v := vn) (by omega)] at h_; exact h_)) h248 ?_
       rintro v K w250 (⟨rfl, rfl⟩) h251
       refine ⟨_, rfl, ?_⟩
       have h252 := ap1 h251
       refine yB0 [6, 7, 8] [3, 4, 5] [(60, iV 0), (59, .agg #[iV ((getR pp.1 vn).out.1), iV ((getR pp.1 vn).out.2.1), uV ((getR pp.1 vn).out.2.2), iV ((getR pp.1 vn).st), iV ((getR pp.1 vn).why), iV ((getR pp.1 vn).tr), iV ((getR pp.1 vn).nx), .string (St ((getR pp.1 vn).tag))]), (55, .tuple #[.agg #[iV ((getR pp.1 vn).out.1), iV ((getR pp.1 vn).out.2.1), uV ((getR pp.1 vn).out.2.2), iV ((getR pp.1 vn).st), iV ((getR pp.1 vn).why), iV ((getR pp.1 vn).tr), iV ((getR pp.1 vn).nx), .string (St ((getR pp.1 vn).tag))], iV 0])] ?_
       refine yA ?_
       refine yNp 18 42 [iV 0, iV 0, uV 0, iV 0, iV 0, iV 0, iV 0, .string (St [])] h252 fun r253 w254 h255 => ?_
       refine yA ?_
       refine yS [(0, iV ((getR pp.1 vn).out.1)), (1, iV ((getR pp.1 vn).out.2.1)), (2, uV ((getR pp.1 vn).out.2.2)), (3, iV ((getR pp.1 vn).st)), (4, iV ((getR pp.1 vn).why)), (5, iV ((getR pp.1 vn).tr)), (6, iV ((getR pp.1 vn).nx)), (7, .string (St ((getR pp.1 vn).tag)))] [iV ((getR pp.1 vn).out.1), iV ((getR pp.1 vn).out.2.1), uV ((getR pp.1 vn).out.2.2), iV ((getR pp.1 vn).st), iV ((getR pp.1 vn).why), iV ((getR pp.1 vn).tr), iV ((getR pp.1 vn).nx), .string (St ((getR pp.1 vn).tag))] h255 fun w256 h257 => ?_
       refine yB0 [] [8] [(19, iV 0)] (.mk ?_)
       refine yK [(3, iV vn), (9, pV r1), (11, pV b23), (13, pV r37), (14, iV 0), (15, .slice p43 (((descs pp.1.E vn).length)) c44), (17, iV 2), (18, pV r253)] fun lr258 => ?_
       refine ySq ?_
       refine ySq ?_
       refine yPl [0, 1, 2, 3, 4, 5, 6, 7] ?_
       refine yBb [5, 6, 7] [(65, pV b23), (64, iV vn), (63, .bool false), (62, .bool false), (61, iV vn)] [e0 0, e1 1 (.bool false), e0 2, e0 3, e0 4] [] [(.bool (decide (vn < 1)), .bool false)] ⟨(ov_f (by omega)), trivial⟩ nC ?_
       have h259 := tk8 (sf7 (sf6 (sf7 (sf7 (sf7 (sf7 (sf7 (sf7 h257))))))))
       refine yA ?_
       refine yCl 66 Try.call22 (tlen_w b23 nn pp.1) h259 ?_
       rintro v K w260 (⟨rfl, rfl⟩) h261
       refine ⟨_, rfl, ?_⟩
       have h262 := ap1 h261
       refine yBb [] [(68, .bool false), (67, .bool false)] [e1 6 (.bool false), e0 7] [] [(.bool (decide (vn > ((pp.1.R.length : Nat) : Int))), .bool false)] ⟨(ov_f (by omega)), trivial⟩ nC (.mk ?_)
       refine yK [(9, pV r1), (13, pV r37), (14, iV 0), (15, .slice p43 (((descs pp.1.E vn).length)) c44), (17, iV 2), (18, pV r253), (68, .bool false)] fun lr263 => ?_
       refine yCf ?_
       refine ySk ?_
       refine ySq ?_
       refine yBk 0 ?_
       refine ySq ?_
       refine yPl [0, 1, 2, 3] ?_
       refine yBb [1, 2, 3] [(79, .agg #[iV rx, iV ry, uV rz, iV rs, iV rw_, iV rt, iV rn, .string (St L)])] [e2 0 [iV rx, iV ry, uV rz, iV rs, iV rw_, iV rt, iV rn, .string (St L)]] [(0, ⟨r1, 0, none⟩, iV rx), (0, ⟨r1, 1, none⟩, iV ry), (0, ⟨r1, 2, none⟩, uV rz), (0, ⟨r1, 3, none⟩, iV rs), (0, ⟨r1, 4, none⟩, iV rw_), (0, ⟨r1, 5, none⟩, iV rt), (0, ⟨r1, 6, none⟩, iV rn), (0, ⟨r1, 7, none⟩, .string (St L))] [] trivial (kC (sat_cell h262 6 rfl rfl) (kC (sat_cell h262 6 rfl rfl) (kC (sat_cell h262 6 rfl rfl) (kC (sat_cell h262 6 rfl rfl) (kC (sat_cell h262 6 rfl rfl) (kC (sat_cell h262 6 rfl rfl) (kC (sat_cell h262 6 rfl rfl) (kC (sat_cell h262 6 rfl rfl) nC)))))))) ?_
       refine yA ?_
       refine yCl 80 Try.call23 (rchk_ht rx ry rz rs rw_ rt rn L (by omega) (by omega) (by omega)) h262 ?_
       rintro v K w264 (⟨rfl, rfl⟩) h265
       refine ⟨_, rfl, ?_⟩
       have h266 := ap0 h265
       refine yBb [] [(78, .bool false), (81, .bool false)] [e1 2 (.bool false), e0 3] [] [(.bool (((resE rx ry rz rs rw_ rt rn L)) != 0), .bool false)] ⟨(ov_nf (by omega)), trivial⟩ nC (.mk ?_)
       refine yK [(9, pV r1), (13, pV r37), (14, iV 0), (15, .slice p43 (((descs pp.1.E vn).length)) c44), (17, iV 2), (18, pV r253), (78, .bool false)] fun lr267 => ?_
       refine yCf ?_
       refine ySq ?_
       refine yPl [0, 1, 2, 3, 4, 5, 6, 7, 8, 9, 10, 11, 12] ?_
       refine yBb [4, 5, 6, 7, 8, 9, 10, 11, 12] [(98, .agg #[iV ((getR pp.1 vn).out.1), iV ((getR pp.1 vn).out.2.1), uV ((getR pp.1 vn).out.2.2)]), (97, pV r37), (96, .agg #[iV rx, iV ry, uV rz]), (95, pV r1)] [e0 0, e2 1 [iV rx, iV ry, uV rz], e0 2, e2 3 [iV ((getR pp.1 vn).out.1), iV ((getR pp.1 vn).out.2.1), uV ((getR pp.1 vn).out.2.2)]] [(3, ⟨r37, 0, none⟩, iV ((getR pp.1 vn).out.1)), (3, ⟨r37, 1, none⟩, iV ((getR pp.1 vn).out.2.1)), (3, ⟨r37, 2, none⟩, uV ((getR pp.1 vn).out.2.2)), (1, ⟨r1, 0, none⟩, iV rx), (1, ⟨r1, 1, none⟩, iV ry), (1, ⟨r1, 2, none⟩, uV rz)] [] trivial (kC (sat_cell h266 3 rfl rfl) (kC (sat_cell h266 3 rfl rfl) (kC (sat_cell h266 3 rfl rfl) (kC (sat_cell h266 6 rfl rfl) (kC (sat_cell h266 6 rfl rfl) (kC (sat_cell h266 6 rfl rfl) nC)))))) ?_
       refine plain_law (i := 4) 99 (.bool true) (by kernel_rfl) (q27e32_neq_f (o := opA (RA Try.f4 [1, 1, 1, 1, 1, 1, 1, 1, 1, 0, 0, 1, 1, 0]) 4) (x := (Operand.tmp 96)) (y := (Operand.tmp 98)) rx ry rz ((getR pp.1 vn).out.1) ((getR pp.1 vn).out.2.1) ((getR pp.1 vn).out.2.2) (by kernel_rfl) (by kernel_rfl) (by kernel_rfl) (by omega) _) ?_
       refine yB0 [] [5, 6, 7, 8, 9, 10, 11, 12] [(94, .bool true), (106, .bool true), (105, undef), (104, undef), (103, undef), (102, undef), (101, undef), (100, .bool true)] (.mk ?_)
       refine yK [(9, pV r1), (13, pV r37), (14, iV 0), (15, .slice p43 (((descs pp.1.E vn).length)) c44), (17, iV 2), (18, pV r253), (94, .bool true)] fun lr268 => ?_
       refine yCt ?_
       refine ySq ?_
       refine yPl [0, 1, 2, 3, 4, 5, 6, 7, 8, 9, 10] ?_
       refine yBb [5, 6, 7, 8, 9, 10] [(111, .agg #[iV ((getR pp.1 vn).out.1), iV ((getR pp.1 vn).out.2.1), uV ((getR pp.1 vn).out.2.2), iV ((getR pp.1 vn).st), iV ((getR pp.1 vn).why), iV ((getR pp.1 vn).tr), iV ((getR pp.1 vn).nx), .string (St ((getR pp.1 vn).tag))]), (110, .agg #[iV ((getR pp.1 vn).out.1), iV ((getR pp.1 vn).out.2.1), uV ((getR pp.1 vn).out.2.2), iV ((getR pp.1 vn).st), iV ((getR pp.1 vn).why), iV ((getR pp.1 vn).tr), iV ((getR pp.1 vn).nx), .string (St ((getR pp.1 vn).tag))]), (109, .bool true), (108, .bool true), (107, iV 2)] [e0 0, e0 1, e0 2, e2 3 [iV ((getR pp.1 vn).out.1), iV ((getR pp.1 vn).out.2.1), uV ((getR pp.1 vn).out.2.2), iV ((getR pp.1 vn).st), iV ((getR pp.1 vn).why), iV ((getR pp.1 vn).tr), iV ((getR pp.1 vn).nx), .string (St ((getR pp.1 vn).tag))], e2 4 [iV ((getR pp.1 vn).out.1), iV ((getR pp.1 vn).out.2.1), uV ((getR pp.1 vn).out.2.2), iV ((getR pp.1 vn).st), iV ((getR pp.1 vn).why), iV ((getR pp.1 vn).tr), iV ((getR pp.1 vn).nx), .string (St ((getR pp.1 vn).tag))]] [(4, ⟨r37, 0, none⟩, iV ((getR pp.1 vn).out.1)), (4, ⟨r37, 1, none⟩, iV ((getR pp.1 vn).out.2.1)), (4, ⟨r37, 2, none⟩, uV ((getR pp.1 vn).out.2.2)), (4, ⟨r37, 3, none⟩, iV ((getR pp.1 vn).st)), (4, ⟨r37, 4, none⟩, iV ((getR pp.1 vn).why)), (4, ⟨r37, 5, none⟩, iV ((getR pp.1 vn).tr)), (4, ⟨r37, 6, none⟩, iV ((getR pp.1 vn).nx)), (4, ⟨r37, 7, none⟩, .string (St ((getR pp.1 vn).tag))), (3, ⟨r253, 0, none⟩, iV ((getR pp.1 vn).out.1)), (3, ⟨r253, 1, none⟩, iV ((getR pp.1 vn).out.2.1)), (3, ⟨r253, 2, none⟩, uV ((getR pp.1 vn).out.2.2)), (3, ⟨r253, 3, none⟩, iV ((getR pp.1 vn).st)), (3, ⟨r253, 4, none⟩, iV ((getR pp.1 vn).why)), (3, ⟨r253, 5, none⟩, iV ((getR pp.1 vn).tr)), (3, ⟨r253, 6, none⟩, iV ((getR pp.1 vn).nx)), (3, ⟨r253, 7, none⟩, .string (St ((getR pp.1 vn).tag)))] [] trivial (kC (sat_cell h266 3 rfl rfl) (kC (sat_cell h266 3 rfl rfl) (kC (sat_cell h266 3 rfl rfl) (kC (sat_cell h266 3 rfl rfl) (kC (sat_cell h266 3 rfl rfl) (kC (sat_cell h266 3 rfl rfl) (kC (sat_cell h266 3 rfl rfl) (kC (sat_cell h266 3 rfl rfl) (kC (sat_cell h266 1 rfl rfl) (kC (sat_cell h266 1 rfl rfl) (kC (sat_cell h266 1 rfl rfl) (kC (sat_cell h266 1 rfl rfl) (kC (sat_cell h266 1 rfl rfl) (kC (sat_cell h266 1 rfl rfl) (kC (sat_cell h266 1 rfl rfl) (kC (sat_cell h266 1 rfl rfl) nC)))))))))))))))) ?_
       refine plain_law (i := 5) 112 (.bool true) (by kernel_rfl) (q27e42_eql_t (o := opA (RA Try.f4 [1, 1, 1, 1, 1, 1, 1, 1, 1, 0, 0, 1, 1, 1, 0, 0]) 5) (x := (Operand.tmp 110)) (y := (Operand.tmp 111)) ((getR pp.1 vn).out.1) ((getR pp.1 vn).out.2.1) ((getR pp.1 vn).out.2.2) ((getR pp.1 vn).st) ((getR pp.1 vn).why) ((getR pp.1 vn).tr) ((getR pp.1 vn).nx) ((getR pp.1 vn).tag) ((getR pp.1 vn).out.1) ((getR pp.1 vn).out.2.1) ((getR pp.1 vn).out.2.2) ((getR pp.1 vn).st) ((getR pp.1 vn).why) ((getR pp.1 vn).tr) ((getR pp.1 vn).nx) ((getR pp.1 vn).tag) (by kernel_rfl) (by kernel_rfl) (by kernel_rfl) ⟨rfl, rfl, rfl, rfl, rfl, rfl, rfl, rfl⟩ _) ?_
       refine yB0 [8, 9, 10] [6, 7] [(114, .bool true), (113, .bool true)] ?_
       refine yA ?_
       refine yCl 115 Try.call18 (works_ht) h266 ?_
       rintro v K w269 (⟨rfl, rfl⟩) h270
       refine ⟨_, rfl, ?_⟩
       have h271 := ap0 h270
       refine yB0 [] [9, 10] [(10, .bool true), (116, .bool true)] (.mk ?_)
       refine yK [(10, .bool true)] fun lr272 => ?_
       refine yRt ?_
       repeat (first | simp only [Exit.inBlock] | simp only [Exit.then])
       have h273 := tk8 (sf7 (sf6 (sf6 (sf6 (sf6 (sf6 (sf7 (sf7 h271))))))))
       have h274 := tk2 (sf1 (sf7 h273))
       refine hi_out [] (.bool true) [] (by kernel_rfl) (by intro q hq; cases hq) ?_
       exact ⟨.bool true, [Old wo], rfl, ⟨rfl, rfl⟩, h274⟩
     ·
      refine yA ?_
      refine yCl 54 Try.call17 ((by have hq_ : setE pp.1 vn ⟨(rx, ry, rz), rs, rw_, rt, rn, L⟩ = (resE rx ry rz rs rw_ rt rn L) := setE_res (S := pp.1) (v := vn) (r := ⟨(rx, ry, rz), rs, rw_, rt, rn, L⟩) (by omega) (show resE rx ry rz rs rw_ rt rn L ≠ 0 from by omega); have h_ := tset_w b23 nn pp.1 vn rx ry rz rs rw_ rt rn L (by omega) (by omega) (by omega); rw [set_bad hq_ (by first | decide | omega), hq_] at h_; exact h_)) h48 ?_
      rintro v K w275 (⟨rfl, rfl⟩) h276
      refine ⟨_, rfl, ?_⟩
      have h277 := ap1 h276
      refine yB0 [] [4] [(17, iV ((resE rx ry rz rs rw_ rt rn L)))] (.mk ?_)
      refine yK [(3, iV vn), (9, pV r1), (11, pV b23), (13, pV r37), (14, iV 0), (15, .slice p43 (((descs pp.1.E vn).length)) c44), (17, iV ((resE rx ry rz rs rw_ rt rn L)))] fun lr278 => ?_
      refine ySq ?_
      refine yPl [0, 1, 2, 3, 4, 5, 6, 7, 8] ?_
      refine yB0 [2, 3, 4, 5, 6, 7, 8] [0, 1] [(57, iV vn), (56, pV b23)] ?_
      refine yA ?_
      refine yCl 58 Try.call20 ((by have h_ := tget_w b23 nn pp.1 vn; rw [nE_ok (S := pp.1) (v := vn) (by omega)] at h_; exact h_)) h277 ?_
      rintro v K w279 (⟨rfl, rfl⟩) h280
      refine ⟨_, rfl, ?_⟩
      have h281 := ap1 h280
      refine yB0 [6, 7, 8] [3, 4, 5] [(60, iV 0), (59, .agg #[iV ((getR pp.1 vn).out.1), iV ((getR pp.1 vn).out.2.1), uV ((getR pp.1 vn).out.2.2), iV ((getR pp.1 vn).st), iV ((getR pp.1 vn).why), iV ((getR pp.1 vn).tr), iV ((getR pp.1 vn).nx), .string (St ((getR pp.1 vn).tag))]), (55, .tuple #[.agg #[iV ((getR pp.1 vn).out.1), iV ((getR pp.1 vn).out.2.1), uV ((getR pp.1 vn).out.2.2), iV ((getR pp.1 vn).st), iV ((getR pp.1 vn).why), iV ((getR pp.1 vn).tr), iV ((getR pp.1 vn).nx), .string (St ((getR pp.1 vn).tag))], iV 0])] ?_
      refine yA ?_
      refine yNp 18 42 [iV 0, iV 0, uV 0, iV 0, iV 0, iV 0, iV 0, .string (St [])] h281 fun r282 w283 h284 => ?_
      refine yA ?_
      refine yS [(0, iV ((getR pp.1 vn).out.1)), (1, iV ((getR pp.1 vn).out.2.1)), (2, uV ((getR pp.1 vn).out.2.2)), (3, iV ((getR pp.1 vn).st)), (4, iV ((getR pp.1 vn).why)), (5, iV ((getR pp.1 vn).tr)), (6, iV ((getR pp.1 vn).nx)), (7, .string (St ((getR pp.1 vn).tag)))] [iV ((getR pp.1 vn).out.1), iV ((getR pp.1 vn).out.2.1), uV ((getR pp.1 vn).out.2.2), iV ((getR pp.1 vn).st), iV ((getR pp.1 vn).why), iV ((getR pp.1 vn).tr), iV ((getR pp.1 vn).nx), .string (St ((getR pp.1 vn).tag))] h284 fun w285 h286 => ?_
      refine yB0 [] [8] [(19, iV 0)] (.mk ?_)
      refine yK [(3, iV vn), (9, pV r1), (11, pV b23), (13, pV r37), (14, iV 0), (15, .slice p43 (((descs pp.1.E vn).length)) c44), (17, iV ((resE rx ry rz rs rw_ rt rn L))), (18, pV r282)] fun lr287 => ?_
      refine ySq ?_
      refine ySq ?_
      refine yPl [0, 1, 2, 3, 4, 5, 6, 7] ?_
      refine yBb [5, 6, 7] [(65, pV b23), (64, iV vn), (63, .bool false), (62, .bool false), (61, iV vn)] [e0 0, e1 1 (.bool false), e0 2, e0 3, e0 4] [] [(.bool (decide (vn < 1)), .bool false)] ⟨(ov_f (by omega)), trivial⟩ nC ?_
      have h288 := tk8 (sf7 (sf6 (sf7 (sf7 (sf7 (sf7 (sf7 (sf7 h286))))))))
      refine yA ?_
      refine yCl 66 Try.call22 (tlen_w b23 nn pp.1) h288 ?_
      rintro v K w289 (⟨rfl, rfl⟩) h290
      refine ⟨_, rfl, ?_⟩
      have h291 := ap1 h290
      refine yBb [] [(68, .bool false), (67, .bool false)] [e1 6 (.bool false), e0 7] [] [(.bool (decide (vn > ((pp.1.R.length : Nat) : Int))), .bool false)] ⟨(ov_f (by omega)), trivial⟩ nC (.mk ?_)
      refine yK [(9, pV r1), (13, pV r37), (14, iV 0), (15, .slice p43 (((descs pp.1.E vn).length)) c44), (17, iV ((resE rx ry rz rs rw_ rt rn L))), (18, pV r282), (68, .bool false)] fun lr292 => ?_
      refine yCf ?_
      refine ySk ?_
      refine ySq ?_
      refine yBk 0 ?_
      refine ySq ?_
      refine yPl [0, 1, 2, 3] ?_
      refine yBb [1, 2, 3] [(79, .agg #[iV rx, iV ry, uV rz, iV rs, iV rw_, iV rt, iV rn, .string (St L)])] [e2 0 [iV rx, iV ry, uV rz, iV rs, iV rw_, iV rt, iV rn, .string (St L)]] [(0, ⟨r1, 0, none⟩, iV rx), (0, ⟨r1, 1, none⟩, iV ry), (0, ⟨r1, 2, none⟩, uV rz), (0, ⟨r1, 3, none⟩, iV rs), (0, ⟨r1, 4, none⟩, iV rw_), (0, ⟨r1, 5, none⟩, iV rt), (0, ⟨r1, 6, none⟩, iV rn), (0, ⟨r1, 7, none⟩, .string (St L))] [] trivial (kC (sat_cell h291 6 rfl rfl) (kC (sat_cell h291 6 rfl rfl) (kC (sat_cell h291 6 rfl rfl) (kC (sat_cell h291 6 rfl rfl) (kC (sat_cell h291 6 rfl rfl) (kC (sat_cell h291 6 rfl rfl) (kC (sat_cell h291 6 rfl rfl) (kC (sat_cell h291 6 rfl rfl) nC)))))))) ?_
      refine yA ?_
      refine yCl 80 Try.call23 (rchk_ht rx ry rz rs rw_ rt rn L (by omega) (by omega) (by omega)) h291 ?_
      rintro v K w293 (⟨rfl, rfl⟩) h294
      refine ⟨_, rfl, ?_⟩
      have h295 := ap0 h294
      refine yBb [] [(78, .bool true), (81, .bool true)] [e1 2 (.bool true), e0 3] [] [(.bool (((resE rx ry rz rs rw_ rt rn L)) != 0), .bool true)] ⟨(ov_nt (by omega)), trivial⟩ nC (.mk ?_)
      refine yK [(9, pV r1), (13, pV r37), (14, iV 0), (15, .slice p43 (((descs pp.1.E vn).length)) c44), (17, iV ((resE rx ry rz rs rw_ rt rn L))), (18, pV r282), (78, .bool true)] fun lr296 => ?_
      refine yCt ?_
      refine ySq ?_
      refine yPl [0, 1, 2, 3, 4, 5, 6, 7, 8, 9, 10, 11, 12] ?_
      refine yBb [2, 3, 4, 5, 6, 7, 8, 9, 10, 11, 12] [(83, .agg #[iV rx, iV ry, uV rz, iV rs, iV rw_, iV rt, iV rn, .string (St L)]), (82, iV ((resE rx ry rz rs rw_ rt rn L)))] [e0 0, e2 1 [iV rx, iV ry, uV rz, iV rs, iV rw_, iV rt, iV rn, .string (St L)]] [(1, ⟨r1, 0, none⟩, iV rx), (1, ⟨r1, 1, none⟩, iV ry), (1, ⟨r1, 2, none⟩, uV rz), (1, ⟨r1, 3, none⟩, iV rs), (1, ⟨r1, 4, none⟩, iV rw_), (1, ⟨r1, 5, none⟩, iV rt), (1, ⟨r1, 6, none⟩, iV rn), (1, ⟨r1, 7, none⟩, .string (St L))] [] trivial (kC (sat_cell h295 6 rfl rfl) (kC (sat_cell h295 6 rfl rfl) (kC (sat_cell h295 6 rfl rfl) (kC (sat_cell h295 6 rfl rfl) (kC (sat_cell h295 6 rfl rfl) (kC (sat_cell h295 6 rfl rfl) (kC (sat_cell h295 6 rfl rfl) (kC (sat_cell h295 6 rfl rfl) nC)))))))) ?_
      refine yA ?_
      refine yCl 84 Try.call23 (rchk_ht rx ry rz rs rw_ rt rn L (by omega) (by omega) (by omega)) h295 ?_
      rintro v K w297 (⟨rfl, rfl⟩) h298
      refine ⟨_, rfl, ?_⟩
      have h299 := ap0 h298
      refine yBb [7, 8, 9, 10, 11, 12] [(88, .agg #[iV ((getR pp.1 vn).out.1), iV ((getR pp.1 vn).out.2.1), uV ((getR pp.1 vn).out.2.2), iV ((getR pp.1 vn).st), iV ((getR pp.1 vn).why), iV ((getR pp.1 vn).tr), iV ((getR pp.1 vn).nx), .string (St ((getR pp.1 vn).tag))]), (87, .agg #[iV ((getR pp.1 vn).out.1), iV ((getR pp.1 vn).out.2.1), uV ((getR pp.1 vn).out.2.2), iV ((getR pp.1 vn).st), iV ((getR pp.1 vn).why), iV ((getR pp.1 vn).tr), iV ((getR pp.1 vn).nx), .string (St ((getR pp.1 vn).tag))]), (86, .bool true), (85, .bool true)] [e1 3 (.bool true), e0 4, e2 5 [iV ((getR pp.1 vn).out.1), iV ((getR pp.1 vn).out.2.1), uV ((getR pp.1 vn).out.2.2), iV ((getR pp.1 vn).st), iV ((getR pp.1 vn).why), iV ((getR pp.1 vn).tr), iV ((getR pp.1 vn).nx), .string (St ((getR pp.1 vn).tag))], e2 6 [iV ((getR pp.1 vn).out.1), iV ((getR pp.1 vn).out.2.1), uV ((getR pp.1 vn).out.2.2), iV ((getR pp.1 vn).st), iV ((getR pp.1 vn).why), iV ((getR pp.1 vn).tr), iV ((getR pp.1 vn).nx), .string (St ((getR pp.1 vn).tag))]] [(6, ⟨r37, 0, none⟩, iV ((getR pp.1 vn).out.1)), (6, ⟨r37, 1, none⟩, iV ((getR pp.1 vn).out.2.1)), (6, ⟨r37, 2, none⟩, uV ((getR pp.1 vn).out.2.2)), (6, ⟨r37, 3, none⟩, iV ((getR pp.1 vn).st)), (6, ⟨r37, 4, none⟩, iV ((getR pp.1 vn).why)), (6, ⟨r37, 5, none⟩, iV ((getR pp.1 vn).tr)), (6, ⟨r37, 6, none⟩, iV ((getR pp.1 vn).nx)), (6, ⟨r37, 7, none⟩, .string (St ((getR pp.1 vn).tag))), (5, ⟨r282, 0, none⟩, iV ((getR pp.1 vn).out.1)), (5, ⟨r282, 1, none⟩, iV ((getR pp.1 vn).out.2.1)), (5, ⟨r282, 2, none⟩, uV ((getR pp.1 vn).out.2.2)), (5, ⟨r282, 3, none⟩, iV ((getR pp.1 vn).st)), (5, ⟨r282, 4, none⟩, iV ((getR pp.1 vn).why)), (5, ⟨r282, 5, none⟩, iV ((getR pp.1 vn).tr)), (5, ⟨r282, 6, none⟩, iV ((getR pp.1 vn).nx)), (5, ⟨r282, 7, none⟩, .string (St ((getR pp.1 vn).tag)))] [(.bool (((resE rx ry rz rs rw_ rt rn L)) == ((resE rx ry rz rs rw_ rt rn L))), .bool true)] ⟨(ov_et (by omega)), trivial⟩ (kC (sat_cell h299 3 rfl rfl) (kC (sat_cell h299 3 rfl rfl) (kC (sat_cell h299 3 rfl rfl) (kC (sat_cell h299 3 rfl rfl) (kC (sat_cell h299 3 rfl rfl) (kC (sat_cell h299 3 rfl rfl) (kC (sat_cell h299 3 rfl rfl) (kC (sat_cell h299 3 rfl rfl) (kC (sat_cell h299 1 rfl rfl) (kC (sat_cell h299 1 rfl rfl) (kC (sat_cell h299 1 rfl rfl) (kC (sat_cell h299 1 rfl rfl) (kC (sat_cell h299 1 rfl rfl) (kC (sat_cell h299 1 rfl rfl) (kC (sat_cell h299 1 rfl rfl) (kC (sat_cell h299 1 rfl rfl) nC)))))))))))))))) ?_
      refine plain_law (i := 7) 89 (.bool true) (by kernel_rfl) (q27e42_eql_t (o := opA (RA Try.f4 [1, 1, 1, 1, 1, 1, 1, 1, 1, 0, 0, 1, 0, 0]) 7) (x := (Operand.tmp 87)) (y := (Operand.tmp 88)) ((getR pp.1 vn).out.1) ((getR pp.1 vn).out.2.1) ((getR pp.1 vn).out.2.2) ((getR pp.1 vn).st) ((getR pp.1 vn).why) ((getR pp.1 vn).tr) ((getR pp.1 vn).nx) ((getR pp.1 vn).tag) ((getR pp.1 vn).out.1) ((getR pp.1 vn).out.2.1) ((getR pp.1 vn).out.2.2) ((getR pp.1 vn).st) ((getR pp.1 vn).why) ((getR pp.1 vn).tr) ((getR pp.1 vn).nx) ((getR pp.1 vn).tag) (by kernel_rfl) (by kernel_rfl) (by kernel_rfl) ⟨rfl, rfl, rfl, rfl, rfl, rfl, rfl, rfl⟩ _) ?_
      refine yB0 [10, 11, 12] [8, 9] [(91, .bool true), (90, .bool true)] ?_
      refine yA ?_
      refine yCl 92 Try.call18 (works_ht) h299 ?_
      rintro v K w300 (⟨rfl, rfl⟩) h301
      refine ⟨_, rfl, ?_⟩
      have h302 := ap0 h301
      refine yB0 [] [11, 12] [(10, .bool true), (93, .bool true)] (.mk ?_)
      refine yK [(10, .bool true)] fun lr303 => ?_
      refine yRt ?_
      repeat (first | simp only [Exit.inBlock] | simp only [Exit.then])
      have h304 := tk8 (sf7 (sf6 (sf6 (sf6 (sf6 (sf6 (sf7 (sf7 h302))))))))
      have h305 := tk2 (sf1 (sf7 h304))
      refine hi_out [] (.bool true) [] (by kernel_rfl) (by intro q hq; cases hq) ?_
      exact ⟨.bool true, [Old wo], rfl, ⟨rfl, rfl⟩, h305⟩
    ·
     refine yA ?_
     refine yCl 42 Try.call20 ((by have h_ := tget_w b23 nn pp.1 vn; rw [nE_no (S := pp.1) (v := vn) (by omega), getR_no (S := pp.1) (v := vn) (by omega)] at h_; exact h_)) h29 ?_
     rintro v K w306 (⟨rfl, rfl⟩) h307
     refine ⟨_, rfl, ?_⟩
     have h308 := ap1 h307
     refine yB0 [6, 7, 8] [3, 4, 5] [(44, iV 3), (43, .agg #[iV 0, iV 0, uV 0, iV 0, iV 0, iV 0, iV 0, .string (St [])]), (39, .tuple #[.agg #[iV 0, iV 0, uV 0, iV 0, iV 0, iV 0, iV 0, .string (St [])], iV 3])] ?_
     refine yA ?_
     refine yNp 13 42 [iV 0, iV 0, uV 0, iV 0, iV 0, iV 0, iV 0, .string (St [])] h308 fun r309 w310 h311 => ?_
     refine yA ?_
     refine yS [(0, iV 0), (1, iV 0), (2, uV 0), (3, iV 0), (4, iV 0), (5, iV 0), (6, iV 0), (7, .string (St []))] [iV 0, iV 0, uV 0, iV 0, iV 0, iV 0, iV 0, .string (St [])] h311 fun w312 h313 => ?_
     refine yB0 [] [8] [(14, iV 3)] (.mk ?_)
     refine yK [(3, iV vn), (9, pV r1), (11, pV b23), (13, pV r309), (14, iV 3)] fun lr314 => ?_
     refine ySq ?_
     refine yPl [0, 1, 2, 3, 4, 5, 6, 7] ?_
     refine yB0 [2, 3, 4, 5, 6, 7] [0, 1] [(47, iV vn), (46, pV b23)] ?_
     have h317 := tk6 (sf5 (sf4 (sf5 (sf5 (sf5 (sf5 h313))))))
     refine yA ?_
     refine yCl 48 Try.call21 (tdescs_w b23 nn pp.1 vn) h317 ?_
     rintro v K w318 (⟨p315, c316, rfl, rfl⟩) h319
     refine ⟨_, rfl, ?_⟩
     have h320 := ap2 h319
     refine yB0 [] [3, 4, 5, 6, 7] [(16, iV ((nE pp.1 vn))), (15, .slice p315 (((descs pp.1.E vn).length)) c316), (50, iV ((nE pp.1 vn))), (49, .slice p315 (((descs pp.1.E vn).length)) c316), (45, .tuple #[.slice p315 (((descs pp.1.E vn).length)) c316, iV ((nE pp.1 vn))])] (.mk ?_)
     refine yK [(3, iV vn), (9, pV r1), (11, pV b23), (13, pV r309), (14, iV 3), (15, .slice p315 (((descs pp.1.E vn).length)) c316)] fun lr321 => ?_
     refine ySq ?_
     refine yPl [0, 1, 2, 3, 4] ?_
     refine yBb [3, 4] [(53, .agg #[iV rx, iV ry, uV rz, iV rs, iV rw_, iV rt, iV rn, .string (St L)]), (52, iV vn), (51, pV b23)] [e0 0, e0 1, e2 2 [iV rx, iV ry, uV rz, iV rs, iV rw_, iV rt, iV rn, .string (St L)]] [(2, ⟨r1, 0, none⟩, iV rx), (2, ⟨r1, 1, none⟩, iV ry), (2, ⟨r1, 2, none⟩, uV rz), (2, ⟨r1, 3, none⟩, iV rs), (2, ⟨r1, 4, none⟩, iV rw_), (2, ⟨r1, 5, none⟩, iV rt), (2, ⟨r1, 6, none⟩, iV rn), (2, ⟨r1, 7, none⟩, .string (St L))] [] trivial (kC (sat_cell h320 5 rfl rfl) (kC (sat_cell h320 5 rfl rfl) (kC (sat_cell h320 5 rfl rfl) (kC (sat_cell h320 5 rfl rfl) (kC (sat_cell h320 5 rfl rfl) (kC (sat_cell h320 5 rfl rfl) (kC (sat_cell h320 5 rfl rfl) (kC (sat_cell h320 5 rfl rfl) nC)))))))) ?_
     refine yA ?_
     refine yCl 54 Try.call17 ((by have hq_ : setE pp.1 vn ⟨(rx, ry, rz), rs, rw_, rt, rn, L⟩ = 3 := setE_no (S := pp.1) (v := vn) (r := ⟨(rx, ry, rz), rs, rw_, rt, rn, L⟩) (by omega); have h_ := tset_w b23 nn pp.1 vn rx ry rz rs rw_ rt rn L (by omega) (by omega) (by omega); rw [set_bad hq_ (by first | decide | omega), hq_] at h_; exact h_)) h320 ?_
     rintro v K w322 (⟨rfl, rfl⟩) h323
     refine ⟨_, rfl, ?_⟩
     have h324 := ap1 h323
     refine yB0 [] [4] [(17, iV 3)] (.mk ?_)
     refine yK [(3, iV vn), (9, pV r1), (11, pV b23), (13, pV r309), (14, iV 3), (15, .slice p315 (((descs pp.1.E vn).length)) c316), (17, iV 3)] fun lr325 => ?_
     refine ySq ?_
     refine yPl [0, 1, 2, 3, 4, 5, 6, 7, 8] ?_
     refine yB0 [2, 3, 4, 5, 6, 7, 8] [0, 1] [(57, iV vn), (56, pV b23)] ?_
     refine yA ?_
     refine yCl 58 Try.call20 ((by have h_ := tget_w b23 nn pp.1 vn; rw [nE_no (S := pp.1) (v := vn) (by omega), getR_no (S := pp.1) (v := vn) (by omega)] at h_; exact h_)) h324 ?_
     rintro v K w326 (⟨rfl, rfl⟩) h327
     refine ⟨_, rfl, ?_⟩
     have h328 := ap1 h327
     refine yB0 [6, 7, 8] [3, 4, 5] [(60, iV 3), (59, .agg #[iV 0, iV 0, uV 0, iV 0, iV 0, iV 0, iV 0, .string (St [])]), (55, .tuple #[.agg #[iV 0, iV 0, uV 0, iV 0, iV 0, iV 0, iV 0, .string (St [])], iV 3])] ?_
     refine yA ?_
     refine yNp 18 42 [iV 0, iV 0, uV 0, iV 0, iV 0, iV 0, iV 0, .string (St [])] h328 fun r329 w330 h331 => ?_
     refine yA ?_
     refine yS [(0, iV 0), (1, iV 0), (2, uV 0), (3, iV 0), (4, iV 0), (5, iV 0), (6, iV 0), (7, .string (St []))] [iV 0, iV 0, uV 0, iV 0, iV 0, iV 0, iV 0, .string (St [])] h331 fun w332 h333 => ?_
     refine yB0 [] [8] [(19, iV 3)] (.mk ?_)
     refine yK [(3, iV vn), (9, pV r1), (11, pV b23), (13, pV r309), (14, iV 3), (15, .slice p315 (((descs pp.1.E vn).length)) c316), (17, iV 3), (18, pV r329)] fun lr334 => ?_
     refine ySq ?_
     refine ySq ?_
     refine yPl [0, 1, 2, 3, 4, 5, 6, 7] ?_
     refine yBb [5, 6, 7] [(65, pV b23), (64, iV vn), (63, .bool false), (62, .bool false), (61, iV vn)] [e0 0, e1 1 (.bool false), e0 2, e0 3, e0 4] [] [(.bool (decide (vn < 1)), .bool false)] ⟨(ov_f (by omega)), trivial⟩ nC ?_
     have h335 := tk8 (sf7 (sf6 (sf7 (sf7 (sf7 (sf7 (sf7 (sf7 h333))))))))
     refine yA ?_
     refine yCl 66 Try.call22 (tlen_w b23 nn pp.1) h335 ?_
     rintro v K w336 (⟨rfl, rfl⟩) h337
     refine ⟨_, rfl, ?_⟩
     have h338 := ap1 h337
     refine yBb [] [(68, .bool true), (67, .bool true)] [e1 6 (.bool true), e0 7] [] [(.bool (decide (vn > ((pp.1.R.length : Nat) : Int))), .bool true)] ⟨(ov_t (by omega)), trivial⟩ nC (.mk ?_)
     refine yK [(9, pV r1), (13, pV r309), (14, iV 3), (15, .slice p315 (((descs pp.1.E vn).length)) c316), (17, iV 3), (18, pV r329), (68, .bool true)] fun lr339 => ?_
     refine yCt ?_
     refine ySq ?_
     refine yPl [0, 1, 2, 3, 4, 5, 6, 7, 8, 9] ?_
     refine yB0 [7, 8, 9] [0, 1, 2, 3, 4, 5, 6] [(75, .bool true), (74, .bool true), (73, .bool true), (72, iV 3), (71, .bool true), (70, .bool true), (69, iV 3)] ?_
     refine yA ?_
     refine yCl 76 Try.call18 (works_ht) h338 ?_
     rintro v K w340 (⟨rfl, rfl⟩) h341
     refine ⟨_, rfl, ?_⟩
     have h342 := ap0 h341
     refine yB0 [] [8, 9] [(10, .bool true), (77, .bool true)] (.mk ?_)
     refine yK [(10, .bool true)] fun lr343 => ?_
     refine yRt ?_
     repeat (first | simp only [Exit.inBlock] | simp only [Exit.then])
     have h344 := tk8 (sf7 (sf6 (sf6 (sf6 (sf6 (sf6 (sf7 (sf7 h342))))))))
     have h345 := tk2 (sf1 (sf7 h344))
     refine hi_out [] (.bool true) [] (by kernel_rfl) (by intro q hq; cases hq) ?_
     exact ⟨.bool true, [Old wo], rfl, ⟨rfl, rfl⟩, h345⟩
   ·
    refine yA ?_
    refine yCl 42 Try.call20 ((by have h_ := tget_w b23 nn pp.1 vn; rw [nE_no (S := pp.1) (v := vn) (by omega), getR_no (S := pp.1) (v := vn) (by omega)] at h_; exact h_)) h29 ?_
    rintro v K w346 (⟨rfl, rfl⟩) h347
    refine ⟨_, rfl, ?_⟩
    have h348 := ap1 h347
    refine yB0 [6, 7, 8] [3, 4, 5] [(44, iV 3), (43, .agg #[iV 0, iV 0, uV 0, iV 0, iV 0, iV 0, iV 0, .string (St [])]), (39, .tuple #[.agg #[iV 0, iV 0, uV 0, iV 0, iV 0, iV 0, iV 0, .string (St [])], iV 3])] ?_
    refine yA ?_
    refine yNp 13 42 [iV 0, iV 0, uV 0, iV 0, iV 0, iV 0, iV 0, .string (St [])] h348 fun r349 w350 h351 => ?_
    refine yA ?_
    refine yS [(0, iV 0), (1, iV 0), (2, uV 0), (3, iV 0), (4, iV 0), (5, iV 0), (6, iV 0), (7, .string (St []))] [iV 0, iV 0, uV 0, iV 0, iV 0, iV 0, iV 0, .string (St [])] h351 fun w352 h353 => ?_
    refine yB0 [] [8] [(14, iV 3)] (.mk ?_)
    refine yK [(3, iV vn), (9, pV r1), (11, pV b23), (13, pV r349), (14, iV 3)] fun lr354 => ?_
    refine ySq ?_
    refine yPl [0, 1, 2, 3, 4, 5, 6, 7] ?_
    refine yB0 [2, 3, 4, 5, 6, 7] [0, 1] [(47, iV vn), (46, pV b23)] ?_
    have h357 := tk6 (sf5 (sf4 (sf5 (sf5 (sf5 (sf5 h353))))))
    refine yA ?_
    refine yCl 48 Try.call21 (tdescs_w b23 nn pp.1 vn) h357 ?_
    rintro v K w358 (⟨p355, c356, rfl, rfl⟩) h359
    refine ⟨_, rfl, ?_⟩
    have h360 := ap2 h359
    refine yB0 [] [3, 4, 5, 6, 7] [(16, iV ((nE pp.1 vn))), (15, .slice p355 (((descs pp.1.E vn).length)) c356), (50, iV ((nE pp.1 vn))), (49, .slice p355 (((descs pp.1.E vn).length)) c356), (45, .tuple #[.slice p355 (((descs pp.1.E vn).length)) c356, iV ((nE pp.1 vn))])] (.mk ?_)
    refine yK [(3, iV vn), (9, pV r1), (11, pV b23), (13, pV r349), (14, iV 3), (15, .slice p355 (((descs pp.1.E vn).length)) c356)] fun lr361 => ?_
    refine ySq ?_
    refine yPl [0, 1, 2, 3, 4] ?_
    refine yBb [3, 4] [(53, .agg #[iV rx, iV ry, uV rz, iV rs, iV rw_, iV rt, iV rn, .string (St L)]), (52, iV vn), (51, pV b23)] [e0 0, e0 1, e2 2 [iV rx, iV ry, uV rz, iV rs, iV rw_, iV rt, iV rn, .string (St L)]] [(2, ⟨r1, 0, none⟩, iV rx), (2, ⟨r1, 1, none⟩, iV ry), (2, ⟨r1, 2, none⟩, uV rz), (2, ⟨r1, 3, none⟩, iV rs), (2, ⟨r1, 4, none⟩, iV rw_), (2, ⟨r1, 5, none⟩, iV rt), (2, ⟨r1, 6, none⟩, iV rn), (2, ⟨r1, 7, none⟩, .string (St L))] [] trivial (kC (sat_cell h360 5 rfl rfl) (kC (sat_cell h360 5 rfl rfl) (kC (sat_cell h360 5 rfl rfl) (kC (sat_cell h360 5 rfl rfl) (kC (sat_cell h360 5 rfl rfl) (kC (sat_cell h360 5 rfl rfl) (kC (sat_cell h360 5 rfl rfl) (kC (sat_cell h360 5 rfl rfl) nC)))))))) ?_
    refine yA ?_
    refine yCl 54 Try.call17 ((by have hq_ : setE pp.1 vn ⟨(rx, ry, rz), rs, rw_, rt, rn, L⟩ = 3 := setE_no (S := pp.1) (v := vn) (r := ⟨(rx, ry, rz), rs, rw_, rt, rn, L⟩) (by omega); have h_ := tset_w b23 nn pp.1 vn rx ry rz rs rw_ rt rn L (by omega) (by omega) (by omega); rw [set_bad hq_ (by first | decide | omega), hq_] at h_; exact h_)) h360 ?_
    rintro v K w362 (⟨rfl, rfl⟩) h363
    refine ⟨_, rfl, ?_⟩
    have h364 := ap1 h363
    refine yB0 [] [4] [(17, iV 3)] (.mk ?_)
    refine yK [(3, iV vn), (9, pV r1), (11, pV b23), (13, pV r349), (14, iV 3), (15, .slice p355 (((descs pp.1.E vn).length)) c356), (17, iV 3)] fun lr365 => ?_
    refine ySq ?_
    refine yPl [0, 1, 2, 3, 4, 5, 6, 7, 8] ?_
    refine yB0 [2, 3, 4, 5, 6, 7, 8] [0, 1] [(57, iV vn), (56, pV b23)] ?_
    refine yA ?_
    refine yCl 58 Try.call20 ((by have h_ := tget_w b23 nn pp.1 vn; rw [nE_no (S := pp.1) (v := vn) (by omega), getR_no (S := pp.1) (v := vn) (by omega)] at h_; exact h_)) h364 ?_
    rintro v K w366 (⟨rfl, rfl⟩) h367
    refine ⟨_, rfl, ?_⟩
    have h368 := ap1 h367
    refine yB0 [6, 7, 8] [3, 4, 5] [(60, iV 3), (59, .agg #[iV 0, iV 0, uV 0, iV 0, iV 0, iV 0, iV 0, .string (St [])]), (55, .tuple #[.agg #[iV 0, iV 0, uV 0, iV 0, iV 0, iV 0, iV 0, .string (St [])], iV 3])] ?_
    refine yA ?_
    refine yNp 18 42 [iV 0, iV 0, uV 0, iV 0, iV 0, iV 0, iV 0, .string (St [])] h368 fun r369 w370 h371 => ?_
    refine yA ?_
    refine yS [(0, iV 0), (1, iV 0), (2, uV 0), (3, iV 0), (4, iV 0), (5, iV 0), (6, iV 0), (7, .string (St []))] [iV 0, iV 0, uV 0, iV 0, iV 0, iV 0, iV 0, .string (St [])] h371 fun w372 h373 => ?_
    refine yB0 [] [8] [(19, iV 3)] (.mk ?_)
    refine yK [(3, iV vn), (9, pV r1), (11, pV b23), (13, pV r349), (14, iV 3), (15, .slice p355 (((descs pp.1.E vn).length)) c356), (17, iV 3), (18, pV r369)] fun lr374 => ?_
    refine ySq ?_
    refine ySq ?_
    refine yPl [0, 1, 2, 3, 4, 5, 6, 7] ?_
    refine yBb [5, 6, 7] [(65, undef), (64, undef), (63, .bool true), (62, .bool true), (61, iV vn)] [e0 0, e1 1 (.bool true), e0 2, e0 3, e0 4] [] [(.bool (decide (vn < 1)), .bool true)] ⟨(ov_t (by omega)), trivial⟩ nC ?_
    refine plain_skip (by kernel_rfl : chkN (RA Try.f4 [1, 1, 1, 1, 1, 1, 1, 1, 0, 0]) 150 _ 5 = some (some 66)) rfl ?_
    refine yB0 [] [6, 7] [(68, .bool true), (67, undef)] (.mk ?_)
    refine yK [(9, pV r1), (13, pV r349), (14, iV 3), (15, .slice p355 (((descs pp.1.E vn).length)) c356), (17, iV 3), (18, pV r369), (68, .bool true)] fun lr375 => ?_
    refine yCt ?_
    refine ySq ?_
    refine yPl [0, 1, 2, 3, 4, 5, 6, 7, 8, 9] ?_
    refine yB0 [7, 8, 9] [0, 1, 2, 3, 4, 5, 6] [(75, .bool true), (74, .bool true), (73, .bool true), (72, iV 3), (71, .bool true), (70, .bool true), (69, iV 3)] ?_
    refine yA ?_
    refine yCl 76 Try.call18 (works_ht) h373 ?_
    rintro v K w376 (⟨rfl, rfl⟩) h377
    refine ⟨_, rfl, ?_⟩
    have h378 := ap0 h377
    refine yB0 [] [8, 9] [(10, .bool true), (77, .bool true)] (.mk ?_)
    refine yK [(10, .bool true)] fun lr379 => ?_
    refine yRt ?_
    repeat (first | simp only [Exit.inBlock] | simp only [Exit.then])
    have h380 := tk8 (sf7 (sf6 (sf6 (sf6 (sf6 (sf6 (sf7 (sf7 h378))))))))
    have h381 := tk2 (sf1 (sf7 h380))
    refine hi_out [] (.bool true) [] (by kernel_rfl) (by intro q hq; cases hq) ?_
    exact ⟨.bool true, [Old wo], rfl, ⟨rfl, rfl⟩, h381⟩

end Go.Proofs.Ytjjpmehiolejgaa
