/- Walks, printed by my generator gen7.py. -/
import Derived.Test.YtjjpmehiolejgaaF6
import Derived.Test.YtjjpmehiolejgaaTabT
namespace Go.Proofs.Ytjjpmehiolejgaa
set_option maxHeartbeats 4000000 in
theorem lpfx_t (L : List UInt8) (h : L.take 3 = [239, 191, 189]) (hm : L.length ≤ 1099511627776) : HT Try.prog 78 [Value.string (St L), Value.string (St [239, 191, 189])] [] (fun v K => v = Value.bool true ∧ K = []) := by
 have hl_ := pfx_len h
 refine hi_in 18 ([(0, .string (St L)), (1, .string (St [239, 191, 189]))] : Fr) Try.func78 (by kernel_rfl) Try.ntmps78 rfl rfl ?_
 intro g w0 R h0
 refine ySq ?_
 refine yPl [0] ?_
 refine yB0 [] [0] [(4, .bool false)] (.mk ?_)
 refine yK [(0, .string (St L)), (1, .string (St [239, 191, 189]))] fun lr1 => ?_
 refine ySq ?_
 refine yPl [0, 1, 2, 3, 4, 5, 6, 7, 8, 9, 10, 11, 12, 13] ?_
 refine yBb [9, 10, 11, 12, 13] [(13, iV 3), (12, .string (St [239, 191, 189])), (11, .string (St L)), (10, .bool true), (9, .bool true), (8, iV 3), (7, .string (St [239, 191, 189])), (6, iV (((L.length : Nat) : Int))), (5, .string (St L))] [e0 0, e1 1 (iV (((L.length : Nat) : Int))), e0 2, e1 3 (iV 3), e1 4 (.bool true), e0 5, e0 6, e0 7, e1 8 (iV 3)] [] [(iV ((St L).size : Int), iV (((L.length : Nat) : Int))), (iV ((St [239, 191, 189]).size : Int), iV 3), (.bool (decide (((L.length : Nat) : Int) ≥ 3)), .bool true), (iV ((St [239, 191, 189]).size : Int), iV 3)] ⟨(ov_int (st_len _)), (ov_int rfl), (ov_t (by omega)), (ov_int rfl), trivial⟩ nC ?_
 refine plain_law (i := 9) 14 (.string (St (L.take 3))) (by kernel_rfl) (law_strTo (o := opA (RA Try.f78 [1, 0]) 9) (t := 9) (x := (Operand.tmp 11)) (y := (Operand.tmp 13)) (L := L) (z := 3) (by kernel_rfl) Try.underlying9 (by kernel_rfl) (by kernel_rfl) 3 (by omega) (by omega) _) ?_
 refine yB0 [11, 12, 13] [10] [(15, .string (St [239, 191, 189]))] ?_
 refine plain_law (i := 11) 16 (.bool true) (by kernel_rfl) (law_eqStr (t := 9) (o := opA (RA Try.f78 [1, 0]) 11) (x := (Operand.tmp 14)) (y := (Operand.tmp 15)) (a := (L.take 3)) (b := [239, 191, 189]) (by kernel_rfl) (by kernel_rfl) (by kernel_rfl) true (decide_eq_true h) _) ?_
 refine yB0 [] [12, 13] [(4, .bool true), (17, .bool true)] (.mk ?_)
 refine yK [(4, .bool true)] fun lr2 => ?_
 refine yRt ?_
 repeat (first | simp only [Exit.inBlock] | simp only [Exit.then])
 refine hi_out [] (.bool true) [] (by kernel_rfl) (by intro q hq; cases hq) ?_
 exact ⟨.bool true, [], rfl, ⟨rfl, rfl⟩, h0⟩

set_option maxHeartbeats 4000000 in
theorem lpfx_f (L : List UInt8) (h : ¬ L.take 3 = [239, 191, 189]) (hm : L.length ≤ 1099511627776) : HT Try.prog 78 [Value.string (St L), Value.string (St [239, 191, 189])] [] (fun v K => v = Value.bool false ∧ K = []) := by
 refine hi_in 18 ([(0, .string (St L)), (1, .string (St [239, 191, 189]))] : Fr) Try.func78 (by kernel_rfl) Try.ntmps78 rfl rfl ?_
 intro g w0 R h0
 refine ySq ?_
 refine yPl [0] ?_
 refine yB0 [] [0] [(4, .bool false)] (.mk ?_)
 refine yK [(0, .string (St L)), (1, .string (St [239, 191, 189]))] fun lr1 => ?_
 refine ySq ?_
 refine yPl [0, 1, 2, 3, 4, 5, 6, 7, 8, 9, 10, 11, 12, 13] ?_
 refine yBb [4, 5, 6, 7, 8, 9, 10, 11, 12, 13] [(8, iV 3), (7, .string (St [239, 191, 189])), (6, iV (((L.length : Nat) : Int))), (5, .string (St L))] [e0 0, e1 1 (iV (((L.length : Nat) : Int))), e0 2, e1 3 (iV 3)] [] [(iV ((St L).size : Int), iV (((L.length : Nat) : Int))), (iV ((St [239, 191, 189]).size : Int), iV 3)] ⟨(ov_int (st_len _)), (ov_int rfl), trivial⟩ nC ?_
 by_cases c2 : ((L.length : Nat) : Int) ≥ 3
 ·
  refine yBb [9, 10, 11, 12, 13] [(13, iV 3), (12, .string (St [239, 191, 189])), (11, .string (St L)), (10, .bool true), (9, .bool true)] [e1 4 (.bool true), e0 5, e0 6, e0 7, e1 8 (iV 3)] [] [(.bool (decide (((L.length : Nat) : Int) ≥ 3)), .bool true), (iV ((St [239, 191, 189]).size : Int), iV 3)] ⟨(ov_t (by omega)), (ov_int rfl), trivial⟩ nC ?_
  refine plain_law (i := 9) 14 (.string (St (L.take 3))) (by kernel_rfl) (law_strTo (o := opA (RA Try.f78 [1, 0]) 9) (t := 9) (x := (Operand.tmp 11)) (y := (Operand.tmp 13)) (L := L) (z := 3) (by kernel_rfl) Try.underlying9 (by kernel_rfl) (by kernel_rfl) 3 (by omega) (by omega) _) ?_
  refine yB0 [11, 12, 13] [10] [(15, .string (St [239, 191, 189]))] ?_
  refine plain_law (i := 11) 16 (.bool false) (by kernel_rfl) (law_eqStr (t := 9) (o := opA (RA Try.f78 [1, 0]) 11) (x := (Operand.tmp 14)) (y := (Operand.tmp 15)) (a := (L.take 3)) (b := [239, 191, 189]) (by kernel_rfl) (by kernel_rfl) (by kernel_rfl) false (decide_eq_false h) _) ?_
  refine yB0 [] [12, 13] [(4, .bool false), (17, .bool false)] (.mk ?_)
  refine yK [(4, .bool false)] fun lr3 => ?_
  refine yRt ?_
  repeat (first | simp only [Exit.inBlock] | simp only [Exit.then])
  refine hi_out [] (.bool false) [] (by kernel_rfl) (by intro q hq; cases hq) ?_
  exact ⟨.bool false, [], rfl, ⟨rfl, rfl⟩, h0⟩
 ·
  refine yBb [] [(4, .bool false), (17, .bool false), (16, undef), (15, undef), (14, undef), (13, undef), (12, undef), (11, undef), (10, .bool false), (9, .bool false)] [e1 4 (.bool false), e0 5, e0 6, e0 7, e0 8, e0 9, e0 10, e0 11, e0 12, e0 13] [] [(.bool (decide (((L.length : Nat) : Int) ≥ 3)), .bool false)] ⟨(ov_f (by omega)), trivial⟩ nC (.mk ?_)
  refine yK [(4, .bool false)] fun lr4 => ?_
  refine yRt ?_
  repeat (first | simp only [Exit.inBlock] | simp only [Exit.then])
  refine hi_out [] (.bool false) [] (by kernel_rfl) (by intro q hq; cases hq) ?_
  exact ⟨.bool false, [], rfl, ⟨rfl, rfl⟩, h0⟩

set_option maxHeartbeats 4000000 in
theorem pfx_t (L : List UInt8) (h : L.take 3 = [239, 191, 189]) (hm : L.length ≤ 1099511627776) : HT Try.prog 75 [Value.string (St L), Value.string (St [239, 191, 189])] [] (fun v K => v = Value.bool true ∧ K = []) := by
 have hl_ := pfx_len h
 refine hi_in 8 ([(0, .string (St L)), (1, .string (St [239, 191, 189]))] : Fr) Try.func75 (by kernel_rfl) Try.ntmps75 rfl rfl ?_
 intro g w0 R h0
 refine ySq ?_
 refine yPl [0] ?_
 refine yB0 [] [0] [(4, .bool false)] (.mk ?_)
 refine yK [(0, .string (St L)), (1, .string (St [239, 191, 189]))] fun lr1 => ?_
 refine ySq ?_
 refine yPl [0, 1, 2, 3] ?_
 refine yB0 [2, 3] [0, 1] [(6, .string (St [239, 191, 189])), (5, .string (St L))] ?_
 refine yA ?_
 refine yCl 7 Try.call78 (lpfx_t L (by assumption) (by omega)) h0 ?_
 rintro v K w2 (⟨rfl, rfl⟩) h3
 refine ⟨_, rfl, ?_⟩
 have h4 := ap0 h3
 refine yB0 [] [3] [(4, .bool true)] (.mk ?_)
 refine yK [(4, .bool true)] fun lr5 => ?_
 refine yRt ?_
 repeat (first | simp only [Exit.inBlock] | simp only [Exit.then])
 refine hi_out [] (.bool true) [] (by kernel_rfl) (by intro q hq; cases hq) ?_
 exact ⟨.bool true, [], rfl, ⟨rfl, rfl⟩, h4⟩

set_option maxHeartbeats 4000000 in
theorem pfx_f (L : List UInt8) (h : ¬ L.take 3 = [239, 191, 189]) (hm : L.length ≤ 1099511627776) : HT Try.prog 75 [Value.string (St L), Value.string (St [239, 191, 189])] [] (fun v K => v = Value.bool false ∧ K = []) := by
 refine hi_in 8 ([(0, .string (St L)), (1, .string (St [239, 191, 189]))] : Fr) Try.func75 (by kernel_rfl) Try.ntmps75 rfl rfl ?_
 intro g w0 R h0
 refine ySq ?_
 refine yPl [0] ?_
 refine yB0 [] [0] [(4, .bool false)] (.mk ?_)
 refine yK [(0, .string (St L)), (1, .string (St [239, 191, 189]))] fun lr1 => ?_
 refine ySq ?_
 refine yPl [0, 1, 2, 3] ?_
 refine yB0 [2, 3] [0, 1] [(6, .string (St [239, 191, 189])), (5, .string (St L))] ?_
 refine yA ?_
 refine yCl 7 Try.call78 (lpfx_f L (by assumption) (by omega)) h0 ?_
 rintro v K w2 (⟨rfl, rfl⟩) h3
 refine ⟨_, rfl, ?_⟩
 have h4 := ap0 h3
 refine yB0 [] [3] [(4, .bool false)] (.mk ?_)
 refine yK [(4, .bool false)] fun lr5 => ?_
 refine yRt ?_
 repeat (first | simp only [Exit.inBlock] | simp only [Exit.then])
 refine hi_out [] (.bool false) [] (by kernel_rfl) (by intro q hq; cases hq) ?_
 exact ⟨.bool false, [], rfl, ⟨rfl, rfl⟩, h4⟩

set_option maxHeartbeats 4000000 in
theorem rune_t (c : Int) (h : 32 ≤ c ∧ c ≠ 127) : HT Try.prog 68 [Value.int IntKind.i32 c] [] (fun v K => v = Value.bool true ∧ K = []) := by
 refine hi_in 9 ([(0, .int .i32 c)] : Fr) Try.func68 (by kernel_rfl) Try.ntmps68 rfl rfl ?_
 intro g w0 R h0
 refine ySq ?_
 refine yPl [0] ?_
 refine yB0 [] [0] [(2, .bool false)] (.mk ?_)
 refine yK [(0, .int .i32 c)] fun lr1 => ?_
 refine ySq ?_
 refine yPl [0, 1, 2, 3, 4, 5, 6] ?_
 refine yBb [] [(2, .bool true), (8, .bool true), (7, .bool true), (6, .int .i32 c), (5, .bool true), (4, .bool true), (3, .int .i32 c)] [e0 0, e1 1 (.bool true), e0 2, e0 3, e1 4 (.bool true), e0 5, e0 6] [] [(.bool (decide (c ≥ 32)), .bool true), (.bool (c != 127), .bool true)] ⟨(ov_t (by omega)), (ov_nt (by omega)), trivial⟩ nC (.mk ?_)
 refine yK [(2, .bool true)] fun lr2 => ?_
 refine yRt ?_
 repeat (first | simp only [Exit.inBlock] | simp only [Exit.then])
 refine hi_out [] (.bool true) [] (by kernel_rfl) (by intro q hq; cases hq) ?_
 exact ⟨.bool true, [], rfl, ⟨rfl, rfl⟩, h0⟩

set_option maxHeartbeats 4000000 in
theorem rune_f (c : Int) (h : c < 32 ∨ c = 127) : HT Try.prog 68 [Value.int IntKind.i32 c] [] (fun v K => v = Value.bool false ∧ K = []) := by
 refine hi_in 9 ([(0, .int .i32 c)] : Fr) Try.func68 (by kernel_rfl) Try.ntmps68 rfl rfl ?_
 intro g w0 R h0
 refine ySq ?_
 refine yPl [0] ?_
 refine yB0 [] [0] [(2, .bool false)] (.mk ?_)
 refine yK [(0, .int .i32 c)] fun lr1 => ?_
 refine ySq ?_
 refine yPl [0, 1, 2, 3, 4, 5, 6] ?_
 refine yB0 [1, 2, 3, 4, 5, 6] [0] [(3, .int .i32 c)] ?_
 by_cases c2 : c ≥ 32
 ·
  refine yBb [] [(2, .bool false), (8, .bool false), (7, .bool false), (6, .int .i32 c), (5, .bool true), (4, .bool true)] [e1 1 (.bool true), e0 2, e0 3, e1 4 (.bool false), e0 5, e0 6] [] [(.bool (decide (c ≥ 32)), .bool true), (.bool (c != 127), .bool false)] ⟨(ov_t (by omega)), (ov_nf (by omega)), trivial⟩ nC (.mk ?_)
  refine yK [(2, .bool false)] fun lr3 => ?_
  refine yRt ?_
  repeat (first | simp only [Exit.inBlock] | simp only [Exit.then])
  refine hi_out [] (.bool false) [] (by kernel_rfl) (by intro q hq; cases hq) ?_
  exact ⟨.bool false, [], rfl, ⟨rfl, rfl⟩, h0⟩
 ·
  refine yBb [] [(2, .bool false), (8, .bool false), (7, undef), (6, undef), (5, .bool false), (4, .bool false)] [e1 1 (.bool false), e0 2, e0 3, e0 4, e0 5, e0 6] [] [(.bool (decide (c ≥ 32)), .bool false)] ⟨(ov_f (by omega)), trivial⟩ nC (.mk ?_)
  refine yK [(2, .bool false)] fun lr4 => ?_
  refine yRt ?_
  repeat (first | simp only [Exit.inBlock] | simp only [Exit.then])
  refine hi_out [] (.bool false) [] (by kernel_rfl) (by intro q hq; cases hq) ?_
  exact ⟨.bool false, [], rfl, ⟨rfl, rfl⟩, h0⟩

set_option maxHeartbeats 4000000 in
theorem tall_ht (L : List UInt8) (hm : L.length ≤ 1099511627776) : HT Try.prog 67 [Value.string (St L), Value.func (Fn.func 68) #[] #[]] [] (fun v K => v = Value.tuple #[Value.int .i64 (scanN L : Int), Value.bool (scanB L)] ∧ K = []) := by
 refine hi_in 33 ([(0, .string (St L)), (1, .func (Fn.func 68) #[] #[])] : Fr) Try.func67 (by kernel_rfl) Try.ntmps67 rfl rfl ?_
 intro g w0 R h0
 refine ySq ?_
 refine yPl [0, 1] ?_
 refine yB0 [] [0, 1] [(5, .bool false), (4, iV 0)] (.mk ?_)
 refine yK [(0, .string (St L)), (1, .func (Fn.func 68) #[] #[])] fun lr1 => ?_
 refine ySq ?_
 refine yPl [0] ?_
 refine yB0 [] [0] [(6, iV 0)] (.mk ?_)
 refine yK [(0, .string (St L)), (1, .func (Fn.func 68) #[] #[]), (6, iV 0)] fun lr2 => ?_
 refine ySq ?_
 refine ySq ?_
 refine yPl [0, 1] ?_
 refine yB0 [1] [0] [(9, .string (St L))] ?_
 refine yA ?_
 refine as_rangeStr (t := 9) (d := 10) (x := (Operand.tmp 9)) (L := L) (by kernel_rfl) (by kernel_rfl) rfl Try.underlying9 (by kernel_rfl) h0 ?_
 intro r3 w4 h5
 refine PO.mk ?_
 refine yK [(0, .string (St L)), (1, .func (Fn.func 68) #[] #[]), (6, iV 0), (10, pV r3)] fun lr6 => ?_
 refine yBk 0 ?_
 refine gi_lp (x := CA Try.f67 [1, 1, 0, 1, 0, 0]) (by kernel_rfl) (fun mz_ a w => ∃ p : Nat, ∃ n : Nat, ∃ f : Nat, ∃ lr : Fr, mz_ = L.length - p ∧ (n ≤ p) ∧ (L.length ≤ p + f) ∧ (tagScan L L.length 0 0 = tagScan L f p n) ∧ a = mk 33 (([(0, .string (St L)), (1, .func (Fn.func 68) #[] #[]), (6, iV (n : Int)), (10, pV r3)] : Fr) ++ lr) ∧ sat g w [Si r3 L p, R]) (L.length - 0) ⟨0, 0, L.length, _, rfl, (Nat.le_refl _), (by omega), rfl, (mk_live [(0, .string (St L)), (1, .func (Fn.func 68) #[] #[]), (6, iV (0 : Int)), (10, pV r3)] ⟨rfl, rfl, (ov_int (by omega)), rfl, trivial⟩), h5⟩ ?_
 rintro m8 a9 w10 ⟨p, n, f, lr7, rfl, hn_, hf_, ht_, rfl, h11⟩
 refine ySq ?_
 refine yPl [0, 1] ?_
 by_cases c12 : p < L.length
 ·
  have hd13 := dec_pos (L := L) (p := p) (by omega); have hd14 := dec_max L p
  refine yA ?_
  refine as_next (d := 11) (x := (Operand.tmp 10)) (r := r3) (L := L) (p := p) (by kernel_rfl) (by kernel_rfl) rfl (by kernel_rfl) h11 (by omega) (by omega) ?_
  intro w15 h16
  refine yB0 [] [1] [(12, .bool true)] (.mk ?_)
  refine yK [(0, .string (St L)), (1, .func (Fn.func 68) #[] #[]), (6, iV (n : Int)), (10, pV r3), (11, .tuple #[.bool true, iV (p : Int), .int .i32 ((((dec L p).1 : Nat) : Int))]), (12, .bool true)] fun lr17 => ?_
  refine ySq ?_
  refine yCt ?_
  refine ySk ?_
  refine yBk 1 ?_
  refine ySq ?_
  refine yPl [0, 1, 2, 3] ?_
  refine yB0 [] [0, 1, 2, 3] [(8, .int .i32 ((((dec L p).1 : Nat) : Int))), (7, iV (p : Int)), (14, .int .i32 ((((dec L p).1 : Nat) : Int))), (13, iV (p : Int))] (.mk ?_)
  refine yK [(0, .string (St L)), (1, .func (Fn.func 68) #[] #[]), (6, iV (n : Int)), (7, iV (p : Int)), (8, .int .i32 ((((dec L p).1 : Nat) : Int))), (10, pV r3)] fun lr18 => ?_
  refine ySq ?_
  refine ySq ?_
  refine yPl [0, 1, 2, 3, 4, 5, 6, 7, 8, 9, 10, 11, 12, 13, 14] ?_
  refine yB0 [1, 2, 3, 4, 5, 6, 7, 8, 9, 10, 11, 12, 13, 14] [0] [(15, .int .i32 ((((dec L p).1 : Nat) : Int)))] ?_
  by_cases c19 : (((dec L p).1 : Nat) : Int) = 65533
  ·
   refine yBb [5, 6, 7, 8, 9, 10, 11, 12, 13, 14] [(19, iV (p : Int)), (18, .string (St L)), (17, .bool true), (16, .bool true)] [e1 1 (.bool true), e0 2, e0 3, e0 4] [] [(.bool (((((dec L p).1 : Nat) : Int)) == 65533), .bool true)] ⟨(ov_et (by omega)), trivial⟩ nC ?_
   refine plain_law (i := 5) 20 (.string (St (L.drop p))) (by kernel_rfl) (law_strFrom (o := opA (RA Try.f67 [1, 1, 0, 1, 0, 0, 1, 1, 0, 1, 0, 0]) 5) (t := 9) (x := (Operand.tmp 18)) (y := (Operand.tmp 19)) (L := L) (z := (p : Int)) (by kernel_rfl) Try.underlying9 (by kernel_rfl) (by kernel_rfl) p (by omega) (by omega) _) ?_
   by_cases c20 : (L.drop p).take 3 = ([239, 191, 189] : List UInt8)
   ·
    refine yA ?_
    refine yCl 21 Try.call75 (pfx_t (L.drop p) (by assumption) (by rw [List.length_drop]; omega)) h16 ?_
    rintro v K w21 (⟨rfl, rfl⟩) h22
    refine ⟨_, rfl, ?_⟩
    have h23 := ap0 h22
    refine yB0 [12, 13, 14] [7, 8, 9, 10, 11] [(26, .int .i32 ((((dec L p).1 : Nat) : Int))), (25, .func (Fn.func 68) #[] #[]), (24, .bool false), (23, .bool false), (22, .bool false)] ?_
    refine yA ?_
    refine yCl 27 Try.call68 (rune_t ((((dec L p).1 : Nat) : Int)) (by omega)) h23 ?_
    rintro v K w24 (⟨rfl, rfl⟩) h25
    refine ⟨_, rfl, ?_⟩
    have h26 := ap0 h25
    refine yB0 [] [13, 14] [(29, .bool false), (28, .bool false)] (.mk ?_)
    refine yK [(0, .string (St L)), (1, .func (Fn.func 68) #[] #[]), (6, iV (n : Int)), (10, pV r3), (29, .bool false)] fun lr27 => ?_
    refine yCf ?_
    refine ySk ?_
    refine yPl [0, 1, 2] ?_
    refine yBb [] [(6, iV ((n : Int) + 1)), (31, iV ((n : Int) + 1)), (30, iV (n : Int))] [e0 0, e1 1 (iV ((n : Int) + 1)), e0 2] [] [(iV (IntKind.wrap .i64 ((n : Int) + 1)), iV ((n : Int) + 1))] ⟨(ov_i64 (by omega) (by omega) (by omega)), trivial⟩ nC (.mk ?_)
    have hg_ : ¬ badR L p := by
     rintro (⟨h1_, h2_⟩ | h1_ | h1_) <;> first | omega | exact absurd (by assumption) h2_
    change ∃ n', n' < _ ∧ _
    refine ⟨(L.length - (p + ((dec L p).2))), by omega, p + ((dec L p).2), (n + 1), (f - 1), _, rfl, (by omega), (by omega), (ht_.trans (scan_go (by omega) hf_ hg_)), (mk_live [(0, .string (St L)), (1, .func (Fn.func 68) #[] #[]), (6, iV ((((n + 1) : Nat) : Int))), (10, pV r3)] ⟨rfl, rfl, (ov_int (by omega)), rfl, trivial⟩), h26⟩
   ·
    refine yA ?_
    refine yCl 21 Try.call75 (pfx_f (L.drop p) (by assumption) (by rw [List.length_drop]; omega)) h16 ?_
    rintro v K w28 (⟨rfl, rfl⟩) h29
    refine ⟨_, rfl, ?_⟩
    have h30 := ap0 h29
    refine yB0 [12, 13, 14] [7, 8, 9, 10, 11] [(26, undef), (25, undef), (24, .bool true), (23, .bool true), (22, .bool true)] ?_
    refine plain_skip (by kernel_rfl : chkN (RA Try.f67 [1, 1, 0, 1, 0, 0, 1, 1, 0, 1, 0, 0]) 33 _ 12 = some (some 27)) rfl ?_
    refine yB0 [] [13, 14] [(29, .bool true), (28, undef)] (.mk ?_)
    refine yK [(0, .string (St L)), (1, .func (Fn.func 68) #[] #[]), (6, iV (n : Int)), (10, pV r3), (29, .bool true)] fun lr31 => ?_
    refine yCt ?_
    refine ySq ?_
    refine yPl [0, 1] ?_
    refine yB0 [] [0, 1] [(5, .bool false), (4, iV 0)] (.mk ?_)
    refine yK [(4, iV 0), (5, .bool false)] fun lr32 => ?_
    refine yRt ?_
    repeat (first | simp only [Exit.inBlock] | simp only [Exit.then])
    have hb_ : badR L p := by
     first | exact .inr (.inl (by omega)) | exact .inr (.inr (by omega)) | exact .inl ⟨by omega, by assumption⟩
    have hs_ : tagScan L L.length 0 0 = none := ht_.trans (scan_bad (by omega) hf_ hb_)
    have h33 := tk1 (sf1 h30)
    refine hi_out [] (.tuple #[iV 0, .bool false]) [] (by kernel_rfl) (by intro q hq; cases hq) ?_
    exact ⟨.tuple #[iV 0, .bool false], [], rfl, ⟨by unfold scanN scanB; rw [hs_]; rfl, rfl⟩, h33⟩
  ·
   refine yBb [6, 7, 8, 9, 10, 11, 12, 13, 14] [(20, undef), (19, undef), (18, undef), (17, .bool false), (16, .bool false)] [e1 1 (.bool false), e0 2, e0 3, e0 4, e0 5] [] [(.bool (((((dec L p).1 : Nat) : Int)) == 65533), .bool false)] ⟨(ov_ef (by omega)), trivial⟩ nC ?_
   refine plain_skip (by kernel_rfl : chkN (RA Try.f67 [1, 1, 0, 1, 0, 0, 1, 1, 0, 1, 0, 0]) 33 _ 6 = some (some 21)) rfl ?_
   refine yB0 [12, 13, 14] [7, 8, 9, 10, 11] [(26, .int .i32 ((((dec L p).1 : Nat) : Int))), (25, .func (Fn.func 68) #[] #[]), (24, .bool false), (23, .bool false), (22, undef)] ?_
   by_cases c34 : 32 ≤ (((dec L p).1 : Nat) : Int)
   ·
    by_cases c35 : (((dec L p).1 : Nat) : Int) = 127
    ·
     refine yA ?_
     refine yCl 27 Try.call68 (rune_f ((((dec L p).1 : Nat) : Int)) (by omega)) h16 ?_
     rintro v K w36 (⟨rfl, rfl⟩) h37
     refine ⟨_, rfl, ?_⟩
     have h38 := ap0 h37
     refine yB0 [] [13, 14] [(29, .bool true), (28, .bool true)] (.mk ?_)
     refine yK [(0, .string (St L)), (1, .func (Fn.func 68) #[] #[]), (6, iV (n : Int)), (10, pV r3), (29, .bool true)] fun lr39 => ?_
     refine yCt ?_
     refine ySq ?_
     refine yPl [0, 1] ?_
     refine yB0 [] [0, 1] [(5, .bool false), (4, iV 0)] (.mk ?_)
     refine yK [(4, iV 0), (5, .bool false)] fun lr40 => ?_
     refine yRt ?_
     repeat (first | simp only [Exit.inBlock] | simp only [Exit.then])
     have hb_ : badR L p := by
      first | exact .inr (.inl (by omega)) | exact .inr (.inr (by omega)) | exact .inl ⟨by omega, by assumption⟩
     have hs_ : tagScan L L.length 0 0 = none := ht_.trans (scan_bad (by omega) hf_ hb_)
     have h41 := tk1 (sf1 h38)
     refine hi_out [] (.tuple #[iV 0, .bool false]) [] (by kernel_rfl) (by intro q hq; cases hq) ?_
     exact ⟨.tuple #[iV 0, .bool false], [], rfl, ⟨by unfold scanN scanB; rw [hs_]; rfl, rfl⟩, h41⟩
    ·
     refine yA ?_
     refine yCl 27 Try.call68 (rune_t ((((dec L p).1 : Nat) : Int)) (by omega)) h16 ?_
     rintro v K w42 (⟨rfl, rfl⟩) h43
     refine ⟨_, rfl, ?_⟩
     have h44 := ap0 h43
     refine yB0 [] [13, 14] [(29, .bool false), (28, .bool false)] (.mk ?_)
     refine yK [(0, .string (St L)), (1, .func (Fn.func 68) #[] #[]), (6, iV (n : Int)), (10, pV r3), (29, .bool false)] fun lr45 => ?_
     refine yCf ?_
     refine ySk ?_
     refine yPl [0, 1, 2] ?_
     refine yBb [] [(6, iV ((n : Int) + 1)), (31, iV ((n : Int) + 1)), (30, iV (n : Int))] [e0 0, e1 1 (iV ((n : Int) + 1)), e0 2] [] [(iV (IntKind.wrap .i64 ((n : Int) + 1)), iV ((n : Int) + 1))] ⟨(ov_i64 (by omega) (by omega) (by omega)), trivial⟩ nC (.mk ?_)
     have hg_ : ¬ badR L p := by
      rintro (⟨h1_, h2_⟩ | h1_ | h1_) <;> first | omega | exact absurd (by assumption) h2_
     change ∃ n', n' < _ ∧ _
     refine ⟨(L.length - (p + ((dec L p).2))), by omega, p + ((dec L p).2), (n + 1), (f - 1), _, rfl, (by omega), (by omega), (ht_.trans (scan_go (by omega) hf_ hg_)), (mk_live [(0, .string (St L)), (1, .func (Fn.func 68) #[] #[]), (6, iV ((((n + 1) : Nat) : Int))), (10, pV r3)] ⟨rfl, rfl, (ov_int (by omega)), rfl, trivial⟩), h44⟩
   ·
    refine yA ?_
    refine yCl 27 Try.call68 (rune_f ((((dec L p).1 : Nat) : Int)) (by omega)) h16 ?_
    rintro v K w46 (⟨rfl, rfl⟩) h47
    refine ⟨_, rfl, ?_⟩
    have h48 := ap0 h47
    refine yB0 [] [13, 14] [(29, .bool true), (28, .bool true)] (.mk ?_)
    refine yK [(0, .string (St L)), (1, .func (Fn.func 68) #[] #[]), (6, iV (n : Int)), (10, pV r3), (29, .bool true)] fun lr49 => ?_
    refine yCt ?_
    refine ySq ?_
    refine yPl [0, 1] ?_
    refine yB0 [] [0, 1] [(5, .bool false), (4, iV 0)] (.mk ?_)
    refine yK [(4, iV 0), (5, .bool false)] fun lr50 => ?_
    refine yRt ?_
    repeat (first | simp only [Exit.inBlock] | simp only [Exit.then])
    have hb_ : badR L p := by
     first | exact .inr (.inl (by omega)) | exact .inr (.inr (by omega)) | exact .inl ⟨by omega, by assumption⟩
    have hs_ : tagScan L L.length 0 0 = none := ht_.trans (scan_bad (by omega) hf_ hb_)
    have h51 := tk1 (sf1 h48)
    refine hi_out [] (.tuple #[iV 0, .bool false]) [] (by kernel_rfl) (by intro q hq; cases hq) ?_
    exact ⟨.tuple #[iV 0, .bool false], [], rfl, ⟨by unfold scanN scanB; rw [hs_]; rfl, rfl⟩, h51⟩
 ·
  refine yA ?_
  refine as_nextEnd (d := 11) (x := (Operand.tmp 10)) (r := r3) (L := L) (p := p) (by kernel_rfl) (by kernel_rfl) rfl (by kernel_rfl) (j := 0) h11 rfl (by omega) ?_
  refine yB0 [] [1] [(12, .bool false)] (.mk ?_)
  refine yK [(0, .string (St L)), (1, .func (Fn.func 68) #[] #[]), (6, iV (n : Int)), (10, pV r3), (11, .tuple #[.bool false]), (12, .bool false)] fun lr52 => ?_
  refine ySq ?_
  refine yCf ?_
  refine yEx 0 ?_
  refine ySq ?_
  refine yPl [0, 1, 2] ?_
  refine yB0 [] [0, 1, 2] [(5, .bool true), (4, iV (n : Int)), (32, iV (n : Int))] (.mk ?_)
  refine yK [(4, iV (n : Int)), (5, .bool true)] fun lr53 => ?_
  refine yRt ?_
  repeat (first | simp only [Exit.inBlock] | simp only [Exit.then])
  have hs_ : tagScan L L.length 0 0 = some n := ht_.trans (scan_end (by omega))
  have h54 := tk1 (sf1 h11)
  refine hi_out [] (.tuple #[iV (n : Int), .bool true]) [] (by kernel_rfl) (by intro q hq; cases hq) ?_
  exact ⟨.tuple #[iV (n : Int), .bool true], [], rfl, ⟨by unfold scanN scanB; rw [hs_]; rfl, rfl⟩, h54⟩

set_option maxHeartbeats 4000000 in
theorem tag_ht (L : List UInt8) (hm : L.length ≤ 1099511627776) : HT Try.prog 50 [Value.string (St L)] [] (fun v K => v = Value.int .i64 (tagE L) ∧ K = []) := by
 refine hi_in 23 ([(0, .string (St L))] : Fr) Try.func50 (by kernel_rfl) Try.ntmps50 rfl rfl ?_
 intro g w0 R h0
 refine ySq ?_
 refine yPl [0] ?_
 refine yB0 [] [0] [(2, iV 0)] (.mk ?_)
 refine yK [(0, .string (St L))] fun lr1 => ?_
 refine ySq ?_
 refine ySq ?_
 refine yPl [0, 1, 2] ?_
 refine yBb [2] [(6, iV (((L.length : Nat) : Int))), (5, .string (St L))] [e0 0, e1 1 (iV (((L.length : Nat) : Int)))] [] [(iV ((St L).size : Int), iV (((L.length : Nat) : Int)))] ⟨(ov_int (st_len _)), trivial⟩ nC ?_
 by_cases c2 : ((L.length : Nat) : Int) > 96
 ·
  refine yBb [] [(7, .bool true)] [e1 2 (.bool true)] [] [(.bool (decide (((L.length : Nat) : Int) > 96)), .bool true)] ⟨(ov_t (by omega)), trivial⟩ nC (.mk ?_)
  refine yK [(0, .string (St L)), (7, .bool true)] fun lr3 => ?_
  refine yCt ?_
  refine ySq ?_
  refine yPl [0] ?_
  refine yB0 [] [0] [(2, iV 16)] (.mk ?_)
  refine yK [(2, iV 16)] fun lr4 => ?_
  refine yRt ?_
  repeat (first | simp only [Exit.inBlock] | simp only [Exit.then])
  refine hi_out [] (iV 16) [] (by kernel_rfl) (by intro q hq; cases hq) ?_
  exact ⟨iV 16, [], rfl, ⟨by unfold tagE; rw [if_pos (by omega)], rfl⟩, h0⟩
 ·
  refine yBb [] [(7, .bool false)] [e1 2 (.bool false)] [] [(.bool (decide (((L.length : Nat) : Int) > 96)), .bool false)] ⟨(ov_f (by omega)), trivial⟩ nC (.mk ?_)
  refine yK [(0, .string (St L)), (7, .bool false)] fun lr5 => ?_
  refine yCf ?_
  refine ySk ?_
  refine ySq ?_
  refine yPl [0, 1, 2, 3, 4, 5, 6] ?_
  refine yB0 [1, 2, 3, 4, 5, 6] [0] [(9, .string (St L))] ?_
  rcases Bool.eq_false_or_eq_true (scanB L) with cb6 | cb6
  ·
   refine yA ?_
   refine yCl 10 Try.call67 ((by have h_ := tall_ht L (by omega); rw [cb6] at h_; exact h_)) h0 ?_
   rintro v K w7 (⟨rfl, rfl⟩) h8
   refine ⟨_, rfl, ?_⟩
   have h9 := ap0 h8
   refine yB0 [] [2, 3, 4, 5, 6] [(4, .bool true), (3, iV (((scanN L : Nat) : Int))), (12, .bool true), (11, iV (((scanN L : Nat) : Int))), (8, .tuple #[iV (((scanN L : Nat) : Int)), .bool true])] (.mk ?_)
   refine yK [(3, iV (((scanN L : Nat) : Int))), (4, .bool true)] fun lr10 => ?_
   refine ySq ?_
   refine ySq ?_
   refine yPl [0, 1, 2, 3, 4, 5, 6, 7, 8, 9] ?_
   refine yB0 [4, 5, 6, 7, 8, 9] [0, 1, 2, 3] [(16, iV (((scanN L : Nat) : Int))), (15, .bool false), (14, .bool false), (13, .bool true)] ?_
   by_cases c11 : ((scanN L : Nat) : Int) < 1
   ·
    refine yBb [] [(22, .bool true), (21, undef), (20, undef), (19, .bool true), (18, .bool true), (17, .bool true)] [e1 4 (.bool true), e0 5, e0 6, e0 7, e0 8, e0 9] [] [(.bool (decide (((scanN L : Nat) : Int) < 1)), .bool true)] ⟨(ov_t (by omega)), trivial⟩ nC (.mk ?_)
    refine yK [(22, .bool true)] fun lr12 => ?_
    refine yCt ?_
    refine ySq ?_
    refine yPl [0] ?_
    refine yB0 [] [0] [(2, iV 16)] (.mk ?_)
    refine yK [(2, iV 16)] fun lr13 => ?_
    refine yRt ?_
    repeat (first | simp only [Exit.inBlock] | simp only [Exit.then])
    refine hi_out [] (iV 16) [] (by kernel_rfl) (by intro q hq; cases hq) ?_
    exact ⟨iV 16, [], rfl, ⟨by unfold tagE; rw [if_neg (by omega), if_neg (by rintro ⟨h1_, h2_, h3_⟩; first | omega | simp_all)], rfl⟩, h9⟩
   ·
    refine yBb [8, 9] [(20, iV (((scanN L : Nat) : Int))), (19, .bool false), (18, .bool false), (17, .bool false)] [e1 4 (.bool false), e0 5, e0 6, e0 7] [] [(.bool (decide (((scanN L : Nat) : Int) < 1)), .bool false)] ⟨(ov_f (by omega)), trivial⟩ nC ?_
    by_cases c14 : ((scanN L : Nat) : Int) > 24
    ·
     refine yBb [] [(22, .bool true), (21, .bool true)] [e1 8 (.bool true), e0 9] [] [(.bool (decide (((scanN L : Nat) : Int) > 24)), .bool true)] ⟨(ov_t (by omega)), trivial⟩ nC (.mk ?_)
     refine yK [(22, .bool true)] fun lr15 => ?_
     refine yCt ?_
     refine ySq ?_
     refine yPl [0] ?_
     refine yB0 [] [0] [(2, iV 16)] (.mk ?_)
     refine yK [(2, iV 16)] fun lr16 => ?_
     refine yRt ?_
     repeat (first | simp only [Exit.inBlock] | simp only [Exit.then])
     refine hi_out [] (iV 16) [] (by kernel_rfl) (by intro q hq; cases hq) ?_
     exact ⟨iV 16, [], rfl, ⟨by unfold tagE; rw [if_neg (by omega), if_neg (by rintro ⟨h1_, h2_, h3_⟩; first | omega | simp_all)], rfl⟩, h9⟩
    ·
     refine yBb [] [(22, .bool false), (21, .bool false)] [e1 8 (.bool false), e0 9] [] [(.bool (decide (((scanN L : Nat) : Int) > 24)), .bool false)] ⟨(ov_f (by omega)), trivial⟩ nC (.mk ?_)
     refine yK [(22, .bool false)] fun lr17 => ?_
     refine yCf ?_
     refine ySk ?_
     refine ySq ?_
     refine yPl [0] ?_
     refine yB0 [] [0] [(2, iV 0)] (.mk ?_)
     refine yK [(2, iV 0)] fun lr18 => ?_
     refine yRt ?_
     repeat (first | simp only [Exit.inBlock] | simp only [Exit.then])
     refine hi_out [] (iV 0) [] (by kernel_rfl) (by intro q hq; cases hq) ?_
     exact ⟨iV 0, [], rfl, ⟨by unfold tagE; rw [if_neg (by omega), if_pos ⟨by assumption, by omega, by omega⟩], rfl⟩, h9⟩
  ·
   refine yA ?_
   refine yCl 10 Try.call67 ((by have h_ := tall_ht L (by omega); rw [cb6] at h_; exact h_)) h0 ?_
   rintro v K w19 (⟨rfl, rfl⟩) h20
   refine ⟨_, rfl, ?_⟩
   have h21 := ap0 h20
   refine yB0 [] [2, 3, 4, 5, 6] [(4, .bool false), (3, iV (((scanN L : Nat) : Int))), (12, .bool false), (11, iV (((scanN L : Nat) : Int))), (8, .tuple #[iV (((scanN L : Nat) : Int)), .bool false])] (.mk ?_)
   refine yK [(3, iV (((scanN L : Nat) : Int))), (4, .bool false)] fun lr22 => ?_
   refine ySq ?_
   refine ySq ?_
   refine yPl [0, 1, 2, 3, 4, 5, 6, 7, 8, 9] ?_
   refine yB0 [] [0, 1, 2, 3, 4, 5, 6, 7, 8, 9] [(22, .bool true), (21, undef), (20, undef), (19, .bool true), (18, .bool true), (17, undef), (16, undef), (15, .bool true), (14, .bool true), (13, .bool false)] (.mk ?_)
   refine yK [(22, .bool true)] fun lr23 => ?_
   refine yCt ?_
   refine ySq ?_
   refine yPl [0] ?_
   refine yB0 [] [0] [(2, iV 16)] (.mk ?_)
   refine yK [(2, iV 16)] fun lr24 => ?_
   refine yRt ?_
   repeat (first | simp only [Exit.inBlock] | simp only [Exit.then])
   refine hi_out [] (iV 16) [] (by kernel_rfl) (by intro q hq; cases hq) ?_
   exact ⟨iV 16, [], rfl, ⟨by unfold tagE; rw [if_neg (by omega), if_neg (by rintro ⟨h1_, h2_, h3_⟩; first | omega | simp_all)], rfl⟩, h21⟩

end Go.Proofs.Ytjjpmehiolejgaa
