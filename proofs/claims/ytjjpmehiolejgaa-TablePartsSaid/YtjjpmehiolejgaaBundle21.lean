/-
  Tags, as plain functions of the lists of their bytes. No program in sight.
-/
import Derived.Test.YtjjpmehiolejgaaSrg
import Derived.Test.YtjjpmehiolejgaaBundle18
namespace Go.Proofs.Ytjjpmehiolejgaa
def badR (L : List UInt8) (p : Nat) : Prop := ((dec L p).1 = 65533 ∧ ¬ (L.drop p).take 3 = [239, 191, 189]) ∨ (dec L p).1 < 32 ∨ (dec L p).1 = 127
instance (L : List UInt8) (p : Nat) : Decidable (badR L p) := by unfold badR; infer_instance
def tagScan (L : List UInt8) : Nat → Nat → Nat → Option Nat
  | 0, _, n => some n
  | f + 1, p, n => if L.length ≤ p then some n else if badR L p then none else tagScan L f (p + (dec L p).2) (n + 1)
theorem scan_end {L : List UInt8} {f p n : Nat} (h : L.length ≤ p) : tagScan L f p n = some n := by
  cases f with
  | zero => rfl
  | succ f => exact if_pos h
theorem scan_bad {L : List UInt8} {f p n : Nat} (h : p < L.length) (hf : L.length ≤ p + f) (hb : badR L p) : tagScan L f p n = none := by
  cases f with
  | zero => omega
  | succ f =>
    show (if L.length ≤ p then _ else _) = _
    rw [if_neg (by omega), if_pos hb]
theorem scan_go {L : List UInt8} {f p n : Nat} (h : p < L.length) (hf : L.length ≤ p + f) (hb : ¬ badR L p) : tagScan L f p n = tagScan L (f - 1) (p + (dec L p).2) (n + 1) := by
  cases f with
  | zero => omega
  | succ f =>
    show (if L.length ≤ p then _ else _) = _
    rw [if_neg (by omega), if_neg hb]
    rfl
def scanN (L : List UInt8) : Nat := (tagScan L L.length 0 0).getD 0
def scanB (L : List UInt8) : Bool := (tagScan L L.length 0 0).isSome
/-- The error of a tag. -/
def tagE (L : List UInt8) : Int := if 96 < L.length then 16 else if scanB L = true ∧ 1 ≤ scanN L ∧ scanN L ≤ 24 then 0 else 16
theorem tagE_or (L : List UInt8) : tagE L = 0 ∨ tagE L = 16 := by
  unfold tagE
  split
  · exact .inr rfl
  · split
    · exact .inl rfl
    · exact .inr rfl
theorem pfx_len {L : List UInt8} {a b c : UInt8} (h : L.take 3 = [a, b, c]) : 3 ≤ L.length := by
  have := congrArg List.length h
  rw [List.length_take] at this
  simp only [List.length_cons, List.length_nil] at this
  omega
end Go.Proofs.Ytjjpmehiolejgaa

/- Walks, printed by my generator gen7.py. -/
namespace Go.Proofs.Ytjjpmehiolejgaa
set_option maxHeartbeats 4000000 in
theorem lpfx_t (L : List UInt8) (h : L.take 3 = [239, 191, 189]) (hm : L.length ≤ 1099511627776) : HT Try.prog 78 [Value.string (St L), Value.string (St [239, 191, 189])] [] (fun v K => v = Value.bool true ∧ K = []) := by
 have hl_ := pfx_len h
 refine hi_in 18 ([(0, .string (St L)), (1, .string (St [239, 191, 189]))] : Fr) Try.func78 (by kernel_rfl) Try.ntmps78 rfl rfl ?_
 intro g w0 R h0
 refine ySq ?_
 refine yPl [0] ?_
 refine yB0 [] [0] [(4, .bool false)] (.mk ?_)
 refine yK [(0, .string (St L)), (1, .string (St [239, 191, 189]))] fun lr1 => ?_
 refine ySq ?_
 refine yPl [0, 1, 2, 3, 4, 5, 6, 7, 8, 9, 10, 11, 12, 13] ?_
 refine yBb [9, 10, 11, 12, 13] [(13, iV 3), (12, .string (St [239, 191, 189])), (11, .string (St L)), (10, .bool true), (9, .bool true), (8, iV 3), (7, .string (St [239, 191, 189])), (6, iV (((L.length : Nat) : Int))), (5, .string (St L))] [e0 0, e1 1 (iV (((L.length : Nat) : Int))), e0 2, e1 3 (iV 3), e1 4 (.bool true), e0 5, e0 6, e0 7, e1 8 (iV 3)] [] [(iV ((St L).size : Int), iV (((L.length : Nat) : Int))), (iV ((St [239, 191, 189]).size : Int), iV 3), (.bool (decide (((L.length : Nat) : Int) ≥ 3)), .bool true), (iV ((St [239, 191, 189]).size : Int), iV 3)] ⟨(ov_int (st_len _)), (ov_int rfl), (ov_t (by omega)), (ov_int rfl), trivial⟩ nC ?_
 refine plain_law (i := 9) 14 (.string (St (L.take 3))) (by kernel_rfl) (law_strTo (o := opA (RA Try.f78 [1, 0]) 9) (t := 9) (x := (Operand.tmp 11)) (y := (Operand.tmp 13)) (L := L) (z := 3) (by kernel_rfl) Try.underlying9 (by kernel_rfl) (by kernel_rfl) 3 (by omega) (by omega) _) ?_
 refine yB0 [11, 12, 13] [10] [(15, .string (St [239, 191, 189]))] ?_
 refine plain_law (i := 11) 16 (.bool true) (by kernel_rfl) (law_eqStr (t := 9) (o := opA (RA Try.f78 [1, 0]) 11) (x := (Operand.tmp 14)) (y := (Operand.tmp 15)) (a := (L.take 3)) (b := [239, 191, 189]) (by kernel_rfl) (by kernel_rfl) (by kernel_rfl) true (decide_eq_true h) _) ?_
 refine yB0 [] [12, 13] [(4, .bool true), (17, .bool true)] (.mk ?_)
 refine yK [(4, .bool true)] fun lr2 => ?_
 refine yRt ?_
 repeat (first | simp only [Exit.inBlock] | simp only [Exit.then])
 refine hi_out [] (.bool true) [] (by kernel_rfl) (by intro q hq; cases hq) ?_
 exact ⟨.bool true, [], rfl, ⟨rfl, rfl⟩, h0⟩

set_option maxHeartbeats 4000000 in
theorem lpfx_f (L : List UInt8) (h : ¬ L.take 3 = [239, 191, 189]) (hm : L.length ≤ 1099511627776) : HT Try.prog 78 [Value.string (St L), Value.string (St [239, 191, 189])] [] (fun v K => v = Value.bool false ∧ K = []) := by
 refine hi_in 18 ([(0, .string (St L)), (1, .string (St [239, 191, 189]))] : Fr) Try.func78 (by kernel_rfl) Try.ntmps78 rfl rfl ?_
 intro g w0 R h0
 refine ySq ?_
 refine yPl [0] ?_
 refine yB0 [] [0] [(4, .bool false)] (.mk ?_)
 refine yK [(0, .string (St L)), (1, .string (St [239, 191, 189]))] fun lr1 => ?_
 refine ySq ?_
 refine yPl [0, 1, 2, 3, 4, 5, 6, 7, 8, 9, 10, 11, 12, 13] ?_
 refine yBb [4, 5, 6, 7, 8, 9, 10, 11, 12, 13] [(8, iV 3), (7, .string (St [239, 191, 189])), (6, iV (((L.length : Nat) : Int))), (5, .string (St L))] [e0 0, e1 1 (iV (((L.length : Nat) : Int))), e0 2, e1 3 (iV 3)] [] [(iV ((St L).size : Int), iV (((L.length : Nat) : Int))), (iV ((St [239, 191, 189]).size : Int), iV 3)] ⟨(ov_int (st_len _)), (ov_int rfl), trivial⟩ nC ?_
 by_cases c2 : ((L.length : Nat) : Int) ≥ 3
 ·
  refine yBb [9, 10, 11, 12, 13] [(13, iV 3), (12, .string (St [239, 191, 189])), (11, .string (St L)), (10, .bool true), (9, .bool true)] [e1 4 (.bool true), e0 5, e0 6, e0 7, e1 8 (iV 3)] [] [(.bool (decide (((L.length : Nat) : Int) ≥ 3)), .bool true), (iV ((St [239, 191, 189]).size : Int), iV 3)] ⟨(ov_t (by omega)), (ov_int rfl), trivial⟩ nC ?_
  refine plain_law (i := 9) 14 (.string (St (L.take 3))) (by kernel_rfl) (law_strTo (o := opA (RA Try.f78 [1, 0]) 9) (t := 9) (x := (Operand.tmp 11)) (y := (Operand.tmp 13)) (L := L) (z := 3) (by kernel_rfl) Try.underlying9 (by kernel_rfl) (by kernel_rfl) 3 (by omega) (by omega) _) ?_
  refine yB0 [11, 12, 13] [10] [(15, .string (St [239, 191, 189]))] ?_
  refine plain_law (i := 11) 16 (.bool false) (by kernel_rfl) (law_eqStr (t := 9) (o := opA (RA Try.f78 [1, 0]) 11) (x := (Operand.tmp 14)) (y := (Operand.tmp 15)) (a := (L.take 3)) (b := [239, 191, 189]) (by kernel_rfl) (by kernel_rfl) (by kernel_rfl) false (decide_eq_false h) _) ?_
  refine yB0 [] [12, 13] [(4, .bool false), (17, .bool false)] (.mk ?_)
  refine yK [(4, .bool false)] fun lr3 => ?_
  refine yRt ?_
  repeat (first | simp only [Exit.inBlock] | simp only [Exit.then])
  refine hi_out [] (.bool false) [] (by kernel_rfl) (by intro q hq; cases hq) ?_
  exact ⟨.bool false, [], rfl, ⟨rfl, rfl⟩, h0⟩
 ·
  refine yBb [] [(4, .bool false), (17, .bool false), (16, undef), (15, undef), (14, undef), (13, undef), (12, undef), (11, undef), (10, .bool false), (9, .bool false)] [e1 4 (.bool false), e0 5, e0 6, e0 7, e0 8, e0 9, e0 10, e0 11, e0 12, e0 13] [] [(.bool (decide (((L.length : Nat) : Int) ≥ 3)), .bool false)] ⟨(ov_f (by omega)), trivial⟩ nC (.mk ?_)
  refine yK [(4, .bool false)] fun lr4 => ?_
  refine yRt ?_
  repeat (first | simp only [Exit.inBlock] | simp only [Exit.then])
  refine hi_out [] (.bool false) [] (by kernel_rfl) (by intro q hq; cases hq) ?_
  exact ⟨.bool false, [], rfl, ⟨rfl, rfl⟩, h0⟩

set_option maxHeartbeats 4000000 in
theorem pfx_t (L : List UInt8) (h : L.take 3 = [239, 191, 189]) (hm : L.length ≤ 1099511627776) : HT Try.prog 75 [Value.string (St L), Value.string (St [239, 191, 189])] [] (fun v K => v = Value.bool true ∧ K = []) := by
 have hl_ := pfx_len h
 refine hi_in 8 ([(0, .string (St L)), (1, .string (St [239, 191, 189]))] : Fr) Try.func75 (by kernel_rfl) Try.ntmps75 rfl rfl ?_
 intro g w0 R h0
 refine ySq ?_
 refine yPl [0] ?_
 refine yB0 [] [0] [(4, .bool false)] (.mk ?_)
 refine yK [(0, .string (St L)), (1, .string (St [239, 191, 189]))] fun lr1 => ?_
 refine ySq ?_
 refine yPl [0, 1, 2, 3] ?_
 refine yB0 [2, 3] [0, 1] [(6, .string (St [239, 191, 189])), (5, .string (St L))] ?_
 refine yA ?_
 refine yCl 7 Try.call78 (lpfx_t L (by assumption) (by omega)) h0 ?_
 rintro v K w2 (⟨rfl, rfl⟩) h3
 refine ⟨_, rfl, ?_⟩
 have h4 := ap0 h3
 refine yB0 [] [3] [(4, .bool true)] (.mk ?_)
 refine yK [(4, .bool true)] fun lr5 => ?_
 refine yRt ?_
 repeat (first | simp only [Exit.inBlock] | simp only [Exit.then])
 refine hi_out [] (.bool true) [] (by kernel_rfl) (by intro q hq; cases hq) ?_
 exact ⟨.bool true, [], rfl, ⟨rfl, rfl⟩, h4⟩

set_option maxHeartbeats 4000000 in
theorem pfx_f (L : List UInt8) (h : ¬ L.take 3 = [239, 191, 189]) (hm : L.length ≤ 1099511627776) : HT Try.prog 75 [Value.string (St L), Value.string (St [239, 191, 189])] [] (fun v K => v = Value.bool false ∧ K = []) := by
 refine hi_in 8 ([(0, .string (St L)), (1, .string (St [239, 191, 189]))] : Fr) Try.func75 (by kernel_rfl) Try.ntmps75 rfl rfl ?_
 intro g w0 R h0
 refine ySq ?_
 refine yPl [0] ?_
 refine yB0 [] [0] [(4, .bool false)] (.mk ?_)
 refine yK [(0, .string (St L)), (1, .string (St [239, 191, 189]))] fun lr1 => ?_
 refine ySq ?_
 refine yPl [0, 1, 2, 3] ?_
 refine yB0 [2, 3] [0, 1] [(6, .string (St [239, 191, 189])), (5, .string (St L))] ?_
 refine yA ?_
 refine yCl 7 Try.call78 (lpfx_f L (by assumption) (by omega)) h0 ?_
 rintro v K w2 (⟨rfl, rfl⟩) h3
 refine ⟨_, rfl, ?_⟩
 have h4 := ap0 h3
 refine yB0 [] [3] [(4, .bool false)] (.mk ?_)
 refine yK [(4, .bool false)] fun lr5 => ?_
 refine yRt ?_
 repeat (first | simp only [Exit.inBlock] | simp only [Exit.then])
 refine hi_out [] (.bool false) [] (by kernel_rfl) (by intro q hq; cases hq) ?_
 exact ⟨.bool false, [], rfl, ⟨rfl, rfl⟩, h4⟩

set_option maxHeartbeats 4000000 in
theorem rune_t (c : Int) (h : 32 ≤ c ∧ c ≠ 127) : HT Try.prog 68 [Value.int IntKind.i32 c] [] (fun v K => v = Value.bool true ∧ K = []) := by
 refine hi_in 9 ([(0, .int .i32 c)] : Fr) Try.func68 (by kernel_rfl) Try.ntmps68 rfl rfl ?_
 intro g w0 R h0
 refine ySq ?_
 refine yPl [0] ?_
 refine yB0 [] [0] [(2, .bool false)] (.mk ?_)
 refine yK [(0, .int .i32 c)] fun lr1 => ?_
 refine ySq ?_
 refine yPl [0, 1, 2, 3, 4, 5, 6] ?_
 refine yBb [] [(2, .bool true), (8, .bool true), (7, .bool true), (6, .int .i32 c), (5, .bool true), (4, .bool true), (3, .int .i32 c)] [e0 0, e1 1 (.bool true), e0 2, e0 3, e1 4 (.bool true), e0 5, e0 6] [] [(.bool (decide (c ≥ 32)), .bool true), (.bool (c != 127), .bool true)] ⟨(ov_t (by omega)), (ov_nt (by omega)), trivial⟩ nC (.mk ?_)
 refine yK [(2, .bool true)] fun lr2 => ?_
 refine yRt ?_
 repeat (first | simp only [Exit.inBlock] | simp only [Exit.then])
 refine hi_out [] (.bool true) [] (by kernel_rfl) (by intro q hq; cases hq) ?_
 exact ⟨.bool true, [], rfl, ⟨rfl, rfl⟩, h0⟩

set_option maxHeartbeats 4000000 in
theorem rune_f (c : Int) (h : c < 32 ∨ c = 127) : HT Try.prog 68 [Value.int IntKind.i32 c] [] (fun v K => v = Value.bool false ∧ K = []) := by
 refine hi_in 9 ([(0, .int .i32 c)] : Fr) Try.func68 (by kernel_rfl) Try.ntmps68 rfl rfl ?_
 intro g w0 R h0
 refine ySq ?_
 refine yPl [0] ?_
 refine yB0 [] [0] [(2, .bool false)] (.mk ?_)
 refine yK [(0, .int .i32 c)] fun lr1 => ?_
 refine ySq ?_
 refine yPl [0, 1, 2, 3, 4, 5, 6] ?_
 refine yB0 [1, 2, 3, 4, 5, 6] [0] [(3, .int .i32 c)] ?_
 by_cases c2 : c ≥ 32
 ·
  refine yBb [] [(2, .bool false), (8, .bool false), (7, .bool false), (6, .int .i32 c), (5, .bool true), (4, .bool true)] [e1 1 (.bool true), e0 2, e0 3, e1 4 (.bool false), e0 5, e0 6] [] [(.bool (decide (c ≥ 32)), .bool true), (.bool (c != 127), .bool false)] ⟨(ov_t (by omega)), (ov_nf (by omega)), trivial⟩ nC (.mk ?_)
  refine yK [(2, .bool false)] fun lr3 => ?_
  refine yRt ?_
  repeat (first | simp only [Exit.inBlock] | simp only [Exit.then])
  refine hi_out [] (.bool false) [] (by kernel_rfl) (by intro q hq; cases hq) ?_
  exact ⟨.bool false, [], rfl, ⟨rfl, rfl⟩, h0⟩
 ·
  refine yBb [] [(2, .bool false), (8, .bool false), (7, undef), (6, undef), (5, .bool false), (4, .bool false)] [e1 1 (.bool false), e0 2, e0 3, e0 4, e0 5, e0 6] [] [(.bool (decide (c ≥ 32)), .bool false)] ⟨(ov_f (by omega)), trivial⟩ nC (.mk ?_)
  refine yK [(2, .bool false)] fun lr4 => ?_
  refine yRt ?_
  repeat (first | simp only [Exit.inBlock] | simp only [Exit.then])
  refine hi_out [] (.bool false) [] (by kernel_rfl) (by intro q hq; cases hq) ?_
  exact ⟨.bool false, [], rfl, ⟨rfl, rfl⟩, h0⟩

set_option maxHeartbeats 4000000 in
theorem tall_ht (L : List UInt8) (hm : L.length ≤ 1099511627776) : HT Try.prog 67 [Value.string (St L), Value.func (Fn.func 68) #[] #[]] [] (fun v K => v = Value.tuple #[Value.int .i64 (scanN L : Int), Value.bool (scanB L)] ∧ K = []) := by
 refine hi_in 33 ([(0, .string (St L)), (1, .func (Fn.func 68) #[] #[])] : Fr) Try.func67 (by kernel_rfl) Try.ntmps67 rfl rfl ?_
 intro g w0 R h0
 refine ySq ?_
 refine yPl [0, 1] ?_
 refine yB0 [] [0, 1] [(5, .bool false), (4, iV 0)] (.mk ?_)
 refine yK [(0, .string (St L)), (1, .func (Fn.func 68) #[] #[])] fun lr1 => ?_
 refine ySq ?_
 refine yPl [0] ?_
 refine yB0 [] [0] [(6, iV 0)] (.mk ?_)
 refine yK [(0, .string (St L)), (1, .func (Fn.func 68) #[] #[]), (6, iV 0)] fun lr2 => ?_
 refine ySq ?_
 refine ySq ?_
 refine yPl [0, 1] ?_
 refine yB0 [1] [0] [(9, .string (St L))] ?_
 refine yA ?_
 refine as_rangeStr (t := 9) (d := 10) (x := (Operand.tmp 9)) (L := L) (by kernel_rfl) (by kernel_rfl) rfl Try.underlying9 (by kernel_rfl) h0 ?_
 intro r3 w4 h5
 refine PO.mk ?_
 refine yK [(0, .string (St L)), (1, .func (Fn.func 68) #[] #[]), (6, iV 0), (10, pV r3)] fun lr6 => ?_
 refine yBk 0 ?_
 refine gi_lp (x := CA Try.f67 [1, 1, 0, 1, 0, 0]) (by kernel_rfl) (fun mz_ a w => ∃ p : Nat, ∃ n : Nat, ∃ f : Nat, ∃ lr : Fr, mz_ = L.length - p ∧ (n ≤ p) ∧ (L.length ≤ p + f) ∧ (tagScan L L.length 0 0 = tagScan L f p n) ∧ a = mk 33 (([(0, .string (St L)), (1, .func (Fn.func 68) #[] #[]), (6, iV (n : Int)), (10, pV r3)] : Fr) ++ lr) ∧ sat g w [Si r3 L p, R]) (L.length - 0) ⟨0, 0, L.length, _, rfl, (Nat.le_refl _), (by omega), rfl, (mk_live [(0, .string (St L)), (1, .func (Fn.func 68) #[] #[]), (6, iV (0 : Int)), (10, pV r3)] ⟨rfl, rfl, (ov_int (by omega)), rfl, trivial⟩), h5⟩ ?_
 rintro m8 a9 w10 ⟨p, n, f, lr7, rfl, hn_, hf_, ht_, rfl, h11⟩
 refine ySq ?_
 refine yPl [0, 1] ?_
 by_cases c12 : p < L.length
 ·
  have hd13 := dec_pos (L := L) (p := p) (by omega); have hd14 := dec_max L p
  refine yA ?_
  refine as_next (d := 11) (x := (Operand.tmp 10)) (r := r3) (L := L) (p := p) (by kernel_rfl) (by kernel_rfl) rfl (by kernel_rfl) h11 (by omega) (by omega) ?_
  intro w15 h16
  refine yB0 [] [1] [(12, .bool true)] (.mk ?_)
  refine yK [(0, .string (St L)), (1, .func (Fn.func 68) #[] #[]), (6, iV (n : Int)), (10, pV r3), (11, .tuple #[.bool true, iV (p : Int), .int .i32 ((((dec L p).1 : Nat) : Int))]), (12, .bool true)] fun lr17 => ?_
  refine ySq ?_
  refine yCt ?_
  refine ySk ?_
  refine yBk 1 ?_
  refine ySq ?_
  refine yPl [0, 1, 2, 3] ?_
  refine yB0 [] [0, 1, 2, 3] [(8, .int .i32 ((((dec L p).1 : Nat) : Int))), (7, iV (p : Int)), (14, .int .i32 ((((dec L p).1 : Nat) : Int))), (13, iV (p : Int))] (.mk ?_)
  refine yK [(0, .string (St L)), (1, .func (Fn.func 68) #[] #[]), (6, iV (n : Int)), (7, iV (p : Int)), (8, .int .i32 ((((dec L p).1 : Nat) : Int))), (10, pV r3)] fun lr18 => ?_
  refine ySq ?_
  refine ySq ?_
  refine yPl [0, 1, 2, 3, 4, 5, 6, 7, 8, 9, 10, 11, 12, 13, 14] ?_
  refine yB0 [1, 2, 3, 4, 5, 6, 7, 8, 9, 10, 11, 12, 13, 14] [0] [(15, .int .i32 ((((dec L p).1 : Nat) : Int)))] ?_
  by_cases c19 : (((dec L p).1 : Nat) : Int) = 65533
  ·
   refine yBb [5, 6, 7, 8, 9, 10, 11, 12, 13, 14] [(19, iV (p : Int)), (18, .string (St L)), (17, .bool true), (16, .bool true)] [e1 1 (.bool true), e0 2, e0 3, e0 4] [] [(.bool (((((dec L p).1 : Nat) : Int)) == 65533), .bool true)] ⟨(ov_et (by omega)), trivial⟩ nC ?_
   refine plain_law (i := 5) 20 (.string (St (L.drop p))) (by kernel_rfl) (law_strFrom (o := opA (RA Try.f67 [1, 1, 0, 1, 0, 0, 1, 1, 0, 1, 0, 0]) 5) (t := 9) (x := (Operand.tmp 18)) (y := (Operand.tmp 19)) (L := L) (z := (p : Int)) (by kernel_rfl) Try.underlying9 (by kernel_rfl) (by kernel_rfl) p (by omega) (by omega) _) ?_
   by_cases c20 : (L.drop p).take 3 = ([239, 191, 189] : List UInt8)
   ·
    refine yA ?_
    refine yCl 21 Try.call75 (pfx_t (L.drop p) (by assumption) (by rw [List.length_drop]; omega)) h16 ?_
    rintro v K w21 (⟨rfl, rfl⟩) h22
    refine ⟨_, rfl, ?_⟩
    have h23 := ap0 h22
    refine yB0 [12, 13, 14] [7, 8, 9, 10, 11] [(26, .int .i32 ((((dec L p).1 : Nat) : Int))), (25, .func (Fn.func 68) #[] #[]), (24, .bool false), (23, .bool false), (22, .bool false)] ?_
    refine yA ?_
    refine yCl 27 Try.call68 (rune_t ((((dec L p).1 : Nat) : Int)) (by omega)) h23 ?_
    rintro v K w24 (⟨rfl, rfl⟩) h25
    refine ⟨_, rfl, ?_⟩
    have h26 := ap0 h25
    refine yB0 [] [13, 14] [(29, .bool false), (28, .bool false)] (.mk ?_)
    refine yK [(0, .string (St L)), (1, .func (Fn.func 68) #[] #[]), (6, iV (n : Int)), (10, pV r3), (29, .bool false)] fun lr27 => ?_
    refine yCf ?_
    refine ySk ?_
    refine yPl [0, 1, 2] ?_
    refine yBb [] [(6, iV ((n : Int) + 1)), (31, iV ((n : Int) + 1)), (30, iV (n : Int))] [e0 0, e1 1 (iV ((n : Int) + 1)), e0 2] [] [(iV (IntKind.wrap .i64 ((n : Int) + 1)), iV ((n : Int) + 1))] ⟨(ov_i64 (by omega) (by omega) (by omega)), trivial⟩ nC (.mk ?_)
    have hg_ : ¬ badR L p := by
     rintro (⟨h1_, h2_⟩ | h1_ | h1_) <;> first | omega | exact absurd (by assumption) h2_
    change ∃ n', n' < _ ∧ _
    refine ⟨(L.length - (p + ((dec L p).2))), by omega, p + ((dec L p).2), (n + 1), (f - 1), _, rfl, (by omega), (by omega), (ht_.trans (scan_go (by omega) hf_ hg_)), (mk_live [(0, .string (St L)), (1, .func (Fn.func 68) #[] #[]), (6, iV ((((n + 1) : Nat) : Int))), (10, pV r3)] ⟨rfl, rfl, (ov_int (by omega)), rfl, trivial⟩), h26⟩
   ·
    refine yA ?_
    refine yCl 21 Try.call75 (pfx_f (L.drop p) (by assumption) (by rw [List.length_drop]; omega)) h16 ?_
    rintro v K w28 (⟨rfl, rfl⟩) h29
    refine ⟨_, rfl, ?_⟩
    have h30 := ap0 h29
    refine yB0 [12, 13, 14] [7, 8, 9, 10, 11] [(26, undef), (25, undef), (24, .bool true), (23, .bool true), (22, .bool true)] ?_
    refine plain_skip (by kernel_rfl : chkN (RA Try.f67 [1, 1, 0, 1, 0, 0, 1, 1, 0, 1, 0, 0]) 33 _ 12 = some (some 27)) rfl ?_
    refine yB0 [] [13, 14] [(29, .bool true), (28, undef)] (.mk ?_)
    refine yK [(0, .string (St L)), (1, .func (Fn.func 68) #[] #[]), (6, iV (n : Int)), (10, pV r3), (29, .bool true)] fun lr31 => ?_
    refine yCt ?_
    refine ySq ?_
    refine yPl [0, 1] ?_
    refine yB0 [] [0, 1] [(5, .bool false), (4, iV 0)] (.mk ?_)
    refine yK [(4, iV 0), (5, .bool false)] fun lr32 => ?_
    refine yRt ?_
    repeat (first | simp only [Exit.inBlock] | simp only [Exit.then])
    have hb_ : badR L p := by
     first | exact .inr (.inl (by omega)) | exact .inr (.inr (by omega)) | exact .inl ⟨by omega, by assumption⟩
    have hs_ : tagScan L L.length 0 0 = none := ht_.trans (scan_bad (by omega) hf_ hb_)
    have h33 := tk1 (sf1 h30)
    refine hi_out [] (.tuple #[iV 0, .bool false]) [] (by kernel_rfl) (by intro q hq; cases hq) ?_
    exact ⟨.tuple #[iV 0, .bool false], [], rfl, ⟨by unfold scanN scanB; rw [hs_]; rfl, rfl⟩, h33⟩
  ·
   refine yBb [6, 7, 8, 9, 10, 11, 12, 13, 14] [(20, undef), (19, undef), (18, undef), (17, .bool false), (16, .bool false)] [e1 1 (.bool false), e0 2, e0 3, e0 4, e0 5] [] [(.bool (((((dec L p).1 : Nat) : Int)) == 65533), .bool false)] ⟨(ov_ef (by omega)), trivial⟩ nC ?_
   refine plain_skip (by kernel_rfl : chkN (RA Try.f67 [1, 1, 0, 1, 0, 0, 1, 1, 0, 1, 0, 0]) 33 _ 6 = some (some 21)) rfl ?_
   refine yB0 [12, 13, 14] [7, 8, 9, 10, 11] [(26, .int .i32 ((((dec L p).1 : Nat) : Int))), (25, .func (Fn.func 68) #[] #[]), (24, .bool false), (23, .bool false), (22, undef)] ?_
   by_cases c34 : 32 ≤ (((dec L p).1 : Nat) : Int)
   ·
    by_cases c35 : (((dec L p).1 : Nat) : Int) = 127
    ·
     refine yA ?_
     refine yCl 27 Try.call68 (rune_f ((((dec L p).1 : Nat) : Int)) (by omega)) h16 ?_
     rintro v K w36 (⟨rfl, rfl⟩) h37
     refine ⟨_, rfl, ?_⟩
     have h38 := ap0 h37
     refine yB0 [] [13, 14] [(29, .bool true), (28, .bool true)] (.mk ?_)
     refine yK [(0, .string (St L)), (1, .func (Fn.func 68) #[] #[]), (6, iV (n : Int)), (10, pV r3), (29, .bool true)] fun lr39 => ?_
     refine yCt ?_
     refine ySq ?_
     refine yPl [0, 1] ?_
     refine yB0 [] [0, 1] [(5, .bool false), (4, iV 0)] (.mk ?_)
     refine yK [(4, iV 0), (5, .bool false)] fun lr40 => ?_
     refine yRt ?_
     repeat (first | simp only [Exit.inBlock] | simp only [Exit.then])
     have hb_ : badR L p := by
      first | exact .inr (.inl (by omega)) | exact .inr (.inr (by omega)) | exact .inl ⟨by omega, by assumption⟩
     have hs_ : tagScan L L.length 0 0 = none := ht_.trans (scan_bad (by omega) hf_ hb_)
     have h41 := tk1 (sf1 h38)
     refine hi_out [] (.tuple #[iV 0, .bool false]) [] (by kernel_rfl) (by intro q hq; cases hq) ?_
     exact ⟨.tuple #[iV 0, .bool false], [], rfl, ⟨by unfold scanN scanB; rw [hs_]; rfl, rfl⟩, h41⟩
    ·
     refine yA ?_
     refine yCl 27 Try.call68 (rune_t ((((dec L p).1 : Nat) : Int)) (by omega)) h16 ?_
     rintro v K w42 (⟨rfl, rfl⟩) h43
     refine ⟨_, rfl, ?_⟩
     have h44 := ap0 h43
     refine yB0 [] [13, 14] [(29, .bool false), (28, .bool false)] (.mk ?_)
     refine yK [(0, .string (St L)), (1, .func (Fn.func 68) #[] #[]), (6, iV (n : Int)), (10, pV r3), (29, .bool false)] fun lr45 => ?_
     refine yCf ?_
     refine ySk ?_
     refine yPl [0, 1, 2] ?_
     refine yBb [] [(6, iV ((n : Int) + 1)), (31, iV ((n : Int) + 1)), (30, iV (n : Int))] [e0 0, e1 1 (iV ((n : Int) + 1)), e0 2] [] [(iV (IntKind.wrap .i64 ((n : Int) + 1)), iV ((n : Int) + 1))] ⟨(ov_i64 (by omega) (by omega) (by omega)), trivial⟩ nC (.mk ?_)
     have hg_ : ¬ badR L p := by
      rintro (⟨h1_, h2_⟩ | h1_ | h1_) <;> first | omega | exact absurd (by assumption) h2_
     change ∃ n', n' < _ ∧ _
     refine ⟨(L.length - (p + ((dec L p).2))), by omega, p + ((dec L p).2), (n + 1), (f - 1), _, rfl, (by omega), (by omega), (ht_.trans (scan_go (by omega) hf_ hg_)), (mk_live [(0, .string (St L)), (1, .func (Fn.func 68) #[] #[]), (6, iV ((((n + 1) : Nat) : Int))), (10, pV r3)] ⟨rfl, rfl, (ov_int (by omega)), rfl, trivial⟩), h44⟩
   ·
    refine yA ?_
    refine yCl 27 Try.call68 (rune_f ((((dec L p).1 : Nat) : Int)) (by omega)) h16 ?_
    rintro v K w46 (⟨rfl, rfl⟩) h47
    refine ⟨_, rfl, ?_⟩
    have h48 := ap0 h47
    refine yB0 [] [13, 14] [(29, .bool true), (28, .bool true)] (.mk ?_)
    refine yK [(0, .string (St L)), (1, .func (Fn.func 68) #[] #[]), (6, iV (n : Int)), (10, pV r3), (29, .bool true)] fun lr49 => ?_
    refine yCt ?_
    refine ySq ?_
    refine yPl [0, 1] ?_
    refine yB0 [] [0, 1] [(5, .bool false), (4, iV 0)] (.mk ?_)
    refine yK [(4, iV 0), (5, .bool false)] fun lr50 => ?_
    refine yRt ?_
    repeat (first | simp only [Exit.inBlock] | simp only [Exit.then])
    have hb_ : badR L p := by
     first | exact .inr (.inl (by omega)) | exact .inr (.inr (by omega)) | exact .inl ⟨by omega, by assumption⟩
    have hs_ : tagScan L L.length 0 0 = none := ht_.trans (scan_bad (by omega) hf_ hb_)
    have h51 := tk1 (sf1 h48)
    refine hi_out [] (.tuple #[iV 0, .bool false]) [] (by kernel_rfl) (by intro q hq; cases hq) ?_
    exact ⟨.tuple #[iV 0, .bool false], [], rfl, ⟨by unfold scanN scanB; rw [hs_]; rfl, rfl⟩, h51⟩
 ·
  refine yA ?_
  refine as_nextEnd (d := 11) (x := (Operand.tmp 10)) (r := r3) (L := L) (p := p) (by kernel_rfl) (by kernel_rfl) rfl (by kernel_rfl) (j := 0) h11 rfl (by omega) ?_
  refine yB0 [] [1] [(12, .bool false)] (.mk ?_)
  refine yK [(0, .string (St L)), (1, .func (Fn.func 68) #[] #[]), (6, iV (n : Int)), (10, pV r3), (11, .tuple #[.bool false]), (12, .bool false)] fun lr52 => ?_
  refine ySq ?_
  refine yCf ?_
  refine yEx 0 ?_
  refine ySq ?_
  refine yPl [0, 1, 2] ?_
  refine yB0 [] [0, 1, 2] [(5, .bool true), (4, iV (n : Int)), (32, iV (n : Int))] (.mk ?_)
  refine yK [(4, iV (n : Int)), (5, .bool true)] fun lr53 => ?_
  refine yRt ?_
  repeat (first | simp only [Exit.inBlock] | simp only [Exit.then])
  have hs_ : tagScan L L.length 0 0 = some n := ht_.trans (scan_end (by omega))
  have h54 := tk1 (sf1 h11)
  refine hi_out [] (.tuple #[iV (n : Int), .bool true]) [] (by kernel_rfl) (by intro q hq; cases hq) ?_
  exact ⟨.tuple #[iV (n : Int), .bool true], [], rfl, ⟨by unfold scanN scanB; rw [hs_]; rfl, rfl⟩, h54⟩

set_option maxHeartbeats 4000000 in
theorem tag_ht (L : List UInt8) (hm : L.length ≤ 1099511627776) : HT Try.prog 50 [Value.string (St L)] [] (fun v K => v = Value.int .i64 (tagE L) ∧ K = []) := by
 refine hi_in 23 ([(0, .string (St L))] : Fr) Try.func50 (by kernel_rfl) Try.ntmps50 rfl rfl ?_
 intro g w0 R h0
 refine ySq ?_
 refine yPl [0] ?_
 refine yB0 [] [0] [(2, iV 0)] (.mk ?_)
 refine yK [(0, .string (St L))] fun lr1 => ?_
 refine ySq ?_
 refine ySq ?_
 refine yPl [0, 1, 2] ?_
 refine yBb [2] [(6, iV (((L.length : Nat) : Int))), (5, .string (St L))] [e0 0, e1 1 (iV (((L.length : Nat) : Int)))] [] [(iV ((St L).size : Int), iV (((L.length : Nat) : Int)))] ⟨(ov_int (st_len _)), trivial⟩ nC ?_
 by_cases c2 : ((L.length : Nat) : Int) > 96
 ·
  refine yBb [] [(7, .bool true)] [e1 2 (.bool true)] [] [(.bool (decide (((L.length : Nat) : Int) > 96)), .bool true)] ⟨(ov_t (by omega)), trivial⟩ nC (.mk ?_)
  refine yK [(0, .string (St L)), (7, .bool true)] fun lr3 => ?_
  refine yCt ?_
  refine ySq ?_
  refine yPl [0] ?_
  refine yB0 [] [0] [(2, iV 16)] (.mk ?_)
  refine yK [(2, iV 16)] fun lr4 => ?_
  refine yRt ?_
  repeat (first | simp only [Exit.inBlock] | simp only [Exit.then])
  refine hi_out [] (iV 16) [] (by kernel_rfl) (by intro q hq; cases hq) ?_
  exact ⟨iV 16, [], rfl, ⟨by unfold tagE; rw [if_pos (by omega)], rfl⟩, h0⟩
 ·
  refine yBb [] [(7, .bool false)] [e1 2 (.bool false)] [] [(.bool (decide (((L.length : Nat) : Int) > 96)), .bool false)] ⟨(ov_f (by omega)), trivial⟩ nC (.mk ?_)
  refine yK [(0, .string (St L)), (7, .bool false)] fun lr5 => ?_
  refine yCf ?_
  refine ySk ?_
  refine ySq ?_
  refine yPl [0, 1, 2, 3, 4, 5, 6] ?_
  refine yB0 [1, 2, 3, 4, 5, 6] [0] [(9, .string (St L))] ?_
  rcases Bool.eq_false_or_eq_true (scanB L) with cb6 | cb6
  ·
   refine yA ?_
   refine yCl 10 Try.call67 ((by have h_ := tall_ht L (by omega); rw [cb6] at h_; exact h_)) h0 ?_
   rintro v K w7 (⟨rfl, rfl⟩) h8
   refine ⟨_, rfl, ?_⟩
   have h9 := ap0 h8
   refine yB0 [] [2, 3, 4, 5, 6] [(4, .bool true), (3, iV (((scanN L : Nat) : Int))), (12, .bool true), (11, iV (((scanN L : Nat) : Int))), (8, .tuple #[iV (((scanN L : Nat) : Int)), .bool true])] (.mk ?_)
   refine yK [(3, iV (((scanN L : Nat) : Int))), (4, .bool true)] fun lr10 => ?_
   refine ySq ?_
   refine ySq ?_
   refine yPl [0, 1, 2, 3, 4, 5, 6, 7, 8, 9] ?_
   refine yB0 [4, 5, 6, 7, 8, 9] [0, 1, 2, 3] [(16, iV (((scanN L : Nat) : Int))), (15, .bool false), (14, .bool false), (13, .bool true)] ?_
   by_cases c11 : ((scanN L : Nat) : Int) < 1
   ·
    refine yBb [] [(22, .bool true), (21, undef), (20, undef), (19, .bool true), (18, .bool true), (17, .bool true)] [e1 4 (.bool true), e0 5, e0 6, e0 7, e0 8, e0 9] [] [(.bool (decide (((scanN L : Nat) : Int) < 1)), .bool true)] ⟨(ov_t (by omega)), trivial⟩ nC (.mk ?_)
    refine yK [(22, .bool true)] fun lr12 => ?_
    refine yCt ?_
    refine ySq ?_
    refine yPl [0] ?_
    refine yB0 [] [0] [(2, iV 16)] (.mk ?_)
    refine yK [(2, iV 16)] fun lr13 => ?_
    refine yRt ?_
    repeat (first | simp only [Exit.inBlock] | simp only [Exit.then])
    refine hi_out [] (iV 16) [] (by kernel_rfl) (by intro q hq; cases hq) ?_
    exact ⟨iV 16, [], rfl, ⟨by unfold tagE; rw [if_neg (by omega), if_neg (by rintro ⟨h1_, h2_, h3_⟩; first | omega | simp_all)], rfl⟩, h9⟩
   ·
    refine yBb [8, 9] [(20, iV (((scanN L : Nat) : Int))), (19, .bool false), (18, .bool false), (17, .bool false)] [e1 4 (.bool false), e0 5, e0 6, e0 7] [] [(.bool (decide (((scanN L : Nat) : Int) < 1)), .bool false)] ⟨(ov_f (by omega)), trivial⟩ nC ?_
    by_cases c14 : ((scanN L : Nat) : Int) > 24
    ·
     refine yBb [] [(22, .bool true), (21, .bool true)] [e1 8 (.bool true), e0 9] [] [(.bool (decide (((scanN L : Nat) : Int) > 24)), .bool true)] ⟨(ov_t (by omega)), trivial⟩ nC (.mk ?_)
     refine yK [(22, .bool true)] fun lr15 => ?_
     refine yCt ?_
     refine ySq ?_
     refine yPl [0] ?_
     refine yB0 [] [0] [(2, iV 16)] (.mk ?_)
     refine yK [(2, iV 16)] fun lr16 => ?_
     refine yRt ?_
     repeat (first | simp only [Exit.inBlock] | simp only [Exit.then])
     refine hi_out [] (iV 16) [] (by kernel_rfl) (by intro q hq; cases hq) ?_
     exact ⟨iV 16, [], rfl, ⟨by unfold tagE; rw [if_neg (by omega), if_neg (by rintro ⟨h1_, h2_, h3_⟩; first | omega | simp_all)], rfl⟩, h9⟩
    ·
     refine yBb [] [(22, .bool false), (21, .bool false)] [e1 8 (.bool false), e0 9] [] [(.bool (decide (((scanN L : Nat) : Int) > 24)), .bool false)] ⟨(ov_f (by omega)), trivial⟩ nC (.mk ?_)
     refine yK [(22, .bool false)] fun lr17 => ?_
     refine yCf ?_
     refine ySk ?_
     refine ySq ?_
     refine yPl [0] ?_
     refine yB0 [] [0] [(2, iV 0)] (.mk ?_)
     refine yK [(2, iV 0)] fun lr18 => ?_
     refine yRt ?_
     repeat (first | simp only [Exit.inBlock] | simp only [Exit.then])
     refine hi_out [] (iV 0) [] (by kernel_rfl) (by intro q hq; cases hq) ?_
     exact ⟨iV 0, [], rfl, ⟨by unfold tagE; rw [if_neg (by omega), if_pos ⟨by assumption, by omega, by omega⟩], rfl⟩, h9⟩
  ·
   refine yA ?_
   refine yCl 10 Try.call67 ((by have h_ := tall_ht L (by omega); rw [cb6] at h_; exact h_)) h0 ?_
   rintro v K w19 (⟨rfl, rfl⟩) h20
   refine ⟨_, rfl, ?_⟩
   have h21 := ap0 h20
   refine yB0 [] [2, 3, 4, 5, 6] [(4, .bool false), (3, iV (((scanN L : Nat) : Int))), (12, .bool false), (11, iV (((scanN L : Nat) : Int))), (8, .tuple #[iV (((scanN L : Nat) : Int)), .bool false])] (.mk ?_)
   refine yK [(3, iV (((scanN L : Nat) : Int))), (4, .bool false)] fun lr22 => ?_
   refine ySq ?_
   refine ySq ?_
   refine yPl [0, 1, 2, 3, 4, 5, 6, 7, 8, 9] ?_
   refine yB0 [] [0, 1, 2, 3, 4, 5, 6, 7, 8, 9] [(22, .bool true), (21, undef), (20, undef), (19, .bool true), (18, .bool true), (17, undef), (16, undef), (15, .bool true), (14, .bool true), (13, .bool false)] (.mk ?_)
   refine yK [(22, .bool true)] fun lr23 => ?_
   refine yCt ?_
   refine ySq ?_
   refine yPl [0] ?_
   refine yB0 [] [0] [(2, iV 16)] (.mk ?_)
   refine yK [(2, iV 16)] fun lr24 => ?_
   refine yRt ?_
   repeat (first | simp only [Exit.inBlock] | simp only [Exit.then])
   refine hi_out [] (iV 16) [] (by kernel_rfl) (by intro q hq; cases hq) ?_
   exact ⟨iV 16, [], rfl, ⟨by unfold tagE; rw [if_neg (by omega), if_neg (by rintro ⟨h1_, h2_, h3_⟩; first | omega | simp_all)], rfl⟩, h21⟩

end Go.Proofs.Ytjjpmehiolejgaa

/-
  Resources, as plain functions. No program in sight.
-/
namespace Go.Proofs.Ytjjpmehiolejgaa
def posP (x y z st why tr nx : Int) : Prop := (1 ≤ x ∧ x ≤ 3 ∧ 0 ≤ y ∧ y ≤ 63 ∧ 1 ≤ z) ∧ ((st = 1 ∧ why = 0 ∧ tr = 0 ∧ nx = 0) ∨ (st = 2 ∧ 1 ≤ why ∧ why ≤ 3 ∧ 0 ≤ tr ∧ tr ≤ 10000 ∧ 0 ≤ nx ∧ nx ≤ 1099511627776) ∨ ((st = 3 ∨ st = 4) ∧ 1 ≤ why ∧ why ≤ 3 ∧ 0 ≤ tr ∧ tr ≤ 10000 ∧ nx = 0))
instance (x y z st why tr nx : Int) : Decidable (posP x y z st why tr nx) := by unfold posP; infer_instance
structure Rs where
  out : Ky
  st : Int
  why : Int
  tr : Int
  nx : Int
  tag : List UInt8
def eRs (r : Rs) : List Value := [.int .i64 r.out.1, .int .i64 r.out.2.1, .int .u32 r.out.2.2, .int .i64 r.st, .int .i64 r.why, .int .i64 r.tr, .int .i64 r.nx, .string (St r.tag)]
theorem eRs_ok : Enc 8 eRs := ⟨fun _ => rfl, fun x v hv => by simp [eRs] at hv; rcases hv with rfl | rfl | rfl | rfl | rfl | rfl | rfl | rfl <;> rfl⟩
/-- The error of a resource. -/
def resE (x y z st why tr nx : Int) (L : List UInt8) : Int := if posP x y z st why tr nx then tagE L else 2
end Go.Proofs.Ytjjpmehiolejgaa

/- Walks, printed by my generator gen8.py. -/
namespace Go.Proofs.Ytjjpmehiolejgaa
set_option maxHeartbeats 4000000 in
theorem in_t (v lo hi : Int) (h : lo ≤ v ∧ v ≤ hi) : HT Try.prog 65 [Value.int IntKind.i64 v, Value.int IntKind.i64 lo, Value.int IntKind.i64 hi] [] (fun r K => r = Value.bool true ∧ K = []) := by
 refine hi_in 15 ([(0, iV v), (1, iV lo), (2, iV hi)] : Fr) Try.func65 (by kernel_rfl) Try.ntmps65 rfl rfl ?_
 intro g w0 R h0
 refine ySq ?_
 refine yPl [0] ?_
 refine yB0 [] [0] [(6, .bool false)] (.mk ?_)
 refine yK [(0, iV v), (1, iV lo), (2, iV hi)] fun lr1 => ?_
 refine ySq ?_
 refine yPl [0, 1, 2, 3, 4, 5, 6, 7, 8] ?_
 refine yBb [] [(6, .bool true), (14, .bool true), (13, .bool true), (12, iV hi), (11, iV v), (10, .bool true), (9, .bool true), (8, iV lo), (7, iV v)] [e0 0, e0 1, e1 2 (.bool true), e0 3, e0 4, e0 5, e1 6 (.bool true), e0 7, e0 8] [] [(.bool (decide (v ≥ lo)), .bool true), (.bool (decide (v ≤ hi)), .bool true)] ⟨(ov_t (by omega)), (ov_t (by omega)), trivial⟩ nC (.mk ?_)
 refine yK [(6, .bool true)] fun lr2 => ?_
 refine yRt ?_
 repeat (first | simp only [Exit.inBlock] | simp only [Exit.then])
 refine hi_out [] (.bool true) [] (by kernel_rfl) (by intro q hq; cases hq) ?_
 exact ⟨.bool true, [], rfl, ⟨rfl, rfl⟩, h0⟩

set_option maxHeartbeats 4000000 in
theorem in_f (v lo hi : Int) (h : v < lo ∨ hi < v) : HT Try.prog 65 [Value.int IntKind.i64 v, Value.int IntKind.i64 lo, Value.int IntKind.i64 hi] [] (fun r K => r = Value.bool false ∧ K = []) := by
 refine hi_in 15 ([(0, iV v), (1, iV lo), (2, iV hi)] : Fr) Try.func65 (by kernel_rfl) Try.ntmps65 rfl rfl ?_
 intro g w0 R h0
 refine ySq ?_
 refine yPl [0] ?_
 refine yB0 [] [0] [(6, .bool false)] (.mk ?_)
 refine yK [(0, iV v), (1, iV lo), (2, iV hi)] fun lr1 => ?_
 refine ySq ?_
 refine yPl [0, 1, 2, 3, 4, 5, 6, 7, 8] ?_
 refine yB0 [2, 3, 4, 5, 6, 7, 8] [0, 1] [(8, iV lo), (7, iV v)] ?_
 by_cases c2 : v ≥ lo
 ·
  refine yBb [] [(6, .bool false), (14, .bool false), (13, .bool false), (12, iV hi), (11, iV v), (10, .bool true), (9, .bool true)] [e1 2 (.bool true), e0 3, e0 4, e0 5, e1 6 (.bool false), e0 7, e0 8] [] [(.bool (decide (v ≥ lo)), .bool true), (.bool (decide (v ≤ hi)), .bool false)] ⟨(ov_t (by omega)), (ov_f (by omega)), trivial⟩ nC (.mk ?_)
  refine yK [(6, .bool false)] fun lr3 => ?_
  refine yRt ?_
  repeat (first | simp only [Exit.inBlock] | simp only [Exit.then])
  refine hi_out [] (.bool false) [] (by kernel_rfl) (by intro q hq; cases hq) ?_
  exact ⟨.bool false, [], rfl, ⟨rfl, rfl⟩, h0⟩
 ·
  refine yBb [] [(6, .bool false), (14, .bool false), (13, undef), (12, undef), (11, undef), (10, .bool false), (9, .bool false)] [e1 2 (.bool false), e0 3, e0 4, e0 5, e0 6, e0 7, e0 8] [] [(.bool (decide (v ≥ lo)), .bool false)] ⟨(ov_f (by omega)), trivial⟩ nC (.mk ?_)
  refine yK [(6, .bool false)] fun lr4 => ?_
  refine yRt ?_
  repeat (first | simp only [Exit.inBlock] | simp only [Exit.then])
  refine hi_out [] (.bool false) [] (by kernel_rfl) (by intro q hq; cases hq) ?_
  exact ⟨.bool false, [], rfl, ⟨rfl, rfl⟩, h0⟩

set_option maxHeartbeats 4000000 in
theorem time_t (v : Int) (h : 0 ≤ v ∧ v ≤ 1099511627776) : HT Try.prog 66 [Value.int IntKind.i64 v] [] (fun r K => r = Value.bool true ∧ K = []) := by
 refine hi_in 5 ([(0, iV v)] : Fr) Try.func66 (by kernel_rfl) Try.ntmps66 rfl rfl ?_
 intro g w0 R h0
 refine ySq ?_
 refine yPl [0] ?_
 refine yB0 [] [0] [(2, .bool false)] (.mk ?_)
 refine yK [(0, iV v)] fun lr1 => ?_
 refine ySq ?_
 refine yPl [0, 1, 2] ?_
 refine yB0 [1, 2] [0] [(3, iV v)] ?_
 refine yA ?_
 refine yCl 4 Try.call65 (in_t v 0 1099511627776 (by omega)) h0 ?_
 rintro v K w2 (⟨rfl, rfl⟩) h3
 refine ⟨_, rfl, ?_⟩
 have h4 := ap0 h3
 refine yB0 [] [2] [(2, .bool true)] (.mk ?_)
 refine yK [(2, .bool true)] fun lr5 => ?_
 refine yRt ?_
 repeat (first | simp only [Exit.inBlock] | simp only [Exit.then])
 refine hi_out [] (.bool true) [] (by kernel_rfl) (by intro q hq; cases hq) ?_
 exact ⟨.bool true, [], rfl, ⟨rfl, rfl⟩, h4⟩

set_option maxHeartbeats 4000000 in
theorem time_f (v : Int) (h : v < 0 ∨ 1099511627776 < v) : HT Try.prog 66 [Value.int IntKind.i64 v] [] (fun r K => r = Value.bool false ∧ K = []) := by
 refine hi_in 5 ([(0, iV v)] : Fr) Try.func66 (by kernel_rfl) Try.ntmps66 rfl rfl ?_
 intro g w0 R h0
 refine ySq ?_
 refine yPl [0] ?_
 refine yB0 [] [0] [(2, .bool false)] (.mk ?_)
 refine yK [(0, iV v)] fun lr1 => ?_
 refine ySq ?_
 refine yPl [0, 1, 2] ?_
 refine yB0 [1, 2] [0] [(3, iV v)] ?_
 by_cases c2 : 0 ≤ v
 ·
  refine yA ?_
  refine yCl 4 Try.call65 (in_f v 0 1099511627776 (by omega)) h0 ?_
  rintro v K w3 (⟨rfl, rfl⟩) h4
  refine ⟨_, rfl, ?_⟩
  have h5 := ap0 h4
  refine yB0 [] [2] [(2, .bool false)] (.mk ?_)
  refine yK [(2, .bool false)] fun lr6 => ?_
  refine yRt ?_
  repeat (first | simp only [Exit.inBlock] | simp only [Exit.then])
  refine hi_out [] (.bool false) [] (by kernel_rfl) (by intro q hq; cases hq) ?_
  exact ⟨.bool false, [], rfl, ⟨rfl, rfl⟩, h5⟩
 ·
  refine yA ?_
  refine yCl 4 Try.call65 (in_f v 0 1099511627776 (by omega)) h0 ?_
  rintro v K w7 (⟨rfl, rfl⟩) h8
  refine ⟨_, rfl, ?_⟩
  have h9 := ap0 h8
  refine yB0 [] [2] [(2, .bool false)] (.mk ?_)
  refine yK [(2, .bool false)] fun lr10 => ?_
  refine yRt ?_
  repeat (first | simp only [Exit.inBlock] | simp only [Exit.then])
  refine hi_out [] (.bool false) [] (by kernel_rfl) (by intro q hq; cases hq) ?_
  exact ⟨.bool false, [], rfl, ⟨rfl, rfl⟩, h9⟩

set_option maxHeartbeats 4000000 in
theorem shapes_ht  : HT Try.prog 64 [] [] (fun v K => v = Value.agg #[Value.string (St []), Value.int IntKind.i64 0, Value.bool false, Value.string (St [108, 105, 118, 101]), Value.int IntKind.i64 0, Value.bool false, Value.string (St [99, 108, 111, 115, 105, 110, 103]), Value.int IntKind.i64 3, Value.bool true, Value.string (St [114, 101, 108, 101, 97, 115, 101, 100]), Value.int IntKind.i64 3, Value.bool false, Value.string (St [113, 117, 97, 114, 97, 110, 116, 105, 110, 101]), Value.int IntKind.i64 3, Value.bool false] ∧ K = []) := by
 refine hi_in 6 ([] : Fr) Try.func64 (by kernel_rfl) Try.ntmps64 rfl rfl ?_
 intro g w0 R h0
 refine ySq ?_
 refine yPl [0] ?_
 refine yA ?_
 refine yNp 0 124 [.string (St []), iV 0, .bool false, .string (St []), iV 0, .bool false, .string (St []), iV 0, .bool false, .string (St []), iV 0, .bool false, .string (St []), iV 0, .bool false] h0 fun r1 w2 h3 => ?_
 refine PO.mk ?_
 refine yK [(0, pV r1)] fun lr4 => ?_
 refine ySq ?_
 refine yPl [0, 1, 2, 3, 4, 5] ?_
 refine yB0 [5] [0, 1, 2, 3, 4] [(5, .agg #[.string (St []), iV 0, .bool false, .string (St [108, 105, 118, 101]), iV 0, .bool false, .string (St [99, 108, 111, 115, 105, 110, 103]), iV 3, .bool true, .string (St [114, 101, 108, 101, 97, 115, 101, 100]), iV 3, .bool false, .string (St [113, 117, 97, 114, 97, 110, 116, 105, 110, 101]), iV 3, .bool false]), (4, .agg #[.string (St [113, 117, 97, 114, 97, 110, 116, 105, 110, 101]), iV 3, .bool false]), (3, .agg #[.string (St [114, 101, 108, 101, 97, 115, 101, 100]), iV 3, .bool false]), (2, .agg #[.string (St [99, 108, 111, 115, 105, 110, 103]), iV 3, .bool true]), (1, .agg #[.string (St [108, 105, 118, 101]), iV 0, .bool false])] ?_
 refine yA ?_
 refine yS [(0, .string (St [])), (1, iV 0), (2, .bool false), (3, .string (St [108, 105, 118, 101])), (4, iV 0), (5, .bool false), (6, .string (St [99, 108, 111, 115, 105, 110, 103])), (7, iV 3), (8, .bool true), (9, .string (St [114, 101, 108, 101, 97, 115, 101, 100])), (10, iV 3), (11, .bool false), (12, .string (St [113, 117, 97, 114, 97, 110, 116, 105, 110, 101])), (13, iV 3), (14, .bool false)] [.string (St []), iV 0, .bool false, .string (St [108, 105, 118, 101]), iV 0, .bool false, .string (St [99, 108, 111, 115, 105, 110, 103]), iV 3, .bool true, .string (St [114, 101, 108, 101, 97, 115, 101, 100]), iV 3, .bool false, .string (St [113, 117, 97, 114, 97, 110, 116, 105, 110, 101]), iV 3, .bool false] h3 fun w5 h6 => ?_
 refine PO.mk ?_
 refine yK [(0, pV r1)] fun lr7 => ?_
 refine yRt ?_
 repeat (first | simp only [Exit.inBlock] | simp only [Exit.then])
 have h8 := tk1 (sf1 h6)
 refine hi_out [.string (St []), iV 0, .bool false, .string (St [108, 105, 118, 101]), iV 0, .bool false, .string (St [99, 108, 111, 115, 105, 110, 103]), iV 3, .bool true, .string (St [114, 101, 108, 101, 97, 115, 101, 100]), iV 3, .bool false, .string (St [113, 117, 97, 114, 97, 110, 116, 105, 110, 101]), iV 3, .bool false] (.agg #[.string (St []), iV 0, .bool false, .string (St [108, 105, 118, 101]), iV 0, .bool false, .string (St [99, 108, 111, 115, 105, 110, 103]), iV 3, .bool true, .string (St [114, 101, 108, 101, 97, 115, 101, 100]), iV 3, .bool false, .string (St [113, 117, 97, 114, 97, 110, 116, 105, 110, 101]), iV 3, .bool false]) [(⟨r1, 0, none⟩, .string (St [])), (⟨r1, 1, none⟩, iV 0), (⟨r1, 2, none⟩, .bool false), (⟨r1, 3, none⟩, .string (St [108, 105, 118, 101])), (⟨r1, 4, none⟩, iV 0), (⟨r1, 5, none⟩, .bool false), (⟨r1, 6, none⟩, .string (St [99, 108, 111, 115, 105, 110, 103])), (⟨r1, 7, none⟩, iV 3), (⟨r1, 8, none⟩, .bool true), (⟨r1, 9, none⟩, .string (St [114, 101, 108, 101, 97, 115, 101, 100])), (⟨r1, 10, none⟩, iV 3), (⟨r1, 11, none⟩, .bool false), (⟨r1, 12, none⟩, .string (St [113, 117, 97, 114, 97, 110, 116, 105, 110, 101])), (⟨r1, 13, none⟩, iV 3), (⟨r1, 14, none⟩, .bool false)] (by kernel_rfl) (allq ⟨sat_cell h6 0 rfl rfl, sat_cell h6 0 rfl rfl, sat_cell h6 0 rfl rfl, sat_cell h6 0 rfl rfl, sat_cell h6 0 rfl rfl, sat_cell h6 0 rfl rfl, sat_cell h6 0 rfl rfl, sat_cell h6 0 rfl rfl, sat_cell h6 0 rfl rfl, sat_cell h6 0 rfl rfl, sat_cell h6 0 rfl rfl, sat_cell h6 0 rfl rfl, sat_cell h6 0 rfl rfl, sat_cell h6 0 rfl rfl, sat_cell h6 0 rfl rfl, trivial⟩) ?_
 exact ⟨.agg #[.string (St []), iV 0, .bool false, .string (St [108, 105, 118, 101]), iV 0, .bool false, .string (St [99, 108, 111, 115, 105, 110, 103]), iV 3, .bool true, .string (St [114, 101, 108, 101, 97, 115, 101, 100]), iV 3, .bool false, .string (St [113, 117, 97, 114, 97, 110, 116, 105, 110, 101]), iV 3, .bool false], [], rfl, ⟨rfl, rfl⟩, h8⟩

set_option maxHeartbeats 4000000 in
theorem poss_ht (x y z st why tr nx : Int) (L : List UInt8) (hz0 : 0 ≤ z) (hz1 : z ≤ 4294967295) : HT Try.prog 49 [Value.agg #[Value.int IntKind.i64 x, Value.int IntKind.i64 y, Value.int IntKind.u32 z, Value.int IntKind.i64 st, Value.int IntKind.i64 why, Value.int IntKind.i64 tr, Value.int IntKind.i64 nx, Value.string (St L)]] [] (fun v K => v = Value.bool (decide (posP x y z st why tr nx)) ∧ K = []) := by
 refine hi_in 53 ([(0, .agg #[iV x, iV y, uV z, iV st, iV why, iV tr, iV nx, .string (St L)])] : Fr) Try.func49 (by kernel_rfl) Try.ntmps49 rfl rfl ?_
 intro g w0 R h0
 refine ySq ?_
 refine yPl [0, 1] ?_
 refine yA ?_
 refine yNp 1 42 [iV x, iV y, uV z, iV st, iV why, iV tr, iV nx, .string (St L)] h0 fun r1 w2 h3 => ?_
 refine yB0 [] [1] [(2, .bool false)] (.mk ?_)
 refine yK [(1, pV r1)] fun lr4 => ?_
 refine ySq ?_
 refine ySq ?_
 refine yPl [0, 1, 2, 3, 4, 5, 6, 7, 8, 9, 10, 11, 12, 13] ?_
 refine yBb [2, 3, 4, 5, 6, 7, 8, 9, 10, 11, 12, 13] [(6, .agg #[iV x, iV y, uV z]), (5, pV r1)] [e0 0, e2 1 [iV x, iV y, uV z]] [(1, ⟨r1, 0, none⟩, iV x), (1, ⟨r1, 1, none⟩, iV y), (1, ⟨r1, 2, none⟩, uV z)] [] trivial (kC (sat_cell h3 0 rfl rfl) (kC (sat_cell h3 0 rfl rfl) (kC (sat_cell h3 0 rfl rfl) nC))) ?_
 by_cases c5 : 1 ≤ x
 ·
  by_cases c6 : x ≤ 3
  ·
   by_cases c7 : 0 ≤ y
   ·
    by_cases c8 : y ≤ 63
    ·
     by_cases c9 : 1 ≤ z
     ·
      refine yA ?_
      refine yCl 7 Try.call63 (couter_ok x y z (by omega) (by omega) (by omega)) h3 ?_
      rintro v K w10 (⟨rfl, rfl⟩) h11
      refine ⟨_, rfl, ?_⟩
      have h12 := ap0 h11
      refine yBb [7, 8, 9, 10, 11, 12, 13] [(11, iV st), (10, .pointer (some ⟨r1, 3, none⟩)), (9, .bool false), (8, .bool false)] [e0 3, e0 4, e0 5, e2 6 [iV st]] [(6, ⟨r1, 3, none⟩, iV st)] [] trivial (kC (sat_cell h12 0 rfl rfl) nC) ?_
      by_cases c13 : st < 1
      ·
       refine yBb [] [(18, .bool true), (17, undef), (16, undef), (15, undef), (14, .bool true), (13, .bool true), (12, .bool true)] [e1 7 (.bool true), e0 8, e0 9, e0 10, e0 11, e0 12, e0 13] [] [(.bool (decide (st < 1)), .bool true)] ⟨(ov_t (by omega)), trivial⟩ nC (.mk ?_)
       refine yK [(1, pV r1), (18, .bool true)] fun lr14 => ?_
       refine yCt ?_
       refine ySq ?_
       refine yPl [0] ?_
       refine yB0 [] [0] [(2, .bool false)] (.mk ?_)
       refine yK [(2, .bool false)] fun lr15 => ?_
       refine yRt ?_
       repeat (first | simp only [Exit.inBlock] | simp only [Exit.then])
       have h16 := tk1 (sf1 h12)
       refine hi_out [] (.bool false) [] (by kernel_rfl) (by intro q hq; cases hq) ?_
       exact ⟨.bool false, [], rfl, ⟨by rw [decide_eq_false (by unfold posP; omega)], rfl⟩, h16⟩
      ·
       refine yBb [12, 13] [(16, iV st), (15, .pointer (some ⟨r1, 3, none⟩)), (14, .bool false), (13, .bool false), (12, .bool false)] [e1 7 (.bool false), e0 8, e0 9, e0 10, e2 11 [iV st]] [(11, ⟨r1, 3, none⟩, iV st)] [(.bool (decide (st < 1)), .bool false)] ⟨(ov_f (by omega)), trivial⟩ (kC (sat_cell h12 0 rfl rfl) nC) ?_
       by_cases c17 : st > 4
       ·
        refine yBb [] [(18, .bool true), (17, .bool true)] [e1 12 (.bool true), e0 13] [] [(.bool (decide (st > 4)), .bool true)] ⟨(ov_t (by omega)), trivial⟩ nC (.mk ?_)
        refine yK [(1, pV r1), (18, .bool true)] fun lr18 => ?_
        refine yCt ?_
        refine ySq ?_
        refine yPl [0] ?_
        refine yB0 [] [0] [(2, .bool false)] (.mk ?_)
        refine yK [(2, .bool false)] fun lr19 => ?_
        refine yRt ?_
        repeat (first | simp only [Exit.inBlock] | simp only [Exit.then])
        have h20 := tk1 (sf1 h12)
        refine hi_out [] (.bool false) [] (by kernel_rfl) (by intro q hq; cases hq) ?_
        exact ⟨.bool false, [], rfl, ⟨by rw [decide_eq_false (by unfold posP; omega)], rfl⟩, h20⟩
       ·
        refine yBb [] [(18, .bool false), (17, .bool false)] [e1 12 (.bool false), e0 13] [] [(.bool (decide (st > 4)), .bool false)] ⟨(ov_f (by omega)), trivial⟩ nC (.mk ?_)
        refine yK [(1, pV r1), (18, .bool false)] fun lr21 => ?_
        refine yCf ?_
        refine ySk ?_
        refine gi_join (x := CA Try.f49 [1, 1, 0]) (y := CA Try.f49 [1, 1, 1]) (fun a w => ∃ rb : Nat, ∃ hi : Int, ∃ bb : Bool, ∃ wd : List UInt8, ∃ lr : Fr, ((st = 1 ∧ hi = 0) ∨ ((st = 2 ∨ st = 3 ∨ st = 4) ∧ hi = 3)) ∧ (bb = decide (st = 2)) ∧ a = mk 53 (([(1, pV r1), (3, pV rb)] : Fr) ++ lr) ∧ sat g w [Cl rb [.string (St wd), iV hi, .bool (bb)] 123, Cl r1 [iV x, iV y, uV z, iV st, iV why, iV tr, iV nx, .string (St L)] 42, R]) (by kernel_rfl) ?_ ?_
        ·
         refine gi_drw (id := 3) (ops := RA Try.f49 [1, 1, 0]) (Tr.fl 1 (Tr.fl 2 (Tr.an2 0 (Tr.fl 3 (Tr.an 4 (Tr.an 5 Tr.nil))) 4 (Tr.an 0 (Tr.fl 3 (Tr.an 5 Tr.nil)))))) (by kernel_rfl) (by kernel_rfl) (by kernel_rfl) (by kernel_rfl) (by kernel_rfl) (fun _ _ d _ _ h => by cases d <;> exact h) h12 ?_
         intro w22 h23
         refine yD _ [(21, iV st), (20, .pointer (some ⟨r1, 3, none⟩))] [e0 1, e2 2 [iV st]] [(2, ⟨r1, 3, none⟩, iV st)] [] trivial (kC (sat_cell h23 0 rfl rfl) nC) ?_
         refine ⟨?_, ?_⟩
         ·
          refine draw_act (i := 0) [(2, ⟨r1, 3, none⟩, iV st)] (by kernel_rfl) (by kernel_rfl) ?_
          refine yCl 19 Try.call64 (shapes_ht) h23 ?_
          rintro v K w24 (⟨rfl, rfl⟩) h25
          refine ⟨_, rfl, ?_⟩
          have h26 := ap0 h25
          refine ⟨(AllC_cons (sat_cell h26 0 rfl rfl) (AllC_nil _)), ?_⟩
          by_cases c27 : st = 1
          ·
           refine draw_law (i := 3) 22 (.agg #[.string (St [108, 105, 118, 101]), iV 0, .bool false]) [] (by kernel_rfl) (fun _ _ => law_index (o := opA (RA Try.f49 [1, 1, 0]) 3) (t := 124) (x := (Operand.tmp 19)) (y := (Operand.tmp 21)) (z := st) (cs := #[.string (St []), iV 0, .bool false, .string (St [108, 105, 118, 101]), iV 0, .bool false, .string (St [99, 108, 111, 115, 105, 110, 103]), iV 3, .bool true, .string (St [114, 101, 108, 101, 97, 115, 101, 100]), iV 3, .bool false, .string (St [113, 117, 97, 114, 97, 110, 116, 105, 110, 101]), iV 3, .bool false]) (by kernel_rfl) Try.underlying124 Try.underlying123 3 (by kernel_rfl) (by kernel_rfl) (by kernel_rfl) 1 (by omega) (by decide) (by rfl) _) (by intro q hq; cases hq) ?_
           refine draw_act (i := 4) [(2, ⟨r1, 3, none⟩, iV st)] (by kernel_rfl) (by kernel_rfl) ?_
           refine yNp 3 123 [.string (St []), iV 0, .bool false] h26 fun r28 w29 h30 => ?_
           refine ⟨(AllC_cons (sat_cell h30 1 rfl rfl) (AllC_nil _)), ?_⟩
           refine draw_act (i := 5) [] (by kernel_rfl) (by kernel_rfl) ?_
           refine yS [(0, .string (St [108, 105, 118, 101])), (1, iV 0), (2, .bool false)] [.string (St [108, 105, 118, 101]), iV 0, .bool false] h30 fun w31 h32 => ?_
           refine ⟨(AllC_nil _), ?_⟩
           exact ⟨r28, 0, false, [108, 105, 118, 101], _, (by omega), (by rw [decide_eq_false (by omega)]), (mk_live [(1, pV r1), (3, pV r28)] ⟨rfl, rfl, trivial⟩), h32⟩
          ·
           by_cases c33 : st = 2
           ·
            refine draw_law (i := 3) 22 (.agg #[.string (St [99, 108, 111, 115, 105, 110, 103]), iV 3, .bool true]) [] (by kernel_rfl) (fun _ _ => law_index (o := opA (RA Try.f49 [1, 1, 0]) 3) (t := 124) (x := (Operand.tmp 19)) (y := (Operand.tmp 21)) (z := st) (cs := #[.string (St []), iV 0, .bool false, .string (St [108, 105, 118, 101]), iV 0, .bool false, .string (St [99, 108, 111, 115, 105, 110, 103]), iV 3, .bool true, .string (St [114, 101, 108, 101, 97, 115, 101, 100]), iV 3, .bool false, .string (St [113, 117, 97, 114, 97, 110, 116, 105, 110, 101]), iV 3, .bool false]) (by kernel_rfl) Try.underlying124 Try.underlying123 3 (by kernel_rfl) (by kernel_rfl) (by kernel_rfl) 2 (by omega) (by decide) (by rfl) _) (by intro q hq; cases hq) ?_
            refine draw_act (i := 4) [(2, ⟨r1, 3, none⟩, iV st)] (by kernel_rfl) (by kernel_rfl) ?_
            refine yNp 3 123 [.string (St []), iV 0, .bool false] h26 fun r34 w35 h36 => ?_
            refine ⟨(AllC_cons (sat_cell h36 1 rfl rfl) (AllC_nil _)), ?_⟩
            refine draw_act (i := 5) [] (by kernel_rfl) (by kernel_rfl) ?_
            refine yS [(0, .string (St [99, 108, 111, 115, 105, 110, 103])), (1, iV 3), (2, .bool true)] [.string (St [99, 108, 111, 115, 105, 110, 103]), iV 3, .bool true] h36 fun w37 h38 => ?_
            refine ⟨(AllC_nil _), ?_⟩
            exact ⟨r34, 3, true, [99, 108, 111, 115, 105, 110, 103], _, (by omega), (by rw [decide_eq_true (by omega)]), (mk_live [(1, pV r1), (3, pV r34)] ⟨rfl, rfl, trivial⟩), h38⟩
           ·
            by_cases c39 : st = 3
            ·
             refine draw_law (i := 3) 22 (.agg #[.string (St [114, 101, 108, 101, 97, 115, 101, 100]), iV 3, .bool false]) [] (by kernel_rfl) (fun _ _ => law_index (o := opA (RA Try.f49 [1, 1, 0]) 3) (t := 124) (x := (Operand.tmp 19)) (y := (Operand.tmp 21)) (z := st) (cs := #[.string (St []), iV 0, .bool false, .string (St [108, 105, 118, 101]), iV 0, .bool false, .string (St [99, 108, 111, 115, 105, 110, 103]), iV 3, .bool true, .string (St [114, 101, 108, 101, 97, 115, 101, 100]), iV 3, .bool false, .string (St [113, 117, 97, 114, 97, 110, 116, 105, 110, 101]), iV 3, .bool false]) (by kernel_rfl) Try.underlying124 Try.underlying123 3 (by kernel_rfl) (by kernel_rfl) (by kernel_rfl) 3 (by omega) (by decide) (by rfl) _) (by intro q hq; cases hq) ?_
             refine draw_act (i := 4) [(2, ⟨r1, 3, none⟩, iV st)] (by kernel_rfl) (by kernel_rfl) ?_
             refine yNp 3 123 [.string (St []), iV 0, .bool false] h26 fun r40 w41 h42 => ?_
             refine ⟨(AllC_cons (sat_cell h42 1 rfl rfl) (AllC_nil _)), ?_⟩
             refine draw_act (i := 5) [] (by kernel_rfl) (by kernel_rfl) ?_
             refine yS [(0, .string (St [114, 101, 108, 101, 97, 115, 101, 100])), (1, iV 3), (2, .bool false)] [.string (St [114, 101, 108, 101, 97, 115, 101, 100]), iV 3, .bool false] h42 fun w43 h44 => ?_
             refine ⟨(AllC_nil _), ?_⟩
             exact ⟨r40, 3, false, [114, 101, 108, 101, 97, 115, 101, 100], _, (by omega), (by rw [decide_eq_false (by omega)]), (mk_live [(1, pV r1), (3, pV r40)] ⟨rfl, rfl, trivial⟩), h44⟩
            ·
             refine draw_law (i := 3) 22 (.agg #[.string (St [113, 117, 97, 114, 97, 110, 116, 105, 110, 101]), iV 3, .bool false]) [] (by kernel_rfl) (fun _ _ => law_index (o := opA (RA Try.f49 [1, 1, 0]) 3) (t := 124) (x := (Operand.tmp 19)) (y := (Operand.tmp 21)) (z := st) (cs := #[.string (St []), iV 0, .bool false, .string (St [108, 105, 118, 101]), iV 0, .bool false, .string (St [99, 108, 111, 115, 105, 110, 103]), iV 3, .bool true, .string (St [114, 101, 108, 101, 97, 115, 101, 100]), iV 3, .bool false, .string (St [113, 117, 97, 114, 97, 110, 116, 105, 110, 101]), iV 3, .bool false]) (by kernel_rfl) Try.underlying124 Try.underlying123 3 (by kernel_rfl) (by kernel_rfl) (by kernel_rfl) 4 (by omega) (by decide) (by rfl) _) (by intro q hq; cases hq) ?_
             refine draw_act (i := 4) [(2, ⟨r1, 3, none⟩, iV st)] (by kernel_rfl) (by kernel_rfl) ?_
             refine yNp 3 123 [.string (St []), iV 0, .bool false] h26 fun r45 w46 h47 => ?_
             refine ⟨(AllC_cons (sat_cell h47 1 rfl rfl) (AllC_nil _)), ?_⟩
             refine draw_act (i := 5) [] (by kernel_rfl) (by kernel_rfl) ?_
             refine yS [(0, .string (St [113, 117, 97, 114, 97, 110, 116, 105, 110, 101])), (1, iV 3), (2, .bool false)] [.string (St [113, 117, 97, 114, 97, 110, 116, 105, 110, 101]), iV 3, .bool false] h47 fun w48 h49 => ?_
             refine ⟨(AllC_nil _), ?_⟩
             exact ⟨r45, 3, false, [113, 117, 97, 114, 97, 110, 116, 105, 110, 101], _, (by omega), (by rw [decide_eq_false (by omega)]), (mk_live [(1, pV r1), (3, pV r45)] ⟨rfl, rfl, trivial⟩), h49⟩
         ·
          refine draw_act (i := 4) [(2, ⟨r1, 3, none⟩, iV st)] (by kernel_rfl) (by kernel_rfl) ?_
          refine yNp 3 123 [.string (St []), iV 0, .bool false] h23 fun r50 w51 h52 => ?_
          refine ⟨(AllC_cons (sat_cell h52 1 rfl rfl) (AllC_nil _)), ?_⟩
          refine draw_act (i := 0) [(2, ⟨r1, 3, none⟩, iV st)] (by kernel_rfl) (by kernel_rfl) ?_
          refine yCl 19 Try.call64 (shapes_ht) h52 ?_
          rintro v K w53 (⟨rfl, rfl⟩) h54
          refine ⟨_, rfl, ?_⟩
          have h55 := ap0 h54
          refine ⟨(AllC_cons (sat_cell h55 1 rfl rfl) (AllC_nil _)), ?_⟩
          by_cases c56 : st = 1
          ·
           refine draw_law (i := 3) 22 (.agg #[.string (St [108, 105, 118, 101]), iV 0, .bool false]) [] (by kernel_rfl) (fun _ _ => law_index (o := opA (RA Try.f49 [1, 1, 0]) 3) (t := 124) (x := (Operand.tmp 19)) (y := (Operand.tmp 21)) (z := st) (cs := #[.string (St []), iV 0, .bool false, .string (St [108, 105, 118, 101]), iV 0, .bool false, .string (St [99, 108, 111, 115, 105, 110, 103]), iV 3, .bool true, .string (St [114, 101, 108, 101, 97, 115, 101, 100]), iV 3, .bool false, .string (St [113, 117, 97, 114, 97, 110, 116, 105, 110, 101]), iV 3, .bool false]) (by kernel_rfl) Try.underlying124 Try.underlying123 3 (by kernel_rfl) (by kernel_rfl) (by kernel_rfl) 1 (by omega) (by decide) (by rfl) _) (by intro q hq; cases hq) ?_
           refine draw_act (i := 5) [] (by kernel_rfl) (by kernel_rfl) ?_
           refine yS [(0, .string (St [108, 105, 118, 101])), (1, iV 0), (2, .bool false)] [.string (St [108, 105, 118, 101]), iV 0, .bool false] h55 fun w57 h58 => ?_
           refine ⟨(AllC_nil _), ?_⟩
           exact ⟨r50, 0, false, [108, 105, 118, 101], _, (by omega), (by rw [decide_eq_false (by omega)]), (mk_live [(1, pV r1), (3, pV r50)] ⟨rfl, rfl, trivial⟩), h58⟩
          ·
           by_cases c59 : st = 2
           ·
            refine draw_law (i := 3) 22 (.agg #[.string (St [99, 108, 111, 115, 105, 110, 103]), iV 3, .bool true]) [] (by kernel_rfl) (fun _ _ => law_index (o := opA (RA Try.f49 [1, 1, 0]) 3) (t := 124) (x := (Operand.tmp 19)) (y := (Operand.tmp 21)) (z := st) (cs := #[.string (St []), iV 0, .bool false, .string (St [108, 105, 118, 101]), iV 0, .bool false, .string (St [99, 108, 111, 115, 105, 110, 103]), iV 3, .bool true, .string (St [114, 101, 108, 101, 97, 115, 101, 100]), iV 3, .bool false, .string (St [113, 117, 97, 114, 97, 110, 116, 105, 110, 101]), iV 3, .bool false]) (by kernel_rfl) Try.underlying124 Try.underlying123 3 (by kernel_rfl) (by kernel_rfl) (by kernel_rfl) 2 (by omega) (by decide) (by rfl) _) (by intro q hq; cases hq) ?_
            refine draw_act (i := 5) [] (by kernel_rfl) (by kernel_rfl) ?_
            refine yS [(0, .string (St [99, 108, 111, 115, 105, 110, 103])), (1, iV 3), (2, .bool true)] [.string (St [99, 108, 111, 115, 105, 110, 103]), iV 3, .bool true] h55 fun w60 h61 => ?_
            refine ⟨(AllC_nil _), ?_⟩
            exact ⟨r50, 3, true, [99, 108, 111, 115, 105, 110, 103], _, (by omega), (by rw [decide_eq_true (by omega)]), (mk_live [(1, pV r1), (3, pV r50)] ⟨rfl, rfl, trivial⟩), h61⟩
           ·
            by_cases c62 : st = 3
            ·
             refine draw_law (i := 3) 22 (.agg #[.string (St [114, 101, 108, 101, 97, 115, 101, 100]), iV 3, .bool false]) [] (by kernel_rfl) (fun _ _ => law_index (o := opA (RA Try.f49 [1, 1, 0]) 3) (t := 124) (x := (Operand.tmp 19)) (y := (Operand.tmp 21)) (z := st) (cs := #[.string (St []), iV 0, .bool false, .string (St [108, 105, 118, 101]), iV 0, .bool false, .string (St [99, 108, 111, 115, 105, 110, 103]), iV 3, .bool true, .string (St [114, 101, 108, 101, 97, 115, 101, 100]), iV 3, .bool false, .string (St [113, 117, 97, 114, 97, 110, 116, 105, 110, 101]), iV 3, .bool false]) (by kernel_rfl) Try.underlying124 Try.underlying123 3 (by kernel_rfl) (by kernel_rfl) (by kernel_rfl) 3 (by omega) (by decide) (by rfl) _) (by intro q hq; cases hq) ?_
             refine draw_act (i := 5) [] (by kernel_rfl) (by kernel_rfl) ?_
             refine yS [(0, .string (St [114, 101, 108, 101, 97, 115, 101, 100])), (1, iV 3), (2, .bool false)] [.string (St [114, 101, 108, 101, 97, 115, 101, 100]), iV 3, .bool false] h55 fun w63 h64 => ?_
             refine ⟨(AllC_nil _), ?_⟩
             exact ⟨r50, 3, false, [114, 101, 108, 101, 97, 115, 101, 100], _, (by omega), (by rw [decide_eq_false (by omega)]), (mk_live [(1, pV r1), (3, pV r50)] ⟨rfl, rfl, trivial⟩), h64⟩
            ·
             refine draw_law (i := 3) 22 (.agg #[.string (St [113, 117, 97, 114, 97, 110, 116, 105, 110, 101]), iV 3, .bool false]) [] (by kernel_rfl) (fun _ _ => law_index (o := opA (RA Try.f49 [1, 1, 0]) 3) (t := 124) (x := (Operand.tmp 19)) (y := (Operand.tmp 21)) (z := st) (cs := #[.string (St []), iV 0, .bool false, .string (St [108, 105, 118, 101]), iV 0, .bool false, .string (St [99, 108, 111, 115, 105, 110, 103]), iV 3, .bool true, .string (St [114, 101, 108, 101, 97, 115, 101, 100]), iV 3, .bool false, .string (St [113, 117, 97, 114, 97, 110, 116, 105, 110, 101]), iV 3, .bool false]) (by kernel_rfl) Try.underlying124 Try.underlying123 3 (by kernel_rfl) (by kernel_rfl) (by kernel_rfl) 4 (by omega) (by decide) (by rfl) _) (by intro q hq; cases hq) ?_
             refine draw_act (i := 5) [] (by kernel_rfl) (by kernel_rfl) ?_
             refine yS [(0, .string (St [113, 117, 97, 114, 97, 110, 116, 105, 110, 101])), (1, iV 3), (2, .bool false)] [.string (St [113, 117, 97, 114, 97, 110, 116, 105, 110, 101]), iV 3, .bool false] h55 fun w65 h66 => ?_
             refine ⟨(AllC_nil _), ?_⟩
             exact ⟨r50, 3, false, [113, 117, 97, 114, 97, 110, 116, 105, 110, 101], _, (by omega), (by rw [decide_eq_false (by omega)]), (mk_live [(1, pV r1), (3, pV r50)] ⟨rfl, rfl, trivial⟩), h66⟩
        ·
         rintro a67 w68 ⟨rb, hi, bb, wd, lr70, hlh_, hg_, rfl, h69⟩
         refine ySq ?_
         refine yPl [0, 1, 2, 3] ?_
         refine yBb [2, 3] [(24, iV hi), (23, .pointer (some ⟨rb, 1, none⟩))] [e0 0, e2 1 [iV hi]] [(1, ⟨rb, 1, none⟩, iV hi)] [] trivial (kC (sat_cell h69 0 rfl rfl) nC) ?_
         by_cases c71 : 1 < hi
         ·
          refine yBb [] [(4, iV 1), (25, iV 1)] [e1 2 (iV 1), e0 3] [] [(iV (if 1 < hi then 1 else hi), iV 1)] ⟨(ov_int (if_pos (by omega))), trivial⟩ nC (.mk ?_)
          refine yK [(1, pV r1), (3, pV rb), (4, iV 1)] fun lr72 => ?_
          refine ySq ?_
          refine yPl [0, 1, 2, 3, 4, 5, 6, 7, 8, 9, 10, 11, 12, 13, 14, 15, 16, 17, 18, 19, 20, 21, 22, 23, 24, 25, 26, 27] ?_
          refine yBb [5, 6, 7, 8, 9, 10, 11, 12, 13, 14, 15, 16, 17, 18, 19, 20, 21, 22, 23, 24, 25, 26, 27] [(30, iV hi), (29, .pointer (some ⟨rb, 1, none⟩)), (28, iV 1), (27, iV why), (26, .pointer (some ⟨r1, 4, none⟩))] [e0 0, e2 1 [iV why], e0 2, e0 3, e2 4 [iV hi]] [(4, ⟨rb, 1, none⟩, iV hi), (1, ⟨r1, 4, none⟩, iV why)] [] trivial (kC (sat_cell h69 0 rfl rfl) (kC (sat_cell h69 1 rfl rfl) nC)) ?_
          by_cases c73 : 1 ≤ why
          ·
           by_cases c74 : why ≤ hi
           ·
            refine yA ?_
            refine yCl 31 Try.call65 (in_t why 1 hi (by omega)) h69 ?_
            rintro v K w75 (⟨rfl, rfl⟩) h76
            refine ⟨_, rfl, ?_⟩
            have h77 := ap0 h76
            refine yBb [11, 12, 13, 14, 15, 16, 17, 18, 19, 20, 21, 22, 23, 24, 25, 26, 27] [(36, iV 10000), (35, iV 1), (34, iV tr), (33, .pointer (some ⟨r1, 5, none⟩)), (32, .bool true)] [e0 6, e0 7, e2 8 [iV tr], e0 9, e0 10] [(8, ⟨r1, 5, none⟩, iV tr)] [] trivial (kC (sat_cell h77 1 rfl rfl) nC) ?_
            by_cases c78 : 0 ≤ tr
            ·
             by_cases c79 : tr ≤ 10000
             ·
              refine yA ?_
              refine yCl 37 Try.call65 (in_t tr 0 10000 (by omega)) h77 ?_
              rintro v K w80 (⟨rfl, rfl⟩) h81
              refine ⟨_, rfl, ?_⟩
              have h82 := ap0 h81
              refine yBb [16, 17, 18, 19, 20, 21, 22, 23, 24, 25, 26, 27] [(41, iV nx), (40, .pointer (some ⟨r1, 6, none⟩)), (39, .bool true), (38, .bool true)] [e0 12, e0 13, e0 14, e2 15 [iV nx]] [(15, ⟨r1, 6, none⟩, iV nx)] [] trivial (kC (sat_cell h82 1 rfl rfl) nC) ?_
              by_cases c83 : 0 ≤ nx
              ·
               by_cases c84 : nx ≤ 1099511627776
               ·
                refine yA ?_
                refine yCl 42 Try.call66 (time_t nx (by omega)) h82 ?_
                rintro v K w85 (⟨rfl, rfl⟩) h86
                refine ⟨_, rfl, ?_⟩
                have h87 := ap0 h86
                refine yB0 [20, 21, 22, 23, 24, 25, 26, 27] [17, 18, 19] [(45, .pointer (some ⟨rb, 2, none⟩)), (44, .bool true), (43, .bool true)] ?_
                rcases Bool.eq_false_or_eq_true bb with cb88 | cb88
                ·
                 refine yBb [] [(2, .bool true), (52, .bool true), (51, .bool true), (50, undef), (49, undef), (48, undef), (47, .bool true), (46, .bool true)] [⟨20, [.bool (bb)], some (.bool true)⟩, e0 21, e0 22, e0 23, e0 24, e0 25, e0 26, e0 27] [(20, ⟨rb, 2, none⟩, .bool (bb))] [(.bool (bb), .bool true)] ⟨(ov_b cb88), trivial⟩ (kC (sat_cell h87 0 rfl rfl) nC) (.mk ?_)
                 refine yK [(2, .bool true)] fun lr89 => ?_
                 refine yRt ?_
                 repeat (first | simp only [Exit.inBlock] | simp only [Exit.then])
                 have hbb_ := of_decide_eq_true (hg_.symm.trans cb88)
                 have h90 := tk1 (sf2 h87)
                 refine hi_out [] (.bool true) [] (by kernel_rfl) (by intro q hq; cases hq) ?_
                 exact ⟨.bool true, [], rfl, ⟨by rw [decide_eq_true (by unfold posP; omega)], rfl⟩, h90⟩
                ·
                 refine yBb [24, 25, 26, 27] [(49, iV nx), (48, .pointer (some ⟨r1, 6, none⟩)), (47, .bool false), (46, .bool false)] [⟨20, [.bool (bb)], some (.bool false)⟩, e0 21, e0 22, e2 23 [iV nx]] [(23, ⟨r1, 6, none⟩, iV nx), (20, ⟨rb, 2, none⟩, .bool (bb))] [(.bool (bb), .bool false)] ⟨(ov_b cb88), trivial⟩ (kC (sat_cell h87 1 rfl rfl) (kC (sat_cell h87 0 rfl rfl) nC)) ?_
                 refine fk_cut ([(49, iV nx), (47, .bool false), (44, .bool true), (1, pV r1), (3, pV rb), (4, iV 1)] : Fr) (by kernel_rfl) (fun a => PO _ _ _ _ a _) (fun lr91 => ?_)
                 by_cases c92 : nx = 0
                 ·
                  refine yBb [] [(2, .bool true), (52, .bool true), (51, .bool true), (50, .bool true)] [e1 24 (.bool true), e0 25, e0 26, e0 27] [] [(.bool (nx == 0), .bool true)] ⟨(ov_et (by omega)), trivial⟩ nC (.mk ?_)
                  refine yK [(2, .bool true)] fun lr93 => ?_
                  refine yRt ?_
                  repeat (first | simp only [Exit.inBlock] | simp only [Exit.then])
                  have hbb_ := of_decide_eq_false (hg_.symm.trans cb88)
                  have h94 := tk1 (sf2 h87)
                  refine hi_out [] (.bool true) [] (by kernel_rfl) (by intro q hq; cases hq) ?_
                  exact ⟨.bool true, [], rfl, ⟨by rw [decide_eq_true (by unfold posP; omega)], rfl⟩, h94⟩
                 ·
                  refine yBb [] [(2, .bool false), (52, .bool false), (51, .bool false), (50, .bool false)] [e1 24 (.bool false), e0 25, e0 26, e0 27] [] [(.bool (nx == 0), .bool false)] ⟨(ov_ef (by omega)), trivial⟩ nC (.mk ?_)
                  refine yK [(2, .bool false)] fun lr95 => ?_
                  refine yRt ?_
                  repeat (first | simp only [Exit.inBlock] | simp only [Exit.then])
                  have hbb_ := of_decide_eq_false (hg_.symm.trans cb88)
                  have h96 := tk1 (sf2 h87)
                  refine hi_out [] (.bool false) [] (by kernel_rfl) (by intro q hq; cases hq) ?_
                  exact ⟨.bool false, [], rfl, ⟨by rw [decide_eq_false (by unfold posP; omega)], rfl⟩, h96⟩
               ·
                refine yA ?_
                refine yCl 42 Try.call66 (time_f nx (by omega)) h82 ?_
                rintro v K w97 (⟨rfl, rfl⟩) h98
                refine ⟨_, rfl, ?_⟩
                have h99 := ap0 h98
                refine yB0 [] [17, 18, 19, 20, 21, 22, 23, 24, 25, 26, 27] [(2, .bool false), (52, .bool false), (51, undef), (50, undef), (49, undef), (48, undef), (47, undef), (46, undef), (45, undef), (44, .bool false), (43, .bool false)] (.mk ?_)
                refine yK [(2, .bool false)] fun lr100 => ?_
                refine yRt ?_
                repeat (first | simp only [Exit.inBlock] | simp only [Exit.then])
                have h101 := tk1 (sf2 h99)
                refine hi_out [] (.bool false) [] (by kernel_rfl) (by intro q hq; cases hq) ?_
                exact ⟨.bool false, [], rfl, ⟨by rw [decide_eq_false (by unfold posP; omega)], rfl⟩, h101⟩
              ·
               refine yA ?_
               refine yCl 42 Try.call66 (time_f nx (by omega)) h82 ?_
               rintro v K w102 (⟨rfl, rfl⟩) h103
               refine ⟨_, rfl, ?_⟩
               have h104 := ap0 h103
               refine yB0 [] [17, 18, 19, 20, 21, 22, 23, 24, 25, 26, 27] [(2, .bool false), (52, .bool false), (51, undef), (50, undef), (49, undef), (48, undef), (47, undef), (46, undef), (45, undef), (44, .bool false), (43, .bool false)] (.mk ?_)
               refine yK [(2, .bool false)] fun lr105 => ?_
               refine yRt ?_
               repeat (first | simp only [Exit.inBlock] | simp only [Exit.then])
               have h106 := tk1 (sf2 h104)
               refine hi_out [] (.bool false) [] (by kernel_rfl) (by intro q hq; cases hq) ?_
               exact ⟨.bool false, [], rfl, ⟨by rw [decide_eq_false (by unfold posP; omega)], rfl⟩, h106⟩
             ·
              refine yA ?_
              refine yCl 37 Try.call65 (in_f tr 0 10000 (by omega)) h77 ?_
              rintro v K w107 (⟨rfl, rfl⟩) h108
              refine ⟨_, rfl, ?_⟩
              have h109 := ap0 h108
              refine yB0 [16, 17, 18, 19, 20, 21, 22, 23, 24, 25, 26, 27] [12, 13, 14, 15] [(41, undef), (40, undef), (39, .bool false), (38, .bool false)] ?_
              refine plain_skip (by kernel_rfl : chkN (RA Try.f49 [1, 1, 1, 1, 0]) 53 _ 16 = some (some 42)) rfl ?_
              refine yB0 [] [17, 18, 19, 20, 21, 22, 23, 24, 25, 26, 27] [(2, .bool false), (52, .bool false), (51, undef), (50, undef), (49, undef), (48, undef), (47, undef), (46, undef), (45, undef), (44, .bool false), (43, .bool false)] (.mk ?_)
              refine yK [(2, .bool false)] fun lr110 => ?_
              refine yRt ?_
              repeat (first | simp only [Exit.inBlock] | simp only [Exit.then])
              have h111 := tk1 (sf2 h109)
              refine hi_out [] (.bool false) [] (by kernel_rfl) (by intro q hq; cases hq) ?_
              exact ⟨.bool false, [], rfl, ⟨by rw [decide_eq_false (by unfold posP; omega)], rfl⟩, h111⟩
            ·
             refine yA ?_
             refine yCl 37 Try.call65 (in_f tr 0 10000 (by omega)) h77 ?_
             rintro v K w112 (⟨rfl, rfl⟩) h113
             refine ⟨_, rfl, ?_⟩
             have h114 := ap0 h113
             refine yB0 [16, 17, 18, 19, 20, 21, 22, 23, 24, 25, 26, 27] [12, 13, 14, 15] [(41, undef), (40, undef), (39, .bool false), (38, .bool false)] ?_
             refine plain_skip (by kernel_rfl : chkN (RA Try.f49 [1, 1, 1, 1, 0]) 53 _ 16 = some (some 42)) rfl ?_
             refine yB0 [] [17, 18, 19, 20, 21, 22, 23, 24, 25, 26, 27] [(2, .bool false), (52, .bool false), (51, undef), (50, undef), (49, undef), (48, undef), (47, undef), (46, undef), (45, undef), (44, .bool false), (43, .bool false)] (.mk ?_)
             refine yK [(2, .bool false)] fun lr115 => ?_
             refine yRt ?_
             repeat (first | simp only [Exit.inBlock] | simp only [Exit.then])
             have h116 := tk1 (sf2 h114)
             refine hi_out [] (.bool false) [] (by kernel_rfl) (by intro q hq; cases hq) ?_
             exact ⟨.bool false, [], rfl, ⟨by rw [decide_eq_false (by unfold posP; omega)], rfl⟩, h116⟩
           ·
            refine yA ?_
            refine yCl 31 Try.call65 (in_f why 1 hi (by omega)) h69 ?_
            rintro v K w117 (⟨rfl, rfl⟩) h118
            refine ⟨_, rfl, ?_⟩
            have h119 := ap0 h118
            refine yB0 [11, 12, 13, 14, 15, 16, 17, 18, 19, 20, 21, 22, 23, 24, 25, 26, 27] [6, 7, 8, 9, 10] [(36, undef), (35, undef), (34, undef), (33, undef), (32, .bool false)] ?_
            refine plain_skip (by kernel_rfl : chkN (RA Try.f49 [1, 1, 1, 1, 0]) 53 _ 11 = some (some 37)) rfl ?_
            refine yB0 [16, 17, 18, 19, 20, 21, 22, 23, 24, 25, 26, 27] [12, 13, 14, 15] [(41, undef), (40, undef), (39, .bool false), (38, .bool false)] ?_
            refine plain_skip (by kernel_rfl : chkN (RA Try.f49 [1, 1, 1, 1, 0]) 53 _ 16 = some (some 42)) rfl ?_
            refine yB0 [] [17, 18, 19, 20, 21, 22, 23, 24, 25, 26, 27] [(2, .bool false), (52, .bool false), (51, undef), (50, undef), (49, undef), (48, undef), (47, undef), (46, undef), (45, undef), (44, .bool false), (43, .bool false)] (.mk ?_)
            refine yK [(2, .bool false)] fun lr120 => ?_
            refine yRt ?_
            repeat (first | simp only [Exit.inBlock] | simp only [Exit.then])
            have h121 := tk1 (sf2 h119)
            refine hi_out [] (.bool false) [] (by kernel_rfl) (by intro q hq; cases hq) ?_
            exact ⟨.bool false, [], rfl, ⟨by rw [decide_eq_false (by unfold posP; omega)], rfl⟩, h121⟩
          ·
           refine yA ?_
           refine yCl 31 Try.call65 (in_f why 1 hi (by omega)) h69 ?_
           rintro v K w122 (⟨rfl, rfl⟩) h123
           refine ⟨_, rfl, ?_⟩
           have h124 := ap0 h123
           refine yB0 [11, 12, 13, 14, 15, 16, 17, 18, 19, 20, 21, 22, 23, 24, 25, 26, 27] [6, 7, 8, 9, 10] [(36, undef), (35, undef), (34, undef), (33, undef), (32, .bool false)] ?_
           refine plain_skip (by kernel_rfl : chkN (RA Try.f49 [1, 1, 1, 1, 0]) 53 _ 11 = some (some 37)) rfl ?_
           refine yB0 [16, 17, 18, 19, 20, 21, 22, 23, 24, 25, 26, 27] [12, 13, 14, 15] [(41, undef), (40, undef), (39, .bool false), (38, .bool false)] ?_
           refine plain_skip (by kernel_rfl : chkN (RA Try.f49 [1, 1, 1, 1, 0]) 53 _ 16 = some (some 42)) rfl ?_
           refine yB0 [] [17, 18, 19, 20, 21, 22, 23, 24, 25, 26, 27] [(2, .bool false), (52, .bool false), (51, undef), (50, undef), (49, undef), (48, undef), (47, undef), (46, undef), (45, undef), (44, .bool false), (43, .bool false)] (.mk ?_)
           refine yK [(2, .bool false)] fun lr125 => ?_
           refine yRt ?_
           repeat (first | simp only [Exit.inBlock] | simp only [Exit.then])
           have h126 := tk1 (sf2 h124)
           refine hi_out [] (.bool false) [] (by kernel_rfl) (by intro q hq; cases hq) ?_
           exact ⟨.bool false, [], rfl, ⟨by rw [decide_eq_false (by unfold posP; omega)], rfl⟩, h126⟩
         ·
          refine yBb [] [(4, iV hi), (25, iV hi)] [e1 2 (iV hi), e0 3] [] [(iV (if 1 < hi then 1 else hi), iV hi)] ⟨(ov_int (if_neg (by omega))), trivial⟩ nC (.mk ?_)
          refine yK [(1, pV r1), (3, pV rb), (4, iV hi)] fun lr127 => ?_
          refine ySq ?_
          refine yPl [0, 1, 2, 3, 4, 5, 6, 7, 8, 9, 10, 11, 12, 13, 14, 15, 16, 17, 18, 19, 20, 21, 22, 23, 24, 25, 26, 27] ?_
          refine yBb [5, 6, 7, 8, 9, 10, 11, 12, 13, 14, 15, 16, 17, 18, 19, 20, 21, 22, 23, 24, 25, 26, 27] [(30, iV hi), (29, .pointer (some ⟨rb, 1, none⟩)), (28, iV hi), (27, iV why), (26, .pointer (some ⟨r1, 4, none⟩))] [e0 0, e2 1 [iV why], e0 2, e0 3, e2 4 [iV hi]] [(4, ⟨rb, 1, none⟩, iV hi), (1, ⟨r1, 4, none⟩, iV why)] [] trivial (kC (sat_cell h69 0 rfl rfl) (kC (sat_cell h69 1 rfl rfl) nC)) ?_
          by_cases c128 : hi ≤ why
          ·
           by_cases c129 : why ≤ hi
           ·
            refine yA ?_
            refine yCl 31 Try.call65 (in_t why hi hi (by omega)) h69 ?_
            rintro v K w130 (⟨rfl, rfl⟩) h131
            refine ⟨_, rfl, ?_⟩
            have h132 := ap0 h131
            refine yBb [11, 12, 13, 14, 15, 16, 17, 18, 19, 20, 21, 22, 23, 24, 25, 26, 27] [(36, iV (10000 * hi)), (35, iV hi), (34, iV tr), (33, .pointer (some ⟨r1, 5, none⟩)), (32, .bool true)] [e0 6, e0 7, e2 8 [iV tr], e0 9, e1 10 (iV (10000 * hi))] [(8, ⟨r1, 5, none⟩, iV tr)] [(iV (IntKind.wrap .i64 (10000 * hi)), iV (10000 * hi))] ⟨(ov_i64 (by omega) (by omega) (by omega)), trivial⟩ (kC (sat_cell h132 1 rfl rfl) nC) ?_
            by_cases c133 : 0 ≤ tr
            ·
             by_cases c134 : tr ≤ 10000 * hi
             ·
              refine yA ?_
              refine yCl 37 Try.call65 (in_t tr 0 (10000 * hi) (by omega)) h132 ?_
              rintro v K w135 (⟨rfl, rfl⟩) h136
              refine ⟨_, rfl, ?_⟩
              have h137 := ap0 h136
              refine yBb [16, 17, 18, 19, 20, 21, 22, 23, 24, 25, 26, 27] [(41, iV nx), (40, .pointer (some ⟨r1, 6, none⟩)), (39, .bool true), (38, .bool true)] [e0 12, e0 13, e0 14, e2 15 [iV nx]] [(15, ⟨r1, 6, none⟩, iV nx)] [] trivial (kC (sat_cell h137 1 rfl rfl) nC) ?_
              by_cases c138 : 0 ≤ nx
              ·
               by_cases c139 : nx ≤ 1099511627776
               ·
                refine yA ?_
                refine yCl 42 Try.call66 (time_t nx (by omega)) h137 ?_
                rintro v K w140 (⟨rfl, rfl⟩) h141
                refine ⟨_, rfl, ?_⟩
                have h142 := ap0 h141
                refine yB0 [20, 21, 22, 23, 24, 25, 26, 27] [17, 18, 19] [(45, .pointer (some ⟨rb, 2, none⟩)), (44, .bool true), (43, .bool true)] ?_
                rcases Bool.eq_false_or_eq_true bb with cb143 | cb143
                ·
                 refine yBb [] [(2, .bool true), (52, .bool true), (51, .bool true), (50, undef), (49, undef), (48, undef), (47, .bool true), (46, .bool true)] [⟨20, [.bool (bb)], some (.bool true)⟩, e0 21, e0 22, e0 23, e0 24, e0 25, e0 26, e0 27] [(20, ⟨rb, 2, none⟩, .bool (bb))] [(.bool (bb), .bool true)] ⟨(ov_b cb143), trivial⟩ (kC (sat_cell h142 0 rfl rfl) nC) (.mk ?_)
                 refine yK [(2, .bool true)] fun lr144 => ?_
                 refine yRt ?_
                 repeat (first | simp only [Exit.inBlock] | simp only [Exit.then])
                 have hbb_ := of_decide_eq_true (hg_.symm.trans cb143)
                 have h145 := tk1 (sf2 h142)
                 refine hi_out [] (.bool true) [] (by kernel_rfl) (by intro q hq; cases hq) ?_
                 exact ⟨.bool true, [], rfl, ⟨by rw [decide_eq_true (by unfold posP; omega)], rfl⟩, h145⟩
                ·
                 refine yBb [24, 25, 26, 27] [(49, iV nx), (48, .pointer (some ⟨r1, 6, none⟩)), (47, .bool false), (46, .bool false)] [⟨20, [.bool (bb)], some (.bool false)⟩, e0 21, e0 22, e2 23 [iV nx]] [(23, ⟨r1, 6, none⟩, iV nx), (20, ⟨rb, 2, none⟩, .bool (bb))] [(.bool (bb), .bool false)] ⟨(ov_b cb143), trivial⟩ (kC (sat_cell h142 1 rfl rfl) (kC (sat_cell h142 0 rfl rfl) nC)) ?_
                 refine fk_cut ([(49, iV nx), (47, .bool false), (44, .bool true), (1, pV r1), (3, pV rb), (4, iV hi)] : Fr) (by kernel_rfl) (fun a => PO _ _ _ _ a _) (fun lr146 => ?_)
                 by_cases c147 : nx = 0
                 ·
                  refine yBb [] [(2, .bool true), (52, .bool true), (51, .bool true), (50, .bool true)] [e1 24 (.bool true), e0 25, e0 26, e0 27] [] [(.bool (nx == 0), .bool true)] ⟨(ov_et (by omega)), trivial⟩ nC (.mk ?_)
                  refine yK [(2, .bool true)] fun lr148 => ?_
                  refine yRt ?_
                  repeat (first | simp only [Exit.inBlock] | simp only [Exit.then])
                  have hbb_ := of_decide_eq_false (hg_.symm.trans cb143)
                  have h149 := tk1 (sf2 h142)
                  refine hi_out [] (.bool true) [] (by kernel_rfl) (by intro q hq; cases hq) ?_
                  exact ⟨.bool true, [], rfl, ⟨by rw [decide_eq_true (by unfold posP; omega)], rfl⟩, h149⟩
                 ·
                  refine yBb [] [(2, .bool false), (52, .bool false), (51, .bool false), (50, .bool false)] [e1 24 (.bool false), e0 25, e0 26, e0 27] [] [(.bool (nx == 0), .bool false)] ⟨(ov_ef (by omega)), trivial⟩ nC (.mk ?_)
                  refine yK [(2, .bool false)] fun lr150 => ?_
                  refine yRt ?_
                  repeat (first | simp only [Exit.inBlock] | simp only [Exit.then])
                  have hbb_ := of_decide_eq_false (hg_.symm.trans cb143)
                  have h151 := tk1 (sf2 h142)
                  refine hi_out [] (.bool false) [] (by kernel_rfl) (by intro q hq; cases hq) ?_
                  exact ⟨.bool false, [], rfl, ⟨by rw [decide_eq_false (by unfold posP; omega)], rfl⟩, h151⟩
               ·
                refine yA ?_
                refine yCl 42 Try.call66 (time_f nx (by omega)) h137 ?_
                rintro v K w152 (⟨rfl, rfl⟩) h153
                refine ⟨_, rfl, ?_⟩
                have h154 := ap0 h153
                refine yB0 [] [17, 18, 19, 20, 21, 22, 23, 24, 25, 26, 27] [(2, .bool false), (52, .bool false), (51, undef), (50, undef), (49, undef), (48, undef), (47, undef), (46, undef), (45, undef), (44, .bool false), (43, .bool false)] (.mk ?_)
                refine yK [(2, .bool false)] fun lr155 => ?_
                refine yRt ?_
                repeat (first | simp only [Exit.inBlock] | simp only [Exit.then])
                have h156 := tk1 (sf2 h154)
                refine hi_out [] (.bool false) [] (by kernel_rfl) (by intro q hq; cases hq) ?_
                exact ⟨.bool false, [], rfl, ⟨by rw [decide_eq_false (by unfold posP; omega)], rfl⟩, h156⟩
              ·
               refine yA ?_
               refine yCl 42 Try.call66 (time_f nx (by omega)) h137 ?_
               rintro v K w157 (⟨rfl, rfl⟩) h158
               refine ⟨_, rfl, ?_⟩
               have h159 := ap0 h158
               refine yB0 [] [17, 18, 19, 20, 21, 22, 23, 24, 25, 26, 27] [(2, .bool false), (52, .bool false), (51, undef), (50, undef), (49, undef), (48, undef), (47, undef), (46, undef), (45, undef), (44, .bool false), (43, .bool false)] (.mk ?_)
               refine yK [(2, .bool false)] fun lr160 => ?_
               refine yRt ?_
               repeat (first | simp only [Exit.inBlock] | simp only [Exit.then])
               have h161 := tk1 (sf2 h159)
               refine hi_out [] (.bool false) [] (by kernel_rfl) (by intro q hq; cases hq) ?_
               exact ⟨.bool false, [], rfl, ⟨by rw [decide_eq_false (by unfold posP; omega)], rfl⟩, h161⟩
             ·
              refine yA ?_
              refine yCl 37 Try.call65 (in_f tr 0 (10000 * hi) (by omega)) h132 ?_
              rintro v K w162 (⟨rfl, rfl⟩) h163
              refine ⟨_, rfl, ?_⟩
              have h164 := ap0 h163
              refine yB0 [16, 17, 18, 19, 20, 21, 22, 23, 24, 25, 26, 27] [12, 13, 14, 15] [(41, undef), (40, undef), (39, .bool false), (38, .bool false)] ?_
              refine plain_skip (by kernel_rfl : chkN (RA Try.f49 [1, 1, 1, 1, 0]) 53 _ 16 = some (some 42)) rfl ?_
              refine yB0 [] [17, 18, 19, 20, 21, 22, 23, 24, 25, 26, 27] [(2, .bool false), (52, .bool false), (51, undef), (50, undef), (49, undef), (48, undef), (47, undef), (46, undef), (45, undef), (44, .bool false), (43, .bool false)] (.mk ?_)
              refine yK [(2, .bool false)] fun lr165 => ?_
              refine yRt ?_
              repeat (first | simp only [Exit.inBlock] | simp only [Exit.then])
              have h166 := tk1 (sf2 h164)
              refine hi_out [] (.bool false) [] (by kernel_rfl) (by intro q hq; cases hq) ?_
              exact ⟨.bool false, [], rfl, ⟨by rw [decide_eq_false (by unfold posP; omega)], rfl⟩, h166⟩
            ·
             refine yA ?_
             refine yCl 37 Try.call65 (in_f tr 0 (10000 * hi) (by omega)) h132 ?_
             rintro v K w167 (⟨rfl, rfl⟩) h168
             refine ⟨_, rfl, ?_⟩
             have h169 := ap0 h168
             refine yB0 [16, 17, 18, 19, 20, 21, 22, 23, 24, 25, 26, 27] [12, 13, 14, 15] [(41, undef), (40, undef), (39, .bool false), (38, .bool false)] ?_
             refine plain_skip (by kernel_rfl : chkN (RA Try.f49 [1, 1, 1, 1, 0]) 53 _ 16 = some (some 42)) rfl ?_
             refine yB0 [] [17, 18, 19, 20, 21, 22, 23, 24, 25, 26, 27] [(2, .bool false), (52, .bool false), (51, undef), (50, undef), (49, undef), (48, undef), (47, undef), (46, undef), (45, undef), (44, .bool false), (43, .bool false)] (.mk ?_)
             refine yK [(2, .bool false)] fun lr170 => ?_
             refine yRt ?_
             repeat (first | simp only [Exit.inBlock] | simp only [Exit.then])
             have h171 := tk1 (sf2 h169)
             refine hi_out [] (.bool false) [] (by kernel_rfl) (by intro q hq; cases hq) ?_
             exact ⟨.bool false, [], rfl, ⟨by rw [decide_eq_false (by unfold posP; omega)], rfl⟩, h171⟩
           ·
            refine yA ?_
            refine yCl 31 Try.call65 (in_f why hi hi (by omega)) h69 ?_
            rintro v K w172 (⟨rfl, rfl⟩) h173
            refine ⟨_, rfl, ?_⟩
            have h174 := ap0 h173
            refine yB0 [11, 12, 13, 14, 15, 16, 17, 18, 19, 20, 21, 22, 23, 24, 25, 26, 27] [6, 7, 8, 9, 10] [(36, undef), (35, undef), (34, undef), (33, undef), (32, .bool false)] ?_
            refine plain_skip (by kernel_rfl : chkN (RA Try.f49 [1, 1, 1, 1, 0]) 53 _ 11 = some (some 37)) rfl ?_
            refine yB0 [16, 17, 18, 19, 20, 21, 22, 23, 24, 25, 26, 27] [12, 13, 14, 15] [(41, undef), (40, undef), (39, .bool false), (38, .bool false)] ?_
            refine plain_skip (by kernel_rfl : chkN (RA Try.f49 [1, 1, 1, 1, 0]) 53 _ 16 = some (some 42)) rfl ?_
            refine yB0 [] [17, 18, 19, 20, 21, 22, 23, 24, 25, 26, 27] [(2, .bool false), (52, .bool false), (51, undef), (50, undef), (49, undef), (48, undef), (47, undef), (46, undef), (45, undef), (44, .bool false), (43, .bool false)] (.mk ?_)
            refine yK [(2, .bool false)] fun lr175 => ?_
            refine yRt ?_
            repeat (first | simp only [Exit.inBlock] | simp only [Exit.then])
            have h176 := tk1 (sf2 h174)
            refine hi_out [] (.bool false) [] (by kernel_rfl) (by intro q hq; cases hq) ?_
            exact ⟨.bool false, [], rfl, ⟨by rw [decide_eq_false (by unfold posP; omega)], rfl⟩, h176⟩
          ·
           refine yA ?_
           refine yCl 31 Try.call65 (in_f why hi hi (by omega)) h69 ?_
           rintro v K w177 (⟨rfl, rfl⟩) h178
           refine ⟨_, rfl, ?_⟩
           have h179 := ap0 h178
           refine yB0 [11, 12, 13, 14, 15, 16, 17, 18, 19, 20, 21, 22, 23, 24, 25, 26, 27] [6, 7, 8, 9, 10] [(36, undef), (35, undef), (34, undef), (33, undef), (32, .bool false)] ?_
           refine plain_skip (by kernel_rfl : chkN (RA Try.f49 [1, 1, 1, 1, 0]) 53 _ 11 = some (some 37)) rfl ?_
           refine yB0 [16, 17, 18, 19, 20, 21, 22, 23, 24, 25, 26, 27] [12, 13, 14, 15] [(41, undef), (40, undef), (39, .bool false), (38, .bool false)] ?_
           refine plain_skip (by kernel_rfl : chkN (RA Try.f49 [1, 1, 1, 1, 0]) 53 _ 16 = some (some 42)) rfl ?_
           refine yB0 [] [17, 18, 19, 20, 21, 22, 23, 24, 25, 26, 27] [(2, .bool false), (52, .bool false), (51, undef), (50, undef), (49, undef), (48, undef), (47, undef), (46, undef), (45, undef), (44, .bool false), (43, .bool false)] (.mk ?_)
           refine yK [(2, .bool false)] fun lr180 => ?_
           refine yRt ?_
           repeat (first | simp only [Exit.inBlock] | simp only [Exit.then])
           have h181 := tk1 (sf2 h179)
           refine hi_out [] (.bool false) [] (by kernel_rfl) (by intro q hq; cases hq) ?_
           exact ⟨.bool false, [], rfl, ⟨by rw [decide_eq_false (by unfold posP; omega)], rfl⟩, h181⟩
     ·
      refine yA ?_
      refine yCl 7 Try.call63 (couter_no x y z (by omega) (by omega) (by omega)) h3 ?_
      rintro v K w182 (⟨rfl, rfl⟩) h183
      refine ⟨_, rfl, ?_⟩
      have h184 := ap0 h183
      refine yB0 [] [3, 4, 5, 6, 7, 8, 9, 10, 11, 12, 13] [(18, .bool true), (17, undef), (16, undef), (15, undef), (14, .bool true), (13, .bool true), (12, undef), (11, undef), (10, undef), (9, .bool true), (8, .bool true)] (.mk ?_)
      refine yK [(1, pV r1), (18, .bool true)] fun lr185 => ?_
      refine yCt ?_
      refine ySq ?_
      refine yPl [0] ?_
      refine yB0 [] [0] [(2, .bool false)] (.mk ?_)
      refine yK [(2, .bool false)] fun lr186 => ?_
      refine yRt ?_
      repeat (first | simp only [Exit.inBlock] | simp only [Exit.then])
      have h187 := tk1 (sf1 h184)
      refine hi_out [] (.bool false) [] (by kernel_rfl) (by intro q hq; cases hq) ?_
      exact ⟨.bool false, [], rfl, ⟨by rw [decide_eq_false (by unfold posP; omega)], rfl⟩, h187⟩
    ·
     refine yA ?_
     refine yCl 7 Try.call63 (couter_no x y z (by omega) (by omega) (by omega)) h3 ?_
     rintro v K w188 (⟨rfl, rfl⟩) h189
     refine ⟨_, rfl, ?_⟩
     have h190 := ap0 h189
     refine yB0 [] [3, 4, 5, 6, 7, 8, 9, 10, 11, 12, 13] [(18, .bool true), (17, undef), (16, undef), (15, undef), (14, .bool true), (13, .bool true), (12, undef), (11, undef), (10, undef), (9, .bool true), (8, .bool true)] (.mk ?_)
     refine yK [(1, pV r1), (18, .bool true)] fun lr191 => ?_
     refine yCt ?_
     refine ySq ?_
     refine yPl [0] ?_
     refine yB0 [] [0] [(2, .bool false)] (.mk ?_)
     refine yK [(2, .bool false)] fun lr192 => ?_
     refine yRt ?_
     repeat (first | simp only [Exit.inBlock] | simp only [Exit.then])
     have h193 := tk1 (sf1 h190)
     refine hi_out [] (.bool false) [] (by kernel_rfl) (by intro q hq; cases hq) ?_
     exact ⟨.bool false, [], rfl, ⟨by rw [decide_eq_false (by unfold posP; omega)], rfl⟩, h193⟩
   ·
    refine yA ?_
    refine yCl 7 Try.call63 (couter_no x y z (by omega) (by omega) (by omega)) h3 ?_
    rintro v K w194 (⟨rfl, rfl⟩) h195
    refine ⟨_, rfl, ?_⟩
    have h196 := ap0 h195
    refine yB0 [] [3, 4, 5, 6, 7, 8, 9, 10, 11, 12, 13] [(18, .bool true), (17, undef), (16, undef), (15, undef), (14, .bool true), (13, .bool true), (12, undef), (11, undef), (10, undef), (9, .bool true), (8, .bool true)] (.mk ?_)
    refine yK [(1, pV r1), (18, .bool true)] fun lr197 => ?_
    refine yCt ?_
    refine ySq ?_
    refine yPl [0] ?_
    refine yB0 [] [0] [(2, .bool false)] (.mk ?_)
    refine yK [(2, .bool false)] fun lr198 => ?_
    refine yRt ?_
    repeat (first | simp only [Exit.inBlock] | simp only [Exit.then])
    have h199 := tk1 (sf1 h196)
    refine hi_out [] (.bool false) [] (by kernel_rfl) (by intro q hq; cases hq) ?_
    exact ⟨.bool false, [], rfl, ⟨by rw [decide_eq_false (by unfold posP; omega)], rfl⟩, h199⟩
  ·
   refine yA ?_
   refine yCl 7 Try.call63 (couter_no x y z (by omega) (by omega) (by omega)) h3 ?_
   rintro v K w200 (⟨rfl, rfl⟩) h201
   refine ⟨_, rfl, ?_⟩
   have h202 := ap0 h201
   refine yB0 [] [3, 4, 5, 6, 7, 8, 9, 10, 11, 12, 13] [(18, .bool true), (17, undef), (16, undef), (15, undef), (14, .bool true), (13, .bool true), (12, undef), (11, undef), (10, undef), (9, .bool true), (8, .bool true)] (.mk ?_)
   refine yK [(1, pV r1), (18, .bool true)] fun lr203 => ?_
   refine yCt ?_
   refine ySq ?_
   refine yPl [0] ?_
   refine yB0 [] [0] [(2, .bool false)] (.mk ?_)
   refine yK [(2, .bool false)] fun lr204 => ?_
   refine yRt ?_
   repeat (first | simp only [Exit.inBlock] | simp only [Exit.then])
   have h205 := tk1 (sf1 h202)
   refine hi_out [] (.bool false) [] (by kernel_rfl) (by intro q hq; cases hq) ?_
   exact ⟨.bool false, [], rfl, ⟨by rw [decide_eq_false (by unfold posP; omega)], rfl⟩, h205⟩
 ·
  refine yA ?_
  refine yCl 7 Try.call63 (couter_no x y z (by omega) (by omega) (by omega)) h3 ?_
  rintro v K w206 (⟨rfl, rfl⟩) h207
  refine ⟨_, rfl, ?_⟩
  have h208 := ap0 h207
  refine yB0 [] [3, 4, 5, 6, 7, 8, 9, 10, 11, 12, 13] [(18, .bool true), (17, undef), (16, undef), (15, undef), (14, .bool true), (13, .bool true), (12, undef), (11, undef), (10, undef), (9, .bool true), (8, .bool true)] (.mk ?_)
  refine yK [(1, pV r1), (18, .bool true)] fun lr209 => ?_
  refine yCt ?_
  refine ySq ?_
  refine yPl [0] ?_
  refine yB0 [] [0] [(2, .bool false)] (.mk ?_)
  refine yK [(2, .bool false)] fun lr210 => ?_
  refine yRt ?_
  repeat (first | simp only [Exit.inBlock] | simp only [Exit.then])
  have h211 := tk1 (sf1 h208)
  refine hi_out [] (.bool false) [] (by kernel_rfl) (by intro q hq; cases hq) ?_
  exact ⟨.bool false, [], rfl, ⟨by rw [decide_eq_false (by unfold posP; omega)], rfl⟩, h211⟩

set_option maxHeartbeats 4000000 in
theorem rchk_ht (x y z st why tr nx : Int) (L : List UInt8) (hz0 : 0 ≤ z) (hz1 : z ≤ 4294967295) (hm : L.length ≤ 1099511627776) : HT Try.prog 23 [Value.agg #[Value.int IntKind.i64 x, Value.int IntKind.i64 y, Value.int IntKind.u32 z, Value.int IntKind.i64 st, Value.int IntKind.i64 why, Value.int IntKind.i64 tr, Value.int IntKind.i64 nx, Value.string (St L)]] [] (fun v K => v = Value.int .i64 (resE x y z st why tr nx L) ∧ K = []) := by
 refine hi_in 9 ([(0, .agg #[iV x, iV y, uV z, iV st, iV why, iV tr, iV nx, .string (St L)])] : Fr) Try.func23 (by kernel_rfl) Try.ntmps23 rfl rfl ?_
 intro g w0 R h0
 refine ySq ?_
 refine yPl [0, 1] ?_
 refine yA ?_
 refine yNp 1 42 [iV x, iV y, uV z, iV st, iV why, iV tr, iV nx, .string (St L)] h0 fun r1 w2 h3 => ?_
 refine yB0 [] [1] [(2, iV 0)] (.mk ?_)
 refine yK [(1, pV r1)] fun lr4 => ?_
 refine ySq ?_
 refine ySq ?_
 refine yPl [0, 1, 2] ?_
 refine yBb [1, 2] [(3, .agg #[iV x, iV y, uV z, iV st, iV why, iV tr, iV nx, .string (St L)])] [e2 0 [iV x, iV y, uV z, iV st, iV why, iV tr, iV nx, .string (St L)]] [(0, ⟨r1, 0, none⟩, iV x), (0, ⟨r1, 1, none⟩, iV y), (0, ⟨r1, 2, none⟩, uV z), (0, ⟨r1, 3, none⟩, iV st), (0, ⟨r1, 4, none⟩, iV why), (0, ⟨r1, 5, none⟩, iV tr), (0, ⟨r1, 6, none⟩, iV nx), (0, ⟨r1, 7, none⟩, .string (St L))] [] trivial (kC (sat_cell h3 0 rfl rfl) (kC (sat_cell h3 0 rfl rfl) (kC (sat_cell h3 0 rfl rfl) (kC (sat_cell h3 0 rfl rfl) (kC (sat_cell h3 0 rfl rfl) (kC (sat_cell h3 0 rfl rfl) (kC (sat_cell h3 0 rfl rfl) (kC (sat_cell h3 0 rfl rfl) nC)))))))) ?_
 rcases Bool.eq_false_or_eq_true (decide (posP x y z st why tr nx)) with cb5 | cb5
 ·
  refine yA ?_
  refine yCl 4 Try.call49 ((by have h_ := poss_ht x y z st why tr nx L (by omega) (by omega); rw [cb5] at h_; exact h_)) h3 ?_
  rintro v K w6 (⟨rfl, rfl⟩) h7
  refine ⟨_, rfl, ?_⟩
  have h8 := ap0 h7
  refine yB0 [] [2] [(5, .bool false)] (.mk ?_)
  refine yK [(1, pV r1), (5, .bool false)] fun lr9 => ?_
  refine yCf ?_
  refine ySk ?_
  refine ySq ?_
  refine yPl [0, 1, 2, 3] ?_
  refine yBb [2, 3] [(7, .string (St L)), (6, .pointer (some ⟨r1, 7, none⟩))] [e0 0, e2 1 [.string (St L)]] [(1, ⟨r1, 7, none⟩, .string (St L))] [] trivial (kC (sat_cell h8 0 rfl rfl) nC) ?_
  refine yA ?_
  refine yCl 8 Try.call50 (tag_ht L (by omega)) h8 ?_
  rintro v K w10 (⟨rfl, rfl⟩) h11
  refine ⟨_, rfl, ?_⟩
  have h12 := ap0 h11
  refine yB0 [] [3] [(2, iV ((tagE L)))] (.mk ?_)
  refine yK [(2, iV ((tagE L)))] fun lr13 => ?_
  refine yRt ?_
  repeat (first | simp only [Exit.inBlock] | simp only [Exit.then])
  have h14 := tk1 (sf1 h12)
  refine hi_out [] (iV ((tagE L))) [] (by kernel_rfl) (by intro q hq; cases hq) ?_
  exact ⟨iV ((tagE L)), [], rfl, ⟨by unfold resE; rw [if_pos (of_decide_eq_true cb5)], rfl⟩, h14⟩
 ·
  refine yA ?_
  refine yCl 4 Try.call49 ((by have h_ := poss_ht x y z st why tr nx L (by omega) (by omega); rw [cb5] at h_; exact h_)) h3 ?_
  rintro v K w15 (⟨rfl, rfl⟩) h16
  refine ⟨_, rfl, ?_⟩
  have h17 := ap0 h16
  refine yB0 [] [2] [(5, .bool true)] (.mk ?_)
  refine yK [(1, pV r1), (5, .bool true)] fun lr18 => ?_
  refine yCt ?_
  refine ySq ?_
  refine yPl [0] ?_
  refine yB0 [] [0] [(2, iV 2)] (.mk ?_)
  refine yK [(2, iV 2)] fun lr19 => ?_
  refine yRt ?_
  repeat (first | simp only [Exit.inBlock] | simp only [Exit.then])
  have h20 := tk1 (sf1 h17)
  refine hi_out [] (iV 2) [] (by kernel_rfl) (by intro q hq; cases hq) ?_
  exact ⟨iV 2, [], rfl, ⟨by unfold resE; rw [if_neg (of_decide_eq_false cb5)], rfl⟩, h20⟩

set_option maxHeartbeats 4000000 in
theorem rnew_ok (x y z : Int) (L : List UInt8) (hz0 : 0 ≤ z) (hz1 : z ≤ 4294967295) (hm : L.length ≤ 1099511627776) (ho : 1 ≤ x ∧ x ≤ 3 ∧ 0 ≤ y ∧ y ≤ 63 ∧ 1 ≤ z) (ht : tagE L = 0) : HT Try.prog 37 [Value.agg #[Value.int IntKind.i64 x, Value.int IntKind.i64 y, Value.int IntKind.u32 z], Value.string (St L)] [] (fun v K => v = Value.tuple #[Value.agg #[Value.int IntKind.i64 x, Value.int IntKind.i64 y, Value.int IntKind.u32 z, Value.int IntKind.i64 1, Value.int IntKind.i64 0, Value.int IntKind.i64 0, Value.int IntKind.i64 0, Value.string (St L)], Value.int IntKind.i64 0] ∧ K = []) := by
 refine hi_in 18 ([(0, .agg #[iV x, iV y, uV z]), (1, .string (St L))] : Fr) Try.func37 (by kernel_rfl) Try.ntmps37 rfl rfl ?_
 intro g w0 R h0
 refine ySq ?_
 refine yPl [0, 1, 2] ?_
 refine yA ?_
 refine yNp 2 32 [iV x, iV y, uV z] h0 fun r1 w2 h3 => ?_
 refine yA ?_
 refine yNp 4 42 [iV 0, iV 0, uV 0, iV 0, iV 0, iV 0, iV 0, .string (St [])] h3 fun r4 w5 h6 => ?_
 refine yB0 [] [2] [(5, iV 0)] (.mk ?_)
 refine yK [(1, .string (St L)), (2, pV r1), (4, pV r4)] fun lr7 => ?_
 refine ySq ?_
 refine yPl [0, 1, 2, 3, 4] ?_
 refine yBb [3, 4] [(10, .agg #[iV x, iV y, uV z, iV 1, iV 0, iV 0, iV 0, .string (St L)]), (9, .string (St L)), (8, .agg #[iV x, iV y, uV z])] [e2 0 [iV x, iV y, uV z], e0 1, e0 2] [(0, ⟨r1, 0, none⟩, iV x), (0, ⟨r1, 1, none⟩, iV y), (0, ⟨r1, 2, none⟩, uV z)] [] trivial (kC (sat_cell h6 1 rfl rfl) (kC (sat_cell h6 1 rfl rfl) (kC (sat_cell h6 1 rfl rfl) nC))) ?_
 refine yA ?_
 refine yNp 6 42 [iV 0, iV 0, uV 0, iV 0, iV 0, iV 0, iV 0, .string (St [])] h6 fun r8 w9 h10 => ?_
 refine yA ?_
 refine yS [(0, iV x), (1, iV y), (2, uV z), (3, iV 1), (4, iV 0), (5, iV 0), (6, iV 0), (7, .string (St L))] [iV x, iV y, uV z, iV 1, iV 0, iV 0, iV 0, .string (St L)] h10 fun w11 h12 => ?_
 refine PO.mk ?_
 refine yK [(4, pV r4), (6, pV r8)] fun lr13 => ?_
 refine ySq ?_
 refine ySq ?_
 refine yPl [0, 1, 2] ?_
 refine yBb [1, 2] [(11, .agg #[iV x, iV y, uV z, iV 1, iV 0, iV 0, iV 0, .string (St L)])] [e2 0 [iV x, iV y, uV z, iV 1, iV 0, iV 0, iV 0, .string (St L)]] [(0, ⟨r8, 0, none⟩, iV x), (0, ⟨r8, 1, none⟩, iV y), (0, ⟨r8, 2, none⟩, uV z), (0, ⟨r8, 3, none⟩, iV 1), (0, ⟨r8, 4, none⟩, iV 0), (0, ⟨r8, 5, none⟩, iV 0), (0, ⟨r8, 6, none⟩, iV 0), (0, ⟨r8, 7, none⟩, .string (St L))] [] trivial (kC (sat_cell h12 0 rfl rfl) (kC (sat_cell h12 0 rfl rfl) (kC (sat_cell h12 0 rfl rfl) (kC (sat_cell h12 0 rfl rfl) (kC (sat_cell h12 0 rfl rfl) (kC (sat_cell h12 0 rfl rfl) (kC (sat_cell h12 0 rfl rfl) (kC (sat_cell h12 0 rfl rfl) nC)))))))) ?_
 refine yA ?_
 refine yCl 12 Try.call23 ((by have h_ := rchk_ht x y z 1 0 0 0 L (by omega) (by omega) (by omega); rw [show resE x y z 1 0 0 0 L = 0 from (if_pos (by unfold posP; omega)).trans (show tagE L = 0 from by omega)] at h_; exact h_)) h12 ?_
 rintro v K w14 (⟨rfl, rfl⟩) h15
 refine ⟨_, rfl, ?_⟩
 have h16 := ap0 h15
 refine yB0 [] [2] [(7, iV 0)] (.mk ?_)
 refine yK [(4, pV r4), (6, pV r8), (7, iV 0)] fun lr17 => ?_
 refine ySq ?_
 refine yPl [0, 1] ?_
 refine yB0 [] [0, 1] [(14, .bool false), (13, iV 0)] (.mk ?_)
 refine yK [(4, pV r4), (6, pV r8), (7, iV 0), (14, .bool false)] fun lr18 => ?_
 refine yCf ?_
 refine ySk ?_
 refine ySq ?_
 refine yPl [0, 1, 2] ?_
 refine yBb [1, 2] [(17, .agg #[iV x, iV y, uV z, iV 1, iV 0, iV 0, iV 0, .string (St L)])] [e2 0 [iV x, iV y, uV z, iV 1, iV 0, iV 0, iV 0, .string (St L)]] [(0, ⟨r8, 0, none⟩, iV x), (0, ⟨r8, 1, none⟩, iV y), (0, ⟨r8, 2, none⟩, uV z), (0, ⟨r8, 3, none⟩, iV 1), (0, ⟨r8, 4, none⟩, iV 0), (0, ⟨r8, 5, none⟩, iV 0), (0, ⟨r8, 6, none⟩, iV 0), (0, ⟨r8, 7, none⟩, .string (St L))] [] trivial (kC (sat_cell h16 0 rfl rfl) (kC (sat_cell h16 0 rfl rfl) (kC (sat_cell h16 0 rfl rfl) (kC (sat_cell h16 0 rfl rfl) (kC (sat_cell h16 0 rfl rfl) (kC (sat_cell h16 0 rfl rfl) (kC (sat_cell h16 0 rfl rfl) (kC (sat_cell h16 0 rfl rfl) nC)))))))) ?_
 have h19 := tk4 (sf3 (sf2 (sf3 (sf3 h16))))
 refine yA ?_
 refine yS [(0, iV x), (1, iV y), (2, uV z), (3, iV 1), (4, iV 0), (5, iV 0), (6, iV 0), (7, .string (St L))] [iV x, iV y, uV z, iV 1, iV 0, iV 0, iV 0, .string (St L)] h19 fun w20 h21 => ?_
 refine yB0 [] [2] [(5, iV 0)] (.mk ?_)
 refine yK [(4, pV r4), (5, iV 0)] fun lr22 => ?_
 refine yRt ?_
 repeat (first | simp only [Exit.inBlock] | simp only [Exit.then])
 have h23 := tk1 (sf3 h21)
 refine hi_out [iV x, iV y, uV z, iV 1, iV 0, iV 0, iV 0, .string (St L)] (.tuple #[.agg #[iV x, iV y, uV z, iV 1, iV 0, iV 0, iV 0, .string (St L)], iV 0]) [(⟨r4, 0, none⟩, iV x), (⟨r4, 1, none⟩, iV y), (⟨r4, 2, none⟩, uV z), (⟨r4, 3, none⟩, iV 1), (⟨r4, 4, none⟩, iV 0), (⟨r4, 5, none⟩, iV 0), (⟨r4, 6, none⟩, iV 0), (⟨r4, 7, none⟩, .string (St L))] (by kernel_rfl) (allq ⟨sat_cell h21 0 rfl rfl, sat_cell h21 0 rfl rfl, sat_cell h21 0 rfl rfl, sat_cell h21 0 rfl rfl, sat_cell h21 0 rfl rfl, sat_cell h21 0 rfl rfl, sat_cell h21 0 rfl rfl, sat_cell h21 0 rfl rfl, trivial⟩) ?_
 exact ⟨.tuple #[.agg #[iV x, iV y, uV z, iV 1, iV 0, iV 0, iV 0, .string (St L)], iV 0], [], rfl, ⟨rfl, rfl⟩, h23⟩

set_option maxHeartbeats 4000000 in
theorem rnew_tag (x y z : Int) (L : List UInt8) (hz0 : 0 ≤ z) (hz1 : z ≤ 4294967295) (hm : L.length ≤ 1099511627776) (ho : 1 ≤ x ∧ x ≤ 3 ∧ 0 ≤ y ∧ y ≤ 63 ∧ 1 ≤ z) (ht : ¬ tagE L = 0) : HT Try.prog 37 [Value.agg #[Value.int IntKind.i64 x, Value.int IntKind.i64 y, Value.int IntKind.u32 z], Value.string (St L)] [] (fun v K => v = Value.tuple #[Value.agg #[Value.int IntKind.i64 0, Value.int IntKind.i64 0, Value.int IntKind.u32 0, Value.int IntKind.i64 0, Value.int IntKind.i64 0, Value.int IntKind.i64 0, Value.int IntKind.i64 0, Value.string (St [])], Value.int IntKind.i64 16] ∧ K = []) := by
 refine hi_in 18 ([(0, .agg #[iV x, iV y, uV z]), (1, .string (St L))] : Fr) Try.func37 (by kernel_rfl) Try.ntmps37 rfl rfl ?_
 intro g w0 R h0
 refine ySq ?_
 refine yPl [0, 1, 2] ?_
 refine yA ?_
 refine yNp 2 32 [iV x, iV y, uV z] h0 fun r1 w2 h3 => ?_
 refine yA ?_
 refine yNp 4 42 [iV 0, iV 0, uV 0, iV 0, iV 0, iV 0, iV 0, .string (St [])] h3 fun r4 w5 h6 => ?_
 refine yB0 [] [2] [(5, iV 0)] (.mk ?_)
 refine yK [(1, .string (St L)), (2, pV r1), (4, pV r4)] fun lr7 => ?_
 refine ySq ?_
 refine yPl [0, 1, 2, 3, 4] ?_
 refine yBb [3, 4] [(10, .agg #[iV x, iV y, uV z, iV 1, iV 0, iV 0, iV 0, .string (St L)]), (9, .string (St L)), (8, .agg #[iV x, iV y, uV z])] [e2 0 [iV x, iV y, uV z], e0 1, e0 2] [(0, ⟨r1, 0, none⟩, iV x), (0, ⟨r1, 1, none⟩, iV y), (0, ⟨r1, 2, none⟩, uV z)] [] trivial (kC (sat_cell h6 1 rfl rfl) (kC (sat_cell h6 1 rfl rfl) (kC (sat_cell h6 1 rfl rfl) nC))) ?_
 refine yA ?_
 refine yNp 6 42 [iV 0, iV 0, uV 0, iV 0, iV 0, iV 0, iV 0, .string (St [])] h6 fun r8 w9 h10 => ?_
 refine yA ?_
 refine yS [(0, iV x), (1, iV y), (2, uV z), (3, iV 1), (4, iV 0), (5, iV 0), (6, iV 0), (7, .string (St L))] [iV x, iV y, uV z, iV 1, iV 0, iV 0, iV 0, .string (St L)] h10 fun w11 h12 => ?_
 refine PO.mk ?_
 refine yK [(4, pV r4), (6, pV r8)] fun lr13 => ?_
 refine ySq ?_
 refine ySq ?_
 refine yPl [0, 1, 2] ?_
 refine yBb [1, 2] [(11, .agg #[iV x, iV y, uV z, iV 1, iV 0, iV 0, iV 0, .string (St L)])] [e2 0 [iV x, iV y, uV z, iV 1, iV 0, iV 0, iV 0, .string (St L)]] [(0, ⟨r8, 0, none⟩, iV x), (0, ⟨r8, 1, none⟩, iV y), (0, ⟨r8, 2, none⟩, uV z), (0, ⟨r8, 3, none⟩, iV 1), (0, ⟨r8, 4, none⟩, iV 0), (0, ⟨r8, 5, none⟩, iV 0), (0, ⟨r8, 6, none⟩, iV 0), (0, ⟨r8, 7, none⟩, .string (St L))] [] trivial (kC (sat_cell h12 0 rfl rfl) (kC (sat_cell h12 0 rfl rfl) (kC (sat_cell h12 0 rfl rfl) (kC (sat_cell h12 0 rfl rfl) (kC (sat_cell h12 0 rfl rfl) (kC (sat_cell h12 0 rfl rfl) (kC (sat_cell h12 0 rfl rfl) (kC (sat_cell h12 0 rfl rfl) nC)))))))) ?_
 refine yA ?_
 refine yCl 12 Try.call23 ((by have h_ := rchk_ht x y z 1 0 0 0 L (by omega) (by omega) (by omega); rw [show resE x y z 1 0 0 0 L = 16 from (if_pos (by unfold posP; omega)).trans (show tagE L = 16 from by have h2_ := tagE_or L; omega)] at h_; exact h_)) h12 ?_
 rintro v K w14 (⟨rfl, rfl⟩) h15
 refine ⟨_, rfl, ?_⟩
 have h16 := ap0 h15
 refine yB0 [] [2] [(7, iV 16)] (.mk ?_)
 refine yK [(4, pV r4), (6, pV r8), (7, iV 16)] fun lr17 => ?_
 refine ySq ?_
 refine yPl [0, 1] ?_
 refine yB0 [] [0, 1] [(14, .bool true), (13, iV 16)] (.mk ?_)
 refine yK [(4, pV r4), (6, pV r8), (7, iV 16), (14, .bool true)] fun lr18 => ?_
 refine yCt ?_
 refine ySq ?_
 refine yPl [0, 1, 2, 3] ?_
 refine yB0 [2, 3] [0, 1] [(16, iV 16), (15, .agg #[iV 0, iV 0, uV 0, iV 0, iV 0, iV 0, iV 0, .string (St [])])] ?_
 have h19 := tk4 (sf3 (sf2 (sf3 (sf3 h16))))
 refine yA ?_
 refine yS [(0, iV 0), (1, iV 0), (2, uV 0), (3, iV 0), (4, iV 0), (5, iV 0), (6, iV 0), (7, .string (St []))] [iV 0, iV 0, uV 0, iV 0, iV 0, iV 0, iV 0, .string (St [])] h19 fun w20 h21 => ?_
 refine yB0 [] [3] [(5, iV 16)] (.mk ?_)
 refine yK [(4, pV r4), (5, iV 16)] fun lr22 => ?_
 refine yRt ?_
 repeat (first | simp only [Exit.inBlock] | simp only [Exit.then])
 have h23 := tk1 (sf3 h21)
 refine hi_out [iV 0, iV 0, uV 0, iV 0, iV 0, iV 0, iV 0, .string (St [])] (.tuple #[.agg #[iV 0, iV 0, uV 0, iV 0, iV 0, iV 0, iV 0, .string (St [])], iV 16]) [(⟨r4, 0, none⟩, iV 0), (⟨r4, 1, none⟩, iV 0), (⟨r4, 2, none⟩, uV 0), (⟨r4, 3, none⟩, iV 0), (⟨r4, 4, none⟩, iV 0), (⟨r4, 5, none⟩, iV 0), (⟨r4, 6, none⟩, iV 0), (⟨r4, 7, none⟩, .string (St []))] (by kernel_rfl) (allq ⟨sat_cell h21 0 rfl rfl, sat_cell h21 0 rfl rfl, sat_cell h21 0 rfl rfl, sat_cell h21 0 rfl rfl, sat_cell h21 0 rfl rfl, sat_cell h21 0 rfl rfl, sat_cell h21 0 rfl rfl, sat_cell h21 0 rfl rfl, trivial⟩) ?_
 exact ⟨.tuple #[.agg #[iV 0, iV 0, uV 0, iV 0, iV 0, iV 0, iV 0, .string (St [])], iV 16], [], rfl, ⟨rfl, rfl⟩, h23⟩

set_option maxHeartbeats 4000000 in
theorem rnew_no (x y z : Int) (L : List UInt8) (hz0 : 0 ≤ z) (hz1 : z ≤ 4294967295) (hm : L.length ≤ 1099511627776) (ho : ¬ (1 ≤ x ∧ x ≤ 3 ∧ 0 ≤ y ∧ y ≤ 63 ∧ 1 ≤ z)) : HT Try.prog 37 [Value.agg #[Value.int IntKind.i64 x, Value.int IntKind.i64 y, Value.int IntKind.u32 z], Value.string (St L)] [] (fun v K => v = Value.tuple #[Value.agg #[Value.int IntKind.i64 0, Value.int IntKind.i64 0, Value.int IntKind.u32 0, Value.int IntKind.i64 0, Value.int IntKind.i64 0, Value.int IntKind.i64 0, Value.int IntKind.i64 0, Value.string (St [])], Value.int IntKind.i64 2] ∧ K = []) := by
 refine hi_in 18 ([(0, .agg #[iV x, iV y, uV z]), (1, .string (St L))] : Fr) Try.func37 (by kernel_rfl) Try.ntmps37 rfl rfl ?_
 intro g w0 R h0
 refine ySq ?_
 refine yPl [0, 1, 2] ?_
 refine yA ?_
 refine yNp 2 32 [iV x, iV y, uV z] h0 fun r1 w2 h3 => ?_
 refine yA ?_
 refine yNp 4 42 [iV 0, iV 0, uV 0, iV 0, iV 0, iV 0, iV 0, .string (St [])] h3 fun r4 w5 h6 => ?_
 refine yB0 [] [2] [(5, iV 0)] (.mk ?_)
 refine yK [(1, .string (St L)), (2, pV r1), (4, pV r4)] fun lr7 => ?_
 refine ySq ?_
 refine yPl [0, 1, 2, 3, 4] ?_
 refine yBb [3, 4] [(10, .agg #[iV x, iV y, uV z, iV 1, iV 0, iV 0, iV 0, .string (St L)]), (9, .string (St L)), (8, .agg #[iV x, iV y, uV z])] [e2 0 [iV x, iV y, uV z], e0 1, e0 2] [(0, ⟨r1, 0, none⟩, iV x), (0, ⟨r1, 1, none⟩, iV y), (0, ⟨r1, 2, none⟩, uV z)] [] trivial (kC (sat_cell h6 1 rfl rfl) (kC (sat_cell h6 1 rfl rfl) (kC (sat_cell h6 1 rfl rfl) nC))) ?_
 refine yA ?_
 refine yNp 6 42 [iV 0, iV 0, uV 0, iV 0, iV 0, iV 0, iV 0, .string (St [])] h6 fun r8 w9 h10 => ?_
 refine yA ?_
 refine yS [(0, iV x), (1, iV y), (2, uV z), (3, iV 1), (4, iV 0), (5, iV 0), (6, iV 0), (7, .string (St L))] [iV x, iV y, uV z, iV 1, iV 0, iV 0, iV 0, .string (St L)] h10 fun w11 h12 => ?_
 refine PO.mk ?_
 refine yK [(4, pV r4), (6, pV r8)] fun lr13 => ?_
 refine ySq ?_
 refine ySq ?_
 refine yPl [0, 1, 2] ?_
 refine yBb [1, 2] [(11, .agg #[iV x, iV y, uV z, iV 1, iV 0, iV 0, iV 0, .string (St L)])] [e2 0 [iV x, iV y, uV z, iV 1, iV 0, iV 0, iV 0, .string (St L)]] [(0, ⟨r8, 0, none⟩, iV x), (0, ⟨r8, 1, none⟩, iV y), (0, ⟨r8, 2, none⟩, uV z), (0, ⟨r8, 3, none⟩, iV 1), (0, ⟨r8, 4, none⟩, iV 0), (0, ⟨r8, 5, none⟩, iV 0), (0, ⟨r8, 6, none⟩, iV 0), (0, ⟨r8, 7, none⟩, .string (St L))] [] trivial (kC (sat_cell h12 0 rfl rfl) (kC (sat_cell h12 0 rfl rfl) (kC (sat_cell h12 0 rfl rfl) (kC (sat_cell h12 0 rfl rfl) (kC (sat_cell h12 0 rfl rfl) (kC (sat_cell h12 0 rfl rfl) (kC (sat_cell h12 0 rfl rfl) (kC (sat_cell h12 0 rfl rfl) nC)))))))) ?_
 refine yA ?_
 refine yCl 12 Try.call23 ((by have h_ := rchk_ht x y z 1 0 0 0 L (by omega) (by omega) (by omega); rw [show resE x y z 1 0 0 0 L = 2 from if_neg (by unfold posP; omega)] at h_; exact h_)) h12 ?_
 rintro v K w14 (⟨rfl, rfl⟩) h15
 refine ⟨_, rfl, ?_⟩
 have h16 := ap0 h15
 refine yB0 [] [2] [(7, iV 2)] (.mk ?_)
 refine yK [(4, pV r4), (6, pV r8), (7, iV 2)] fun lr17 => ?_
 refine ySq ?_
 refine yPl [0, 1] ?_
 refine yB0 [] [0, 1] [(14, .bool true), (13, iV 2)] (.mk ?_)
 refine yK [(4, pV r4), (6, pV r8), (7, iV 2), (14, .bool true)] fun lr18 => ?_
 refine yCt ?_
 refine ySq ?_
 refine yPl [0, 1, 2, 3] ?_
 refine yB0 [2, 3] [0, 1] [(16, iV 2), (15, .agg #[iV 0, iV 0, uV 0, iV 0, iV 0, iV 0, iV 0, .string (St [])])] ?_
 have h19 := tk4 (sf3 (sf2 (sf3 (sf3 h16))))
 refine yA ?_
 refine yS [(0, iV 0), (1, iV 0), (2, uV 0), (3, iV 0), (4, iV 0), (5, iV 0), (6, iV 0), (7, .string (St []))] [iV 0, iV 0, uV 0, iV 0, iV 0, iV 0, iV 0, .string (St [])] h19 fun w20 h21 => ?_
 refine yB0 [] [3] [(5, iV 2)] (.mk ?_)
 refine yK [(4, pV r4), (5, iV 2)] fun lr22 => ?_
 refine yRt ?_
 repeat (first | simp only [Exit.inBlock] | simp only [Exit.then])
 have h23 := tk1 (sf3 h21)
 refine hi_out [iV 0, iV 0, uV 0, iV 0, iV 0, iV 0, iV 0, .string (St [])] (.tuple #[.agg #[iV 0, iV 0, uV 0, iV 0, iV 0, iV 0, iV 0, .string (St [])], iV 2]) [(⟨r4, 0, none⟩, iV 0), (⟨r4, 1, none⟩, iV 0), (⟨r4, 2, none⟩, uV 0), (⟨r4, 3, none⟩, iV 0), (⟨r4, 4, none⟩, iV 0), (⟨r4, 5, none⟩, iV 0), (⟨r4, 6, none⟩, iV 0), (⟨r4, 7, none⟩, .string (St []))] (by kernel_rfl) (allq ⟨sat_cell h21 0 rfl rfl, sat_cell h21 0 rfl rfl, sat_cell h21 0 rfl rfl, sat_cell h21 0 rfl rfl, sat_cell h21 0 rfl rfl, sat_cell h21 0 rfl rfl, sat_cell h21 0 rfl rfl, sat_cell h21 0 rfl rfl, trivial⟩) ?_
 exact ⟨.tuple #[.agg #[iV 0, iV 0, uV 0, iV 0, iV 0, iV 0, iV 0, .string (St [])], iV 2], [], rfl, ⟨rfl, rfl⟩, h23⟩

set_option maxHeartbeats 4000000 in
theorem rcd_ok (x y z : Int) (L : List UInt8) (hz0 : 0 ≤ z) (hz1 : z ≤ 4294967295) (hm : L.length ≤ 1099511627776) (ho : 1 ≤ x ∧ x ≤ 3 ∧ 0 ≤ y ∧ y ≤ 63 ∧ 1 ≤ z) (ht : tagE L = 0) : HT Try.prog 73 [Value.agg #[Value.int IntKind.i64 x, Value.int IntKind.i64 y, Value.int IntKind.u32 z, Value.int IntKind.i64 1, Value.int IntKind.i64 0, Value.int IntKind.i64 0, Value.int IntKind.i64 0, Value.string (St L)], Value.bool true, Value.int IntKind.i64 1] [] (fun v K => v = Value.int IntKind.i64 0 ∧ K = []) := by
 refine hi_in 22 ([(0, .agg #[iV x, iV y, uV z, iV 1, iV 0, iV 0, iV 0, .string (St L)]), (1, .bool true), (2, iV 1)] : Fr) Try.func73 (by kernel_rfl) Try.ntmps73 rfl rfl ?_
 intro g w0 R h0
 refine ySq ?_
 refine yPl [0, 1] ?_
 refine yA ?_
 refine yNp 3 42 [iV x, iV y, uV z, iV 1, iV 0, iV 0, iV 0, .string (St L)] h0 fun r1 w2 h3 => ?_
 refine yB0 [] [1] [(6, iV 0)] (.mk ?_)
 refine yK [(1, .bool true), (2, iV 1), (3, pV r1)] fun lr4 => ?_
 refine ySq ?_
 refine yPl [0, 1, 2] ?_
 refine yBb [1, 2] [(8, .agg #[iV x, iV y, uV z, iV 1, iV 0, iV 0, iV 0, .string (St L)])] [e2 0 [iV x, iV y, uV z, iV 1, iV 0, iV 0, iV 0, .string (St L)]] [(0, ⟨r1, 0, none⟩, iV x), (0, ⟨r1, 1, none⟩, iV y), (0, ⟨r1, 2, none⟩, uV z), (0, ⟨r1, 3, none⟩, iV 1), (0, ⟨r1, 4, none⟩, iV 0), (0, ⟨r1, 5, none⟩, iV 0), (0, ⟨r1, 6, none⟩, iV 0), (0, ⟨r1, 7, none⟩, .string (St L))] [] trivial (kC (sat_cell h3 0 rfl rfl) (kC (sat_cell h3 0 rfl rfl) (kC (sat_cell h3 0 rfl rfl) (kC (sat_cell h3 0 rfl rfl) (kC (sat_cell h3 0 rfl rfl) (kC (sat_cell h3 0 rfl rfl) (kC (sat_cell h3 0 rfl rfl) (kC (sat_cell h3 0 rfl rfl) nC)))))))) ?_
 refine yA ?_
 refine yCl 9 Try.call23 ((by have h_ := rchk_ht x y z 1 0 0 0 L (by omega) (by omega) (by omega); rw [show resE x y z 1 0 0 0 L = 0 from (if_pos (by unfold posP; omega)).trans (show tagE L = 0 from by omega)] at h_; exact h_)) h3 ?_
 rintro v K w5 (⟨rfl, rfl⟩) h6
 refine ⟨_, rfl, ?_⟩
 have h7 := ap0 h6
 refine yB0 [] [2] [(7, iV 0)] (.mk ?_)
 refine yK [(1, .bool true), (2, iV 1), (3, pV r1), (7, iV 0)] fun lr8 => ?_
 refine ySq ?_
 refine yBk 0 ?_
 refine ySq ?_
 refine yPl [0, 1, 2] ?_
 refine yB0 [] [0, 1, 2] [(10, .bool false), (12, .bool false), (11, iV 0)] (.mk ?_)
 refine yK [(1, .bool true), (2, iV 1), (3, pV r1), (7, iV 0), (10, .bool false)] fun lr9 => ?_
 refine yCf ?_
 refine ySq ?_
 refine yPl [0, 1, 2] ?_
 refine yB0 [] [0, 1, 2] [(14, .bool false), (16, .bool false), (15, .bool true)] (.mk ?_)
 refine yK [(2, iV 1), (3, pV r1), (14, .bool false)] fun lr10 => ?_
 refine yCf ?_
 refine ySq ?_
 refine yPl [0, 1, 2, 3, 4] ?_
 refine yBb [] [(17, .bool false), (21, .bool false), (20, iV 1), (19, iV 1), (18, .pointer (some ⟨r1, 3, none⟩))] [e0 0, e2 1 [iV 1], e0 2, e0 3, e0 4] [(1, ⟨r1, 3, none⟩, iV 1)] [] trivial (kC (sat_cell h7 0 rfl rfl) nC) (.mk ?_)
 refine yK [(17, .bool false)] fun lr11 => ?_
 refine yCf ?_
 refine ySk ?_
 refine ySq ?_
 refine yPl [0] ?_
 refine yB0 [] [0] [(6, iV 0)] (.mk ?_)
 refine yK [(6, iV 0)] fun lr12 => ?_
 refine yRt ?_
 repeat (first | simp only [Exit.inBlock] | simp only [Exit.then])
 have h13 := tk1 (sf1 h7)
 refine hi_out [] (iV 0) [] (by kernel_rfl) (by intro q hq; cases hq) ?_
 exact ⟨iV 0, [], rfl, ⟨rfl, rfl⟩, h13⟩

set_option maxHeartbeats 4000000 in
theorem rclose_ok (x y z : Int) (L : List UInt8) (hz0 : 0 ≤ z) (hz1 : z ≤ 4294967295) (hm : L.length ≤ 1099511627776) (ho : 1 ≤ x ∧ x ≤ 3 ∧ 0 ≤ y ∧ y ≤ 63 ∧ 1 ≤ z) (ht : tagE L = 0) : HT Try.prog 61 [Value.agg #[Value.int IntKind.i64 x, Value.int IntKind.i64 y, Value.int IntKind.u32 z, Value.int IntKind.i64 1, Value.int IntKind.i64 0, Value.int IntKind.i64 0, Value.int IntKind.i64 0, Value.string (St L)], Value.int IntKind.i64 1, Value.int IntKind.i64 0] [] (fun v K => v = Value.tuple #[Value.agg #[Value.int IntKind.i64 x, Value.int IntKind.i64 y, Value.int IntKind.u32 z, Value.int IntKind.i64 2, Value.int IntKind.i64 1, Value.int IntKind.i64 0, Value.int IntKind.i64 0, Value.string (St L)], Value.int IntKind.i64 0] ∧ K = []) := by
 refine hi_in 27 ([(0, .agg #[iV x, iV y, uV z, iV 1, iV 0, iV 0, iV 0, .string (St L)]), (1, iV 1), (2, iV 0)] : Fr) Try.func61 (by kernel_rfl) Try.ntmps61 rfl rfl ?_
 intro g w0 R h0
 refine ySq ?_
 refine yPl [0, 1, 2] ?_
 refine yA ?_
 refine yNp 3 42 [iV x, iV y, uV z, iV 1, iV 0, iV 0, iV 0, .string (St L)] h0 fun r1 w2 h3 => ?_
 refine yA ?_
 refine yNp 6 42 [iV 0, iV 0, uV 0, iV 0, iV 0, iV 0, iV 0, .string (St [])] h3 fun r4 w5 h6 => ?_
 refine yB0 [] [2] [(7, iV 0)] (.mk ?_)
 refine yK [(1, iV 1), (2, iV 0), (3, pV r1), (6, pV r4)] fun lr7 => ?_
 refine ySq ?_
 refine ySq ?_
 refine gi_drw (id := 1) (ops := RA Try.f61 [1, 0, 0]) (Tr.fl 0 (Tr.fl 1 (Tr.an 2 (Tr.fl 3 (Tr.fl 4 (Tr.an 5 (Tr.fl 6 (Tr.an 7 (Tr.fl 8 Tr.nil))))))))) (by kernel_rfl) (by kernel_rfl) (by kernel_rfl) (by kernel_rfl) (by kernel_rfl) (fun _ _ d _ _ h => by cases d <;> exact h) h6 ?_
 intro w8 h9
 refine yD _ [(10, iV 1), (9, .agg #[iV x, iV y, uV z, iV 1, iV 0, iV 0, iV 0, .string (St L)])] [e2 0 [iV x, iV y, uV z, iV 1, iV 0, iV 0, iV 0, .string (St L)], e0 1] [(0, ⟨r1, 0, none⟩, iV x), (0, ⟨r1, 1, none⟩, iV y), (0, ⟨r1, 2, none⟩, uV z), (0, ⟨r1, 3, none⟩, iV 1), (0, ⟨r1, 4, none⟩, iV 0), (0, ⟨r1, 5, none⟩, iV 0), (0, ⟨r1, 6, none⟩, iV 0), (0, ⟨r1, 7, none⟩, .string (St L))] [] trivial (kC (sat_cell h9 1 rfl rfl) (kC (sat_cell h9 1 rfl rfl) (kC (sat_cell h9 1 rfl rfl) (kC (sat_cell h9 1 rfl rfl) (kC (sat_cell h9 1 rfl rfl) (kC (sat_cell h9 1 rfl rfl) (kC (sat_cell h9 1 rfl rfl) (kC (sat_cell h9 1 rfl rfl) nC)))))))) ?_
 refine draw_act (i := 2) [(0, ⟨r1, 0, none⟩, iV x), (0, ⟨r1, 1, none⟩, iV y), (0, ⟨r1, 2, none⟩, uV z), (0, ⟨r1, 3, none⟩, iV 1), (0, ⟨r1, 4, none⟩, iV 0), (0, ⟨r1, 5, none⟩, iV 0), (0, ⟨r1, 6, none⟩, iV 0), (0, ⟨r1, 7, none⟩, .string (St L))] (by kernel_rfl) (by kernel_rfl) ?_
 refine yCl 11 Try.call65 (in_t 1 1 3 (by omega)) h9 ?_
 rintro v K w10 (⟨rfl, rfl⟩) h11
 refine ⟨_, rfl, ?_⟩
 have h12 := ap0 h11
 refine ⟨(AllC_cons (sat_cell h12 1 rfl rfl) (AllC_cons (sat_cell h12 1 rfl rfl) (AllC_cons (sat_cell h12 1 rfl rfl) (AllC_cons (sat_cell h12 1 rfl rfl) (AllC_cons (sat_cell h12 1 rfl rfl) (AllC_cons (sat_cell h12 1 rfl rfl) (AllC_cons (sat_cell h12 1 rfl rfl) (AllC_cons (sat_cell h12 1 rfl rfl) (AllC_nil _))))))))), ?_⟩
 refine yD _ [(13, iV 0), (12, .bool true)] [e0 3, e0 4] [] [] trivial nC ?_
 refine draw_act (i := 5) [(0, ⟨r1, 0, none⟩, iV x), (0, ⟨r1, 1, none⟩, iV y), (0, ⟨r1, 2, none⟩, uV z), (0, ⟨r1, 3, none⟩, iV 1), (0, ⟨r1, 4, none⟩, iV 0), (0, ⟨r1, 5, none⟩, iV 0), (0, ⟨r1, 6, none⟩, iV 0), (0, ⟨r1, 7, none⟩, .string (St L))] (by kernel_rfl) (by kernel_rfl) ?_
 refine yCl 14 Try.call66 (time_t 0 (by omega)) h12 ?_
 rintro v K w13 (⟨rfl, rfl⟩) h14
 refine ⟨_, rfl, ?_⟩
 have h15 := ap0 h14
 refine ⟨(AllC_cons (sat_cell h15 1 rfl rfl) (AllC_cons (sat_cell h15 1 rfl rfl) (AllC_cons (sat_cell h15 1 rfl rfl) (AllC_cons (sat_cell h15 1 rfl rfl) (AllC_cons (sat_cell h15 1 rfl rfl) (AllC_cons (sat_cell h15 1 rfl rfl) (AllC_cons (sat_cell h15 1 rfl rfl) (AllC_cons (sat_cell h15 1 rfl rfl) (AllC_nil _))))))))), ?_⟩
 refine yD _ [(15, .bool true)] [e0 6] [] [] trivial nC ?_
 refine draw_act (i := 7) [] (by kernel_rfl) (by kernel_rfl) ?_
 refine yCl 16 Try.call73 (rcd_ok x y z L (by omega) (by omega) (by omega) (by omega) (by omega)) h15 ?_
 rintro v K w16 (⟨rfl, rfl⟩) h17
 refine ⟨_, rfl, ?_⟩
 have h18 := ap0 h17
 refine ⟨(AllC_nil _), ?_⟩
 refine yD _ [(8, iV 0)] [e0 8] [] [] trivial nC ?_
 refine yK [(1, iV 1), (2, iV 0), (3, pV r1), (6, pV r4), (8, iV 0)] fun lr19 => ?_
 refine ySq ?_
 refine yPl [0, 1] ?_
 refine yB0 [] [0, 1] [(18, .bool false), (17, iV 0)] (.mk ?_)
 refine yK [(1, iV 1), (2, iV 0), (3, pV r1), (6, pV r4), (8, iV 0), (18, .bool false)] fun lr20 => ?_
 refine yCf ?_
 refine ySk ?_
 refine ySq ?_
 refine yPl [0, 1, 2, 3, 4, 5, 6, 7] ?_
 refine yB0 [3, 4, 5, 6, 7] [0, 1, 2] [(23, .pointer (some ⟨r1, 3, none⟩)), (22, iV 0), (21, iV 1)] ?_
 have h21 := tk3 (sf2 (sf1 (sf2 h18)))
 refine yA ?_
 refine yS [(3, iV 2)] [iV x, iV y, uV z, iV 2, iV 0, iV 0, iV 0, .string (St L)] h21 fun w22 h23 => ?_
 refine yB0 [5, 6, 7] [4] [(24, .pointer (some ⟨r1, 4, none⟩))] ?_
 refine yA ?_
 refine yS [(4, iV 1)] [iV x, iV y, uV z, iV 2, iV 1, iV 0, iV 0, .string (St L)] h23 fun w24 h25 => ?_
 refine yB0 [7] [6] [(25, .pointer (some ⟨r1, 6, none⟩))] ?_
 refine yA ?_
 refine yS [(6, iV 0)] [iV x, iV y, uV z, iV 2, iV 1, iV 0, iV 0, .string (St L)] h25 fun w26 h27 => ?_
 refine PO.mk ?_
 refine yK [(3, pV r1), (6, pV r4)] fun lr28 => ?_
 refine ySq ?_
 refine yPl [0, 1, 2] ?_
 refine yBb [1, 2] [(26, .agg #[iV x, iV y, uV z, iV 2, iV 1, iV 0, iV 0, .string (St L)])] [e2 0 [iV x, iV y, uV z, iV 2, iV 1, iV 0, iV 0, .string (St L)]] [(0, ⟨r1, 0, none⟩, iV x), (0, ⟨r1, 1, none⟩, iV y), (0, ⟨r1, 2, none⟩, uV z), (0, ⟨r1, 3, none⟩, iV 2), (0, ⟨r1, 4, none⟩, iV 1), (0, ⟨r1, 5, none⟩, iV 0), (0, ⟨r1, 6, none⟩, iV 0), (0, ⟨r1, 7, none⟩, .string (St L))] [] trivial (kC (sat_cell h27 0 rfl rfl) (kC (sat_cell h27 0 rfl rfl) (kC (sat_cell h27 0 rfl rfl) (kC (sat_cell h27 0 rfl rfl) (kC (sat_cell h27 0 rfl rfl) (kC (sat_cell h27 0 rfl rfl) (kC (sat_cell h27 0 rfl rfl) (kC (sat_cell h27 0 rfl rfl) nC)))))))) ?_
 have h29 := tk3 (sf2 (sf1 (sf2 h27)))
 refine yA ?_
 refine yS [(0, iV x), (1, iV y), (2, uV z), (3, iV 2), (4, iV 1), (5, iV 0), (6, iV 0), (7, .string (St L))] [iV x, iV y, uV z, iV 2, iV 1, iV 0, iV 0, .string (St L)] h29 fun w30 h31 => ?_
 refine yB0 [] [2] [(7, iV 0)] (.mk ?_)
 refine yK [(6, pV r4), (7, iV 0)] fun lr32 => ?_
 refine yRt ?_
 repeat (first | simp only [Exit.inBlock] | simp only [Exit.then])
 have h33 := tk1 (sf2 h31)
 refine hi_out [iV x, iV y, uV z, iV 2, iV 1, iV 0, iV 0, .string (St L)] (.tuple #[.agg #[iV x, iV y, uV z, iV 2, iV 1, iV 0, iV 0, .string (St L)], iV 0]) [(⟨r4, 0, none⟩, iV x), (⟨r4, 1, none⟩, iV y), (⟨r4, 2, none⟩, uV z), (⟨r4, 3, none⟩, iV 2), (⟨r4, 4, none⟩, iV 1), (⟨r4, 5, none⟩, iV 0), (⟨r4, 6, none⟩, iV 0), (⟨r4, 7, none⟩, .string (St L))] (by kernel_rfl) (allq ⟨sat_cell h31 0 rfl rfl, sat_cell h31 0 rfl rfl, sat_cell h31 0 rfl rfl, sat_cell h31 0 rfl rfl, sat_cell h31 0 rfl rfl, sat_cell h31 0 rfl rfl, sat_cell h31 0 rfl rfl, sat_cell h31 0 rfl rfl, trivial⟩) ?_
 exact ⟨.tuple #[.agg #[iV x, iV y, uV z, iV 2, iV 1, iV 0, iV 0, .string (St L)], iV 0], [], rfl, ⟨rfl, rfl⟩, h33⟩

end Go.Proofs.Ytjjpmehiolejgaa
