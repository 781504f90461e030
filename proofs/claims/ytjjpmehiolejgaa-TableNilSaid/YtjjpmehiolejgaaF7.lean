/- Walks, printed by my generator gen7.py. -/
import Derived.Test.YtjjpmehiolejgaaF6
import Derived.Test.YtjjpmehiolejgaaTabT
namespace Go.Proofs.Ytjjpmehiolejgaa
set_option maxHeartbeats 4000000 in
theorem lpfx_t (L : List UInt8) (h : L.take 3 = [239, 191, 189]) (hm : L.length ≤ 1099511627776) : HT Try.prog 78 [Value.string (St L), Value.string (St [239, 191, 189])] [] (fun v K => v = Value.bool true ∧ K = []) := by
  have hl_ := pfx_len h
  refine hi_in 18 ([(0, .string (St L)), (1, .string (St [239, 191, 189]))] : Fr) Try.func78 (by kernel_rfl) Try.ntmps78 rfl rfl ?_
  intro g w0 R h0
  change WP _ _ (CA Try.f78 []) _ _ _
  refine zSq (by kernel_rfl) ?_
  refine zPl [0] (by kernel_rfl) ?_
  refine zB0 [] [0] [(4, .bool false)] (by kernel_rfl) ?_
  refine PO.mk ?_
  change WP _ _ (CA Try.f78 [1]) _ _ _
  refine fk_cut ([(0, .string (St L)), (1, .string (St [239, 191, 189]))] : Fr) (by kernel_rfl) (fun a => WP _ _ _ _ a _) (fun lr1 => ?_)
  refine zSq (by kernel_rfl) ?_
  refine zPl [0, 1, 2, 3, 4, 5, 6, 7, 8, 9, 10, 11, 12, 13] (by kernel_rfl) ?_
  refine zBb [9, 10, 11, 12, 13] [(13, iV 3), (12, .string (St [239, 191, 189])), (11, .string (St L)), (10, .bool true), (9, .bool true), (8, iV 3), (7, .string (St [239, 191, 189])), (6, iV (((L.length : Nat) : Int))), (5, .string (St L))] [⟨0, [], none⟩, ⟨1, [], some (iV (((L.length : Nat) : Int)))⟩, ⟨2, [], none⟩, ⟨3, [], some (iV 3)⟩, ⟨4, [], some (.bool true)⟩, ⟨5, [], none⟩, ⟨6, [], none⟩, ⟨7, [], none⟩, ⟨8, [], some (iV 3)⟩] [] [(iV ((St L).size : Int), iV (((L.length : Nat) : Int))), (iV ((St [239, 191, 189]).size : Int), iV 3), (.bool (decide (((L.length : Nat) : Int) ≥ 3)), .bool true), (iV ((St [239, 191, 189]).size : Int), iV 3)] (by kernel_rfl) ⟨(ov_int (st_len _)), (ov_int rfl), (ov_t (by omega)), (ov_int rfl), trivial⟩ (AllC_nil _) ?_
  refine plain_law (i := 9) 14 (.string (St (L.take 3))) (by kernel_rfl) (law_strTo (o := opA (RA Try.f78 [1, 0]) 9) (t := 9) (x := (Operand.tmp 11)) (y := (Operand.tmp 13)) (L := L) (z := 3) (by kernel_rfl) Try.underlying9 (by kernel_rfl) (by kernel_rfl) 3 (by omega) (by omega) _) ?_
  refine zB0 [11, 12, 13] [10] [(15, .string (St [239, 191, 189]))] (by kernel_rfl) ?_
  refine plain_law (i := 11) 16 (.bool true) (by kernel_rfl) (law_eqStr (t := 9) (o := opA (RA Try.f78 [1, 0]) 11) (x := (Operand.tmp 14)) (y := (Operand.tmp 15)) (a := (L.take 3)) (b := [239, 191, 189]) (by kernel_rfl) (by kernel_rfl) (by kernel_rfl) true (decide_eq_true h) _) ?_
  refine zB0 [] [12, 13] [(4, .bool true), (17, .bool true)] (by kernel_rfl) ?_
  refine PO.mk ?_
  change WP _ _ (CA Try.f78 [1, 1]) _ _ _
  refine fk_cut ([(4, .bool true)] : Fr) (by kernel_rfl) (fun a => WP _ _ _ _ a _) (fun lr2 => ?_)
  refine gi_rt (by kernel_rfl) ?_
  repeat (first | simp only [Exit.inBlock] | simp only [Exit.then])
  refine hi_out [] (.bool true) [] (by kernel_rfl) (by intro q hq; cases hq) ?_
  exact ⟨.bool true, [], rfl, ⟨rfl, rfl⟩, h0⟩

set_option maxHeartbeats 4000000 in
theorem lpfx_f (L : List UInt8) (h : ¬ L.take 3 = [239, 191, 189]) (hm : L.length ≤ 1099511627776) : HT Try.prog 78 [Value.string (St L), Value.string (St [239, 191, 189])] [] (fun v K => v = Value.bool false ∧ K = []) := by
  refine hi_in 18 ([(0, .string (St L)), (1, .string (St [239, 191, 189]))] : Fr) Try.func78 (by kernel_rfl) Try.ntmps78 rfl rfl ?_
  intro g w0 R h0
  change WP _ _ (CA Try.f78 []) _ _ _
  refine zSq (by kernel_rfl) ?_
  refine zPl [0] (by kernel_rfl) ?_
  refine zB0 [] [0] [(4, .bool false)] (by kernel_rfl) ?_
  refine PO.mk ?_
  change WP _ _ (CA Try.f78 [1]) _ _ _
  refine fk_cut ([(0, .string (St L)), (1, .string (St [239, 191, 189]))] : Fr) (by kernel_rfl) (fun a => WP _ _ _ _ a _) (fun lr1 => ?_)
  refine zSq (by kernel_rfl) ?_
  refine zPl [0, 1, 2, 3, 4, 5, 6, 7, 8, 9, 10, 11, 12, 13] (by kernel_rfl) ?_
  refine zBb [4, 5, 6, 7, 8, 9, 10, 11, 12, 13] [(8, iV 3), (7, .string (St [239, 191, 189])), (6, iV (((L.length : Nat) : Int))), (5, .string (St L))] [⟨0, [], none⟩, ⟨1, [], some (iV (((L.length : Nat) : Int)))⟩, ⟨2, [], none⟩, ⟨3, [], some (iV 3)⟩] [] [(iV ((St L).size : Int), iV (((L.length : Nat) : Int))), (iV ((St [239, 191, 189]).size : Int), iV 3)] (by kernel_rfl) ⟨(ov_int (st_len _)), (ov_int rfl), trivial⟩ (AllC_nil _) ?_
  by_cases c2 : ((L.length : Nat) : Int) ≥ 3
  ·
    refine zBb [9, 10, 11, 12, 13] [(13, iV 3), (12, .string (St [239, 191, 189])), (11, .string (St L)), (10, .bool true), (9, .bool true)] [⟨4, [], some (.bool true)⟩, ⟨5, [], none⟩, ⟨6, [], none⟩, ⟨7, [], none⟩, ⟨8, [], some (iV 3)⟩] [] [(.bool (decide (((L.length : Nat) : Int) ≥ 3)), .bool true), (iV ((St [239, 191, 189]).size : Int), iV 3)] (by kernel_rfl) ⟨(ov_t (by omega)), (ov_int rfl), trivial⟩ (AllC_nil _) ?_
    refine plain_law (i := 9) 14 (.string (St (L.take 3))) (by kernel_rfl) (law_strTo (o := opA (RA Try.f78 [1, 0]) 9) (t := 9) (x := (Operand.tmp 11)) (y := (Operand.tmp 13)) (L := L) (z := 3) (by kernel_rfl) Try.underlying9 (by kernel_rfl) (by kernel_rfl) 3 (by omega) (by omega) _) ?_
    refine zB0 [11, 12, 13] [10] [(15, .string (St [239, 191, 189]))] (by kernel_rfl) ?_
    refine plain_law (i := 11) 16 (.bool false) (by kernel_rfl) (law_eqStr (t := 9) (o := opA (RA Try.f78 [1, 0]) 11) (x := (Operand.tmp 14)) (y := (Operand.tmp 15)) (a := (L.take 3)) (b := [239, 191, 189]) (by kernel_rfl) (by kernel_rfl) (by kernel_rfl) false (decide_eq_false h) _) ?_
    refine zB0 [] [12, 13] [(4, .bool false), (17, .bool false)] (by kernel_rfl) ?_
    refine PO.mk ?_
    change WP _ _ (CA Try.f78 [1, 1]) _ _ _
    refine fk_cut ([(4, .bool false)] : Fr) (by kernel_rfl) (fun a => WP _ _ _ _ a _) (fun lr3 => ?_)
    refine gi_rt (by kernel_rfl) ?_
    repeat (first | simp only [Exit.inBlock] | simp only [Exit.then])
    refine hi_out [] (.bool false) [] (by kernel_rfl) (by intro q hq; cases hq) ?_
    exact ⟨.bool false, [], rfl, ⟨rfl, rfl⟩, h0⟩
  ·
    refine zBb [] [(4, .bool false), (17, .bool false), (16, undef), (15, undef), (14, undef), (13, undef), (12, undef), (11, undef), (10, .bool false), (9, .bool false)] [⟨4, [], some (.bool false)⟩, ⟨5, [], none⟩, ⟨6, [], none⟩, ⟨7, [], none⟩, ⟨8, [], none⟩, ⟨9, [], none⟩, ⟨10, [], none⟩, ⟨11, [], none⟩, ⟨12, [], none⟩, ⟨13, [], none⟩] [] [(.bool (decide (((L.length : Nat) : Int) ≥ 3)), .bool false)] (by kernel_rfl) ⟨(ov_f (by omega)), trivial⟩ (AllC_nil _) ?_
    refine PO.mk ?_
    change WP _ _ (CA Try.f78 [1, 1]) _ _ _
    refine fk_cut ([(4, .bool false)] : Fr) (by kernel_rfl) (fun a => WP _ _ _ _ a _) (fun lr4 => ?_)
    refine gi_rt (by kernel_rfl) ?_
    repeat (first | simp only [Exit.inBlock] | simp only [Exit.then])
    refine hi_out [] (.bool false) [] (by kernel_rfl) (by intro q hq; cases hq) ?_
    exact ⟨.bool false, [], rfl, ⟨rfl, rfl⟩, h0⟩

set_option maxHeartbeats 4000000 in
theorem pfx_t (L : List UInt8) (h : L.take 3 = [239, 191, 189]) (hm : L.length ≤ 1099511627776) : HT Try.prog 75 [Value.string (St L), Value.string (St [239, 191, 189])] [] (fun v K => v = Value.bool true ∧ K = []) := by
  have hl_ := pfx_len h
  refine hi_in 8 ([(0, .string (St L)), (1, .string (St [239, 191, 189]))] : Fr) Try.func75 (by kernel_rfl) Try.ntmps75 rfl rfl ?_
  intro g w0 R h0
  change WP _ _ (CA Try.f75 []) _ _ _
  refine zSq (by kernel_rfl) ?_
  refine zPl [0] (by kernel_rfl) ?_
  refine zB0 [] [0] [(4, .bool false)] (by kernel_rfl) ?_
  refine PO.mk ?_
  change WP _ _ (CA Try.f75 [1]) _ _ _
  refine fk_cut ([(0, .string (St L)), (1, .string (St [239, 191, 189]))] : Fr) (by kernel_rfl) (fun a => WP _ _ _ _ a _) (fun lr1 => ?_)
  refine zSq (by kernel_rfl) ?_
  refine zPl [0, 1, 2, 3] (by kernel_rfl) ?_
  refine zB0 [2, 3] [0, 1] [(6, .string (St [239, 191, 189])), (5, .string (St L))] (by kernel_rfl) ?_
  refine plain_act (i := 2) (by kernel_rfl) ?_
  refine zCl 7 Try.call78 (lpfx_t L (by assumption) (by omega)) h0 (by kernel_rfl) ?_
  rintro v K w2 (⟨rfl, rfl⟩) h3
  refine ⟨_, rfl, ?_⟩
  have h4 : sat g w2 [R] := h3
  refine zB0 [] [3] [(4, .bool true)] (by kernel_rfl) ?_
  refine PO.mk ?_
  change WP _ _ (CA Try.f75 [1, 1]) _ _ _
  refine fk_cut ([(4, .bool true)] : Fr) (by kernel_rfl) (fun a => WP _ _ _ _ a _) (fun lr5 => ?_)
  refine gi_rt (by kernel_rfl) ?_
  repeat (first | simp only [Exit.inBlock] | simp only [Exit.then])
  refine hi_out [] (.bool true) [] (by kernel_rfl) (by intro q hq; cases hq) ?_
  exact ⟨.bool true, [], rfl, ⟨rfl, rfl⟩, h4⟩

set_option maxHeartbeats 4000000 in
theorem pfx_f (L : List UInt8) (h : ¬ L.take 3 = [239, 191, 189]) (hm : L.length ≤ 1099511627776) : HT Try.prog 75 [Value.string (St L), Value.string (St [239, 191, 189])] [] (fun v K => v = Value.bool false ∧ K = []) := by
  refine hi_in 8 ([(0, .string (St L)), (1, .string (St [239, 191, 189]))] : Fr) Try.func75 (by kernel_rfl) Try.ntmps75 rfl rfl ?_
  intro g w0 R h0
  change WP _ _ (CA Try.f75 []) _ _ _
  refine zSq (by kernel_rfl) ?_
  refine zPl [0] (by kernel_rfl) ?_
  refine zB0 [] [0] [(4, .bool false)] (by kernel_rfl) ?_
  refine PO.mk ?_
  change WP _ _ (CA Try.f75 [1]) _ _ _
  refine fk_cut ([(0, .string (St L)), (1, .string (St [239, 191, 189]))] : Fr) (by kernel_rfl) (fun a => WP _ _ _ _ a _) (fun lr1 => ?_)
  refine zSq (by kernel_rfl) ?_
  refine zPl [0, 1, 2, 3] (by kernel_rfl) ?_
  refine zB0 [2, 3] [0, 1] [(6, .string (St [239, 191, 189])), (5, .string (St L))] (by kernel_rfl) ?_
  refine plain_act (i := 2) (by kernel_rfl) ?_
  refine zCl 7 Try.call78 (lpfx_f L (by assumption) (by omega)) h0 (by kernel_rfl) ?_
  rintro v K w2 (⟨rfl, rfl⟩) h3
  refine ⟨_, rfl, ?_⟩
  have h4 : sat g w2 [R] := h3
  refine zB0 [] [3] [(4, .bool false)] (by kernel_rfl) ?_
  refine PO.mk ?_
  change WP _ _ (CA Try.f75 [1, 1]) _ _ _
  refine fk_cut ([(4, .bool false)] : Fr) (by kernel_rfl) (fun a => WP _ _ _ _ a _) (fun lr5 => ?_)
  refine gi_rt (by kernel_rfl) ?_
  repeat (first | simp only [Exit.inBlock] | simp only [Exit.then])
  refine hi_out [] (.bool false) [] (by kernel_rfl) (by intro q hq; cases hq) ?_
  exact ⟨.bool false, [], rfl, ⟨rfl, rfl⟩, h4⟩

set_option maxHeartbeats 4000000 in
theorem rune_t (c : Int) (h : 32 ≤ c ∧ c ≠ 127) : HT Try.prog 68 [Value.int IntKind.i32 c] [] (fun v K => v = Value.bool true ∧ K = []) := by
  refine hi_in 9 ([(0, .int .i32 c)] : Fr) Try.func68 (by kernel_rfl) Try.ntmps68 rfl rfl ?_
  intro g w0 R h0
  change WP _ _ (CA Try.f68 []) _ _ _
  refine zSq (by kernel_rfl) ?_
  refine zPl [0] (by kernel_rfl) ?_
  refine zB0 [] [0] [(2, .bool false)] (by kernel_rfl) ?_
  refine PO.mk ?_
  change WP _ _ (CA Try.f68 [1]) _ _ _
  refine fk_cut ([(0, .int .i32 c)] : Fr) (by kernel_rfl) (fun a => WP _ _ _ _ a _) (fun lr1 => ?_)
  refine zSq (by kernel_rfl) ?_
  refine zPl [0, 1, 2, 3, 4, 5, 6] (by kernel_rfl) ?_
  refine zBb [] [(2, .bool true), (8, .bool true), (7, .bool true), (6, .int .i32 c), (5, .bool true), (4, .bool true), (3, .int .i32 c)] [⟨0, [], none⟩, ⟨1, [], some (.bool true)⟩, ⟨2, [], none⟩, ⟨3, [], none⟩, ⟨4, [], some (.bool true)⟩, ⟨5, [], none⟩, ⟨6, [], none⟩] [] [(.bool (decide (c ≥ 32)), .bool true), (.bool (c != 127), .bool true)] (by kernel_rfl) ⟨(ov_t (by omega)), (ov_nt (by omega)), trivial⟩ (AllC_nil _) ?_
  refine PO.mk ?_
  change WP _ _ (CA Try.f68 [1, 1]) _ _ _
  refine fk_cut ([(2, .bool true)] : Fr) (by kernel_rfl) (fun a => WP _ _ _ _ a _) (fun lr2 => ?_)
  refine gi_rt (by kernel_rfl) ?_
  repeat (first | simp only [Exit.inBlock] | simp only [Exit.then])
  refine hi_out [] (.bool true) [] (by kernel_rfl) (by intro q hq; cases hq) ?_
  exact ⟨.bool true, [], rfl, ⟨rfl, rfl⟩, h0⟩

set_option maxHeartbeats 4000000 in
theorem rune_f (c : Int) (h : c < 32 ∨ c = 127) : HT Try.prog 68 [Value.int IntKind.i32 c] [] (fun v K => v = Value.bool false ∧ K = []) := by
  refine hi_in 9 ([(0, .int .i32 c)] : Fr) Try.func68 (by kernel_rfl) Try.ntmps68 rfl rfl ?_
  intro g w0 R h0
  change WP _ _ (CA Try.f68 []) _ _ _
  refine zSq (by kernel_rfl) ?_
  refine zPl [0] (by kernel_rfl) ?_
  refine zB0 [] [0] [(2, .bool false)] (by kernel_rfl) ?_
  refine PO.mk ?_
  change WP _ _ (CA Try.f68 [1]) _ _ _
  refine fk_cut ([(0, .int .i32 c)] : Fr) (by kernel_rfl) (fun a => WP _ _ _ _ a _) (fun lr1 => ?_)
  refine zSq (by kernel_rfl) ?_
  refine zPl [0, 1, 2, 3, 4, 5, 6] (by kernel_rfl) ?_
  refine zB0 [1, 2, 3, 4, 5, 6] [0] [(3, .int .i32 c)] (by kernel_rfl) ?_
  by_cases c2 : c ≥ 32
  ·
    refine zBb [] [(2, .bool false), (8, .bool false), (7, .bool false), (6, .int .i32 c), (5, .bool true), (4, .bool true)] [⟨1, [], some (.bool true)⟩, ⟨2, [], none⟩, ⟨3, [], none⟩, ⟨4, [], some (.bool false)⟩, ⟨5, [], none⟩, ⟨6, [], none⟩] [] [(.bool (decide (c ≥ 32)), .bool true), (.bool (c != 127), .bool false)] (by kernel_rfl) ⟨(ov_t (by omega)), (ov_nf (by omega)), trivial⟩ (AllC_nil _) ?_
    refine PO.mk ?_
    change WP _ _ (CA Try.f68 [1, 1]) _ _ _
    refine fk_cut ([(2, .bool false)] : Fr) (by kernel_rfl) (fun a => WP _ _ _ _ a _) (fun lr3 => ?_)
    refine gi_rt (by kernel_rfl) ?_
    repeat (first | simp only [Exit.inBlock] | simp only [Exit.then])
    refine hi_out [] (.bool false) [] (by kernel_rfl) (by intro q hq; cases hq) ?_
    exact ⟨.bool false, [], rfl, ⟨rfl, rfl⟩, h0⟩
  ·
    refine zBb [] [(2, .bool false), (8, .bool false), (7, undef), (6, undef), (5, .bool false), (4, .bool false)] [⟨1, [], some (.bool false)⟩, ⟨2, [], none⟩, ⟨3, [], none⟩, ⟨4, [], none⟩, ⟨5, [], none⟩, ⟨6, [], none⟩] [] [(.bool (decide (c ≥ 32)), .bool false)] (by kernel_rfl) ⟨(ov_f (by omega)), trivial⟩ (AllC_nil _) ?_
    refine PO.mk ?_
    change WP _ _ (CA Try.f68 [1, 1]) _ _ _
    refine fk_cut ([(2, .bool false)] : Fr) (by kernel_rfl) (fun a => WP _ _ _ _ a _) (fun lr4 => ?_)
    refine gi_rt (by kernel_rfl) ?_
    repeat (first | simp only [Exit.inBlock] | simp only [Exit.then])
    refine hi_out [] (.bool false) [] (by kernel_rfl) (by intro q hq; cases hq) ?_
    exact ⟨.bool false, [], rfl, ⟨rfl, rfl⟩, h0⟩

set_option maxHeartbeats 4000000 in
theorem tall_ht (L : List UInt8) (hm : L.length ≤ 1099511627776) : HT Try.prog 67 [Value.string (St L), Value.func (Fn.func 68) #[] #[]] [] (fun v K => v = Value.tuple #[Value.int .i64 (scanN L : Int), Value.bool (scanB L)] ∧ K = []) := by
  refine hi_in 33 ([(0, .string (St L)), (1, .func (Fn.func 68) #[] #[])] : Fr) Try.func67 (by kernel_rfl) Try.ntmps67 rfl rfl ?_
  intro g w0 R h0
  change WP _ _ (CA Try.f67 []) _ _ _
  refine zSq (by kernel_rfl) ?_
  refine zPl [0, 1] (by kernel_rfl) ?_
  refine zB0 [] [0, 1] [(5, .bool false), (4, iV 0)] (by kernel_rfl) ?_
  refine PO.mk ?_
  change WP _ _ (CA Try.f67 [1]) _ _ _
  refine fk_cut ([(0, .string (St L)), (1, .func (Fn.func 68) #[] #[])] : Fr) (by kernel_rfl) (fun a => WP _ _ _ _ a _) (fun lr1 => ?_)
  refine zSq (by kernel_rfl) ?_
  refine zPl [0] (by kernel_rfl) ?_
  refine zB0 [] [0] [(6, iV 0)] (by kernel_rfl) ?_
  refine PO.mk ?_
  change WP _ _ (CA Try.f67 [1, 1]) _ _ _
  refine fk_cut ([(0, .string (St L)), (1, .func (Fn.func 68) #[] #[]), (6, iV 0)] : Fr) (by kernel_rfl) (fun a => WP _ _ _ _ a _) (fun lr2 => ?_)
  refine zSq (by kernel_rfl) ?_
  refine zSq (by kernel_rfl) ?_
  refine zPl [0, 1] (by kernel_rfl) ?_
  refine zB0 [1] [0] [(9, .string (St L))] (by kernel_rfl) ?_
  refine plain_act (i := 1) (by kernel_rfl) ?_
  refine as_rangeStr (t := 9) (d := 10) (x := (Operand.tmp 9)) (L := L) (by kernel_rfl) (by kernel_rfl) rfl Try.underlying9 (by kernel_rfl) h0 ?_
  intro r3 w4 (h5 : sat g w4 [Si r3 L 0, R])
  refine PO.mk ?_
  change WP _ _ (CA Try.f67 [1, 1, 0, 1]) _ _ _
  refine fk_cut ([(0, .string (St L)), (1, .func (Fn.func 68) #[] #[]), (6, iV 0), (10, pV r3)] : Fr) (by kernel_rfl) (fun a => WP _ _ _ _ a _) (fun lr6 => ?_)
  refine gi_blk (id := 0) (x := CA Try.f67 [1, 1, 0, 1, 0]) (by kernel_rfl) ?_
  refine gi_lp (x := CA Try.f67 [1, 1, 0, 1, 0, 0]) (by kernel_rfl) (fun mz_ a w => ∃ p : Nat, ∃ n : Nat, ∃ f : Nat, ∃ lr : Fr, mz_ = L.length - p ∧ (n ≤ p) ∧ (L.length ≤ p + f) ∧ (tagScan L L.length 0 0 = tagScan L f p n) ∧ a = mk 33 (([(0, .string (St L)), (1, .func (Fn.func 68) #[] #[]), (6, iV (((n : Nat) : Int))), (10, pV r3)] : Fr) ++ lr) ∧ sat g w [Si r3 L p, R]) (L.length - 0) ⟨0, 0, L.length, _, rfl, (Nat.le_refl _), (by omega), rfl, (mk_live [(0, .string (St L)), (1, .func (Fn.func 68) #[] #[]), (6, iV (((0 : Nat) : Int))), (10, pV r3)] ⟨rfl, rfl, (ov_int (by omega)), rfl, trivial⟩), h5⟩ ?_
  rintro m8 a9 w10 ⟨p, n, f, lr7, rfl, hn_, hf_, ht_, rfl, h11⟩
  change WP _ _ (CA Try.f67 [1, 1, 0, 1, 0, 0]) _ _ _
  refine zSq (by kernel_rfl) ?_
  refine zPl [0, 1] (by kernel_rfl) ?_
  by_cases c12 : p < L.length
  ·
    have hd13 := dec_pos (L := L) (p := p) (by omega); have hd14 := dec_max L p
    refine plain_act (i := 0) (by kernel_rfl) ?_
    refine as_next (d := 11) (x := (Operand.tmp 10)) (r := r3) (L := L) (p := p) (by kernel_rfl) (by kernel_rfl) rfl (by kernel_rfl) h11 (by omega) (by omega) ?_
    intro w15 (h16 : sat g w15 [Si r3 L (p + ((dec L p).2)), R])
    refine zB0 [] [1] [(12, .bool true)] (by kernel_rfl) ?_
    refine PO.mk ?_
    change WP _ _ (CA Try.f67 [1, 1, 0, 1, 0, 0, 1]) _ _ _
    refine fk_cut ([(0, .string (St L)), (1, .func (Fn.func 68) #[] #[]), (6, iV (((n : Nat) : Int))), (10, pV r3), (11, .tuple #[.bool true, iV (((p : Nat) : Int)), .int .i32 ((((dec L p).1 : Nat) : Int))]), (12, .bool true)] : Fr) (by kernel_rfl) (fun a => WP _ _ _ _ a _) (fun lr17 => ?_)
    refine zSq (by kernel_rfl) ?_
    refine zCt (by kernel_rfl) ?_
    refine gi_skp (by kernel_rfl) ?_
    change WP _ _ (CA Try.f67 [1, 1, 0, 1, 0, 0, 1, 1]) _ _ _
    refine gi_blk (id := 1) (x := CA Try.f67 [1, 1, 0, 1, 0, 0, 1, 1, 0]) (by kernel_rfl) ?_
    refine zSq (by kernel_rfl) ?_
    refine zPl [0, 1, 2, 3] (by kernel_rfl) ?_
    refine zB0 [] [0, 1, 2, 3] [(8, .int .i32 ((((dec L p).1 : Nat) : Int))), (7, iV (((p : Nat) : Int))), (14, .int .i32 ((((dec L p).1 : Nat) : Int))), (13, iV (((p : Nat) : Int)))] (by kernel_rfl) ?_
    refine PO.mk ?_
    change WP _ _ (CA Try.f67 [1, 1, 0, 1, 0, 0, 1, 1, 0, 1]) _ _ _
    refine fk_cut ([(0, .string (St L)), (1, .func (Fn.func 68) #[] #[]), (6, iV (((n : Nat) : Int))), (7, iV (((p : Nat) : Int))), (8, .int .i32 ((((dec L p).1 : Nat) : Int))), (10, pV r3)] : Fr) (by kernel_rfl) (fun a => WP _ _ _ _ a _) (fun lr18 => ?_)
    refine zSq (by kernel_rfl) ?_
    refine zSq (by kernel_rfl) ?_
    refine zPl [0, 1, 2, 3, 4, 5, 6, 7, 8, 9, 10, 11, 12, 13, 14] (by kernel_rfl) ?_
    refine zB0 [1, 2, 3, 4, 5, 6, 7, 8, 9, 10, 11, 12, 13, 14] [0] [(15, .int .i32 ((((dec L p).1 : Nat) : Int)))] (by kernel_rfl) ?_
    by_cases c19 : (((dec L p).1 : Nat) : Int) = 65533
    ·
      refine zBb [5, 6, 7, 8, 9, 10, 11, 12, 13, 14] [(19, iV (((p : Nat) : Int))), (18, .string (St L)), (17, .bool true), (16, .bool true)] [⟨1, [], some (.bool true)⟩, ⟨2, [], none⟩, ⟨3, [], none⟩, ⟨4, [], none⟩] [] [(.bool (((((dec L p).1 : Nat) : Int)) == 65533), .bool true)] (by kernel_rfl) ⟨(ov_et (by omega)), trivial⟩ (AllC_nil _) ?_
      refine plain_law (i := 5) 20 (.string (St (L.drop p))) (by kernel_rfl) (law_strFrom (o := opA (RA Try.f67 [1, 1, 0, 1, 0, 0, 1, 1, 0, 1, 0, 0]) 5) (t := 9) (x := (Operand.tmp 18)) (y := (Operand.tmp 19)) (L := L) (z := (((p : Nat) : Int))) (by kernel_rfl) Try.underlying9 (by kernel_rfl) (by kernel_rfl) p (by omega) (by omega) _) ?_
      by_cases c20 : (L.drop p).take 3 = ([239, 191, 189] : List UInt8)
      ·
        refine plain_act (i := 6) (by kernel_rfl) ?_
        refine zCl 21 Try.call75 (pfx_t (L.drop p) (by assumption) (by rw [List.length_drop]; omega)) h16 (by kernel_rfl) ?_
        rintro v K w21 (⟨rfl, rfl⟩) h22
        refine ⟨_, rfl, ?_⟩
        have h23 : sat g w21 [Si r3 L (p + ((dec L p).2)), R] := h22
        refine zB0 [12, 13, 14] [7, 8, 9, 10, 11] [(26, .int .i32 ((((dec L p).1 : Nat) : Int))), (25, .func (Fn.func 68) #[] #[]), (24, .bool false), (23, .bool false), (22, .bool false)] (by kernel_rfl) ?_
        refine plain_act (i := 12) (by kernel_rfl) ?_
        refine zCl 27 Try.call68 (rune_t ((((dec L p).1 : Nat) : Int)) (by omega)) h23 (by kernel_rfl) ?_
        rintro v K w24 (⟨rfl, rfl⟩) h25
        refine ⟨_, rfl, ?_⟩
        have h26 : sat g w24 [Si r3 L (p + ((dec L p).2)), R] := h25
        refine zB0 [] [13, 14] [(29, .bool false), (28, .bool false)] (by kernel_rfl) ?_
        refine PO.mk ?_
        change WP _ _ (CA Try.f67 [1, 1, 0, 1, 0, 0, 1, 1, 0, 1, 0, 1]) _ _ _
        refine fk_cut ([(0, .string (St L)), (1, .func (Fn.func 68) #[] #[]), (6, iV (((n : Nat) : Int))), (10, pV r3), (29, .bool false)] : Fr) (by kernel_rfl) (fun a => WP _ _ _ _ a _) (fun lr27 => ?_)
        refine zCf (by kernel_rfl) ?_
        refine gi_skp (by kernel_rfl) ?_
        change WP _ _ (CA Try.f67 [1, 1, 0, 1, 0, 0, 1, 1, 0, 1, 1]) _ _ _
        refine zPl [0, 1, 2] (by kernel_rfl) ?_
        refine zBb [] [(6, iV (((n : Nat) : Int) + 1)), (31, iV (((n : Nat) : Int) + 1)), (30, iV (((n : Nat) : Int)))] [⟨0, [], none⟩, ⟨1, [], some (iV (((n : Nat) : Int) + 1))⟩, ⟨2, [], none⟩] [] [(iV (IntKind.wrap .i64 ((((n : Nat) : Int)) + 1)), iV (((n : Nat) : Int) + 1))] (by kernel_rfl) ⟨(ov_i64 (by omega) (by omega) (by omega)), trivial⟩ (AllC_nil _) ?_
        refine PO.mk ?_
        have hg_ : ¬ badR L p := by
          rintro (⟨h1_, h2_⟩ | h1_ | h1_) <;> first | omega | exact absurd (by assumption) h2_
        change ∃ n', n' < _ ∧ _
        refine ⟨(L.length - (p + ((dec L p).2))), by omega, p + ((dec L p).2), (n + 1), (f - 1), _, rfl, (by omega), (by omega), (ht_.trans (scan_go (by omega) hf_ hg_)), (mk_live [(0, .string (St L)), (1, .func (Fn.func 68) #[] #[]), (6, iV ((((n + 1) : Nat) : Int))), (10, pV r3)] ⟨rfl, rfl, (ov_int (by omega)), rfl, trivial⟩), h26⟩
      ·
        refine plain_act (i := 6) (by kernel_rfl) ?_
        refine zCl 21 Try.call75 (pfx_f (L.drop p) (by assumption) (by rw [List.length_drop]; omega)) h16 (by kernel_rfl) ?_
        rintro v K w28 (⟨rfl, rfl⟩) h29
        refine ⟨_, rfl, ?_⟩
        have h30 : sat g w28 [Si r3 L (p + ((dec L p).2)), R] := h29
        refine zB0 [12, 13, 14] [7, 8, 9, 10, 11] [(26, undef), (25, undef), (24, .bool true), (23, .bool true), (22, .bool true)] (by kernel_rfl) ?_
        refine plain_skip (by kernel_rfl : chkN (RA Try.f67 [1, 1, 0, 1, 0, 0, 1, 1, 0, 1, 0, 0]) 33 _ 12 = some (some 27)) rfl ?_
        refine zB0 [] [13, 14] [(29, .bool true), (28, undef)] (by kernel_rfl) ?_
        refine PO.mk ?_
        change WP _ _ (CA Try.f67 [1, 1, 0, 1, 0, 0, 1, 1, 0, 1, 0, 1]) _ _ _
        refine fk_cut ([(0, .string (St L)), (1, .func (Fn.func 68) #[] #[]), (6, iV (((n : Nat) : Int))), (10, pV r3), (29, .bool true)] : Fr) (by kernel_rfl) (fun a => WP _ _ _ _ a _) (fun lr31 => ?_)
        refine zCt (by kernel_rfl) ?_
        refine zSq (by kernel_rfl) ?_
        refine zPl [0, 1] (by kernel_rfl) ?_
        refine zB0 [] [0, 1] [(5, .bool false), (4, iV 0)] (by kernel_rfl) ?_
        refine PO.mk ?_
        change WP _ _ (CA Try.f67 [1, 1, 0, 1, 0, 0, 1, 1, 0, 1, 0, 1, 0, 1]) _ _ _
        refine fk_cut ([(4, iV 0), (5, .bool false)] : Fr) (by kernel_rfl) (fun a => WP _ _ _ _ a _) (fun lr32 => ?_)
        refine gi_rt (by kernel_rfl) ?_
        repeat (first | simp only [Exit.inBlock] | simp only [Exit.then])
        have hb_ : badR L p := by
          first | exact .inr (.inl (by omega)) | exact .inr (.inr (by omega)) | exact .inl ⟨by omega, by assumption⟩
        have hs_ : tagScan L L.length 0 0 = none := ht_.trans (scan_bad (by omega) hf_ hb_)
        have h33 : sat g w28 [R] := sat_sel [1] rfl h30
        refine hi_out [] (.tuple #[iV 0, .bool false]) [] (by kernel_rfl) (by intro q hq; cases hq) ?_
        exact ⟨.tuple #[iV 0, .bool false], [], rfl, ⟨by unfold scanN scanB; rw [hs_]; rfl, rfl⟩, h33⟩
    ·
      refine zBb [6, 7, 8, 9, 10, 11, 12, 13, 14] [(20, undef), (19, undef), (18, undef), (17, .bool false), (16, .bool false)] [⟨1, [], some (.bool false)⟩, ⟨2, [], none⟩, ⟨3, [], none⟩, ⟨4, [], none⟩, ⟨5, [], none⟩] [] [(.bool (((((dec L p).1 : Nat) : Int)) == 65533), .bool false)] (by kernel_rfl) ⟨(ov_ef (by omega)), trivial⟩ (AllC_nil _) ?_
      refine plain_skip (by kernel_rfl : chkN (RA Try.f67 [1, 1, 0, 1, 0, 0, 1, 1, 0, 1, 0, 0]) 33 _ 6 = some (some 21)) rfl ?_
      refine zB0 [12, 13, 14] [7, 8, 9, 10, 11] [(26, .int .i32 ((((dec L p).1 : Nat) : Int))), (25, .func (Fn.func 68) #[] #[]), (24, .bool false), (23, .bool false), (22, undef)] (by kernel_rfl) ?_
      by_cases c34 : 32 ≤ (((dec L p).1 : Nat) : Int)
      ·
        by_cases c35 : (((dec L p).1 : Nat) : Int) = 127
        ·
          refine plain_act (i := 12) (by kernel_rfl) ?_
          refine zCl 27 Try.call68 (rune_f ((((dec L p).1 : Nat) : Int)) (by omega)) h16 (by kernel_rfl) ?_
          rintro v K w36 (⟨rfl, rfl⟩) h37
          refine ⟨_, rfl, ?_⟩
          have h38 : sat g w36 [Si r3 L (p + ((dec L p).2)), R] := h37
          refine zB0 [] [13, 14] [(29, .bool true), (28, .bool true)] (by kernel_rfl) ?_
          refine PO.mk ?_
          change WP _ _ (CA Try.f67 [1, 1, 0, 1, 0, 0, 1, 1, 0, 1, 0, 1]) _ _ _
          refine fk_cut ([(0, .string (St L)), (1, .func (Fn.func 68) #[] #[]), (6, iV (((n : Nat) : Int))), (10, pV r3), (29, .bool true)] : Fr) (by kernel_rfl) (fun a => WP _ _ _ _ a _) (fun lr39 => ?_)
          refine zCt (by kernel_rfl) ?_
          refine zSq (by kernel_rfl) ?_
          refine zPl [0, 1] (by kernel_rfl) ?_
          refine zB0 [] [0, 1] [(5, .bool false), (4, iV 0)] (by kernel_rfl) ?_
          refine PO.mk ?_
          change WP _ _ (CA Try.f67 [1, 1, 0, 1, 0, 0, 1, 1, 0, 1, 0, 1, 0, 1]) _ _ _
          refine fk_cut ([(4, iV 0), (5, .bool false)] : Fr) (by kernel_rfl) (fun a => WP _ _ _ _ a _) (fun lr40 => ?_)
          refine gi_rt (by kernel_rfl) ?_
          repeat (first | simp only [Exit.inBlock] | simp only [Exit.then])
          have hb_ : badR L p := by
            first | exact .inr (.inl (by omega)) | exact .inr (.inr (by omega)) | exact .inl ⟨by omega, by assumption⟩
          have hs_ : tagScan L L.length 0 0 = none := ht_.trans (scan_bad (by omega) hf_ hb_)
          have h41 : sat g w36 [R] := sat_sel [1] rfl h38
          refine hi_out [] (.tuple #[iV 0, .bool false]) [] (by kernel_rfl) (by intro q hq; cases hq) ?_
          exact ⟨.tuple #[iV 0, .bool false], [], rfl, ⟨by unfold scanN scanB; rw [hs_]; rfl, rfl⟩, h41⟩
        ·
          refine plain_act (i := 12) (by kernel_rfl) ?_
          refine zCl 27 Try.call68 (rune_t ((((dec L p).1 : Nat) : Int)) (by omega)) h16 (by kernel_rfl) ?_
          rintro v K w42 (⟨rfl, rfl⟩) h43
          refine ⟨_, rfl, ?_⟩
          have h44 : sat g w42 [Si r3 L (p + ((dec L p).2)), R] := h43
          refine zB0 [] [13, 14] [(29, .bool false), (28, .bool false)] (by kernel_rfl) ?_
          refine PO.mk ?_
          change WP _ _ (CA Try.f67 [1, 1, 0, 1, 0, 0, 1, 1, 0, 1, 0, 1]) _ _ _
          refine fk_cut ([(0, .string (St L)), (1, .func (Fn.func 68) #[] #[]), (6, iV (((n : Nat) : Int))), (10, pV r3), (29, .bool false)] : Fr) (by kernel_rfl) (fun a => WP _ _ _ _ a _) (fun lr45 => ?_)
          refine zCf (by kernel_rfl) ?_
          refine gi_skp (by kernel_rfl) ?_
          change WP _ _ (CA Try.f67 [1, 1, 0, 1, 0, 0, 1, 1, 0, 1, 1]) _ _ _
          refine zPl [0, 1, 2] (by kernel_rfl) ?_
          refine zBb [] [(6, iV (((n : Nat) : Int) + 1)), (31, iV (((n : Nat) : Int) + 1)), (30, iV (((n : Nat) : Int)))] [⟨0, [], none⟩, ⟨1, [], some (iV (((n : Nat) : Int) + 1))⟩, ⟨2, [], none⟩] [] [(iV (IntKind.wrap .i64 ((((n : Nat) : Int)) + 1)), iV (((n : Nat) : Int) + 1))] (by kernel_rfl) ⟨(ov_i64 (by omega) (by omega) (by omega)), trivial⟩ (AllC_nil _) ?_
          refine PO.mk ?_
          have hg_ : ¬ badR L p := by
            rintro (⟨h1_, h2_⟩ | h1_ | h1_) <;> first | omega | exact absurd (by assumption) h2_
          change ∃ n', n' < _ ∧ _
          refine ⟨(L.length - (p + ((dec L p).2))), by omega, p + ((dec L p).2), (n + 1), (f - 1), _, rfl, (by omega), (by omega), (ht_.trans (scan_go (by omega) hf_ hg_)), (mk_live [(0, .string (St L)), (1, .func (Fn.func 68) #[] #[]), (6, iV ((((n + 1) : Nat) : Int))), (10, pV r3)] ⟨rfl, rfl, (ov_int (by omega)), rfl, trivial⟩), h44⟩
      ·
        refine plain_act (i := 12) (by kernel_rfl) ?_
        refine zCl 27 Try.call68 (rune_f ((((dec L p).1 : Nat) : Int)) (by omega)) h16 (by kernel_rfl) ?_
        rintro v K w46 (⟨rfl, rfl⟩) h47
        refine ⟨_, rfl, ?_⟩
        have h48 : sat g w46 [Si r3 L (p + ((dec L p).2)), R] := h47
        refine zB0 [] [13, 14] [(29, .bool true), (28, .bool true)] (by kernel_rfl) ?_
        refine PO.mk ?_
        change WP _ _ (CA Try.f67 [1, 1, 0, 1, 0, 0, 1, 1, 0, 1, 0, 1]) _ _ _
        refine fk_cut ([(0, .string (St L)), (1, .func (Fn.func 68) #[] #[]), (6, iV (((n : Nat) : Int))), (10, pV r3), (29, .bool true)] : Fr) (by kernel_rfl) (fun a => WP _ _ _ _ a _) (fun lr49 => ?_)
        refine zCt (by kernel_rfl) ?_
        refine zSq (by kernel_rfl) ?_
        refine zPl [0, 1] (by kernel_rfl) ?_
        refine zB0 [] [0, 1] [(5, .bool false), (4, iV 0)] (by kernel_rfl) ?_
        refine PO.mk ?_
        change WP _ _ (CA Try.f67 [1, 1, 0, 1, 0, 0, 1, 1, 0, 1, 0, 1, 0, 1]) _ _ _
        refine fk_cut ([(4, iV 0), (5, .bool false)] : Fr) (by kernel_rfl) (fun a => WP _ _ _ _ a _) (fun lr50 => ?_)
        refine gi_rt (by kernel_rfl) ?_
        repeat (first | simp only [Exit.inBlock] | simp only [Exit.then])
        have hb_ : badR L p := by
          first | exact .inr (.inl (by omega)) | exact .inr (.inr (by omega)) | exact .inl ⟨by omega, by assumption⟩
        have hs_ : tagScan L L.length 0 0 = none := ht_.trans (scan_bad (by omega) hf_ hb_)
        have h51 : sat g w46 [R] := sat_sel [1] rfl h48
        refine hi_out [] (.tuple #[iV 0, .bool false]) [] (by kernel_rfl) (by intro q hq; cases hq) ?_
        exact ⟨.tuple #[iV 0, .bool false], [], rfl, ⟨by unfold scanN scanB; rw [hs_]; rfl, rfl⟩, h51⟩
  ·
    refine plain_act (i := 0) (by kernel_rfl) ?_
    refine as_nextEnd (d := 11) (x := (Operand.tmp 10)) (r := r3) (L := L) (p := p) (by kernel_rfl) (by kernel_rfl) rfl (by kernel_rfl) (j := 0) h11 rfl (by omega) ?_
    refine zB0 [] [1] [(12, .bool false)] (by kernel_rfl) ?_
    refine PO.mk ?_
    change WP _ _ (CA Try.f67 [1, 1, 0, 1, 0, 0, 1]) _ _ _
    refine fk_cut ([(0, .string (St L)), (1, .func (Fn.func 68) #[] #[]), (6, iV (((n : Nat) : Int))), (10, pV r3), (11, .tuple #[.bool false]), (12, .bool false)] : Fr) (by kernel_rfl) (fun a => WP _ _ _ _ a _) (fun lr52 => ?_)
    refine zSq (by kernel_rfl) ?_
    refine zCf (by kernel_rfl) ?_
    refine gi_ext (id := 0) (by kernel_rfl) ?_
    change WP _ _ (CA Try.f67 [1, 1, 1]) _ _ _
    refine zSq (by kernel_rfl) ?_
    refine zPl [0, 1, 2] (by kernel_rfl) ?_
    refine zB0 [] [0, 1, 2] [(5, .bool true), (4, iV (((n : Nat) : Int))), (32, iV (((n : Nat) : Int)))] (by kernel_rfl) ?_
    refine PO.mk ?_
    change WP _ _ (CA Try.f67 [1, 1, 1, 1]) _ _ _
    refine fk_cut ([(4, iV (((n : Nat) : Int))), (5, .bool true)] : Fr) (by kernel_rfl) (fun a => WP _ _ _ _ a _) (fun lr53 => ?_)
    refine gi_rt (by kernel_rfl) ?_
    repeat (first | simp only [Exit.inBlock] | simp only [Exit.then])
    have hs_ : tagScan L L.length 0 0 = some n := ht_.trans (scan_end (by omega))
    have h54 : sat g w10 [R] := sat_sel [1] rfl h11
    refine hi_out [] (.tuple #[iV (((n : Nat) : Int)), .bool true]) [] (by kernel_rfl) (by intro q hq; cases hq) ?_
    exact ⟨.tuple #[iV (((n : Nat) : Int)), .bool true], [], rfl, ⟨by unfold scanN scanB; rw [hs_]; rfl, rfl⟩, h54⟩

set_option maxHeartbeats 4000000 in
theorem tag_ht (L : List UInt8) (hm : L.length ≤ 1099511627776) : HT Try.prog 50 [Value.string (St L)] [] (fun v K => v = Value.int .i64 (tagE L) ∧ K = []) := by
  refine hi_in 23 ([(0, .string (St L))] : Fr) Try.func50 (by kernel_rfl) Try.ntmps50 rfl rfl ?_
  intro g w0 R h0
  change WP _ _ (CA Try.f50 []) _ _ _
  refine zSq (by kernel_rfl) ?_
  refine zPl [0] (by kernel_rfl) ?_
  refine zB0 [] [0] [(2, iV 0)] (by kernel_rfl) ?_
  refine PO.mk ?_
  change WP _ _ (CA Try.f50 [1]) _ _ _
  refine fk_cut ([(0, .string (St L))] : Fr) (by kernel_rfl) (fun a => WP _ _ _ _ a _) (fun lr1 => ?_)
  refine zSq (by kernel_rfl) ?_
  refine zSq (by kernel_rfl) ?_
  refine zPl [0, 1, 2] (by kernel_rfl) ?_
  refine zBb [2] [(6, iV (((L.length : Nat) : Int))), (5, .string (St L))] [⟨0, [], none⟩, ⟨1, [], some (iV (((L.length : Nat) : Int)))⟩] [] [(iV ((St L).size : Int), iV (((L.length : Nat) : Int)))] (by kernel_rfl) ⟨(ov_int (st_len _)), trivial⟩ (AllC_nil _) ?_
  by_cases c2 : ((L.length : Nat) : Int) > 96
  ·
    refine zBb [] [(7, .bool true)] [⟨2, [], some (.bool true)⟩] [] [(.bool (decide (((L.length : Nat) : Int) > 96)), .bool true)] (by kernel_rfl) ⟨(ov_t (by omega)), trivial⟩ (AllC_nil _) ?_
    refine PO.mk ?_
    change WP _ _ (CA Try.f50 [1, 0, 1]) _ _ _
    refine fk_cut ([(0, .string (St L)), (7, .bool true)] : Fr) (by kernel_rfl) (fun a => WP _ _ _ _ a _) (fun lr3 => ?_)
    refine zCt (by kernel_rfl) ?_
    refine zSq (by kernel_rfl) ?_
    refine zPl [0] (by kernel_rfl) ?_
    refine zB0 [] [0] [(2, iV 16)] (by kernel_rfl) ?_
    refine PO.mk ?_
    change WP _ _ (CA Try.f50 [1, 0, 1, 0, 1]) _ _ _
    refine fk_cut ([(2, iV 16)] : Fr) (by kernel_rfl) (fun a => WP _ _ _ _ a _) (fun lr4 => ?_)
    refine gi_rt (by kernel_rfl) ?_
    repeat (first | simp only [Exit.inBlock] | simp only [Exit.then])
    refine hi_out [] (iV 16) [] (by kernel_rfl) (by intro q hq; cases hq) ?_
    exact ⟨iV 16, [], rfl, ⟨by unfold tagE; rw [if_pos (by omega)], rfl⟩, h0⟩
  ·
    refine zBb [] [(7, .bool false)] [⟨2, [], some (.bool false)⟩] [] [(.bool (decide (((L.length : Nat) : Int) > 96)), .bool false)] (by kernel_rfl) ⟨(ov_f (by omega)), trivial⟩ (AllC_nil _) ?_
    refine PO.mk ?_
    change WP _ _ (CA Try.f50 [1, 0, 1]) _ _ _
    refine fk_cut ([(0, .string (St L)), (7, .bool false)] : Fr) (by kernel_rfl) (fun a => WP _ _ _ _ a _) (fun lr5 => ?_)
    refine zCf (by kernel_rfl) ?_
    refine gi_skp (by kernel_rfl) ?_
    change WP _ _ (CA Try.f50 [1, 1]) _ _ _
    refine zSq (by kernel_rfl) ?_
    refine zPl [0, 1, 2, 3, 4, 5, 6] (by kernel_rfl) ?_
    refine zB0 [1, 2, 3, 4, 5, 6] [0] [(9, .string (St L))] (by kernel_rfl) ?_
    rcases Bool.eq_false_or_eq_true (scanB L) with cb6 | cb6
    ·
      refine plain_act (i := 1) (by kernel_rfl) ?_
      refine zCl 10 Try.call67 ((by have h_ := tall_ht L (by omega); rw [cb6] at h_; exact h_)) h0 (by kernel_rfl) ?_
      rintro v K w7 (⟨rfl, rfl⟩) h8
      refine ⟨_, rfl, ?_⟩
      have h9 : sat g w7 [R] := h8
      refine zB0 [] [2, 3, 4, 5, 6] [(4, .bool true), (3, iV (((scanN L : Nat) : Int))), (12, .bool true), (11, iV (((scanN L : Nat) : Int))), (8, .tuple #[iV (((scanN L : Nat) : Int)), .bool true])] (by kernel_rfl) ?_
      refine PO.mk ?_
      change WP _ _ (CA Try.f50 [1, 1, 1]) _ _ _
      refine fk_cut ([(3, iV (((scanN L : Nat) : Int))), (4, .bool true)] : Fr) (by kernel_rfl) (fun a => WP _ _ _ _ a _) (fun lr10 => ?_)
      refine zSq (by kernel_rfl) ?_
      refine zSq (by kernel_rfl) ?_
      refine zPl [0, 1, 2, 3, 4, 5, 6, 7, 8, 9] (by kernel_rfl) ?_
      refine zB0 [4, 5, 6, 7, 8, 9] [0, 1, 2, 3] [(16, iV (((scanN L : Nat) : Int))), (15, .bool false), (14, .bool false), (13, .bool true)] (by kernel_rfl) ?_
      by_cases c11 : ((scanN L : Nat) : Int) < 1
      ·
        refine zBb [] [(22, .bool true), (21, undef), (20, undef), (19, .bool true), (18, .bool true), (17, .bool true)] [⟨4, [], some (.bool true)⟩, ⟨5, [], none⟩, ⟨6, [], none⟩, ⟨7, [], none⟩, ⟨8, [], none⟩, ⟨9, [], none⟩] [] [(.bool (decide (((scanN L : Nat) : Int) < 1)), .bool true)] (by kernel_rfl) ⟨(ov_t (by omega)), trivial⟩ (AllC_nil _) ?_
        refine PO.mk ?_
        change WP _ _ (CA Try.f50 [1, 1, 1, 0, 1]) _ _ _
        refine fk_cut ([(22, .bool true)] : Fr) (by kernel_rfl) (fun a => WP _ _ _ _ a _) (fun lr12 => ?_)
        refine zCt (by kernel_rfl) ?_
        refine zSq (by kernel_rfl) ?_
        refine zPl [0] (by kernel_rfl) ?_
        refine zB0 [] [0] [(2, iV 16)] (by kernel_rfl) ?_
        refine PO.mk ?_
        change WP _ _ (CA Try.f50 [1, 1, 1, 0, 1, 0, 1]) _ _ _
        refine fk_cut ([(2, iV 16)] : Fr) (by kernel_rfl) (fun a => WP _ _ _ _ a _) (fun lr13 => ?_)
        refine gi_rt (by kernel_rfl) ?_
        repeat (first | simp only [Exit.inBlock] | simp only [Exit.then])
        refine hi_out [] (iV 16) [] (by kernel_rfl) (by intro q hq; cases hq) ?_
        exact ⟨iV 16, [], rfl, ⟨by unfold tagE; rw [if_neg (by omega), if_neg (by rintro ⟨h1_, h2_, h3_⟩; first | omega | simp_all)], rfl⟩, h9⟩
      ·
        refine zBb [8, 9] [(20, iV (((scanN L : Nat) : Int))), (19, .bool false), (18, .bool false), (17, .bool false)] [⟨4, [], some (.bool false)⟩, ⟨5, [], none⟩, ⟨6, [], none⟩, ⟨7, [], none⟩] [] [(.bool (decide (((scanN L : Nat) : Int) < 1)), .bool false)] (by kernel_rfl) ⟨(ov_f (by omega)), trivial⟩ (AllC_nil _) ?_
        by_cases c14 : ((scanN L : Nat) : Int) > 24
        ·
          refine zBb [] [(22, .bool true), (21, .bool true)] [⟨8, [], some (.bool true)⟩, ⟨9, [], none⟩] [] [(.bool (decide (((scanN L : Nat) : Int) > 24)), .bool true)] (by kernel_rfl) ⟨(ov_t (by omega)), trivial⟩ (AllC_nil _) ?_
          refine PO.mk ?_
          change WP _ _ (CA Try.f50 [1, 1, 1, 0, 1]) _ _ _
          refine fk_cut ([(22, .bool true)] : Fr) (by kernel_rfl) (fun a => WP _ _ _ _ a _) (fun lr15 => ?_)
          refine zCt (by kernel_rfl) ?_
          refine zSq (by kernel_rfl) ?_
          refine zPl [0] (by kernel_rfl) ?_
          refine zB0 [] [0] [(2, iV 16)] (by kernel_rfl) ?_
          refine PO.mk ?_
          change WP _ _ (CA Try.f50 [1, 1, 1, 0, 1, 0, 1]) _ _ _
          refine fk_cut ([(2, iV 16)] : Fr) (by kernel_rfl) (fun a => WP _ _ _ _ a _) (fun lr16 => ?_)
          refine gi_rt (by kernel_rfl) ?_
          repeat (first | simp only [Exit.inBlock] | simp only [Exit.then])
          refine hi_out [] (iV 16) [] (by kernel_rfl) (by intro q hq; cases hq) ?_
          exact ⟨iV 16, [], rfl, ⟨by unfold tagE; rw [if_neg (by omega), if_neg (by rintro ⟨h1_, h2_, h3_⟩; first | omega | simp_all)], rfl⟩, h9⟩
        ·
          refine zBb [] [(22, .bool false), (21, .bool false)] [⟨8, [], some (.bool false)⟩, ⟨9, [], none⟩] [] [(.bool (decide (((scanN L : Nat) : Int) > 24)), .bool false)] (by kernel_rfl) ⟨(ov_f (by omega)), trivial⟩ (AllC_nil _) ?_
          refine PO.mk ?_
          change WP _ _ (CA Try.f50 [1, 1, 1, 0, 1]) _ _ _
          refine fk_cut ([(22, .bool false)] : Fr) (by kernel_rfl) (fun a => WP _ _ _ _ a _) (fun lr17 => ?_)
          refine zCf (by kernel_rfl) ?_
          refine gi_skp (by kernel_rfl) ?_
          change WP _ _ (CA Try.f50 [1, 1, 1, 1]) _ _ _
          refine zSq (by kernel_rfl) ?_
          refine zPl [0] (by kernel_rfl) ?_
          refine zB0 [] [0] [(2, iV 0)] (by kernel_rfl) ?_
          refine PO.mk ?_
          change WP _ _ (CA Try.f50 [1, 1, 1, 1, 1]) _ _ _
          refine fk_cut ([(2, iV 0)] : Fr) (by kernel_rfl) (fun a => WP _ _ _ _ a _) (fun lr18 => ?_)
          refine gi_rt (by kernel_rfl) ?_
          repeat (first | simp only [Exit.inBlock] | simp only [Exit.then])
          refine hi_out [] (iV 0) [] (by kernel_rfl) (by intro q hq; cases hq) ?_
          exact ⟨iV 0, [], rfl, ⟨by unfold tagE; rw [if_neg (by omega), if_pos ⟨by assumption, by omega, by omega⟩], rfl⟩, h9⟩
    ·
      refine plain_act (i := 1) (by kernel_rfl) ?_
      refine zCl 10 Try.call67 ((by have h_ := tall_ht L (by omega); rw [cb6] at h_; exact h_)) h0 (by kernel_rfl) ?_
      rintro v K w19 (⟨rfl, rfl⟩) h20
      refine ⟨_, rfl, ?_⟩
      have h21 : sat g w19 [R] := h20
      refine zB0 [] [2, 3, 4, 5, 6] [(4, .bool false), (3, iV (((scanN L : Nat) : Int))), (12, .bool false), (11, iV (((scanN L : Nat) : Int))), (8, .tuple #[iV (((scanN L : Nat) : Int)), .bool false])] (by kernel_rfl) ?_
      refine PO.mk ?_
      change WP _ _ (CA Try.f50 [1, 1, 1]) _ _ _
      refine fk_cut ([(3, iV (((scanN L : Nat) : Int))), (4, .bool false)] : Fr) (by kernel_rfl) (fun a => WP _ _ _ _ a _) (fun lr22 => ?_)
      refine zSq (by kernel_rfl) ?_
      refine zSq (by kernel_rfl) ?_
      refine zPl [0, 1, 2, 3, 4, 5, 6, 7, 8, 9] (by kernel_rfl) ?_
      refine zB0 [] [0, 1, 2, 3, 4, 5, 6, 7, 8, 9] [(22, .bool true), (21, undef), (20, undef), (19, .bool true), (18, .bool true), (17, undef), (16, undef), (15, .bool true), (14, .bool true), (13, .bool false)] (by kernel_rfl) ?_
      refine PO.mk ?_
      change WP _ _ (CA Try.f50 [1, 1, 1, 0, 1]) _ _ _
      refine fk_cut ([(22, .bool true)] : Fr) (by kernel_rfl) (fun a => WP _ _ _ _ a _) (fun lr23 => ?_)
      refine zCt (by kernel_rfl) ?_
      refine zSq (by kernel_rfl) ?_
      refine zPl [0] (by kernel_rfl) ?_
      refine zB0 [] [0] [(2, iV 16)] (by kernel_rfl) ?_
      refine PO.mk ?_
      change WP _ _ (CA Try.f50 [1, 1, 1, 0, 1, 0, 1]) _ _ _
      refine fk_cut ([(2, iV 16)] : Fr) (by kernel_rfl) (fun a => WP _ _ _ _ a _) (fun lr24 => ?_)
      refine gi_rt (by kernel_rfl) ?_
      repeat (first | simp only [Exit.inBlock] | simp only [Exit.then])
      refine hi_out [] (iV 16) [] (by kernel_rfl) (by intro q hq; cases hq) ?_
      exact ⟨iV 16, [], rfl, ⟨by unfold tagE; rw [if_neg (by omega), if_neg (by rintro ⟨h1_, h2_, h3_⟩; first | omega | simp_all)], rfl⟩, h21⟩

end Go.Proofs.Ytjjpmehiolejgaa
