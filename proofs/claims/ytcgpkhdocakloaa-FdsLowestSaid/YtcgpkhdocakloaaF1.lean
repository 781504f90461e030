/- Walks, printed by my generator gen1.py. -/
import Derived.Test.YtcgpkhdocakloaaFdsB
namespace Go.Proofs.Ytcgpkhdocakloaa
set_option maxHeartbeats 4000000 in
theorem gcheck_ok (gn : Int) (hg1 : 1 ≤ gn) (hg : gn ≤ 4294967295) : HT Try.prog 56 [Value.int IntKind.u32 gn] [] (fun v K => v = Value.int IntKind.i64 0 ∧ K = []) := by
  refine hi_in 9 ([(0, .int .u32 gn)] : Fr) Try.func56 (by kernel_rfl) Try.ntmps56 rfl rfl ?_
  intro g w0 R h0
  refine gi_seq (x := CA Try.f56 [0]) (y := CA Try.f56 [1]) (by kernel_rfl) ?_
  refine gi_pln (id := 0) (ops := RA Try.f56 [0]) [0] (by kernel_rfl) (by kernel_rfl) (by kernel_rfl) ?_
  refine plain_batch (rest := []) [⟨0, [], none⟩] (l' := ([(2, .int .i64 0), (0, .int .u32 gn)] : Fr)) (pts' := []) (eqs := []) (by kernel_rfl) trivial (AllC_nil _) ?_
  refine PO.mk ?_
  change WP _ _ (CA Try.f56 [1]) _ _ _
  refine fk_cut ([(0, .int .u32 gn), (2, .int .i64 0)] : Fr) (by kernel_rfl) (fun a => WP _ _ _ _ a _) (fun lr1 => ?_)
  refine gi_seq (x := CA Try.f56 [1, 0]) (y := CA Try.f56 [1, 1]) (by kernel_rfl) ?_
  refine gi_seq (x := CA Try.f56 [1, 0, 0]) (y := CA Try.f56 [1, 0, 1]) (by kernel_rfl) ?_
  refine gi_pln (id := 1) (ops := RA Try.f56 [1, 0, 0]) [0, 1, 2, 3, 4, 5] (by kernel_rfl) (by kernel_rfl) (by kernel_rfl) ?_
  refine plain_batch (rest := []) [⟨0, [], none⟩, ⟨1, [], some (.bool false)⟩, ⟨2, [], none⟩, ⟨3, [], none⟩, ⟨4, [], some (.bool false)⟩, ⟨5, [], none⟩] (l' := ([(8, .bool false), (7, .bool false), (6, .int .u32 gn), (5, .bool false), (4, .bool false), (3, .int .u32 gn), (0, .int .u32 gn), (2, .int .i64 0)] : Fr) ++ lr1) (pts' := []) (eqs := [(.bool (decide (gn < 1)), .bool false), (.bool (decide (gn > 4294967295)), .bool false)]) (by kernel_rfl) ⟨(ov_f (by omega)), (ov_f (by omega)), trivial⟩ (AllC_nil _) ?_
  refine PO.mk ?_
  change WP _ _ (CA Try.f56 [1, 0, 1]) _ _ _
  refine fk_cut ([(0, .int .u32 gn), (2, .int .i64 0), (8, .bool false)] : Fr) (by kernel_rfl) (fun a => WP _ _ _ _ a _) (fun lr2 => ?_)
  refine gi_cnd (x := (Operand.tmp 8)) (s := CA Try.f56 [1, 0, 1, 0]) (t := CA Try.f56 [1, 0, 1, 1]) false (by kernel_rfl) (by kernel_rfl) ?_
  change WP _ _ (CA Try.f56 [1, 0, 1, 1]) _ _ _
  refine gi_skp (by kernel_rfl) ?_
  change WP _ _ (CA Try.f56 [1, 1]) _ _ _
  refine gi_seq (x := CA Try.f56 [1, 1, 0]) (y := CA Try.f56 [1, 1, 1]) (by kernel_rfl) ?_
  refine gi_pln (id := 3) (ops := RA Try.f56 [1, 1, 0]) [0] (by kernel_rfl) (by kernel_rfl) (by kernel_rfl) ?_
  refine plain_batch (rest := []) [⟨0, [], none⟩] (l' := ([(2, .int .i64 0), (0, .int .u32 gn), (2, .int .i64 0), (8, .bool false)] : Fr) ++ lr2) (pts' := []) (eqs := []) (by kernel_rfl) trivial (AllC_nil _) ?_
  refine PO.mk ?_
  change WP _ _ (CA Try.f56 [1, 1, 1]) _ _ _
  refine fk_cut ([(0, .int .u32 gn), (2, .int .i64 0), (8, .bool false)] : Fr) (by kernel_rfl) (fun a => WP _ _ _ _ a _) (fun lr3 => ?_)
  refine gi_rt (by kernel_rfl) ?_
  repeat (first | simp only [Exit.inBlock] | simp only [Exit.then])
  refine hi_out [] (.int .i64 0) [] (by kernel_rfl) (by intro q hq; cases hq) ?_
  exact ⟨.int .i64 0, [], rfl, ⟨rfl, rfl⟩, h0⟩

set_option maxHeartbeats 4000000 in
theorem gcheck_no (gn : Int) (hg0 : gn ≤ 0) : HT Try.prog 56 [Value.int IntKind.u32 gn] [] (fun v K => v = Value.int IntKind.i64 2 ∧ K = []) := by
  refine hi_in 9 ([(0, .int .u32 gn)] : Fr) Try.func56 (by kernel_rfl) Try.ntmps56 rfl rfl ?_
  intro g w0 R h0
  refine gi_seq (x := CA Try.f56 [0]) (y := CA Try.f56 [1]) (by kernel_rfl) ?_
  refine gi_pln (id := 0) (ops := RA Try.f56 [0]) [0] (by kernel_rfl) (by kernel_rfl) (by kernel_rfl) ?_
  refine plain_batch (rest := []) [⟨0, [], none⟩] (l' := ([(2, .int .i64 0), (0, .int .u32 gn)] : Fr)) (pts' := []) (eqs := []) (by kernel_rfl) trivial (AllC_nil _) ?_
  refine PO.mk ?_
  change WP _ _ (CA Try.f56 [1]) _ _ _
  refine fk_cut ([(0, .int .u32 gn), (2, .int .i64 0)] : Fr) (by kernel_rfl) (fun a => WP _ _ _ _ a _) (fun lr1 => ?_)
  refine gi_seq (x := CA Try.f56 [1, 0]) (y := CA Try.f56 [1, 1]) (by kernel_rfl) ?_
  refine gi_seq (x := CA Try.f56 [1, 0, 0]) (y := CA Try.f56 [1, 0, 1]) (by kernel_rfl) ?_
  refine gi_pln (id := 1) (ops := RA Try.f56 [1, 0, 0]) [0, 1, 2, 3, 4, 5] (by kernel_rfl) (by kernel_rfl) (by kernel_rfl) ?_
  refine plain_batch (rest := []) [⟨0, [], none⟩, ⟨1, [], some (.bool true)⟩, ⟨2, [], none⟩, ⟨3, [], none⟩, ⟨4, [], none⟩, ⟨5, [], none⟩] (l' := ([(8, .bool true), (7, undef), (6, undef), (5, .bool true), (4, .bool true), (3, .int .u32 gn), (0, .int .u32 gn), (2, .int .i64 0)] : Fr) ++ lr1) (pts' := []) (eqs := [(.bool (decide (gn < 1)), .bool true)]) (by kernel_rfl) ⟨(ov_t (by omega)), trivial⟩ (AllC_nil _) ?_
  refine PO.mk ?_
  change WP _ _ (CA Try.f56 [1, 0, 1]) _ _ _
  refine fk_cut ([(0, .int .u32 gn), (2, .int .i64 0), (8, .bool true)] : Fr) (by kernel_rfl) (fun a => WP _ _ _ _ a _) (fun lr2 => ?_)
  refine gi_cnd (x := (Operand.tmp 8)) (s := CA Try.f56 [1, 0, 1, 0]) (t := CA Try.f56 [1, 0, 1, 1]) true (by kernel_rfl) (by kernel_rfl) ?_
  change WP _ _ (CA Try.f56 [1, 0, 1, 0]) _ _ _
  refine gi_seq (x := CA Try.f56 [1, 0, 1, 0, 0]) (y := CA Try.f56 [1, 0, 1, 0, 1]) (by kernel_rfl) ?_
  refine gi_pln (id := 2) (ops := RA Try.f56 [1, 0, 1, 0, 0]) [0] (by kernel_rfl) (by kernel_rfl) (by kernel_rfl) ?_
  refine plain_batch (rest := []) [⟨0, [], none⟩] (l' := ([(2, .int .i64 2), (0, .int .u32 gn), (2, .int .i64 0), (8, .bool true)] : Fr) ++ lr2) (pts' := []) (eqs := []) (by kernel_rfl) trivial (AllC_nil _) ?_
  refine PO.mk ?_
  change WP _ _ (CA Try.f56 [1, 0, 1, 0, 1]) _ _ _
  refine fk_cut ([(0, .int .u32 gn), (2, .int .i64 2), (8, .bool true)] : Fr) (by kernel_rfl) (fun a => WP _ _ _ _ a _) (fun lr3 => ?_)
  refine gi_rt (by kernel_rfl) ?_
  repeat (first | simp only [Exit.inBlock] | simp only [Exit.then])
  refine hi_out [] (.int .i64 2) [] (by kernel_rfl) (by intro q hq; cases hq) ?_
  exact ⟨.int .i64 2, [], rfl, ⟨rfl, rfl⟩, h0⟩

set_option maxHeartbeats 4000000 in
theorem gleft1_ht (b : Nat) (gn : Int) (hg0 : 0 ≤ gn) (hg : gn ≤ 4294967295) : HT Try.prog 83 [Value.pointer (some ⟨b, 0, none⟩)] [Cl b [Value.int IntKind.u32 gn] 22] (fun v K => v = Value.int IntKind.u32 (-gn + 4294967295) ∧ K = [Cl b [Value.int IntKind.u32 gn] 22]) := by
  refine hi_in 4 ([(0, .pointer (some ⟨b, 0, none⟩))] : Fr) Try.func83 (by kernel_rfl) Try.ntmps83 rfl rfl ?_
  intro g w0 R h0
  refine gi_seq (x := CA Try.f83 [0]) (y := CA Try.f83 [1]) (by kernel_rfl) ?_
  refine gi_pln (id := 0) (ops := RA Try.f83 [0]) [0] (by kernel_rfl) (by kernel_rfl) (by kernel_rfl) ?_
  refine plain_batch (rest := []) [⟨0, [], none⟩] (l' := ([(1, .int .u32 0), (0, .pointer (some ⟨b, 0, none⟩))] : Fr)) (pts' := []) (eqs := []) (by kernel_rfl) trivial (AllC_nil _) ?_
  refine PO.mk ?_
  change WP _ _ (CA Try.f83 [1]) _ _ _
  refine fk_cut ([(0, .pointer (some ⟨b, 0, none⟩)), (1, .int .u32 0)] : Fr) (by kernel_rfl) (fun a => WP _ _ _ _ a _) (fun lr1 => ?_)
  refine gi_seq (x := CA Try.f83 [1, 0]) (y := CA Try.f83 [1, 1]) (by kernel_rfl) ?_
  refine gi_pln (id := 1) (ops := RA Try.f83 [1, 0]) [0, 1, 2] (by kernel_rfl) (by kernel_rfl) (by kernel_rfl) ?_
  refine plain_batch (rest := []) [⟨0, [.int .u32 gn], none⟩, ⟨1, [], some (.int .u32 (-gn + 4294967295))⟩, ⟨2, [], none⟩] (l' := ([(1, .int .u32 (-gn + 4294967295)), (3, .int .u32 (-gn + 4294967295)), (2, .int .u32 gn), (0, .pointer (some ⟨b, 0, none⟩)), (1, .int .u32 0)] : Fr) ++ lr1) (pts' := [(0, ⟨b, 0, none⟩, .int .u32 gn)]) (eqs := [(.int .u32 (IntKind.wrap .u32 (4294967295 - gn)), .int .u32 (-gn + 4294967295))]) (by kernel_rfl) ⟨(ov_u32 (by omega) (by omega) (by omega)), trivial⟩ (AllC_cons (sat_cell h0 0 rfl rfl) (AllC_nil _)) ?_
  refine PO.mk ?_
  change WP _ _ (CA Try.f83 [1, 1]) _ _ _
  refine fk_cut ([(0, .pointer (some ⟨b, 0, none⟩)), (1, .int .u32 (-gn + 4294967295))] : Fr) (by kernel_rfl) (fun a => WP _ _ _ _ a _) (fun lr2 => ?_)
  refine gi_rt (by kernel_rfl) ?_
  repeat (first | simp only [Exit.inBlock] | simp only [Exit.then])
  refine hi_out [] (.int .u32 (-gn + 4294967295)) [] (by kernel_rfl) (by intro q hq; cases hq) ?_
  exact ⟨.int .u32 (-gn + 4294967295), [Cl b [.int .u32 gn] 22], rfl, ⟨rfl, rfl⟩, h0⟩

set_option maxHeartbeats 4000000 in
theorem of_ok (b r : Nat) (gn : Int) (hg1 : 1 ≤ gn) (hg : gn ≤ 4294967295) : HT Try.prog 82 [Value.func (Fn.func 83) #[] #[Value.pointer (some ⟨b, 0, none⟩)], Value.slice (some ⟨r, 0, none⟩) 1 1] [Cl b [Value.int IntKind.u32 gn] 22, Cl r [Value.int IntKind.u32 gn] 22] (fun v K => v = Value.tuple #[Value.int IntKind.u32 (-gn + 4294967295), Value.int IntKind.i64 0] ∧ K = [Cl b [Value.int IntKind.u32 gn] 22, Cl r [Value.int IntKind.u32 gn] 22]) := by
  refine hi_in 25 ([(0, .func (Fn.func 83) #[] #[.pointer (some ⟨b, 0, none⟩)]), (1, .slice (some ⟨r, 0, none⟩) 1 1)] : Fr) Try.func82 (by kernel_rfl) Try.ntmps82 rfl rfl ?_
  intro g w0 R h0
  refine gi_seq (x := CA Try.f82 [0]) (y := CA Try.f82 [1]) (by kernel_rfl) ?_
  refine gi_pln (id := 0) (ops := RA Try.f82 [0]) [0, 1] (by kernel_rfl) (by kernel_rfl) (by kernel_rfl) ?_
  refine plain_batch (rest := []) [⟨0, [], none⟩, ⟨1, [], none⟩] (l' := ([(5, .int .i64 0), (4, .int .u32 0), (0, .func (Fn.func 83) #[] #[.pointer (some ⟨b, 0, none⟩)]), (1, .slice (some ⟨r, 0, none⟩) 1 1)] : Fr)) (pts' := []) (eqs := []) (by kernel_rfl) trivial (AllC_nil _) ?_
  refine PO.mk ?_
  change WP _ _ (CA Try.f82 [1]) _ _ _
  refine fk_cut ([(0, .func (Fn.func 83) #[] #[.pointer (some ⟨b, 0, none⟩)]), (1, .slice (some ⟨r, 0, none⟩) 1 1), (4, .int .u32 0), (5, .int .i64 0)] : Fr) (by kernel_rfl) (fun a => WP _ _ _ _ a _) (fun lr1 => ?_)
  refine gi_seq (x := CA Try.f82 [1, 0]) (y := CA Try.f82 [1, 1]) (by kernel_rfl) ?_
  refine gi_pln (id := 1) (ops := RA Try.f82 [1, 0]) [0] (by kernel_rfl) (by kernel_rfl) (by kernel_rfl) ?_
  refine plain_batch (rest := []) [⟨0, [], none⟩] (l' := ([(6, .int .u32 0), (0, .func (Fn.func 83) #[] #[.pointer (some ⟨b, 0, none⟩)]), (1, .slice (some ⟨r, 0, none⟩) 1 1), (4, .int .u32 0), (5, .int .i64 0)] : Fr) ++ lr1) (pts' := []) (eqs := []) (by kernel_rfl) trivial (AllC_nil _) ?_
  refine PO.mk ?_
  change WP _ _ (CA Try.f82 [1, 1]) _ _ _
  refine fk_cut ([(0, .func (Fn.func 83) #[] #[.pointer (some ⟨b, 0, none⟩)]), (1, .slice (some ⟨r, 0, none⟩) 1 1), (4, .int .u32 0), (5, .int .i64 0), (6, .int .u32 0)] : Fr) (by kernel_rfl) (fun a => WP _ _ _ _ a _) (fun lr2 => ?_)
  refine gi_seq (x := CA Try.f82 [1, 1, 0]) (y := CA Try.f82 [1, 1, 1]) (by kernel_rfl) ?_
  refine gi_seq (x := CA Try.f82 [1, 1, 0, 0]) (y := CA Try.f82 [1, 1, 0, 1]) (by kernel_rfl) ?_
  refine gi_pln (id := 2) (ops := RA Try.f82 [1, 1, 0, 0]) [0, 1, 2] (by kernel_rfl) (by kernel_rfl) (by kernel_rfl) ?_
  refine plain_batch (rest := []) [⟨0, [], none⟩, ⟨1, [], some (.int .i64 1)⟩, ⟨2, [], none⟩] (l' := ([(12, .int .i64 0), (11, .int .i64 1), (10, .slice (some ⟨r, 0, none⟩) 1 1), (0, .func (Fn.func 83) #[] #[.pointer (some ⟨b, 0, none⟩)]), (1, .slice (some ⟨r, 0, none⟩) 1 1), (4, .int .u32 0), (5, .int .i64 0), (6, .int .u32 0)] : Fr) ++ lr2) (pts' := []) (eqs := [(.int .i64 ((1 : Nat) : Int), .int .i64 1)]) (by kernel_rfl) ⟨(ov_int (by omega)), trivial⟩ (AllC_nil _) ?_
  refine PO.mk ?_
  change WP _ _ (CA Try.f82 [1, 1, 0, 1]) _ _ _
  refine fk_cut ([(0, .func (Fn.func 83) #[] #[.pointer (some ⟨b, 0, none⟩)]), (1, .slice (some ⟨r, 0, none⟩) 1 1), (4, .int .u32 0), (5, .int .i64 0), (6, .int .u32 0), (10, .slice (some ⟨r, 0, none⟩) 1 1), (11, .int .i64 1), (12, .int .i64 0)] : Fr) (by kernel_rfl) (fun a => WP _ _ _ _ a _) (fun lr3 => ?_)
  refine gi_blk (id := 0) (x := CA Try.f82 [1, 1, 0, 1, 0]) (by kernel_rfl) ?_
  refine gi_unr (x := CA Try.f82 [1, 1, 0, 1, 0, 0]) 2 (by kernel_rfl) ?_
  change WP _ _ (CA Try.f82 [1, 1, 0, 1, 0, 0]) _ _ _
  refine gi_seq (x := CA Try.f82 [1, 1, 0, 1, 0, 0, 0]) (y := CA Try.f82 [1, 1, 0, 1, 0, 0, 1]) (by kernel_rfl) ?_
  refine gi_pln (id := 3) (ops := RA Try.f82 [1, 1, 0, 1, 0, 0, 0]) [0] (by kernel_rfl) (by kernel_rfl) (by kernel_rfl) ?_
  refine plain_batch (rest := []) [⟨0, [], none⟩] (l' := ([(13, .bool true), (0, .func (Fn.func 83) #[] #[.pointer (some ⟨b, 0, none⟩)]), (1, .slice (some ⟨r, 0, none⟩) 1 1), (4, .int .u32 0), (5, .int .i64 0), (6, .int .u32 0), (10, .slice (some ⟨r, 0, none⟩) 1 1), (11, .int .i64 1), (12, .int .i64 0)] : Fr) ++ lr3) (pts' := []) (eqs := []) (by kernel_rfl) trivial (AllC_nil _) ?_
  refine PO.mk ?_
  change WP _ _ (CA Try.f82 [1, 1, 0, 1, 0, 0, 1]) _ _ _
  refine fk_cut ([(0, .func (Fn.func 83) #[] #[.pointer (some ⟨b, 0, none⟩)]), (1, .slice (some ⟨r, 0, none⟩) 1 1), (4, .int .u32 0), (5, .int .i64 0), (6, .int .u32 0), (10, .slice (some ⟨r, 0, none⟩) 1 1), (11, .int .i64 1), (12, .int .i64 0), (13, .bool true)] : Fr) (by kernel_rfl) (fun a => WP _ _ _ _ a _) (fun lr4 => ?_)
  refine gi_seq (x := CA Try.f82 [1, 1, 0, 1, 0, 0, 1, 0]) (y := CA Try.f82 [1, 1, 0, 1, 0, 0, 1, 1]) (by kernel_rfl) ?_
  refine gi_cnd (x := (Operand.tmp 13)) (s := CA Try.f82 [1, 1, 0, 1, 0, 0, 1, 0, 0]) (t := CA Try.f82 [1, 1, 0, 1, 0, 0, 1, 0, 1]) true (by kernel_rfl) (by kernel_rfl) ?_
  change WP _ _ (CA Try.f82 [1, 1, 0, 1, 0, 0, 1, 0, 0]) _ _ _
  refine gi_skp (by kernel_rfl) ?_
  change WP _ _ (CA Try.f82 [1, 1, 0, 1, 0, 0, 1, 1]) _ _ _
  refine gi_seq (x := CA Try.f82 [1, 1, 0, 1, 0, 0, 1, 1, 0]) (y := CA Try.f82 [1, 1, 0, 1, 0, 0, 1, 1, 1]) (by kernel_rfl) ?_
  refine gi_blk (id := 1) (x := CA Try.f82 [1, 1, 0, 1, 0, 0, 1, 1, 0, 0]) (by kernel_rfl) ?_
  refine gi_seq (x := CA Try.f82 [1, 1, 0, 1, 0, 0, 1, 1, 0, 0, 0]) (y := CA Try.f82 [1, 1, 0, 1, 0, 0, 1, 1, 0, 0, 1]) (by kernel_rfl) ?_
  refine gi_pln (id := 4) (ops := RA Try.f82 [1, 1, 0, 1, 0, 0, 1, 1, 0, 0, 0]) [0, 1, 2] (by kernel_rfl) (by kernel_rfl) (by kernel_rfl) ?_
  refine plain_law (i := 0) 14 (.pointer (some ⟨r, 0, none⟩)) (by kernel_rfl) (law_indexSl (o := opA (RA Try.f82 [1, 1, 0, 1, 0, 0, 1, 1, 0, 0, 0]) 0) (x := (Operand.tmp 10)) (i := (Operand.tmp 12)) (b := r) (off := 0) (z := 0) (len := 1) (cap := 1) (by kernel_rfl) Try.underlying145 1 (by kernel_rfl) 0 (by kernel_rfl) (by kernel_rfl) (by omega) (by omega) 0 (by omega) _) ?_
  refine plain_batch (rest := []) [⟨1, [.int .u32 gn], none⟩, ⟨2, [], none⟩] (l' := ([(8, .int .u32 gn), (15, .int .u32 gn), (14, .pointer (some ⟨r, 0, none⟩)), (0, .func (Fn.func 83) #[] #[.pointer (some ⟨b, 0, none⟩)]), (1, .slice (some ⟨r, 0, none⟩) 1 1), (4, .int .u32 0), (5, .int .i64 0), (6, .int .u32 0), (10, .slice (some ⟨r, 0, none⟩) 1 1), (11, .int .i64 1), (12, .int .i64 0), (13, .bool true)] : Fr) ++ lr4) (pts' := [(1, ⟨r, 0, none⟩, .int .u32 gn)]) (eqs := []) (by kernel_rfl) trivial (AllC_cons (sat_cell h0 1 rfl rfl) (AllC_nil _)) ?_
  refine PO.mk ?_
  change WP _ _ (CA Try.f82 [1, 1, 0, 1, 0, 0, 1, 1, 0, 0, 1]) _ _ _
  refine fk_cut ([(0, .func (Fn.func 83) #[] #[.pointer (some ⟨b, 0, none⟩)]), (1, .slice (some ⟨r, 0, none⟩) 1 1), (4, .int .u32 0), (5, .int .i64 0), (6, .int .u32 0), (8, .int .u32 gn), (10, .slice (some ⟨r, 0, none⟩) 1 1), (11, .int .i64 1), (12, .int .i64 0), (13, .bool true)] : Fr) (by kernel_rfl) (fun a => WP _ _ _ _ a _) (fun lr5 => ?_)
  refine gi_seq (x := CA Try.f82 [1, 1, 0, 1, 0, 0, 1, 1, 0, 0, 1, 0]) (y := CA Try.f82 [1, 1, 0, 1, 0, 0, 1, 1, 0, 0, 1, 1]) (by kernel_rfl) ?_
  refine gi_pln (id := 5) (ops := RA Try.f82 [1, 1, 0, 1, 0, 0, 1, 1, 0, 0, 1, 0]) [0, 1, 2] (by kernel_rfl) (by kernel_rfl) (by kernel_rfl) ?_
  refine plain_batch (rest := [1, 2]) [⟨0, [], none⟩] (l' := ([(16, .int .u32 gn), (0, .func (Fn.func 83) #[] #[.pointer (some ⟨b, 0, none⟩)]), (1, .slice (some ⟨r, 0, none⟩) 1 1), (4, .int .u32 0), (5, .int .i64 0), (6, .int .u32 0), (8, .int .u32 gn), (10, .slice (some ⟨r, 0, none⟩) 1 1), (11, .int .i64 1), (12, .int .i64 0), (13, .bool true)] : Fr) ++ lr5) (pts' := []) (eqs := []) (by kernel_rfl) trivial (AllC_nil _) ?_
  refine plain_act (i := 1) (by kernel_rfl) ?_
  refine an_call (d := some 17) (f := 56) (args := [.int .u32 gn]) (by kernel_rfl) Try.call56 (gcheck_ok gn (by omega) (by omega)) (F := [Cl b [.int .u32 gn] 22, Cl r [.int .u32 gn] 22, R]) h0 ?_
  rintro v K w6 (⟨rfl, rfl⟩) h7
  refine ⟨_, rfl, ?_⟩
  have h8 : sat g w6 [Cl b [.int .u32 gn] 22, Cl r [.int .u32 gn] 22, R] := h7
  refine plain_batch (rest := []) [⟨2, [], none⟩] (l' := ([(9, .int .i64 0), (17, .int .i64 0), (16, .int .u32 gn), (0, .func (Fn.func 83) #[] #[.pointer (some ⟨b, 0, none⟩)]), (1, .slice (some ⟨r, 0, none⟩) 1 1), (4, .int .u32 0), (5, .int .i64 0), (6, .int .u32 0), (8, .int .u32 gn), (10, .slice (some ⟨r, 0, none⟩) 1 1), (11, .int .i64 1), (12, .int .i64 0), (13, .bool true)] : Fr) ++ lr5) (pts' := []) (eqs := []) (by kernel_rfl) trivial (AllC_nil _) ?_
  refine PO.mk ?_
  change WP _ _ (CA Try.f82 [1, 1, 0, 1, 0, 0, 1, 1, 0, 0, 1, 1]) _ _ _
  refine fk_cut ([(0, .func (Fn.func 83) #[] #[.pointer (some ⟨b, 0, none⟩)]), (1, .slice (some ⟨r, 0, none⟩) 1 1), (4, .int .u32 0), (5, .int .i64 0), (6, .int .u32 0), (8, .int .u32 gn), (9, .int .i64 0), (10, .slice (some ⟨r, 0, none⟩) 1 1), (11, .int .i64 1), (12, .int .i64 0), (13, .bool true)] : Fr) (by kernel_rfl) (fun a => WP _ _ _ _ a _) (fun lr9 => ?_)
  refine gi_seq (x := CA Try.f82 [1, 1, 0, 1, 0, 0, 1, 1, 0, 0, 1, 1, 0]) (y := CA Try.f82 [1, 1, 0, 1, 0, 0, 1, 1, 0, 0, 1, 1, 1]) (by kernel_rfl) ?_
  refine gi_pln (id := 6) (ops := RA Try.f82 [1, 1, 0, 1, 0, 0, 1, 1, 0, 0, 1, 1, 0]) [0, 1] (by kernel_rfl) (by kernel_rfl) (by kernel_rfl) ?_
  refine plain_batch (rest := []) [⟨0, [], none⟩, ⟨1, [], none⟩] (l' := ([(19, .bool false), (18, .int .i64 0), (0, .func (Fn.func 83) #[] #[.pointer (some ⟨b, 0, none⟩)]), (1, .slice (some ⟨r, 0, none⟩) 1 1), (4, .int .u32 0), (5, .int .i64 0), (6, .int .u32 0), (8, .int .u32 gn), (9, .int .i64 0), (10, .slice (some ⟨r, 0, none⟩) 1 1), (11, .int .i64 1), (12, .int .i64 0), (13, .bool true)] : Fr) ++ lr9) (pts' := []) (eqs := []) (by kernel_rfl) trivial (AllC_nil _) ?_
  refine PO.mk ?_
  change WP _ _ (CA Try.f82 [1, 1, 0, 1, 0, 0, 1, 1, 0, 0, 1, 1, 1]) _ _ _
  refine fk_cut ([(0, .func (Fn.func 83) #[] #[.pointer (some ⟨b, 0, none⟩)]), (1, .slice (some ⟨r, 0, none⟩) 1 1), (4, .int .u32 0), (5, .int .i64 0), (6, .int .u32 0), (8, .int .u32 gn), (9, .int .i64 0), (10, .slice (some ⟨r, 0, none⟩) 1 1), (11, .int .i64 1), (12, .int .i64 0), (13, .bool true), (19, .bool false)] : Fr) (by kernel_rfl) (fun a => WP _ _ _ _ a _) (fun lr10 => ?_)
  refine gi_cnd (x := (Operand.tmp 19)) (s := CA Try.f82 [1, 1, 0, 1, 0, 0, 1, 1, 0, 0, 1, 1, 1, 0]) (t := CA Try.f82 [1, 1, 0, 1, 0, 0, 1, 1, 0, 0, 1, 1, 1, 1]) false (by kernel_rfl) (by kernel_rfl) ?_
  change WP _ _ (CA Try.f82 [1, 1, 0, 1, 0, 0, 1, 1, 0, 0, 1, 1, 1, 1]) _ _ _
  refine gi_skp (by kernel_rfl) ?_
  change WP _ _ (CA Try.f82 [1, 1, 0, 1, 0, 0, 1, 1, 1]) _ _ _
  refine gi_pln (id := 8) (ops := RA Try.f82 [1, 1, 0, 1, 0, 0, 1, 1, 1]) [0, 1] (by kernel_rfl) (by kernel_rfl) (by kernel_rfl) ?_
  refine plain_batch (rest := []) [⟨0, [], none⟩, ⟨1, [], none⟩] (l' := ([(12, .int .i64 1), (22, .int .i64 1), (0, .func (Fn.func 83) #[] #[.pointer (some ⟨b, 0, none⟩)]), (1, .slice (some ⟨r, 0, none⟩) 1 1), (4, .int .u32 0), (5, .int .i64 0), (6, .int .u32 0), (8, .int .u32 gn), (9, .int .i64 0), (10, .slice (some ⟨r, 0, none⟩) 1 1), (11, .int .i64 1), (12, .int .i64 0), (13, .bool true), (19, .bool false)] : Fr) ++ lr10) (pts' := []) (eqs := []) (by kernel_rfl) trivial (AllC_nil _) ?_
  refine PO.mk ?_
  change WP _ _ (CA Try.f82 [1, 1, 0, 1, 0, 0]) _ _ _
  refine fk_cut ([(0, .func (Fn.func 83) #[] #[.pointer (some ⟨b, 0, none⟩)]), (1, .slice (some ⟨r, 0, none⟩) 1 1), (4, .int .u32 0), (5, .int .i64 0), (6, .int .u32 0), (8, .int .u32 gn), (9, .int .i64 0), (10, .slice (some ⟨r, 0, none⟩) 1 1), (11, .int .i64 1), (12, .int .i64 1), (13, .bool true), (19, .bool false)] : Fr) (by kernel_rfl) (fun a => WP _ _ _ _ a _) (fun lr11 => ?_)
  refine gi_seq (x := CA Try.f82 [1, 1, 0, 1, 0, 0, 0]) (y := CA Try.f82 [1, 1, 0, 1, 0, 0, 1]) (by kernel_rfl) ?_
  refine gi_pln (id := 3) (ops := RA Try.f82 [1, 1, 0, 1, 0, 0, 0]) [0] (by kernel_rfl) (by kernel_rfl) (by kernel_rfl) ?_
  refine plain_batch (rest := []) [⟨0, [], none⟩] (l' := ([(13, .bool false), (0, .func (Fn.func 83) #[] #[.pointer (some ⟨b, 0, none⟩)]), (1, .slice (some ⟨r, 0, none⟩) 1 1), (4, .int .u32 0), (5, .int .i64 0), (6, .int .u32 0), (8, .int .u32 gn), (9, .int .i64 0), (10, .slice (some ⟨r, 0, none⟩) 1 1), (11, .int .i64 1), (12, .int .i64 1), (13, .bool true), (19, .bool false)] : Fr) ++ lr11) (pts' := []) (eqs := []) (by kernel_rfl) trivial (AllC_nil _) ?_
  refine PO.mk ?_
  change WP _ _ (CA Try.f82 [1, 1, 0, 1, 0, 0, 1]) _ _ _
  refine fk_cut ([(0, .func (Fn.func 83) #[] #[.pointer (some ⟨b, 0, none⟩)]), (1, .slice (some ⟨r, 0, none⟩) 1 1), (4, .int .u32 0), (5, .int .i64 0), (6, .int .u32 0), (8, .int .u32 gn), (9, .int .i64 0), (10, .slice (some ⟨r, 0, none⟩) 1 1), (11, .int .i64 1), (12, .int .i64 1), (13, .bool false), (19, .bool false)] : Fr) (by kernel_rfl) (fun a => WP _ _ _ _ a _) (fun lr12 => ?_)
  refine gi_seq (x := CA Try.f82 [1, 1, 0, 1, 0, 0, 1, 0]) (y := CA Try.f82 [1, 1, 0, 1, 0, 0, 1, 1]) (by kernel_rfl) ?_
  refine gi_cnd (x := (Operand.tmp 13)) (s := CA Try.f82 [1, 1, 0, 1, 0, 0, 1, 0, 0]) (t := CA Try.f82 [1, 1, 0, 1, 0, 0, 1, 0, 1]) false (by kernel_rfl) (by kernel_rfl) ?_
  change WP _ _ (CA Try.f82 [1, 1, 0, 1, 0, 0, 1, 0, 1]) _ _ _
  refine gi_ext (id := 0) (by kernel_rfl) ?_
  change WP _ _ (CA Try.f82 [1, 1, 1]) _ _ _
  refine gi_seq (x := CA Try.f82 [1, 1, 1, 0]) (y := CA Try.f82 [1, 1, 1, 1]) (by kernel_rfl) ?_
  refine gi_pln (id := 9) (ops := RA Try.f82 [1, 1, 1, 0]) [0, 1, 2, 3] (by kernel_rfl) (by kernel_rfl) (by kernel_rfl) ?_
  refine plain_batch (rest := [1, 2, 3]) [⟨0, [], none⟩] (l' := ([(23, .func (Fn.func 83) #[] #[.pointer (some ⟨b, 0, none⟩)]), (0, .func (Fn.func 83) #[] #[.pointer (some ⟨b, 0, none⟩)]), (1, .slice (some ⟨r, 0, none⟩) 1 1), (4, .int .u32 0), (5, .int .i64 0), (6, .int .u32 0), (8, .int .u32 gn), (9, .int .i64 0), (10, .slice (some ⟨r, 0, none⟩) 1 1), (11, .int .i64 1), (12, .int .i64 1), (13, .bool false), (19, .bool false)] : Fr) ++ lr12) (pts' := []) (eqs := []) (by kernel_rfl) trivial (AllC_nil _) ?_
  refine plain_act (i := 1) (by kernel_rfl) ?_
  refine an_call (d := some 24) (f := 83) (args := [.pointer (some ⟨b, 0, none⟩)]) (by kernel_rfl) Try.call83 (gleft1_ht b gn (by omega) (by omega)) (F := [Cl r [.int .u32 gn] 22, R]) h8 ?_
  rintro v K w13 (⟨rfl, rfl⟩) h14
  refine ⟨_, rfl, ?_⟩
  have h15 : sat g w13 [Cl b [.int .u32 gn] 22, Cl r [.int .u32 gn] 22, R] := h14
  refine plain_batch (rest := []) [⟨2, [], none⟩, ⟨3, [], none⟩] (l' := ([(5, .int .i64 0), (4, .int .u32 (-gn + 4294967295)), (24, .int .u32 (-gn + 4294967295)), (23, .func (Fn.func 83) #[] #[.pointer (some ⟨b, 0, none⟩)]), (0, .func (Fn.func 83) #[] #[.pointer (some ⟨b, 0, none⟩)]), (1, .slice (some ⟨r, 0, none⟩) 1 1), (4, .int .u32 0), (5, .int .i64 0), (6, .int .u32 0), (8, .int .u32 gn), (9, .int .i64 0), (10, .slice (some ⟨r, 0, none⟩) 1 1), (11, .int .i64 1), (12, .int .i64 1), (13, .bool false), (19, .bool false)] : Fr) ++ lr12) (pts' := []) (eqs := []) (by kernel_rfl) trivial (AllC_nil _) ?_
  refine PO.mk ?_
  change WP _ _ (CA Try.f82 [1, 1, 1, 1]) _ _ _
  refine fk_cut ([(0, .func (Fn.func 83) #[] #[.pointer (some ⟨b, 0, none⟩)]), (1, .slice (some ⟨r, 0, none⟩) 1 1), (4, .int .u32 (-gn + 4294967295)), (5, .int .i64 0), (6, .int .u32 0), (8, .int .u32 gn), (9, .int .i64 0), (10, .slice (some ⟨r, 0, none⟩) 1 1), (11, .int .i64 1), (12, .int .i64 1), (13, .bool false), (19, .bool false)] : Fr) (by kernel_rfl) (fun a => WP _ _ _ _ a _) (fun lr16 => ?_)
  refine gi_rt (by kernel_rfl) ?_
  repeat (first | simp only [Exit.inBlock] | simp only [Exit.then])
  refine hi_out [] (.tuple #[.int .u32 (-gn + 4294967295), .int .i64 0]) [] (by kernel_rfl) (by intro q hq; cases hq) ?_
  exact ⟨.tuple #[.int .u32 (-gn + 4294967295), .int .i64 0], [Cl b [.int .u32 gn] 22, Cl r [.int .u32 gn] 22], rfl, ⟨rfl, rfl⟩, h15⟩

set_option maxHeartbeats 4000000 in
theorem of_no (b r : Nat) (gn : Int) (hg0 : gn ≤ 0) : HT Try.prog 82 [Value.func (Fn.func 83) #[] #[Value.pointer (some ⟨b, 0, none⟩)], Value.slice (some ⟨r, 0, none⟩) 1 1] [Cl b [Value.int IntKind.u32 gn] 22, Cl r [Value.int IntKind.u32 gn] 22] (fun v K => v = Value.tuple #[Value.int IntKind.u32 0, Value.int IntKind.i64 2] ∧ K = [Cl b [Value.int IntKind.u32 gn] 22, Cl r [Value.int IntKind.u32 gn] 22]) := by
  refine hi_in 25 ([(0, .func (Fn.func 83) #[] #[.pointer (some ⟨b, 0, none⟩)]), (1, .slice (some ⟨r, 0, none⟩) 1 1)] : Fr) Try.func82 (by kernel_rfl) Try.ntmps82 rfl rfl ?_
  intro g w0 R h0
  refine gi_seq (x := CA Try.f82 [0]) (y := CA Try.f82 [1]) (by kernel_rfl) ?_
  refine gi_pln (id := 0) (ops := RA Try.f82 [0]) [0, 1] (by kernel_rfl) (by kernel_rfl) (by kernel_rfl) ?_
  refine plain_batch (rest := []) [⟨0, [], none⟩, ⟨1, [], none⟩] (l' := ([(5, .int .i64 0), (4, .int .u32 0), (0, .func (Fn.func 83) #[] #[.pointer (some ⟨b, 0, none⟩)]), (1, .slice (some ⟨r, 0, none⟩) 1 1)] : Fr)) (pts' := []) (eqs := []) (by kernel_rfl) trivial (AllC_nil _) ?_
  refine PO.mk ?_
  change WP _ _ (CA Try.f82 [1]) _ _ _
  refine fk_cut ([(0, .func (Fn.func 83) #[] #[.pointer (some ⟨b, 0, none⟩)]), (1, .slice (some ⟨r, 0, none⟩) 1 1), (4, .int .u32 0), (5, .int .i64 0)] : Fr) (by kernel_rfl) (fun a => WP _ _ _ _ a _) (fun lr1 => ?_)
  refine gi_seq (x := CA Try.f82 [1, 0]) (y := CA Try.f82 [1, 1]) (by kernel_rfl) ?_
  refine gi_pln (id := 1) (ops := RA Try.f82 [1, 0]) [0] (by kernel_rfl) (by kernel_rfl) (by kernel_rfl) ?_
  refine plain_batch (rest := []) [⟨0, [], none⟩] (l' := ([(6, .int .u32 0), (0, .func (Fn.func 83) #[] #[.pointer (some ⟨b, 0, none⟩)]), (1, .slice (some ⟨r, 0, none⟩) 1 1), (4, .int .u32 0), (5, .int .i64 0)] : Fr) ++ lr1) (pts' := []) (eqs := []) (by kernel_rfl) trivial (AllC_nil _) ?_
  refine PO.mk ?_
  change WP _ _ (CA Try.f82 [1, 1]) _ _ _
  refine fk_cut ([(0, .func (Fn.func 83) #[] #[.pointer (some ⟨b, 0, none⟩)]), (1, .slice (some ⟨r, 0, none⟩) 1 1), (4, .int .u32 0), (5, .int .i64 0), (6, .int .u32 0)] : Fr) (by kernel_rfl) (fun a => WP _ _ _ _ a _) (fun lr2 => ?_)
  refine gi_seq (x := CA Try.f82 [1, 1, 0]) (y := CA Try.f82 [1, 1, 1]) (by kernel_rfl) ?_
  refine gi_seq (x := CA Try.f82 [1, 1, 0, 0]) (y := CA Try.f82 [1, 1, 0, 1]) (by kernel_rfl) ?_
  refine gi_pln (id := 2) (ops := RA Try.f82 [1, 1, 0, 0]) [0, 1, 2] (by kernel_rfl) (by kernel_rfl) (by kernel_rfl) ?_
  refine plain_batch (rest := []) [⟨0, [], none⟩, ⟨1, [], some (.int .i64 1)⟩, ⟨2, [], none⟩] (l' := ([(12, .int .i64 0), (11, .int .i64 1), (10, .slice (some ⟨r, 0, none⟩) 1 1), (0, .func (Fn.func 83) #[] #[.pointer (some ⟨b, 0, none⟩)]), (1, .slice (some ⟨r, 0, none⟩) 1 1), (4, .int .u32 0), (5, .int .i64 0), (6, .int .u32 0)] : Fr) ++ lr2) (pts' := []) (eqs := [(.int .i64 ((1 : Nat) : Int), .int .i64 1)]) (by kernel_rfl) ⟨(ov_int (by omega)), trivial⟩ (AllC_nil _) ?_
  refine PO.mk ?_
  change WP _ _ (CA Try.f82 [1, 1, 0, 1]) _ _ _
  refine fk_cut ([(0, .func (Fn.func 83) #[] #[.pointer (some ⟨b, 0, none⟩)]), (1, .slice (some ⟨r, 0, none⟩) 1 1), (4, .int .u32 0), (5, .int .i64 0), (6, .int .u32 0), (10, .slice (some ⟨r, 0, none⟩) 1 1), (11, .int .i64 1), (12, .int .i64 0)] : Fr) (by kernel_rfl) (fun a => WP _ _ _ _ a _) (fun lr3 => ?_)
  refine gi_blk (id := 0) (x := CA Try.f82 [1, 1, 0, 1, 0]) (by kernel_rfl) ?_
  refine gi_unr (x := CA Try.f82 [1, 1, 0, 1, 0, 0]) 2 (by kernel_rfl) ?_
  change WP _ _ (CA Try.f82 [1, 1, 0, 1, 0, 0]) _ _ _
  refine gi_seq (x := CA Try.f82 [1, 1, 0, 1, 0, 0, 0]) (y := CA Try.f82 [1, 1, 0, 1, 0, 0, 1]) (by kernel_rfl) ?_
  refine gi_pln (id := 3) (ops := RA Try.f82 [1, 1, 0, 1, 0, 0, 0]) [0] (by kernel_rfl) (by kernel_rfl) (by kernel_rfl) ?_
  refine plain_batch (rest := []) [⟨0, [], none⟩] (l' := ([(13, .bool true), (0, .func (Fn.func 83) #[] #[.pointer (some ⟨b, 0, none⟩)]), (1, .slice (some ⟨r, 0, none⟩) 1 1), (4, .int .u32 0), (5, .int .i64 0), (6, .int .u32 0), (10, .slice (some ⟨r, 0, none⟩) 1 1), (11, .int .i64 1), (12, .int .i64 0)] : Fr) ++ lr3) (pts' := []) (eqs := []) (by kernel_rfl) trivial (AllC_nil _) ?_
  refine PO.mk ?_
  change WP _ _ (CA Try.f82 [1, 1, 0, 1, 0, 0, 1]) _ _ _
  refine fk_cut ([(0, .func (Fn.func 83) #[] #[.pointer (some ⟨b, 0, none⟩)]), (1, .slice (some ⟨r, 0, none⟩) 1 1), (4, .int .u32 0), (5, .int .i64 0), (6, .int .u32 0), (10, .slice (some ⟨r, 0, none⟩) 1 1), (11, .int .i64 1), (12, .int .i64 0), (13, .bool true)] : Fr) (by kernel_rfl) (fun a => WP _ _ _ _ a _) (fun lr4 => ?_)
  refine gi_seq (x := CA Try.f82 [1, 1, 0, 1, 0, 0, 1, 0]) (y := CA Try.f82 [1, 1, 0, 1, 0, 0, 1, 1]) (by kernel_rfl) ?_
  refine gi_cnd (x := (Operand.tmp 13)) (s := CA Try.f82 [1, 1, 0, 1, 0, 0, 1, 0, 0]) (t := CA Try.f82 [1, 1, 0, 1, 0, 0, 1, 0, 1]) true (by kernel_rfl) (by kernel_rfl) ?_
  change WP _ _ (CA Try.f82 [1, 1, 0, 1, 0, 0, 1, 0, 0]) _ _ _
  refine gi_skp (by kernel_rfl) ?_
  change WP _ _ (CA Try.f82 [1, 1, 0, 1, 0, 0, 1, 1]) _ _ _
  refine gi_seq (x := CA Try.f82 [1, 1, 0, 1, 0, 0, 1, 1, 0]) (y := CA Try.f82 [1, 1, 0, 1, 0, 0, 1, 1, 1]) (by kernel_rfl) ?_
  refine gi_blk (id := 1) (x := CA Try.f82 [1, 1, 0, 1, 0, 0, 1, 1, 0, 0]) (by kernel_rfl) ?_
  refine gi_seq (x := CA Try.f82 [1, 1, 0, 1, 0, 0, 1, 1, 0, 0, 0]) (y := CA Try.f82 [1, 1, 0, 1, 0, 0, 1, 1, 0, 0, 1]) (by kernel_rfl) ?_
  refine gi_pln (id := 4) (ops := RA Try.f82 [1, 1, 0, 1, 0, 0, 1, 1, 0, 0, 0]) [0, 1, 2] (by kernel_rfl) (by kernel_rfl) (by kernel_rfl) ?_
  refine plain_law (i := 0) 14 (.pointer (some ⟨r, 0, none⟩)) (by kernel_rfl) (law_indexSl (o := opA (RA Try.f82 [1, 1, 0, 1, 0, 0, 1, 1, 0, 0, 0]) 0) (x := (Operand.tmp 10)) (i := (Operand.tmp 12)) (b := r) (off := 0) (z := 0) (len := 1) (cap := 1) (by kernel_rfl) Try.underlying145 1 (by kernel_rfl) 0 (by kernel_rfl) (by kernel_rfl) (by omega) (by omega) 0 (by omega) _) ?_
  refine plain_batch (rest := []) [⟨1, [.int .u32 gn], none⟩, ⟨2, [], none⟩] (l' := ([(8, .int .u32 gn), (15, .int .u32 gn), (14, .pointer (some ⟨r, 0, none⟩)), (0, .func (Fn.func 83) #[] #[.pointer (some ⟨b, 0, none⟩)]), (1, .slice (some ⟨r, 0, none⟩) 1 1), (4, .int .u32 0), (5, .int .i64 0), (6, .int .u32 0), (10, .slice (some ⟨r, 0, none⟩) 1 1), (11, .int .i64 1), (12, .int .i64 0), (13, .bool true)] : Fr) ++ lr4) (pts' := [(1, ⟨r, 0, none⟩, .int .u32 gn)]) (eqs := []) (by kernel_rfl) trivial (AllC_cons (sat_cell h0 1 rfl rfl) (AllC_nil _)) ?_
  refine PO.mk ?_
  change WP _ _ (CA Try.f82 [1, 1, 0, 1, 0, 0, 1, 1, 0, 0, 1]) _ _ _
  refine fk_cut ([(0, .func (Fn.func 83) #[] #[.pointer (some ⟨b, 0, none⟩)]), (1, .slice (some ⟨r, 0, none⟩) 1 1), (4, .int .u32 0), (5, .int .i64 0), (6, .int .u32 0), (8, .int .u32 gn), (10, .slice (some ⟨r, 0, none⟩) 1 1), (11, .int .i64 1), (12, .int .i64 0), (13, .bool true)] : Fr) (by kernel_rfl) (fun a => WP _ _ _ _ a _) (fun lr5 => ?_)
  refine gi_seq (x := CA Try.f82 [1, 1, 0, 1, 0, 0, 1, 1, 0, 0, 1, 0]) (y := CA Try.f82 [1, 1, 0, 1, 0, 0, 1, 1, 0, 0, 1, 1]) (by kernel_rfl) ?_
  refine gi_pln (id := 5) (ops := RA Try.f82 [1, 1, 0, 1, 0, 0, 1, 1, 0, 0, 1, 0]) [0, 1, 2] (by kernel_rfl) (by kernel_rfl) (by kernel_rfl) ?_
  refine plain_batch (rest := [1, 2]) [⟨0, [], none⟩] (l' := ([(16, .int .u32 gn), (0, .func (Fn.func 83) #[] #[.pointer (some ⟨b, 0, none⟩)]), (1, .slice (some ⟨r, 0, none⟩) 1 1), (4, .int .u32 0), (5, .int .i64 0), (6, .int .u32 0), (8, .int .u32 gn), (10, .slice (some ⟨r, 0, none⟩) 1 1), (11, .int .i64 1), (12, .int .i64 0), (13, .bool true)] : Fr) ++ lr5) (pts' := []) (eqs := []) (by kernel_rfl) trivial (AllC_nil _) ?_
  refine plain_act (i := 1) (by kernel_rfl) ?_
  refine an_call (d := some 17) (f := 56) (args := [.int .u32 gn]) (by kernel_rfl) Try.call56 (gcheck_no gn (by omega)) (F := [Cl b [.int .u32 gn] 22, Cl r [.int .u32 gn] 22, R]) h0 ?_
  rintro v K w6 (⟨rfl, rfl⟩) h7
  refine ⟨_, rfl, ?_⟩
  have h8 : sat g w6 [Cl b [.int .u32 gn] 22, Cl r [.int .u32 gn] 22, R] := h7
  refine plain_batch (rest := []) [⟨2, [], none⟩] (l' := ([(9, .int .i64 2), (17, .int .i64 2), (16, .int .u32 gn), (0, .func (Fn.func 83) #[] #[.pointer (some ⟨b, 0, none⟩)]), (1, .slice (some ⟨r, 0, none⟩) 1 1), (4, .int .u32 0), (5, .int .i64 0), (6, .int .u32 0), (8, .int .u32 gn), (10, .slice (some ⟨r, 0, none⟩) 1 1), (11, .int .i64 1), (12, .int .i64 0), (13, .bool true)] : Fr) ++ lr5) (pts' := []) (eqs := []) (by kernel_rfl) trivial (AllC_nil _) ?_
  refine PO.mk ?_
  change WP _ _ (CA Try.f82 [1, 1, 0, 1, 0, 0, 1, 1, 0, 0, 1, 1]) _ _ _
  refine fk_cut ([(0, .func (Fn.func 83) #[] #[.pointer (some ⟨b, 0, none⟩)]), (1, .slice (some ⟨r, 0, none⟩) 1 1), (4, .int .u32 0), (5, .int .i64 0), (6, .int .u32 0), (8, .int .u32 gn), (9, .int .i64 2), (10, .slice (some ⟨r, 0, none⟩) 1 1), (11, .int .i64 1), (12, .int .i64 0), (13, .bool true)] : Fr) (by kernel_rfl) (fun a => WP _ _ _ _ a _) (fun lr9 => ?_)
  refine gi_seq (x := CA Try.f82 [1, 1, 0, 1, 0, 0, 1, 1, 0, 0, 1, 1, 0]) (y := CA Try.f82 [1, 1, 0, 1, 0, 0, 1, 1, 0, 0, 1, 1, 1]) (by kernel_rfl) ?_
  refine gi_pln (id := 6) (ops := RA Try.f82 [1, 1, 0, 1, 0, 0, 1, 1, 0, 0, 1, 1, 0]) [0, 1] (by kernel_rfl) (by kernel_rfl) (by kernel_rfl) ?_
  refine plain_batch (rest := []) [⟨0, [], none⟩, ⟨1, [], none⟩] (l' := ([(19, .bool true), (18, .int .i64 2), (0, .func (Fn.func 83) #[] #[.pointer (some ⟨b, 0, none⟩)]), (1, .slice (some ⟨r, 0, none⟩) 1 1), (4, .int .u32 0), (5, .int .i64 0), (6, .int .u32 0), (8, .int .u32 gn), (9, .int .i64 2), (10, .slice (some ⟨r, 0, none⟩) 1 1), (11, .int .i64 1), (12, .int .i64 0), (13, .bool true)] : Fr) ++ lr9) (pts' := []) (eqs := []) (by kernel_rfl) trivial (AllC_nil _) ?_
  refine PO.mk ?_
  change WP _ _ (CA Try.f82 [1, 1, 0, 1, 0, 0, 1, 1, 0, 0, 1, 1, 1]) _ _ _
  refine fk_cut ([(0, .func (Fn.func 83) #[] #[.pointer (some ⟨b, 0, none⟩)]), (1, .slice (some ⟨r, 0, none⟩) 1 1), (4, .int .u32 0), (5, .int .i64 0), (6, .int .u32 0), (8, .int .u32 gn), (9, .int .i64 2), (10, .slice (some ⟨r, 0, none⟩) 1 1), (11, .int .i64 1), (12, .int .i64 0), (13, .bool true), (19, .bool true)] : Fr) (by kernel_rfl) (fun a => WP _ _ _ _ a _) (fun lr10 => ?_)
  refine gi_cnd (x := (Operand.tmp 19)) (s := CA Try.f82 [1, 1, 0, 1, 0, 0, 1, 1, 0, 0, 1, 1, 1, 0]) (t := CA Try.f82 [1, 1, 0, 1, 0, 0, 1, 1, 0, 0, 1, 1, 1, 1]) true (by kernel_rfl) (by kernel_rfl) ?_
  change WP _ _ (CA Try.f82 [1, 1, 0, 1, 0, 0, 1, 1, 0, 0, 1, 1, 1, 0]) _ _ _
  refine gi_seq (x := CA Try.f82 [1, 1, 0, 1, 0, 0, 1, 1, 0, 0, 1, 1, 1, 0, 0]) (y := CA Try.f82 [1, 1, 0, 1, 0, 0, 1, 1, 0, 0, 1, 1, 1, 0, 1]) (by kernel_rfl) ?_
  refine gi_pln (id := 7) (ops := RA Try.f82 [1, 1, 0, 1, 0, 0, 1, 1, 0, 0, 1, 1, 1, 0, 0]) [0, 1, 2, 3] (by kernel_rfl) (by kernel_rfl) (by kernel_rfl) ?_
  refine plain_batch (rest := []) [⟨0, [], none⟩, ⟨1, [], none⟩, ⟨2, [], none⟩, ⟨3, [], none⟩] (l' := ([(5, .int .i64 2), (4, .int .u32 0), (21, .int .i64 2), (20, .int .u32 0), (0, .func (Fn.func 83) #[] #[.pointer (some ⟨b, 0, none⟩)]), (1, .slice (some ⟨r, 0, none⟩) 1 1), (4, .int .u32 0), (5, .int .i64 0), (6, .int .u32 0), (8, .int .u32 gn), (9, .int .i64 2), (10, .slice (some ⟨r, 0, none⟩) 1 1), (11, .int .i64 1), (12, .int .i64 0), (13, .bool true), (19, .bool true)] : Fr) ++ lr10) (pts' := []) (eqs := []) (by kernel_rfl) trivial (AllC_nil _) ?_
  refine PO.mk ?_
  change WP _ _ (CA Try.f82 [1, 1, 0, 1, 0, 0, 1, 1, 0, 0, 1, 1, 1, 0, 1]) _ _ _
  refine fk_cut ([(0, .func (Fn.func 83) #[] #[.pointer (some ⟨b, 0, none⟩)]), (1, .slice (some ⟨r, 0, none⟩) 1 1), (4, .int .u32 0), (5, .int .i64 2), (6, .int .u32 0), (8, .int .u32 gn), (9, .int .i64 2), (10, .slice (some ⟨r, 0, none⟩) 1 1), (11, .int .i64 1), (12, .int .i64 0), (13, .bool true), (19, .bool true)] : Fr) (by kernel_rfl) (fun a => WP _ _ _ _ a _) (fun lr11 => ?_)
  refine gi_rt (by kernel_rfl) ?_
  repeat (first | simp only [Exit.inBlock] | simp only [Exit.then])
  refine hi_out [] (.tuple #[.int .u32 0, .int .i64 2]) [] (by kernel_rfl) (by intro q hq; cases hq) ?_
  exact ⟨.tuple #[.int .u32 0, .int .i64 2], [Cl b [.int .u32 gn] 22, Cl r [.int .u32 gn] 22], rfl, ⟨rfl, rfl⟩, h8⟩

set_option maxHeartbeats 4000000 in
theorem gleft_ok (gn : Int) (hg1 : 1 ≤ gn) (hg : gn ≤ 4294967295) : HT Try.prog 80 [Value.int IntKind.u32 gn] [] (fun v K => v = Value.tuple #[Value.int IntKind.u32 (-gn + 4294967295), Value.int IntKind.i64 0] ∧ K = []) := by
  refine hi_in 10 ([(0, .int .u32 gn)] : Fr) Try.func80 (by kernel_rfl) Try.ntmps80 rfl rfl ?_
  intro g w0 R h0
  refine gi_seq (x := CA Try.f80 [0]) (y := CA Try.f80 [1]) (by kernel_rfl) ?_
  refine gi_pln (id := 0) (ops := RA Try.f80 [0]) [0, 1, 2] (by kernel_rfl) (by kernel_rfl) (by kernel_rfl) ?_
  refine plain_act (i := 0) (by kernel_rfl) ?_
  refine an_new (d := 1) (fun xb_ => .pointer (some ⟨xb_, 0, none⟩)) (fun xb_ => Obj.cells [.int .u32 gn].toArray 22 (0, 0)) (fun xb_ => by kernel_rfl) (by kernel_rfl) rfl h0 ?_
  intro r1 w2 (h3 : sat g w2 [Cl r1 [.int .u32 gn] 22, R])
  refine plain_batch (rest := []) [⟨1, [], none⟩, ⟨2, [], none⟩] (l' := ([(3, .int .i64 0), (2, .int .u32 0), (1, .pointer (some ⟨r1, 0, none⟩)), (0, .int .u32 gn)] : Fr)) (pts' := []) (eqs := []) (by kernel_rfl) trivial (AllC_nil _) ?_
  refine PO.mk ?_
  change WP _ _ (CA Try.f80 [1]) _ _ _
  refine fk_cut ([(0, .int .u32 gn), (1, .pointer (some ⟨r1, 0, none⟩)), (2, .int .u32 0), (3, .int .i64 0)] : Fr) (by kernel_rfl) (fun a => WP _ _ _ _ a _) (fun lr4 => ?_)
  refine gi_seq (x := CA Try.f80 [1, 0]) (y := CA Try.f80 [1, 1]) (by kernel_rfl) ?_
  refine gi_pln (id := 1) (ops := RA Try.f80 [1, 0]) [0, 1, 2, 3, 4, 5, 6, 7] (by kernel_rfl) (by kernel_rfl) (by kernel_rfl) ?_
  refine plain_batch (rest := [2, 3, 4, 5, 6, 7]) [⟨0, [], none⟩, ⟨1, [.int .u32 gn], none⟩] (l' := ([(5, .int .u32 gn), (4, .func (Fn.func 83) #[] #[.pointer (some ⟨r1, 0, none⟩)]), (0, .int .u32 gn), (1, .pointer (some ⟨r1, 0, none⟩)), (2, .int .u32 0), (3, .int .i64 0)] : Fr) ++ lr4) (pts' := [(1, ⟨r1, 0, none⟩, .int .u32 gn)]) (eqs := []) (by kernel_rfl) trivial (AllC_cons (sat_cell h3 0 rfl rfl) (AllC_nil _)) ?_
  refine plain_act (i := 2) (by kernel_rfl) ?_
  refine an_new (d := 6) (fun xb_ => .slice (some ⟨xb_, 0, none⟩) 1 1) (fun xb_ => Obj.cells [.int .u32 gn].toArray 22 (0, 0)) (fun xb_ => by kernel_rfl) (by kernel_rfl) rfl h3 ?_
  intro r5 w6 (h7 : sat g w6 [Cl r5 [.int .u32 gn] 22, Cl r1 [.int .u32 gn] 22, R])
  have h8 : sat g w6 [Cl r1 [.int .u32 gn] 22, Cl r5 [.int .u32 gn] 22, R] := sat_sel [1, 0, 2] rfl h7
  refine plain_act (i := 3) (by kernel_rfl) ?_
  refine an_call (d := some 7) (f := 82) (args := [.func (Fn.func 83) #[] #[.pointer (some ⟨r1, 0, none⟩)], .slice (some ⟨r5, 0, none⟩) 1 1]) (by kernel_rfl) Try.call82 (of_ok r1 r5 gn (by omega) (by omega)) (F := [R]) h8 ?_
  rintro v K w9 (⟨rfl, rfl⟩) h10
  refine ⟨_, rfl, ?_⟩
  have h11 : sat g w9 [Cl r1 [.int .u32 gn] 22, Cl r5 [.int .u32 gn] 22, R] := h10
  refine plain_batch (rest := []) [⟨4, [], none⟩, ⟨5, [], none⟩, ⟨6, [], none⟩, ⟨7, [], none⟩] (l' := ([(3, .int .i64 0), (2, .int .u32 (-gn + 4294967295)), (9, .int .i64 0), (8, .int .u32 (-gn + 4294967295)), (7, .tuple #[.int .u32 (-gn + 4294967295), .int .i64 0]), (6, .slice (some ⟨r5, 0, none⟩) 1 1), (5, .int .u32 gn), (4, .func (Fn.func 83) #[] #[.pointer (some ⟨r1, 0, none⟩)]), (0, .int .u32 gn), (1, .pointer (some ⟨r1, 0, none⟩)), (2, .int .u32 0), (3, .int .i64 0)] : Fr) ++ lr4) (pts' := []) (eqs := []) (by kernel_rfl) trivial (AllC_nil _) ?_
  refine PO.mk ?_
  change WP _ _ (CA Try.f80 [1, 1]) _ _ _
  refine fk_cut ([(0, .int .u32 gn), (1, .pointer (some ⟨r1, 0, none⟩)), (2, .int .u32 (-gn + 4294967295)), (3, .int .i64 0)] : Fr) (by kernel_rfl) (fun a => WP _ _ _ _ a _) (fun lr12 => ?_)
  refine gi_rt (by kernel_rfl) ?_
  repeat (first | simp only [Exit.inBlock] | simp only [Exit.then])
  have h13 : sat g w9 [R] := sat_sel [2] rfl h11
  refine hi_out [] (.tuple #[.int .u32 (-gn + 4294967295), .int .i64 0]) [] (by kernel_rfl) (by intro q hq; cases hq) ?_
  exact ⟨.tuple #[.int .u32 (-gn + 4294967295), .int .i64 0], [], rfl, ⟨rfl, rfl⟩, h13⟩

set_option maxHeartbeats 4000000 in
theorem gleft_no (gn : Int) (hg0 : gn ≤ 0) : HT Try.prog 80 [Value.int IntKind.u32 gn] [] (fun v K => v = Value.tuple #[Value.int IntKind.u32 0, Value.int IntKind.i64 2] ∧ K = []) := by
  refine hi_in 10 ([(0, .int .u32 gn)] : Fr) Try.func80 (by kernel_rfl) Try.ntmps80 rfl rfl ?_
  intro g w0 R h0
  refine gi_seq (x := CA Try.f80 [0]) (y := CA Try.f80 [1]) (by kernel_rfl) ?_
  refine gi_pln (id := 0) (ops := RA Try.f80 [0]) [0, 1, 2] (by kernel_rfl) (by kernel_rfl) (by kernel_rfl) ?_
  refine plain_act (i := 0) (by kernel_rfl) ?_
  refine an_new (d := 1) (fun xb_ => .pointer (some ⟨xb_, 0, none⟩)) (fun xb_ => Obj.cells [.int .u32 gn].toArray 22 (0, 0)) (fun xb_ => by kernel_rfl) (by kernel_rfl) rfl h0 ?_
  intro r1 w2 (h3 : sat g w2 [Cl r1 [.int .u32 gn] 22, R])
  refine plain_batch (rest := []) [⟨1, [], none⟩, ⟨2, [], none⟩] (l' := ([(3, .int .i64 0), (2, .int .u32 0), (1, .pointer (some ⟨r1, 0, none⟩)), (0, .int .u32 gn)] : Fr)) (pts' := []) (eqs := []) (by kernel_rfl) trivial (AllC_nil _) ?_
  refine PO.mk ?_
  change WP _ _ (CA Try.f80 [1]) _ _ _
  refine fk_cut ([(0, .int .u32 gn), (1, .pointer (some ⟨r1, 0, none⟩)), (2, .int .u32 0), (3, .int .i64 0)] : Fr) (by kernel_rfl) (fun a => WP _ _ _ _ a _) (fun lr4 => ?_)
  refine gi_seq (x := CA Try.f80 [1, 0]) (y := CA Try.f80 [1, 1]) (by kernel_rfl) ?_
  refine gi_pln (id := 1) (ops := RA Try.f80 [1, 0]) [0, 1, 2, 3, 4, 5, 6, 7] (by kernel_rfl) (by kernel_rfl) (by kernel_rfl) ?_
  refine plain_batch (rest := [2, 3, 4, 5, 6, 7]) [⟨0, [], none⟩, ⟨1, [.int .u32 gn], none⟩] (l' := ([(5, .int .u32 gn), (4, .func (Fn.func 83) #[] #[.pointer (some ⟨r1, 0, none⟩)]), (0, .int .u32 gn), (1, .pointer (some ⟨r1, 0, none⟩)), (2, .int .u32 0), (3, .int .i64 0)] : Fr) ++ lr4) (pts' := [(1, ⟨r1, 0, none⟩, .int .u32 gn)]) (eqs := []) (by kernel_rfl) trivial (AllC_cons (sat_cell h3 0 rfl rfl) (AllC_nil _)) ?_
  refine plain_act (i := 2) (by kernel_rfl) ?_
  refine an_new (d := 6) (fun xb_ => .slice (some ⟨xb_, 0, none⟩) 1 1) (fun xb_ => Obj.cells [.int .u32 gn].toArray 22 (0, 0)) (fun xb_ => by kernel_rfl) (by kernel_rfl) rfl h3 ?_
  intro r5 w6 (h7 : sat g w6 [Cl r5 [.int .u32 gn] 22, Cl r1 [.int .u32 gn] 22, R])
  have h8 : sat g w6 [Cl r1 [.int .u32 gn] 22, Cl r5 [.int .u32 gn] 22, R] := sat_sel [1, 0, 2] rfl h7
  refine plain_act (i := 3) (by kernel_rfl) ?_
  refine an_call (d := some 7) (f := 82) (args := [.func (Fn.func 83) #[] #[.pointer (some ⟨r1, 0, none⟩)], .slice (some ⟨r5, 0, none⟩) 1 1]) (by kernel_rfl) Try.call82 (of_no r1 r5 gn (by omega)) (F := [R]) h8 ?_
  rintro v K w9 (⟨rfl, rfl⟩) h10
  refine ⟨_, rfl, ?_⟩
  have h11 : sat g w9 [Cl r1 [.int .u32 gn] 22, Cl r5 [.int .u32 gn] 22, R] := h10
  refine plain_batch (rest := []) [⟨4, [], none⟩, ⟨5, [], none⟩, ⟨6, [], none⟩, ⟨7, [], none⟩] (l' := ([(3, .int .i64 2), (2, .int .u32 0), (9, .int .i64 2), (8, .int .u32 0), (7, .tuple #[.int .u32 0, .int .i64 2]), (6, .slice (some ⟨r5, 0, none⟩) 1 1), (5, .int .u32 gn), (4, .func (Fn.func 83) #[] #[.pointer (some ⟨r1, 0, none⟩)]), (0, .int .u32 gn), (1, .pointer (some ⟨r1, 0, none⟩)), (2, .int .u32 0), (3, .int .i64 0)] : Fr) ++ lr4) (pts' := []) (eqs := []) (by kernel_rfl) trivial (AllC_nil _) ?_
  refine PO.mk ?_
  change WP _ _ (CA Try.f80 [1, 1]) _ _ _
  refine fk_cut ([(0, .int .u32 gn), (1, .pointer (some ⟨r1, 0, none⟩)), (2, .int .u32 0), (3, .int .i64 2)] : Fr) (by kernel_rfl) (fun a => WP _ _ _ _ a _) (fun lr12 => ?_)
  refine gi_rt (by kernel_rfl) ?_
  repeat (first | simp only [Exit.inBlock] | simp only [Exit.then])
  have h13 : sat g w9 [R] := sat_sel [2] rfl h11
  refine hi_out [] (.tuple #[.int .u32 0, .int .i64 2]) [] (by kernel_rfl) (by intro q hq; cases hq) ?_
  exact ⟨.tuple #[.int .u32 0, .int .i64 2], [], rfl, ⟨rfl, rfl⟩, h13⟩

set_option maxHeartbeats 4000000 in
theorem after_ok (gn : Int) (hg1 : 1 ≤ gn) (hg : gn < 4294967295) : HT Try.prog 74 [Value.int IntKind.u32 gn, Value.int IntKind.u64 1] [] (fun v K => v = Value.tuple #[Value.int IntKind.u32 (gn + 1), Value.bool true, Value.int IntKind.i64 0] ∧ K = []) := by
  refine hi_in 27 ([(0, .int .u32 gn), (1, .int .u64 1)] : Fr) Try.func74 (by kernel_rfl) Try.ntmps74 rfl rfl ?_
  intro g w0 R h0
  refine gi_seq (x := CA Try.f74 [0]) (y := CA Try.f74 [1]) (by kernel_rfl) ?_
  refine gi_pln (id := 0) (ops := RA Try.f74 [0]) [0, 1, 2] (by kernel_rfl) (by kernel_rfl) (by kernel_rfl) ?_
  refine plain_batch (rest := []) [⟨0, [], none⟩, ⟨1, [], none⟩, ⟨2, [], none⟩] (l' := ([(6, .int .i64 0), (5, .bool false), (4, .int .u32 0), (0, .int .u32 gn), (1, .int .u64 1)] : Fr)) (pts' := []) (eqs := []) (by kernel_rfl) trivial (AllC_nil _) ?_
  refine PO.mk ?_
  change WP _ _ (CA Try.f74 [1]) _ _ _
  refine fk_cut ([(0, .int .u32 gn), (1, .int .u64 1), (4, .int .u32 0), (5, .bool false), (6, .int .i64 0)] : Fr) (by kernel_rfl) (fun a => WP _ _ _ _ a _) (fun lr1 => ?_)
  refine gi_seq (x := CA Try.f74 [1, 0]) (y := CA Try.f74 [1, 1]) (by kernel_rfl) ?_
  refine gi_pln (id := 1) (ops := RA Try.f74 [1, 0]) [0, 1, 2, 3, 4, 5, 6] (by kernel_rfl) (by kernel_rfl) (by kernel_rfl) ?_
  refine plain_batch (rest := [1, 2, 3, 4, 5, 6]) [⟨0, [], none⟩] (l' := ([(10, .int .u32 gn), (0, .int .u32 gn), (1, .int .u64 1), (4, .int .u32 0), (5, .bool false), (6, .int .i64 0)] : Fr) ++ lr1) (pts' := []) (eqs := []) (by kernel_rfl) trivial (AllC_nil _) ?_
  refine plain_act (i := 1) (by kernel_rfl) ?_
  refine an_call (d := some 11) (f := 80) (args := [.int .u32 gn]) (by kernel_rfl) Try.call80 (gleft_ok gn (by omega) (by omega)) (F := [R]) h0 ?_
  rintro v K w2 (⟨rfl, rfl⟩) h3
  refine ⟨_, rfl, ?_⟩
  have h4 : sat g w2 [R] := h3
  refine plain_batch (rest := []) [⟨2, [], none⟩, ⟨3, [], none⟩, ⟨4, [], none⟩, ⟨5, [], none⟩, ⟨6, [], none⟩] (l' := ([(8, .int .i64 0), (7, .int .u32 (-gn + 4294967295)), (13, .int .i64 0), (12, .int .u32 (-gn + 4294967295)), (9, .tuple #[.int .u32 (-gn + 4294967295), .int .i64 0]), (11, .tuple #[.int .u32 (-gn + 4294967295), .int .i64 0]), (10, .int .u32 gn), (0, .int .u32 gn), (1, .int .u64 1), (4, .int .u32 0), (5, .bool false), (6, .int .i64 0)] : Fr) ++ lr1) (pts' := []) (eqs := []) (by kernel_rfl) trivial (AllC_nil _) ?_
  refine PO.mk ?_
  change WP _ _ (CA Try.f74 [1, 1]) _ _ _
  refine fk_cut ([(0, .int .u32 gn), (1, .int .u64 1), (4, .int .u32 0), (5, .bool false), (6, .int .i64 0), (7, .int .u32 (-gn + 4294967295)), (8, .int .i64 0)] : Fr) (by kernel_rfl) (fun a => WP _ _ _ _ a _) (fun lr5 => ?_)
  refine gi_seq (x := CA Try.f74 [1, 1, 0]) (y := CA Try.f74 [1, 1, 1]) (by kernel_rfl) ?_
  refine gi_seq (x := CA Try.f74 [1, 1, 0, 0]) (y := CA Try.f74 [1, 1, 0, 1]) (by kernel_rfl) ?_
  refine gi_pln (id := 2) (ops := RA Try.f74 [1, 1, 0, 0]) [0, 1, 2, 3, 4, 5, 6, 7] (by kernel_rfl) (by kernel_rfl) (by kernel_rfl) ?_
  refine plain_batch (rest := []) [⟨0, [], none⟩, ⟨1, [], none⟩, ⟨2, [], none⟩, ⟨3, [], none⟩, ⟨4, [], none⟩, ⟨5, [], some (.int .u64 (-gn + 4294967295))⟩, ⟨6, [], some (.bool false)⟩, ⟨7, [], none⟩] (l' := ([(21, .bool false), (20, .bool false), (19, .int .u64 (-gn + 4294967295)), (18, .int .u32 (-gn + 4294967295)), (17, .int .u64 1), (16, .bool false), (15, .bool false), (14, .int .i64 0), (0, .int .u32 gn), (1, .int .u64 1), (4, .int .u32 0), (5, .bool false), (6, .int .i64 0), (7, .int .u32 (-gn + 4294967295)), (8, .int .i64 0)] : Fr) ++ lr5) (pts' := []) (eqs := [(.int .u64 (IntKind.wrap .u64 (-gn + 4294967295)), .int .u64 (-gn + 4294967295)), (.bool (decide (1 > -gn + 4294967295)), .bool false)]) (by kernel_rfl) ⟨(ov_u64 rfl (by omega) (by omega)), (ov_f (by omega)), trivial⟩ (AllC_nil _) ?_
  refine PO.mk ?_
  change WP _ _ (CA Try.f74 [1, 1, 0, 1]) _ _ _
  refine fk_cut ([(0, .int .u32 gn), (1, .int .u64 1), (4, .int .u32 0), (5, .bool false), (6, .int .i64 0), (7, .int .u32 (-gn + 4294967295)), (8, .int .i64 0), (21, .bool false)] : Fr) (by kernel_rfl) (fun a => WP _ _ _ _ a _) (fun lr6 => ?_)
  refine gi_cnd (x := (Operand.tmp 21)) (s := CA Try.f74 [1, 1, 0, 1, 0]) (t := CA Try.f74 [1, 1, 0, 1, 1]) false (by kernel_rfl) (by kernel_rfl) ?_
  change WP _ _ (CA Try.f74 [1, 1, 0, 1, 1]) _ _ _
  refine gi_skp (by kernel_rfl) ?_
  change WP _ _ (CA Try.f74 [1, 1, 1]) _ _ _
  refine gi_seq (x := CA Try.f74 [1, 1, 1, 0]) (y := CA Try.f74 [1, 1, 1, 1]) (by kernel_rfl) ?_
  refine gi_pln (id := 4) (ops := RA Try.f74 [1, 1, 1, 0]) [0, 1, 2, 3, 4, 5, 6] (by kernel_rfl) (by kernel_rfl) (by kernel_rfl) ?_
  refine plain_batch (rest := []) [⟨0, [], none⟩, ⟨1, [], none⟩, ⟨2, [], some (.int .u32 1)⟩, ⟨3, [], some (.int .u32 (gn + 1))⟩, ⟨4, [], none⟩, ⟨5, [], none⟩, ⟨6, [], none⟩] (l' := ([(6, .int .i64 0), (5, .bool true), (4, .int .u32 (gn + 1)), (26, .int .u32 (gn + 1)), (25, .int .u32 1), (24, .int .u64 1), (23, .int .u32 gn), (0, .int .u32 gn), (1, .int .u64 1), (4, .int .u32 0), (5, .bool false), (6, .int .i64 0), (7, .int .u32 (-gn + 4294967295)), (8, .int .i64 0), (21, .bool false)] : Fr) ++ lr6) (pts' := []) (eqs := [(.int .u32 (IntKind.wrap .u32 1), .int .u32 1), (.int .u32 (IntKind.wrap .u32 (gn + 1)), .int .u32 (gn + 1))]) (by kernel_rfl) ⟨(ov_u32 rfl (by omega) (by omega)), (ov_u32 (by omega) (by omega) (by omega)), trivial⟩ (AllC_nil _) ?_
  refine PO.mk ?_
  change WP _ _ (CA Try.f74 [1, 1, 1, 1]) _ _ _
  refine fk_cut ([(0, .int .u32 gn), (1, .int .u64 1), (4, .int .u32 (gn + 1)), (5, .bool true), (6, .int .i64 0), (7, .int .u32 (-gn + 4294967295)), (8, .int .i64 0), (21, .bool false)] : Fr) (by kernel_rfl) (fun a => WP _ _ _ _ a _) (fun lr7 => ?_)
  refine gi_rt (by kernel_rfl) ?_
  repeat (first | simp only [Exit.inBlock] | simp only [Exit.then])
  refine hi_out [] (.tuple #[.int .u32 (gn + 1), .bool true, .int .i64 0]) [] (by kernel_rfl) (by intro q hq; cases hq) ?_
  exact ⟨.tuple #[.int .u32 (gn + 1), .bool true, .int .i64 0], [], rfl, ⟨rfl, rfl⟩, h4⟩

set_option maxHeartbeats 4000000 in
theorem after_no (gn : Int) (hg : gn = 4294967295) : HT Try.prog 74 [Value.int IntKind.u32 gn, Value.int IntKind.u64 1] [] (fun v K => v = Value.tuple #[Value.int IntKind.u32 0, Value.bool false, Value.int IntKind.i64 0] ∧ K = []) := by
  refine hi_in 27 ([(0, .int .u32 gn), (1, .int .u64 1)] : Fr) Try.func74 (by kernel_rfl) Try.ntmps74 rfl rfl ?_
  intro g w0 R h0
  refine gi_seq (x := CA Try.f74 [0]) (y := CA Try.f74 [1]) (by kernel_rfl) ?_
  refine gi_pln (id := 0) (ops := RA Try.f74 [0]) [0, 1, 2] (by kernel_rfl) (by kernel_rfl) (by kernel_rfl) ?_
  refine plain_batch (rest := []) [⟨0, [], none⟩, ⟨1, [], none⟩, ⟨2, [], none⟩] (l' := ([(6, .int .i64 0), (5, .bool false), (4, .int .u32 0), (0, .int .u32 gn), (1, .int .u64 1)] : Fr)) (pts' := []) (eqs := []) (by kernel_rfl) trivial (AllC_nil _) ?_
  refine PO.mk ?_
  change WP _ _ (CA Try.f74 [1]) _ _ _
  refine fk_cut ([(0, .int .u32 gn), (1, .int .u64 1), (4, .int .u32 0), (5, .bool false), (6, .int .i64 0)] : Fr) (by kernel_rfl) (fun a => WP _ _ _ _ a _) (fun lr1 => ?_)
  refine gi_seq (x := CA Try.f74 [1, 0]) (y := CA Try.f74 [1, 1]) (by kernel_rfl) ?_
  refine gi_pln (id := 1) (ops := RA Try.f74 [1, 0]) [0, 1, 2, 3, 4, 5, 6] (by kernel_rfl) (by kernel_rfl) (by kernel_rfl) ?_
  refine plain_batch (rest := [1, 2, 3, 4, 5, 6]) [⟨0, [], none⟩] (l' := ([(10, .int .u32 gn), (0, .int .u32 gn), (1, .int .u64 1), (4, .int .u32 0), (5, .bool false), (6, .int .i64 0)] : Fr) ++ lr1) (pts' := []) (eqs := []) (by kernel_rfl) trivial (AllC_nil _) ?_
  refine plain_act (i := 1) (by kernel_rfl) ?_
  refine an_call (d := some 11) (f := 80) (args := [.int .u32 gn]) (by kernel_rfl) Try.call80 (gleft_ok gn (by omega) (by omega)) (F := [R]) h0 ?_
  rintro v K w2 (⟨rfl, rfl⟩) h3
  refine ⟨_, rfl, ?_⟩
  have h4 : sat g w2 [R] := h3
  refine plain_batch (rest := []) [⟨2, [], none⟩, ⟨3, [], none⟩, ⟨4, [], none⟩, ⟨5, [], none⟩, ⟨6, [], none⟩] (l' := ([(8, .int .i64 0), (7, .int .u32 (-gn + 4294967295)), (13, .int .i64 0), (12, .int .u32 (-gn + 4294967295)), (9, .tuple #[.int .u32 (-gn + 4294967295), .int .i64 0]), (11, .tuple #[.int .u32 (-gn + 4294967295), .int .i64 0]), (10, .int .u32 gn), (0, .int .u32 gn), (1, .int .u64 1), (4, .int .u32 0), (5, .bool false), (6, .int .i64 0)] : Fr) ++ lr1) (pts' := []) (eqs := []) (by kernel_rfl) trivial (AllC_nil _) ?_
  refine PO.mk ?_
  change WP _ _ (CA Try.f74 [1, 1]) _ _ _
  refine fk_cut ([(0, .int .u32 gn), (1, .int .u64 1), (4, .int .u32 0), (5, .bool false), (6, .int .i64 0), (7, .int .u32 (-gn + 4294967295)), (8, .int .i64 0)] : Fr) (by kernel_rfl) (fun a => WP _ _ _ _ a _) (fun lr5 => ?_)
  refine gi_seq (x := CA Try.f74 [1, 1, 0]) (y := CA Try.f74 [1, 1, 1]) (by kernel_rfl) ?_
  refine gi_seq (x := CA Try.f74 [1, 1, 0, 0]) (y := CA Try.f74 [1, 1, 0, 1]) (by kernel_rfl) ?_
  refine gi_pln (id := 2) (ops := RA Try.f74 [1, 1, 0, 0]) [0, 1, 2, 3, 4, 5, 6, 7] (by kernel_rfl) (by kernel_rfl) (by kernel_rfl) ?_
  refine plain_batch (rest := []) [⟨0, [], none⟩, ⟨1, [], none⟩, ⟨2, [], none⟩, ⟨3, [], none⟩, ⟨4, [], none⟩, ⟨5, [], some (.int .u64 (-gn + 4294967295))⟩, ⟨6, [], some (.bool true)⟩, ⟨7, [], none⟩] (l' := ([(21, .bool true), (20, .bool true), (19, .int .u64 (-gn + 4294967295)), (18, .int .u32 (-gn + 4294967295)), (17, .int .u64 1), (16, .bool false), (15, .bool false), (14, .int .i64 0), (0, .int .u32 gn), (1, .int .u64 1), (4, .int .u32 0), (5, .bool false), (6, .int .i64 0), (7, .int .u32 (-gn + 4294967295)), (8, .int .i64 0)] : Fr) ++ lr5) (pts' := []) (eqs := [(.int .u64 (IntKind.wrap .u64 (-gn + 4294967295)), .int .u64 (-gn + 4294967295)), (.bool (decide (1 > -gn + 4294967295)), .bool true)]) (by kernel_rfl) ⟨(ov_u64 rfl (by omega) (by omega)), (ov_t (by omega)), trivial⟩ (AllC_nil _) ?_
  refine PO.mk ?_
  change WP _ _ (CA Try.f74 [1, 1, 0, 1]) _ _ _
  refine fk_cut ([(0, .int .u32 gn), (1, .int .u64 1), (4, .int .u32 0), (5, .bool false), (6, .int .i64 0), (7, .int .u32 (-gn + 4294967295)), (8, .int .i64 0), (21, .bool true)] : Fr) (by kernel_rfl) (fun a => WP _ _ _ _ a _) (fun lr6 => ?_)
  refine gi_cnd (x := (Operand.tmp 21)) (s := CA Try.f74 [1, 1, 0, 1, 0]) (t := CA Try.f74 [1, 1, 0, 1, 1]) true (by kernel_rfl) (by kernel_rfl) ?_
  change WP _ _ (CA Try.f74 [1, 1, 0, 1, 0]) _ _ _
  refine gi_seq (x := CA Try.f74 [1, 1, 0, 1, 0, 0]) (y := CA Try.f74 [1, 1, 0, 1, 0, 1]) (by kernel_rfl) ?_
  refine gi_pln (id := 3) (ops := RA Try.f74 [1, 1, 0, 1, 0, 0]) [0, 1, 2, 3] (by kernel_rfl) (by kernel_rfl) (by kernel_rfl) ?_
  refine plain_batch (rest := []) [⟨0, [], none⟩, ⟨1, [], none⟩, ⟨2, [], none⟩, ⟨3, [], none⟩] (l' := ([(6, .int .i64 0), (5, .bool false), (4, .int .u32 0), (22, .int .i64 0), (0, .int .u32 gn), (1, .int .u64 1), (4, .int .u32 0), (5, .bool false), (6, .int .i64 0), (7, .int .u32 (-gn + 4294967295)), (8, .int .i64 0), (21, .bool true)] : Fr) ++ lr6) (pts' := []) (eqs := []) (by kernel_rfl) trivial (AllC_nil _) ?_
  refine PO.mk ?_
  change WP _ _ (CA Try.f74 [1, 1, 0, 1, 0, 1]) _ _ _
  refine fk_cut ([(0, .int .u32 gn), (1, .int .u64 1), (4, .int .u32 0), (5, .bool false), (6, .int .i64 0), (7, .int .u32 (-gn + 4294967295)), (8, .int .i64 0), (21, .bool true)] : Fr) (by kernel_rfl) (fun a => WP _ _ _ _ a _) (fun lr7 => ?_)
  refine gi_rt (by kernel_rfl) ?_
  repeat (first | simp only [Exit.inBlock] | simp only [Exit.then])
  refine hi_out [] (.tuple #[.int .u32 0, .bool false, .int .i64 0]) [] (by kernel_rfl) (by intro q hq; cases hq) ?_
  exact ⟨.tuple #[.int .u32 0, .bool false, .int .i64 0], [], rfl, ⟨rfl, rfl⟩, h4⟩

set_option maxHeartbeats 4000000 in
theorem next_ok (gn : Int) (hg1 : 1 ≤ gn) (hg : gn < 4294967295) : HT Try.prog 55 [Value.int IntKind.u32 gn] [] (fun v K => v = Value.tuple #[Value.int IntKind.u32 (gn + 1), Value.bool true, Value.int IntKind.i64 0] ∧ K = []) := by
  refine hi_in 10 ([(0, .int .u32 gn)] : Fr) Try.func55 (by kernel_rfl) Try.ntmps55 rfl rfl ?_
  intro g w0 R h0
  refine gi_seq (x := CA Try.f55 [0]) (y := CA Try.f55 [1]) (by kernel_rfl) ?_
  refine gi_pln (id := 0) (ops := RA Try.f55 [0]) [0, 1, 2] (by kernel_rfl) (by kernel_rfl) (by kernel_rfl) ?_
  refine plain_batch (rest := []) [⟨0, [], none⟩, ⟨1, [], none⟩, ⟨2, [], none⟩] (l' := ([(4, .int .i64 0), (3, .bool false), (2, .int .u32 0), (0, .int .u32 gn)] : Fr)) (pts' := []) (eqs := []) (by kernel_rfl) trivial (AllC_nil _) ?_
  refine PO.mk ?_
  change WP _ _ (CA Try.f55 [1]) _ _ _
  refine fk_cut ([(0, .int .u32 gn), (2, .int .u32 0), (3, .bool false), (4, .int .i64 0)] : Fr) (by kernel_rfl) (fun a => WP _ _ _ _ a _) (fun lr1 => ?_)
  refine gi_seq (x := CA Try.f55 [1, 0]) (y := CA Try.f55 [1, 1]) (by kernel_rfl) ?_
  refine gi_pln (id := 1) (ops := RA Try.f55 [1, 0]) [0, 1, 2, 3, 4, 5, 6, 7] (by kernel_rfl) (by kernel_rfl) (by kernel_rfl) ?_
  refine plain_batch (rest := [1, 2, 3, 4, 5, 6, 7]) [⟨0, [], none⟩] (l' := ([(5, .int .u32 gn), (0, .int .u32 gn), (2, .int .u32 0), (3, .bool false), (4, .int .i64 0)] : Fr) ++ lr1) (pts' := []) (eqs := []) (by kernel_rfl) trivial (AllC_nil _) ?_
  refine plain_act (i := 1) (by kernel_rfl) ?_
  refine an_call (d := some 6) (f := 74) (args := [.int .u32 gn, .int .u64 1]) (by kernel_rfl) Try.call74 (after_ok gn (by omega) (by omega)) (F := [R]) h0 ?_
  rintro v K w2 (⟨rfl, rfl⟩) h3
  refine ⟨_, rfl, ?_⟩
  have h4 : sat g w2 [R] := h3
  refine plain_batch (rest := []) [⟨2, [], none⟩, ⟨3, [], none⟩, ⟨4, [], none⟩, ⟨5, [], none⟩, ⟨6, [], none⟩, ⟨7, [], none⟩] (l' := ([(4, .int .i64 0), (3, .bool true), (2, .int .u32 (gn + 1)), (9, .int .i64 0), (8, .bool true), (7, .int .u32 (gn + 1)), (6, .tuple #[.int .u32 (gn + 1), .bool true, .int .i64 0]), (5, .int .u32 gn), (0, .int .u32 gn), (2, .int .u32 0), (3, .bool false), (4, .int .i64 0)] : Fr) ++ lr1) (pts' := []) (eqs := []) (by kernel_rfl) trivial (AllC_nil _) ?_
  refine PO.mk ?_
  change WP _ _ (CA Try.f55 [1, 1]) _ _ _
  refine fk_cut ([(0, .int .u32 gn), (2, .int .u32 (gn + 1)), (3, .bool true), (4, .int .i64 0)] : Fr) (by kernel_rfl) (fun a => WP _ _ _ _ a _) (fun lr5 => ?_)
  refine gi_rt (by kernel_rfl) ?_
  repeat (first | simp only [Exit.inBlock] | simp only [Exit.then])
  refine hi_out [] (.tuple #[.int .u32 (gn + 1), .bool true, .int .i64 0]) [] (by kernel_rfl) (by intro q hq; cases hq) ?_
  exact ⟨.tuple #[.int .u32 (gn + 1), .bool true, .int .i64 0], [], rfl, ⟨rfl, rfl⟩, h4⟩

set_option maxHeartbeats 4000000 in
theorem next_no (gn : Int) (hg : gn = 4294967295) : HT Try.prog 55 [Value.int IntKind.u32 gn] [] (fun v K => v = Value.tuple #[Value.int IntKind.u32 0, Value.bool false, Value.int IntKind.i64 0] ∧ K = []) := by
  refine hi_in 10 ([(0, .int .u32 gn)] : Fr) Try.func55 (by kernel_rfl) Try.ntmps55 rfl rfl ?_
  intro g w0 R h0
  refine gi_seq (x := CA Try.f55 [0]) (y := CA Try.f55 [1]) (by kernel_rfl) ?_
  refine gi_pln (id := 0) (ops := RA Try.f55 [0]) [0, 1, 2] (by kernel_rfl) (by kernel_rfl) (by kernel_rfl) ?_
  refine plain_batch (rest := []) [⟨0, [], none⟩, ⟨1, [], none⟩, ⟨2, [], none⟩] (l' := ([(4, .int .i64 0), (3, .bool false), (2, .int .u32 0), (0, .int .u32 gn)] : Fr)) (pts' := []) (eqs := []) (by kernel_rfl) trivial (AllC_nil _) ?_
  refine PO.mk ?_
  change WP _ _ (CA Try.f55 [1]) _ _ _
  refine fk_cut ([(0, .int .u32 gn), (2, .int .u32 0), (3, .bool false), (4, .int .i64 0)] : Fr) (by kernel_rfl) (fun a => WP _ _ _ _ a _) (fun lr1 => ?_)
  refine gi_seq (x := CA Try.f55 [1, 0]) (y := CA Try.f55 [1, 1]) (by kernel_rfl) ?_
  refine gi_pln (id := 1) (ops := RA Try.f55 [1, 0]) [0, 1, 2, 3, 4, 5, 6, 7] (by kernel_rfl) (by kernel_rfl) (by kernel_rfl) ?_
  refine plain_batch (rest := [1, 2, 3, 4, 5, 6, 7]) [⟨0, [], none⟩] (l' := ([(5, .int .u32 gn), (0, .int .u32 gn), (2, .int .u32 0), (3, .bool false), (4, .int .i64 0)] : Fr) ++ lr1) (pts' := []) (eqs := []) (by kernel_rfl) trivial (AllC_nil _) ?_
  refine plain_act (i := 1) (by kernel_rfl) ?_
  refine an_call (d := some 6) (f := 74) (args := [.int .u32 gn, .int .u64 1]) (by kernel_rfl) Try.call74 (after_no gn (by omega)) (F := [R]) h0 ?_
  rintro v K w2 (⟨rfl, rfl⟩) h3
  refine ⟨_, rfl, ?_⟩
  have h4 : sat g w2 [R] := h3
  refine plain_batch (rest := []) [⟨2, [], none⟩, ⟨3, [], none⟩, ⟨4, [], none⟩, ⟨5, [], none⟩, ⟨6, [], none⟩, ⟨7, [], none⟩] (l' := ([(4, .int .i64 0), (3, .bool false), (2, .int .u32 0), (9, .int .i64 0), (8, .bool false), (7, .int .u32 0), (6, .tuple #[.int .u32 0, .bool false, .int .i64 0]), (5, .int .u32 gn), (0, .int .u32 gn), (2, .int .u32 0), (3, .bool false), (4, .int .i64 0)] : Fr) ++ lr1) (pts' := []) (eqs := []) (by kernel_rfl) trivial (AllC_nil _) ?_
  refine PO.mk ?_
  change WP _ _ (CA Try.f55 [1, 1]) _ _ _
  refine fk_cut ([(0, .int .u32 gn), (2, .int .u32 0), (3, .bool false), (4, .int .i64 0)] : Fr) (by kernel_rfl) (fun a => WP _ _ _ _ a _) (fun lr5 => ?_)
  refine gi_rt (by kernel_rfl) ?_
  repeat (first | simp only [Exit.inBlock] | simp only [Exit.then])
  refine hi_out [] (.tuple #[.int .u32 0, .bool false, .int .i64 0]) [] (by kernel_rfl) (by intro q hq; cases hq) ?_
  exact ⟨.tuple #[.int .u32 0, .bool false, .int .i64 0], [], rfl, ⟨rfl, rfl⟩, h4⟩

set_option maxHeartbeats 4000000 in
theorem ofouter_ht (x y z : Int) (hz0 : 0 ≤ z) (hz1 : z ≤ 4294967295) : HT Try.prog 72 [Value.agg #[Value.int IntKind.i64 x, Value.int IntKind.i64 y, Value.int IntKind.u32 z]] [] (fun v K => v = Value.agg #[Value.int IntKind.i64 x, Value.int IntKind.i64 y, Value.int IntKind.i64 z] ∧ K = []) := by
  refine hi_in 11 ([(0, .agg #[.int .i64 x, .int .i64 y, .int .u32 z])] : Fr) Try.func72 (by kernel_rfl) Try.ntmps72 rfl rfl ?_
  intro g w0 R h0
  refine gi_seq (x := CA Try.f72 [0]) (y := CA Try.f72 [1]) (by kernel_rfl) ?_
  refine gi_pln (id := 0) (ops := RA Try.f72 [0]) [0, 1] (by kernel_rfl) (by kernel_rfl) (by kernel_rfl) ?_
  refine plain_act (i := 0) (by kernel_rfl) ?_
  refine an_new (d := 1) (fun xb_ => .pointer (some ⟨xb_, 0, none⟩)) (fun xb_ => Obj.cells [.int .i64 x, .int .i64 y, .int .u32 z].toArray 28 (0, 0)) (fun xb_ => by kernel_rfl) (by kernel_rfl) rfl h0 ?_
  intro r1 w2 (h3 : sat g w2 [Cl r1 [.int .i64 x, .int .i64 y, .int .u32 z] 28, R])
  refine plain_act (i := 1) (by kernel_rfl) ?_
  refine an_new (d := 2) (fun xb_ => .pointer (some ⟨xb_, 0, none⟩)) (fun xb_ => Obj.cells [.int .i64 0, .int .i64 0, .int .i64 0].toArray 128 (0, 0)) (fun xb_ => by kernel_rfl) (by kernel_rfl) rfl h3 ?_
  intro r4 w5 (h6 : sat g w5 [Cl r4 [.int .i64 0, .int .i64 0, .int .i64 0] 128, Cl r1 [.int .i64 x, .int .i64 y, .int .u32 z] 28, R])
  refine PO.mk ?_
  change WP _ _ (CA Try.f72 [1]) _ _ _
  refine fk_cut ([(0, .agg #[.int .i64 x, .int .i64 y, .int .u32 z]), (1, .pointer (some ⟨r1, 0, none⟩)), (2, .pointer (some ⟨r4, 0, none⟩))] : Fr) (by kernel_rfl) (fun a => WP _ _ _ _ a _) (fun lr7 => ?_)
  refine gi_seq (x := CA Try.f72 [1, 0]) (y := CA Try.f72 [1, 1]) (by kernel_rfl) ?_
  refine gi_pln (id := 1) (ops := RA Try.f72 [1, 0]) [0, 1, 2, 3, 4, 5, 6, 7, 8] (by kernel_rfl) (by kernel_rfl) (by kernel_rfl) ?_
  refine plain_batch (rest := [8]) [⟨0, [], none⟩, ⟨1, [.int .i64 x], none⟩, ⟨2, [], none⟩, ⟨3, [.int .i64 y], none⟩, ⟨4, [], none⟩, ⟨5, [.int .u32 z], none⟩, ⟨6, [], some (.int .i64 z)⟩, ⟨7, [], none⟩] (l' := ([(10, .agg #[.int .i64 x, .int .i64 y, .int .i64 z]), (9, .int .i64 z), (8, .int .u32 z), (7, .pointer (some ⟨r1, 2, none⟩)), (6, .int .i64 y), (5, .pointer (some ⟨r1, 1, none⟩)), (4, .int .i64 x), (3, .pointer (some ⟨r1, 0, none⟩)), (0, .agg #[.int .i64 x, .int .i64 y, .int .u32 z]), (1, .pointer (some ⟨r1, 0, none⟩)), (2, .pointer (some ⟨r4, 0, none⟩))] : Fr) ++ lr7) (pts' := [(5, ⟨r1, 2, none⟩, .int .u32 z), (3, ⟨r1, 1, none⟩, .int .i64 y), (1, ⟨r1, 0, none⟩, .int .i64 x)]) (eqs := [(.int .i64 (IntKind.wrap .i64 z), .int .i64 z)]) (by kernel_rfl) ⟨(ov_i64 rfl (by omega) (by omega)), trivial⟩ (AllC_cons (sat_cell h6 1 rfl rfl) (AllC_cons (sat_cell h6 1 rfl rfl) (AllC_cons (sat_cell h6 1 rfl rfl) (AllC_nil _)))) ?_
  refine plain_act (i := 8) (by kernel_rfl) ?_
  refine an_store [(0, .int .i64 x), (1, .int .i64 y), (2, .int .i64 z)] (cs' := [.int .i64 x, .int .i64 y, .int .i64 z]) (by kernel_rfl) (by kernel_rfl) (allq ⟨⟨by simp, rfl⟩, ⟨by simp, rfl⟩, ⟨by simp, rfl⟩, trivial⟩) rfl h6 ?_
  intro w8 (h9 : sat g w8 [Cl r4 [.int .i64 x, .int .i64 y, .int .i64 z] 128, Cl r1 [.int .i64 x, .int .i64 y, .int .u32 z] 28, R])
  refine PO.mk ?_
  change WP _ _ (CA Try.f72 [1, 1]) _ _ _
  refine fk_cut ([(0, .agg #[.int .i64 x, .int .i64 y, .int .u32 z]), (1, .pointer (some ⟨r1, 0, none⟩)), (2, .pointer (some ⟨r4, 0, none⟩))] : Fr) (by kernel_rfl) (fun a => WP _ _ _ _ a _) (fun lr10 => ?_)
  refine gi_rt (by kernel_rfl) ?_
  repeat (first | simp only [Exit.inBlock] | simp only [Exit.then])
  have h11 : sat g w8 [R] := sat_sel [2] rfl h9
  refine hi_out [.int .i64 x, .int .i64 y, .int .i64 z] (.agg #[.int .i64 x, .int .i64 y, .int .i64 z]) [(⟨r4, 0, none⟩, .int .i64 x), (⟨r4, 1, none⟩, .int .i64 y), (⟨r4, 2, none⟩, .int .i64 z)] (by kernel_rfl) (allq ⟨sat_cell h9 0 rfl rfl, sat_cell h9 0 rfl rfl, sat_cell h9 0 rfl rfl, trivial⟩) ?_
  exact ⟨.agg #[.int .i64 x, .int .i64 y, .int .i64 z], [], rfl, ⟨rfl, rfl⟩, h11⟩

set_option maxHeartbeats 4000000 in
theorem dcheck_ok (x y z : Int) (hz0 : 0 ≤ z) (hz1 : z ≤ 4294967295) (ho : 1 ≤ x ∧ x ≤ 3 ∧ 0 ≤ y ∧ y ≤ 63 ∧ 1 ≤ z) : HT Try.prog 73 [Value.agg #[Value.int IntKind.i64 x, Value.int IntKind.i64 y, Value.int IntKind.i64 z], Value.int IntKind.i64 64] [] (fun v K => v = Value.int IntKind.i64 0 ∧ K = []) := by
  refine hi_in 28 ([(0, .agg #[.int .i64 x, .int .i64 y, .int .i64 z]), (1, .int .i64 64)] : Fr) Try.func73 (by kernel_rfl) Try.ntmps73 rfl rfl ?_
  intro g w0 R h0
  refine gi_seq (x := CA Try.f73 [0]) (y := CA Try.f73 [1]) (by kernel_rfl) ?_
  refine gi_pln (id := 0) (ops := RA Try.f73 [0]) [0, 1] (by kernel_rfl) (by kernel_rfl) (by kernel_rfl) ?_
  refine plain_act (i := 0) (by kernel_rfl) ?_
  refine an_new (d := 2) (fun xb_ => .pointer (some ⟨xb_, 0, none⟩)) (fun xb_ => Obj.cells [.int .i64 x, .int .i64 y, .int .i64 z].toArray 128 (0, 0)) (fun xb_ => by kernel_rfl) (by kernel_rfl) rfl h0 ?_
  intro r1 w2 (h3 : sat g w2 [Cl r1 [.int .i64 x, .int .i64 y, .int .i64 z] 128, R])
  refine plain_batch (rest := []) [⟨1, [], none⟩] (l' := ([(4, .int .i64 0), (2, .pointer (some ⟨r1, 0, none⟩)), (0, .agg #[.int .i64 x, .int .i64 y, .int .i64 z]), (1, .int .i64 64)] : Fr)) (pts' := []) (eqs := []) (by kernel_rfl) trivial (AllC_nil _) ?_
  refine PO.mk ?_
  change WP _ _ (CA Try.f73 [1]) _ _ _
  refine fk_cut ([(0, .agg #[.int .i64 x, .int .i64 y, .int .i64 z]), (1, .int .i64 64), (2, .pointer (some ⟨r1, 0, none⟩)), (4, .int .i64 0)] : Fr) (by kernel_rfl) (fun a => WP _ _ _ _ a _) (fun lr4 => ?_)
  refine gi_seq (x := CA Try.f73 [1, 0]) (y := CA Try.f73 [1, 1]) (by kernel_rfl) ?_
  refine gi_seq (x := CA Try.f73 [1, 0, 0]) (y := CA Try.f73 [1, 0, 1]) (by kernel_rfl) ?_
  refine gi_pln (id := 1) (ops := RA Try.f73 [1, 0, 0]) [0, 1, 2, 3, 4, 5, 6, 7, 8, 9, 10, 11, 12, 13, 14, 15, 16, 17, 18] (by kernel_rfl) (by kernel_rfl) (by kernel_rfl) ?_
  refine plain_law (i := 0) 5 (.pointer (some ⟨r1, 0, none⟩)) (by kernel_rfl) (law_indexArr (o := opA (RA Try.f73 [1, 0, 0]) 0) (x := (Operand.tmp 2)) (i := (Operand.const (.int .i64 0))) (b := r1) (off := 0) (z := 0) (by kernel_rfl) Try.underlying128 1 (by kernel_rfl) 0 (by kernel_rfl) (by kernel_rfl) (by omega) (by omega) 0 (by omega) _) ?_
  refine plain_batch (rest := [4, 5, 6, 7, 8, 9, 10, 11, 12, 13, 14, 15, 16, 17, 18]) [⟨1, [.int .i64 x], none⟩, ⟨2, [], some (.bool false)⟩, ⟨3, [], none⟩] (l' := ([(8, .bool false), (7, .bool false), (6, .int .i64 x), (5, .pointer (some ⟨r1, 0, none⟩)), (0, .agg #[.int .i64 x, .int .i64 y, .int .i64 z]), (1, .int .i64 64), (2, .pointer (some ⟨r1, 0, none⟩)), (4, .int .i64 0)] : Fr) ++ lr4) (pts' := [(1, ⟨r1, 0, none⟩, .int .i64 x)]) (eqs := [(.bool (decide (x < 1)), .bool false)]) (by kernel_rfl) ⟨(ov_f (by omega)), trivial⟩ (AllC_cons (sat_cell h3 0 rfl rfl) (AllC_nil _)) ?_
  refine plain_law (i := 4) 9 (.pointer (some ⟨r1, 0, none⟩)) (by kernel_rfl) (law_indexArr (o := opA (RA Try.f73 [1, 0, 0]) 4) (x := (Operand.tmp 2)) (i := (Operand.const (.int .i64 0))) (b := r1) (off := 0) (z := 0) (by kernel_rfl) Try.underlying128 1 (by kernel_rfl) 0 (by kernel_rfl) (by kernel_rfl) (by omega) (by omega) 0 (by omega) _) ?_
  refine plain_batch (rest := [9, 10, 11, 12, 13, 14, 15, 16, 17, 18]) [⟨5, [.int .i64 x], none⟩, ⟨6, [], some (.bool false)⟩, ⟨7, [], none⟩, ⟨8, [], none⟩] (l' := ([(13, .bool false), (12, .bool false), (11, .bool false), (10, .int .i64 x), (9, .pointer (some ⟨r1, 0, none⟩)), (8, .bool false), (7, .bool false), (6, .int .i64 x), (5, .pointer (some ⟨r1, 0, none⟩)), (0, .agg #[.int .i64 x, .int .i64 y, .int .i64 z]), (1, .int .i64 64), (2, .pointer (some ⟨r1, 0, none⟩)), (4, .int .i64 0)] : Fr) ++ lr4) (pts' := [(5, ⟨r1, 0, none⟩, .int .i64 x)]) (eqs := [(.bool (decide (x > 3)), .bool false)]) (by kernel_rfl) ⟨(ov_f (by omega)), trivial⟩ (AllC_cons (sat_cell h3 0 rfl rfl) (AllC_nil _)) ?_
  refine plain_law (i := 9) 14 (.pointer (some ⟨r1, 1, none⟩)) (by kernel_rfl) (law_indexArr (o := opA (RA Try.f73 [1, 0, 0]) 9) (x := (Operand.tmp 2)) (i := (Operand.const (.int .i64 1))) (b := r1) (off := 0) (z := 1) (by kernel_rfl) Try.underlying128 1 (by kernel_rfl) 1 (by kernel_rfl) (by kernel_rfl) (by omega) (by omega) 1 (by omega) _) ?_
  refine plain_batch (rest := [14, 15, 16, 17, 18]) [⟨10, [.int .i64 y], none⟩, ⟨11, [], some (.bool false)⟩, ⟨12, [], none⟩, ⟨13, [], none⟩] (l' := ([(18, .bool false), (17, .bool false), (16, .bool false), (15, .int .i64 y), (14, .pointer (some ⟨r1, 1, none⟩)), (13, .bool false), (12, .bool false), (11, .bool false), (10, .int .i64 x), (9, .pointer (some ⟨r1, 0, none⟩)), (8, .bool false), (7, .bool false), (6, .int .i64 x), (5, .pointer (some ⟨r1, 0, none⟩)), (0, .agg #[.int .i64 x, .int .i64 y, .int .i64 z]), (1, .int .i64 64), (2, .pointer (some ⟨r1, 0, none⟩)), (4, .int .i64 0)] : Fr) ++ lr4) (pts' := [(10, ⟨r1, 1, none⟩, .int .i64 y)]) (eqs := [(.bool (decide (y < 0)), .bool false)]) (by kernel_rfl) ⟨(ov_f (by omega)), trivial⟩ (AllC_cons (sat_cell h3 0 rfl rfl) (AllC_nil _)) ?_
  refine plain_law (i := 14) 19 (.pointer (some ⟨r1, 1, none⟩)) (by kernel_rfl) (law_indexArr (o := opA (RA Try.f73 [1, 0, 0]) 14) (x := (Operand.tmp 2)) (i := (Operand.const (.int .i64 1))) (b := r1) (off := 0) (z := 1) (by kernel_rfl) Try.underlying128 1 (by kernel_rfl) 1 (by kernel_rfl) (by kernel_rfl) (by omega) (by omega) 1 (by omega) _) ?_
  refine plain_batch (rest := []) [⟨15, [.int .i64 y], none⟩, ⟨16, [], none⟩, ⟨17, [], some (.bool false)⟩, ⟨18, [], none⟩] (l' := ([(23, .bool false), (22, .bool false), (21, .int .i64 64), (20, .int .i64 y), (19, .pointer (some ⟨r1, 1, none⟩)), (18, .bool false), (17, .bool false), (16, .bool false), (15, .int .i64 y), (14, .pointer (some ⟨r1, 1, none⟩)), (13, .bool false), (12, .bool false), (11, .bool false), (10, .int .i64 x), (9, .pointer (some ⟨r1, 0, none⟩)), (8, .bool false), (7, .bool false), (6, .int .i64 x), (5, .pointer (some ⟨r1, 0, none⟩)), (0, .agg #[.int .i64 x, .int .i64 y, .int .i64 z]), (1, .int .i64 64), (2, .pointer (some ⟨r1, 0, none⟩)), (4, .int .i64 0)] : Fr) ++ lr4) (pts' := [(15, ⟨r1, 1, none⟩, .int .i64 y)]) (eqs := [(.bool (decide (y ≥ 64)), .bool false)]) (by kernel_rfl) ⟨(ov_f (by omega)), trivial⟩ (AllC_cons (sat_cell h3 0 rfl rfl) (AllC_nil _)) ?_
  refine PO.mk ?_
  change WP _ _ (CA Try.f73 [1, 0, 1]) _ _ _
  refine fk_cut ([(0, .agg #[.int .i64 x, .int .i64 y, .int .i64 z]), (1, .int .i64 64), (2, .pointer (some ⟨r1, 0, none⟩)), (4, .int .i64 0), (23, .bool false)] : Fr) (by kernel_rfl) (fun a => WP _ _ _ _ a _) (fun lr5 => ?_)
  refine gi_cnd (x := (Operand.tmp 23)) (s := CA Try.f73 [1, 0, 1, 0]) (t := CA Try.f73 [1, 0, 1, 1]) false (by kernel_rfl) (by kernel_rfl) ?_
  change WP _ _ (CA Try.f73 [1, 0, 1, 1]) _ _ _
  refine gi_skp (by kernel_rfl) ?_
  change WP _ _ (CA Try.f73 [1, 1]) _ _ _
  refine gi_seq (x := CA Try.f73 [1, 1, 0]) (y := CA Try.f73 [1, 1, 1]) (by kernel_rfl) ?_
  refine gi_pln (id := 3) (ops := RA Try.f73 [1, 1, 0]) [0, 1, 2, 3, 4] (by kernel_rfl) (by kernel_rfl) (by kernel_rfl) ?_
  refine plain_law (i := 0) 24 (.pointer (some ⟨r1, 2, none⟩)) (by kernel_rfl) (law_indexArr (o := opA (RA Try.f73 [1, 1, 0]) 0) (x := (Operand.tmp 2)) (i := (Operand.const (.int .i64 2))) (b := r1) (off := 0) (z := 2) (by kernel_rfl) Try.underlying128 1 (by kernel_rfl) 2 (by kernel_rfl) (by kernel_rfl) (by omega) (by omega) 2 (by omega) _) ?_
  refine plain_batch (rest := [3, 4]) [⟨1, [.int .i64 z], none⟩, ⟨2, [], some (.int .u32 z)⟩] (l' := ([(26, .int .u32 z), (25, .int .i64 z), (24, .pointer (some ⟨r1, 2, none⟩)), (0, .agg #[.int .i64 x, .int .i64 y, .int .i64 z]), (1, .int .i64 64), (2, .pointer (some ⟨r1, 0, none⟩)), (4, .int .i64 0), (23, .bool false)] : Fr) ++ lr5) (pts' := [(1, ⟨r1, 2, none⟩, .int .i64 z)]) (eqs := [(.int .u32 (IntKind.wrap .u32 z), .int .u32 z)]) (by kernel_rfl) ⟨(ov_u32 rfl (by omega) (by omega)), trivial⟩ (AllC_cons (sat_cell h3 0 rfl rfl) (AllC_nil _)) ?_
  refine plain_act (i := 3) (by kernel_rfl) ?_
  refine an_call (d := some 27) (f := 56) (args := [.int .u32 z]) (by kernel_rfl) Try.call56 (gcheck_ok z (by omega) (by omega)) (F := [Cl r1 [.int .i64 x, .int .i64 y, .int .i64 z] 128, R]) h3 ?_
  rintro v K w6 (⟨rfl, rfl⟩) h7
  refine ⟨_, rfl, ?_⟩
  have h8 : sat g w6 [Cl r1 [.int .i64 x, .int .i64 y, .int .i64 z] 128, R] := h7
  refine plain_batch (rest := []) [⟨4, [], none⟩] (l' := ([(4, .int .i64 0), (27, .int .i64 0), (26, .int .u32 z), (25, .int .i64 z), (24, .pointer (some ⟨r1, 2, none⟩)), (0, .agg #[.int .i64 x, .int .i64 y, .int .i64 z]), (1, .int .i64 64), (2, .pointer (some ⟨r1, 0, none⟩)), (4, .int .i64 0), (23, .bool false)] : Fr) ++ lr5) (pts' := []) (eqs := []) (by kernel_rfl) trivial (AllC_nil _) ?_
  refine PO.mk ?_
  change WP _ _ (CA Try.f73 [1, 1, 1]) _ _ _
  refine fk_cut ([(0, .agg #[.int .i64 x, .int .i64 y, .int .i64 z]), (1, .int .i64 64), (2, .pointer (some ⟨r1, 0, none⟩)), (4, .int .i64 0), (23, .bool false)] : Fr) (by kernel_rfl) (fun a => WP _ _ _ _ a _) (fun lr9 => ?_)
  refine gi_rt (by kernel_rfl) ?_
  repeat (first | simp only [Exit.inBlock] | simp only [Exit.then])
  have h10 : sat g w6 [R] := sat_sel [1] rfl h8
  refine hi_out [] (.int .i64 0) [] (by kernel_rfl) (by intro q hq; cases hq) ?_
  exact ⟨.int .i64 0, [], rfl, ⟨rfl, rfl⟩, h10⟩

set_option maxHeartbeats 4000000 in
theorem dcheck_no (x y z : Int) (hz0 : 0 ≤ z) (hz1 : z ≤ 4294967295) (ho : ¬ (1 ≤ x ∧ x ≤ 3 ∧ 0 ≤ y ∧ y ≤ 63 ∧ 1 ≤ z)) : HT Try.prog 73 [Value.agg #[Value.int IntKind.i64 x, Value.int IntKind.i64 y, Value.int IntKind.i64 z], Value.int IntKind.i64 64] [] (fun v K => v = Value.int IntKind.i64 2 ∧ K = []) := by
  refine hi_in 28 ([(0, .agg #[.int .i64 x, .int .i64 y, .int .i64 z]), (1, .int .i64 64)] : Fr) Try.func73 (by kernel_rfl) Try.ntmps73 rfl rfl ?_
  intro g w0 R h0
  refine gi_seq (x := CA Try.f73 [0]) (y := CA Try.f73 [1]) (by kernel_rfl) ?_
  refine gi_pln (id := 0) (ops := RA Try.f73 [0]) [0, 1] (by kernel_rfl) (by kernel_rfl) (by kernel_rfl) ?_
  refine plain_act (i := 0) (by kernel_rfl) ?_
  refine an_new (d := 2) (fun xb_ => .pointer (some ⟨xb_, 0, none⟩)) (fun xb_ => Obj.cells [.int .i64 x, .int .i64 y, .int .i64 z].toArray 128 (0, 0)) (fun xb_ => by kernel_rfl) (by kernel_rfl) rfl h0 ?_
  intro r1 w2 (h3 : sat g w2 [Cl r1 [.int .i64 x, .int .i64 y, .int .i64 z] 128, R])
  refine plain_batch (rest := []) [⟨1, [], none⟩] (l' := ([(4, .int .i64 0), (2, .pointer (some ⟨r1, 0, none⟩)), (0, .agg #[.int .i64 x, .int .i64 y, .int .i64 z]), (1, .int .i64 64)] : Fr)) (pts' := []) (eqs := []) (by kernel_rfl) trivial (AllC_nil _) ?_
  refine PO.mk ?_
  change WP _ _ (CA Try.f73 [1]) _ _ _
  refine fk_cut ([(0, .agg #[.int .i64 x, .int .i64 y, .int .i64 z]), (1, .int .i64 64), (2, .pointer (some ⟨r1, 0, none⟩)), (4, .int .i64 0)] : Fr) (by kernel_rfl) (fun a => WP _ _ _ _ a _) (fun lr4 => ?_)
  refine gi_seq (x := CA Try.f73 [1, 0]) (y := CA Try.f73 [1, 1]) (by kernel_rfl) ?_
  refine gi_seq (x := CA Try.f73 [1, 0, 0]) (y := CA Try.f73 [1, 0, 1]) (by kernel_rfl) ?_
  refine gi_pln (id := 1) (ops := RA Try.f73 [1, 0, 0]) [0, 1, 2, 3, 4, 5, 6, 7, 8, 9, 10, 11, 12, 13, 14, 15, 16, 17, 18] (by kernel_rfl) (by kernel_rfl) (by kernel_rfl) ?_
  refine plain_law (i := 0) 5 (.pointer (some ⟨r1, 0, none⟩)) (by kernel_rfl) (law_indexArr (o := opA (RA Try.f73 [1, 0, 0]) 0) (x := (Operand.tmp 2)) (i := (Operand.const (.int .i64 0))) (b := r1) (off := 0) (z := 0) (by kernel_rfl) Try.underlying128 1 (by kernel_rfl) 0 (by kernel_rfl) (by kernel_rfl) (by omega) (by omega) 0 (by omega) _) ?_
  refine plain_batch (rest := [2, 3, 4, 5, 6, 7, 8, 9, 10, 11, 12, 13, 14, 15, 16, 17, 18]) [⟨1, [.int .i64 x], none⟩] (l' := ([(6, .int .i64 x), (5, .pointer (some ⟨r1, 0, none⟩)), (0, .agg #[.int .i64 x, .int .i64 y, .int .i64 z]), (1, .int .i64 64), (2, .pointer (some ⟨r1, 0, none⟩)), (4, .int .i64 0)] : Fr) ++ lr4) (pts' := [(1, ⟨r1, 0, none⟩, .int .i64 x)]) (eqs := []) (by kernel_rfl) trivial (AllC_cons (sat_cell h3 0 rfl rfl) (AllC_nil _)) ?_
  by_cases c5 : x < 1
  ·
    refine plain_batch (rest := []) [⟨2, [], some (.bool true)⟩, ⟨3, [], none⟩, ⟨4, [], none⟩, ⟨5, [], none⟩, ⟨6, [], none⟩, ⟨7, [], none⟩, ⟨8, [], none⟩, ⟨9, [], none⟩, ⟨10, [], none⟩, ⟨11, [], none⟩, ⟨12, [], none⟩, ⟨13, [], none⟩, ⟨14, [], none⟩, ⟨15, [], none⟩, ⟨16, [], none⟩, ⟨17, [], none⟩, ⟨18, [], none⟩] (l' := ([(23, .bool true), (22, undef), (21, undef), (20, undef), (19, undef), (18, .bool true), (17, .bool true), (16, undef), (15, undef), (14, undef), (13, .bool true), (12, .bool true), (11, undef), (10, undef), (9, undef), (8, .bool true), (7, .bool true), (6, .int .i64 x), (5, .pointer (some ⟨r1, 0, none⟩)), (0, .agg #[.int .i64 x, .int .i64 y, .int .i64 z]), (1, .int .i64 64), (2, .pointer (some ⟨r1, 0, none⟩)), (4, .int .i64 0)] : Fr) ++ lr4) (pts' := []) (eqs := [(.bool (decide (x < 1)), .bool true)]) (by kernel_rfl) ⟨(ov_t (by omega)), trivial⟩ (AllC_nil _) ?_
    refine PO.mk ?_
    change WP _ _ (CA Try.f73 [1, 0, 1]) _ _ _
    refine fk_cut ([(0, .agg #[.int .i64 x, .int .i64 y, .int .i64 z]), (1, .int .i64 64), (2, .pointer (some ⟨r1, 0, none⟩)), (4, .int .i64 0), (23, .bool true)] : Fr) (by kernel_rfl) (fun a => WP _ _ _ _ a _) (fun lr6 => ?_)
    refine gi_cnd (x := (Operand.tmp 23)) (s := CA Try.f73 [1, 0, 1, 0]) (t := CA Try.f73 [1, 0, 1, 1]) true (by kernel_rfl) (by kernel_rfl) ?_
    change WP _ _ (CA Try.f73 [1, 0, 1, 0]) _ _ _
    refine gi_seq (x := CA Try.f73 [1, 0, 1, 0, 0]) (y := CA Try.f73 [1, 0, 1, 0, 1]) (by kernel_rfl) ?_
    refine gi_pln (id := 2) (ops := RA Try.f73 [1, 0, 1, 0, 0]) [0] (by kernel_rfl) (by kernel_rfl) (by kernel_rfl) ?_
    refine plain_batch (rest := []) [⟨0, [], none⟩] (l' := ([(4, .int .i64 2), (0, .agg #[.int .i64 x, .int .i64 y, .int .i64 z]), (1, .int .i64 64), (2, .pointer (some ⟨r1, 0, none⟩)), (4, .int .i64 0), (23, .bool true)] : Fr) ++ lr6) (pts' := []) (eqs := []) (by kernel_rfl) trivial (AllC_nil _) ?_
    refine PO.mk ?_
    change WP _ _ (CA Try.f73 [1, 0, 1, 0, 1]) _ _ _
    refine fk_cut ([(0, .agg #[.int .i64 x, .int .i64 y, .int .i64 z]), (1, .int .i64 64), (2, .pointer (some ⟨r1, 0, none⟩)), (4, .int .i64 2), (23, .bool true)] : Fr) (by kernel_rfl) (fun a => WP _ _ _ _ a _) (fun lr7 => ?_)
    refine gi_rt (by kernel_rfl) ?_
    repeat (first | simp only [Exit.inBlock] | simp only [Exit.then])
    have h8 : sat g w2 [R] := sat_sel [1] rfl h3
    refine hi_out [] (.int .i64 2) [] (by kernel_rfl) (by intro q hq; cases hq) ?_
    exact ⟨.int .i64 2, [], rfl, ⟨rfl, rfl⟩, h8⟩
  ·
    refine plain_batch (rest := [4, 5, 6, 7, 8, 9, 10, 11, 12, 13, 14, 15, 16, 17, 18]) [⟨2, [], some (.bool false)⟩, ⟨3, [], none⟩] (l' := ([(8, .bool false), (7, .bool false), (6, .int .i64 x), (5, .pointer (some ⟨r1, 0, none⟩)), (0, .agg #[.int .i64 x, .int .i64 y, .int .i64 z]), (1, .int .i64 64), (2, .pointer (some ⟨r1, 0, none⟩)), (4, .int .i64 0)] : Fr) ++ lr4) (pts' := []) (eqs := [(.bool (decide (x < 1)), .bool false)]) (by kernel_rfl) ⟨(ov_f (by omega)), trivial⟩ (AllC_nil _) ?_
    refine plain_law (i := 4) 9 (.pointer (some ⟨r1, 0, none⟩)) (by kernel_rfl) (law_indexArr (o := opA (RA Try.f73 [1, 0, 0]) 4) (x := (Operand.tmp 2)) (i := (Operand.const (.int .i64 0))) (b := r1) (off := 0) (z := 0) (by kernel_rfl) Try.underlying128 1 (by kernel_rfl) 0 (by kernel_rfl) (by kernel_rfl) (by omega) (by omega) 0 (by omega) _) ?_
    refine plain_batch (rest := [6, 7, 8, 9, 10, 11, 12, 13, 14, 15, 16, 17, 18]) [⟨5, [.int .i64 x], none⟩] (l' := ([(10, .int .i64 x), (9, .pointer (some ⟨r1, 0, none⟩)), (8, .bool false), (7, .bool false), (6, .int .i64 x), (5, .pointer (some ⟨r1, 0, none⟩)), (0, .agg #[.int .i64 x, .int .i64 y, .int .i64 z]), (1, .int .i64 64), (2, .pointer (some ⟨r1, 0, none⟩)), (4, .int .i64 0)] : Fr) ++ lr4) (pts' := [(5, ⟨r1, 0, none⟩, .int .i64 x)]) (eqs := []) (by kernel_rfl) trivial (AllC_cons (sat_cell h3 0 rfl rfl) (AllC_nil _)) ?_
    by_cases c9 : x > 3
    ·
      refine plain_batch (rest := []) [⟨6, [], some (.bool true)⟩, ⟨7, [], none⟩, ⟨8, [], none⟩, ⟨9, [], none⟩, ⟨10, [], none⟩, ⟨11, [], none⟩, ⟨12, [], none⟩, ⟨13, [], none⟩, ⟨14, [], none⟩, ⟨15, [], none⟩, ⟨16, [], none⟩, ⟨17, [], none⟩, ⟨18, [], none⟩] (l' := ([(23, .bool true), (22, undef), (21, undef), (20, undef), (19, undef), (18, .bool true), (17, .bool true), (16, undef), (15, undef), (14, undef), (13, .bool true), (12, .bool true), (11, .bool true), (10, .int .i64 x), (9, .pointer (some ⟨r1, 0, none⟩)), (8, .bool false), (7, .bool false), (6, .int .i64 x), (5, .pointer (some ⟨r1, 0, none⟩)), (0, .agg #[.int .i64 x, .int .i64 y, .int .i64 z]), (1, .int .i64 64), (2, .pointer (some ⟨r1, 0, none⟩)), (4, .int .i64 0)] : Fr) ++ lr4) (pts' := []) (eqs := [(.bool (decide (x > 3)), .bool true)]) (by kernel_rfl) ⟨(ov_t (by omega)), trivial⟩ (AllC_nil _) ?_
      refine PO.mk ?_
      change WP _ _ (CA Try.f73 [1, 0, 1]) _ _ _
      refine fk_cut ([(0, .agg #[.int .i64 x, .int .i64 y, .int .i64 z]), (1, .int .i64 64), (2, .pointer (some ⟨r1, 0, none⟩)), (4, .int .i64 0), (23, .bool true)] : Fr) (by kernel_rfl) (fun a => WP _ _ _ _ a _) (fun lr10 => ?_)
      refine gi_cnd (x := (Operand.tmp 23)) (s := CA Try.f73 [1, 0, 1, 0]) (t := CA Try.f73 [1, 0, 1, 1]) true (by kernel_rfl) (by kernel_rfl) ?_
      change WP _ _ (CA Try.f73 [1, 0, 1, 0]) _ _ _
      refine gi_seq (x := CA Try.f73 [1, 0, 1, 0, 0]) (y := CA Try.f73 [1, 0, 1, 0, 1]) (by kernel_rfl) ?_
      refine gi_pln (id := 2) (ops := RA Try.f73 [1, 0, 1, 0, 0]) [0] (by kernel_rfl) (by kernel_rfl) (by kernel_rfl) ?_
      refine plain_batch (rest := []) [⟨0, [], none⟩] (l' := ([(4, .int .i64 2), (0, .agg #[.int .i64 x, .int .i64 y, .int .i64 z]), (1, .int .i64 64), (2, .pointer (some ⟨r1, 0, none⟩)), (4, .int .i64 0), (23, .bool true)] : Fr) ++ lr10) (pts' := []) (eqs := []) (by kernel_rfl) trivial (AllC_nil _) ?_
      refine PO.mk ?_
      change WP _ _ (CA Try.f73 [1, 0, 1, 0, 1]) _ _ _
      refine fk_cut ([(0, .agg #[.int .i64 x, .int .i64 y, .int .i64 z]), (1, .int .i64 64), (2, .pointer (some ⟨r1, 0, none⟩)), (4, .int .i64 2), (23, .bool true)] : Fr) (by kernel_rfl) (fun a => WP _ _ _ _ a _) (fun lr11 => ?_)
      refine gi_rt (by kernel_rfl) ?_
      repeat (first | simp only [Exit.inBlock] | simp only [Exit.then])
      have h12 : sat g w2 [R] := sat_sel [1] rfl h3
      refine hi_out [] (.int .i64 2) [] (by kernel_rfl) (by intro q hq; cases hq) ?_
      exact ⟨.int .i64 2, [], rfl, ⟨rfl, rfl⟩, h12⟩
    ·
      refine plain_batch (rest := [9, 10, 11, 12, 13, 14, 15, 16, 17, 18]) [⟨6, [], some (.bool false)⟩, ⟨7, [], none⟩, ⟨8, [], none⟩] (l' := ([(13, .bool false), (12, .bool false), (11, .bool false), (10, .int .i64 x), (9, .pointer (some ⟨r1, 0, none⟩)), (8, .bool false), (7, .bool false), (6, .int .i64 x), (5, .pointer (some ⟨r1, 0, none⟩)), (0, .agg #[.int .i64 x, .int .i64 y, .int .i64 z]), (1, .int .i64 64), (2, .pointer (some ⟨r1, 0, none⟩)), (4, .int .i64 0)] : Fr) ++ lr4) (pts' := []) (eqs := [(.bool (decide (x > 3)), .bool false)]) (by kernel_rfl) ⟨(ov_f (by omega)), trivial⟩ (AllC_nil _) ?_
      refine plain_law (i := 9) 14 (.pointer (some ⟨r1, 1, none⟩)) (by kernel_rfl) (law_indexArr (o := opA (RA Try.f73 [1, 0, 0]) 9) (x := (Operand.tmp 2)) (i := (Operand.const (.int .i64 1))) (b := r1) (off := 0) (z := 1) (by kernel_rfl) Try.underlying128 1 (by kernel_rfl) 1 (by kernel_rfl) (by kernel_rfl) (by omega) (by omega) 1 (by omega) _) ?_
      refine plain_batch (rest := [11, 12, 13, 14, 15, 16, 17, 18]) [⟨10, [.int .i64 y], none⟩] (l' := ([(15, .int .i64 y), (14, .pointer (some ⟨r1, 1, none⟩)), (13, .bool false), (12, .bool false), (11, .bool false), (10, .int .i64 x), (9, .pointer (some ⟨r1, 0, none⟩)), (8, .bool false), (7, .bool false), (6, .int .i64 x), (5, .pointer (some ⟨r1, 0, none⟩)), (0, .agg #[.int .i64 x, .int .i64 y, .int .i64 z]), (1, .int .i64 64), (2, .pointer (some ⟨r1, 0, none⟩)), (4, .int .i64 0)] : Fr) ++ lr4) (pts' := [(10, ⟨r1, 1, none⟩, .int .i64 y)]) (eqs := []) (by kernel_rfl) trivial (AllC_cons (sat_cell h3 0 rfl rfl) (AllC_nil _)) ?_
      by_cases c13 : y < 0
      ·
        refine plain_batch (rest := []) [⟨11, [], some (.bool true)⟩, ⟨12, [], none⟩, ⟨13, [], none⟩, ⟨14, [], none⟩, ⟨15, [], none⟩, ⟨16, [], none⟩, ⟨17, [], none⟩, ⟨18, [], none⟩] (l' := ([(23, .bool true), (22, undef), (21, undef), (20, undef), (19, undef), (18, .bool true), (17, .bool true), (16, .bool true), (15, .int .i64 y), (14, .pointer (some ⟨r1, 1, none⟩)), (13, .bool false), (12, .bool false), (11, .bool false), (10, .int .i64 x), (9, .pointer (some ⟨r1, 0, none⟩)), (8, .bool false), (7, .bool false), (6, .int .i64 x), (5, .pointer (some ⟨r1, 0, none⟩)), (0, .agg #[.int .i64 x, .int .i64 y, .int .i64 z]), (1, .int .i64 64), (2, .pointer (some ⟨r1, 0, none⟩)), (4, .int .i64 0)] : Fr) ++ lr4) (pts' := []) (eqs := [(.bool (decide (y < 0)), .bool true)]) (by kernel_rfl) ⟨(ov_t (by omega)), trivial⟩ (AllC_nil _) ?_
        refine PO.mk ?_
        change WP _ _ (CA Try.f73 [1, 0, 1]) _ _ _
        refine fk_cut ([(0, .agg #[.int .i64 x, .int .i64 y, .int .i64 z]), (1, .int .i64 64), (2, .pointer (some ⟨r1, 0, none⟩)), (4, .int .i64 0), (23, .bool true)] : Fr) (by kernel_rfl) (fun a => WP _ _ _ _ a _) (fun lr14 => ?_)
        refine gi_cnd (x := (Operand.tmp 23)) (s := CA Try.f73 [1, 0, 1, 0]) (t := CA Try.f73 [1, 0, 1, 1]) true (by kernel_rfl) (by kernel_rfl) ?_
        change WP _ _ (CA Try.f73 [1, 0, 1, 0]) _ _ _
        refine gi_seq (x := CA Try.f73 [1, 0, 1, 0, 0]) (y := CA Try.f73 [1, 0, 1, 0, 1]) (by kernel_rfl) ?_
        refine gi_pln (id := 2) (ops := RA Try.f73 [1, 0, 1, 0, 0]) [0] (by kernel_rfl) (by kernel_rfl) (by kernel_rfl) ?_
        refine plain_batch (rest := []) [⟨0, [], none⟩] (l' := ([(4, .int .i64 2), (0, .agg #[.int .i64 x, .int .i64 y, .int .i64 z]), (1, .int .i64 64), (2, .pointer (some ⟨r1, 0, none⟩)), (4, .int .i64 0), (23, .bool true)] : Fr) ++ lr14) (pts' := []) (eqs := []) (by kernel_rfl) trivial (AllC_nil _) ?_
        refine PO.mk ?_
        change WP _ _ (CA Try.f73 [1, 0, 1, 0, 1]) _ _ _
        refine fk_cut ([(0, .agg #[.int .i64 x, .int .i64 y, .int .i64 z]), (1, .int .i64 64), (2, .pointer (some ⟨r1, 0, none⟩)), (4, .int .i64 2), (23, .bool true)] : Fr) (by kernel_rfl) (fun a => WP _ _ _ _ a _) (fun lr15 => ?_)
        refine gi_rt (by kernel_rfl) ?_
        repeat (first | simp only [Exit.inBlock] | simp only [Exit.then])
        have h16 : sat g w2 [R] := sat_sel [1] rfl h3
        refine hi_out [] (.int .i64 2) [] (by kernel_rfl) (by intro q hq; cases hq) ?_
        exact ⟨.int .i64 2, [], rfl, ⟨rfl, rfl⟩, h16⟩
      ·
        refine plain_batch (rest := [14, 15, 16, 17, 18]) [⟨11, [], some (.bool false)⟩, ⟨12, [], none⟩, ⟨13, [], none⟩] (l' := ([(18, .bool false), (17, .bool false), (16, .bool false), (15, .int .i64 y), (14, .pointer (some ⟨r1, 1, none⟩)), (13, .bool false), (12, .bool false), (11, .bool false), (10, .int .i64 x), (9, .pointer (some ⟨r1, 0, none⟩)), (8, .bool false), (7, .bool false), (6, .int .i64 x), (5, .pointer (some ⟨r1, 0, none⟩)), (0, .agg #[.int .i64 x, .int .i64 y, .int .i64 z]), (1, .int .i64 64), (2, .pointer (some ⟨r1, 0, none⟩)), (4, .int .i64 0)] : Fr) ++ lr4) (pts' := []) (eqs := [(.bool (decide (y < 0)), .bool false)]) (by kernel_rfl) ⟨(ov_f (by omega)), trivial⟩ (AllC_nil _) ?_
        refine plain_law (i := 14) 19 (.pointer (some ⟨r1, 1, none⟩)) (by kernel_rfl) (law_indexArr (o := opA (RA Try.f73 [1, 0, 0]) 14) (x := (Operand.tmp 2)) (i := (Operand.const (.int .i64 1))) (b := r1) (off := 0) (z := 1) (by kernel_rfl) Try.underlying128 1 (by kernel_rfl) 1 (by kernel_rfl) (by kernel_rfl) (by omega) (by omega) 1 (by omega) _) ?_
        refine plain_batch (rest := [17, 18]) [⟨15, [.int .i64 y], none⟩, ⟨16, [], none⟩] (l' := ([(21, .int .i64 64), (20, .int .i64 y), (19, .pointer (some ⟨r1, 1, none⟩)), (18, .bool false), (17, .bool false), (16, .bool false), (15, .int .i64 y), (14, .pointer (some ⟨r1, 1, none⟩)), (13, .bool false), (12, .bool false), (11, .bool false), (10, .int .i64 x), (9, .pointer (some ⟨r1, 0, none⟩)), (8, .bool false), (7, .bool false), (6, .int .i64 x), (5, .pointer (some ⟨r1, 0, none⟩)), (0, .agg #[.int .i64 x, .int .i64 y, .int .i64 z]), (1, .int .i64 64), (2, .pointer (some ⟨r1, 0, none⟩)), (4, .int .i64 0)] : Fr) ++ lr4) (pts' := [(15, ⟨r1, 1, none⟩, .int .i64 y)]) (eqs := []) (by kernel_rfl) trivial (AllC_cons (sat_cell h3 0 rfl rfl) (AllC_nil _)) ?_
        by_cases c17 : y ≥ 64
        ·
          refine plain_batch (rest := []) [⟨17, [], some (.bool true)⟩, ⟨18, [], none⟩] (l' := ([(23, .bool true), (22, .bool true), (21, .int .i64 64), (20, .int .i64 y), (19, .pointer (some ⟨r1, 1, none⟩)), (18, .bool false), (17, .bool false), (16, .bool false), (15, .int .i64 y), (14, .pointer (some ⟨r1, 1, none⟩)), (13, .bool false), (12, .bool false), (11, .bool false), (10, .int .i64 x), (9, .pointer (some ⟨r1, 0, none⟩)), (8, .bool false), (7, .bool false), (6, .int .i64 x), (5, .pointer (some ⟨r1, 0, none⟩)), (0, .agg #[.int .i64 x, .int .i64 y, .int .i64 z]), (1, .int .i64 64), (2, .pointer (some ⟨r1, 0, none⟩)), (4, .int .i64 0)] : Fr) ++ lr4) (pts' := []) (eqs := [(.bool (decide (y ≥ 64)), .bool true)]) (by kernel_rfl) ⟨(ov_t (by omega)), trivial⟩ (AllC_nil _) ?_
          refine PO.mk ?_
          change WP _ _ (CA Try.f73 [1, 0, 1]) _ _ _
          refine fk_cut ([(0, .agg #[.int .i64 x, .int .i64 y, .int .i64 z]), (1, .int .i64 64), (2, .pointer (some ⟨r1, 0, none⟩)), (4, .int .i64 0), (23, .bool true)] : Fr) (by kernel_rfl) (fun a => WP _ _ _ _ a _) (fun lr18 => ?_)
          refine gi_cnd (x := (Operand.tmp 23)) (s := CA Try.f73 [1, 0, 1, 0]) (t := CA Try.f73 [1, 0, 1, 1]) true (by kernel_rfl) (by kernel_rfl) ?_
          change WP _ _ (CA Try.f73 [1, 0, 1, 0]) _ _ _
          refine gi_seq (x := CA Try.f73 [1, 0, 1, 0, 0]) (y := CA Try.f73 [1, 0, 1, 0, 1]) (by kernel_rfl) ?_
          refine gi_pln (id := 2) (ops := RA Try.f73 [1, 0, 1, 0, 0]) [0] (by kernel_rfl) (by kernel_rfl) (by kernel_rfl) ?_
          refine plain_batch (rest := []) [⟨0, [], none⟩] (l' := ([(4, .int .i64 2), (0, .agg #[.int .i64 x, .int .i64 y, .int .i64 z]), (1, .int .i64 64), (2, .pointer (some ⟨r1, 0, none⟩)), (4, .int .i64 0), (23, .bool true)] : Fr) ++ lr18) (pts' := []) (eqs := []) (by kernel_rfl) trivial (AllC_nil _) ?_
          refine PO.mk ?_
          change WP _ _ (CA Try.f73 [1, 0, 1, 0, 1]) _ _ _
          refine fk_cut ([(0, .agg #[.int .i64 x, .int .i64 y, .int .i64 z]), (1, .int .i64 64), (2, .pointer (some ⟨r1, 0, none⟩)), (4, .int .i64 2), (23, .bool true)] : Fr) (by kernel_rfl) (fun a => WP _ _ _ _ a _) (fun lr19 => ?_)
          refine gi_rt (by kernel_rfl) ?_
          repeat (first | simp only [Exit.inBlock] | simp only [Exit.then])
          have h20 : sat g w2 [R] := sat_sel [1] rfl h3
          refine hi_out [] (.int .i64 2) [] (by kernel_rfl) (by intro q hq; cases hq) ?_
          exact ⟨.int .i64 2, [], rfl, ⟨rfl, rfl⟩, h20⟩
        ·
          refine plain_batch (rest := []) [⟨17, [], some (.bool false)⟩, ⟨18, [], none⟩] (l' := ([(23, .bool false), (22, .bool false), (21, .int .i64 64), (20, .int .i64 y), (19, .pointer (some ⟨r1, 1, none⟩)), (18, .bool false), (17, .bool false), (16, .bool false), (15, .int .i64 y), (14, .pointer (some ⟨r1, 1, none⟩)), (13, .bool false), (12, .bool false), (11, .bool false), (10, .int .i64 x), (9, .pointer (some ⟨r1, 0, none⟩)), (8, .bool false), (7, .bool false), (6, .int .i64 x), (5, .pointer (some ⟨r1, 0, none⟩)), (0, .agg #[.int .i64 x, .int .i64 y, .int .i64 z]), (1, .int .i64 64), (2, .pointer (some ⟨r1, 0, none⟩)), (4, .int .i64 0)] : Fr) ++ lr4) (pts' := []) (eqs := [(.bool (decide (y ≥ 64)), .bool false)]) (by kernel_rfl) ⟨(ov_f (by omega)), trivial⟩ (AllC_nil _) ?_
          refine PO.mk ?_
          change WP _ _ (CA Try.f73 [1, 0, 1]) _ _ _
          refine fk_cut ([(0, .agg #[.int .i64 x, .int .i64 y, .int .i64 z]), (1, .int .i64 64), (2, .pointer (some ⟨r1, 0, none⟩)), (4, .int .i64 0), (23, .bool false)] : Fr) (by kernel_rfl) (fun a => WP _ _ _ _ a _) (fun lr21 => ?_)
          refine gi_cnd (x := (Operand.tmp 23)) (s := CA Try.f73 [1, 0, 1, 0]) (t := CA Try.f73 [1, 0, 1, 1]) false (by kernel_rfl) (by kernel_rfl) ?_
          change WP _ _ (CA Try.f73 [1, 0, 1, 1]) _ _ _
          refine gi_skp (by kernel_rfl) ?_
          change WP _ _ (CA Try.f73 [1, 1]) _ _ _
          refine gi_seq (x := CA Try.f73 [1, 1, 0]) (y := CA Try.f73 [1, 1, 1]) (by kernel_rfl) ?_
          refine gi_pln (id := 3) (ops := RA Try.f73 [1, 1, 0]) [0, 1, 2, 3, 4] (by kernel_rfl) (by kernel_rfl) (by kernel_rfl) ?_
          refine plain_law (i := 0) 24 (.pointer (some ⟨r1, 2, none⟩)) (by kernel_rfl) (law_indexArr (o := opA (RA Try.f73 [1, 1, 0]) 0) (x := (Operand.tmp 2)) (i := (Operand.const (.int .i64 2))) (b := r1) (off := 0) (z := 2) (by kernel_rfl) Try.underlying128 1 (by kernel_rfl) 2 (by kernel_rfl) (by kernel_rfl) (by omega) (by omega) 2 (by omega) _) ?_
          refine plain_batch (rest := [3, 4]) [⟨1, [.int .i64 z], none⟩, ⟨2, [], some (.int .u32 z)⟩] (l' := ([(26, .int .u32 z), (25, .int .i64 z), (24, .pointer (some ⟨r1, 2, none⟩)), (0, .agg #[.int .i64 x, .int .i64 y, .int .i64 z]), (1, .int .i64 64), (2, .pointer (some ⟨r1, 0, none⟩)), (4, .int .i64 0), (23, .bool false)] : Fr) ++ lr21) (pts' := [(1, ⟨r1, 2, none⟩, .int .i64 z)]) (eqs := [(.int .u32 (IntKind.wrap .u32 z), .int .u32 z)]) (by kernel_rfl) ⟨(ov_u32 rfl (by omega) (by omega)), trivial⟩ (AllC_cons (sat_cell h3 0 rfl rfl) (AllC_nil _)) ?_
          refine plain_act (i := 3) (by kernel_rfl) ?_
          refine an_call (d := some 27) (f := 56) (args := [.int .u32 z]) (by kernel_rfl) Try.call56 (gcheck_no z (by omega)) (F := [Cl r1 [.int .i64 x, .int .i64 y, .int .i64 z] 128, R]) h3 ?_
          rintro v K w22 (⟨rfl, rfl⟩) h23
          refine ⟨_, rfl, ?_⟩
          have h24 : sat g w22 [Cl r1 [.int .i64 x, .int .i64 y, .int .i64 z] 128, R] := h23
          refine plain_batch (rest := []) [⟨4, [], none⟩] (l' := ([(4, .int .i64 2), (27, .int .i64 2), (26, .int .u32 z), (25, .int .i64 z), (24, .pointer (some ⟨r1, 2, none⟩)), (0, .agg #[.int .i64 x, .int .i64 y, .int .i64 z]), (1, .int .i64 64), (2, .pointer (some ⟨r1, 0, none⟩)), (4, .int .i64 0), (23, .bool false)] : Fr) ++ lr21) (pts' := []) (eqs := []) (by kernel_rfl) trivial (AllC_nil _) ?_
          refine PO.mk ?_
          change WP _ _ (CA Try.f73 [1, 1, 1]) _ _ _
          refine fk_cut ([(0, .agg #[.int .i64 x, .int .i64 y, .int .i64 z]), (1, .int .i64 64), (2, .pointer (some ⟨r1, 0, none⟩)), (4, .int .i64 2), (23, .bool false)] : Fr) (by kernel_rfl) (fun a => WP _ _ _ _ a _) (fun lr25 => ?_)
          refine gi_rt (by kernel_rfl) ?_
          repeat (first | simp only [Exit.inBlock] | simp only [Exit.then])
          have h26 : sat g w22 [R] := sat_sel [1] rfl h24
          refine hi_out [] (.int .i64 2) [] (by kernel_rfl) (by intro q hq; cases hq) ?_
          exact ⟨.int .i64 2, [], rfl, ⟨rfl, rfl⟩, h26⟩

set_option maxHeartbeats 4000000 in
theorem couter_ok (x y z : Int) (hz0 : 0 ≤ z) (hz1 : z ≤ 4294967295) (ho : 1 ≤ x ∧ x ≤ 3 ∧ 0 ≤ y ∧ y ≤ 63 ∧ 1 ≤ z) : HT Try.prog 53 [Value.agg #[Value.int IntKind.i64 x, Value.int IntKind.i64 y, Value.int IntKind.u32 z]] [] (fun v K => v = Value.int IntKind.i64 0 ∧ K = []) := by
  refine hi_in 6 ([(0, .agg #[.int .i64 x, .int .i64 y, .int .u32 z])] : Fr) Try.func53 (by kernel_rfl) Try.ntmps53 rfl rfl ?_
  intro g w0 R h0
  refine gi_seq (x := CA Try.f53 [0]) (y := CA Try.f53 [1]) (by kernel_rfl) ?_
  refine gi_pln (id := 0) (ops := RA Try.f53 [0]) [0, 1] (by kernel_rfl) (by kernel_rfl) (by kernel_rfl) ?_
  refine plain_act (i := 0) (by kernel_rfl) ?_
  refine an_new (d := 1) (fun xb_ => .pointer (some ⟨xb_, 0, none⟩)) (fun xb_ => Obj.cells [.int .i64 x, .int .i64 y, .int .u32 z].toArray 28 (0, 0)) (fun xb_ => by kernel_rfl) (by kernel_rfl) rfl h0 ?_
  intro r1 w2 (h3 : sat g w2 [Cl r1 [.int .i64 x, .int .i64 y, .int .u32 z] 28, R])
  refine plain_batch (rest := []) [⟨1, [], none⟩] (l' := ([(2, .int .i64 0), (1, .pointer (some ⟨r1, 0, none⟩)), (0, .agg #[.int .i64 x, .int .i64 y, .int .u32 z])] : Fr)) (pts' := []) (eqs := []) (by kernel_rfl) trivial (AllC_nil _) ?_
  refine PO.mk ?_
  change WP _ _ (CA Try.f53 [1]) _ _ _
  refine fk_cut ([(0, .agg #[.int .i64 x, .int .i64 y, .int .u32 z]), (1, .pointer (some ⟨r1, 0, none⟩)), (2, .int .i64 0)] : Fr) (by kernel_rfl) (fun a => WP _ _ _ _ a _) (fun lr4 => ?_)
  refine gi_seq (x := CA Try.f53 [1, 0]) (y := CA Try.f53 [1, 1]) (by kernel_rfl) ?_
  refine gi_pln (id := 1) (ops := RA Try.f53 [1, 0]) [0, 1, 2, 3] (by kernel_rfl) (by kernel_rfl) (by kernel_rfl) ?_
  refine plain_batch (rest := [1, 2, 3]) [⟨0, [.int .i64 x, .int .i64 y, .int .u32 z], none⟩] (l' := ([(3, .agg #[.int .i64 x, .int .i64 y, .int .u32 z]), (0, .agg #[.int .i64 x, .int .i64 y, .int .u32 z]), (1, .pointer (some ⟨r1, 0, none⟩)), (2, .int .i64 0)] : Fr) ++ lr4) (pts' := [(0, ⟨r1, 0, none⟩, .int .i64 x), (0, ⟨r1, 1, none⟩, .int .i64 y), (0, ⟨r1, 2, none⟩, .int .u32 z)]) (eqs := []) (by kernel_rfl) trivial (AllC_cons (sat_cell h3 0 rfl rfl) (AllC_cons (sat_cell h3 0 rfl rfl) (AllC_cons (sat_cell h3 0 rfl rfl) (AllC_nil _)))) ?_
  refine plain_act (i := 1) (by kernel_rfl) ?_
  refine an_call (d := some 4) (f := 72) (args := [.agg #[.int .i64 x, .int .i64 y, .int .u32 z]]) (by kernel_rfl) Try.call72 (ofouter_ht x y z (by omega) (by omega)) (F := [Cl r1 [.int .i64 x, .int .i64 y, .int .u32 z] 28, R]) h3 ?_
  rintro v K w5 (⟨rfl, rfl⟩) h6
  refine ⟨_, rfl, ?_⟩
  have h7 : sat g w5 [Cl r1 [.int .i64 x, .int .i64 y, .int .u32 z] 28, R] := h6
  refine plain_act (i := 2) (by kernel_rfl) ?_
  refine an_call (d := some 5) (f := 73) (args := [.agg #[.int .i64 x, .int .i64 y, .int .i64 z], .int .i64 64]) (by kernel_rfl) Try.call73 (dcheck_ok x y z (by omega) (by omega) (by omega)) (F := [Cl r1 [.int .i64 x, .int .i64 y, .int .u32 z] 28, R]) h7 ?_
  rintro v K w8 (⟨rfl, rfl⟩) h9
  refine ⟨_, rfl, ?_⟩
  have h10 : sat g w8 [Cl r1 [.int .i64 x, .int .i64 y, .int .u32 z] 28, R] := h9
  refine plain_batch (rest := []) [⟨3, [], none⟩] (l' := ([(2, .int .i64 0), (5, .int .i64 0), (4, .agg #[.int .i64 x, .int .i64 y, .int .i64 z]), (3, .agg #[.int .i64 x, .int .i64 y, .int .u32 z]), (0, .agg #[.int .i64 x, .int .i64 y, .int .u32 z]), (1, .pointer (some ⟨r1, 0, none⟩)), (2, .int .i64 0)] : Fr) ++ lr4) (pts' := []) (eqs := []) (by kernel_rfl) trivial (AllC_nil _) ?_
  refine PO.mk ?_
  change WP _ _ (CA Try.f53 [1, 1]) _ _ _
  refine fk_cut ([(0, .agg #[.int .i64 x, .int .i64 y, .int .u32 z]), (1, .pointer (some ⟨r1, 0, none⟩)), (2, .int .i64 0)] : Fr) (by kernel_rfl) (fun a => WP _ _ _ _ a _) (fun lr11 => ?_)
  refine gi_rt (by kernel_rfl) ?_
  repeat (first | simp only [Exit.inBlock] | simp only [Exit.then])
  have h12 : sat g w8 [R] := sat_sel [1] rfl h10
  refine hi_out [] (.int .i64 0) [] (by kernel_rfl) (by intro q hq; cases hq) ?_
  exact ⟨.int .i64 0, [], rfl, ⟨rfl, rfl⟩, h12⟩

set_option maxHeartbeats 4000000 in
theorem couter_no (x y z : Int) (hz0 : 0 ≤ z) (hz1 : z ≤ 4294967295) (ho : ¬ (1 ≤ x ∧ x ≤ 3 ∧ 0 ≤ y ∧ y ≤ 63 ∧ 1 ≤ z)) : HT Try.prog 53 [Value.agg #[Value.int IntKind.i64 x, Value.int IntKind.i64 y, Value.int IntKind.u32 z]] [] (fun v K => v = Value.int IntKind.i64 2 ∧ K = []) := by
  refine hi_in 6 ([(0, .agg #[.int .i64 x, .int .i64 y, .int .u32 z])] : Fr) Try.func53 (by kernel_rfl) Try.ntmps53 rfl rfl ?_
  intro g w0 R h0
  refine gi_seq (x := CA Try.f53 [0]) (y := CA Try.f53 [1]) (by kernel_rfl) ?_
  refine gi_pln (id := 0) (ops := RA Try.f53 [0]) [0, 1] (by kernel_rfl) (by kernel_rfl) (by kernel_rfl) ?_
  refine plain_act (i := 0) (by kernel_rfl) ?_
  refine an_new (d := 1) (fun xb_ => .pointer (some ⟨xb_, 0, none⟩)) (fun xb_ => Obj.cells [.int .i64 x, .int .i64 y, .int .u32 z].toArray 28 (0, 0)) (fun xb_ => by kernel_rfl) (by kernel_rfl) rfl h0 ?_
  intro r1 w2 (h3 : sat g w2 [Cl r1 [.int .i64 x, .int .i64 y, .int .u32 z] 28, R])
  refine plain_batch (rest := []) [⟨1, [], none⟩] (l' := ([(2, .int .i64 0), (1, .pointer (some ⟨r1, 0, none⟩)), (0, .agg #[.int .i64 x, .int .i64 y, .int .u32 z])] : Fr)) (pts' := []) (eqs := []) (by kernel_rfl) trivial (AllC_nil _) ?_
  refine PO.mk ?_
  change WP _ _ (CA Try.f53 [1]) _ _ _
  refine fk_cut ([(0, .agg #[.int .i64 x, .int .i64 y, .int .u32 z]), (1, .pointer (some ⟨r1, 0, none⟩)), (2, .int .i64 0)] : Fr) (by kernel_rfl) (fun a => WP _ _ _ _ a _) (fun lr4 => ?_)
  refine gi_seq (x := CA Try.f53 [1, 0]) (y := CA Try.f53 [1, 1]) (by kernel_rfl) ?_
  refine gi_pln (id := 1) (ops := RA Try.f53 [1, 0]) [0, 1, 2, 3] (by kernel_rfl) (by kernel_rfl) (by kernel_rfl) ?_
  refine plain_batch (rest := [1, 2, 3]) [⟨0, [.int .i64 x, .int .i64 y, .int .u32 z], none⟩] (l' := ([(3, .agg #[.int .i64 x, .int .i64 y, .int .u32 z]), (0, .agg #[.int .i64 x, .int .i64 y, .int .u32 z]), (1, .pointer (some ⟨r1, 0, none⟩)), (2, .int .i64 0)] : Fr) ++ lr4) (pts' := [(0, ⟨r1, 0, none⟩, .int .i64 x), (0, ⟨r1, 1, none⟩, .int .i64 y), (0, ⟨r1, 2, none⟩, .int .u32 z)]) (eqs := []) (by kernel_rfl) trivial (AllC_cons (sat_cell h3 0 rfl rfl) (AllC_cons (sat_cell h3 0 rfl rfl) (AllC_cons (sat_cell h3 0 rfl rfl) (AllC_nil _)))) ?_
  refine plain_act (i := 1) (by kernel_rfl) ?_
  refine an_call (d := some 4) (f := 72) (args := [.agg #[.int .i64 x, .int .i64 y, .int .u32 z]]) (by kernel_rfl) Try.call72 (ofouter_ht x y z (by omega) (by omega)) (F := [Cl r1 [.int .i64 x, .int .i64 y, .int .u32 z] 28, R]) h3 ?_
  rintro v K w5 (⟨rfl, rfl⟩) h6
  refine ⟨_, rfl, ?_⟩
  have h7 : sat g w5 [Cl r1 [.int .i64 x, .int .i64 y, .int .u32 z] 28, R] := h6
  by_cases c8 : 1 ≤ x
  ·
    by_cases c9 : x ≤ 3
    ·
      by_cases c10 : 0 ≤ y
      ·
        by_cases c11 : y ≤ 63
        ·
          refine plain_act (i := 2) (by kernel_rfl) ?_
          refine an_call (d := some 5) (f := 73) (args := [.agg #[.int .i64 x, .int .i64 y, .int .i64 z], .int .i64 64]) (by kernel_rfl) Try.call73 (dcheck_no x y z (by omega) (by omega) (by omega)) (F := [Cl r1 [.int .i64 x, .int .i64 y, .int .u32 z] 28, R]) h7 ?_
          rintro v K w12 (⟨rfl, rfl⟩) h13
          refine ⟨_, rfl, ?_⟩
          have h14 : sat g w12 [Cl r1 [.int .i64 x, .int .i64 y, .int .u32 z] 28, R] := h13
          refine plain_batch (rest := []) [⟨3, [], none⟩] (l' := ([(2, .int .i64 2), (5, .int .i64 2), (4, .agg #[.int .i64 x, .int .i64 y, .int .i64 z]), (3, .agg #[.int .i64 x, .int .i64 y, .int .u32 z]), (0, .agg #[.int .i64 x, .int .i64 y, .int .u32 z]), (1, .pointer (some ⟨r1, 0, none⟩)), (2, .int .i64 0)] : Fr) ++ lr4) (pts' := []) (eqs := []) (by kernel_rfl) trivial (AllC_nil _) ?_
          refine PO.mk ?_
          change WP _ _ (CA Try.f53 [1, 1]) _ _ _
          refine fk_cut ([(0, .agg #[.int .i64 x, .int .i64 y, .int .u32 z]), (1, .pointer (some ⟨r1, 0, none⟩)), (2, .int .i64 2)] : Fr) (by kernel_rfl) (fun a => WP _ _ _ _ a _) (fun lr15 => ?_)
          refine gi_rt (by kernel_rfl) ?_
          repeat (first | simp only [Exit.inBlock] | simp only [Exit.then])
          have h16 : sat g w12 [R] := sat_sel [1] rfl h14
          refine hi_out [] (.int .i64 2) [] (by kernel_rfl) (by intro q hq; cases hq) ?_
          exact ⟨.int .i64 2, [], rfl, ⟨rfl, rfl⟩, h16⟩
        ·
          refine plain_act (i := 2) (by kernel_rfl) ?_
          refine an_call (d := some 5) (f := 73) (args := [.agg #[.int .i64 x, .int .i64 y, .int .i64 z], .int .i64 64]) (by kernel_rfl) Try.call73 (dcheck_no x y z (by omega) (by omega) (by omega)) (F := [Cl r1 [.int .i64 x, .int .i64 y, .int .u32 z] 28, R]) h7 ?_
          rintro v K w17 (⟨rfl, rfl⟩) h18
          refine ⟨_, rfl, ?_⟩
          have h19 : sat g w17 [Cl r1 [.int .i64 x, .int .i64 y, .int .u32 z] 28, R] := h18
          refine plain_batch (rest := []) [⟨3, [], none⟩] (l' := ([(2, .int .i64 2), (5, .int .i64 2), (4, .agg #[.int .i64 x, .int .i64 y, .int .i64 z]), (3, .agg #[.int .i64 x, .int .i64 y, .int .u32 z]), (0, .agg #[.int .i64 x, .int .i64 y, .int .u32 z]), (1, .pointer (some ⟨r1, 0, none⟩)), (2, .int .i64 0)] : Fr) ++ lr4) (pts' := []) (eqs := []) (by kernel_rfl) trivial (AllC_nil _) ?_
          refine PO.mk ?_
          change WP _ _ (CA Try.f53 [1, 1]) _ _ _
          refine fk_cut ([(0, .agg #[.int .i64 x, .int .i64 y, .int .u32 z]), (1, .pointer (some ⟨r1, 0, none⟩)), (2, .int .i64 2)] : Fr) (by kernel_rfl) (fun a => WP _ _ _ _ a _) (fun lr20 => ?_)
          refine gi_rt (by kernel_rfl) ?_
          repeat (first | simp only [Exit.inBlock] | simp only [Exit.then])
          have h21 : sat g w17 [R] := sat_sel [1] rfl h19
          refine hi_out [] (.int .i64 2) [] (by kernel_rfl) (by intro q hq; cases hq) ?_
          exact ⟨.int .i64 2, [], rfl, ⟨rfl, rfl⟩, h21⟩
      ·
        refine plain_act (i := 2) (by kernel_rfl) ?_
        refine an_call (d := some 5) (f := 73) (args := [.agg #[.int .i64 x, .int .i64 y, .int .i64 z], .int .i64 64]) (by kernel_rfl) Try.call73 (dcheck_no x y z (by omega) (by omega) (by omega)) (F := [Cl r1 [.int .i64 x, .int .i64 y, .int .u32 z] 28, R]) h7 ?_
        rintro v K w22 (⟨rfl, rfl⟩) h23
        refine ⟨_, rfl, ?_⟩
        have h24 : sat g w22 [Cl r1 [.int .i64 x, .int .i64 y, .int .u32 z] 28, R] := h23
        refine plain_batch (rest := []) [⟨3, [], none⟩] (l' := ([(2, .int .i64 2), (5, .int .i64 2), (4, .agg #[.int .i64 x, .int .i64 y, .int .i64 z]), (3, .agg #[.int .i64 x, .int .i64 y, .int .u32 z]), (0, .agg #[.int .i64 x, .int .i64 y, .int .u32 z]), (1, .pointer (some ⟨r1, 0, none⟩)), (2, .int .i64 0)] : Fr) ++ lr4) (pts' := []) (eqs := []) (by kernel_rfl) trivial (AllC_nil _) ?_
        refine PO.mk ?_
        change WP _ _ (CA Try.f53 [1, 1]) _ _ _
        refine fk_cut ([(0, .agg #[.int .i64 x, .int .i64 y, .int .u32 z]), (1, .pointer (some ⟨r1, 0, none⟩)), (2, .int .i64 2)] : Fr) (by kernel_rfl) (fun a => WP _ _ _ _ a _) (fun lr25 => ?_)
        refine gi_rt (by kernel_rfl) ?_
        repeat (first | simp only [Exit.inBlock] | simp only [Exit.then])
        have h26 : sat g w22 [R] := sat_sel [1] rfl h24
        refine hi_out [] (.int .i64 2) [] (by kernel_rfl) (by intro q hq; cases hq) ?_
        exact ⟨.int .i64 2, [], rfl, ⟨rfl, rfl⟩, h26⟩
    ·
      refine plain_act (i := 2) (by kernel_rfl) ?_
      refine an_call (d := some 5) (f := 73) (args := [.agg #[.int .i64 x, .int .i64 y, .int .i64 z], .int .i64 64]) (by kernel_rfl) Try.call73 (dcheck_no x y z (by omega) (by omega) (by omega)) (F := [Cl r1 [.int .i64 x, .int .i64 y, .int .u32 z] 28, R]) h7 ?_
      rintro v K w27 (⟨rfl, rfl⟩) h28
      refine ⟨_, rfl, ?_⟩
      have h29 : sat g w27 [Cl r1 [.int .i64 x, .int .i64 y, .int .u32 z] 28, R] := h28
      refine plain_batch (rest := []) [⟨3, [], none⟩] (l' := ([(2, .int .i64 2), (5, .int .i64 2), (4, .agg #[.int .i64 x, .int .i64 y, .int .i64 z]), (3, .agg #[.int .i64 x, .int .i64 y, .int .u32 z]), (0, .agg #[.int .i64 x, .int .i64 y, .int .u32 z]), (1, .pointer (some ⟨r1, 0, none⟩)), (2, .int .i64 0)] : Fr) ++ lr4) (pts' := []) (eqs := []) (by kernel_rfl) trivial (AllC_nil _) ?_
      refine PO.mk ?_
      change WP _ _ (CA Try.f53 [1, 1]) _ _ _
      refine fk_cut ([(0, .agg #[.int .i64 x, .int .i64 y, .int .u32 z]), (1, .pointer (some ⟨r1, 0, none⟩)), (2, .int .i64 2)] : Fr) (by kernel_rfl) (fun a => WP _ _ _ _ a _) (fun lr30 => ?_)
      refine gi_rt (by kernel_rfl) ?_
      repeat (first | simp only [Exit.inBlock] | simp only [Exit.then])
      have h31 : sat g w27 [R] := sat_sel [1] rfl h29
      refine hi_out [] (.int .i64 2) [] (by kernel_rfl) (by intro q hq; cases hq) ?_
      exact ⟨.int .i64 2, [], rfl, ⟨rfl, rfl⟩, h31⟩
  ·
    refine plain_act (i := 2) (by kernel_rfl) ?_
    refine an_call (d := some 5) (f := 73) (args := [.agg #[.int .i64 x, .int .i64 y, .int .i64 z], .int .i64 64]) (by kernel_rfl) Try.call73 (dcheck_no x y z (by omega) (by omega) (by omega)) (F := [Cl r1 [.int .i64 x, .int .i64 y, .int .u32 z] 28, R]) h7 ?_
    rintro v K w32 (⟨rfl, rfl⟩) h33
    refine ⟨_, rfl, ?_⟩
    have h34 : sat g w32 [Cl r1 [.int .i64 x, .int .i64 y, .int .u32 z] 28, R] := h33
    refine plain_batch (rest := []) [⟨3, [], none⟩] (l' := ([(2, .int .i64 2), (5, .int .i64 2), (4, .agg #[.int .i64 x, .int .i64 y, .int .i64 z]), (3, .agg #[.int .i64 x, .int .i64 y, .int .u32 z]), (0, .agg #[.int .i64 x, .int .i64 y, .int .u32 z]), (1, .pointer (some ⟨r1, 0, none⟩)), (2, .int .i64 0)] : Fr) ++ lr4) (pts' := []) (eqs := []) (by kernel_rfl) trivial (AllC_nil _) ?_
    refine PO.mk ?_
    change WP _ _ (CA Try.f53 [1, 1]) _ _ _
    refine fk_cut ([(0, .agg #[.int .i64 x, .int .i64 y, .int .u32 z]), (1, .pointer (some ⟨r1, 0, none⟩)), (2, .int .i64 2)] : Fr) (by kernel_rfl) (fun a => WP _ _ _ _ a _) (fun lr35 => ?_)
    refine gi_rt (by kernel_rfl) ?_
    repeat (first | simp only [Exit.inBlock] | simp only [Exit.then])
    have h36 : sat g w32 [R] := sat_sel [1] rfl h34
    refine hi_out [] (.int .i64 2) [] (by kernel_rfl) (by intro q hq; cases hq) ?_
    exact ⟨.int .i64 2, [], rfl, ⟨rfl, rfl⟩, h36⟩

end Go.Proofs.Ytcgpkhdocakloaa
