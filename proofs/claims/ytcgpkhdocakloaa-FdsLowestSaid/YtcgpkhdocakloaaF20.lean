/- Walks, printed by my generator gen20.py. -/
import Derived.Test.YtcgpkhdocakloaaFdsZ
namespace Go.Proofs.Ytcgpkhdocakloaa
set_option maxHeartbeats 4000000 in
theorem len64_z  : HT Try.prog 70 [Value.int IntKind.u64 0] [] (fun v K => v = Value.int IntKind.i64 0 ∧ K = []) := by
  refine hi_in 25 ([(0, .int .u64 0)] : Fr) Try.func70 (by kernel_rfl) Try.ntmps70 rfl rfl ?_
  intro g w0 R h0
  refine gi_seq (x := CA Try.f70 [0]) (y := CA Try.f70 [1]) (by kernel_rfl) ?_
  refine gi_pln (id := 0) (ops := RA Try.f70 [0]) [0] (by kernel_rfl) (by kernel_rfl) (by kernel_rfl) ?_
  refine plain_batch (rest := []) [⟨0, [], none⟩] (l' := ([(2, .int .i64 0), (0, .int .u64 0)] : Fr)) (pts' := []) (eqs := []) (by kernel_rfl) trivial (AllC_nil _) ?_
  refine PO.mk ?_
  change WP _ _ (CA Try.f70 [1]) _ _ _
  refine fk_cut ([(0, .int .u64 0), (2, .int .i64 0)] : Fr) (by kernel_rfl) (fun a => WP _ _ _ _ a _) (fun lr1 => ?_)
  refine gi_seq (x := CA Try.f70 [1, 0]) (y := CA Try.f70 [1, 1]) (by kernel_rfl) ?_
  refine gi_seq (x := CA Try.f70 [1, 0, 0]) (y := CA Try.f70 [1, 0, 1]) (by kernel_rfl) ?_
  refine gi_pln (id := 1) (ops := RA Try.f70 [1, 0, 0]) [0, 1] (by kernel_rfl) (by kernel_rfl) (by kernel_rfl) ?_
  refine plain_batch (rest := []) [⟨0, [], none⟩, ⟨1, [], none⟩] (l' := ([(4, .bool false), (3, .int .u64 0), (0, .int .u64 0), (2, .int .i64 0)] : Fr) ++ lr1) (pts' := []) (eqs := []) (by kernel_rfl) trivial (AllC_nil _) ?_
  refine PO.mk ?_
  change WP _ _ (CA Try.f70 [1, 0, 1]) _ _ _
  refine fk_cut ([(0, .int .u64 0), (2, .int .i64 0), (4, .bool false)] : Fr) (by kernel_rfl) (fun a => WP _ _ _ _ a _) (fun lr2 => ?_)
  refine gi_cnd (x := (Operand.tmp 4)) (s := CA Try.f70 [1, 0, 1, 0]) (t := CA Try.f70 [1, 0, 1, 1]) false (by kernel_rfl) (by kernel_rfl) ?_
  change WP _ _ (CA Try.f70 [1, 0, 1, 1]) _ _ _
  refine gi_skp (by kernel_rfl) ?_
  change WP _ _ (CA Try.f70 [1, 1]) _ _ _
  refine gi_seq (x := CA Try.f70 [1, 1, 0]) (y := CA Try.f70 [1, 1, 1]) (by kernel_rfl) ?_
  refine gi_seq (x := CA Try.f70 [1, 1, 0, 0]) (y := CA Try.f70 [1, 1, 0, 1]) (by kernel_rfl) ?_
  refine gi_pln (id := 4) (ops := RA Try.f70 [1, 1, 0, 0]) [0, 1] (by kernel_rfl) (by kernel_rfl) (by kernel_rfl) ?_
  refine plain_batch (rest := []) [⟨0, [], none⟩, ⟨1, [], none⟩] (l' := ([(8, .bool false), (7, .int .u64 0), (0, .int .u64 0), (2, .int .i64 0), (4, .bool false)] : Fr) ++ lr2) (pts' := []) (eqs := []) (by kernel_rfl) trivial (AllC_nil _) ?_
  refine PO.mk ?_
  change WP _ _ (CA Try.f70 [1, 1, 0, 1]) _ _ _
  refine fk_cut ([(0, .int .u64 0), (2, .int .i64 0), (4, .bool false), (8, .bool false)] : Fr) (by kernel_rfl) (fun a => WP _ _ _ _ a _) (fun lr3 => ?_)
  refine gi_cnd (x := (Operand.tmp 8)) (s := CA Try.f70 [1, 1, 0, 1, 0]) (t := CA Try.f70 [1, 1, 0, 1, 1]) false (by kernel_rfl) (by kernel_rfl) ?_
  change WP _ _ (CA Try.f70 [1, 1, 0, 1, 1]) _ _ _
  refine gi_skp (by kernel_rfl) ?_
  change WP _ _ (CA Try.f70 [1, 1, 1]) _ _ _
  refine gi_seq (x := CA Try.f70 [1, 1, 1, 0]) (y := CA Try.f70 [1, 1, 1, 1]) (by kernel_rfl) ?_
  refine gi_seq (x := CA Try.f70 [1, 1, 1, 0, 0]) (y := CA Try.f70 [1, 1, 1, 0, 1]) (by kernel_rfl) ?_
  refine gi_pln (id := 7) (ops := RA Try.f70 [1, 1, 1, 0, 0]) [0, 1] (by kernel_rfl) (by kernel_rfl) (by kernel_rfl) ?_
  refine plain_batch (rest := []) [⟨0, [], none⟩, ⟨1, [], none⟩] (l' := ([(14, .bool false), (13, .int .u64 0), (0, .int .u64 0), (2, .int .i64 0), (4, .bool false), (8, .bool false)] : Fr) ++ lr3) (pts' := []) (eqs := []) (by kernel_rfl) trivial (AllC_nil _) ?_
  refine PO.mk ?_
  change WP _ _ (CA Try.f70 [1, 1, 1, 0, 1]) _ _ _
  refine fk_cut ([(0, .int .u64 0), (2, .int .i64 0), (4, .bool false), (8, .bool false), (14, .bool false)] : Fr) (by kernel_rfl) (fun a => WP _ _ _ _ a _) (fun lr4 => ?_)
  refine gi_cnd (x := (Operand.tmp 14)) (s := CA Try.f70 [1, 1, 1, 0, 1, 0]) (t := CA Try.f70 [1, 1, 1, 0, 1, 1]) false (by kernel_rfl) (by kernel_rfl) ?_
  change WP _ _ (CA Try.f70 [1, 1, 1, 0, 1, 1]) _ _ _
  refine gi_skp (by kernel_rfl) ?_
  change WP _ _ (CA Try.f70 [1, 1, 1, 1]) _ _ _
  refine gi_seq (x := CA Try.f70 [1, 1, 1, 1, 0]) (y := CA Try.f70 [1, 1, 1, 1, 1]) (by kernel_rfl) ?_
  refine gi_pln (id := 10) (ops := RA Try.f70 [1, 1, 1, 1, 0]) [0, 1, 2, 3, 4, 5, 6] (by kernel_rfl) (by kernel_rfl) (by kernel_rfl) ?_
  refine plain_batch (rest := [3, 4, 5, 6]) [⟨0, [], none⟩, ⟨1, [], none⟩, ⟨2, [], some (.int .u8 0)⟩] (l' := ([(21, .int .u8 0), (20, .int .u64 0), (19, .int .i64 0), (0, .int .u64 0), (2, .int .i64 0), (4, .bool false), (8, .bool false), (14, .bool false)] : Fr) ++ lr4) (pts' := []) (eqs := [(.int .u8 (IntKind.wrap .u8 0), .int .u8 0)]) (by kernel_rfl) ⟨(ov_u8 rfl (by omega) (by omega)), trivial⟩ (AllC_nil _) ?_
  refine plain_law (i := 3) 22 (.int .u8 0) (by kernel_rfl) (law_idxStr (o := opA (RA Try.f70 [1, 1, 1, 1, 0]) 3) (x := (Operand.const (.string (St [0, 1, 2, 2, 3, 3, 3, 3, 4, 4, 4, 4, 4, 4, 4, 4, 5, 5, 5, 5, 5, 5, 5, 5, 5, 5, 5, 5, 5, 5, 5, 5, 6, 6, 6, 6, 6, 6, 6, 6, 6, 6, 6, 6, 6, 6, 6, 6, 6, 6, 6, 6, 6, 6, 6, 6, 6, 6, 6, 6, 6, 6, 6, 6, 7, 7, 7, 7, 7, 7, 7, 7, 7, 7, 7, 7, 7, 7, 7, 7, 7, 7, 7, 7, 7, 7, 7, 7, 7, 7, 7, 7, 7, 7, 7, 7, 7, 7, 7, 7, 7, 7, 7, 7, 7, 7, 7, 7, 7, 7, 7, 7, 7, 7, 7, 7, 7, 7, 7, 7, 7, 7, 7, 7, 7, 7, 7, 7, 8, 8, 8, 8, 8, 8, 8, 8, 8, 8, 8, 8, 8, 8, 8, 8, 8, 8, 8, 8, 8, 8, 8, 8, 8, 8, 8, 8, 8, 8, 8, 8, 8, 8, 8, 8, 8, 8, 8, 8, 8, 8, 8, 8, 8, 8, 8, 8, 8, 8, 8, 8, 8, 8, 8, 8, 8, 8, 8, 8, 8, 8, 8, 8, 8, 8, 8, 8, 8, 8, 8, 8, 8, 8, 8, 8, 8, 8, 8, 8, 8, 8, 8, 8, 8, 8, 8, 8, 8, 8, 8, 8, 8, 8, 8, 8, 8, 8, 8, 8, 8, 8, 8, 8, 8, 8, 8, 8, 8, 8, 8, 8, 8, 8, 8, 8, 8, 8, 8, 8, 8, 8, 8, 8, 8, 8, 8, 8])))) (i := (Operand.tmp 21)) (k := .u8) (s := [0, 1, 2, 2, 3, 3, 3, 3, 4, 4, 4, 4, 4, 4, 4, 4, 5, 5, 5, 5, 5, 5, 5, 5, 5, 5, 5, 5, 5, 5, 5, 5, 6, 6, 6, 6, 6, 6, 6, 6, 6, 6, 6, 6, 6, 6, 6, 6, 6, 6, 6, 6, 6, 6, 6, 6, 6, 6, 6, 6, 6, 6, 6, 6, 7, 7, 7, 7, 7, 7, 7, 7, 7, 7, 7, 7, 7, 7, 7, 7, 7, 7, 7, 7, 7, 7, 7, 7, 7, 7, 7, 7, 7, 7, 7, 7, 7, 7, 7, 7, 7, 7, 7, 7, 7, 7, 7, 7, 7, 7, 7, 7, 7, 7, 7, 7, 7, 7, 7, 7, 7, 7, 7, 7, 7, 7, 7, 7, 8, 8, 8, 8, 8, 8, 8, 8, 8, 8, 8, 8, 8, 8, 8, 8, 8, 8, 8, 8, 8, 8, 8, 8, 8, 8, 8, 8, 8, 8, 8, 8, 8, 8, 8, 8, 8, 8, 8, 8, 8, 8, 8, 8, 8, 8, 8, 8, 8, 8, 8, 8, 8, 8, 8, 8, 8, 8, 8, 8, 8, 8, 8, 8, 8, 8, 8, 8, 8, 8, 8, 8, 8, 8, 8, 8, 8, 8, 8, 8, 8, 8, 8, 8, 8, 8, 8, 8, 8, 8, 8, 8, 8, 8, 8, 8, 8, 8, 8, 8, 8, 8, 8, 8, 8, 8, 8, 8, 8, 8, 8, 8, 8, 8, 8, 8, 8, 8, 8, 8, 8, 8, 8, 8, 8, 8, 8, 8]) (z := 0) (b := 0) (by kernel_rfl) Try.underlying9 (by kernel_rfl) (by kernel_rfl) 0 (by omega) rfl _) ?_
  refine plain_batch (rest := []) [⟨4, [], some (.int .i64 0)⟩, ⟨5, [], none⟩, ⟨6, [], none⟩] (l' := ([(2, .int .i64 0), (24, .int .i64 0), (23, .int .i64 0), (22, .int .u8 0), (21, .int .u8 0), (20, .int .u64 0), (19, .int .i64 0), (0, .int .u64 0), (2, .int .i64 0), (4, .bool false), (8, .bool false), (14, .bool false)] : Fr) ++ lr4) (pts' := []) (eqs := [(.int .i64 (IntKind.wrap .i64 0), .int .i64 0)]) (by kernel_rfl) ⟨(ov_i64 rfl (by omega) (by omega)), trivial⟩ (AllC_nil _) ?_
  refine PO.mk ?_
  change WP _ _ (CA Try.f70 [1, 1, 1, 1, 1]) _ _ _
  refine fk_cut ([(0, .int .u64 0), (2, .int .i64 0), (4, .bool false), (8, .bool false), (14, .bool false)] : Fr) (by kernel_rfl) (fun a => WP _ _ _ _ a _) (fun lr5 => ?_)
  refine gi_rt (by kernel_rfl) ?_
  repeat (first | simp only [Exit.inBlock] | simp only [Exit.then])
  refine hi_out [] (.int .i64 0) [] (by kernel_rfl) (by intro q hq; cases hq) ?_
  exact ⟨.int .i64 0, [], rfl, ⟨rfl, rfl⟩, h0⟩

set_option maxHeartbeats 4000000 in
theorem len_z  : HT Try.prog 50 [Value.int IntKind.u64 0] [] (fun v K => v = Value.int IntKind.i64 0 ∧ K = []) := by
  refine hi_in 8 ([(0, .int .u64 0)] : Fr) Try.func50 (by kernel_rfl) Try.ntmps50 rfl rfl ?_
  intro g w0 R h0
  refine gi_seq (x := CA Try.f50 [0]) (y := CA Try.f50 [1]) (by kernel_rfl) ?_
  refine gi_pln (id := 0) (ops := RA Try.f50 [0]) [0] (by kernel_rfl) (by kernel_rfl) (by kernel_rfl) ?_
  refine plain_batch (rest := []) [⟨0, [], none⟩] (l' := ([(2, .int .i64 0), (0, .int .u64 0)] : Fr)) (pts' := []) (eqs := []) (by kernel_rfl) trivial (AllC_nil _) ?_
  refine PO.mk ?_
  change WP _ _ (CA Try.f50 [1]) _ _ _
  refine fk_cut ([(0, .int .u64 0), (2, .int .i64 0)] : Fr) (by kernel_rfl) (fun a => WP _ _ _ _ a _) (fun lr1 => ?_)
  refine gi_seq (x := CA Try.f50 [1, 0]) (y := CA Try.f50 [1, 1]) (by kernel_rfl) ?_
  refine gi_cnd (x := (Operand.const (.bool false))) (s := CA Try.f50 [1, 0, 0]) (t := CA Try.f50 [1, 0, 1]) false (by kernel_rfl) (by kernel_rfl) ?_
  change WP _ _ (CA Try.f50 [1, 0, 1]) _ _ _
  refine gi_skp (by kernel_rfl) ?_
  change WP _ _ (CA Try.f50 [1, 1]) _ _ _
  refine gi_seq (x := CA Try.f50 [1, 1, 0]) (y := CA Try.f50 [1, 1, 1]) (by kernel_rfl) ?_
  refine gi_pln (id := 2) (ops := RA Try.f50 [1, 1, 0]) [0, 1, 2] (by kernel_rfl) (by kernel_rfl) (by kernel_rfl) ?_
  refine plain_batch (rest := [1, 2]) [⟨0, [], none⟩] (l' := ([(6, .int .u64 0), (0, .int .u64 0), (2, .int .i64 0)] : Fr) ++ lr1) (pts' := []) (eqs := []) (by kernel_rfl) trivial (AllC_nil _) ?_
  refine plain_act (i := 1) (by kernel_rfl) ?_
  refine an_call (d := some 7) (f := 70) (args := [.int .u64 0]) (by kernel_rfl) Try.call70 (len64_z) (F := [R]) h0 ?_
  rintro v K w2 (⟨rfl, rfl⟩) h3
  refine ⟨_, rfl, ?_⟩
  have h4 : sat g w2 [R] := h3
  refine plain_batch (rest := []) [⟨2, [], none⟩] (l' := ([(2, .int .i64 0), (7, .int .i64 0), (6, .int .u64 0), (0, .int .u64 0), (2, .int .i64 0)] : Fr) ++ lr1) (pts' := []) (eqs := []) (by kernel_rfl) trivial (AllC_nil _) ?_
  refine PO.mk ?_
  change WP _ _ (CA Try.f50 [1, 1, 1]) _ _ _
  refine fk_cut ([(0, .int .u64 0), (2, .int .i64 0)] : Fr) (by kernel_rfl) (fun a => WP _ _ _ _ a _) (fun lr5 => ?_)
  refine gi_rt (by kernel_rfl) ?_
  repeat (first | simp only [Exit.inBlock] | simp only [Exit.then])
  refine hi_out [] (.int .i64 0) [] (by kernel_rfl) (by intro q hq; cases hq) ?_
  exact ⟨.int .i64 0, [], rfl, ⟨rfl, rfl⟩, h4⟩

set_option maxHeartbeats 4000000 in
theorem ins_z (p : Option Addr) (c : Nat) : HT Try.prog 61 [Value.slice p 0 c, Value.int IntKind.i64 0, Value.int IntKind.i64 0, Value.func (Fn.func 32) #[] #[]] [] (fun v K => v = Value.tuple #[] ∧ K = []) := by
  refine hi_in 53 ([(0, .slice p 0 c), (1, .int .i64 0), (2, .int .i64 0), (3, .func (Fn.func 32) #[] #[])] : Fr) Try.func61 (by kernel_rfl) Try.ntmps61 rfl rfl ?_
  intro g w0 R h0
  refine gi_seq (x := CA Try.f61 [0]) (y := CA Try.f61 [1]) (by kernel_rfl) ?_
  refine gi_pln (id := 0) (ops := RA Try.f61 [0]) [0, 1, 2] (by kernel_rfl) (by kernel_rfl) (by kernel_rfl) ?_
  refine plain_batch (rest := []) [⟨0, [], none⟩, ⟨1, [], none⟩, ⟨2, [], none⟩] (l' := ([(8, .int .i64 1), (11, .int .i64 1), (10, .int .i64 0), (0, .slice p 0 c), (1, .int .i64 0), (2, .int .i64 0), (3, .func (Fn.func 32) #[] #[])] : Fr)) (pts' := []) (eqs := []) (by kernel_rfl) trivial (AllC_nil _) ?_
  refine PO.mk ?_
  change WP _ _ (CA Try.f61 [1]) _ _ _
  refine fk_cut ([(0, .slice p 0 c), (1, .int .i64 0), (2, .int .i64 0), (3, .func (Fn.func 32) #[] #[]), (8, .int .i64 1)] : Fr) (by kernel_rfl) (fun a => WP _ _ _ _ a _) (fun lr1 => ?_)
  refine gi_blk (id := 0) (x := CA Try.f61 [1, 0]) (by kernel_rfl) ?_
  refine gi_unr (x := CA Try.f61 [1, 0, 0]) 2 (by kernel_rfl) ?_
  change WP _ _ (CA Try.f61 [1, 0, 0]) _ _ _
  refine gi_seq (x := CA Try.f61 [1, 0, 0, 0]) (y := CA Try.f61 [1, 0, 0, 1]) (by kernel_rfl) ?_
  refine gi_seq (x := CA Try.f61 [1, 0, 0, 0, 0]) (y := CA Try.f61 [1, 0, 0, 0, 1]) (by kernel_rfl) ?_
  refine gi_pln (id := 1) (ops := RA Try.f61 [1, 0, 0, 0, 0]) [0, 1, 2] (by kernel_rfl) (by kernel_rfl) (by kernel_rfl) ?_
  refine plain_batch (rest := []) [⟨0, [], none⟩, ⟨1, [], none⟩, ⟨2, [], none⟩] (l' := ([(14, .bool false), (13, .int .i64 0), (12, .int .i64 1), (0, .slice p 0 c), (1, .int .i64 0), (2, .int .i64 0), (3, .func (Fn.func 32) #[] #[]), (8, .int .i64 1)] : Fr) ++ lr1) (pts' := []) (eqs := []) (by kernel_rfl) trivial (AllC_nil _) ?_
  refine PO.mk ?_
  change WP _ _ (CA Try.f61 [1, 0, 0, 0, 1]) _ _ _
  refine fk_cut ([(0, .slice p 0 c), (1, .int .i64 0), (2, .int .i64 0), (3, .func (Fn.func 32) #[] #[]), (8, .int .i64 1), (14, .bool false)] : Fr) (by kernel_rfl) (fun a => WP _ _ _ _ a _) (fun lr2 => ?_)
  refine gi_cnd (x := (Operand.tmp 14)) (s := CA Try.f61 [1, 0, 0, 0, 1, 0]) (t := CA Try.f61 [1, 0, 0, 0, 1, 1]) false (by kernel_rfl) (by kernel_rfl) ?_
  change WP _ _ (CA Try.f61 [1, 0, 0, 0, 1, 1]) _ _ _
  refine gi_ext (id := 0) (by kernel_rfl) ?_
  repeat (first | simp only [Exit.inBlock] | simp only [Exit.then])
  refine hi_outn [] (.tuple #[]) [] (by kernel_rfl) (by intro q hq; cases hq) ?_
  exact ⟨.tuple #[], [], rfl, ⟨rfl, rfl⟩, h0⟩

set_option maxHeartbeats 4000000 in
theorem pdq_z (p : Option Addr) (c : Nat) : HT Try.prog 49 [Value.slice p 0 c, Value.int IntKind.i64 0, Value.int IntKind.i64 0, Value.int IntKind.i64 0, Value.func (Fn.func 32) #[] #[]] [] (fun v K => v = Value.tuple #[] ∧ K = []) := by
  refine hi_in 148 ([(0, .slice p 0 c), (1, .int .i64 0), (2, .int .i64 0), (3, .int .i64 0), (4, .func (Fn.func 32) #[] #[])] : Fr) Try.func49 (by kernel_rfl) Try.ntmps49 rfl rfl ?_
  intro g w0 R h0
  refine gi_seq (x := CA Try.f49 [0]) (y := CA Try.f49 [1]) (by kernel_rfl) ?_
  refine gi_pln (id := 0) (ops := RA Try.f49 [0]) [0] (by kernel_rfl) (by kernel_rfl) (by kernel_rfl) ?_
  refine plain_batch (rest := []) [⟨0, [], none⟩] (l' := ([(10, .bool true), (0, .slice p 0 c), (1, .int .i64 0), (2, .int .i64 0), (3, .int .i64 0), (4, .func (Fn.func 32) #[] #[])] : Fr)) (pts' := []) (eqs := []) (by kernel_rfl) trivial (AllC_nil _) ?_
  refine PO.mk ?_
  change WP _ _ (CA Try.f49 [1]) _ _ _
  refine fk_cut ([(0, .slice p 0 c), (1, .int .i64 0), (2, .int .i64 0), (3, .int .i64 0), (4, .func (Fn.func 32) #[] #[]), (10, .bool true)] : Fr) (by kernel_rfl) (fun a => WP _ _ _ _ a _) (fun lr1 => ?_)
  refine gi_seq (x := CA Try.f49 [1, 0]) (y := CA Try.f49 [1, 1]) (by kernel_rfl) ?_
  refine gi_pln (id := 1) (ops := RA Try.f49 [1, 0]) [0] (by kernel_rfl) (by kernel_rfl) (by kernel_rfl) ?_
  refine plain_batch (rest := []) [⟨0, [], none⟩] (l' := ([(11, .bool true), (0, .slice p 0 c), (1, .int .i64 0), (2, .int .i64 0), (3, .int .i64 0), (4, .func (Fn.func 32) #[] #[]), (10, .bool true)] : Fr) ++ lr1) (pts' := []) (eqs := []) (by kernel_rfl) trivial (AllC_nil _) ?_
  refine PO.mk ?_
  change WP _ _ (CA Try.f49 [1, 1]) _ _ _
  refine fk_cut ([(0, .slice p 0 c), (1, .int .i64 0), (2, .int .i64 0), (3, .int .i64 0), (4, .func (Fn.func 32) #[] #[]), (10, .bool true), (11, .bool true)] : Fr) (by kernel_rfl) (fun a => WP _ _ _ _ a _) (fun lr2 => ?_)
  refine gi_blk (id := 0) (x := CA Try.f49 [1, 1, 0]) (by kernel_rfl) ?_
  refine gi_unr (x := CA Try.f49 [1, 1, 0, 0]) 2 (by kernel_rfl) ?_
  change WP _ _ (CA Try.f49 [1, 1, 0, 0]) _ _ _
  refine gi_blk (id := 1) (x := CA Try.f49 [1, 1, 0, 0, 0]) (by kernel_rfl) ?_
  refine gi_seq (x := CA Try.f49 [1, 1, 0, 0, 0, 0]) (y := CA Try.f49 [1, 1, 0, 0, 0, 1]) (by kernel_rfl) ?_
  refine gi_pln (id := 2) (ops := RA Try.f49 [1, 1, 0, 0, 0, 0]) [0, 1, 2, 3] (by kernel_rfl) (by kernel_rfl) (by kernel_rfl) ?_
  refine plain_batch (rest := []) [⟨0, [], none⟩, ⟨1, [], none⟩, ⟨2, [], none⟩, ⟨3, [], none⟩] (l' := ([(12, .int .i64 0), (23, .int .i64 0), (22, .int .i64 0), (21, .int .i64 0), (0, .slice p 0 c), (1, .int .i64 0), (2, .int .i64 0), (3, .int .i64 0), (4, .func (Fn.func 32) #[] #[]), (10, .bool true), (11, .bool true)] : Fr) ++ lr2) (pts' := []) (eqs := []) (by kernel_rfl) trivial (AllC_nil _) ?_
  refine PO.mk ?_
  change WP _ _ (CA Try.f49 [1, 1, 0, 0, 0, 1]) _ _ _
  refine fk_cut ([(0, .slice p 0 c), (1, .int .i64 0), (2, .int .i64 0), (3, .int .i64 0), (4, .func (Fn.func 32) #[] #[]), (10, .bool true), (11, .bool true), (12, .int .i64 0)] : Fr) (by kernel_rfl) (fun a => WP _ _ _ _ a _) (fun lr3 => ?_)
  refine gi_seq (x := CA Try.f49 [1, 1, 0, 0, 0, 1, 0]) (y := CA Try.f49 [1, 1, 0, 0, 0, 1, 1]) (by kernel_rfl) ?_
  refine gi_seq (x := CA Try.f49 [1, 1, 0, 0, 0, 1, 0, 0]) (y := CA Try.f49 [1, 1, 0, 0, 0, 1, 0, 1]) (by kernel_rfl) ?_
  refine gi_pln (id := 3) (ops := RA Try.f49 [1, 1, 0, 0, 0, 1, 0, 0]) [0, 1] (by kernel_rfl) (by kernel_rfl) (by kernel_rfl) ?_
  refine plain_batch (rest := []) [⟨0, [], none⟩, ⟨1, [], none⟩] (l' := ([(25, .bool true), (24, .int .i64 0), (0, .slice p 0 c), (1, .int .i64 0), (2, .int .i64 0), (3, .int .i64 0), (4, .func (Fn.func 32) #[] #[]), (10, .bool true), (11, .bool true), (12, .int .i64 0)] : Fr) ++ lr3) (pts' := []) (eqs := []) (by kernel_rfl) trivial (AllC_nil _) ?_
  refine PO.mk ?_
  change WP _ _ (CA Try.f49 [1, 1, 0, 0, 0, 1, 0, 1]) _ _ _
  refine fk_cut ([(0, .slice p 0 c), (1, .int .i64 0), (2, .int .i64 0), (3, .int .i64 0), (4, .func (Fn.func 32) #[] #[]), (10, .bool true), (11, .bool true), (12, .int .i64 0), (25, .bool true)] : Fr) (by kernel_rfl) (fun a => WP _ _ _ _ a _) (fun lr4 => ?_)
  refine gi_cnd (x := (Operand.tmp 25)) (s := CA Try.f49 [1, 1, 0, 0, 0, 1, 0, 1, 0]) (t := CA Try.f49 [1, 1, 0, 0, 0, 1, 0, 1, 1]) true (by kernel_rfl) (by kernel_rfl) ?_
  change WP _ _ (CA Try.f49 [1, 1, 0, 0, 0, 1, 0, 1, 0]) _ _ _
  refine gi_seq (x := CA Try.f49 [1, 1, 0, 0, 0, 1, 0, 1, 0, 0]) (y := CA Try.f49 [1, 1, 0, 0, 0, 1, 0, 1, 0, 1]) (by kernel_rfl) ?_
  refine gi_pln (id := 4) (ops := RA Try.f49 [1, 1, 0, 0, 0, 1, 0, 1, 0, 0]) [0, 1, 2, 3, 4] (by kernel_rfl) (by kernel_rfl) (by kernel_rfl) ?_
  refine plain_batch (rest := [4]) [⟨0, [], none⟩, ⟨1, [], none⟩, ⟨2, [], none⟩, ⟨3, [], none⟩] (l' := ([(29, .func (Fn.func 32) #[] #[]), (28, .int .i64 0), (27, .int .i64 0), (26, .slice p 0 c), (0, .slice p 0 c), (1, .int .i64 0), (2, .int .i64 0), (3, .int .i64 0), (4, .func (Fn.func 32) #[] #[]), (10, .bool true), (11, .bool true), (12, .int .i64 0), (25, .bool true)] : Fr) ++ lr4) (pts' := []) (eqs := []) (by kernel_rfl) trivial (AllC_nil _) ?_
  refine plain_act (i := 4) (by kernel_rfl) ?_
  refine an_call (d := some 30) (f := 61) (args := [.slice p 0 c, .int .i64 0, .int .i64 0, .func (Fn.func 32) #[] #[]]) (by kernel_rfl) Try.call61 (ins_z p c) (F := [R]) h0 ?_
  rintro v K w5 (⟨rfl, rfl⟩) h6
  refine ⟨_, rfl, ?_⟩
  have h7 : sat g w5 [R] := h6
  refine PO.mk ?_
  change WP _ _ (CA Try.f49 [1, 1, 0, 0, 0, 1, 0, 1, 0, 1]) _ _ _
  refine fk_cut ([(0, .slice p 0 c), (1, .int .i64 0), (2, .int .i64 0), (3, .int .i64 0), (4, .func (Fn.func 32) #[] #[]), (10, .bool true), (11, .bool true), (12, .int .i64 0), (25, .bool true)] : Fr) (by kernel_rfl) (fun a => WP _ _ _ _ a _) (fun lr8 => ?_)
  refine gi_rt (by kernel_rfl) ?_
  repeat (first | simp only [Exit.inBlock] | simp only [Exit.then])
  refine hi_out [] (.tuple #[]) [] (by kernel_rfl) (by intro q hq; cases hq) ?_
  exact ⟨.tuple #[], [], rfl, ⟨rfl, rfl⟩, h7⟩

set_option maxHeartbeats 4000000 in
theorem sort_z (p : Option Addr) (c : Nat) : HT Try.prog 31 [Value.slice p 0 c, Value.func (Fn.func 32) #[] #[]] [] (fun v K => v = Value.tuple #[] ∧ K = []) := by
  refine hi_in 14 ([(0, .slice p 0 c), (1, .func (Fn.func 32) #[] #[])] : Fr) Try.func31 (by kernel_rfl) Try.ntmps31 rfl rfl ?_
  intro g w0 R h0
  refine gi_seq (x := CA Try.f31 [0]) (y := CA Try.f31 [1]) (by kernel_rfl) ?_
  refine gi_pln (id := 0) (ops := RA Try.f31 [0]) [0, 1, 2] (by kernel_rfl) (by kernel_rfl) (by kernel_rfl) ?_
  refine plain_batch (rest := []) [⟨0, [], none⟩, ⟨1, [], none⟩, ⟨2, [], none⟩] (l' := ([(4, .int .i64 0), (6, .int .i64 0), (5, .slice p 0 c), (0, .slice p 0 c), (1, .func (Fn.func 32) #[] #[])] : Fr)) (pts' := []) (eqs := []) (by kernel_rfl) trivial (AllC_nil _) ?_
  refine PO.mk ?_
  change WP _ _ (CA Try.f31 [1]) _ _ _
  refine fk_cut ([(0, .slice p 0 c), (1, .func (Fn.func 32) #[] #[]), (4, .int .i64 0)] : Fr) (by kernel_rfl) (fun a => WP _ _ _ _ a _) (fun lr1 => ?_)
  refine gi_pln (id := 1) (ops := RA Try.f31 [1]) [0, 1, 2, 3, 4, 5, 6] (by kernel_rfl) (by kernel_rfl) (by kernel_rfl) ?_
  refine plain_batch (rest := [4, 5, 6]) [⟨0, [], none⟩, ⟨1, [], none⟩, ⟨2, [], none⟩, ⟨3, [], some (.int .u64 0)⟩] (l' := ([(10, .int .u64 0), (9, .int .i64 0), (8, .int .i64 0), (7, .slice p 0 c), (0, .slice p 0 c), (1, .func (Fn.func 32) #[] #[]), (4, .int .i64 0)] : Fr) ++ lr1) (pts' := []) (eqs := [(.int .u64 (IntKind.wrap .u64 0), .int .u64 0)]) (by kernel_rfl) ⟨(ov_u64 rfl (by omega) (by omega)), trivial⟩ (AllC_nil _) ?_
  refine plain_act (i := 4) (by kernel_rfl) ?_
  refine an_call (d := some 11) (f := 50) (args := [.int .u64 0]) (by kernel_rfl) Try.call50 (len_z) (F := [R]) h0 ?_
  rintro v K w2 (⟨rfl, rfl⟩) h3
  refine ⟨_, rfl, ?_⟩
  have h4 : sat g w2 [R] := h3
  refine plain_batch (rest := [6]) [⟨5, [], none⟩] (l' := ([(12, .func (Fn.func 32) #[] #[]), (11, .int .i64 0), (10, .int .u64 0), (9, .int .i64 0), (8, .int .i64 0), (7, .slice p 0 c), (0, .slice p 0 c), (1, .func (Fn.func 32) #[] #[]), (4, .int .i64 0)] : Fr) ++ lr1) (pts' := []) (eqs := []) (by kernel_rfl) trivial (AllC_nil _) ?_
  refine plain_act (i := 6) (by kernel_rfl) ?_
  refine an_call (d := some 13) (f := 49) (args := [.slice p 0 c, .int .i64 0, .int .i64 0, .int .i64 0, .func (Fn.func 32) #[] #[]]) (by kernel_rfl) Try.call49 (pdq_z p c) (F := [R]) h4 ?_
  rintro v K w5 (⟨rfl, rfl⟩) h6
  refine ⟨_, rfl, ?_⟩
  have h7 : sat g w5 [R] := h6
  refine PO.mk ?_
  repeat (first | simp only [Exit.inBlock] | simp only [Exit.then])
  refine hi_outn [] (.tuple #[]) [] (by kernel_rfl) (by intro q hq; cases hq) ?_
  exact ⟨.tuple #[], [], rfl, ⟨rfl, rfl⟩, h7⟩

end Go.Proofs.Ytcgpkhdocakloaa
