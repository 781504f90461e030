/- Walks, printed by my generator gen10.py. -/
import Derived.Test.YtcgpkhdocakloaaF8
namespace Go.Proofs.Ytcgpkhdocakloaa
set_option maxHeartbeats 4000000 in
theorem fopen_n (v : Int) : HT Try.prog 11 [Value.pointer none, Value.int IntKind.i64 v] [] (fun v K => v = Value.tuple #[Value.agg #[Value.int IntKind.i64 0, Value.int IntKind.i64 0, Value.int IntKind.u32 0], Value.int IntKind.i64 1] ∧ K = []) := by
  refine hi_in 43 ([(0, .pointer none), (1, .int .i64 v)] : Fr) Try.func11 (by kernel_rfl) Try.ntmps11 rfl rfl ?_
  intro g w0 R h0
  refine gi_seq (x := CA Try.f11 [0]) (y := CA Try.f11 [1]) (by kernel_rfl) ?_
  refine gi_pln (id := 0) (ops := RA Try.f11 [0]) [0, 1] (by kernel_rfl) (by kernel_rfl) (by kernel_rfl) ?_
  refine plain_act (i := 0) (by kernel_rfl) ?_
  refine an_new (d := 4) (fun xb_ => .pointer (some ⟨xb_, 0, none⟩)) (fun xb_ => Obj.cells [.int .i64 0, .int .i64 0, .int .u32 0].toArray 28 (0, 0)) (fun xb_ => by kernel_rfl) (by kernel_rfl) rfl h0 ?_
  intro r1 w2 (h3 : sat g w2 [Cl r1 [.int .i64 0, .int .i64 0, .int .u32 0] 28, R])
  refine plain_batch (rest := []) [⟨1, [], none⟩] (l' := ([(5, .int .i64 0), (4, .pointer (some ⟨r1, 0, none⟩)), (0, .pointer none), (1, .int .i64 v)] : Fr)) (pts' := []) (eqs := []) (by kernel_rfl) trivial (AllC_nil _) ?_
  refine PO.mk ?_
  change WP _ _ (CA Try.f11 [1]) _ _ _
  refine fk_cut ([(0, .pointer none), (1, .int .i64 v), (4, .pointer (some ⟨r1, 0, none⟩)), (5, .int .i64 0)] : Fr) (by kernel_rfl) (fun a => WP _ _ _ _ a _) (fun lr4 => ?_)
  refine gi_seq (x := CA Try.f11 [1, 0]) (y := CA Try.f11 [1, 1]) (by kernel_rfl) ?_
  refine gi_blk (id := 0) (x := CA Try.f11 [1, 0, 0]) (by kernel_rfl) ?_
  refine gi_seq (x := CA Try.f11 [1, 0, 0, 0]) (y := CA Try.f11 [1, 0, 0, 1]) (by kernel_rfl) ?_
  refine gi_pln (id := 1) (ops := RA Try.f11 [1, 0, 0, 0]) [0, 1, 2, 3] (by kernel_rfl) (by kernel_rfl) (by kernel_rfl) ?_
  refine plain_batch (rest := [1, 2, 3]) [⟨0, [], none⟩] (l' := ([(10, .pointer none), (0, .pointer none), (1, .int .i64 v), (4, .pointer (some ⟨r1, 0, none⟩)), (5, .int .i64 0)] : Fr) ++ lr4) (pts' := []) (eqs := []) (by kernel_rfl) trivial (AllC_nil _) ?_
  refine plain_act (i := 1) (by kernel_rfl) ?_
  refine an_call (d := some 11) (f := 33) (args := [.pointer none]) (by kernel_rfl) Try.call33 (made_n) (F := [Cl r1 [.int .i64 0, .int .i64 0, .int .u32 0] 28, R]) h3 ?_
  rintro v K w5 (⟨rfl, rfl⟩) h6
  refine ⟨_, rfl, ?_⟩
  have h7 : sat g w5 [Cl r1 [.int .i64 0, .int .i64 0, .int .u32 0] 28, R] := h6
  refine plain_batch (rest := []) [⟨2, [], none⟩, ⟨3, [], none⟩] (l' := ([(9, .bool true), (12, .bool true), (11, .bool false), (10, .pointer none), (0, .pointer none), (1, .int .i64 v), (4, .pointer (some ⟨r1, 0, none⟩)), (5, .int .i64 0)] : Fr) ++ lr4) (pts' := []) (eqs := []) (by kernel_rfl) trivial (AllC_nil _) ?_
  refine PO.mk ?_
  change WP _ _ (CA Try.f11 [1, 0, 0, 1]) _ _ _
  refine fk_cut ([(0, .pointer none), (1, .int .i64 v), (4, .pointer (some ⟨r1, 0, none⟩)), (5, .int .i64 0), (9, .bool true)] : Fr) (by kernel_rfl) (fun a => WP _ _ _ _ a _) (fun lr8 => ?_)
  refine gi_cnd (x := (Operand.tmp 9)) (s := CA Try.f11 [1, 0, 0, 1, 0]) (t := CA Try.f11 [1, 0, 0, 1, 1]) true (by kernel_rfl) (by kernel_rfl) ?_
  change WP _ _ (CA Try.f11 [1, 0, 0, 1, 0]) _ _ _
  refine gi_seq (x := CA Try.f11 [1, 0, 0, 1, 0, 0]) (y := CA Try.f11 [1, 0, 0, 1, 0, 1]) (by kernel_rfl) ?_
  refine gi_pln (id := 2) (ops := RA Try.f11 [1, 0, 0, 1, 0, 0]) [0, 1, 2] (by kernel_rfl) (by kernel_rfl) (by kernel_rfl) ?_
  refine plain_batch (rest := [1, 2]) [⟨0, [], none⟩] (l' := ([(13, .agg #[.int .i64 0, .int .i64 0, .int .u32 0]), (0, .pointer none), (1, .int .i64 v), (4, .pointer (some ⟨r1, 0, none⟩)), (5, .int .i64 0), (9, .bool true)] : Fr) ++ lr8) (pts' := []) (eqs := []) (by kernel_rfl) trivial (AllC_nil _) ?_
  refine plain_act (i := 1) (by kernel_rfl) ?_
  refine an_store [(0, .int .i64 0), (1, .int .i64 0), (2, .int .u32 0)] (cs' := [.int .i64 0, .int .i64 0, .int .u32 0]) (by kernel_rfl) (by kernel_rfl) (allq ⟨⟨by simp, rfl⟩, ⟨by simp, rfl⟩, ⟨by simp, rfl⟩, trivial⟩) rfl h7 ?_
  intro w9 (h10 : sat g w9 [Cl r1 [.int .i64 0, .int .i64 0, .int .u32 0] 28, R])
  refine plain_batch (rest := []) [⟨2, [], none⟩] (l' := ([(5, .int .i64 1), (13, .agg #[.int .i64 0, .int .i64 0, .int .u32 0]), (0, .pointer none), (1, .int .i64 v), (4, .pointer (some ⟨r1, 0, none⟩)), (5, .int .i64 0), (9, .bool true)] : Fr) ++ lr8) (pts' := []) (eqs := []) (by kernel_rfl) trivial (AllC_nil _) ?_
  refine PO.mk ?_
  change WP _ _ (CA Try.f11 [1, 0, 0, 1, 0, 1]) _ _ _
  refine fk_cut ([(0, .pointer none), (1, .int .i64 v), (4, .pointer (some ⟨r1, 0, none⟩)), (5, .int .i64 1), (9, .bool true)] : Fr) (by kernel_rfl) (fun a => WP _ _ _ _ a _) (fun lr11 => ?_)
  refine gi_rt (by kernel_rfl) ?_
  repeat (first | simp only [Exit.inBlock] | simp only [Exit.then])
  have h12 : sat g w9 [R] := sat_sel [1] rfl h10
  refine hi_out [.int .i64 0, .int .i64 0, .int .u32 0] (.tuple #[.agg #[.int .i64 0, .int .i64 0, .int .u32 0], .int .i64 1]) [(⟨r1, 0, none⟩, .int .i64 0), (⟨r1, 1, none⟩, .int .i64 0), (⟨r1, 2, none⟩, .int .u32 0)] (by kernel_rfl) (allq ⟨sat_cell h10 0 rfl rfl, sat_cell h10 0 rfl rfl, sat_cell h10 0 rfl rfl, trivial⟩) ?_
  exact ⟨.tuple #[.agg #[.int .i64 0, .int .i64 0, .int .u32 0], .int .i64 1], [], rfl, ⟨rfl, rfl⟩, h12⟩

set_option maxHeartbeats 4000000 in
theorem fopen_z (b : Nat) (v : Int) : HT Try.prog 11 [Value.pointer (some ⟨b, 0, none⟩), Value.int IntKind.i64 v] [Cl b [Value.pointer none, Value.map none] 63] (fun v K => v = Value.tuple #[Value.agg #[Value.int IntKind.i64 0, Value.int IntKind.i64 0, Value.int IntKind.u32 0], Value.int IntKind.i64 1] ∧ K = [Cl b [Value.pointer none, Value.map none] 63]) := by
  refine hi_in 43 ([(0, .pointer (some ⟨b, 0, none⟩)), (1, .int .i64 v)] : Fr) Try.func11 (by kernel_rfl) Try.ntmps11 rfl rfl ?_
  intro g w0 R h0
  refine gi_seq (x := CA Try.f11 [0]) (y := CA Try.f11 [1]) (by kernel_rfl) ?_
  refine gi_pln (id := 0) (ops := RA Try.f11 [0]) [0, 1] (by kernel_rfl) (by kernel_rfl) (by kernel_rfl) ?_
  refine plain_act (i := 0) (by kernel_rfl) ?_
  refine an_new (d := 4) (fun xb_ => .pointer (some ⟨xb_, 0, none⟩)) (fun xb_ => Obj.cells [.int .i64 0, .int .i64 0, .int .u32 0].toArray 28 (0, 0)) (fun xb_ => by kernel_rfl) (by kernel_rfl) rfl h0 ?_
  intro r1 w2 (h3 : sat g w2 [Cl r1 [.int .i64 0, .int .i64 0, .int .u32 0] 28, Cl b [.pointer none, .map none] 63, R])
  refine plain_batch (rest := []) [⟨1, [], none⟩] (l' := ([(5, .int .i64 0), (4, .pointer (some ⟨r1, 0, none⟩)), (0, .pointer (some ⟨b, 0, none⟩)), (1, .int .i64 v)] : Fr)) (pts' := []) (eqs := []) (by kernel_rfl) trivial (AllC_nil _) ?_
  refine PO.mk ?_
  change WP _ _ (CA Try.f11 [1]) _ _ _
  refine fk_cut ([(0, .pointer (some ⟨b, 0, none⟩)), (1, .int .i64 v), (4, .pointer (some ⟨r1, 0, none⟩)), (5, .int .i64 0)] : Fr) (by kernel_rfl) (fun a => WP _ _ _ _ a _) (fun lr4 => ?_)
  refine gi_seq (x := CA Try.f11 [1, 0]) (y := CA Try.f11 [1, 1]) (by kernel_rfl) ?_
  refine gi_blk (id := 0) (x := CA Try.f11 [1, 0, 0]) (by kernel_rfl) ?_
  refine gi_seq (x := CA Try.f11 [1, 0, 0, 0]) (y := CA Try.f11 [1, 0, 0, 1]) (by kernel_rfl) ?_
  refine gi_pln (id := 1) (ops := RA Try.f11 [1, 0, 0, 0]) [0, 1, 2, 3] (by kernel_rfl) (by kernel_rfl) (by kernel_rfl) ?_
  refine plain_batch (rest := [1, 2, 3]) [⟨0, [], none⟩] (l' := ([(10, .pointer (some ⟨b, 0, none⟩)), (0, .pointer (some ⟨b, 0, none⟩)), (1, .int .i64 v), (4, .pointer (some ⟨r1, 0, none⟩)), (5, .int .i64 0)] : Fr) ++ lr4) (pts' := []) (eqs := []) (by kernel_rfl) trivial (AllC_nil _) ?_
  have h5 : sat g w2 [Cl b [.pointer none, .map none] 63, Cl r1 [.int .i64 0, .int .i64 0, .int .u32 0] 28, R] := sat_sel [1, 0, 2] rfl h3
  refine plain_act (i := 1) (by kernel_rfl) ?_
  refine an_call (d := some 11) (f := 33) (args := [.pointer (some ⟨b, 0, none⟩)]) (by kernel_rfl) Try.call33 (made_z b) (F := [Cl r1 [.int .i64 0, .int .i64 0, .int .u32 0] 28, R]) h5 ?_
  rintro v K w6 (⟨rfl, rfl⟩) h7
  refine ⟨_, rfl, ?_⟩
  have h8 : sat g w6 [Cl b [.pointer none, .map none] 63, Cl r1 [.int .i64 0, .int .i64 0, .int .u32 0] 28, R] := h7
  refine plain_batch (rest := []) [⟨2, [], none⟩, ⟨3, [], none⟩] (l' := ([(9, .bool true), (12, .bool true), (11, .bool false), (10, .pointer (some ⟨b, 0, none⟩)), (0, .pointer (some ⟨b, 0, none⟩)), (1, .int .i64 v), (4, .pointer (some ⟨r1, 0, none⟩)), (5, .int .i64 0)] : Fr) ++ lr4) (pts' := []) (eqs := []) (by kernel_rfl) trivial (AllC_nil _) ?_
  refine PO.mk ?_
  change WP _ _ (CA Try.f11 [1, 0, 0, 1]) _ _ _
  refine fk_cut ([(0, .pointer (some ⟨b, 0, none⟩)), (1, .int .i64 v), (4, .pointer (some ⟨r1, 0, none⟩)), (5, .int .i64 0), (9, .bool true)] : Fr) (by kernel_rfl) (fun a => WP _ _ _ _ a _) (fun lr9 => ?_)
  refine gi_cnd (x := (Operand.tmp 9)) (s := CA Try.f11 [1, 0, 0, 1, 0]) (t := CA Try.f11 [1, 0, 0, 1, 1]) true (by kernel_rfl) (by kernel_rfl) ?_
  change WP _ _ (CA Try.f11 [1, 0, 0, 1, 0]) _ _ _
  refine gi_seq (x := CA Try.f11 [1, 0, 0, 1, 0, 0]) (y := CA Try.f11 [1, 0, 0, 1, 0, 1]) (by kernel_rfl) ?_
  refine gi_pln (id := 2) (ops := RA Try.f11 [1, 0, 0, 1, 0, 0]) [0, 1, 2] (by kernel_rfl) (by kernel_rfl) (by kernel_rfl) ?_
  refine plain_batch (rest := [1, 2]) [⟨0, [], none⟩] (l' := ([(13, .agg #[.int .i64 0, .int .i64 0, .int .u32 0]), (0, .pointer (some ⟨b, 0, none⟩)), (1, .int .i64 v), (4, .pointer (some ⟨r1, 0, none⟩)), (5, .int .i64 0), (9, .bool true)] : Fr) ++ lr9) (pts' := []) (eqs := []) (by kernel_rfl) trivial (AllC_nil _) ?_
  have h10 : sat g w6 [Cl r1 [.int .i64 0, .int .i64 0, .int .u32 0] 28, Cl b [.pointer none, .map none] 63, R] := sat_sel [1, 0, 2] rfl h8
  refine plain_act (i := 1) (by kernel_rfl) ?_
  refine an_store [(0, .int .i64 0), (1, .int .i64 0), (2, .int .u32 0)] (cs' := [.int .i64 0, .int .i64 0, .int .u32 0]) (by kernel_rfl) (by kernel_rfl) (allq ⟨⟨by simp, rfl⟩, ⟨by simp, rfl⟩, ⟨by simp, rfl⟩, trivial⟩) rfl h10 ?_
  intro w11 (h12 : sat g w11 [Cl r1 [.int .i64 0, .int .i64 0, .int .u32 0] 28, Cl b [.pointer none, .map none] 63, R])
  refine plain_batch (rest := []) [⟨2, [], none⟩] (l' := ([(5, .int .i64 1), (13, .agg #[.int .i64 0, .int .i64 0, .int .u32 0]), (0, .pointer (some ⟨b, 0, none⟩)), (1, .int .i64 v), (4, .pointer (some ⟨r1, 0, none⟩)), (5, .int .i64 0), (9, .bool true)] : Fr) ++ lr9) (pts' := []) (eqs := []) (by kernel_rfl) trivial (AllC_nil _) ?_
  refine PO.mk ?_
  change WP _ _ (CA Try.f11 [1, 0, 0, 1, 0, 1]) _ _ _
  refine fk_cut ([(0, .pointer (some ⟨b, 0, none⟩)), (1, .int .i64 v), (4, .pointer (some ⟨r1, 0, none⟩)), (5, .int .i64 1), (9, .bool true)] : Fr) (by kernel_rfl) (fun a => WP _ _ _ _ a _) (fun lr13 => ?_)
  refine gi_rt (by kernel_rfl) ?_
  repeat (first | simp only [Exit.inBlock] | simp only [Exit.then])
  have h14 : sat g w11 [Cl b [.pointer none, .map none] 63, Cl r1 [.int .i64 0, .int .i64 0, .int .u32 0] 28, R] := sat_sel [1, 0, 2] rfl h12
  have h15 : sat g w11 [Cl b [.pointer none, .map none] 63, R] := sat_sel [0, 2] rfl h14
  refine hi_out [.int .i64 0, .int .i64 0, .int .u32 0] (.tuple #[.agg #[.int .i64 0, .int .i64 0, .int .u32 0], .int .i64 1]) [(⟨r1, 0, none⟩, .int .i64 0), (⟨r1, 1, none⟩, .int .i64 0), (⟨r1, 2, none⟩, .int .u32 0)] (by kernel_rfl) (allq ⟨sat_cell h12 0 rfl rfl, sat_cell h12 0 rfl rfl, sat_cell h12 0 rfl rfl, trivial⟩) ?_
  exact ⟨.tuple #[.agg #[.int .i64 0, .int .i64 0, .int .u32 0], .int .i64 1], [Cl b [.pointer none, .map none] 63], rfl, ⟨rfl, rfl⟩, h15⟩

set_option maxHeartbeats 4000000 in
theorem fwith_n (x y z : Int) (f : Value) : HT Try.prog 36 [Value.pointer none, Value.agg #[Value.int IntKind.i64 x, Value.int IntKind.i64 y, Value.int IntKind.u32 z], f] [] (fun v K => v = Value.int IntKind.i64 1 ∧ K = []) := by
  refine hi_in 39 ([(0, .pointer none), (1, .agg #[.int .i64 x, .int .i64 y, .int .u32 z]), (2, f)] : Fr) Try.func36 (by kernel_rfl) Try.ntmps36 rfl rfl ?_
  intro g w0 R h0
  refine gi_seq (x := CA Try.f36 [0]) (y := CA Try.f36 [1]) (by kernel_rfl) ?_
  refine gi_pln (id := 0) (ops := RA Try.f36 [0]) [0, 1] (by kernel_rfl) (by kernel_rfl) (by kernel_rfl) ?_
  refine plain_act (i := 0) (by kernel_rfl) ?_
  refine an_new (d := 4) (fun xb_ => .pointer (some ⟨xb_, 0, none⟩)) (fun xb_ => Obj.cells [.int .i64 x, .int .i64 y, .int .u32 z].toArray 28 (0, 0)) (fun xb_ => by kernel_rfl) (by kernel_rfl) rfl h0 ?_
  intro r1 w2 (h3 : sat g w2 [Cl r1 [.int .i64 x, .int .i64 y, .int .u32 z] 28, R])
  refine plain_batch (rest := []) [⟨1, [], none⟩] (l' := ([(6, .int .i64 0), (4, .pointer (some ⟨r1, 0, none⟩)), (0, .pointer none), (1, .agg #[.int .i64 x, .int .i64 y, .int .u32 z]), (2, f)] : Fr)) (pts' := []) (eqs := []) (by kernel_rfl) trivial (AllC_nil _) ?_
  refine PO.mk ?_
  change WP _ _ (CA Try.f36 [1]) _ _ _
  refine fk_cut ([(0, .pointer none), (1, .agg #[.int .i64 x, .int .i64 y, .int .u32 z]), (2, f), (4, .pointer (some ⟨r1, 0, none⟩)), (6, .int .i64 0)] : Fr) (by kernel_rfl) (fun a => WP _ _ _ _ a _) (fun lr4 => ?_)
  refine gi_seq (x := CA Try.f36 [1, 0]) (y := CA Try.f36 [1, 1]) (by kernel_rfl) ?_
  refine gi_pln (id := 1) (ops := RA Try.f36 [1, 0]) [0, 1, 2, 3, 4, 5, 6] (by kernel_rfl) (by kernel_rfl) (by kernel_rfl) ?_
  refine plain_batch (rest := [5, 6]) [⟨0, [], none⟩, ⟨1, [.int .i64 y], none⟩, ⟨2, [], none⟩, ⟨3, [.int .u32 z], none⟩, ⟨4, [], none⟩] (l' := ([(13, .agg #[.int .i64 y, .int .u32 z]), (12, .int .u32 z), (11, .pointer (some ⟨r1, 2, none⟩)), (10, .int .i64 y), (9, .pointer (some ⟨r1, 1, none⟩)), (0, .pointer none), (1, .agg #[.int .i64 x, .int .i64 y, .int .u32 z]), (2, f), (4, .pointer (some ⟨r1, 0, none⟩)), (6, .int .i64 0)] : Fr) ++ lr4) (pts' := [(3, ⟨r1, 2, none⟩, .int .u32 z), (1, ⟨r1, 1, none⟩, .int .i64 y)]) (eqs := []) (by kernel_rfl) trivial (AllC_cons (sat_cell h3 0 rfl rfl) (AllC_cons (sat_cell h3 0 rfl rfl) (AllC_nil _))) ?_
  refine plain_act (i := 5) (by kernel_rfl) ?_
  refine an_new (d := 7) (fun xb_ => .pointer (some ⟨xb_, 0, none⟩)) (fun xb_ => Obj.cells [.int .i64 0, .int .u32 0].toArray 79 (0, 0)) (fun xb_ => by kernel_rfl) (by kernel_rfl) rfl h3 ?_
  intro r5 w6 (h7 : sat g w6 [Cl r5 [.int .i64 0, .int .u32 0] 79, Cl r1 [.int .i64 x, .int .i64 y, .int .u32 z] 28, R])
  refine plain_act (i := 6) (by kernel_rfl) ?_
  refine an_store [(0, .int .i64 y), (1, .int .u32 z)] (cs' := [.int .i64 y, .int .u32 z]) (by kernel_rfl) (by kernel_rfl) (allq ⟨⟨by simp, rfl⟩, ⟨by simp, rfl⟩, trivial⟩) rfl h7 ?_
  intro w8 (h9 : sat g w8 [Cl r5 [.int .i64 y, .int .u32 z] 79, Cl r1 [.int .i64 x, .int .i64 y, .int .u32 z] 28, R])
  refine PO.mk ?_
  change WP _ _ (CA Try.f36 [1, 1]) _ _ _
  refine fk_cut ([(0, .pointer none), (1, .agg #[.int .i64 x, .int .i64 y, .int .u32 z]), (2, f), (4, .pointer (some ⟨r1, 0, none⟩)), (6, .int .i64 0), (7, .pointer (some ⟨r5, 0, none⟩))] : Fr) (by kernel_rfl) (fun a => WP _ _ _ _ a _) (fun lr10 => ?_)
  refine gi_seq (x := CA Try.f36 [1, 1, 0]) (y := CA Try.f36 [1, 1, 1]) (by kernel_rfl) ?_
  refine gi_blk (id := 0) (x := CA Try.f36 [1, 1, 0, 0]) (by kernel_rfl) ?_
  refine gi_seq (x := CA Try.f36 [1, 1, 0, 0, 0]) (y := CA Try.f36 [1, 1, 0, 0, 1]) (by kernel_rfl) ?_
  refine gi_pln (id := 2) (ops := RA Try.f36 [1, 1, 0, 0, 0]) [0, 1, 2, 3] (by kernel_rfl) (by kernel_rfl) (by kernel_rfl) ?_
  refine plain_batch (rest := [1, 2, 3]) [⟨0, [], none⟩] (l' := ([(15, .pointer none), (0, .pointer none), (1, .agg #[.int .i64 x, .int .i64 y, .int .u32 z]), (2, f), (4, .pointer (some ⟨r1, 0, none⟩)), (6, .int .i64 0), (7, .pointer (some ⟨r5, 0, none⟩))] : Fr) ++ lr10) (pts' := []) (eqs := []) (by kernel_rfl) trivial (AllC_nil _) ?_
  refine plain_act (i := 1) (by kernel_rfl) ?_
  refine an_call (d := some 16) (f := 33) (args := [.pointer none]) (by kernel_rfl) Try.call33 (made_n) (F := [Cl r5 [.int .i64 y, .int .u32 z] 79, Cl r1 [.int .i64 x, .int .i64 y, .int .u32 z] 28, R]) h9 ?_
  rintro v K w11 (⟨rfl, rfl⟩) h12
  refine ⟨_, rfl, ?_⟩
  have h13 : sat g w11 [Cl r5 [.int .i64 y, .int .u32 z] 79, Cl r1 [.int .i64 x, .int .i64 y, .int .u32 z] 28, R] := h12
  refine plain_batch (rest := []) [⟨2, [], none⟩, ⟨3, [], none⟩] (l' := ([(14, .bool true), (17, .bool true), (16, .bool false), (15, .pointer none), (0, .pointer none), (1, .agg #[.int .i64 x, .int .i64 y, .int .u32 z]), (2, f), (4, .pointer (some ⟨r1, 0, none⟩)), (6, .int .i64 0), (7, .pointer (some ⟨r5, 0, none⟩))] : Fr) ++ lr10) (pts' := []) (eqs := []) (by kernel_rfl) trivial (AllC_nil _) ?_
  refine PO.mk ?_
  change WP _ _ (CA Try.f36 [1, 1, 0, 0, 1]) _ _ _
  refine fk_cut ([(0, .pointer none), (1, .agg #[.int .i64 x, .int .i64 y, .int .u32 z]), (2, f), (4, .pointer (some ⟨r1, 0, none⟩)), (6, .int .i64 0), (7, .pointer (some ⟨r5, 0, none⟩)), (14, .bool true)] : Fr) (by kernel_rfl) (fun a => WP _ _ _ _ a _) (fun lr14 => ?_)
  refine gi_cnd (x := (Operand.tmp 14)) (s := CA Try.f36 [1, 1, 0, 0, 1, 0]) (t := CA Try.f36 [1, 1, 0, 0, 1, 1]) true (by kernel_rfl) (by kernel_rfl) ?_
  change WP _ _ (CA Try.f36 [1, 1, 0, 0, 1, 0]) _ _ _
  refine gi_seq (x := CA Try.f36 [1, 1, 0, 0, 1, 0, 0]) (y := CA Try.f36 [1, 1, 0, 0, 1, 0, 1]) (by kernel_rfl) ?_
  refine gi_pln (id := 3) (ops := RA Try.f36 [1, 1, 0, 0, 1, 0, 0]) [0] (by kernel_rfl) (by kernel_rfl) (by kernel_rfl) ?_
  refine plain_batch (rest := []) [⟨0, [], none⟩] (l' := ([(6, .int .i64 1), (0, .pointer none), (1, .agg #[.int .i64 x, .int .i64 y, .int .u32 z]), (2, f), (4, .pointer (some ⟨r1, 0, none⟩)), (6, .int .i64 0), (7, .pointer (some ⟨r5, 0, none⟩)), (14, .bool true)] : Fr) ++ lr14) (pts' := []) (eqs := []) (by kernel_rfl) trivial (AllC_nil _) ?_
  refine PO.mk ?_
  change WP _ _ (CA Try.f36 [1, 1, 0, 0, 1, 0, 1]) _ _ _
  refine fk_cut ([(0, .pointer none), (1, .agg #[.int .i64 x, .int .i64 y, .int .u32 z]), (2, f), (4, .pointer (some ⟨r1, 0, none⟩)), (6, .int .i64 1), (7, .pointer (some ⟨r5, 0, none⟩)), (14, .bool true)] : Fr) (by kernel_rfl) (fun a => WP _ _ _ _ a _) (fun lr15 => ?_)
  refine gi_rt (by kernel_rfl) ?_
  repeat (first | simp only [Exit.inBlock] | simp only [Exit.then])
  have h16 : sat g w11 [R] := sat_sel [2] rfl h13
  refine hi_out [] (.int .i64 1) [] (by kernel_rfl) (by intro q hq; cases hq) ?_
  exact ⟨.int .i64 1, [], rfl, ⟨rfl, rfl⟩, h16⟩

set_option maxHeartbeats 4000000 in
theorem fwith_z (b : Nat) (x y z : Int) (f : Value) : HT Try.prog 36 [Value.pointer (some ⟨b, 0, none⟩), Value.agg #[Value.int IntKind.i64 x, Value.int IntKind.i64 y, Value.int IntKind.u32 z], f] [Cl b [Value.pointer none, Value.map none] 63] (fun v K => v = Value.int IntKind.i64 1 ∧ K = [Cl b [Value.pointer none, Value.map none] 63]) := by
  refine hi_in 39 ([(0, .pointer (some ⟨b, 0, none⟩)), (1, .agg #[.int .i64 x, .int .i64 y, .int .u32 z]), (2, f)] : Fr) Try.func36 (by kernel_rfl) Try.ntmps36 rfl rfl ?_
  intro g w0 R h0
  refine gi_seq (x := CA Try.f36 [0]) (y := CA Try.f36 [1]) (by kernel_rfl) ?_
  refine gi_pln (id := 0) (ops := RA Try.f36 [0]) [0, 1] (by kernel_rfl) (by kernel_rfl) (by kernel_rfl) ?_
  refine plain_act (i := 0) (by kernel_rfl) ?_
  refine an_new (d := 4) (fun xb_ => .pointer (some ⟨xb_, 0, none⟩)) (fun xb_ => Obj.cells [.int .i64 x, .int .i64 y, .int .u32 z].toArray 28 (0, 0)) (fun xb_ => by kernel_rfl) (by kernel_rfl) rfl h0 ?_
  intro r1 w2 (h3 : sat g w2 [Cl r1 [.int .i64 x, .int .i64 y, .int .u32 z] 28, Cl b [.pointer none, .map none] 63, R])
  refine plain_batch (rest := []) [⟨1, [], none⟩] (l' := ([(6, .int .i64 0), (4, .pointer (some ⟨r1, 0, none⟩)), (0, .pointer (some ⟨b, 0, none⟩)), (1, .agg #[.int .i64 x, .int .i64 y, .int .u32 z]), (2, f)] : Fr)) (pts' := []) (eqs := []) (by kernel_rfl) trivial (AllC_nil _) ?_
  refine PO.mk ?_
  change WP _ _ (CA Try.f36 [1]) _ _ _
  refine fk_cut ([(0, .pointer (some ⟨b, 0, none⟩)), (1, .agg #[.int .i64 x, .int .i64 y, .int .u32 z]), (2, f), (4, .pointer (some ⟨r1, 0, none⟩)), (6, .int .i64 0)] : Fr) (by kernel_rfl) (fun a => WP _ _ _ _ a _) (fun lr4 => ?_)
  refine gi_seq (x := CA Try.f36 [1, 0]) (y := CA Try.f36 [1, 1]) (by kernel_rfl) ?_
  refine gi_pln (id := 1) (ops := RA Try.f36 [1, 0]) [0, 1, 2, 3, 4, 5, 6] (by kernel_rfl) (by kernel_rfl) (by kernel_rfl) ?_
  refine plain_batch (rest := [5, 6]) [⟨0, [], none⟩, ⟨1, [.int .i64 y], none⟩, ⟨2, [], none⟩, ⟨3, [.int .u32 z], none⟩, ⟨4, [], none⟩] (l' := ([(13, .agg #[.int .i64 y, .int .u32 z]), (12, .int .u32 z), (11, .pointer (some ⟨r1, 2, none⟩)), (10, .int .i64 y), (9, .pointer (some ⟨r1, 1, none⟩)), (0, .pointer (some ⟨b, 0, none⟩)), (1, .agg #[.int .i64 x, .int .i64 y, .int .u32 z]), (2, f), (4, .pointer (some ⟨r1, 0, none⟩)), (6, .int .i64 0)] : Fr) ++ lr4) (pts' := [(3, ⟨r1, 2, none⟩, .int .u32 z), (1, ⟨r1, 1, none⟩, .int .i64 y)]) (eqs := []) (by kernel_rfl) trivial (AllC_cons (sat_cell h3 0 rfl rfl) (AllC_cons (sat_cell h3 0 rfl rfl) (AllC_nil _))) ?_
  refine plain_act (i := 5) (by kernel_rfl) ?_
  refine an_new (d := 7) (fun xb_ => .pointer (some ⟨xb_, 0, none⟩)) (fun xb_ => Obj.cells [.int .i64 0, .int .u32 0].toArray 79 (0, 0)) (fun xb_ => by kernel_rfl) (by kernel_rfl) rfl h3 ?_
  intro r5 w6 (h7 : sat g w6 [Cl r5 [.int .i64 0, .int .u32 0] 79, Cl r1 [.int .i64 x, .int .i64 y, .int .u32 z] 28, Cl b [.pointer none, .map none] 63, R])
  refine plain_act (i := 6) (by kernel_rfl) ?_
  refine an_store [(0, .int .i64 y), (1, .int .u32 z)] (cs' := [.int .i64 y, .int .u32 z]) (by kernel_rfl) (by kernel_rfl) (allq ⟨⟨by simp, rfl⟩, ⟨by simp, rfl⟩, trivial⟩) rfl h7 ?_
  intro w8 (h9 : sat g w8 [Cl r5 [.int .i64 y, .int .u32 z] 79, Cl r1 [.int .i64 x, .int .i64 y, .int .u32 z] 28, Cl b [.pointer none, .map none] 63, R])
  refine PO.mk ?_
  change WP _ _ (CA Try.f36 [1, 1]) _ _ _
  refine fk_cut ([(0, .pointer (some ⟨b, 0, none⟩)), (1, .agg #[.int .i64 x, .int .i64 y, .int .u32 z]), (2, f), (4, .pointer (some ⟨r1, 0, none⟩)), (6, .int .i64 0), (7, .pointer (some ⟨r5, 0, none⟩))] : Fr) (by kernel_rfl) (fun a => WP _ _ _ _ a _) (fun lr10 => ?_)
  refine gi_seq (x := CA Try.f36 [1, 1, 0]) (y := CA Try.f36 [1, 1, 1]) (by kernel_rfl) ?_
  refine gi_blk (id := 0) (x := CA Try.f36 [1, 1, 0, 0]) (by kernel_rfl) ?_
  refine gi_seq (x := CA Try.f36 [1, 1, 0, 0, 0]) (y := CA Try.f36 [1, 1, 0, 0, 1]) (by kernel_rfl) ?_
  refine gi_pln (id := 2) (ops := RA Try.f36 [1, 1, 0, 0, 0]) [0, 1, 2, 3] (by kernel_rfl) (by kernel_rfl) (by kernel_rfl) ?_
  refine plain_batch (rest := [1, 2, 3]) [⟨0, [], none⟩] (l' := ([(15, .pointer (some ⟨b, 0, none⟩)), (0, .pointer (some ⟨b, 0, none⟩)), (1, .agg #[.int .i64 x, .int .i64 y, .int .u32 z]), (2, f), (4, .pointer (some ⟨r1, 0, none⟩)), (6, .int .i64 0), (7, .pointer (some ⟨r5, 0, none⟩))] : Fr) ++ lr10) (pts' := []) (eqs := []) (by kernel_rfl) trivial (AllC_nil _) ?_
  have h11 : sat g w8 [Cl b [.pointer none, .map none] 63, Cl r5 [.int .i64 y, .int .u32 z] 79, Cl r1 [.int .i64 x, .int .i64 y, .int .u32 z] 28, R] := sat_sel [2, 0, 1, 3] rfl h9
  refine plain_act (i := 1) (by kernel_rfl) ?_
  refine an_call (d := some 16) (f := 33) (args := [.pointer (some ⟨b, 0, none⟩)]) (by kernel_rfl) Try.call33 (made_z b) (F := [Cl r5 [.int .i64 y, .int .u32 z] 79, Cl r1 [.int .i64 x, .int .i64 y, .int .u32 z] 28, R]) h11 ?_
  rintro v K w12 (⟨rfl, rfl⟩) h13
  refine ⟨_, rfl, ?_⟩
  have h14 : sat g w12 [Cl b [.pointer none, .map none] 63, Cl r5 [.int .i64 y, .int .u32 z] 79, Cl r1 [.int .i64 x, .int .i64 y, .int .u32 z] 28, R] := h13
  refine plain_batch (rest := []) [⟨2, [], none⟩, ⟨3, [], none⟩] (l' := ([(14, .bool true), (17, .bool true), (16, .bool false), (15, .pointer (some ⟨b, 0, none⟩)), (0, .pointer (some ⟨b, 0, none⟩)), (1, .agg #[.int .i64 x, .int .i64 y, .int .u32 z]), (2, f), (4, .pointer (some ⟨r1, 0, none⟩)), (6, .int .i64 0), (7, .pointer (some ⟨r5, 0, none⟩))] : Fr) ++ lr10) (pts' := []) (eqs := []) (by kernel_rfl) trivial (AllC_nil _) ?_
  refine PO.mk ?_
  change WP _ _ (CA Try.f36 [1, 1, 0, 0, 1]) _ _ _
  refine fk_cut ([(0, .pointer (some ⟨b, 0, none⟩)), (1, .agg #[.int .i64 x, .int .i64 y, .int .u32 z]), (2, f), (4, .pointer (some ⟨r1, 0, none⟩)), (6, .int .i64 0), (7, .pointer (some ⟨r5, 0, none⟩)), (14, .bool true)] : Fr) (by kernel_rfl) (fun a => WP _ _ _ _ a _) (fun lr15 => ?_)
  refine gi_cnd (x := (Operand.tmp 14)) (s := CA Try.f36 [1, 1, 0, 0, 1, 0]) (t := CA Try.f36 [1, 1, 0, 0, 1, 1]) true (by kernel_rfl) (by kernel_rfl) ?_
  change WP _ _ (CA Try.f36 [1, 1, 0, 0, 1, 0]) _ _ _
  refine gi_seq (x := CA Try.f36 [1, 1, 0, 0, 1, 0, 0]) (y := CA Try.f36 [1, 1, 0, 0, 1, 0, 1]) (by kernel_rfl) ?_
  refine gi_pln (id := 3) (ops := RA Try.f36 [1, 1, 0, 0, 1, 0, 0]) [0] (by kernel_rfl) (by kernel_rfl) (by kernel_rfl) ?_
  refine plain_batch (rest := []) [⟨0, [], none⟩] (l' := ([(6, .int .i64 1), (0, .pointer (some ⟨b, 0, none⟩)), (1, .agg #[.int .i64 x, .int .i64 y, .int .u32 z]), (2, f), (4, .pointer (some ⟨r1, 0, none⟩)), (6, .int .i64 0), (7, .pointer (some ⟨r5, 0, none⟩)), (14, .bool true)] : Fr) ++ lr15) (pts' := []) (eqs := []) (by kernel_rfl) trivial (AllC_nil _) ?_
  refine PO.mk ?_
  change WP _ _ (CA Try.f36 [1, 1, 0, 0, 1, 0, 1]) _ _ _
  refine fk_cut ([(0, .pointer (some ⟨b, 0, none⟩)), (1, .agg #[.int .i64 x, .int .i64 y, .int .u32 z]), (2, f), (4, .pointer (some ⟨r1, 0, none⟩)), (6, .int .i64 1), (7, .pointer (some ⟨r5, 0, none⟩)), (14, .bool true)] : Fr) (by kernel_rfl) (fun a => WP _ _ _ _ a _) (fun lr16 => ?_)
  refine gi_rt (by kernel_rfl) ?_
  repeat (first | simp only [Exit.inBlock] | simp only [Exit.then])
  have h17 : sat g w12 [Cl b [.pointer none, .map none] 63, R] := sat_sel [0, 3] rfl h14
  refine hi_out [] (.int .i64 1) [] (by kernel_rfl) (by intro q hq; cases hq) ?_
  exact ⟨.int .i64 1, [Cl b [.pointer none, .map none] 63], rfl, ⟨rfl, rfl⟩, h17⟩

set_option maxHeartbeats 4000000 in
theorem fclose_n (x y z : Int) : HT Try.prog 14 [Value.pointer none, Value.agg #[Value.int IntKind.i64 x, Value.int IntKind.i64 y, Value.int IntKind.u32 z]] [] (fun v K => v = Value.int IntKind.i64 1 ∧ K = []) := by
  refine hi_in 20 ([(0, .pointer none), (1, .agg #[.int .i64 x, .int .i64 y, .int .u32 z])] : Fr) Try.func14 (by kernel_rfl) Try.ntmps14 rfl rfl ?_
  intro g w0 R h0
  refine gi_seq (x := CA Try.f14 [0]) (y := CA Try.f14 [1]) (by kernel_rfl) ?_
  refine gi_pln (id := 0) (ops := RA Try.f14 [0]) [0, 1, 2] (by kernel_rfl) (by kernel_rfl) (by kernel_rfl) ?_
  refine plain_act (i := 0) (by kernel_rfl) ?_
  refine an_new (d := 2) (fun xb_ => .pointer (some ⟨xb_, 0, none⟩)) (fun xb_ => Obj.cells [.pointer none].toArray 24 (0, 0)) (fun xb_ => by kernel_rfl) (by kernel_rfl) rfl h0 ?_
  intro r1 w2 (h3 : sat g w2 [Cl r1 [.pointer none] 24, R])
  refine plain_act (i := 1) (by kernel_rfl) ?_
  refine an_new (d := 3) (fun xb_ => .pointer (some ⟨xb_, 0, none⟩)) (fun xb_ => Obj.cells [.int .i64 x, .int .i64 y, .int .u32 z].toArray 28 (0, 0)) (fun xb_ => by kernel_rfl) (by kernel_rfl) rfl h3 ?_
  intro r4 w5 (h6 : sat g w5 [Cl r4 [.int .i64 x, .int .i64 y, .int .u32 z] 28, Cl r1 [.pointer none] 24, R])
  refine plain_batch (rest := []) [⟨2, [], none⟩] (l' := ([(4, .int .i64 0), (3, .pointer (some ⟨r4, 0, none⟩)), (2, .pointer (some ⟨r1, 0, none⟩)), (0, .pointer none), (1, .agg #[.int .i64 x, .int .i64 y, .int .u32 z])] : Fr)) (pts' := []) (eqs := []) (by kernel_rfl) trivial (AllC_nil _) ?_
  refine PO.mk ?_
  change WP _ _ (CA Try.f14 [1]) _ _ _
  refine fk_cut ([(0, .pointer none), (1, .agg #[.int .i64 x, .int .i64 y, .int .u32 z]), (2, .pointer (some ⟨r1, 0, none⟩)), (3, .pointer (some ⟨r4, 0, none⟩)), (4, .int .i64 0)] : Fr) (by kernel_rfl) (fun a => WP _ _ _ _ a _) (fun lr7 => ?_)
  refine gi_seq (x := CA Try.f14 [1, 0]) (y := CA Try.f14 [1, 1]) (by kernel_rfl) ?_
  refine gi_pln (id := 1) (ops := RA Try.f14 [1, 0]) [0] (by kernel_rfl) (by kernel_rfl) (by kernel_rfl) ?_
  refine plain_act (i := 0) (by kernel_rfl) ?_
  refine an_new (d := 5) (fun xb_ => .pointer (some ⟨xb_, 0, none⟩)) (fun xb_ => Obj.cells [.int .i64 0].toArray 29 (0, 0)) (fun xb_ => by kernel_rfl) (by kernel_rfl) rfl h6 ?_
  intro r8 w9 (h10 : sat g w9 [Cl r8 [.int .i64 0] 29, Cl r4 [.int .i64 x, .int .i64 y, .int .u32 z] 28, Cl r1 [.pointer none] 24, R])
  refine PO.mk ?_
  change WP _ _ (CA Try.f14 [1, 1]) _ _ _
  refine fk_cut ([(0, .pointer none), (1, .agg #[.int .i64 x, .int .i64 y, .int .u32 z]), (2, .pointer (some ⟨r1, 0, none⟩)), (3, .pointer (some ⟨r4, 0, none⟩)), (4, .int .i64 0), (5, .pointer (some ⟨r8, 0, none⟩))] : Fr) (by kernel_rfl) (fun a => WP _ _ _ _ a _) (fun lr11 => ?_)
  refine gi_seq (x := CA Try.f14 [1, 1, 0]) (y := CA Try.f14 [1, 1, 1]) (by kernel_rfl) ?_
  refine gi_seq (x := CA Try.f14 [1, 1, 0, 0]) (y := CA Try.f14 [1, 1, 0, 1]) (by kernel_rfl) ?_
  refine gi_pln (id := 2) (ops := RA Try.f14 [1, 1, 0, 0]) [0, 1, 2, 3, 4] (by kernel_rfl) (by kernel_rfl) (by kernel_rfl) ?_
  refine plain_batch (rest := [3, 4]) [⟨0, [.pointer none], none⟩, ⟨1, [.int .i64 x, .int .i64 y, .int .u32 z], none⟩, ⟨2, [], none⟩] (l' := ([(9, .func (Fn.func 38) #[] #[.pointer (some ⟨r1, 0, none⟩), .pointer (some ⟨r8, 0, none⟩)]), (8, .agg #[.int .i64 x, .int .i64 y, .int .u32 z]), (7, .pointer none), (0, .pointer none), (1, .agg #[.int .i64 x, .int .i64 y, .int .u32 z]), (2, .pointer (some ⟨r1, 0, none⟩)), (3, .pointer (some ⟨r4, 0, none⟩)), (4, .int .i64 0), (5, .pointer (some ⟨r8, 0, none⟩))] : Fr) ++ lr11) (pts' := [(1, ⟨r4, 0, none⟩, .int .i64 x), (1, ⟨r4, 1, none⟩, .int .i64 y), (1, ⟨r4, 2, none⟩, .int .u32 z), (0, ⟨r1, 0, none⟩, .pointer none)]) (eqs := []) (by kernel_rfl) trivial (AllC_cons (sat_cell h10 1 rfl rfl) (AllC_cons (sat_cell h10 1 rfl rfl) (AllC_cons (sat_cell h10 1 rfl rfl) (AllC_cons (sat_cell h10 2 rfl rfl) (AllC_nil _))))) ?_
  refine plain_act (i := 3) (by kernel_rfl) ?_
  refine an_call (d := some 10) (f := 36) (args := [.pointer none, .agg #[.int .i64 x, .int .i64 y, .int .u32 z], .func (Fn.func 38) #[] #[.pointer (some ⟨r1, 0, none⟩), .pointer (some ⟨r8, 0, none⟩)]]) (by kernel_rfl) Try.call36 (fwith_n x y z (.func (Fn.func 38) #[] #[.pointer (some ⟨r1, 0, none⟩), .pointer (some ⟨r8, 0, none⟩)])) (F := [Cl r8 [.int .i64 0] 29, Cl r4 [.int .i64 x, .int .i64 y, .int .u32 z] 28, Cl r1 [.pointer none] 24, R]) h10 ?_
  rintro v K w12 (⟨rfl, rfl⟩) h13
  refine ⟨_, rfl, ?_⟩
  have h14 : sat g w12 [Cl r8 [.int .i64 0] 29, Cl r4 [.int .i64 x, .int .i64 y, .int .u32 z] 28, Cl r1 [.pointer none] 24, R] := h13
  refine plain_batch (rest := []) [⟨4, [], none⟩] (l' := ([(6, .int .i64 1), (10, .int .i64 1), (9, .func (Fn.func 38) #[] #[.pointer (some ⟨r1, 0, none⟩), .pointer (some ⟨r8, 0, none⟩)]), (8, .agg #[.int .i64 x, .int .i64 y, .int .u32 z]), (7, .pointer none), (0, .pointer none), (1, .agg #[.int .i64 x, .int .i64 y, .int .u32 z]), (2, .pointer (some ⟨r1, 0, none⟩)), (3, .pointer (some ⟨r4, 0, none⟩)), (4, .int .i64 0), (5, .pointer (some ⟨r8, 0, none⟩))] : Fr) ++ lr11) (pts' := []) (eqs := []) (by kernel_rfl) trivial (AllC_nil _) ?_
  refine PO.mk ?_
  change WP _ _ (CA Try.f14 [1, 1, 0, 1]) _ _ _
  refine fk_cut ([(0, .pointer none), (1, .agg #[.int .i64 x, .int .i64 y, .int .u32 z]), (2, .pointer (some ⟨r1, 0, none⟩)), (3, .pointer (some ⟨r4, 0, none⟩)), (4, .int .i64 0), (5, .pointer (some ⟨r8, 0, none⟩)), (6, .int .i64 1)] : Fr) (by kernel_rfl) (fun a => WP _ _ _ _ a _) (fun lr15 => ?_)
  refine gi_seq (x := CA Try.f14 [1, 1, 0, 1, 0]) (y := CA Try.f14 [1, 1, 0, 1, 1]) (by kernel_rfl) ?_
  refine gi_pln (id := 3) (ops := RA Try.f14 [1, 1, 0, 1, 0]) [0, 1] (by kernel_rfl) (by kernel_rfl) (by kernel_rfl) ?_
  refine plain_batch (rest := []) [⟨0, [], none⟩, ⟨1, [], none⟩] (l' := ([(12, .bool true), (11, .int .i64 1), (0, .pointer none), (1, .agg #[.int .i64 x, .int .i64 y, .int .u32 z]), (2, .pointer (some ⟨r1, 0, none⟩)), (3, .pointer (some ⟨r4, 0, none⟩)), (4, .int .i64 0), (5, .pointer (some ⟨r8, 0, none⟩)), (6, .int .i64 1)] : Fr) ++ lr15) (pts' := []) (eqs := []) (by kernel_rfl) trivial (AllC_nil _) ?_
  refine PO.mk ?_
  change WP _ _ (CA Try.f14 [1, 1, 0, 1, 1]) _ _ _
  refine fk_cut ([(0, .pointer none), (1, .agg #[.int .i64 x, .int .i64 y, .int .u32 z]), (2, .pointer (some ⟨r1, 0, none⟩)), (3, .pointer (some ⟨r4, 0, none⟩)), (4, .int .i64 0), (5, .pointer (some ⟨r8, 0, none⟩)), (6, .int .i64 1), (12, .bool true)] : Fr) (by kernel_rfl) (fun a => WP _ _ _ _ a _) (fun lr16 => ?_)
  refine gi_cnd (x := (Operand.tmp 12)) (s := CA Try.f14 [1, 1, 0, 1, 1, 0]) (t := CA Try.f14 [1, 1, 0, 1, 1, 1]) true (by kernel_rfl) (by kernel_rfl) ?_
  change WP _ _ (CA Try.f14 [1, 1, 0, 1, 1, 0]) _ _ _
  refine gi_seq (x := CA Try.f14 [1, 1, 0, 1, 1, 0, 0]) (y := CA Try.f14 [1, 1, 0, 1, 1, 0, 1]) (by kernel_rfl) ?_
  refine gi_pln (id := 4) (ops := RA Try.f14 [1, 1, 0, 1, 1, 0, 0]) [0, 1] (by kernel_rfl) (by kernel_rfl) (by kernel_rfl) ?_
  refine plain_batch (rest := []) [⟨0, [], none⟩, ⟨1, [], none⟩] (l' := ([(4, .int .i64 1), (13, .int .i64 1), (0, .pointer none), (1, .agg #[.int .i64 x, .int .i64 y, .int .u32 z]), (2, .pointer (some ⟨r1, 0, none⟩)), (3, .pointer (some ⟨r4, 0, none⟩)), (4, .int .i64 0), (5, .pointer (some ⟨r8, 0, none⟩)), (6, .int .i64 1), (12, .bool true)] : Fr) ++ lr16) (pts' := []) (eqs := []) (by kernel_rfl) trivial (AllC_nil _) ?_
  refine PO.mk ?_
  change WP _ _ (CA Try.f14 [1, 1, 0, 1, 1, 0, 1]) _ _ _
  refine fk_cut ([(0, .pointer none), (1, .agg #[.int .i64 x, .int .i64 y, .int .u32 z]), (2, .pointer (some ⟨r1, 0, none⟩)), (3, .pointer (some ⟨r4, 0, none⟩)), (4, .int .i64 1), (5, .pointer (some ⟨r8, 0, none⟩)), (6, .int .i64 1), (12, .bool true)] : Fr) (by kernel_rfl) (fun a => WP _ _ _ _ a _) (fun lr17 => ?_)
  refine gi_rt (by kernel_rfl) ?_
  repeat (first | simp only [Exit.inBlock] | simp only [Exit.then])
  have h18 : sat g w12 [R] := sat_sel [3] rfl h14
  refine hi_out [] (.int .i64 1) [] (by kernel_rfl) (by intro q hq; cases hq) ?_
  exact ⟨.int .i64 1, [], rfl, ⟨rfl, rfl⟩, h18⟩

set_option maxHeartbeats 4000000 in
theorem fclose_z (b : Nat) (x y z : Int) : HT Try.prog 14 [Value.pointer (some ⟨b, 0, none⟩), Value.agg #[Value.int IntKind.i64 x, Value.int IntKind.i64 y, Value.int IntKind.u32 z]] [Cl b [Value.pointer none, Value.map none] 63] (fun v K => v = Value.int IntKind.i64 1 ∧ K = [Cl b [Value.pointer none, Value.map none] 63]) := by
  refine hi_in 20 ([(0, .pointer (some ⟨b, 0, none⟩)), (1, .agg #[.int .i64 x, .int .i64 y, .int .u32 z])] : Fr) Try.func14 (by kernel_rfl) Try.ntmps14 rfl rfl ?_
  intro g w0 R h0
  refine gi_seq (x := CA Try.f14 [0]) (y := CA Try.f14 [1]) (by kernel_rfl) ?_
  refine gi_pln (id := 0) (ops := RA Try.f14 [0]) [0, 1, 2] (by kernel_rfl) (by kernel_rfl) (by kernel_rfl) ?_
  refine plain_act (i := 0) (by kernel_rfl) ?_
  refine an_new (d := 2) (fun xb_ => .pointer (some ⟨xb_, 0, none⟩)) (fun xb_ => Obj.cells [.pointer (some ⟨b, 0, none⟩)].toArray 24 (0, 0)) (fun xb_ => by kernel_rfl) (by kernel_rfl) rfl h0 ?_
  intro r1 w2 (h3 : sat g w2 [Cl r1 [.pointer (some ⟨b, 0, none⟩)] 24, Cl b [.pointer none, .map none] 63, R])
  refine plain_act (i := 1) (by kernel_rfl) ?_
  refine an_new (d := 3) (fun xb_ => .pointer (some ⟨xb_, 0, none⟩)) (fun xb_ => Obj.cells [.int .i64 x, .int .i64 y, .int .u32 z].toArray 28 (0, 0)) (fun xb_ => by kernel_rfl) (by kernel_rfl) rfl h3 ?_
  intro r4 w5 (h6 : sat g w5 [Cl r4 [.int .i64 x, .int .i64 y, .int .u32 z] 28, Cl r1 [.pointer (some ⟨b, 0, none⟩)] 24, Cl b [.pointer none, .map none] 63, R])
  refine plain_batch (rest := []) [⟨2, [], none⟩] (l' := ([(4, .int .i64 0), (3, .pointer (some ⟨r4, 0, none⟩)), (2, .pointer (some ⟨r1, 0, none⟩)), (0, .pointer (some ⟨b, 0, none⟩)), (1, .agg #[.int .i64 x, .int .i64 y, .int .u32 z])] : Fr)) (pts' := []) (eqs := []) (by kernel_rfl) trivial (AllC_nil _) ?_
  refine PO.mk ?_
  change WP _ _ (CA Try.f14 [1]) _ _ _
  refine fk_cut ([(0, .pointer (some ⟨b, 0, none⟩)), (1, .agg #[.int .i64 x, .int .i64 y, .int .u32 z]), (2, .pointer (some ⟨r1, 0, none⟩)), (3, .pointer (some ⟨r4, 0, none⟩)), (4, .int .i64 0)] : Fr) (by kernel_rfl) (fun a => WP _ _ _ _ a _) (fun lr7 => ?_)
  refine gi_seq (x := CA Try.f14 [1, 0]) (y := CA Try.f14 [1, 1]) (by kernel_rfl) ?_
  refine gi_pln (id := 1) (ops := RA Try.f14 [1, 0]) [0] (by kernel_rfl) (by kernel_rfl) (by kernel_rfl) ?_
  refine plain_act (i := 0) (by kernel_rfl) ?_
  refine an_new (d := 5) (fun xb_ => .pointer (some ⟨xb_, 0, none⟩)) (fun xb_ => Obj.cells [.int .i64 0].toArray 29 (0, 0)) (fun xb_ => by kernel_rfl) (by kernel_rfl) rfl h6 ?_
  intro r8 w9 (h10 : sat g w9 [Cl r8 [.int .i64 0] 29, Cl r4 [.int .i64 x, .int .i64 y, .int .u32 z] 28, Cl r1 [.pointer (some ⟨b, 0, none⟩)] 24, Cl b [.pointer none, .map none] 63, R])
  refine PO.mk ?_
  change WP _ _ (CA Try.f14 [1, 1]) _ _ _
  refine fk_cut ([(0, .pointer (some ⟨b, 0, none⟩)), (1, .agg #[.int .i64 x, .int .i64 y, .int .u32 z]), (2, .pointer (some ⟨r1, 0, none⟩)), (3, .pointer (some ⟨r4, 0, none⟩)), (4, .int .i64 0), (5, .pointer (some ⟨r8, 0, none⟩))] : Fr) (by kernel_rfl) (fun a => WP _ _ _ _ a _) (fun lr11 => ?_)
  refine gi_seq (x := CA Try.f14 [1, 1, 0]) (y := CA Try.f14 [1, 1, 1]) (by kernel_rfl) ?_
  refine gi_seq (x := CA Try.f14 [1, 1, 0, 0]) (y := CA Try.f14 [1, 1, 0, 1]) (by kernel_rfl) ?_
  refine gi_pln (id := 2) (ops := RA Try.f14 [1, 1, 0, 0]) [0, 1, 2, 3, 4] (by kernel_rfl) (by kernel_rfl) (by kernel_rfl) ?_
  refine plain_batch (rest := [3, 4]) [⟨0, [.pointer (some ⟨b, 0, none⟩)], none⟩, ⟨1, [.int .i64 x, .int .i64 y, .int .u32 z], none⟩, ⟨2, [], none⟩] (l' := ([(9, .func (Fn.func 38) #[] #[.pointer (some ⟨r1, 0, none⟩), .pointer (some ⟨r8, 0, none⟩)]), (8, .agg #[.int .i64 x, .int .i64 y, .int .u32 z]), (7, .pointer (some ⟨b, 0, none⟩)), (0, .pointer (some ⟨b, 0, none⟩)), (1, .agg #[.int .i64 x, .int .i64 y, .int .u32 z]), (2, .pointer (some ⟨r1, 0, none⟩)), (3, .pointer (some ⟨r4, 0, none⟩)), (4, .int .i64 0), (5, .pointer (some ⟨r8, 0, none⟩))] : Fr) ++ lr11) (pts' := [(1, ⟨r4, 0, none⟩, .int .i64 x), (1, ⟨r4, 1, none⟩, .int .i64 y), (1, ⟨r4, 2, none⟩, .int .u32 z), (0, ⟨r1, 0, none⟩, .pointer (some ⟨b, 0, none⟩))]) (eqs := []) (by kernel_rfl) trivial (AllC_cons (sat_cell h10 1 rfl rfl) (AllC_cons (sat_cell h10 1 rfl rfl) (AllC_cons (sat_cell h10 1 rfl rfl) (AllC_cons (sat_cell h10 2 rfl rfl) (AllC_nil _))))) ?_
  have h12 : sat g w9 [Cl b [.pointer none, .map none] 63, Cl r8 [.int .i64 0] 29, Cl r4 [.int .i64 x, .int .i64 y, .int .u32 z] 28, Cl r1 [.pointer (some ⟨b, 0, none⟩)] 24, R] := sat_sel [3, 0, 1, 2, 4] rfl h10
  refine plain_act (i := 3) (by kernel_rfl) ?_
  refine an_call (d := some 10) (f := 36) (args := [.pointer (some ⟨b, 0, none⟩), .agg #[.int .i64 x, .int .i64 y, .int .u32 z], .func (Fn.func 38) #[] #[.pointer (some ⟨r1, 0, none⟩), .pointer (some ⟨r8, 0, none⟩)]]) (by kernel_rfl) Try.call36 (fwith_z b x y z (.func (Fn.func 38) #[] #[.pointer (some ⟨r1, 0, none⟩), .pointer (some ⟨r8, 0, none⟩)])) (F := [Cl r8 [.int .i64 0] 29, Cl r4 [.int .i64 x, .int .i64 y, .int .u32 z] 28, Cl r1 [.pointer (some ⟨b, 0, none⟩)] 24, R]) h12 ?_
  rintro v K w13 (⟨rfl, rfl⟩) h14
  refine ⟨_, rfl, ?_⟩
  have h15 : sat g w13 [Cl b [.pointer none, .map none] 63, Cl r8 [.int .i64 0] 29, Cl r4 [.int .i64 x, .int .i64 y, .int .u32 z] 28, Cl r1 [.pointer (some ⟨b, 0, none⟩)] 24, R] := h14
  refine plain_batch (rest := []) [⟨4, [], none⟩] (l' := ([(6, .int .i64 1), (10, .int .i64 1), (9, .func (Fn.func 38) #[] #[.pointer (some ⟨r1, 0, none⟩), .pointer (some ⟨r8, 0, none⟩)]), (8, .agg #[.int .i64 x, .int .i64 y, .int .u32 z]), (7, .pointer (some ⟨b, 0, none⟩)), (0, .pointer (some ⟨b, 0, none⟩)), (1, .agg #[.int .i64 x, .int .i64 y, .int .u32 z]), (2, .pointer (some ⟨r1, 0, none⟩)), (3, .pointer (some ⟨r4, 0, none⟩)), (4, .int .i64 0), (5, .pointer (some ⟨r8, 0, none⟩))] : Fr) ++ lr11) (pts' := []) (eqs := []) (by kernel_rfl) trivial (AllC_nil _) ?_
  refine PO.mk ?_
  change WP _ _ (CA Try.f14 [1, 1, 0, 1]) _ _ _
  refine fk_cut ([(0, .pointer (some ⟨b, 0, none⟩)), (1, .agg #[.int .i64 x, .int .i64 y, .int .u32 z]), (2, .pointer (some ⟨r1, 0, none⟩)), (3, .pointer (some ⟨r4, 0, none⟩)), (4, .int .i64 0), (5, .pointer (some ⟨r8, 0, none⟩)), (6, .int .i64 1)] : Fr) (by kernel_rfl) (fun a => WP _ _ _ _ a _) (fun lr16 => ?_)
  refine gi_seq (x := CA Try.f14 [1, 1, 0, 1, 0]) (y := CA Try.f14 [1, 1, 0, 1, 1]) (by kernel_rfl) ?_
  refine gi_pln (id := 3) (ops := RA Try.f14 [1, 1, 0, 1, 0]) [0, 1] (by kernel_rfl) (by kernel_rfl) (by kernel_rfl) ?_
  refine plain_batch (rest := []) [⟨0, [], none⟩, ⟨1, [], none⟩] (l' := ([(12, .bool true), (11, .int .i64 1), (0, .pointer (some ⟨b, 0, none⟩)), (1, .agg #[.int .i64 x, .int .i64 y, .int .u32 z]), (2, .pointer (some ⟨r1, 0, none⟩)), (3, .pointer (some ⟨r4, 0, none⟩)), (4, .int .i64 0), (5, .pointer (some ⟨r8, 0, none⟩)), (6, .int .i64 1)] : Fr) ++ lr16) (pts' := []) (eqs := []) (by kernel_rfl) trivial (AllC_nil _) ?_
  refine PO.mk ?_
  change WP _ _ (CA Try.f14 [1, 1, 0, 1, 1]) _ _ _
  refine fk_cut ([(0, .pointer (some ⟨b, 0, none⟩)), (1, .agg #[.int .i64 x, .int .i64 y, .int .u32 z]), (2, .pointer (some ⟨r1, 0, none⟩)), (3, .pointer (some ⟨r4, 0, none⟩)), (4, .int .i64 0), (5, .pointer (some ⟨r8, 0, none⟩)), (6, .int .i64 1), (12, .bool true)] : Fr) (by kernel_rfl) (fun a => WP _ _ _ _ a _) (fun lr17 => ?_)
  refine gi_cnd (x := (Operand.tmp 12)) (s := CA Try.f14 [1, 1, 0, 1, 1, 0]) (t := CA Try.f14 [1, 1, 0, 1, 1, 1]) true (by kernel_rfl) (by kernel_rfl) ?_
  change WP _ _ (CA Try.f14 [1, 1, 0, 1, 1, 0]) _ _ _
  refine gi_seq (x := CA Try.f14 [1, 1, 0, 1, 1, 0, 0]) (y := CA Try.f14 [1, 1, 0, 1, 1, 0, 1]) (by kernel_rfl) ?_
  refine gi_pln (id := 4) (ops := RA Try.f14 [1, 1, 0, 1, 1, 0, 0]) [0, 1] (by kernel_rfl) (by kernel_rfl) (by kernel_rfl) ?_
  refine plain_batch (rest := []) [⟨0, [], none⟩, ⟨1, [], none⟩] (l' := ([(4, .int .i64 1), (13, .int .i64 1), (0, .pointer (some ⟨b, 0, none⟩)), (1, .agg #[.int .i64 x, .int .i64 y, .int .u32 z]), (2, .pointer (some ⟨r1, 0, none⟩)), (3, .pointer (some ⟨r4, 0, none⟩)), (4, .int .i64 0), (5, .pointer (some ⟨r8, 0, none⟩)), (6, .int .i64 1), (12, .bool true)] : Fr) ++ lr17) (pts' := []) (eqs := []) (by kernel_rfl) trivial (AllC_nil _) ?_
  refine PO.mk ?_
  change WP _ _ (CA Try.f14 [1, 1, 0, 1, 1, 0, 1]) _ _ _
  refine fk_cut ([(0, .pointer (some ⟨b, 0, none⟩)), (1, .agg #[.int .i64 x, .int .i64 y, .int .u32 z]), (2, .pointer (some ⟨r1, 0, none⟩)), (3, .pointer (some ⟨r4, 0, none⟩)), (4, .int .i64 1), (5, .pointer (some ⟨r8, 0, none⟩)), (6, .int .i64 1), (12, .bool true)] : Fr) (by kernel_rfl) (fun a => WP _ _ _ _ a _) (fun lr18 => ?_)
  refine gi_rt (by kernel_rfl) ?_
  repeat (first | simp only [Exit.inBlock] | simp only [Exit.then])
  have h19 : sat g w13 [Cl b [.pointer none, .map none] 63, R] := sat_sel [0, 4] rfl h15
  refine hi_out [] (.int .i64 1) [] (by kernel_rfl) (by intro q hq; cases hq) ?_
  exact ⟨.int .i64 1, [Cl b [.pointer none, .map none] 63], rfl, ⟨rfl, rfl⟩, h19⟩

set_option maxHeartbeats 4000000 in
theorem fnum_n (x y z : Int) : HT Try.prog 13 [Value.pointer none, Value.agg #[Value.int IntKind.i64 x, Value.int IntKind.i64 y, Value.int IntKind.u32 z]] [] (fun v K => v = Value.tuple #[Value.int IntKind.i64 0, Value.int IntKind.i64 1] ∧ K = []) := by
  refine hi_in 14 ([(0, .pointer none), (1, .agg #[.int .i64 x, .int .i64 y, .int .u32 z])] : Fr) Try.func13 (by kernel_rfl) Try.ntmps13 rfl rfl ?_
  intro g w0 R h0
  refine gi_seq (x := CA Try.f13 [0]) (y := CA Try.f13 [1]) (by kernel_rfl) ?_
  refine gi_pln (id := 0) (ops := RA Try.f13 [0]) [0, 1, 2, 3] (by kernel_rfl) (by kernel_rfl) (by kernel_rfl) ?_
  refine plain_act (i := 0) (by kernel_rfl) ?_
  refine an_new (d := 2) (fun xb_ => .pointer (some ⟨xb_, 0, none⟩)) (fun xb_ => Obj.cells [.pointer none].toArray 24 (0, 0)) (fun xb_ => by kernel_rfl) (by kernel_rfl) rfl h0 ?_
  intro r1 w2 (h3 : sat g w2 [Cl r1 [.pointer none] 24, R])
  refine plain_act (i := 1) (by kernel_rfl) ?_
  refine an_new (d := 3) (fun xb_ => .pointer (some ⟨xb_, 0, none⟩)) (fun xb_ => Obj.cells [.int .i64 x, .int .i64 y, .int .u32 z].toArray 28 (0, 0)) (fun xb_ => by kernel_rfl) (by kernel_rfl) rfl h3 ?_
  intro r4 w5 (h6 : sat g w5 [Cl r4 [.int .i64 x, .int .i64 y, .int .u32 z] 28, Cl r1 [.pointer none] 24, R])
  refine plain_batch (rest := []) [⟨2, [], none⟩, ⟨3, [], none⟩] (l' := ([(5, .int .i64 0), (4, .int .i64 0), (3, .pointer (some ⟨r4, 0, none⟩)), (2, .pointer (some ⟨r1, 0, none⟩)), (0, .pointer none), (1, .agg #[.int .i64 x, .int .i64 y, .int .u32 z])] : Fr)) (pts' := []) (eqs := []) (by kernel_rfl) trivial (AllC_nil _) ?_
  refine PO.mk ?_
  change WP _ _ (CA Try.f13 [1]) _ _ _
  refine fk_cut ([(0, .pointer none), (1, .agg #[.int .i64 x, .int .i64 y, .int .u32 z]), (2, .pointer (some ⟨r1, 0, none⟩)), (3, .pointer (some ⟨r4, 0, none⟩)), (4, .int .i64 0), (5, .int .i64 0)] : Fr) (by kernel_rfl) (fun a => WP _ _ _ _ a _) (fun lr7 => ?_)
  refine gi_seq (x := CA Try.f13 [1, 0]) (y := CA Try.f13 [1, 1]) (by kernel_rfl) ?_
  refine gi_pln (id := 1) (ops := RA Try.f13 [1, 0]) [0, 1] (by kernel_rfl) (by kernel_rfl) (by kernel_rfl) ?_
  refine plain_act (i := 0) (by kernel_rfl) ?_
  refine an_new (d := 6) (fun xb_ => .pointer (some ⟨xb_, 0, none⟩)) (fun xb_ => Obj.cells [.int .i64 0].toArray 3 (0, 0)) (fun xb_ => by kernel_rfl) (by kernel_rfl) rfl h6 ?_
  intro r8 w9 (h10 : sat g w9 [Cl r8 [.int .i64 0] 3, Cl r4 [.int .i64 x, .int .i64 y, .int .u32 z] 28, Cl r1 [.pointer none] 24, R])
  refine plain_act (i := 1) (by kernel_rfl) ?_
  refine an_store [(0, .int .i64 0)] (cs' := [.int .i64 0]) (by kernel_rfl) (by kernel_rfl) (allq ⟨⟨by simp, rfl⟩, trivial⟩) rfl h10 ?_
  intro w11 (h12 : sat g w11 [Cl r8 [.int .i64 0] 3, Cl r4 [.int .i64 x, .int .i64 y, .int .u32 z] 28, Cl r1 [.pointer none] 24, R])
  refine PO.mk ?_
  change WP _ _ (CA Try.f13 [1, 1]) _ _ _
  refine fk_cut ([(0, .pointer none), (1, .agg #[.int .i64 x, .int .i64 y, .int .u32 z]), (2, .pointer (some ⟨r1, 0, none⟩)), (3, .pointer (some ⟨r4, 0, none⟩)), (4, .int .i64 0), (5, .int .i64 0), (6, .pointer (some ⟨r8, 0, none⟩))] : Fr) (by kernel_rfl) (fun a => WP _ _ _ _ a _) (fun lr13 => ?_)
  refine gi_seq (x := CA Try.f13 [1, 1, 0]) (y := CA Try.f13 [1, 1, 1]) (by kernel_rfl) ?_
  refine gi_pln (id := 2) (ops := RA Try.f13 [1, 1, 0]) [0, 1, 2, 3, 4] (by kernel_rfl) (by kernel_rfl) (by kernel_rfl) ?_
  refine plain_batch (rest := [3, 4]) [⟨0, [.pointer none], none⟩, ⟨1, [.int .i64 x, .int .i64 y, .int .u32 z], none⟩, ⟨2, [], none⟩] (l' := ([(10, .func (Fn.func 37) #[] #[.pointer (some ⟨r1, 0, none⟩), .pointer (some ⟨r4, 0, none⟩), .pointer (some ⟨r8, 0, none⟩)]), (9, .agg #[.int .i64 x, .int .i64 y, .int .u32 z]), (8, .pointer none), (0, .pointer none), (1, .agg #[.int .i64 x, .int .i64 y, .int .u32 z]), (2, .pointer (some ⟨r1, 0, none⟩)), (3, .pointer (some ⟨r4, 0, none⟩)), (4, .int .i64 0), (5, .int .i64 0), (6, .pointer (some ⟨r8, 0, none⟩))] : Fr) ++ lr13) (pts' := [(1, ⟨r4, 0, none⟩, .int .i64 x), (1, ⟨r4, 1, none⟩, .int .i64 y), (1, ⟨r4, 2, none⟩, .int .u32 z), (0, ⟨r1, 0, none⟩, .pointer none)]) (eqs := []) (by kernel_rfl) trivial (AllC_cons (sat_cell h12 1 rfl rfl) (AllC_cons (sat_cell h12 1 rfl rfl) (AllC_cons (sat_cell h12 1 rfl rfl) (AllC_cons (sat_cell h12 2 rfl rfl) (AllC_nil _))))) ?_
  refine plain_act (i := 3) (by kernel_rfl) ?_
  refine an_call (d := some 11) (f := 36) (args := [.pointer none, .agg #[.int .i64 x, .int .i64 y, .int .u32 z], .func (Fn.func 37) #[] #[.pointer (some ⟨r1, 0, none⟩), .pointer (some ⟨r4, 0, none⟩), .pointer (some ⟨r8, 0, none⟩)]]) (by kernel_rfl) Try.call36 (fwith_n x y z (.func (Fn.func 37) #[] #[.pointer (some ⟨r1, 0, none⟩), .pointer (some ⟨r4, 0, none⟩), .pointer (some ⟨r8, 0, none⟩)])) (F := [Cl r8 [.int .i64 0] 3, Cl r4 [.int .i64 x, .int .i64 y, .int .u32 z] 28, Cl r1 [.pointer none] 24, R]) h12 ?_
  rintro v K w14 (⟨rfl, rfl⟩) h15
  refine ⟨_, rfl, ?_⟩
  have h16 : sat g w14 [Cl r8 [.int .i64 0] 3, Cl r4 [.int .i64 x, .int .i64 y, .int .u32 z] 28, Cl r1 [.pointer none] 24, R] := h15
  refine plain_batch (rest := []) [⟨4, [], none⟩] (l' := ([(7, .int .i64 1), (11, .int .i64 1), (10, .func (Fn.func 37) #[] #[.pointer (some ⟨r1, 0, none⟩), .pointer (some ⟨r4, 0, none⟩), .pointer (some ⟨r8, 0, none⟩)]), (9, .agg #[.int .i64 x, .int .i64 y, .int .u32 z]), (8, .pointer none), (0, .pointer none), (1, .agg #[.int .i64 x, .int .i64 y, .int .u32 z]), (2, .pointer (some ⟨r1, 0, none⟩)), (3, .pointer (some ⟨r4, 0, none⟩)), (4, .int .i64 0), (5, .int .i64 0), (6, .pointer (some ⟨r8, 0, none⟩))] : Fr) ++ lr13) (pts' := []) (eqs := []) (by kernel_rfl) trivial (AllC_nil _) ?_
  refine PO.mk ?_
  change WP _ _ (CA Try.f13 [1, 1, 1]) _ _ _
  refine fk_cut ([(0, .pointer none), (1, .agg #[.int .i64 x, .int .i64 y, .int .u32 z]), (2, .pointer (some ⟨r1, 0, none⟩)), (3, .pointer (some ⟨r4, 0, none⟩)), (4, .int .i64 0), (5, .int .i64 0), (6, .pointer (some ⟨r8, 0, none⟩)), (7, .int .i64 1)] : Fr) (by kernel_rfl) (fun a => WP _ _ _ _ a _) (fun lr17 => ?_)
  refine gi_seq (x := CA Try.f13 [1, 1, 1, 0]) (y := CA Try.f13 [1, 1, 1, 1]) (by kernel_rfl) ?_
  refine gi_pln (id := 3) (ops := RA Try.f13 [1, 1, 1, 0]) [0, 1, 2, 3] (by kernel_rfl) (by kernel_rfl) (by kernel_rfl) ?_
  refine plain_batch (rest := []) [⟨0, [.int .i64 0], none⟩, ⟨1, [], none⟩, ⟨2, [], none⟩, ⟨3, [], none⟩] (l' := ([(5, .int .i64 1), (4, .int .i64 0), (13, .int .i64 1), (12, .int .i64 0), (0, .pointer none), (1, .agg #[.int .i64 x, .int .i64 y, .int .u32 z]), (2, .pointer (some ⟨r1, 0, none⟩)), (3, .pointer (some ⟨r4, 0, none⟩)), (4, .int .i64 0), (5, .int .i64 0), (6, .pointer (some ⟨r8, 0, none⟩)), (7, .int .i64 1)] : Fr) ++ lr17) (pts' := [(0, ⟨r8, 0, none⟩, .int .i64 0)]) (eqs := []) (by kernel_rfl) trivial (AllC_cons (sat_cell h16 0 rfl rfl) (AllC_nil _)) ?_
  refine PO.mk ?_
  change WP _ _ (CA Try.f13 [1, 1, 1, 1]) _ _ _
  refine fk_cut ([(0, .pointer none), (1, .agg #[.int .i64 x, .int .i64 y, .int .u32 z]), (2, .pointer (some ⟨r1, 0, none⟩)), (3, .pointer (some ⟨r4, 0, none⟩)), (4, .int .i64 0), (5, .int .i64 1), (6, .pointer (some ⟨r8, 0, none⟩)), (7, .int .i64 1)] : Fr) (by kernel_rfl) (fun a => WP _ _ _ _ a _) (fun lr18 => ?_)
  refine gi_rt (by kernel_rfl) ?_
  repeat (first | simp only [Exit.inBlock] | simp only [Exit.then])
  have h19 : sat g w14 [R] := sat_sel [3] rfl h16
  refine hi_out [] (.tuple #[.int .i64 0, .int .i64 1]) [] (by kernel_rfl) (by intro q hq; cases hq) ?_
  exact ⟨.tuple #[.int .i64 0, .int .i64 1], [], rfl, ⟨rfl, rfl⟩, h19⟩

set_option maxHeartbeats 4000000 in
theorem fnum_z (b : Nat) (x y z : Int) : HT Try.prog 13 [Value.pointer (some ⟨b, 0, none⟩), Value.agg #[Value.int IntKind.i64 x, Value.int IntKind.i64 y, Value.int IntKind.u32 z]] [Cl b [Value.pointer none, Value.map none] 63] (fun v K => v = Value.tuple #[Value.int IntKind.i64 0, Value.int IntKind.i64 1] ∧ K = [Cl b [Value.pointer none, Value.map none] 63]) := by
  refine hi_in 14 ([(0, .pointer (some ⟨b, 0, none⟩)), (1, .agg #[.int .i64 x, .int .i64 y, .int .u32 z])] : Fr) Try.func13 (by kernel_rfl) Try.ntmps13 rfl rfl ?_
  intro g w0 R h0
  refine gi_seq (x := CA Try.f13 [0]) (y := CA Try.f13 [1]) (by kernel_rfl) ?_
  refine gi_pln (id := 0) (ops := RA Try.f13 [0]) [0, 1, 2, 3] (by kernel_rfl) (by kernel_rfl) (by kernel_rfl) ?_
  refine plain_act (i := 0) (by kernel_rfl) ?_
  refine an_new (d := 2) (fun xb_ => .pointer (some ⟨xb_, 0, none⟩)) (fun xb_ => Obj.cells [.pointer (some ⟨b, 0, none⟩)].toArray 24 (0, 0)) (fun xb_ => by kernel_rfl) (by kernel_rfl) rfl h0 ?_
  intro r1 w2 (h3 : sat g w2 [Cl r1 [.pointer (some ⟨b, 0, none⟩)] 24, Cl b [.pointer none, .map none] 63, R])
  refine plain_act (i := 1) (by kernel_rfl) ?_
  refine an_new (d := 3) (fun xb_ => .pointer (some ⟨xb_, 0, none⟩)) (fun xb_ => Obj.cells [.int .i64 x, .int .i64 y, .int .u32 z].toArray 28 (0, 0)) (fun xb_ => by kernel_rfl) (by kernel_rfl) rfl h3 ?_
  intro r4 w5 (h6 : sat g w5 [Cl r4 [.int .i64 x, .int .i64 y, .int .u32 z] 28, Cl r1 [.pointer (some ⟨b, 0, none⟩)] 24, Cl b [.pointer none, .map none] 63, R])
  refine plain_batch (rest := []) [⟨2, [], none⟩, ⟨3, [], none⟩] (l' := ([(5, .int .i64 0), (4, .int .i64 0), (3, .pointer (some ⟨r4, 0, none⟩)), (2, .pointer (some ⟨r1, 0, none⟩)), (0, .pointer (some ⟨b, 0, none⟩)), (1, .agg #[.int .i64 x, .int .i64 y, .int .u32 z])] : Fr)) (pts' := []) (eqs := []) (by kernel_rfl) trivial (AllC_nil _) ?_
  refine PO.mk ?_
  change WP _ _ (CA Try.f13 [1]) _ _ _
  refine fk_cut ([(0, .pointer (some ⟨b, 0, none⟩)), (1, .agg #[.int .i64 x, .int .i64 y, .int .u32 z]), (2, .pointer (some ⟨r1, 0, none⟩)), (3, .pointer (some ⟨r4, 0, none⟩)), (4, .int .i64 0), (5, .int .i64 0)] : Fr) (by kernel_rfl) (fun a => WP _ _ _ _ a _) (fun lr7 => ?_)
  refine gi_seq (x := CA Try.f13 [1, 0]) (y := CA Try.f13 [1, 1]) (by kernel_rfl) ?_
  refine gi_pln (id := 1) (ops := RA Try.f13 [1, 0]) [0, 1] (by kernel_rfl) (by kernel_rfl) (by kernel_rfl) ?_
  refine plain_act (i := 0) (by kernel_rfl) ?_
  refine an_new (d := 6) (fun xb_ => .pointer (some ⟨xb_, 0, none⟩)) (fun xb_ => Obj.cells [.int .i64 0].toArray 3 (0, 0)) (fun xb_ => by kernel_rfl) (by kernel_rfl) rfl h6 ?_
  intro r8 w9 (h10 : sat g w9 [Cl r8 [.int .i64 0] 3, Cl r4 [.int .i64 x, .int .i64 y, .int .u32 z] 28, Cl r1 [.pointer (some ⟨b, 0, none⟩)] 24, Cl b [.pointer none, .map none] 63, R])
  refine plain_act (i := 1) (by kernel_rfl) ?_
  refine an_store [(0, .int .i64 0)] (cs' := [.int .i64 0]) (by kernel_rfl) (by kernel_rfl) (allq ⟨⟨by simp, rfl⟩, trivial⟩) rfl h10 ?_
  intro w11 (h12 : sat g w11 [Cl r8 [.int .i64 0] 3, Cl r4 [.int .i64 x, .int .i64 y, .int .u32 z] 28, Cl r1 [.pointer (some ⟨b, 0, none⟩)] 24, Cl b [.pointer none, .map none] 63, R])
  refine PO.mk ?_
  change WP _ _ (CA Try.f13 [1, 1]) _ _ _
  refine fk_cut ([(0, .pointer (some ⟨b, 0, none⟩)), (1, .agg #[.int .i64 x, .int .i64 y, .int .u32 z]), (2, .pointer (some ⟨r1, 0, none⟩)), (3, .pointer (some ⟨r4, 0, none⟩)), (4, .int .i64 0), (5, .int .i64 0), (6, .pointer (some ⟨r8, 0, none⟩))] : Fr) (by kernel_rfl) (fun a => WP _ _ _ _ a _) (fun lr13 => ?_)
  refine gi_seq (x := CA Try.f13 [1, 1, 0]) (y := CA Try.f13 [1, 1, 1]) (by kernel_rfl) ?_
  refine gi_pln (id := 2) (ops := RA Try.f13 [1, 1, 0]) [0, 1, 2, 3, 4] (by kernel_rfl) (by kernel_rfl) (by kernel_rfl) ?_
  refine plain_batch (rest := [3, 4]) [⟨0, [.pointer (some ⟨b, 0, none⟩)], none⟩, ⟨1, [.int .i64 x, .int .i64 y, .int .u32 z], none⟩, ⟨2, [], none⟩] (l' := ([(10, .func (Fn.func 37) #[] #[.pointer (some ⟨r1, 0, none⟩), .pointer (some ⟨r4, 0, none⟩), .pointer (some ⟨r8, 0, none⟩)]), (9, .agg #[.int .i64 x, .int .i64 y, .int .u32 z]), (8, .pointer (some ⟨b, 0, none⟩)), (0, .pointer (some ⟨b, 0, none⟩)), (1, .agg #[.int .i64 x, .int .i64 y, .int .u32 z]), (2, .pointer (some ⟨r1, 0, none⟩)), (3, .pointer (some ⟨r4, 0, none⟩)), (4, .int .i64 0), (5, .int .i64 0), (6, .pointer (some ⟨r8, 0, none⟩))] : Fr) ++ lr13) (pts' := [(1, ⟨r4, 0, none⟩, .int .i64 x), (1, ⟨r4, 1, none⟩, .int .i64 y), (1, ⟨r4, 2, none⟩, .int .u32 z), (0, ⟨r1, 0, none⟩, .pointer (some ⟨b, 0, none⟩))]) (eqs := []) (by kernel_rfl) trivial (AllC_cons (sat_cell h12 1 rfl rfl) (AllC_cons (sat_cell h12 1 rfl rfl) (AllC_cons (sat_cell h12 1 rfl rfl) (AllC_cons (sat_cell h12 2 rfl rfl) (AllC_nil _))))) ?_
  have h14 : sat g w11 [Cl b [.pointer none, .map none] 63, Cl r8 [.int .i64 0] 3, Cl r4 [.int .i64 x, .int .i64 y, .int .u32 z] 28, Cl r1 [.pointer (some ⟨b, 0, none⟩)] 24, R] := sat_sel [3, 0, 1, 2, 4] rfl h12
  refine plain_act (i := 3) (by kernel_rfl) ?_
  refine an_call (d := some 11) (f := 36) (args := [.pointer (some ⟨b, 0, none⟩), .agg #[.int .i64 x, .int .i64 y, .int .u32 z], .func (Fn.func 37) #[] #[.pointer (some ⟨r1, 0, none⟩), .pointer (some ⟨r4, 0, none⟩), .pointer (some ⟨r8, 0, none⟩)]]) (by kernel_rfl) Try.call36 (fwith_z b x y z (.func (Fn.func 37) #[] #[.pointer (some ⟨r1, 0, none⟩), .pointer (some ⟨r4, 0, none⟩), .pointer (some ⟨r8, 0, none⟩)])) (F := [Cl r8 [.int .i64 0] 3, Cl r4 [.int .i64 x, .int .i64 y, .int .u32 z] 28, Cl r1 [.pointer (some ⟨b, 0, none⟩)] 24, R]) h14 ?_
  rintro v K w15 (⟨rfl, rfl⟩) h16
  refine ⟨_, rfl, ?_⟩
  have h17 : sat g w15 [Cl b [.pointer none, .map none] 63, Cl r8 [.int .i64 0] 3, Cl r4 [.int .i64 x, .int .i64 y, .int .u32 z] 28, Cl r1 [.pointer (some ⟨b, 0, none⟩)] 24, R] := h16
  refine plain_batch (rest := []) [⟨4, [], none⟩] (l' := ([(7, .int .i64 1), (11, .int .i64 1), (10, .func (Fn.func 37) #[] #[.pointer (some ⟨r1, 0, none⟩), .pointer (some ⟨r4, 0, none⟩), .pointer (some ⟨r8, 0, none⟩)]), (9, .agg #[.int .i64 x, .int .i64 y, .int .u32 z]), (8, .pointer (some ⟨b, 0, none⟩)), (0, .pointer (some ⟨b, 0, none⟩)), (1, .agg #[.int .i64 x, .int .i64 y, .int .u32 z]), (2, .pointer (some ⟨r1, 0, none⟩)), (3, .pointer (some ⟨r4, 0, none⟩)), (4, .int .i64 0), (5, .int .i64 0), (6, .pointer (some ⟨r8, 0, none⟩))] : Fr) ++ lr13) (pts' := []) (eqs := []) (by kernel_rfl) trivial (AllC_nil _) ?_
  refine PO.mk ?_
  change WP _ _ (CA Try.f13 [1, 1, 1]) _ _ _
  refine fk_cut ([(0, .pointer (some ⟨b, 0, none⟩)), (1, .agg #[.int .i64 x, .int .i64 y, .int .u32 z]), (2, .pointer (some ⟨r1, 0, none⟩)), (3, .pointer (some ⟨r4, 0, none⟩)), (4, .int .i64 0), (5, .int .i64 0), (6, .pointer (some ⟨r8, 0, none⟩)), (7, .int .i64 1)] : Fr) (by kernel_rfl) (fun a => WP _ _ _ _ a _) (fun lr18 => ?_)
  refine gi_seq (x := CA Try.f13 [1, 1, 1, 0]) (y := CA Try.f13 [1, 1, 1, 1]) (by kernel_rfl) ?_
  refine gi_pln (id := 3) (ops := RA Try.f13 [1, 1, 1, 0]) [0, 1, 2, 3] (by kernel_rfl) (by kernel_rfl) (by kernel_rfl) ?_
  refine plain_batch (rest := []) [⟨0, [.int .i64 0], none⟩, ⟨1, [], none⟩, ⟨2, [], none⟩, ⟨3, [], none⟩] (l' := ([(5, .int .i64 1), (4, .int .i64 0), (13, .int .i64 1), (12, .int .i64 0), (0, .pointer (some ⟨b, 0, none⟩)), (1, .agg #[.int .i64 x, .int .i64 y, .int .u32 z]), (2, .pointer (some ⟨r1, 0, none⟩)), (3, .pointer (some ⟨r4, 0, none⟩)), (4, .int .i64 0), (5, .int .i64 0), (6, .pointer (some ⟨r8, 0, none⟩)), (7, .int .i64 1)] : Fr) ++ lr18) (pts' := [(0, ⟨r8, 0, none⟩, .int .i64 0)]) (eqs := []) (by kernel_rfl) trivial (AllC_cons (sat_cell h17 1 rfl rfl) (AllC_nil _)) ?_
  refine PO.mk ?_
  change WP _ _ (CA Try.f13 [1, 1, 1, 1]) _ _ _
  refine fk_cut ([(0, .pointer (some ⟨b, 0, none⟩)), (1, .agg #[.int .i64 x, .int .i64 y, .int .u32 z]), (2, .pointer (some ⟨r1, 0, none⟩)), (3, .pointer (some ⟨r4, 0, none⟩)), (4, .int .i64 0), (5, .int .i64 1), (6, .pointer (some ⟨r8, 0, none⟩)), (7, .int .i64 1)] : Fr) (by kernel_rfl) (fun a => WP _ _ _ _ a _) (fun lr19 => ?_)
  refine gi_rt (by kernel_rfl) ?_
  repeat (first | simp only [Exit.inBlock] | simp only [Exit.then])
  have h20 : sat g w15 [Cl b [.pointer none, .map none] 63, R] := sat_sel [0, 4] rfl h17
  refine hi_out [] (.tuple #[.int .i64 0, .int .i64 1]) [] (by kernel_rfl) (by intro q hq; cases hq) ?_
  exact ⟨.tuple #[.int .i64 0, .int .i64 1], [Cl b [.pointer none, .map none] 63], rfl, ⟨rfl, rfl⟩, h20⟩

set_option maxHeartbeats 4000000 in
theorem fall_n  : HT Try.prog 17 [Value.pointer none] [] (fun v K => v = Value.slice none 0 0 ∧ K = []) := by
  refine hi_in 26 ([(0, .pointer none)] : Fr) Try.func17 (by kernel_rfl) Try.ntmps17 rfl rfl ?_
  intro g w0 R h0
  refine gi_seq (x := CA Try.f17 [0]) (y := CA Try.f17 [1]) (by kernel_rfl) ?_
  refine gi_pln (id := 0) (ops := RA Try.f17 [0]) [0] (by kernel_rfl) (by kernel_rfl) (by kernel_rfl) ?_
  refine plain_batch (rest := []) [⟨0, [], none⟩] (l' := ([(2, .slice none 0 0), (0, .pointer none)] : Fr)) (pts' := []) (eqs := []) (by kernel_rfl) trivial (AllC_nil _) ?_
  refine PO.mk ?_
  change WP _ _ (CA Try.f17 [1]) _ _ _
  refine fk_cut ([(0, .pointer none), (2, .slice none 0 0)] : Fr) (by kernel_rfl) (fun a => WP _ _ _ _ a _) (fun lr1 => ?_)
  refine gi_seq (x := CA Try.f17 [1, 0]) (y := CA Try.f17 [1, 1]) (by kernel_rfl) ?_
  refine gi_seq (x := CA Try.f17 [1, 0, 0]) (y := CA Try.f17 [1, 0, 1]) (by kernel_rfl) ?_
  refine gi_pln (id := 1) (ops := RA Try.f17 [1, 0, 0]) [0, 1, 2] (by kernel_rfl) (by kernel_rfl) (by kernel_rfl) ?_
  refine plain_batch (rest := [1, 2]) [⟨0, [], none⟩] (l' := ([(6, .pointer none), (0, .pointer none), (2, .slice none 0 0)] : Fr) ++ lr1) (pts' := []) (eqs := []) (by kernel_rfl) trivial (AllC_nil _) ?_
  refine plain_act (i := 1) (by kernel_rfl) ?_
  refine an_call (d := some 7) (f := 33) (args := [.pointer none]) (by kernel_rfl) Try.call33 (made_n) (F := [R]) h0 ?_
  rintro v K w2 (⟨rfl, rfl⟩) h3
  refine ⟨_, rfl, ?_⟩
  have h4 : sat g w2 [R] := h3
  refine plain_batch (rest := []) [⟨2, [], none⟩] (l' := ([(8, .bool true), (7, .bool false), (6, .pointer none), (0, .pointer none), (2, .slice none 0 0)] : Fr) ++ lr1) (pts' := []) (eqs := []) (by kernel_rfl) trivial (AllC_nil _) ?_
  refine PO.mk ?_
  change WP _ _ (CA Try.f17 [1, 0, 1]) _ _ _
  refine fk_cut ([(0, .pointer none), (2, .slice none 0 0), (8, .bool true)] : Fr) (by kernel_rfl) (fun a => WP _ _ _ _ a _) (fun lr5 => ?_)
  refine gi_cnd (x := (Operand.tmp 8)) (s := CA Try.f17 [1, 0, 1, 0]) (t := CA Try.f17 [1, 0, 1, 1]) true (by kernel_rfl) (by kernel_rfl) ?_
  change WP _ _ (CA Try.f17 [1, 0, 1, 0]) _ _ _
  refine gi_seq (x := CA Try.f17 [1, 0, 1, 0, 0]) (y := CA Try.f17 [1, 0, 1, 0, 1]) (by kernel_rfl) ?_
  refine gi_pln (id := 2) (ops := RA Try.f17 [1, 0, 1, 0, 0]) [0] (by kernel_rfl) (by kernel_rfl) (by kernel_rfl) ?_
  refine plain_batch (rest := []) [⟨0, [], none⟩] (l' := ([(2, .slice none 0 0), (0, .pointer none), (2, .slice none 0 0), (8, .bool true)] : Fr) ++ lr5) (pts' := []) (eqs := []) (by kernel_rfl) trivial (AllC_nil _) ?_
  refine PO.mk ?_
  change WP _ _ (CA Try.f17 [1, 0, 1, 0, 1]) _ _ _
  refine fk_cut ([(0, .pointer none), (2, .slice none 0 0), (8, .bool true)] : Fr) (by kernel_rfl) (fun a => WP _ _ _ _ a _) (fun lr6 => ?_)
  refine gi_rt (by kernel_rfl) ?_
  repeat (first | simp only [Exit.inBlock] | simp only [Exit.then])
  refine hi_out [] (.slice none 0 0) [] (by kernel_rfl) (by intro q hq; cases hq) ?_
  exact ⟨.slice none 0 0, [], rfl, ⟨rfl, rfl⟩, h4⟩

set_option maxHeartbeats 4000000 in
theorem fall_z (b : Nat)  : HT Try.prog 17 [Value.pointer (some ⟨b, 0, none⟩)] [Cl b [Value.pointer none, Value.map none] 63] (fun v K => v = Value.slice none 0 0 ∧ K = [Cl b [Value.pointer none, Value.map none] 63]) := by
  refine hi_in 26 ([(0, .pointer (some ⟨b, 0, none⟩))] : Fr) Try.func17 (by kernel_rfl) Try.ntmps17 rfl rfl ?_
  intro g w0 R h0
  refine gi_seq (x := CA Try.f17 [0]) (y := CA Try.f17 [1]) (by kernel_rfl) ?_
  refine gi_pln (id := 0) (ops := RA Try.f17 [0]) [0] (by kernel_rfl) (by kernel_rfl) (by kernel_rfl) ?_
  refine plain_batch (rest := []) [⟨0, [], none⟩] (l' := ([(2, .slice none 0 0), (0, .pointer (some ⟨b, 0, none⟩))] : Fr)) (pts' := []) (eqs := []) (by kernel_rfl) trivial (AllC_nil _) ?_
  refine PO.mk ?_
  change WP _ _ (CA Try.f17 [1]) _ _ _
  refine fk_cut ([(0, .pointer (some ⟨b, 0, none⟩)), (2, .slice none 0 0)] : Fr) (by kernel_rfl) (fun a => WP _ _ _ _ a _) (fun lr1 => ?_)
  refine gi_seq (x := CA Try.f17 [1, 0]) (y := CA Try.f17 [1, 1]) (by kernel_rfl) ?_
  refine gi_seq (x := CA Try.f17 [1, 0, 0]) (y := CA Try.f17 [1, 0, 1]) (by kernel_rfl) ?_
  refine gi_pln (id := 1) (ops := RA Try.f17 [1, 0, 0]) [0, 1, 2] (by kernel_rfl) (by kernel_rfl) (by kernel_rfl) ?_
  refine plain_batch (rest := [1, 2]) [⟨0, [], none⟩] (l' := ([(6, .pointer (some ⟨b, 0, none⟩)), (0, .pointer (some ⟨b, 0, none⟩)), (2, .slice none 0 0)] : Fr) ++ lr1) (pts' := []) (eqs := []) (by kernel_rfl) trivial (AllC_nil _) ?_
  refine plain_act (i := 1) (by kernel_rfl) ?_
  refine an_call (d := some 7) (f := 33) (args := [.pointer (some ⟨b, 0, none⟩)]) (by kernel_rfl) Try.call33 (made_z b) (F := [R]) h0 ?_
  rintro v K w2 (⟨rfl, rfl⟩) h3
  refine ⟨_, rfl, ?_⟩
  have h4 : sat g w2 [Cl b [.pointer none, .map none] 63, R] := h3
  refine plain_batch (rest := []) [⟨2, [], none⟩] (l' := ([(8, .bool true), (7, .bool false), (6, .pointer (some ⟨b, 0, none⟩)), (0, .pointer (some ⟨b, 0, none⟩)), (2, .slice none 0 0)] : Fr) ++ lr1) (pts' := []) (eqs := []) (by kernel_rfl) trivial (AllC_nil _) ?_
  refine PO.mk ?_
  change WP _ _ (CA Try.f17 [1, 0, 1]) _ _ _
  refine fk_cut ([(0, .pointer (some ⟨b, 0, none⟩)), (2, .slice none 0 0), (8, .bool true)] : Fr) (by kernel_rfl) (fun a => WP _ _ _ _ a _) (fun lr5 => ?_)
  refine gi_cnd (x := (Operand.tmp 8)) (s := CA Try.f17 [1, 0, 1, 0]) (t := CA Try.f17 [1, 0, 1, 1]) true (by kernel_rfl) (by kernel_rfl) ?_
  change WP _ _ (CA Try.f17 [1, 0, 1, 0]) _ _ _
  refine gi_seq (x := CA Try.f17 [1, 0, 1, 0, 0]) (y := CA Try.f17 [1, 0, 1, 0, 1]) (by kernel_rfl) ?_
  refine gi_pln (id := 2) (ops := RA Try.f17 [1, 0, 1, 0, 0]) [0] (by kernel_rfl) (by kernel_rfl) (by kernel_rfl) ?_
  refine plain_batch (rest := []) [⟨0, [], none⟩] (l' := ([(2, .slice none 0 0), (0, .pointer (some ⟨b, 0, none⟩)), (2, .slice none 0 0), (8, .bool true)] : Fr) ++ lr5) (pts' := []) (eqs := []) (by kernel_rfl) trivial (AllC_nil _) ?_
  refine PO.mk ?_
  change WP _ _ (CA Try.f17 [1, 0, 1, 0, 1]) _ _ _
  refine fk_cut ([(0, .pointer (some ⟨b, 0, none⟩)), (2, .slice none 0 0), (8, .bool true)] : Fr) (by kernel_rfl) (fun a => WP _ _ _ _ a _) (fun lr6 => ?_)
  refine gi_rt (by kernel_rfl) ?_
  repeat (first | simp only [Exit.inBlock] | simp only [Exit.then])
  refine hi_out [] (.slice none 0 0) [] (by kernel_rfl) (by intro q hq; cases hq) ?_
  exact ⟨.slice none 0 0, [Cl b [.pointer none, .map none] 63], rfl, ⟨rfl, rfl⟩, h4⟩

set_option maxHeartbeats 4000000 in
theorem flen_n  : HT Try.prog 19 [Value.pointer none] [] (fun v K => v = Value.int IntKind.i64 0 ∧ K = []) := by
  refine hi_in 11 ([(0, .pointer none)] : Fr) Try.func19 (by kernel_rfl) Try.ntmps19 rfl rfl ?_
  intro g w0 R h0
  refine gi_seq (x := CA Try.f19 [0]) (y := CA Try.f19 [1]) (by kernel_rfl) ?_
  refine gi_pln (id := 0) (ops := RA Try.f19 [0]) [0] (by kernel_rfl) (by kernel_rfl) (by kernel_rfl) ?_
  refine plain_batch (rest := []) [⟨0, [], none⟩] (l' := ([(2, .int .i64 0), (0, .pointer none)] : Fr)) (pts' := []) (eqs := []) (by kernel_rfl) trivial (AllC_nil _) ?_
  refine PO.mk ?_
  change WP _ _ (CA Try.f19 [1]) _ _ _
  refine fk_cut ([(0, .pointer none), (2, .int .i64 0)] : Fr) (by kernel_rfl) (fun a => WP _ _ _ _ a _) (fun lr1 => ?_)
  refine gi_seq (x := CA Try.f19 [1, 0]) (y := CA Try.f19 [1, 1]) (by kernel_rfl) ?_
  refine gi_seq (x := CA Try.f19 [1, 0, 0]) (y := CA Try.f19 [1, 0, 1]) (by kernel_rfl) ?_
  refine gi_pln (id := 1) (ops := RA Try.f19 [1, 0, 0]) [0, 1, 2] (by kernel_rfl) (by kernel_rfl) (by kernel_rfl) ?_
  refine plain_batch (rest := [1, 2]) [⟨0, [], none⟩] (l' := ([(3, .pointer none), (0, .pointer none), (2, .int .i64 0)] : Fr) ++ lr1) (pts' := []) (eqs := []) (by kernel_rfl) trivial (AllC_nil _) ?_
  refine plain_act (i := 1) (by kernel_rfl) ?_
  refine an_call (d := some 4) (f := 33) (args := [.pointer none]) (by kernel_rfl) Try.call33 (made_n) (F := [R]) h0 ?_
  rintro v K w2 (⟨rfl, rfl⟩) h3
  refine ⟨_, rfl, ?_⟩
  have h4 : sat g w2 [R] := h3
  refine plain_batch (rest := []) [⟨2, [], none⟩] (l' := ([(5, .bool true), (4, .bool false), (3, .pointer none), (0, .pointer none), (2, .int .i64 0)] : Fr) ++ lr1) (pts' := []) (eqs := []) (by kernel_rfl) trivial (AllC_nil _) ?_
  refine PO.mk ?_
  change WP _ _ (CA Try.f19 [1, 0, 1]) _ _ _
  refine fk_cut ([(0, .pointer none), (2, .int .i64 0), (5, .bool true)] : Fr) (by kernel_rfl) (fun a => WP _ _ _ _ a _) (fun lr5 => ?_)
  refine gi_cnd (x := (Operand.tmp 5)) (s := CA Try.f19 [1, 0, 1, 0]) (t := CA Try.f19 [1, 0, 1, 1]) true (by kernel_rfl) (by kernel_rfl) ?_
  change WP _ _ (CA Try.f19 [1, 0, 1, 0]) _ _ _
  refine gi_seq (x := CA Try.f19 [1, 0, 1, 0, 0]) (y := CA Try.f19 [1, 0, 1, 0, 1]) (by kernel_rfl) ?_
  refine gi_pln (id := 2) (ops := RA Try.f19 [1, 0, 1, 0, 0]) [0] (by kernel_rfl) (by kernel_rfl) (by kernel_rfl) ?_
  refine plain_batch (rest := []) [⟨0, [], none⟩] (l' := ([(2, .int .i64 0), (0, .pointer none), (2, .int .i64 0), (5, .bool true)] : Fr) ++ lr5) (pts' := []) (eqs := []) (by kernel_rfl) trivial (AllC_nil _) ?_
  refine PO.mk ?_
  change WP _ _ (CA Try.f19 [1, 0, 1, 0, 1]) _ _ _
  refine fk_cut ([(0, .pointer none), (2, .int .i64 0), (5, .bool true)] : Fr) (by kernel_rfl) (fun a => WP _ _ _ _ a _) (fun lr6 => ?_)
  refine gi_rt (by kernel_rfl) ?_
  repeat (first | simp only [Exit.inBlock] | simp only [Exit.then])
  refine hi_out [] (.int .i64 0) [] (by kernel_rfl) (by intro q hq; cases hq) ?_
  exact ⟨.int .i64 0, [], rfl, ⟨rfl, rfl⟩, h4⟩

set_option maxHeartbeats 4000000 in
theorem flen_z (b : Nat)  : HT Try.prog 19 [Value.pointer (some ⟨b, 0, none⟩)] [Cl b [Value.pointer none, Value.map none] 63] (fun v K => v = Value.int IntKind.i64 0 ∧ K = [Cl b [Value.pointer none, Value.map none] 63]) := by
  refine hi_in 11 ([(0, .pointer (some ⟨b, 0, none⟩))] : Fr) Try.func19 (by kernel_rfl) Try.ntmps19 rfl rfl ?_
  intro g w0 R h0
  refine gi_seq (x := CA Try.f19 [0]) (y := CA Try.f19 [1]) (by kernel_rfl) ?_
  refine gi_pln (id := 0) (ops := RA Try.f19 [0]) [0] (by kernel_rfl) (by kernel_rfl) (by kernel_rfl) ?_
  refine plain_batch (rest := []) [⟨0, [], none⟩] (l' := ([(2, .int .i64 0), (0, .pointer (some ⟨b, 0, none⟩))] : Fr)) (pts' := []) (eqs := []) (by kernel_rfl) trivial (AllC_nil _) ?_
  refine PO.mk ?_
  change WP _ _ (CA Try.f19 [1]) _ _ _
  refine fk_cut ([(0, .pointer (some ⟨b, 0, none⟩)), (2, .int .i64 0)] : Fr) (by kernel_rfl) (fun a => WP _ _ _ _ a _) (fun lr1 => ?_)
  refine gi_seq (x := CA Try.f19 [1, 0]) (y := CA Try.f19 [1, 1]) (by kernel_rfl) ?_
  refine gi_seq (x := CA Try.f19 [1, 0, 0]) (y := CA Try.f19 [1, 0, 1]) (by kernel_rfl) ?_
  refine gi_pln (id := 1) (ops := RA Try.f19 [1, 0, 0]) [0, 1, 2] (by kernel_rfl) (by kernel_rfl) (by kernel_rfl) ?_
  refine plain_batch (rest := [1, 2]) [⟨0, [], none⟩] (l' := ([(3, .pointer (some ⟨b, 0, none⟩)), (0, .pointer (some ⟨b, 0, none⟩)), (2, .int .i64 0)] : Fr) ++ lr1) (pts' := []) (eqs := []) (by kernel_rfl) trivial (AllC_nil _) ?_
  refine plain_act (i := 1) (by kernel_rfl) ?_
  refine an_call (d := some 4) (f := 33) (args := [.pointer (some ⟨b, 0, none⟩)]) (by kernel_rfl) Try.call33 (made_z b) (F := [R]) h0 ?_
  rintro v K w2 (⟨rfl, rfl⟩) h3
  refine ⟨_, rfl, ?_⟩
  have h4 : sat g w2 [Cl b [.pointer none, .map none] 63, R] := h3
  refine plain_batch (rest := []) [⟨2, [], none⟩] (l' := ([(5, .bool true), (4, .bool false), (3, .pointer (some ⟨b, 0, none⟩)), (0, .pointer (some ⟨b, 0, none⟩)), (2, .int .i64 0)] : Fr) ++ lr1) (pts' := []) (eqs := []) (by kernel_rfl) trivial (AllC_nil _) ?_
  refine PO.mk ?_
  change WP _ _ (CA Try.f19 [1, 0, 1]) _ _ _
  refine fk_cut ([(0, .pointer (some ⟨b, 0, none⟩)), (2, .int .i64 0), (5, .bool true)] : Fr) (by kernel_rfl) (fun a => WP _ _ _ _ a _) (fun lr5 => ?_)
  refine gi_cnd (x := (Operand.tmp 5)) (s := CA Try.f19 [1, 0, 1, 0]) (t := CA Try.f19 [1, 0, 1, 1]) true (by kernel_rfl) (by kernel_rfl) ?_
  change WP _ _ (CA Try.f19 [1, 0, 1, 0]) _ _ _
  refine gi_seq (x := CA Try.f19 [1, 0, 1, 0, 0]) (y := CA Try.f19 [1, 0, 1, 0, 1]) (by kernel_rfl) ?_
  refine gi_pln (id := 2) (ops := RA Try.f19 [1, 0, 1, 0, 0]) [0] (by kernel_rfl) (by kernel_rfl) (by kernel_rfl) ?_
  refine plain_batch (rest := []) [⟨0, [], none⟩] (l' := ([(2, .int .i64 0), (0, .pointer (some ⟨b, 0, none⟩)), (2, .int .i64 0), (5, .bool true)] : Fr) ++ lr5) (pts' := []) (eqs := []) (by kernel_rfl) trivial (AllC_nil _) ?_
  refine PO.mk ?_
  change WP _ _ (CA Try.f19 [1, 0, 1, 0, 1]) _ _ _
  refine fk_cut ([(0, .pointer (some ⟨b, 0, none⟩)), (2, .int .i64 0), (5, .bool true)] : Fr) (by kernel_rfl) (fun a => WP _ _ _ _ a _) (fun lr6 => ?_)
  refine gi_rt (by kernel_rfl) ?_
  repeat (first | simp only [Exit.inBlock] | simp only [Exit.then])
  refine hi_out [] (.int .i64 0) [] (by kernel_rfl) (by intro q hq; cases hq) ?_
  exact ⟨.int .i64 0, [Cl b [.pointer none, .map none] 63], rfl, ⟨rfl, rfl⟩, h4⟩

set_option maxHeartbeats 4000000 in
theorem fcopy_n  : HT Try.prog 24 [Value.pointer none] [] (fun v K => v = Value.pointer none ∧ K = []) := by
  refine hi_in 18 ([(0, .pointer none)] : Fr) Try.func24 (by kernel_rfl) Try.ntmps24 rfl rfl ?_
  intro g w0 R h0
  refine gi_seq (x := CA Try.f24 [0]) (y := CA Try.f24 [1]) (by kernel_rfl) ?_
  refine gi_pln (id := 0) (ops := RA Try.f24 [0]) [0] (by kernel_rfl) (by kernel_rfl) (by kernel_rfl) ?_
  refine plain_batch (rest := []) [⟨0, [], none⟩] (l' := ([(2, .pointer none), (0, .pointer none)] : Fr)) (pts' := []) (eqs := []) (by kernel_rfl) trivial (AllC_nil _) ?_
  refine PO.mk ?_
  change WP _ _ (CA Try.f24 [1]) _ _ _
  refine fk_cut ([(0, .pointer none), (2, .pointer none)] : Fr) (by kernel_rfl) (fun a => WP _ _ _ _ a _) (fun lr1 => ?_)
  refine gi_seq (x := CA Try.f24 [1, 0]) (y := CA Try.f24 [1, 1]) (by kernel_rfl) ?_
  refine gi_seq (x := CA Try.f24 [1, 0, 0]) (y := CA Try.f24 [1, 0, 1]) (by kernel_rfl) ?_
  refine gi_pln (id := 1) (ops := RA Try.f24 [1, 0, 0]) [0, 1, 2] (by kernel_rfl) (by kernel_rfl) (by kernel_rfl) ?_
  refine plain_batch (rest := [1, 2]) [⟨0, [], none⟩] (l' := ([(3, .pointer none), (0, .pointer none), (2, .pointer none)] : Fr) ++ lr1) (pts' := []) (eqs := []) (by kernel_rfl) trivial (AllC_nil _) ?_
  refine plain_act (i := 1) (by kernel_rfl) ?_
  refine an_call (d := some 4) (f := 33) (args := [.pointer none]) (by kernel_rfl) Try.call33 (made_n) (F := [R]) h0 ?_
  rintro v K w2 (⟨rfl, rfl⟩) h3
  refine ⟨_, rfl, ?_⟩
  have h4 : sat g w2 [R] := h3
  refine plain_batch (rest := []) [⟨2, [], none⟩] (l' := ([(5, .bool true), (4, .bool false), (3, .pointer none), (0, .pointer none), (2, .pointer none)] : Fr) ++ lr1) (pts' := []) (eqs := []) (by kernel_rfl) trivial (AllC_nil _) ?_
  refine PO.mk ?_
  change WP _ _ (CA Try.f24 [1, 0, 1]) _ _ _
  refine fk_cut ([(0, .pointer none), (2, .pointer none), (5, .bool true)] : Fr) (by kernel_rfl) (fun a => WP _ _ _ _ a _) (fun lr5 => ?_)
  refine gi_cnd (x := (Operand.tmp 5)) (s := CA Try.f24 [1, 0, 1, 0]) (t := CA Try.f24 [1, 0, 1, 1]) true (by kernel_rfl) (by kernel_rfl) ?_
  change WP _ _ (CA Try.f24 [1, 0, 1, 0]) _ _ _
  refine gi_seq (x := CA Try.f24 [1, 0, 1, 0, 0]) (y := CA Try.f24 [1, 0, 1, 0, 1]) (by kernel_rfl) ?_
  refine gi_pln (id := 2) (ops := RA Try.f24 [1, 0, 1, 0, 0]) [0] (by kernel_rfl) (by kernel_rfl) (by kernel_rfl) ?_
  refine plain_batch (rest := []) [⟨0, [], none⟩] (l' := ([(2, .pointer none), (0, .pointer none), (2, .pointer none), (5, .bool true)] : Fr) ++ lr5) (pts' := []) (eqs := []) (by kernel_rfl) trivial (AllC_nil _) ?_
  refine PO.mk ?_
  change WP _ _ (CA Try.f24 [1, 0, 1, 0, 1]) _ _ _
  refine fk_cut ([(0, .pointer none), (2, .pointer none), (5, .bool true)] : Fr) (by kernel_rfl) (fun a => WP _ _ _ _ a _) (fun lr6 => ?_)
  refine gi_rt (by kernel_rfl) ?_
  repeat (first | simp only [Exit.inBlock] | simp only [Exit.then])
  refine hi_out [] (.pointer none) [] (by kernel_rfl) (by intro q hq; cases hq) ?_
  exact ⟨.pointer none, [], rfl, ⟨rfl, rfl⟩, h4⟩

set_option maxHeartbeats 4000000 in
theorem fcopy_z (b : Nat)  : HT Try.prog 24 [Value.pointer (some ⟨b, 0, none⟩)] [Cl b [Value.pointer none, Value.map none] 63] (fun v K => v = Value.pointer none ∧ K = [Cl b [Value.pointer none, Value.map none] 63]) := by
  refine hi_in 18 ([(0, .pointer (some ⟨b, 0, none⟩))] : Fr) Try.func24 (by kernel_rfl) Try.ntmps24 rfl rfl ?_
  intro g w0 R h0
  refine gi_seq (x := CA Try.f24 [0]) (y := CA Try.f24 [1]) (by kernel_rfl) ?_
  refine gi_pln (id := 0) (ops := RA Try.f24 [0]) [0] (by kernel_rfl) (by kernel_rfl) (by kernel_rfl) ?_
  refine plain_batch (rest := []) [⟨0, [], none⟩] (l' := ([(2, .pointer none), (0, .pointer (some ⟨b, 0, none⟩))] : Fr)) (pts' := []) (eqs := []) (by kernel_rfl) trivial (AllC_nil _) ?_
  refine PO.mk ?_
  change WP _ _ (CA Try.f24 [1]) _ _ _
  refine fk_cut ([(0, .pointer (some ⟨b, 0, none⟩)), (2, .pointer none)] : Fr) (by kernel_rfl) (fun a => WP _ _ _ _ a _) (fun lr1 => ?_)
  refine gi_seq (x := CA Try.f24 [1, 0]) (y := CA Try.f24 [1, 1]) (by kernel_rfl) ?_
  refine gi_seq (x := CA Try.f24 [1, 0, 0]) (y := CA Try.f24 [1, 0, 1]) (by kernel_rfl) ?_
  refine gi_pln (id := 1) (ops := RA Try.f24 [1, 0, 0]) [0, 1, 2] (by kernel_rfl) (by kernel_rfl) (by kernel_rfl) ?_
  refine plain_batch (rest := [1, 2]) [⟨0, [], none⟩] (l' := ([(3, .pointer (some ⟨b, 0, none⟩)), (0, .pointer (some ⟨b, 0, none⟩)), (2, .pointer none)] : Fr) ++ lr1) (pts' := []) (eqs := []) (by kernel_rfl) trivial (AllC_nil _) ?_
  refine plain_act (i := 1) (by kernel_rfl) ?_
  refine an_call (d := some 4) (f := 33) (args := [.pointer (some ⟨b, 0, none⟩)]) (by kernel_rfl) Try.call33 (made_z b) (F := [R]) h0 ?_
  rintro v K w2 (⟨rfl, rfl⟩) h3
  refine ⟨_, rfl, ?_⟩
  have h4 : sat g w2 [Cl b [.pointer none, .map none] 63, R] := h3
  refine plain_batch (rest := []) [⟨2, [], none⟩] (l' := ([(5, .bool true), (4, .bool false), (3, .pointer (some ⟨b, 0, none⟩)), (0, .pointer (some ⟨b, 0, none⟩)), (2, .pointer none)] : Fr) ++ lr1) (pts' := []) (eqs := []) (by kernel_rfl) trivial (AllC_nil _) ?_
  refine PO.mk ?_
  change WP _ _ (CA Try.f24 [1, 0, 1]) _ _ _
  refine fk_cut ([(0, .pointer (some ⟨b, 0, none⟩)), (2, .pointer none), (5, .bool true)] : Fr) (by kernel_rfl) (fun a => WP _ _ _ _ a _) (fun lr5 => ?_)
  refine gi_cnd (x := (Operand.tmp 5)) (s := CA Try.f24 [1, 0, 1, 0]) (t := CA Try.f24 [1, 0, 1, 1]) true (by kernel_rfl) (by kernel_rfl) ?_
  change WP _ _ (CA Try.f24 [1, 0, 1, 0]) _ _ _
  refine gi_seq (x := CA Try.f24 [1, 0, 1, 0, 0]) (y := CA Try.f24 [1, 0, 1, 0, 1]) (by kernel_rfl) ?_
  refine gi_pln (id := 2) (ops := RA Try.f24 [1, 0, 1, 0, 0]) [0] (by kernel_rfl) (by kernel_rfl) (by kernel_rfl) ?_
  refine plain_batch (rest := []) [⟨0, [], none⟩] (l' := ([(2, .pointer none), (0, .pointer (some ⟨b, 0, none⟩)), (2, .pointer none), (5, .bool true)] : Fr) ++ lr5) (pts' := []) (eqs := []) (by kernel_rfl) trivial (AllC_nil _) ?_
  refine PO.mk ?_
  change WP _ _ (CA Try.f24 [1, 0, 1, 0, 1]) _ _ _
  refine fk_cut ([(0, .pointer (some ⟨b, 0, none⟩)), (2, .pointer none), (5, .bool true)] : Fr) (by kernel_rfl) (fun a => WP _ _ _ _ a _) (fun lr6 => ?_)
  refine gi_rt (by kernel_rfl) ?_
  repeat (first | simp only [Exit.inBlock] | simp only [Exit.then])
  refine hi_out [] (.pointer none) [] (by kernel_rfl) (by intro q hq; cases hq) ?_
  exact ⟨.pointer none, [Cl b [.pointer none, .map none] 63], rfl, ⟨rfl, rfl⟩, h4⟩

end Go.Proofs.Ytcgpkhdocakloaa
