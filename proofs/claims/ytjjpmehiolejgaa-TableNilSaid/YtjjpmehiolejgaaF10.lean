/- Walks, printed by my generator gen10.py. -/
import Derived.Test.YtjjpmehiolejgaaF9
namespace Go.Proofs.Ytjjpmehiolejgaa
theorem seq28_neq_t {n : Nat} {l : Fr} {o : Oper} {x y : Operand} (a0 : Int) (a1 : Int) (a2 : Int) (c0 : Int) (c1 : Int) (c2 : Int) (ho : o.op = .binOp .neq 28 x y 28) (hx : fe n l x = .agg #[.int .i64 a0, .int .i64 a1, .int .u32 a2]) (hy : fe n l y = .agg #[.int .i64 c0, .int .i64 c1, .int .u32 c2]) (h : a0 = c0 ∧ a1 = c1 ∧ a2 = c2) (w : World) : (execOp (fe n l) o).run Try.prog w = .ok (.value (.bool false)) w := by
  obtain ⟨rfl, rfl, rfl⟩ := h
  simp [execOp, ho, hx, hy, go_sem]
theorem seq28_neq_f {n : Nat} {l : Fr} {o : Oper} {x y : Operand} (a0 : Int) (a1 : Int) (a2 : Int) (c0 : Int) (c1 : Int) (c2 : Int) (ho : o.op = .binOp .neq 28 x y 28) (hx : fe n l x = .agg #[.int .i64 a0, .int .i64 a1, .int .u32 a2]) (hy : fe n l y = .agg #[.int .i64 c0, .int .i64 c1, .int .u32 c2]) (h : ¬ (a0 = c0 ∧ a1 = c1 ∧ a2 = c2)) (w : World) : (execOp (fe n l) o).run Try.prog w = .ok (.value (.bool true)) w := by
  by_cases h0 : a0 = c0
  · skip
    by_cases h1 : a1 = c1
    · skip
      by_cases h2 : a2 = c2
      · exact absurd ⟨h0, h1, h2⟩ h
      · simp [execOp, ho, hx, hy, go_sem, h0, h1, h2]
    · simp [execOp, ho, hx, hy, go_sem, h0, h1]
  · simp [execOp, ho, hx, hy, go_sem, h0]
set_option maxHeartbeats 4000000 in
theorem tfind_n (x y z : Int) : HT Try.prog 44 [Value.pointer none, Value.agg #[Value.int IntKind.i64 x, Value.int IntKind.i64 y, Value.int IntKind.u32 z]] [] (fun v K => v = Value.tuple #[Value.agg #[Value.int IntKind.i64 0, Value.int IntKind.i64 0, Value.int IntKind.u32 0, Value.int IntKind.i64 0, Value.int IntKind.i64 0, Value.int IntKind.u32 0], Value.int IntKind.i64 1] ∧ K = []) := by
  refine hi_in 38 ([(0, .pointer none), (1, .agg #[iV x, iV y, uV z])] : Fr) Try.func44 (by kernel_rfl) Try.ntmps44 rfl rfl ?_
  intro g w0 R h0
  change WP _ _ (CA Try.f44 []) _ _ _
  refine zSq (by kernel_rfl) ?_
  refine zPl [0, 1, 2] (by kernel_rfl) ?_
  refine plain_act (i := 0) (by kernel_rfl) ?_
  refine an_new (d := 3) (fun xb_ => pV xb_) (fun xb_ => Obj.cells [iV x, iV y, uV z].toArray 28 (0, 0)) (fun xb_ => by kernel_rfl) (by kernel_rfl) rfl h0 ?_
  intro r1 w2 (h3 : sat g w2 [Cl r1 [iV x, iV y, uV z] 28, R])
  refine plain_act (i := 1) (by kernel_rfl) ?_
  refine an_new (d := 4) (fun xb_ => pV xb_) (fun xb_ => Obj.cells [iV 0, iV 0, uV 0, iV 0, iV 0, uV 0].toArray 90 (0, 0)) (fun xb_ => by kernel_rfl) (by kernel_rfl) rfl h3 ?_
  intro r4 w5 (h6 : sat g w5 [Cl r4 [iV 0, iV 0, uV 0, iV 0, iV 0, uV 0] 90, Cl r1 [iV x, iV y, uV z] 28, R])
  refine zB0 [] [2] [(5, iV 0)] (by kernel_rfl) ?_
  refine PO.mk ?_
  change WP _ _ (CA Try.f44 [1]) _ _ _
  refine fk_cut ([(0, .pointer none), (3, pV r1), (4, pV r4)] : Fr) (by kernel_rfl) (fun a => WP _ _ _ _ a _) (fun lr7 => ?_)
  refine zSq (by kernel_rfl) ?_
  refine gi_blk (id := 0) (x := CA Try.f44 [1, 0, 0]) (by kernel_rfl) ?_
  refine zSq (by kernel_rfl) ?_
  refine zPl [0, 1, 2, 3] (by kernel_rfl) ?_
  refine zB0 [1, 2, 3] [0] [(9, .pointer none)] (by kernel_rfl) ?_
  refine plain_act (i := 1) (by kernel_rfl) ?_
  refine zCl 10 Try.call36 (tvalid_n) h6 (by kernel_rfl) ?_
  rintro v K w8 (⟨rfl, rfl⟩) h9
  refine ⟨_, rfl, ?_⟩
  have h10 : sat g w8 [Cl r4 [iV 0, iV 0, uV 0, iV 0, iV 0, uV 0] 90, Cl r1 [iV x, iV y, uV z] 28, R] := h9
  refine zB0 [] [2, 3] [(8, .bool true), (11, .bool true)] (by kernel_rfl) ?_
  refine PO.mk ?_
  change WP _ _ (CA Try.f44 [1, 0, 0, 1]) _ _ _
  refine fk_cut ([(0, .pointer none), (3, pV r1), (4, pV r4), (8, .bool true)] : Fr) (by kernel_rfl) (fun a => WP _ _ _ _ a _) (fun lr11 => ?_)
  refine zCt (by kernel_rfl) ?_
  refine zSq (by kernel_rfl) ?_
  refine zPl [0, 1, 2] (by kernel_rfl) ?_
  refine zB0 [1, 2] [0] [(12, .agg #[iV 0, iV 0, uV 0, iV 0, iV 0, uV 0])] (by kernel_rfl) ?_
  refine plain_act (i := 1) (by kernel_rfl) ?_
  refine an_store [(0, iV 0), (1, iV 0), (2, uV 0), (3, iV 0), (4, iV 0), (5, uV 0)] (cs' := [iV 0, iV 0, uV 0, iV 0, iV 0, uV 0]) (by kernel_rfl) (by kernel_rfl) (allq ⟨⟨by simp, rfl⟩, ⟨by simp, rfl⟩, ⟨by simp, rfl⟩, ⟨by simp, rfl⟩, ⟨by simp, rfl⟩, ⟨by simp, rfl⟩, trivial⟩) rfl h10 ?_
  intro w12 (h13 : sat g w12 [Cl r4 [iV 0, iV 0, uV 0, iV 0, iV 0, uV 0] 90, Cl r1 [iV x, iV y, uV z] 28, R])
  refine zB0 [] [2] [(5, iV 1)] (by kernel_rfl) ?_
  refine PO.mk ?_
  change WP _ _ (CA Try.f44 [1, 0, 0, 1, 0, 1]) _ _ _
  refine fk_cut ([(4, pV r4), (5, iV 1)] : Fr) (by kernel_rfl) (fun a => WP _ _ _ _ a _) (fun lr14 => ?_)
  refine gi_rt (by kernel_rfl) ?_
  repeat (first | simp only [Exit.inBlock] | simp only [Exit.then])
  have h15 : sat g w12 [R] := sat_sel [2] rfl h13
  refine hi_out [iV 0, iV 0, uV 0, iV 0, iV 0, uV 0] (.tuple #[.agg #[iV 0, iV 0, uV 0, iV 0, iV 0, uV 0], iV 1]) [(⟨r4, 0, none⟩, iV 0), (⟨r4, 1, none⟩, iV 0), (⟨r4, 2, none⟩, uV 0), (⟨r4, 3, none⟩, iV 0), (⟨r4, 4, none⟩, iV 0), (⟨r4, 5, none⟩, uV 0)] (by kernel_rfl) (allq ⟨sat_cell h13 0 rfl rfl, sat_cell h13 0 rfl rfl, sat_cell h13 0 rfl rfl, sat_cell h13 0 rfl rfl, sat_cell h13 0 rfl rfl, sat_cell h13 0 rfl rfl, trivial⟩) ?_
  exact ⟨.tuple #[.agg #[iV 0, iV 0, uV 0, iV 0, iV 0, uV 0], iV 1], [], rfl, ⟨rfl, rfl⟩, h15⟩

set_option maxHeartbeats 4000000 in
theorem tfind_z (b : Nat) (x y z : Int) : HT Try.prog 44 [Value.pointer (some ⟨b, 0, none⟩), Value.agg #[Value.int IntKind.i64 x, Value.int IntKind.i64 y, Value.int IntKind.u32 z]] [Cl b [Value.pointer none, Value.map none, Value.slice none 0 0] 76] (fun v K => v = Value.tuple #[Value.agg #[Value.int IntKind.i64 0, Value.int IntKind.i64 0, Value.int IntKind.u32 0, Value.int IntKind.i64 0, Value.int IntKind.i64 0, Value.int IntKind.u32 0], Value.int IntKind.i64 1] ∧ K = [Cl b [Value.pointer none, Value.map none, Value.slice none 0 0] 76]) := by
  refine hi_in 38 ([(0, pV b), (1, .agg #[iV x, iV y, uV z])] : Fr) Try.func44 (by kernel_rfl) Try.ntmps44 rfl rfl ?_
  intro g w0 R h0
  change WP _ _ (CA Try.f44 []) _ _ _
  refine zSq (by kernel_rfl) ?_
  refine zPl [0, 1, 2] (by kernel_rfl) ?_
  refine plain_act (i := 0) (by kernel_rfl) ?_
  refine an_new (d := 3) (fun xb_ => pV xb_) (fun xb_ => Obj.cells [iV x, iV y, uV z].toArray 28 (0, 0)) (fun xb_ => by kernel_rfl) (by kernel_rfl) rfl h0 ?_
  intro r1 w2 (h3 : sat g w2 [Cl r1 [iV x, iV y, uV z] 28, Cl b [.pointer none, .map none, .slice none 0 0] 76, R])
  refine plain_act (i := 1) (by kernel_rfl) ?_
  refine an_new (d := 4) (fun xb_ => pV xb_) (fun xb_ => Obj.cells [iV 0, iV 0, uV 0, iV 0, iV 0, uV 0].toArray 90 (0, 0)) (fun xb_ => by kernel_rfl) (by kernel_rfl) rfl h3 ?_
  intro r4 w5 (h6 : sat g w5 [Cl r4 [iV 0, iV 0, uV 0, iV 0, iV 0, uV 0] 90, Cl r1 [iV x, iV y, uV z] 28, Cl b [.pointer none, .map none, .slice none 0 0] 76, R])
  refine zB0 [] [2] [(5, iV 0)] (by kernel_rfl) ?_
  refine PO.mk ?_
  change WP _ _ (CA Try.f44 [1]) _ _ _
  refine fk_cut ([(0, pV b), (3, pV r1), (4, pV r4)] : Fr) (by kernel_rfl) (fun a => WP _ _ _ _ a _) (fun lr7 => ?_)
  refine zSq (by kernel_rfl) ?_
  refine gi_blk (id := 0) (x := CA Try.f44 [1, 0, 0]) (by kernel_rfl) ?_
  refine zSq (by kernel_rfl) ?_
  refine zPl [0, 1, 2, 3] (by kernel_rfl) ?_
  refine zB0 [1, 2, 3] [0] [(9, pV b)] (by kernel_rfl) ?_
  have h8 : sat g w5 [Cl b [.pointer none, .map none, .slice none 0 0] 76, Cl r4 [iV 0, iV 0, uV 0, iV 0, iV 0, uV 0] 90, Cl r1 [iV x, iV y, uV z] 28, R] := sat_sel [2, 0, 1, 3] rfl h6
  refine plain_act (i := 1) (by kernel_rfl) ?_
  refine zCl 10 Try.call36 (tvalid_z b) h8 (by kernel_rfl) ?_
  rintro v K w9 (⟨rfl, rfl⟩) h10
  refine ⟨_, rfl, ?_⟩
  have h11 : sat g w9 [Cl b [.pointer none, .map none, .slice none 0 0] 76, Cl r4 [iV 0, iV 0, uV 0, iV 0, iV 0, uV 0] 90, Cl r1 [iV x, iV y, uV z] 28, R] := h10
  refine zB0 [] [2, 3] [(8, .bool true), (11, .bool true)] (by kernel_rfl) ?_
  refine PO.mk ?_
  change WP _ _ (CA Try.f44 [1, 0, 0, 1]) _ _ _
  refine fk_cut ([(0, pV b), (3, pV r1), (4, pV r4), (8, .bool true)] : Fr) (by kernel_rfl) (fun a => WP _ _ _ _ a _) (fun lr12 => ?_)
  refine zCt (by kernel_rfl) ?_
  refine zSq (by kernel_rfl) ?_
  refine zPl [0, 1, 2] (by kernel_rfl) ?_
  refine zB0 [1, 2] [0] [(12, .agg #[iV 0, iV 0, uV 0, iV 0, iV 0, uV 0])] (by kernel_rfl) ?_
  have h13 : sat g w9 [Cl r4 [iV 0, iV 0, uV 0, iV 0, iV 0, uV 0] 90, Cl b [.pointer none, .map none, .slice none 0 0] 76, Cl r1 [iV x, iV y, uV z] 28, R] := sat_sel [1, 0, 2, 3] rfl h11
  refine plain_act (i := 1) (by kernel_rfl) ?_
  refine an_store [(0, iV 0), (1, iV 0), (2, uV 0), (3, iV 0), (4, iV 0), (5, uV 0)] (cs' := [iV 0, iV 0, uV 0, iV 0, iV 0, uV 0]) (by kernel_rfl) (by kernel_rfl) (allq ⟨⟨by simp, rfl⟩, ⟨by simp, rfl⟩, ⟨by simp, rfl⟩, ⟨by simp, rfl⟩, ⟨by simp, rfl⟩, ⟨by simp, rfl⟩, trivial⟩) rfl h13 ?_
  intro w14 (h15 : sat g w14 [Cl r4 [iV 0, iV 0, uV 0, iV 0, iV 0, uV 0] 90, Cl b [.pointer none, .map none, .slice none 0 0] 76, Cl r1 [iV x, iV y, uV z] 28, R])
  refine zB0 [] [2] [(5, iV 1)] (by kernel_rfl) ?_
  refine PO.mk ?_
  change WP _ _ (CA Try.f44 [1, 0, 0, 1, 0, 1]) _ _ _
  refine fk_cut ([(4, pV r4), (5, iV 1)] : Fr) (by kernel_rfl) (fun a => WP _ _ _ _ a _) (fun lr16 => ?_)
  refine gi_rt (by kernel_rfl) ?_
  repeat (first | simp only [Exit.inBlock] | simp only [Exit.then])
  have h17 : sat g w14 [Cl b [.pointer none, .map none, .slice none 0 0] 76, Cl r4 [iV 0, iV 0, uV 0, iV 0, iV 0, uV 0] 90, Cl r1 [iV x, iV y, uV z] 28, R] := sat_sel [1, 0, 2, 3] rfl h15
  have h18 : sat g w14 [Cl b [.pointer none, .map none, .slice none 0 0] 76, R] := sat_sel [0, 3] rfl h17
  refine hi_out [iV 0, iV 0, uV 0, iV 0, iV 0, uV 0] (.tuple #[.agg #[iV 0, iV 0, uV 0, iV 0, iV 0, uV 0], iV 1]) [(⟨r4, 0, none⟩, iV 0), (⟨r4, 1, none⟩, iV 0), (⟨r4, 2, none⟩, uV 0), (⟨r4, 3, none⟩, iV 0), (⟨r4, 4, none⟩, iV 0), (⟨r4, 5, none⟩, uV 0)] (by kernel_rfl) (allq ⟨sat_cell h15 0 rfl rfl, sat_cell h15 0 rfl rfl, sat_cell h15 0 rfl rfl, sat_cell h15 0 rfl rfl, sat_cell h15 0 rfl rfl, sat_cell h15 0 rfl rfl, trivial⟩) ?_
  exact ⟨.tuple #[.agg #[iV 0, iV 0, uV 0, iV 0, iV 0, uV 0], iV 1], [Cl b [.pointer none, .map none, .slice none 0 0] 76], rfl, ⟨rfl, rfl⟩, h18⟩

set_option maxHeartbeats 4000000 in
theorem tfind_none (b n : Nat) (A : List Sl2) (E : Tm) (RL : List Rs) (x y z : Int) (hz0 : 0 ≤ z) (hz1 : z ≤ 4294967295) (ho : 1 ≤ x ∧ x ≤ 3 ∧ 0 ≤ y ∧ y ≤ 255 ∧ 1 ≤ z) (hg_ : gget E y = none) : HT Try.prog 44 [Value.pointer (some ⟨b, 0, none⟩), Value.agg #[Value.int IntKind.i64 x, Value.int IntKind.i64 y, Value.int IntKind.u32 z]] [Tab b n A E RL] (fun v K => v = Value.tuple #[Value.agg #[Value.int IntKind.i64 0, Value.int IntKind.i64 0, Value.int IntKind.u32 0, Value.int IntKind.i64 0, Value.int IntKind.i64 0, Value.int IntKind.u32 0], Value.int IntKind.i64 7] ∧ K = [Tab b n A E RL]) := by
  refine hi_in 38 ([(0, pV b), (1, .agg #[iV x, iV y, uV z])] : Fr) Try.func44 (by kernel_rfl) Try.ntmps44 rfl rfl ?_
  intro g w0 R h0
  change WP _ _ (CA Try.f44 []) _ _ _
  refine zSq (by kernel_rfl) ?_
  refine zPl [0, 1, 2] (by kernel_rfl) ?_
  refine plain_act (i := 0) (by kernel_rfl) ?_
  refine an_new (d := 3) (fun xb_ => pV xb_) (fun xb_ => Obj.cells [iV x, iV y, uV z].toArray 28 (0, 0)) (fun xb_ => by kernel_rfl) (by kernel_rfl) rfl h0 ?_
  intro r1 w2 (h3 : sat g w2 [Cl r1 [iV x, iV y, uV z] 28, Tab b n A E RL, R])
  refine plain_act (i := 1) (by kernel_rfl) ?_
  refine an_new (d := 4) (fun xb_ => pV xb_) (fun xb_ => Obj.cells [iV 0, iV 0, uV 0, iV 0, iV 0, uV 0].toArray 90 (0, 0)) (fun xb_ => by kernel_rfl) (by kernel_rfl) rfl h3 ?_
  intro r4 w5 (h6 : sat g w5 [Cl r4 [iV 0, iV 0, uV 0, iV 0, iV 0, uV 0] 90, Cl r1 [iV x, iV y, uV z] 28, Tab b n A E RL, R])
  refine zB0 [] [2] [(5, iV 0)] (by kernel_rfl) ?_
  refine PO.mk ?_
  change WP _ _ (CA Try.f44 [1]) _ _ _
  refine fk_cut ([(0, pV b), (3, pV r1), (4, pV r4)] : Fr) (by kernel_rfl) (fun a => WP _ _ _ _ a _) (fun lr7 => ?_)
  refine zSq (by kernel_rfl) ?_
  refine gi_blk (id := 0) (x := CA Try.f44 [1, 0, 0]) (by kernel_rfl) ?_
  refine zSq (by kernel_rfl) ?_
  refine zPl [0, 1, 2, 3] (by kernel_rfl) ?_
  refine zB0 [1, 2, 3] [0] [(9, pV b)] (by kernel_rfl) ?_
  have h8 : sat g w5 [Tab b n A E RL, Cl r4 [iV 0, iV 0, uV 0, iV 0, iV 0, uV 0] 90, Cl r1 [iV x, iV y, uV z] 28, R] := sat_sel [2, 0, 1, 3] rfl h6
  refine plain_act (i := 1) (by kernel_rfl) ?_
  refine zCl 10 Try.call36 (tvalid_ht b n A E RL) h8 (by kernel_rfl) ?_
  rintro v K w9 (⟨rfl, rfl⟩) h10
  refine ⟨_, rfl, ?_⟩
  have h11 : sat g w9 [Tab b n A E RL, Cl r4 [iV 0, iV 0, uV 0, iV 0, iV 0, uV 0] 90, Cl r1 [iV x, iV y, uV z] 28, R] := h10
  refine zB0 [] [2, 3] [(8, .bool false), (11, .bool false)] (by kernel_rfl) ?_
  refine PO.mk ?_
  change WP _ _ (CA Try.f44 [1, 0, 0, 1]) _ _ _
  refine fk_cut ([(0, pV b), (3, pV r1), (4, pV r4), (8, .bool false)] : Fr) (by kernel_rfl) (fun a => WP _ _ _ _ a _) (fun lr12 => ?_)
  refine zCf (by kernel_rfl) ?_
  refine zSq (by kernel_rfl) ?_
  refine zPl [0, 1, 2, 3] (by kernel_rfl) ?_
  refine zBb [1, 2, 3] [(14, .agg #[iV x, iV y, uV z])] [⟨0, [iV x, iV y, uV z], none⟩] [(0, ⟨r1, 0, none⟩, iV x), (0, ⟨r1, 1, none⟩, iV y), (0, ⟨r1, 2, none⟩, uV z)] [] (by kernel_rfl) trivial (AllC_cons (sat_cell h11 2 rfl rfl) (AllC_cons (sat_cell h11 2 rfl rfl) (AllC_cons (sat_cell h11 2 rfl rfl) (AllC_nil _)))) ?_
  refine plain_act (i := 1) (by kernel_rfl) ?_
  refine zCl 15 Try.call27 (cdesc_ok x y z (by omega) (by omega) (by omega)) h11 (by kernel_rfl) ?_
  rintro v K w13 (⟨rfl, rfl⟩) h14
  refine ⟨_, rfl, ?_⟩
  have h15 : sat g w13 [Tab b n A E RL, Cl r4 [iV 0, iV 0, uV 0, iV 0, iV 0, uV 0] 90, Cl r1 [iV x, iV y, uV z] 28, R] := h14
  refine zB0 [] [2, 3] [(13, .bool false), (16, .bool false)] (by kernel_rfl) ?_
  refine PO.mk ?_
  change WP _ _ (CA Try.f44 [1, 0, 0, 1, 1, 1]) _ _ _
  refine fk_cut ([(0, pV b), (3, pV r1), (4, pV r4), (13, .bool false)] : Fr) (by kernel_rfl) (fun a => WP _ _ _ _ a _) (fun lr16 => ?_)
  refine zCf (by kernel_rfl) ?_
  refine gi_skp (by kernel_rfl) ?_
  change WP _ _ (CA Try.f44 [1, 1]) _ _ _
  refine zSq (by kernel_rfl) ?_
  refine gi_drw (id := 5) (ops := RA Try.f44 [1, 1, 0]) (Tr.fl 0 (Tr.fl 1 (Tr.fl 2 (Tr.fl 3 (Tr.fl 4 (Tr.fl 5 (Tr.an2 6 (Tr.fl 7 (Tr.fl 8 (Tr.fl 9 (Tr.an 10 (Tr.an 11 (Tr.fl 12 Tr.nil)))))) 10 (Tr.an 6 (Tr.fl 7 (Tr.fl 8 (Tr.fl 9 (Tr.an 11 (Tr.fl 12 Tr.nil))))))))))))) (by kernel_rfl) (by kernel_rfl) (by kernel_rfl) (by kernel_rfl) (by kernel_rfl) (fun _ _ d _ _ h => by cases d <;> exact h) h15 ?_
  intro w17 h18
  obtain ⟨s19, m20, p21, c22, E23, hM24, h25⟩ := tab_open h18
  have hRl_ := hM24.2
  refine draw_batch (t := (Tr.an2 6 (Tr.fl 7 (Tr.fl 8 (Tr.fl 9 (Tr.an 10 (Tr.an 11 (Tr.fl 12 Tr.nil)))))) 10 (Tr.an 6 (Tr.fl 7 (Tr.fl 8 (Tr.fl 9 (Tr.an 11 (Tr.fl 12 Tr.nil)))))))) [⟨0, [], none⟩, ⟨1, [], none⟩, ⟨2, [], none⟩, ⟨3, [.map (some m20)], none⟩, ⟨4, [], none⟩, ⟨5, [iV y], none⟩] (l' := ([(24, iV y), (23, .pointer (some ⟨r1, 1, none⟩)), (22, .map (some m20)), (21, .pointer (some ⟨b, 1, none⟩)), (20, pV b), (19, pV b), (0, pV b), (3, pV r1), (4, pV r4), (13, .bool false)] : Fr) ++ lr16) (pts' := [(5, ⟨r1, 1, none⟩, iV y), (3, ⟨b, 1, none⟩, .map (some m20))]) (eqs := []) (by kernel_rfl) trivial (AllC_cons (sat_cell h25 5 rfl rfl) (AllC_cons (sat_cell h25 0 rfl rfl) (AllC_nil _))) ?_
  refine ⟨?_, ?_⟩
  ·
    refine draw_act (i := 6) [] (by kernel_rfl) (by kernel_rfl) ?_
    refine act_law (d := 25) (.tuple #[.agg #[iV 0, iV 0, uV 0, iV 0, iV 0, uV 0], .bool false]) (by kernel_rfl) rfl (law_lookupOk (t := 73) (z := .agg #[iV 0, iV 0, uV 0, iV 0, iV 0, uV 0]) (m := (Operand.tmp 22)) (x := (Operand.tmp 24)) (kv := kI) (ve := vE) (by kernel_rfl) Try.underlying73 kyI (by kernel_rfl) y (by kernel_rfl) (by kernel_rfl) (j := 2) h25 rfl (.agg #[iV 0, iV 0, uV 0, iV 0, iV 0, uV 0]) false (by rw [hM24.1.2.2 y, hg_]; exact ⟨rfl, rfl⟩)) ?_
    refine ⟨(AllC_nil _), ?_⟩
    refine draw_batch (t := (Tr.an 10 (Tr.an 11 (Tr.fl 12 Tr.nil)))) [⟨7, [], none⟩, ⟨8, [], none⟩, ⟨9, [], none⟩] (l' := ([(27, .bool false), (26, .agg #[iV 0, iV 0, uV 0, iV 0, iV 0, uV 0]), (18, .tuple #[.agg #[iV 0, iV 0, uV 0, iV 0, iV 0, uV 0], .bool false]), (25, .tuple #[.agg #[iV 0, iV 0, uV 0, iV 0, iV 0, uV 0], .bool false]), (24, iV y), (23, .pointer (some ⟨r1, 1, none⟩)), (22, .map (some m20)), (21, .pointer (some ⟨b, 1, none⟩)), (20, pV b), (19, pV b), (0, pV b), (3, pV r1), (4, pV r4), (13, .bool false)] : Fr) ++ lr16) (pts' := []) (eqs := []) (by kernel_rfl) trivial (AllC_nil _) ?_
    refine draw_act (i := 10) [] (by kernel_rfl) (by kernel_rfl) ?_
    refine an_new (d := 6) (fun xb_ => pV xb_) (fun xb_ => Obj.cells [iV 0, iV 0, uV 0, iV 0, iV 0, uV 0].toArray 90 (0, 0)) (fun xb_ => by kernel_rfl) (by kernel_rfl) rfl h25 ?_
    intro r26 w27 (h28 : sat g w27 [Cl r26 [iV 0, iV 0, uV 0, iV 0, iV 0, uV 0] 90, Cl b [pV s19, .map (some m20), .slice p21 RL.length c22] 76, Tb s19 n A, Gp kI vE m20 E23, Sl 42 8 p21 RL.length c22 (fl eRs RL), Cl r4 [iV 0, iV 0, uV 0, iV 0, iV 0, uV 0] 90, Cl r1 [iV x, iV y, uV z] 28, R])
    refine ⟨(AllC_nil _), ?_⟩
    refine draw_act (i := 11) [] (by kernel_rfl) (by kernel_rfl) ?_
    refine an_store [(0, iV 0), (1, iV 0), (2, uV 0), (3, iV 0), (4, iV 0), (5, uV 0)] (cs' := [iV 0, iV 0, uV 0, iV 0, iV 0, uV 0]) (by kernel_rfl) (by kernel_rfl) (allq ⟨⟨by simp, rfl⟩, ⟨by simp, rfl⟩, ⟨by simp, rfl⟩, ⟨by simp, rfl⟩, ⟨by simp, rfl⟩, ⟨by simp, rfl⟩, trivial⟩) rfl h28 ?_
    intro w29 (h30 : sat g w29 [Cl r26 [iV 0, iV 0, uV 0, iV 0, iV 0, uV 0] 90, Cl b [pV s19, .map (some m20), .slice p21 RL.length c22] 76, Tb s19 n A, Gp kI vE m20 E23, Sl 42 8 p21 RL.length c22 (fl eRs RL), Cl r4 [iV 0, iV 0, uV 0, iV 0, iV 0, uV 0] 90, Cl r1 [iV x, iV y, uV z] 28, R])
    refine ⟨(AllC_nil _), ?_⟩
    refine draw_batch (t := Tr.nil) [⟨12, [], none⟩] (l' := ([(7, .bool false), (6, pV r26), (27, .bool false), (26, .agg #[iV 0, iV 0, uV 0, iV 0, iV 0, uV 0]), (18, .tuple #[.agg #[iV 0, iV 0, uV 0, iV 0, iV 0, uV 0], .bool false]), (25, .tuple #[.agg #[iV 0, iV 0, uV 0, iV 0, iV 0, uV 0], .bool false]), (24, iV y), (23, .pointer (some ⟨r1, 1, none⟩)), (22, .map (some m20)), (21, .pointer (some ⟨b, 1, none⟩)), (20, pV b), (19, pV b), (0, pV b), (3, pV r1), (4, pV r4), (13, .bool false)] : Fr) ++ lr16) (pts' := []) (eqs := []) (by kernel_rfl) trivial (AllC_nil _) ?_
    change WP _ _ (CA Try.f44 [1, 1, 1]) _ _ _
    refine fk_cut ([(3, pV r1), (4, pV r4), (6, pV r26), (7, .bool false)] : Fr) (by kernel_rfl) (fun a => WP _ _ _ _ a _) (fun lr31 => ?_)
    refine zSq (by kernel_rfl) ?_
    refine zSq (by kernel_rfl) ?_
    refine zPl [0, 1, 2, 3, 4, 5, 6, 7] (by kernel_rfl) ?_
    refine zB0 [] [0, 1, 2, 3, 4, 5, 6, 7] [(35, .bool true), (34, undef), (33, undef), (32, undef), (31, undef), (30, .bool true), (29, .bool true), (28, .bool false)] (by kernel_rfl) ?_
    refine PO.mk ?_
    change WP _ _ (CA Try.f44 [1, 1, 1, 0, 1]) _ _ _
    refine fk_cut ([(4, pV r4), (6, pV r26), (35, .bool true)] : Fr) (by kernel_rfl) (fun a => WP _ _ _ _ a _) (fun lr32 => ?_)
    refine zCt (by kernel_rfl) ?_
    refine zSq (by kernel_rfl) ?_
    refine zPl [0, 1, 2] (by kernel_rfl) ?_
    refine zB0 [1, 2] [0] [(36, .agg #[iV 0, iV 0, uV 0, iV 0, iV 0, uV 0])] (by kernel_rfl) ?_
    have h33 : sat g w29 [Cl r4 [iV 0, iV 0, uV 0, iV 0, iV 0, uV 0] 90, Cl r26 [iV 0, iV 0, uV 0, iV 0, iV 0, uV 0] 90, Cl b [pV s19, .map (some m20), .slice p21 RL.length c22] 76, Tb s19 n A, Gp kI vE m20 E23, Sl 42 8 p21 RL.length c22 (fl eRs RL), Cl r1 [iV x, iV y, uV z] 28, R] := sat_sel [5, 0, 1, 2, 3, 4, 6, 7] rfl h30
    refine plain_act (i := 1) (by kernel_rfl) ?_
    refine an_store [(0, iV 0), (1, iV 0), (2, uV 0), (3, iV 0), (4, iV 0), (5, uV 0)] (cs' := [iV 0, iV 0, uV 0, iV 0, iV 0, uV 0]) (by kernel_rfl) (by kernel_rfl) (allq ⟨⟨by simp, rfl⟩, ⟨by simp, rfl⟩, ⟨by simp, rfl⟩, ⟨by simp, rfl⟩, ⟨by simp, rfl⟩, ⟨by simp, rfl⟩, trivial⟩) rfl h33 ?_
    intro w34 (h35 : sat g w34 [Cl r4 [iV 0, iV 0, uV 0, iV 0, iV 0, uV 0] 90, Cl r26 [iV 0, iV 0, uV 0, iV 0, iV 0, uV 0] 90, Cl b [pV s19, .map (some m20), .slice p21 RL.length c22] 76, Tb s19 n A, Gp kI vE m20 E23, Sl 42 8 p21 RL.length c22 (fl eRs RL), Cl r1 [iV x, iV y, uV z] 28, R])
    refine zB0 [] [2] [(5, iV 7)] (by kernel_rfl) ?_
    refine PO.mk ?_
    change WP _ _ (CA Try.f44 [1, 1, 1, 0, 1, 0, 1]) _ _ _
    refine fk_cut ([(4, pV r4), (5, iV 7)] : Fr) (by kernel_rfl) (fun a => WP _ _ _ _ a _) (fun lr36 => ?_)
    refine gi_rt (by kernel_rfl) ?_
    repeat (first | simp only [Exit.inBlock] | simp only [Exit.then])
    have h37 : sat g w34 [Cl b [pV s19, .map (some m20), .slice p21 RL.length c22] 76, Tb s19 n A, Gp kI vE m20 E23, Sl 42 8 p21 RL.length c22 (fl eRs RL), Cl r4 [iV 0, iV 0, uV 0, iV 0, iV 0, uV 0] 90, Cl r26 [iV 0, iV 0, uV 0, iV 0, iV 0, uV 0] 90, Cl r1 [iV x, iV y, uV z] 28, R] := sat_sel [2, 3, 4, 5, 0, 1, 6, 7] rfl h35
    have h38 : sat g w34 [Tab b n A E RL, Cl r4 [iV 0, iV 0, uV 0, iV 0, iV 0, uV 0] 90, Cl r26 [iV 0, iV 0, uV 0, iV 0, iV 0, uV 0] 90, Cl r1 [iV x, iV y, uV z] 28, R] := tab_close hM24.1 (by omega) (by first | rfl | omega) h37
    have h39 : sat g w34 [Tab b n A E RL, R] := sat_sel [0, 4] rfl h38
    refine hi_out [iV 0, iV 0, uV 0, iV 0, iV 0, uV 0] (.tuple #[.agg #[iV 0, iV 0, uV 0, iV 0, iV 0, uV 0], iV 7]) [(⟨r4, 0, none⟩, iV 0), (⟨r4, 1, none⟩, iV 0), (⟨r4, 2, none⟩, uV 0), (⟨r4, 3, none⟩, iV 0), (⟨r4, 4, none⟩, iV 0), (⟨r4, 5, none⟩, uV 0)] (by kernel_rfl) (allq ⟨sat_cell h35 0 rfl rfl, sat_cell h35 0 rfl rfl, sat_cell h35 0 rfl rfl, sat_cell h35 0 rfl rfl, sat_cell h35 0 rfl rfl, sat_cell h35 0 rfl rfl, trivial⟩) ?_
    exact ⟨.tuple #[.agg #[iV 0, iV 0, uV 0, iV 0, iV 0, uV 0], iV 7], [Tab b n A E RL], rfl, ⟨rfl, rfl⟩, h39⟩
  ·
    refine draw_act (i := 10) [(5, ⟨r1, 1, none⟩, iV y), (3, ⟨b, 1, none⟩, .map (some m20))] (by kernel_rfl) (by kernel_rfl) ?_
    refine an_new (d := 6) (fun xb_ => pV xb_) (fun xb_ => Obj.cells [iV 0, iV 0, uV 0, iV 0, iV 0, uV 0].toArray 90 (0, 0)) (fun xb_ => by kernel_rfl) (by kernel_rfl) rfl h25 ?_
    intro r40 w41 (h42 : sat g w41 [Cl r40 [iV 0, iV 0, uV 0, iV 0, iV 0, uV 0] 90, Cl b [pV s19, .map (some m20), .slice p21 RL.length c22] 76, Tb s19 n A, Gp kI vE m20 E23, Sl 42 8 p21 RL.length c22 (fl eRs RL), Cl r4 [iV 0, iV 0, uV 0, iV 0, iV 0, uV 0] 90, Cl r1 [iV x, iV y, uV z] 28, R])
    refine ⟨(AllC_cons (sat_cell h42 6 rfl rfl) (AllC_cons (sat_cell h42 1 rfl rfl) (AllC_nil _))), ?_⟩
    refine draw_act (i := 6) [] (by kernel_rfl) (by kernel_rfl) ?_
    refine act_law (d := 25) (.tuple #[.agg #[iV 0, iV 0, uV 0, iV 0, iV 0, uV 0], .bool false]) (by kernel_rfl) rfl (law_lookupOk (t := 73) (z := .agg #[iV 0, iV 0, uV 0, iV 0, iV 0, uV 0]) (m := (Operand.tmp 22)) (x := (Operand.tmp 24)) (kv := kI) (ve := vE) (by kernel_rfl) Try.underlying73 kyI (by kernel_rfl) y (by kernel_rfl) (by kernel_rfl) (j := 3) h42 rfl (.agg #[iV 0, iV 0, uV 0, iV 0, iV 0, uV 0]) false (by rw [hM24.1.2.2 y, hg_]; exact ⟨rfl, rfl⟩)) ?_
    refine ⟨(AllC_nil _), ?_⟩
    refine draw_batch (t := (Tr.an 11 (Tr.fl 12 Tr.nil))) [⟨7, [], none⟩, ⟨8, [], none⟩, ⟨9, [], none⟩] (l' := ([(27, .bool false), (26, .agg #[iV 0, iV 0, uV 0, iV 0, iV 0, uV 0]), (18, .tuple #[.agg #[iV 0, iV 0, uV 0, iV 0, iV 0, uV 0], .bool false]), (25, .tuple #[.agg #[iV 0, iV 0, uV 0, iV 0, iV 0, uV 0], .bool false]), (6, pV r40), (24, iV y), (23, .pointer (some ⟨r1, 1, none⟩)), (22, .map (some m20)), (21, .pointer (some ⟨b, 1, none⟩)), (20, pV b), (19, pV b), (0, pV b), (3, pV r1), (4, pV r4), (13, .bool false)] : Fr) ++ lr16) (pts' := []) (eqs := []) (by kernel_rfl) trivial (AllC_nil _) ?_
    refine draw_act (i := 11) [] (by kernel_rfl) (by kernel_rfl) ?_
    refine an_store [(0, iV 0), (1, iV 0), (2, uV 0), (3, iV 0), (4, iV 0), (5, uV 0)] (cs' := [iV 0, iV 0, uV 0, iV 0, iV 0, uV 0]) (by kernel_rfl) (by kernel_rfl) (allq ⟨⟨by simp, rfl⟩, ⟨by simp, rfl⟩, ⟨by simp, rfl⟩, ⟨by simp, rfl⟩, ⟨by simp, rfl⟩, ⟨by simp, rfl⟩, trivial⟩) rfl h42 ?_
    intro w43 (h44 : sat g w43 [Cl r40 [iV 0, iV 0, uV 0, iV 0, iV 0, uV 0] 90, Cl b [pV s19, .map (some m20), .slice p21 RL.length c22] 76, Tb s19 n A, Gp kI vE m20 E23, Sl 42 8 p21 RL.length c22 (fl eRs RL), Cl r4 [iV 0, iV 0, uV 0, iV 0, iV 0, uV 0] 90, Cl r1 [iV x, iV y, uV z] 28, R])
    refine ⟨(AllC_nil _), ?_⟩
    refine draw_batch (t := Tr.nil) [⟨12, [], none⟩] (l' := ([(7, .bool false), (27, .bool false), (26, .agg #[iV 0, iV 0, uV 0, iV 0, iV 0, uV 0]), (18, .tuple #[.agg #[iV 0, iV 0, uV 0, iV 0, iV 0, uV 0], .bool false]), (25, .tuple #[.agg #[iV 0, iV 0, uV 0, iV 0, iV 0, uV 0], .bool false]), (6, pV r40), (24, iV y), (23, .pointer (some ⟨r1, 1, none⟩)), (22, .map (some m20)), (21, .pointer (some ⟨b, 1, none⟩)), (20, pV b), (19, pV b), (0, pV b), (3, pV r1), (4, pV r4), (13, .bool false)] : Fr) ++ lr16) (pts' := []) (eqs := []) (by kernel_rfl) trivial (AllC_nil _) ?_
    change WP _ _ (CA Try.f44 [1, 1, 1]) _ _ _
    refine fk_cut ([(3, pV r1), (4, pV r4), (6, pV r40), (7, .bool false)] : Fr) (by kernel_rfl) (fun a => WP _ _ _ _ a _) (fun lr45 => ?_)
    refine zSq (by kernel_rfl) ?_
    refine zSq (by kernel_rfl) ?_
    refine zPl [0, 1, 2, 3, 4, 5, 6, 7] (by kernel_rfl) ?_
    refine zB0 [] [0, 1, 2, 3, 4, 5, 6, 7] [(35, .bool true), (34, undef), (33, undef), (32, undef), (31, undef), (30, .bool true), (29, .bool true), (28, .bool false)] (by kernel_rfl) ?_
    refine PO.mk ?_
    change WP _ _ (CA Try.f44 [1, 1, 1, 0, 1]) _ _ _
    refine fk_cut ([(4, pV r4), (6, pV r40), (35, .bool true)] : Fr) (by kernel_rfl) (fun a => WP _ _ _ _ a _) (fun lr46 => ?_)
    refine zCt (by kernel_rfl) ?_
    refine zSq (by kernel_rfl) ?_
    refine zPl [0, 1, 2] (by kernel_rfl) ?_
    refine zB0 [1, 2] [0] [(36, .agg #[iV 0, iV 0, uV 0, iV 0, iV 0, uV 0])] (by kernel_rfl) ?_
    have h47 : sat g w43 [Cl r4 [iV 0, iV 0, uV 0, iV 0, iV 0, uV 0] 90, Cl r40 [iV 0, iV 0, uV 0, iV 0, iV 0, uV 0] 90, Cl b [pV s19, .map (some m20), .slice p21 RL.length c22] 76, Tb s19 n A, Gp kI vE m20 E23, Sl 42 8 p21 RL.length c22 (fl eRs RL), Cl r1 [iV x, iV y, uV z] 28, R] := sat_sel [5, 0, 1, 2, 3, 4, 6, 7] rfl h44
    refine plain_act (i := 1) (by kernel_rfl) ?_
    refine an_store [(0, iV 0), (1, iV 0), (2, uV 0), (3, iV 0), (4, iV 0), (5, uV 0)] (cs' := [iV 0, iV 0, uV 0, iV 0, iV 0, uV 0]) (by kernel_rfl) (by kernel_rfl) (allq ⟨⟨by simp, rfl⟩, ⟨by simp, rfl⟩, ⟨by simp, rfl⟩, ⟨by simp, rfl⟩, ⟨by simp, rfl⟩, ⟨by simp, rfl⟩, trivial⟩) rfl h47 ?_
    intro w48 (h49 : sat g w48 [Cl r4 [iV 0, iV 0, uV 0, iV 0, iV 0, uV 0] 90, Cl r40 [iV 0, iV 0, uV 0, iV 0, iV 0, uV 0] 90, Cl b [pV s19, .map (some m20), .slice p21 RL.length c22] 76, Tb s19 n A, Gp kI vE m20 E23, Sl 42 8 p21 RL.length c22 (fl eRs RL), Cl r1 [iV x, iV y, uV z] 28, R])
    refine zB0 [] [2] [(5, iV 7)] (by kernel_rfl) ?_
    refine PO.mk ?_
    change WP _ _ (CA Try.f44 [1, 1, 1, 0, 1, 0, 1]) _ _ _
    refine fk_cut ([(4, pV r4), (5, iV 7)] : Fr) (by kernel_rfl) (fun a => WP _ _ _ _ a _) (fun lr50 => ?_)
    refine gi_rt (by kernel_rfl) ?_
    repeat (first | simp only [Exit.inBlock] | simp only [Exit.then])
    have h51 : sat g w48 [Cl b [pV s19, .map (some m20), .slice p21 RL.length c22] 76, Tb s19 n A, Gp kI vE m20 E23, Sl 42 8 p21 RL.length c22 (fl eRs RL), Cl r4 [iV 0, iV 0, uV 0, iV 0, iV 0, uV 0] 90, Cl r40 [iV 0, iV 0, uV 0, iV 0, iV 0, uV 0] 90, Cl r1 [iV x, iV y, uV z] 28, R] := sat_sel [2, 3, 4, 5, 0, 1, 6, 7] rfl h49
    have h52 : sat g w48 [Tab b n A E RL, Cl r4 [iV 0, iV 0, uV 0, iV 0, iV 0, uV 0] 90, Cl r40 [iV 0, iV 0, uV 0, iV 0, iV 0, uV 0] 90, Cl r1 [iV x, iV y, uV z] 28, R] := tab_close hM24.1 (by omega) (by first | rfl | omega) h51
    have h53 : sat g w48 [Tab b n A E RL, R] := sat_sel [0, 4] rfl h52
    refine hi_out [iV 0, iV 0, uV 0, iV 0, iV 0, uV 0] (.tuple #[.agg #[iV 0, iV 0, uV 0, iV 0, iV 0, uV 0], iV 7]) [(⟨r4, 0, none⟩, iV 0), (⟨r4, 1, none⟩, iV 0), (⟨r4, 2, none⟩, uV 0), (⟨r4, 3, none⟩, iV 0), (⟨r4, 4, none⟩, iV 0), (⟨r4, 5, none⟩, uV 0)] (by kernel_rfl) (allq ⟨sat_cell h49 0 rfl rfl, sat_cell h49 0 rfl rfl, sat_cell h49 0 rfl rfl, sat_cell h49 0 rfl rfl, sat_cell h49 0 rfl rfl, sat_cell h49 0 rfl rfl, trivial⟩) ?_
    exact ⟨.tuple #[.agg #[iV 0, iV 0, uV 0, iV 0, iV 0, uV 0], iV 7], [Tab b n A E RL], rfl, ⟨rfl, rfl⟩, h53⟩

set_option maxHeartbeats 4000000 in
theorem tfind_ok (b n : Nat) (A : List Sl2) (E : Tm) (RL : List Rs) (x y z : Int) (e : Ety) (hz0 : 0 ≤ z) (hz1 : z ≤ 4294967295) (ho : 1 ≤ x ∧ x ≤ 3 ∧ 0 ≤ y ∧ y ≤ 255 ∧ 1 ≤ z) (hg_ : gget E y = some e) (hd_ : e.d.1 = x ∧ e.d.2.1 = y ∧ e.d.2.2 = z) : HT Try.prog 44 [Value.pointer (some ⟨b, 0, none⟩), Value.agg #[Value.int IntKind.i64 x, Value.int IntKind.i64 y, Value.int IntKind.u32 z]] [Tab b n A E RL] (fun v K => v = Value.tuple #[Value.agg #[Value.int IntKind.i64 e.d.1, Value.int IntKind.i64 e.d.2.1, Value.int IntKind.u32 e.d.2.2, Value.int IntKind.i64 e.num, Value.int IntKind.i64 e.h.1, Value.int IntKind.u32 e.h.2], Value.int IntKind.i64 0] ∧ K = [Tab b n A E RL]) := by
  refine hi_in 38 ([(0, pV b), (1, .agg #[iV x, iV y, uV z])] : Fr) Try.func44 (by kernel_rfl) Try.ntmps44 rfl rfl ?_
  intro g w0 R h0
  change WP _ _ (CA Try.f44 []) _ _ _
  refine zSq (by kernel_rfl) ?_
  refine zPl [0, 1, 2] (by kernel_rfl) ?_
  refine plain_act (i := 0) (by kernel_rfl) ?_
  refine an_new (d := 3) (fun xb_ => pV xb_) (fun xb_ => Obj.cells [iV x, iV y, uV z].toArray 28 (0, 0)) (fun xb_ => by kernel_rfl) (by kernel_rfl) rfl h0 ?_
  intro r1 w2 (h3 : sat g w2 [Cl r1 [iV x, iV y, uV z] 28, Tab b n A E RL, R])
  refine plain_act (i := 1) (by kernel_rfl) ?_
  refine an_new (d := 4) (fun xb_ => pV xb_) (fun xb_ => Obj.cells [iV 0, iV 0, uV 0, iV 0, iV 0, uV 0].toArray 90 (0, 0)) (fun xb_ => by kernel_rfl) (by kernel_rfl) rfl h3 ?_
  intro r4 w5 (h6 : sat g w5 [Cl r4 [iV 0, iV 0, uV 0, iV 0, iV 0, uV 0] 90, Cl r1 [iV x, iV y, uV z] 28, Tab b n A E RL, R])
  refine zB0 [] [2] [(5, iV 0)] (by kernel_rfl) ?_
  refine PO.mk ?_
  change WP _ _ (CA Try.f44 [1]) _ _ _
  refine fk_cut ([(0, pV b), (3, pV r1), (4, pV r4)] : Fr) (by kernel_rfl) (fun a => WP _ _ _ _ a _) (fun lr7 => ?_)
  refine zSq (by kernel_rfl) ?_
  refine gi_blk (id := 0) (x := CA Try.f44 [1, 0, 0]) (by kernel_rfl) ?_
  refine zSq (by kernel_rfl) ?_
  refine zPl [0, 1, 2, 3] (by kernel_rfl) ?_
  refine zB0 [1, 2, 3] [0] [(9, pV b)] (by kernel_rfl) ?_
  have h8 : sat g w5 [Tab b n A E RL, Cl r4 [iV 0, iV 0, uV 0, iV 0, iV 0, uV 0] 90, Cl r1 [iV x, iV y, uV z] 28, R] := sat_sel [2, 0, 1, 3] rfl h6
  refine plain_act (i := 1) (by kernel_rfl) ?_
  refine zCl 10 Try.call36 (tvalid_ht b n A E RL) h8 (by kernel_rfl) ?_
  rintro v K w9 (⟨rfl, rfl⟩) h10
  refine ⟨_, rfl, ?_⟩
  have h11 : sat g w9 [Tab b n A E RL, Cl r4 [iV 0, iV 0, uV 0, iV 0, iV 0, uV 0] 90, Cl r1 [iV x, iV y, uV z] 28, R] := h10
  refine zB0 [] [2, 3] [(8, .bool false), (11, .bool false)] (by kernel_rfl) ?_
  refine PO.mk ?_
  change WP _ _ (CA Try.f44 [1, 0, 0, 1]) _ _ _
  refine fk_cut ([(0, pV b), (3, pV r1), (4, pV r4), (8, .bool false)] : Fr) (by kernel_rfl) (fun a => WP _ _ _ _ a _) (fun lr12 => ?_)
  refine zCf (by kernel_rfl) ?_
  refine zSq (by kernel_rfl) ?_
  refine zPl [0, 1, 2, 3] (by kernel_rfl) ?_
  refine zBb [1, 2, 3] [(14, .agg #[iV x, iV y, uV z])] [⟨0, [iV x, iV y, uV z], none⟩] [(0, ⟨r1, 0, none⟩, iV x), (0, ⟨r1, 1, none⟩, iV y), (0, ⟨r1, 2, none⟩, uV z)] [] (by kernel_rfl) trivial (AllC_cons (sat_cell h11 2 rfl rfl) (AllC_cons (sat_cell h11 2 rfl rfl) (AllC_cons (sat_cell h11 2 rfl rfl) (AllC_nil _)))) ?_
  refine plain_act (i := 1) (by kernel_rfl) ?_
  refine zCl 15 Try.call27 (cdesc_ok x y z (by omega) (by omega) (by omega)) h11 (by kernel_rfl) ?_
  rintro v K w13 (⟨rfl, rfl⟩) h14
  refine ⟨_, rfl, ?_⟩
  have h15 : sat g w13 [Tab b n A E RL, Cl r4 [iV 0, iV 0, uV 0, iV 0, iV 0, uV 0] 90, Cl r1 [iV x, iV y, uV z] 28, R] := h14
  refine zB0 [] [2, 3] [(13, .bool false), (16, .bool false)] (by kernel_rfl) ?_
  refine PO.mk ?_
  change WP _ _ (CA Try.f44 [1, 0, 0, 1, 1, 1]) _ _ _
  refine fk_cut ([(0, pV b), (3, pV r1), (4, pV r4), (13, .bool false)] : Fr) (by kernel_rfl) (fun a => WP _ _ _ _ a _) (fun lr16 => ?_)
  refine zCf (by kernel_rfl) ?_
  refine gi_skp (by kernel_rfl) ?_
  change WP _ _ (CA Try.f44 [1, 1]) _ _ _
  refine zSq (by kernel_rfl) ?_
  refine gi_drw (id := 5) (ops := RA Try.f44 [1, 1, 0]) (Tr.fl 0 (Tr.fl 1 (Tr.fl 2 (Tr.fl 3 (Tr.fl 4 (Tr.fl 5 (Tr.an2 6 (Tr.fl 7 (Tr.fl 8 (Tr.fl 9 (Tr.an 10 (Tr.an 11 (Tr.fl 12 Tr.nil)))))) 10 (Tr.an 6 (Tr.fl 7 (Tr.fl 8 (Tr.fl 9 (Tr.an 11 (Tr.fl 12 Tr.nil))))))))))))) (by kernel_rfl) (by kernel_rfl) (by kernel_rfl) (by kernel_rfl) (by kernel_rfl) (fun _ _ d _ _ h => by cases d <;> exact h) h15 ?_
  intro w17 h18
  obtain ⟨s19, m20, p21, c22, E23, hM24, h25⟩ := tab_open h18
  have hRl_ := hM24.2
  refine draw_batch (t := (Tr.an2 6 (Tr.fl 7 (Tr.fl 8 (Tr.fl 9 (Tr.an 10 (Tr.an 11 (Tr.fl 12 Tr.nil)))))) 10 (Tr.an 6 (Tr.fl 7 (Tr.fl 8 (Tr.fl 9 (Tr.an 11 (Tr.fl 12 Tr.nil)))))))) [⟨0, [], none⟩, ⟨1, [], none⟩, ⟨2, [], none⟩, ⟨3, [.map (some m20)], none⟩, ⟨4, [], none⟩, ⟨5, [iV y], none⟩] (l' := ([(24, iV y), (23, .pointer (some ⟨r1, 1, none⟩)), (22, .map (some m20)), (21, .pointer (some ⟨b, 1, none⟩)), (20, pV b), (19, pV b), (0, pV b), (3, pV r1), (4, pV r4), (13, .bool false)] : Fr) ++ lr16) (pts' := [(5, ⟨r1, 1, none⟩, iV y), (3, ⟨b, 1, none⟩, .map (some m20))]) (eqs := []) (by kernel_rfl) trivial (AllC_cons (sat_cell h25 5 rfl rfl) (AllC_cons (sat_cell h25 0 rfl rfl) (AllC_nil _))) ?_
  refine ⟨?_, ?_⟩
  ·
    refine draw_act (i := 6) [] (by kernel_rfl) (by kernel_rfl) ?_
    refine act_law (d := 25) (.tuple #[.agg #[iV e.d.1, iV e.d.2.1, uV e.d.2.2, iV e.num, iV e.h.1, uV e.h.2], .bool true]) (by kernel_rfl) rfl (law_lookupOk (t := 73) (z := .agg #[iV 0, iV 0, uV 0, iV 0, iV 0, uV 0]) (m := (Operand.tmp 22)) (x := (Operand.tmp 24)) (kv := kI) (ve := vE) (by kernel_rfl) Try.underlying73 kyI (by kernel_rfl) y (by kernel_rfl) (by kernel_rfl) (j := 2) h25 rfl (.agg #[iV e.d.1, iV e.d.2.1, uV e.d.2.2, iV e.num, iV e.h.1, uV e.h.2]) true (by rw [hM24.1.2.2 y, hg_]; exact ⟨rfl, rfl⟩)) ?_
    refine ⟨(AllC_nil _), ?_⟩
    refine draw_batch (t := (Tr.an 10 (Tr.an 11 (Tr.fl 12 Tr.nil)))) [⟨7, [], none⟩, ⟨8, [], none⟩, ⟨9, [], none⟩] (l' := ([(27, .bool true), (26, .agg #[iV e.d.1, iV e.d.2.1, uV e.d.2.2, iV e.num, iV e.h.1, uV e.h.2]), (18, .tuple #[.agg #[iV e.d.1, iV e.d.2.1, uV e.d.2.2, iV e.num, iV e.h.1, uV e.h.2], .bool true]), (25, .tuple #[.agg #[iV e.d.1, iV e.d.2.1, uV e.d.2.2, iV e.num, iV e.h.1, uV e.h.2], .bool true]), (24, iV y), (23, .pointer (some ⟨r1, 1, none⟩)), (22, .map (some m20)), (21, .pointer (some ⟨b, 1, none⟩)), (20, pV b), (19, pV b), (0, pV b), (3, pV r1), (4, pV r4), (13, .bool false)] : Fr) ++ lr16) (pts' := []) (eqs := []) (by kernel_rfl) trivial (AllC_nil _) ?_
    refine draw_act (i := 10) [] (by kernel_rfl) (by kernel_rfl) ?_
    refine an_new (d := 6) (fun xb_ => pV xb_) (fun xb_ => Obj.cells [iV 0, iV 0, uV 0, iV 0, iV 0, uV 0].toArray 90 (0, 0)) (fun xb_ => by kernel_rfl) (by kernel_rfl) rfl h25 ?_
    intro r26 w27 (h28 : sat g w27 [Cl r26 [iV 0, iV 0, uV 0, iV 0, iV 0, uV 0] 90, Cl b [pV s19, .map (some m20), .slice p21 RL.length c22] 76, Tb s19 n A, Gp kI vE m20 E23, Sl 42 8 p21 RL.length c22 (fl eRs RL), Cl r4 [iV 0, iV 0, uV 0, iV 0, iV 0, uV 0] 90, Cl r1 [iV x, iV y, uV z] 28, R])
    refine ⟨(AllC_nil _), ?_⟩
    refine draw_act (i := 11) [] (by kernel_rfl) (by kernel_rfl) ?_
    refine an_store [(0, iV e.d.1), (1, iV e.d.2.1), (2, uV e.d.2.2), (3, iV e.num), (4, iV e.h.1), (5, uV e.h.2)] (cs' := [iV e.d.1, iV e.d.2.1, uV e.d.2.2, iV e.num, iV e.h.1, uV e.h.2]) (by kernel_rfl) (by kernel_rfl) (allq ⟨⟨by simp, rfl⟩, ⟨by simp, rfl⟩, ⟨by simp, rfl⟩, ⟨by simp, rfl⟩, ⟨by simp, rfl⟩, ⟨by simp, rfl⟩, trivial⟩) rfl h28 ?_
    intro w29 (h30 : sat g w29 [Cl r26 [iV e.d.1, iV e.d.2.1, uV e.d.2.2, iV e.num, iV e.h.1, uV e.h.2] 90, Cl b [pV s19, .map (some m20), .slice p21 RL.length c22] 76, Tb s19 n A, Gp kI vE m20 E23, Sl 42 8 p21 RL.length c22 (fl eRs RL), Cl r4 [iV 0, iV 0, uV 0, iV 0, iV 0, uV 0] 90, Cl r1 [iV x, iV y, uV z] 28, R])
    refine ⟨(AllC_nil _), ?_⟩
    refine draw_batch (t := Tr.nil) [⟨12, [], none⟩] (l' := ([(7, .bool true), (6, pV r26), (27, .bool true), (26, .agg #[iV e.d.1, iV e.d.2.1, uV e.d.2.2, iV e.num, iV e.h.1, uV e.h.2]), (18, .tuple #[.agg #[iV e.d.1, iV e.d.2.1, uV e.d.2.2, iV e.num, iV e.h.1, uV e.h.2], .bool true]), (25, .tuple #[.agg #[iV e.d.1, iV e.d.2.1, uV e.d.2.2, iV e.num, iV e.h.1, uV e.h.2], .bool true]), (24, iV y), (23, .pointer (some ⟨r1, 1, none⟩)), (22, .map (some m20)), (21, .pointer (some ⟨b, 1, none⟩)), (20, pV b), (19, pV b), (0, pV b), (3, pV r1), (4, pV r4), (13, .bool false)] : Fr) ++ lr16) (pts' := []) (eqs := []) (by kernel_rfl) trivial (AllC_nil _) ?_
    change WP _ _ (CA Try.f44 [1, 1, 1]) _ _ _
    refine fk_cut ([(3, pV r1), (4, pV r4), (6, pV r26), (7, .bool true)] : Fr) (by kernel_rfl) (fun a => WP _ _ _ _ a _) (fun lr31 => ?_)
    refine zSq (by kernel_rfl) ?_
    refine zSq (by kernel_rfl) ?_
    refine zPl [0, 1, 2, 3, 4, 5, 6, 7] (by kernel_rfl) ?_
    refine zBb [6, 7] [(33, .agg #[iV x, iV y, uV z]), (32, .agg #[iV e.d.1, iV e.d.2.1, uV e.d.2.2]), (31, pV r26), (30, .bool false), (29, .bool false), (28, .bool true)] [⟨0, [], none⟩, ⟨1, [], none⟩, ⟨2, [], none⟩, ⟨3, [], none⟩, ⟨4, [iV e.d.1, iV e.d.2.1, uV e.d.2.2], none⟩, ⟨5, [iV x, iV y, uV z], none⟩] [(5, ⟨r1, 0, none⟩, iV x), (5, ⟨r1, 1, none⟩, iV y), (5, ⟨r1, 2, none⟩, uV z), (4, ⟨r26, 0, none⟩, iV e.d.1), (4, ⟨r26, 1, none⟩, iV e.d.2.1), (4, ⟨r26, 2, none⟩, uV e.d.2.2)] [] (by kernel_rfl) trivial (AllC_cons (sat_cell h30 6 rfl rfl) (AllC_cons (sat_cell h30 6 rfl rfl) (AllC_cons (sat_cell h30 6 rfl rfl) (AllC_cons (sat_cell h30 0 rfl rfl) (AllC_cons (sat_cell h30 0 rfl rfl) (AllC_cons (sat_cell h30 0 rfl rfl) (AllC_nil _))))))) ?_
    refine plain_law (i := 6) 34 (.bool false) (by kernel_rfl) (seq28_neq_t (o := opA (RA Try.f44 [1, 1, 1, 0, 0]) 6) (x := (Operand.tmp 32)) (y := (Operand.tmp 33)) e.d.1 e.d.2.1 e.d.2.2 x y z (by kernel_rfl) (by kernel_rfl) (by kernel_rfl) ⟨(by omega), (by omega), (by omega)⟩ _) ?_
    refine zB0 [] [7] [(35, .bool false)] (by kernel_rfl) ?_
    refine PO.mk ?_
    change WP _ _ (CA Try.f44 [1, 1, 1, 0, 1]) _ _ _
    refine fk_cut ([(4, pV r4), (6, pV r26), (35, .bool false)] : Fr) (by kernel_rfl) (fun a => WP _ _ _ _ a _) (fun lr32 => ?_)
    refine zCf (by kernel_rfl) ?_
    refine gi_skp (by kernel_rfl) ?_
    change WP _ _ (CA Try.f44 [1, 1, 1, 1]) _ _ _
    refine zSq (by kernel_rfl) ?_
    refine zPl [0, 1, 2] (by kernel_rfl) ?_
    refine zBb [1, 2] [(37, .agg #[iV e.d.1, iV e.d.2.1, uV e.d.2.2, iV e.num, iV e.h.1, uV e.h.2])] [⟨0, [iV e.d.1, iV e.d.2.1, uV e.d.2.2, iV e.num, iV e.h.1, uV e.h.2], none⟩] [(0, ⟨r26, 0, none⟩, iV e.d.1), (0, ⟨r26, 1, none⟩, iV e.d.2.1), (0, ⟨r26, 2, none⟩, uV e.d.2.2), (0, ⟨r26, 3, none⟩, iV e.num), (0, ⟨r26, 4, none⟩, iV e.h.1), (0, ⟨r26, 5, none⟩, uV e.h.2)] [] (by kernel_rfl) trivial (AllC_cons (sat_cell h30 0 rfl rfl) (AllC_cons (sat_cell h30 0 rfl rfl) (AllC_cons (sat_cell h30 0 rfl rfl) (AllC_cons (sat_cell h30 0 rfl rfl) (AllC_cons (sat_cell h30 0 rfl rfl) (AllC_cons (sat_cell h30 0 rfl rfl) (AllC_nil _))))))) ?_
    have h33 : sat g w29 [Cl r4 [iV 0, iV 0, uV 0, iV 0, iV 0, uV 0] 90, Cl r26 [iV e.d.1, iV e.d.2.1, uV e.d.2.2, iV e.num, iV e.h.1, uV e.h.2] 90, Cl b [pV s19, .map (some m20), .slice p21 RL.length c22] 76, Tb s19 n A, Gp kI vE m20 E23, Sl 42 8 p21 RL.length c22 (fl eRs RL), Cl r1 [iV x, iV y, uV z] 28, R] := sat_sel [5, 0, 1, 2, 3, 4, 6, 7] rfl h30
    refine plain_act (i := 1) (by kernel_rfl) ?_
    refine an_store [(0, iV e.d.1), (1, iV e.d.2.1), (2, uV e.d.2.2), (3, iV e.num), (4, iV e.h.1), (5, uV e.h.2)] (cs' := [iV e.d.1, iV e.d.2.1, uV e.d.2.2, iV e.num, iV e.h.1, uV e.h.2]) (by kernel_rfl) (by kernel_rfl) (allq ⟨⟨by simp, rfl⟩, ⟨by simp, rfl⟩, ⟨by simp, rfl⟩, ⟨by simp, rfl⟩, ⟨by simp, rfl⟩, ⟨by simp, rfl⟩, trivial⟩) rfl h33 ?_
    intro w34 (h35 : sat g w34 [Cl r4 [iV e.d.1, iV e.d.2.1, uV e.d.2.2, iV e.num, iV e.h.1, uV e.h.2] 90, Cl r26 [iV e.d.1, iV e.d.2.1, uV e.d.2.2, iV e.num, iV e.h.1, uV e.h.2] 90, Cl b [pV s19, .map (some m20), .slice p21 RL.length c22] 76, Tb s19 n A, Gp kI vE m20 E23, Sl 42 8 p21 RL.length c22 (fl eRs RL), Cl r1 [iV x, iV y, uV z] 28, R])
    refine zB0 [] [2] [(5, iV 0)] (by kernel_rfl) ?_
    refine PO.mk ?_
    change WP _ _ (CA Try.f44 [1, 1, 1, 1, 1]) _ _ _
    refine fk_cut ([(4, pV r4), (5, iV 0)] : Fr) (by kernel_rfl) (fun a => WP _ _ _ _ a _) (fun lr36 => ?_)
    refine gi_rt (by kernel_rfl) ?_
    repeat (first | simp only [Exit.inBlock] | simp only [Exit.then])
    have h37 : sat g w34 [Cl b [pV s19, .map (some m20), .slice p21 RL.length c22] 76, Tb s19 n A, Gp kI vE m20 E23, Sl 42 8 p21 RL.length c22 (fl eRs RL), Cl r4 [iV e.d.1, iV e.d.2.1, uV e.d.2.2, iV e.num, iV e.h.1, uV e.h.2] 90, Cl r26 [iV e.d.1, iV e.d.2.1, uV e.d.2.2, iV e.num, iV e.h.1, uV e.h.2] 90, Cl r1 [iV x, iV y, uV z] 28, R] := sat_sel [2, 3, 4, 5, 0, 1, 6, 7] rfl h35
    have h38 : sat g w34 [Tab b n A E RL, Cl r4 [iV e.d.1, iV e.d.2.1, uV e.d.2.2, iV e.num, iV e.h.1, uV e.h.2] 90, Cl r26 [iV e.d.1, iV e.d.2.1, uV e.d.2.2, iV e.num, iV e.h.1, uV e.h.2] 90, Cl r1 [iV x, iV y, uV z] 28, R] := tab_close hM24.1 (by omega) (by first | rfl | omega) h37
    have h39 : sat g w34 [Tab b n A E RL, R] := sat_sel [0, 4] rfl h38
    refine hi_out [iV e.d.1, iV e.d.2.1, uV e.d.2.2, iV e.num, iV e.h.1, uV e.h.2] (.tuple #[.agg #[iV e.d.1, iV e.d.2.1, uV e.d.2.2, iV e.num, iV e.h.1, uV e.h.2], iV 0]) [(⟨r4, 0, none⟩, iV e.d.1), (⟨r4, 1, none⟩, iV e.d.2.1), (⟨r4, 2, none⟩, uV e.d.2.2), (⟨r4, 3, none⟩, iV e.num), (⟨r4, 4, none⟩, iV e.h.1), (⟨r4, 5, none⟩, uV e.h.2)] (by kernel_rfl) (allq ⟨sat_cell h35 0 rfl rfl, sat_cell h35 0 rfl rfl, sat_cell h35 0 rfl rfl, sat_cell h35 0 rfl rfl, sat_cell h35 0 rfl rfl, sat_cell h35 0 rfl rfl, trivial⟩) ?_
    exact ⟨.tuple #[.agg #[iV e.d.1, iV e.d.2.1, uV e.d.2.2, iV e.num, iV e.h.1, uV e.h.2], iV 0], [Tab b n A E RL], rfl, ⟨rfl, rfl⟩, h39⟩
  ·
    refine draw_act (i := 10) [(5, ⟨r1, 1, none⟩, iV y), (3, ⟨b, 1, none⟩, .map (some m20))] (by kernel_rfl) (by kernel_rfl) ?_
    refine an_new (d := 6) (fun xb_ => pV xb_) (fun xb_ => Obj.cells [iV 0, iV 0, uV 0, iV 0, iV 0, uV 0].toArray 90 (0, 0)) (fun xb_ => by kernel_rfl) (by kernel_rfl) rfl h25 ?_
    intro r40 w41 (h42 : sat g w41 [Cl r40 [iV 0, iV 0, uV 0, iV 0, iV 0, uV 0] 90, Cl b [pV s19, .map (some m20), .slice p21 RL.length c22] 76, Tb s19 n A, Gp kI vE m20 E23, Sl 42 8 p21 RL.length c22 (fl eRs RL), Cl r4 [iV 0, iV 0, uV 0, iV 0, iV 0, uV 0] 90, Cl r1 [iV x, iV y, uV z] 28, R])
    refine ⟨(AllC_cons (sat_cell h42 6 rfl rfl) (AllC_cons (sat_cell h42 1 rfl rfl) (AllC_nil _))), ?_⟩
    refine draw_act (i := 6) [] (by kernel_rfl) (by kernel_rfl) ?_
    refine act_law (d := 25) (.tuple #[.agg #[iV e.d.1, iV e.d.2.1, uV e.d.2.2, iV e.num, iV e.h.1, uV e.h.2], .bool true]) (by kernel_rfl) rfl (law_lookupOk (t := 73) (z := .agg #[iV 0, iV 0, uV 0, iV 0, iV 0, uV 0]) (m := (Operand.tmp 22)) (x := (Operand.tmp 24)) (kv := kI) (ve := vE) (by kernel_rfl) Try.underlying73 kyI (by kernel_rfl) y (by kernel_rfl) (by kernel_rfl) (j := 3) h42 rfl (.agg #[iV e.d.1, iV e.d.2.1, uV e.d.2.2, iV e.num, iV e.h.1, uV e.h.2]) true (by rw [hM24.1.2.2 y, hg_]; exact ⟨rfl, rfl⟩)) ?_
    refine ⟨(AllC_nil _), ?_⟩
    refine draw_batch (t := (Tr.an 11 (Tr.fl 12 Tr.nil))) [⟨7, [], none⟩, ⟨8, [], none⟩, ⟨9, [], none⟩] (l' := ([(27, .bool true), (26, .agg #[iV e.d.1, iV e.d.2.1, uV e.d.2.2, iV e.num, iV e.h.1, uV e.h.2]), (18, .tuple #[.agg #[iV e.d.1, iV e.d.2.1, uV e.d.2.2, iV e.num, iV e.h.1, uV e.h.2], .bool true]), (25, .tuple #[.agg #[iV e.d.1, iV e.d.2.1, uV e.d.2.2, iV e.num, iV e.h.1, uV e.h.2], .bool true]), (6, pV r40), (24, iV y), (23, .pointer (some ⟨r1, 1, none⟩)), (22, .map (some m20)), (21, .pointer (some ⟨b, 1, none⟩)), (20, pV b), (19, pV b), (0, pV b), (3, pV r1), (4, pV r4), (13, .bool false)] : Fr) ++ lr16) (pts' := []) (eqs := []) (by kernel_rfl) trivial (AllC_nil _) ?_
    refine draw_act (i := 11) [] (by kernel_rfl) (by kernel_rfl) ?_
    refine an_store [(0, iV e.d.1), (1, iV e.d.2.1), (2, uV e.d.2.2), (3, iV e.num), (4, iV e.h.1), (5, uV e.h.2)] (cs' := [iV e.d.1, iV e.d.2.1, uV e.d.2.2, iV e.num, iV e.h.1, uV e.h.2]) (by kernel_rfl) (by kernel_rfl) (allq ⟨⟨by simp, rfl⟩, ⟨by simp, rfl⟩, ⟨by simp, rfl⟩, ⟨by simp, rfl⟩, ⟨by simp, rfl⟩, ⟨by simp, rfl⟩, trivial⟩) rfl h42 ?_
    intro w43 (h44 : sat g w43 [Cl r40 [iV e.d.1, iV e.d.2.1, uV e.d.2.2, iV e.num, iV e.h.1, uV e.h.2] 90, Cl b [pV s19, .map (some m20), .slice p21 RL.length c22] 76, Tb s19 n A, Gp kI vE m20 E23, Sl 42 8 p21 RL.length c22 (fl eRs RL), Cl r4 [iV 0, iV 0, uV 0, iV 0, iV 0, uV 0] 90, Cl r1 [iV x, iV y, uV z] 28, R])
    refine ⟨(AllC_nil _), ?_⟩
    refine draw_batch (t := Tr.nil) [⟨12, [], none⟩] (l' := ([(7, .bool true), (27, .bool true), (26, .agg #[iV e.d.1, iV e.d.2.1, uV e.d.2.2, iV e.num, iV e.h.1, uV e.h.2]), (18, .tuple #[.agg #[iV e.d.1, iV e.d.2.1, uV e.d.2.2, iV e.num, iV e.h.1, uV e.h.2], .bool true]), (25, .tuple #[.agg #[iV e.d.1, iV e.d.2.1, uV e.d.2.2, iV e.num, iV e.h.1, uV e.h.2], .bool true]), (6, pV r40), (24, iV y), (23, .pointer (some ⟨r1, 1, none⟩)), (22, .map (some m20)), (21, .pointer (some ⟨b, 1, none⟩)), (20, pV b), (19, pV b), (0, pV b), (3, pV r1), (4, pV r4), (13, .bool false)] : Fr) ++ lr16) (pts' := []) (eqs := []) (by kernel_rfl) trivial (AllC_nil _) ?_
    change WP _ _ (CA Try.f44 [1, 1, 1]) _ _ _
    refine fk_cut ([(3, pV r1), (4, pV r4), (6, pV r40), (7, .bool true)] : Fr) (by kernel_rfl) (fun a => WP _ _ _ _ a _) (fun lr45 => ?_)
    refine zSq (by kernel_rfl) ?_
    refine zSq (by kernel_rfl) ?_
    refine zPl [0, 1, 2, 3, 4, 5, 6, 7] (by kernel_rfl) ?_
    refine zBb [6, 7] [(33, .agg #[iV x, iV y, uV z]), (32, .agg #[iV e.d.1, iV e.d.2.1, uV e.d.2.2]), (31, pV r40), (30, .bool false), (29, .bool false), (28, .bool true)] [⟨0, [], none⟩, ⟨1, [], none⟩, ⟨2, [], none⟩, ⟨3, [], none⟩, ⟨4, [iV e.d.1, iV e.d.2.1, uV e.d.2.2], none⟩, ⟨5, [iV x, iV y, uV z], none⟩] [(5, ⟨r1, 0, none⟩, iV x), (5, ⟨r1, 1, none⟩, iV y), (5, ⟨r1, 2, none⟩, uV z), (4, ⟨r40, 0, none⟩, iV e.d.1), (4, ⟨r40, 1, none⟩, iV e.d.2.1), (4, ⟨r40, 2, none⟩, uV e.d.2.2)] [] (by kernel_rfl) trivial (AllC_cons (sat_cell h44 6 rfl rfl) (AllC_cons (sat_cell h44 6 rfl rfl) (AllC_cons (sat_cell h44 6 rfl rfl) (AllC_cons (sat_cell h44 0 rfl rfl) (AllC_cons (sat_cell h44 0 rfl rfl) (AllC_cons (sat_cell h44 0 rfl rfl) (AllC_nil _))))))) ?_
    refine plain_law (i := 6) 34 (.bool false) (by kernel_rfl) (seq28_neq_t (o := opA (RA Try.f44 [1, 1, 1, 0, 0]) 6) (x := (Operand.tmp 32)) (y := (Operand.tmp 33)) e.d.1 e.d.2.1 e.d.2.2 x y z (by kernel_rfl) (by kernel_rfl) (by kernel_rfl) ⟨(by omega), (by omega), (by omega)⟩ _) ?_
    refine zB0 [] [7] [(35, .bool false)] (by kernel_rfl) ?_
    refine PO.mk ?_
    change WP _ _ (CA Try.f44 [1, 1, 1, 0, 1]) _ _ _
    refine fk_cut ([(4, pV r4), (6, pV r40), (35, .bool false)] : Fr) (by kernel_rfl) (fun a => WP _ _ _ _ a _) (fun lr46 => ?_)
    refine zCf (by kernel_rfl) ?_
    refine gi_skp (by kernel_rfl) ?_
    change WP _ _ (CA Try.f44 [1, 1, 1, 1]) _ _ _
    refine zSq (by kernel_rfl) ?_
    refine zPl [0, 1, 2] (by kernel_rfl) ?_
    refine zBb [1, 2] [(37, .agg #[iV e.d.1, iV e.d.2.1, uV e.d.2.2, iV e.num, iV e.h.1, uV e.h.2])] [⟨0, [iV e.d.1, iV e.d.2.1, uV e.d.2.2, iV e.num, iV e.h.1, uV e.h.2], none⟩] [(0, ⟨r40, 0, none⟩, iV e.d.1), (0, ⟨r40, 1, none⟩, iV e.d.2.1), (0, ⟨r40, 2, none⟩, uV e.d.2.2), (0, ⟨r40, 3, none⟩, iV e.num), (0, ⟨r40, 4, none⟩, iV e.h.1), (0, ⟨r40, 5, none⟩, uV e.h.2)] [] (by kernel_rfl) trivial (AllC_cons (sat_cell h44 0 rfl rfl) (AllC_cons (sat_cell h44 0 rfl rfl) (AllC_cons (sat_cell h44 0 rfl rfl) (AllC_cons (sat_cell h44 0 rfl rfl) (AllC_cons (sat_cell h44 0 rfl rfl) (AllC_cons (sat_cell h44 0 rfl rfl) (AllC_nil _))))))) ?_
    have h47 : sat g w43 [Cl r4 [iV 0, iV 0, uV 0, iV 0, iV 0, uV 0] 90, Cl r40 [iV e.d.1, iV e.d.2.1, uV e.d.2.2, iV e.num, iV e.h.1, uV e.h.2] 90, Cl b [pV s19, .map (some m20), .slice p21 RL.length c22] 76, Tb s19 n A, Gp kI vE m20 E23, Sl 42 8 p21 RL.length c22 (fl eRs RL), Cl r1 [iV x, iV y, uV z] 28, R] := sat_sel [5, 0, 1, 2, 3, 4, 6, 7] rfl h44
    refine plain_act (i := 1) (by kernel_rfl) ?_
    refine an_store [(0, iV e.d.1), (1, iV e.d.2.1), (2, uV e.d.2.2), (3, iV e.num), (4, iV e.h.1), (5, uV e.h.2)] (cs' := [iV e.d.1, iV e.d.2.1, uV e.d.2.2, iV e.num, iV e.h.1, uV e.h.2]) (by kernel_rfl) (by kernel_rfl) (allq ⟨⟨by simp, rfl⟩, ⟨by simp, rfl⟩, ⟨by simp, rfl⟩, ⟨by simp, rfl⟩, ⟨by simp, rfl⟩, ⟨by simp, rfl⟩, trivial⟩) rfl h47 ?_
    intro w48 (h49 : sat g w48 [Cl r4 [iV e.d.1, iV e.d.2.1, uV e.d.2.2, iV e.num, iV e.h.1, uV e.h.2] 90, Cl r40 [iV e.d.1, iV e.d.2.1, uV e.d.2.2, iV e.num, iV e.h.1, uV e.h.2] 90, Cl b [pV s19, .map (some m20), .slice p21 RL.length c22] 76, Tb s19 n A, Gp kI vE m20 E23, Sl 42 8 p21 RL.length c22 (fl eRs RL), Cl r1 [iV x, iV y, uV z] 28, R])
    refine zB0 [] [2] [(5, iV 0)] (by kernel_rfl) ?_
    refine PO.mk ?_
    change WP _ _ (CA Try.f44 [1, 1, 1, 1, 1]) _ _ _
    refine fk_cut ([(4, pV r4), (5, iV 0)] : Fr) (by kernel_rfl) (fun a => WP _ _ _ _ a _) (fun lr50 => ?_)
    refine gi_rt (by kernel_rfl) ?_
    repeat (first | simp only [Exit.inBlock] | simp only [Exit.then])
    have h51 : sat g w48 [Cl b [pV s19, .map (some m20), .slice p21 RL.length c22] 76, Tb s19 n A, Gp kI vE m20 E23, Sl 42 8 p21 RL.length c22 (fl eRs RL), Cl r4 [iV e.d.1, iV e.d.2.1, uV e.d.2.2, iV e.num, iV e.h.1, uV e.h.2] 90, Cl r40 [iV e.d.1, iV e.d.2.1, uV e.d.2.2, iV e.num, iV e.h.1, uV e.h.2] 90, Cl r1 [iV x, iV y, uV z] 28, R] := sat_sel [2, 3, 4, 5, 0, 1, 6, 7] rfl h49
    have h52 : sat g w48 [Tab b n A E RL, Cl r4 [iV e.d.1, iV e.d.2.1, uV e.d.2.2, iV e.num, iV e.h.1, uV e.h.2] 90, Cl r40 [iV e.d.1, iV e.d.2.1, uV e.d.2.2, iV e.num, iV e.h.1, uV e.h.2] 90, Cl r1 [iV x, iV y, uV z] 28, R] := tab_close hM24.1 (by omega) (by first | rfl | omega) h51
    have h53 : sat g w48 [Tab b n A E RL, R] := sat_sel [0, 4] rfl h52
    refine hi_out [iV e.d.1, iV e.d.2.1, uV e.d.2.2, iV e.num, iV e.h.1, uV e.h.2] (.tuple #[.agg #[iV e.d.1, iV e.d.2.1, uV e.d.2.2, iV e.num, iV e.h.1, uV e.h.2], iV 0]) [(⟨r4, 0, none⟩, iV e.d.1), (⟨r4, 1, none⟩, iV e.d.2.1), (⟨r4, 2, none⟩, uV e.d.2.2), (⟨r4, 3, none⟩, iV e.num), (⟨r4, 4, none⟩, iV e.h.1), (⟨r4, 5, none⟩, uV e.h.2)] (by kernel_rfl) (allq ⟨sat_cell h49 0 rfl rfl, sat_cell h49 0 rfl rfl, sat_cell h49 0 rfl rfl, sat_cell h49 0 rfl rfl, sat_cell h49 0 rfl rfl, sat_cell h49 0 rfl rfl, trivial⟩) ?_
    exact ⟨.tuple #[.agg #[iV e.d.1, iV e.d.2.1, uV e.d.2.2, iV e.num, iV e.h.1, uV e.h.2], iV 0], [Tab b n A E RL], rfl, ⟨rfl, rfl⟩, h53⟩

set_option maxHeartbeats 4000000 in
theorem tfind_diff (b n : Nat) (A : List Sl2) (E : Tm) (RL : List Rs) (x y z : Int) (e : Ety) (hz0 : 0 ≤ z) (hz1 : z ≤ 4294967295) (ho : 1 ≤ x ∧ x ≤ 3 ∧ 0 ≤ y ∧ y ≤ 255 ∧ 1 ≤ z) (hg_ : gget E y = some e) (hd_ : ¬ (e.d.1 = x ∧ e.d.2.1 = y ∧ e.d.2.2 = z)) : HT Try.prog 44 [Value.pointer (some ⟨b, 0, none⟩), Value.agg #[Value.int IntKind.i64 x, Value.int IntKind.i64 y, Value.int IntKind.u32 z]] [Tab b n A E RL] (fun v K => v = Value.tuple #[Value.agg #[Value.int IntKind.i64 0, Value.int IntKind.i64 0, Value.int IntKind.u32 0, Value.int IntKind.i64 0, Value.int IntKind.i64 0, Value.int IntKind.u32 0], Value.int IntKind.i64 7] ∧ K = [Tab b n A E RL]) := by
  refine hi_in 38 ([(0, pV b), (1, .agg #[iV x, iV y, uV z])] : Fr) Try.func44 (by kernel_rfl) Try.ntmps44 rfl rfl ?_
  intro g w0 R h0
  change WP _ _ (CA Try.f44 []) _ _ _
  refine zSq (by kernel_rfl) ?_
  refine zPl [0, 1, 2] (by kernel_rfl) ?_
  refine plain_act (i := 0) (by kernel_rfl) ?_
  refine an_new (d := 3) (fun xb_ => pV xb_) (fun xb_ => Obj.cells [iV x, iV y, uV z].toArray 28 (0, 0)) (fun xb_ => by kernel_rfl) (by kernel_rfl) rfl h0 ?_
  intro r1 w2 (h3 : sat g w2 [Cl r1 [iV x, iV y, uV z] 28, Tab b n A E RL, R])
  refine plain_act (i := 1) (by kernel_rfl) ?_
  refine an_new (d := 4) (fun xb_ => pV xb_) (fun xb_ => Obj.cells [iV 0, iV 0, uV 0, iV 0, iV 0, uV 0].toArray 90 (0, 0)) (fun xb_ => by kernel_rfl) (by kernel_rfl) rfl h3 ?_
  intro r4 w5 (h6 : sat g w5 [Cl r4 [iV 0, iV 0, uV 0, iV 0, iV 0, uV 0] 90, Cl r1 [iV x, iV y, uV z] 28, Tab b n A E RL, R])
  refine zB0 [] [2] [(5, iV 0)] (by kernel_rfl) ?_
  refine PO.mk ?_
  change WP _ _ (CA Try.f44 [1]) _ _ _
  refine fk_cut ([(0, pV b), (3, pV r1), (4, pV r4)] : Fr) (by kernel_rfl) (fun a => WP _ _ _ _ a _) (fun lr7 => ?_)
  refine zSq (by kernel_rfl) ?_
  refine gi_blk (id := 0) (x := CA Try.f44 [1, 0, 0]) (by kernel_rfl) ?_
  refine zSq (by kernel_rfl) ?_
  refine zPl [0, 1, 2, 3] (by kernel_rfl) ?_
  refine zB0 [1, 2, 3] [0] [(9, pV b)] (by kernel_rfl) ?_
  have h8 : sat g w5 [Tab b n A E RL, Cl r4 [iV 0, iV 0, uV 0, iV 0, iV 0, uV 0] 90, Cl r1 [iV x, iV y, uV z] 28, R] := sat_sel [2, 0, 1, 3] rfl h6
  refine plain_act (i := 1) (by kernel_rfl) ?_
  refine zCl 10 Try.call36 (tvalid_ht b n A E RL) h8 (by kernel_rfl) ?_
  rintro v K w9 (⟨rfl, rfl⟩) h10
  refine ⟨_, rfl, ?_⟩
  have h11 : sat g w9 [Tab b n A E RL, Cl r4 [iV 0, iV 0, uV 0, iV 0, iV 0, uV 0] 90, Cl r1 [iV x, iV y, uV z] 28, R] := h10
  refine zB0 [] [2, 3] [(8, .bool false), (11, .bool false)] (by kernel_rfl) ?_
  refine PO.mk ?_
  change WP _ _ (CA Try.f44 [1, 0, 0, 1]) _ _ _
  refine fk_cut ([(0, pV b), (3, pV r1), (4, pV r4), (8, .bool false)] : Fr) (by kernel_rfl) (fun a => WP _ _ _ _ a _) (fun lr12 => ?_)
  refine zCf (by kernel_rfl) ?_
  refine zSq (by kernel_rfl) ?_
  refine zPl [0, 1, 2, 3] (by kernel_rfl) ?_
  refine zBb [1, 2, 3] [(14, .agg #[iV x, iV y, uV z])] [⟨0, [iV x, iV y, uV z], none⟩] [(0, ⟨r1, 0, none⟩, iV x), (0, ⟨r1, 1, none⟩, iV y), (0, ⟨r1, 2, none⟩, uV z)] [] (by kernel_rfl) trivial (AllC_cons (sat_cell h11 2 rfl rfl) (AllC_cons (sat_cell h11 2 rfl rfl) (AllC_cons (sat_cell h11 2 rfl rfl) (AllC_nil _)))) ?_
  refine plain_act (i := 1) (by kernel_rfl) ?_
  refine zCl 15 Try.call27 (cdesc_ok x y z (by omega) (by omega) (by omega)) h11 (by kernel_rfl) ?_
  rintro v K w13 (⟨rfl, rfl⟩) h14
  refine ⟨_, rfl, ?_⟩
  have h15 : sat g w13 [Tab b n A E RL, Cl r4 [iV 0, iV 0, uV 0, iV 0, iV 0, uV 0] 90, Cl r1 [iV x, iV y, uV z] 28, R] := h14
  refine zB0 [] [2, 3] [(13, .bool false), (16, .bool false)] (by kernel_rfl) ?_
  refine PO.mk ?_
  change WP _ _ (CA Try.f44 [1, 0, 0, 1, 1, 1]) _ _ _
  refine fk_cut ([(0, pV b), (3, pV r1), (4, pV r4), (13, .bool false)] : Fr) (by kernel_rfl) (fun a => WP _ _ _ _ a _) (fun lr16 => ?_)
  refine zCf (by kernel_rfl) ?_
  refine gi_skp (by kernel_rfl) ?_
  change WP _ _ (CA Try.f44 [1, 1]) _ _ _
  refine zSq (by kernel_rfl) ?_
  refine gi_drw (id := 5) (ops := RA Try.f44 [1, 1, 0]) (Tr.fl 0 (Tr.fl 1 (Tr.fl 2 (Tr.fl 3 (Tr.fl 4 (Tr.fl 5 (Tr.an2 6 (Tr.fl 7 (Tr.fl 8 (Tr.fl 9 (Tr.an 10 (Tr.an 11 (Tr.fl 12 Tr.nil)))))) 10 (Tr.an 6 (Tr.fl 7 (Tr.fl 8 (Tr.fl 9 (Tr.an 11 (Tr.fl 12 Tr.nil))))))))))))) (by kernel_rfl) (by kernel_rfl) (by kernel_rfl) (by kernel_rfl) (by kernel_rfl) (fun _ _ d _ _ h => by cases d <;> exact h) h15 ?_
  intro w17 h18
  obtain ⟨s19, m20, p21, c22, E23, hM24, h25⟩ := tab_open h18
  have hRl_ := hM24.2
  refine draw_batch (t := (Tr.an2 6 (Tr.fl 7 (Tr.fl 8 (Tr.fl 9 (Tr.an 10 (Tr.an 11 (Tr.fl 12 Tr.nil)))))) 10 (Tr.an 6 (Tr.fl 7 (Tr.fl 8 (Tr.fl 9 (Tr.an 11 (Tr.fl 12 Tr.nil)))))))) [⟨0, [], none⟩, ⟨1, [], none⟩, ⟨2, [], none⟩, ⟨3, [.map (some m20)], none⟩, ⟨4, [], none⟩, ⟨5, [iV y], none⟩] (l' := ([(24, iV y), (23, .pointer (some ⟨r1, 1, none⟩)), (22, .map (some m20)), (21, .pointer (some ⟨b, 1, none⟩)), (20, pV b), (19, pV b), (0, pV b), (3, pV r1), (4, pV r4), (13, .bool false)] : Fr) ++ lr16) (pts' := [(5, ⟨r1, 1, none⟩, iV y), (3, ⟨b, 1, none⟩, .map (some m20))]) (eqs := []) (by kernel_rfl) trivial (AllC_cons (sat_cell h25 5 rfl rfl) (AllC_cons (sat_cell h25 0 rfl rfl) (AllC_nil _))) ?_
  refine ⟨?_, ?_⟩
  ·
    refine draw_act (i := 6) [] (by kernel_rfl) (by kernel_rfl) ?_
    refine act_law (d := 25) (.tuple #[.agg #[iV e.d.1, iV e.d.2.1, uV e.d.2.2, iV e.num, iV e.h.1, uV e.h.2], .bool true]) (by kernel_rfl) rfl (law_lookupOk (t := 73) (z := .agg #[iV 0, iV 0, uV 0, iV 0, iV 0, uV 0]) (m := (Operand.tmp 22)) (x := (Operand.tmp 24)) (kv := kI) (ve := vE) (by kernel_rfl) Try.underlying73 kyI (by kernel_rfl) y (by kernel_rfl) (by kernel_rfl) (j := 2) h25 rfl (.agg #[iV e.d.1, iV e.d.2.1, uV e.d.2.2, iV e.num, iV e.h.1, uV e.h.2]) true (by rw [hM24.1.2.2 y, hg_]; exact ⟨rfl, rfl⟩)) ?_
    refine ⟨(AllC_nil _), ?_⟩
    refine draw_batch (t := (Tr.an 10 (Tr.an 11 (Tr.fl 12 Tr.nil)))) [⟨7, [], none⟩, ⟨8, [], none⟩, ⟨9, [], none⟩] (l' := ([(27, .bool true), (26, .agg #[iV e.d.1, iV e.d.2.1, uV e.d.2.2, iV e.num, iV e.h.1, uV e.h.2]), (18, .tuple #[.agg #[iV e.d.1, iV e.d.2.1, uV e.d.2.2, iV e.num, iV e.h.1, uV e.h.2], .bool true]), (25, .tuple #[.agg #[iV e.d.1, iV e.d.2.1, uV e.d.2.2, iV e.num, iV e.h.1, uV e.h.2], .bool true]), (24, iV y), (23, .pointer (some ⟨r1, 1, none⟩)), (22, .map (some m20)), (21, .pointer (some ⟨b, 1, none⟩)), (20, pV b), (19, pV b), (0, pV b), (3, pV r1), (4, pV r4), (13, .bool false)] : Fr) ++ lr16) (pts' := []) (eqs := []) (by kernel_rfl) trivial (AllC_nil _) ?_
    refine draw_act (i := 10) [] (by kernel_rfl) (by kernel_rfl) ?_
    refine an_new (d := 6) (fun xb_ => pV xb_) (fun xb_ => Obj.cells [iV 0, iV 0, uV 0, iV 0, iV 0, uV 0].toArray 90 (0, 0)) (fun xb_ => by kernel_rfl) (by kernel_rfl) rfl h25 ?_
    intro r26 w27 (h28 : sat g w27 [Cl r26 [iV 0, iV 0, uV 0, iV 0, iV 0, uV 0] 90, Cl b [pV s19, .map (some m20), .slice p21 RL.length c22] 76, Tb s19 n A, Gp kI vE m20 E23, Sl 42 8 p21 RL.length c22 (fl eRs RL), Cl r4 [iV 0, iV 0, uV 0, iV 0, iV 0, uV 0] 90, Cl r1 [iV x, iV y, uV z] 28, R])
    refine ⟨(AllC_nil _), ?_⟩
    refine draw_act (i := 11) [] (by kernel_rfl) (by kernel_rfl) ?_
    refine an_store [(0, iV e.d.1), (1, iV e.d.2.1), (2, uV e.d.2.2), (3, iV e.num), (4, iV e.h.1), (5, uV e.h.2)] (cs' := [iV e.d.1, iV e.d.2.1, uV e.d.2.2, iV e.num, iV e.h.1, uV e.h.2]) (by kernel_rfl) (by kernel_rfl) (allq ⟨⟨by simp, rfl⟩, ⟨by simp, rfl⟩, ⟨by simp, rfl⟩, ⟨by simp, rfl⟩, ⟨by simp, rfl⟩, ⟨by simp, rfl⟩, trivial⟩) rfl h28 ?_
    intro w29 (h30 : sat g w29 [Cl r26 [iV e.d.1, iV e.d.2.1, uV e.d.2.2, iV e.num, iV e.h.1, uV e.h.2] 90, Cl b [pV s19, .map (some m20), .slice p21 RL.length c22] 76, Tb s19 n A, Gp kI vE m20 E23, Sl 42 8 p21 RL.length c22 (fl eRs RL), Cl r4 [iV 0, iV 0, uV 0, iV 0, iV 0, uV 0] 90, Cl r1 [iV x, iV y, uV z] 28, R])
    refine ⟨(AllC_nil _), ?_⟩
    refine draw_batch (t := Tr.nil) [⟨12, [], none⟩] (l' := ([(7, .bool true), (6, pV r26), (27, .bool true), (26, .agg #[iV e.d.1, iV e.d.2.1, uV e.d.2.2, iV e.num, iV e.h.1, uV e.h.2]), (18, .tuple #[.agg #[iV e.d.1, iV e.d.2.1, uV e.d.2.2, iV e.num, iV e.h.1, uV e.h.2], .bool true]), (25, .tuple #[.agg #[iV e.d.1, iV e.d.2.1, uV e.d.2.2, iV e.num, iV e.h.1, uV e.h.2], .bool true]), (24, iV y), (23, .pointer (some ⟨r1, 1, none⟩)), (22, .map (some m20)), (21, .pointer (some ⟨b, 1, none⟩)), (20, pV b), (19, pV b), (0, pV b), (3, pV r1), (4, pV r4), (13, .bool false)] : Fr) ++ lr16) (pts' := []) (eqs := []) (by kernel_rfl) trivial (AllC_nil _) ?_
    change WP _ _ (CA Try.f44 [1, 1, 1]) _ _ _
    refine fk_cut ([(3, pV r1), (4, pV r4), (6, pV r26), (7, .bool true)] : Fr) (by kernel_rfl) (fun a => WP _ _ _ _ a _) (fun lr31 => ?_)
    refine zSq (by kernel_rfl) ?_
    refine zSq (by kernel_rfl) ?_
    refine zPl [0, 1, 2, 3, 4, 5, 6, 7] (by kernel_rfl) ?_
    refine zBb [6, 7] [(33, .agg #[iV x, iV y, uV z]), (32, .agg #[iV e.d.1, iV e.d.2.1, uV e.d.2.2]), (31, pV r26), (30, .bool false), (29, .bool false), (28, .bool true)] [⟨0, [], none⟩, ⟨1, [], none⟩, ⟨2, [], none⟩, ⟨3, [], none⟩, ⟨4, [iV e.d.1, iV e.d.2.1, uV e.d.2.2], none⟩, ⟨5, [iV x, iV y, uV z], none⟩] [(5, ⟨r1, 0, none⟩, iV x), (5, ⟨r1, 1, none⟩, iV y), (5, ⟨r1, 2, none⟩, uV z), (4, ⟨r26, 0, none⟩, iV e.d.1), (4, ⟨r26, 1, none⟩, iV e.d.2.1), (4, ⟨r26, 2, none⟩, uV e.d.2.2)] [] (by kernel_rfl) trivial (AllC_cons (sat_cell h30 6 rfl rfl) (AllC_cons (sat_cell h30 6 rfl rfl) (AllC_cons (sat_cell h30 6 rfl rfl) (AllC_cons (sat_cell h30 0 rfl rfl) (AllC_cons (sat_cell h30 0 rfl rfl) (AllC_cons (sat_cell h30 0 rfl rfl) (AllC_nil _))))))) ?_
    by_cases c32 : e.d.1 = x
    ·
      by_cases c33 : e.d.2.1 = y
      ·
        refine plain_law (i := 6) 34 (.bool true) (by kernel_rfl) (seq28_neq_f (o := opA (RA Try.f44 [1, 1, 1, 0, 0]) 6) (x := (Operand.tmp 32)) (y := (Operand.tmp 33)) e.d.1 e.d.2.1 e.d.2.2 x y z (by kernel_rfl) (by kernel_rfl) (by kernel_rfl) (by omega) _) ?_
        refine zB0 [] [7] [(35, .bool true)] (by kernel_rfl) ?_
        refine PO.mk ?_
        change WP _ _ (CA Try.f44 [1, 1, 1, 0, 1]) _ _ _
        refine fk_cut ([(4, pV r4), (6, pV r26), (35, .bool true)] : Fr) (by kernel_rfl) (fun a => WP _ _ _ _ a _) (fun lr34 => ?_)
        refine zCt (by kernel_rfl) ?_
        refine zSq (by kernel_rfl) ?_
        refine zPl [0, 1, 2] (by kernel_rfl) ?_
        refine zB0 [1, 2] [0] [(36, .agg #[iV 0, iV 0, uV 0, iV 0, iV 0, uV 0])] (by kernel_rfl) ?_
        have h35 : sat g w29 [Cl r4 [iV 0, iV 0, uV 0, iV 0, iV 0, uV 0] 90, Cl r26 [iV e.d.1, iV e.d.2.1, uV e.d.2.2, iV e.num, iV e.h.1, uV e.h.2] 90, Cl b [pV s19, .map (some m20), .slice p21 RL.length c22] 76, Tb s19 n A, Gp kI vE m20 E23, Sl 42 8 p21 RL.length c22 (fl eRs RL), Cl r1 [iV x, iV y, uV z] 28, R] := sat_sel [5, 0, 1, 2, 3, 4, 6, 7] rfl h30
        refine plain_act (i := 1) (by kernel_rfl) ?_
        refine an_store [(0, iV 0), (1, iV 0), (2, uV 0), (3, iV 0), (4, iV 0), (5, uV 0)] (cs' := [iV 0, iV 0, uV 0, iV 0, iV 0, uV 0]) (by kernel_rfl) (by kernel_rfl) (allq ⟨⟨by simp, rfl⟩, ⟨by simp, rfl⟩, ⟨by simp, rfl⟩, ⟨by simp, rfl⟩, ⟨by simp, rfl⟩, ⟨by simp, rfl⟩, trivial⟩) rfl h35 ?_
        intro w36 (h37 : sat g w36 [Cl r4 [iV 0, iV 0, uV 0, iV 0, iV 0, uV 0] 90, Cl r26 [iV e.d.1, iV e.d.2.1, uV e.d.2.2, iV e.num, iV e.h.1, uV e.h.2] 90, Cl b [pV s19, .map (some m20), .slice p21 RL.length c22] 76, Tb s19 n A, Gp kI vE m20 E23, Sl 42 8 p21 RL.length c22 (fl eRs RL), Cl r1 [iV x, iV y, uV z] 28, R])
        refine zB0 [] [2] [(5, iV 7)] (by kernel_rfl) ?_
        refine PO.mk ?_
        change WP _ _ (CA Try.f44 [1, 1, 1, 0, 1, 0, 1]) _ _ _
        refine fk_cut ([(4, pV r4), (5, iV 7)] : Fr) (by kernel_rfl) (fun a => WP _ _ _ _ a _) (fun lr38 => ?_)
        refine gi_rt (by kernel_rfl) ?_
        repeat (first | simp only [Exit.inBlock] | simp only [Exit.then])
        have h39 : sat g w36 [Cl b [pV s19, .map (some m20), .slice p21 RL.length c22] 76, Tb s19 n A, Gp kI vE m20 E23, Sl 42 8 p21 RL.length c22 (fl eRs RL), Cl r4 [iV 0, iV 0, uV 0, iV 0, iV 0, uV 0] 90, Cl r26 [iV e.d.1, iV e.d.2.1, uV e.d.2.2, iV e.num, iV e.h.1, uV e.h.2] 90, Cl r1 [iV x, iV y, uV z] 28, R] := sat_sel [2, 3, 4, 5, 0, 1, 6, 7] rfl h37
        have h40 : sat g w36 [Tab b n A E RL, Cl r4 [iV 0, iV 0, uV 0, iV 0, iV 0, uV 0] 90, Cl r26 [iV e.d.1, iV e.d.2.1, uV e.d.2.2, iV e.num, iV e.h.1, uV e.h.2] 90, Cl r1 [iV x, iV y, uV z] 28, R] := tab_close hM24.1 (by omega) (by first | rfl | omega) h39
        have h41 : sat g w36 [Tab b n A E RL, R] := sat_sel [0, 4] rfl h40
        refine hi_out [iV 0, iV 0, uV 0, iV 0, iV 0, uV 0] (.tuple #[.agg #[iV 0, iV 0, uV 0, iV 0, iV 0, uV 0], iV 7]) [(⟨r4, 0, none⟩, iV 0), (⟨r4, 1, none⟩, iV 0), (⟨r4, 2, none⟩, uV 0), (⟨r4, 3, none⟩, iV 0), (⟨r4, 4, none⟩, iV 0), (⟨r4, 5, none⟩, uV 0)] (by kernel_rfl) (allq ⟨sat_cell h37 0 rfl rfl, sat_cell h37 0 rfl rfl, sat_cell h37 0 rfl rfl, sat_cell h37 0 rfl rfl, sat_cell h37 0 rfl rfl, sat_cell h37 0 rfl rfl, trivial⟩) ?_
        exact ⟨.tuple #[.agg #[iV 0, iV 0, uV 0, iV 0, iV 0, uV 0], iV 7], [Tab b n A E RL], rfl, ⟨rfl, rfl⟩, h41⟩
      ·
        refine plain_law (i := 6) 34 (.bool true) (by kernel_rfl) (seq28_neq_f (o := opA (RA Try.f44 [1, 1, 1, 0, 0]) 6) (x := (Operand.tmp 32)) (y := (Operand.tmp 33)) e.d.1 e.d.2.1 e.d.2.2 x y z (by kernel_rfl) (by kernel_rfl) (by kernel_rfl) (by omega) _) ?_
        refine zB0 [] [7] [(35, .bool true)] (by kernel_rfl) ?_
        refine PO.mk ?_
        change WP _ _ (CA Try.f44 [1, 1, 1, 0, 1]) _ _ _
        refine fk_cut ([(4, pV r4), (6, pV r26), (35, .bool true)] : Fr) (by kernel_rfl) (fun a => WP _ _ _ _ a _) (fun lr42 => ?_)
        refine zCt (by kernel_rfl) ?_
        refine zSq (by kernel_rfl) ?_
        refine zPl [0, 1, 2] (by kernel_rfl) ?_
        refine zB0 [1, 2] [0] [(36, .agg #[iV 0, iV 0, uV 0, iV 0, iV 0, uV 0])] (by kernel_rfl) ?_
        have h43 : sat g w29 [Cl r4 [iV 0, iV 0, uV 0, iV 0, iV 0, uV 0] 90, Cl r26 [iV e.d.1, iV e.d.2.1, uV e.d.2.2, iV e.num, iV e.h.1, uV e.h.2] 90, Cl b [pV s19, .map (some m20), .slice p21 RL.length c22] 76, Tb s19 n A, Gp kI vE m20 E23, Sl 42 8 p21 RL.length c22 (fl eRs RL), Cl r1 [iV x, iV y, uV z] 28, R] := sat_sel [5, 0, 1, 2, 3, 4, 6, 7] rfl h30
        refine plain_act (i := 1) (by kernel_rfl) ?_
        refine an_store [(0, iV 0), (1, iV 0), (2, uV 0), (3, iV 0), (4, iV 0), (5, uV 0)] (cs' := [iV 0, iV 0, uV 0, iV 0, iV 0, uV 0]) (by kernel_rfl) (by kernel_rfl) (allq ⟨⟨by simp, rfl⟩, ⟨by simp, rfl⟩, ⟨by simp, rfl⟩, ⟨by simp, rfl⟩, ⟨by simp, rfl⟩, ⟨by simp, rfl⟩, trivial⟩) rfl h43 ?_
        intro w44 (h45 : sat g w44 [Cl r4 [iV 0, iV 0, uV 0, iV 0, iV 0, uV 0] 90, Cl r26 [iV e.d.1, iV e.d.2.1, uV e.d.2.2, iV e.num, iV e.h.1, uV e.h.2] 90, Cl b [pV s19, .map (some m20), .slice p21 RL.length c22] 76, Tb s19 n A, Gp kI vE m20 E23, Sl 42 8 p21 RL.length c22 (fl eRs RL), Cl r1 [iV x, iV y, uV z] 28, R])
        refine zB0 [] [2] [(5, iV 7)] (by kernel_rfl) ?_
        refine PO.mk ?_
        change WP _ _ (CA Try.f44 [1, 1, 1, 0, 1, 0, 1]) _ _ _
        refine fk_cut ([(4, pV r4), (5, iV 7)] : Fr) (by kernel_rfl) (fun a => WP _ _ _ _ a _) (fun lr46 => ?_)
        refine gi_rt (by kernel_rfl) ?_
        repeat (first | simp only [Exit.inBlock] | simp only [Exit.then])
        have h47 : sat g w44 [Cl b [pV s19, .map (some m20), .slice p21 RL.length c22] 76, Tb s19 n A, Gp kI vE m20 E23, Sl 42 8 p21 RL.length c22 (fl eRs RL), Cl r4 [iV 0, iV 0, uV 0, iV 0, iV 0, uV 0] 90, Cl r26 [iV e.d.1, iV e.d.2.1, uV e.d.2.2, iV e.num, iV e.h.1, uV e.h.2] 90, Cl r1 [iV x, iV y, uV z] 28, R] := sat_sel [2, 3, 4, 5, 0, 1, 6, 7] rfl h45
        have h48 : sat g w44 [Tab b n A E RL, Cl r4 [iV 0, iV 0, uV 0, iV 0, iV 0, uV 0] 90, Cl r26 [iV e.d.1, iV e.d.2.1, uV e.d.2.2, iV e.num, iV e.h.1, uV e.h.2] 90, Cl r1 [iV x, iV y, uV z] 28, R] := tab_close hM24.1 (by omega) (by first | rfl | omega) h47
        have h49 : sat g w44 [Tab b n A E RL, R] := sat_sel [0, 4] rfl h48
        refine hi_out [iV 0, iV 0, uV 0, iV 0, iV 0, uV 0] (.tuple #[.agg #[iV 0, iV 0, uV 0, iV 0, iV 0, uV 0], iV 7]) [(⟨r4, 0, none⟩, iV 0), (⟨r4, 1, none⟩, iV 0), (⟨r4, 2, none⟩, uV 0), (⟨r4, 3, none⟩, iV 0), (⟨r4, 4, none⟩, iV 0), (⟨r4, 5, none⟩, uV 0)] (by kernel_rfl) (allq ⟨sat_cell h45 0 rfl rfl, sat_cell h45 0 rfl rfl, sat_cell h45 0 rfl rfl, sat_cell h45 0 rfl rfl, sat_cell h45 0 rfl rfl, sat_cell h45 0 rfl rfl, trivial⟩) ?_
        exact ⟨.tuple #[.agg #[iV 0, iV 0, uV 0, iV 0, iV 0, uV 0], iV 7], [Tab b n A E RL], rfl, ⟨rfl, rfl⟩, h49⟩
    ·
      refine plain_law (i := 6) 34 (.bool true) (by kernel_rfl) (seq28_neq_f (o := opA (RA Try.f44 [1, 1, 1, 0, 0]) 6) (x := (Operand.tmp 32)) (y := (Operand.tmp 33)) e.d.1 e.d.2.1 e.d.2.2 x y z (by kernel_rfl) (by kernel_rfl) (by kernel_rfl) (by omega) _) ?_
      refine zB0 [] [7] [(35, .bool true)] (by kernel_rfl) ?_
      refine PO.mk ?_
      change WP _ _ (CA Try.f44 [1, 1, 1, 0, 1]) _ _ _
      refine fk_cut ([(4, pV r4), (6, pV r26), (35, .bool true)] : Fr) (by kernel_rfl) (fun a => WP _ _ _ _ a _) (fun lr50 => ?_)
      refine zCt (by kernel_rfl) ?_
      refine zSq (by kernel_rfl) ?_
      refine zPl [0, 1, 2] (by kernel_rfl) ?_
      refine zB0 [1, 2] [0] [(36, .agg #[iV 0, iV 0, uV 0, iV 0, iV 0, uV 0])] (by kernel_rfl) ?_
      have h51 : sat g w29 [Cl r4 [iV 0, iV 0, uV 0, iV 0, iV 0, uV 0] 90, Cl r26 [iV e.d.1, iV e.d.2.1, uV e.d.2.2, iV e.num, iV e.h.1, uV e.h.2] 90, Cl b [pV s19, .map (some m20), .slice p21 RL.length c22] 76, Tb s19 n A, Gp kI vE m20 E23, Sl 42 8 p21 RL.length c22 (fl eRs RL), Cl r1 [iV x, iV y, uV z] 28, R] := sat_sel [5, 0, 1, 2, 3, 4, 6, 7] rfl h30
      refine plain_act (i := 1) (by kernel_rfl) ?_
      refine an_store [(0, iV 0), (1, iV 0), (2, uV 0), (3, iV 0), (4, iV 0), (5, uV 0)] (cs' := [iV 0, iV 0, uV 0, iV 0, iV 0, uV 0]) (by kernel_rfl) (by kernel_rfl) (allq ⟨⟨by simp, rfl⟩, ⟨by simp, rfl⟩, ⟨by simp, rfl⟩, ⟨by simp, rfl⟩, ⟨by simp, rfl⟩, ⟨by simp, rfl⟩, trivial⟩) rfl h51 ?_
      intro w52 (h53 : sat g w52 [Cl r4 [iV 0, iV 0, uV 0, iV 0, iV 0, uV 0] 90, Cl r26 [iV e.d.1, iV e.d.2.1, uV e.d.2.2, iV e.num, iV e.h.1, uV e.h.2] 90, Cl b [pV s19, .map (some m20), .slice p21 RL.length c22] 76, Tb s19 n A, Gp kI vE m20 E23, Sl 42 8 p21 RL.length c22 (fl eRs RL), Cl r1 [iV x, iV y, uV z] 28, R])
      refine zB0 [] [2] [(5, iV 7)] (by kernel_rfl) ?_
      refine PO.mk ?_
      change WP _ _ (CA Try.f44 [1, 1, 1, 0, 1, 0, 1]) _ _ _
      refine fk_cut ([(4, pV r4), (5, iV 7)] : Fr) (by kernel_rfl) (fun a => WP _ _ _ _ a _) (fun lr54 => ?_)
      refine gi_rt (by kernel_rfl) ?_
      repeat (first | simp only [Exit.inBlock] | simp only [Exit.then])
      have h55 : sat g w52 [Cl b [pV s19, .map (some m20), .slice p21 RL.length c22] 76, Tb s19 n A, Gp kI vE m20 E23, Sl 42 8 p21 RL.length c22 (fl eRs RL), Cl r4 [iV 0, iV 0, uV 0, iV 0, iV 0, uV 0] 90, Cl r26 [iV e.d.1, iV e.d.2.1, uV e.d.2.2, iV e.num, iV e.h.1, uV e.h.2] 90, Cl r1 [iV x, iV y, uV z] 28, R] := sat_sel [2, 3, 4, 5, 0, 1, 6, 7] rfl h53
      have h56 : sat g w52 [Tab b n A E RL, Cl r4 [iV 0, iV 0, uV 0, iV 0, iV 0, uV 0] 90, Cl r26 [iV e.d.1, iV e.d.2.1, uV e.d.2.2, iV e.num, iV e.h.1, uV e.h.2] 90, Cl r1 [iV x, iV y, uV z] 28, R] := tab_close hM24.1 (by omega) (by first | rfl | omega) h55
      have h57 : sat g w52 [Tab b n A E RL, R] := sat_sel [0, 4] rfl h56
      refine hi_out [iV 0, iV 0, uV 0, iV 0, iV 0, uV 0] (.tuple #[.agg #[iV 0, iV 0, uV 0, iV 0, iV 0, uV 0], iV 7]) [(⟨r4, 0, none⟩, iV 0), (⟨r4, 1, none⟩, iV 0), (⟨r4, 2, none⟩, uV 0), (⟨r4, 3, none⟩, iV 0), (⟨r4, 4, none⟩, iV 0), (⟨r4, 5, none⟩, uV 0)] (by kernel_rfl) (allq ⟨sat_cell h53 0 rfl rfl, sat_cell h53 0 rfl rfl, sat_cell h53 0 rfl rfl, sat_cell h53 0 rfl rfl, sat_cell h53 0 rfl rfl, sat_cell h53 0 rfl rfl, trivial⟩) ?_
      exact ⟨.tuple #[.agg #[iV 0, iV 0, uV 0, iV 0, iV 0, uV 0], iV 7], [Tab b n A E RL], rfl, ⟨rfl, rfl⟩, h57⟩
  ·
    refine draw_act (i := 10) [(5, ⟨r1, 1, none⟩, iV y), (3, ⟨b, 1, none⟩, .map (some m20))] (by kernel_rfl) (by kernel_rfl) ?_
    refine an_new (d := 6) (fun xb_ => pV xb_) (fun xb_ => Obj.cells [iV 0, iV 0, uV 0, iV 0, iV 0, uV 0].toArray 90 (0, 0)) (fun xb_ => by kernel_rfl) (by kernel_rfl) rfl h25 ?_
    intro r58 w59 (h60 : sat g w59 [Cl r58 [iV 0, iV 0, uV 0, iV 0, iV 0, uV 0] 90, Cl b [pV s19, .map (some m20), .slice p21 RL.length c22] 76, Tb s19 n A, Gp kI vE m20 E23, Sl 42 8 p21 RL.length c22 (fl eRs RL), Cl r4 [iV 0, iV 0, uV 0, iV 0, iV 0, uV 0] 90, Cl r1 [iV x, iV y, uV z] 28, R])
    refine ⟨(AllC_cons (sat_cell h60 6 rfl rfl) (AllC_cons (sat_cell h60 1 rfl rfl) (AllC_nil _))), ?_⟩
    refine draw_act (i := 6) [] (by kernel_rfl) (by kernel_rfl) ?_
    refine act_law (d := 25) (.tuple #[.agg #[iV e.d.1, iV e.d.2.1, uV e.d.2.2, iV e.num, iV e.h.1, uV e.h.2], .bool true]) (by kernel_rfl) rfl (law_lookupOk (t := 73) (z := .agg #[iV 0, iV 0, uV 0, iV 0, iV 0, uV 0]) (m := (Operand.tmp 22)) (x := (Operand.tmp 24)) (kv := kI) (ve := vE) (by kernel_rfl) Try.underlying73 kyI (by kernel_rfl) y (by kernel_rfl) (by kernel_rfl) (j := 3) h60 rfl (.agg #[iV e.d.1, iV e.d.2.1, uV e.d.2.2, iV e.num, iV e.h.1, uV e.h.2]) true (by rw [hM24.1.2.2 y, hg_]; exact ⟨rfl, rfl⟩)) ?_
    refine ⟨(AllC_nil _), ?_⟩
    refine draw_batch (t := (Tr.an 11 (Tr.fl 12 Tr.nil))) [⟨7, [], none⟩, ⟨8, [], none⟩, ⟨9, [], none⟩] (l' := ([(27, .bool true), (26, .agg #[iV e.d.1, iV e.d.2.1, uV e.d.2.2, iV e.num, iV e.h.1, uV e.h.2]), (18, .tuple #[.agg #[iV e.d.1, iV e.d.2.1, uV e.d.2.2, iV e.num, iV e.h.1, uV e.h.2], .bool true]), (25, .tuple #[.agg #[iV e.d.1, iV e.d.2.1, uV e.d.2.2, iV e.num, iV e.h.1, uV e.h.2], .bool true]), (6, pV r58), (24, iV y), (23, .pointer (some ⟨r1, 1, none⟩)), (22, .map (some m20)), (21, .pointer (some ⟨b, 1, none⟩)), (20, pV b), (19, pV b), (0, pV b), (3, pV r1), (4, pV r4), (13, .bool false)] : Fr) ++ lr16) (pts' := []) (eqs := []) (by kernel_rfl) trivial (AllC_nil _) ?_
    refine draw_act (i := 11) [] (by kernel_rfl) (by kernel_rfl) ?_
    refine an_store [(0, iV e.d.1), (1, iV e.d.2.1), (2, uV e.d.2.2), (3, iV e.num), (4, iV e.h.1), (5, uV e.h.2)] (cs' := [iV e.d.1, iV e.d.2.1, uV e.d.2.2, iV e.num, iV e.h.1, uV e.h.2]) (by kernel_rfl) (by kernel_rfl) (allq ⟨⟨by simp, rfl⟩, ⟨by simp, rfl⟩, ⟨by simp, rfl⟩, ⟨by simp, rfl⟩, ⟨by simp, rfl⟩, ⟨by simp, rfl⟩, trivial⟩) rfl h60 ?_
    intro w61 (h62 : sat g w61 [Cl r58 [iV e.d.1, iV e.d.2.1, uV e.d.2.2, iV e.num, iV e.h.1, uV e.h.2] 90, Cl b [pV s19, .map (some m20), .slice p21 RL.length c22] 76, Tb s19 n A, Gp kI vE m20 E23, Sl 42 8 p21 RL.length c22 (fl eRs RL), Cl r4 [iV 0, iV 0, uV 0, iV 0, iV 0, uV 0] 90, Cl r1 [iV x, iV y, uV z] 28, R])
    refine ⟨(AllC_nil _), ?_⟩
    refine draw_batch (t := Tr.nil) [⟨12, [], none⟩] (l' := ([(7, .bool true), (27, .bool true), (26, .agg #[iV e.d.1, iV e.d.2.1, uV e.d.2.2, iV e.num, iV e.h.1, uV e.h.2]), (18, .tuple #[.agg #[iV e.d.1, iV e.d.2.1, uV e.d.2.2, iV e.num, iV e.h.1, uV e.h.2], .bool true]), (25, .tuple #[.agg #[iV e.d.1, iV e.d.2.1, uV e.d.2.2, iV e.num, iV e.h.1, uV e.h.2], .bool true]), (6, pV r58), (24, iV y), (23, .pointer (some ⟨r1, 1, none⟩)), (22, .map (some m20)), (21, .pointer (some ⟨b, 1, none⟩)), (20, pV b), (19, pV b), (0, pV b), (3, pV r1), (4, pV r4), (13, .bool false)] : Fr) ++ lr16) (pts' := []) (eqs := []) (by kernel_rfl) trivial (AllC_nil _) ?_
    change WP _ _ (CA Try.f44 [1, 1, 1]) _ _ _
    refine fk_cut ([(3, pV r1), (4, pV r4), (6, pV r58), (7, .bool true)] : Fr) (by kernel_rfl) (fun a => WP _ _ _ _ a _) (fun lr63 => ?_)
    refine zSq (by kernel_rfl) ?_
    refine zSq (by kernel_rfl) ?_
    refine zPl [0, 1, 2, 3, 4, 5, 6, 7] (by kernel_rfl) ?_
    refine zBb [6, 7] [(33, .agg #[iV x, iV y, uV z]), (32, .agg #[iV e.d.1, iV e.d.2.1, uV e.d.2.2]), (31, pV r58), (30, .bool false), (29, .bool false), (28, .bool true)] [⟨0, [], none⟩, ⟨1, [], none⟩, ⟨2, [], none⟩, ⟨3, [], none⟩, ⟨4, [iV e.d.1, iV e.d.2.1, uV e.d.2.2], none⟩, ⟨5, [iV x, iV y, uV z], none⟩] [(5, ⟨r1, 0, none⟩, iV x), (5, ⟨r1, 1, none⟩, iV y), (5, ⟨r1, 2, none⟩, uV z), (4, ⟨r58, 0, none⟩, iV e.d.1), (4, ⟨r58, 1, none⟩, iV e.d.2.1), (4, ⟨r58, 2, none⟩, uV e.d.2.2)] [] (by kernel_rfl) trivial (AllC_cons (sat_cell h62 6 rfl rfl) (AllC_cons (sat_cell h62 6 rfl rfl) (AllC_cons (sat_cell h62 6 rfl rfl) (AllC_cons (sat_cell h62 0 rfl rfl) (AllC_cons (sat_cell h62 0 rfl rfl) (AllC_cons (sat_cell h62 0 rfl rfl) (AllC_nil _))))))) ?_
    by_cases c64 : e.d.1 = x
    ·
      by_cases c65 : e.d.2.1 = y
      ·
        refine plain_law (i := 6) 34 (.bool true) (by kernel_rfl) (seq28_neq_f (o := opA (RA Try.f44 [1, 1, 1, 0, 0]) 6) (x := (Operand.tmp 32)) (y := (Operand.tmp 33)) e.d.1 e.d.2.1 e.d.2.2 x y z (by kernel_rfl) (by kernel_rfl) (by kernel_rfl) (by omega) _) ?_
        refine zB0 [] [7] [(35, .bool true)] (by kernel_rfl) ?_
        refine PO.mk ?_
        change WP _ _ (CA Try.f44 [1, 1, 1, 0, 1]) _ _ _
        refine fk_cut ([(4, pV r4), (6, pV r58), (35, .bool true)] : Fr) (by kernel_rfl) (fun a => WP _ _ _ _ a _) (fun lr66 => ?_)
        refine zCt (by kernel_rfl) ?_
        refine zSq (by kernel_rfl) ?_
        refine zPl [0, 1, 2] (by kernel_rfl) ?_
        refine zB0 [1, 2] [0] [(36, .agg #[iV 0, iV 0, uV 0, iV 0, iV 0, uV 0])] (by kernel_rfl) ?_
        have h67 : sat g w61 [Cl r4 [iV 0, iV 0, uV 0, iV 0, iV 0, uV 0] 90, Cl r58 [iV e.d.1, iV e.d.2.1, uV e.d.2.2, iV e.num, iV e.h.1, uV e.h.2] 90, Cl b [pV s19, .map (some m20), .slice p21 RL.length c22] 76, Tb s19 n A, Gp kI vE m20 E23, Sl 42 8 p21 RL.length c22 (fl eRs RL), Cl r1 [iV x, iV y, uV z] 28, R] := sat_sel [5, 0, 1, 2, 3, 4, 6, 7] rfl h62
        refine plain_act (i := 1) (by kernel_rfl) ?_
        refine an_store [(0, iV 0), (1, iV 0), (2, uV 0), (3, iV 0), (4, iV 0), (5, uV 0)] (cs' := [iV 0, iV 0, uV 0, iV 0, iV 0, uV 0]) (by kernel_rfl) (by kernel_rfl) (allq ⟨⟨by simp, rfl⟩, ⟨by simp, rfl⟩, ⟨by simp, rfl⟩, ⟨by simp, rfl⟩, ⟨by simp, rfl⟩, ⟨by simp, rfl⟩, trivial⟩) rfl h67 ?_
        intro w68 (h69 : sat g w68 [Cl r4 [iV 0, iV 0, uV 0, iV 0, iV 0, uV 0] 90, Cl r58 [iV e.d.1, iV e.d.2.1, uV e.d.2.2, iV e.num, iV e.h.1, uV e.h.2] 90, Cl b [pV s19, .map (some m20), .slice p21 RL.length c22] 76, Tb s19 n A, Gp kI vE m20 E23, Sl 42 8 p21 RL.length c22 (fl eRs RL), Cl r1 [iV x, iV y, uV z] 28, R])
        refine zB0 [] [2] [(5, iV 7)] (by kernel_rfl) ?_
        refine PO.mk ?_
        change WP _ _ (CA Try.f44 [1, 1, 1, 0, 1, 0, 1]) _ _ _
        refine fk_cut ([(4, pV r4), (5, iV 7)] : Fr) (by kernel_rfl) (fun a => WP _ _ _ _ a _) (fun lr70 => ?_)
        refine gi_rt (by kernel_rfl) ?_
        repeat (first | simp only [Exit.inBlock] | simp only [Exit.then])
        have h71 : sat g w68 [Cl b [pV s19, .map (some m20), .slice p21 RL.length c22] 76, Tb s19 n A, Gp kI vE m20 E23, Sl 42 8 p21 RL.length c22 (fl eRs RL), Cl r4 [iV 0, iV 0, uV 0, iV 0, iV 0, uV 0] 90, Cl r58 [iV e.d.1, iV e.d.2.1, uV e.d.2.2, iV e.num, iV e.h.1, uV e.h.2] 90, Cl r1 [iV x, iV y, uV z] 28, R] := sat_sel [2, 3, 4, 5, 0, 1, 6, 7] rfl h69
        have h72 : sat g w68 [Tab b n A E RL, Cl r4 [iV 0, iV 0, uV 0, iV 0, iV 0, uV 0] 90, Cl r58 [iV e.d.1, iV e.d.2.1, uV e.d.2.2, iV e.num, iV e.h.1, uV e.h.2] 90, Cl r1 [iV x, iV y, uV z] 28, R] := tab_close hM24.1 (by omega) (by first | rfl | omega) h71
        have h73 : sat g w68 [Tab b n A E RL, R] := sat_sel [0, 4] rfl h72
        refine hi_out [iV 0, iV 0, uV 0, iV 0, iV 0, uV 0] (.tuple #[.agg #[iV 0, iV 0, uV 0, iV 0, iV 0, uV 0], iV 7]) [(⟨r4, 0, none⟩, iV 0), (⟨r4, 1, none⟩, iV 0), (⟨r4, 2, none⟩, uV 0), (⟨r4, 3, none⟩, iV 0), (⟨r4, 4, none⟩, iV 0), (⟨r4, 5, none⟩, uV 0)] (by kernel_rfl) (allq ⟨sat_cell h69 0 rfl rfl, sat_cell h69 0 rfl rfl, sat_cell h69 0 rfl rfl, sat_cell h69 0 rfl rfl, sat_cell h69 0 rfl rfl, sat_cell h69 0 rfl rfl, trivial⟩) ?_
        exact ⟨.tuple #[.agg #[iV 0, iV 0, uV 0, iV 0, iV 0, uV 0], iV 7], [Tab b n A E RL], rfl, ⟨rfl, rfl⟩, h73⟩
      ·
        refine plain_law (i := 6) 34 (.bool true) (by kernel_rfl) (seq28_neq_f (o := opA (RA Try.f44 [1, 1, 1, 0, 0]) 6) (x := (Operand.tmp 32)) (y := (Operand.tmp 33)) e.d.1 e.d.2.1 e.d.2.2 x y z (by kernel_rfl) (by kernel_rfl) (by kernel_rfl) (by omega) _) ?_
        refine zB0 [] [7] [(35, .bool true)] (by kernel_rfl) ?_
        refine PO.mk ?_
        change WP _ _ (CA Try.f44 [1, 1, 1, 0, 1]) _ _ _
        refine fk_cut ([(4, pV r4), (6, pV r58), (35, .bool true)] : Fr) (by kernel_rfl) (fun a => WP _ _ _ _ a _) (fun lr74 => ?_)
        refine zCt (by kernel_rfl) ?_
        refine zSq (by kernel_rfl) ?_
        refine zPl [0, 1, 2] (by kernel_rfl) ?_
        refine zB0 [1, 2] [0] [(36, .agg #[iV 0, iV 0, uV 0, iV 0, iV 0, uV 0])] (by kernel_rfl) ?_
        have h75 : sat g w61 [Cl r4 [iV 0, iV 0, uV 0, iV 0, iV 0, uV 0] 90, Cl r58 [iV e.d.1, iV e.d.2.1, uV e.d.2.2, iV e.num, iV e.h.1, uV e.h.2] 90, Cl b [pV s19, .map (some m20), .slice p21 RL.length c22] 76, Tb s19 n A, Gp kI vE m20 E23, Sl 42 8 p21 RL.length c22 (fl eRs RL), Cl r1 [iV x, iV y, uV z] 28, R] := sat_sel [5, 0, 1, 2, 3, 4, 6, 7] rfl h62
        refine plain_act (i := 1) (by kernel_rfl) ?_
        refine an_store [(0, iV 0), (1, iV 0), (2, uV 0), (3, iV 0), (4, iV 0), (5, uV 0)] (cs' := [iV 0, iV 0, uV 0, iV 0, iV 0, uV 0]) (by kernel_rfl) (by kernel_rfl) (allq ⟨⟨by simp, rfl⟩, ⟨by simp, rfl⟩, ⟨by simp, rfl⟩, ⟨by simp, rfl⟩, ⟨by simp, rfl⟩, ⟨by simp, rfl⟩, trivial⟩) rfl h75 ?_
        intro w76 (h77 : sat g w76 [Cl r4 [iV 0, iV 0, uV 0, iV 0, iV 0, uV 0] 90, Cl r58 [iV e.d.1, iV e.d.2.1, uV e.d.2.2, iV e.num, iV e.h.1, uV e.h.2] 90, Cl b [pV s19, .map (some m20), .slice p21 RL.length c22] 76, Tb s19 n A, Gp kI vE m20 E23, Sl 42 8 p21 RL.length c22 (fl eRs RL), Cl r1 [iV x, iV y, uV z] 28, R])
        refine zB0 [] [2] [(5, iV 7)] (by kernel_rfl) ?_
        refine PO.mk ?_
        change WP _ _ (CA Try.f44 [1, 1, 1, 0, 1, 0, 1]) _ _ _
        refine fk_cut ([(4, pV r4), (5, iV 7)] : Fr) (by kernel_rfl) (fun a => WP _ _ _ _ a _) (fun lr78 => ?_)
        refine gi_rt (by kernel_rfl) ?_
        repeat (first | simp only [Exit.inBlock] | simp only [Exit.then])
        have h79 : sat g w76 [Cl b [pV s19, .map (some m20), .slice p21 RL.length c22] 76, Tb s19 n A, Gp kI vE m20 E23, Sl 42 8 p21 RL.length c22 (fl eRs RL), Cl r4 [iV 0, iV 0, uV 0, iV 0, iV 0, uV 0] 90, Cl r58 [iV e.d.1, iV e.d.2.1, uV e.d.2.2, iV e.num, iV e.h.1, uV e.h.2] 90, Cl r1 [iV x, iV y, uV z] 28, R] := sat_sel [2, 3, 4, 5, 0, 1, 6, 7] rfl h77
        have h80 : sat g w76 [Tab b n A E RL, Cl r4 [iV 0, iV 0, uV 0, iV 0, iV 0, uV 0] 90, Cl r58 [iV e.d.1, iV e.d.2.1, uV e.d.2.2, iV e.num, iV e.h.1, uV e.h.2] 90, Cl r1 [iV x, iV y, uV z] 28, R] := tab_close hM24.1 (by omega) (by first | rfl | omega) h79
        have h81 : sat g w76 [Tab b n A E RL, R] := sat_sel [0, 4] rfl h80
        refine hi_out [iV 0, iV 0, uV 0, iV 0, iV 0, uV 0] (.tuple #[.agg #[iV 0, iV 0, uV 0, iV 0, iV 0, uV 0], iV 7]) [(⟨r4, 0, none⟩, iV 0), (⟨r4, 1, none⟩, iV 0), (⟨r4, 2, none⟩, uV 0), (⟨r4, 3, none⟩, iV 0), (⟨r4, 4, none⟩, iV 0), (⟨r4, 5, none⟩, uV 0)] (by kernel_rfl) (allq ⟨sat_cell h77 0 rfl rfl, sat_cell h77 0 rfl rfl, sat_cell h77 0 rfl rfl, sat_cell h77 0 rfl rfl, sat_cell h77 0 rfl rfl, sat_cell h77 0 rfl rfl, trivial⟩) ?_
        exact ⟨.tuple #[.agg #[iV 0, iV 0, uV 0, iV 0, iV 0, uV 0], iV 7], [Tab b n A E RL], rfl, ⟨rfl, rfl⟩, h81⟩
    ·
      refine plain_law (i := 6) 34 (.bool true) (by kernel_rfl) (seq28_neq_f (o := opA (RA Try.f44 [1, 1, 1, 0, 0]) 6) (x := (Operand.tmp 32)) (y := (Operand.tmp 33)) e.d.1 e.d.2.1 e.d.2.2 x y z (by kernel_rfl) (by kernel_rfl) (by kernel_rfl) (by omega) _) ?_
      refine zB0 [] [7] [(35, .bool true)] (by kernel_rfl) ?_
      refine PO.mk ?_
      change WP _ _ (CA Try.f44 [1, 1, 1, 0, 1]) _ _ _
      refine fk_cut ([(4, pV r4), (6, pV r58), (35, .bool true)] : Fr) (by kernel_rfl) (fun a => WP _ _ _ _ a _) (fun lr82 => ?_)
      refine zCt (by kernel_rfl) ?_
      refine zSq (by kernel_rfl) ?_
      refine zPl [0, 1, 2] (by kernel_rfl) ?_
      refine zB0 [1, 2] [0] [(36, .agg #[iV 0, iV 0, uV 0, iV 0, iV 0, uV 0])] (by kernel_rfl) ?_
      have h83 : sat g w61 [Cl r4 [iV 0, iV 0, uV 0, iV 0, iV 0, uV 0] 90, Cl r58 [iV e.d.1, iV e.d.2.1, uV e.d.2.2, iV e.num, iV e.h.1, uV e.h.2] 90, Cl b [pV s19, .map (some m20), .slice p21 RL.length c22] 76, Tb s19 n A, Gp kI vE m20 E23, Sl 42 8 p21 RL.length c22 (fl eRs RL), Cl r1 [iV x, iV y, uV z] 28, R] := sat_sel [5, 0, 1, 2, 3, 4, 6, 7] rfl h62
      refine plain_act (i := 1) (by kernel_rfl) ?_
      refine an_store [(0, iV 0), (1, iV 0), (2, uV 0), (3, iV 0), (4, iV 0), (5, uV 0)] (cs' := [iV 0, iV 0, uV 0, iV 0, iV 0, uV 0]) (by kernel_rfl) (by kernel_rfl) (allq ⟨⟨by simp, rfl⟩, ⟨by simp, rfl⟩, ⟨by simp, rfl⟩, ⟨by simp, rfl⟩, ⟨by simp, rfl⟩, ⟨by simp, rfl⟩, trivial⟩) rfl h83 ?_
      intro w84 (h85 : sat g w84 [Cl r4 [iV 0, iV 0, uV 0, iV 0, iV 0, uV 0] 90, Cl r58 [iV e.d.1, iV e.d.2.1, uV e.d.2.2, iV e.num, iV e.h.1, uV e.h.2] 90, Cl b [pV s19, .map (some m20), .slice p21 RL.length c22] 76, Tb s19 n A, Gp kI vE m20 E23, Sl 42 8 p21 RL.length c22 (fl eRs RL), Cl r1 [iV x, iV y, uV z] 28, R])
      refine zB0 [] [2] [(5, iV 7)] (by kernel_rfl) ?_
      refine PO.mk ?_
      change WP _ _ (CA Try.f44 [1, 1, 1, 0, 1, 0, 1]) _ _ _
      refine fk_cut ([(4, pV r4), (5, iV 7)] : Fr) (by kernel_rfl) (fun a => WP _ _ _ _ a _) (fun lr86 => ?_)
      refine gi_rt (by kernel_rfl) ?_
      repeat (first | simp only [Exit.inBlock] | simp only [Exit.then])
      have h87 : sat g w84 [Cl b [pV s19, .map (some m20), .slice p21 RL.length c22] 76, Tb s19 n A, Gp kI vE m20 E23, Sl 42 8 p21 RL.length c22 (fl eRs RL), Cl r4 [iV 0, iV 0, uV 0, iV 0, iV 0, uV 0] 90, Cl r58 [iV e.d.1, iV e.d.2.1, uV e.d.2.2, iV e.num, iV e.h.1, uV e.h.2] 90, Cl r1 [iV x, iV y, uV z] 28, R] := sat_sel [2, 3, 4, 5, 0, 1, 6, 7] rfl h85
      have h88 : sat g w84 [Tab b n A E RL, Cl r4 [iV 0, iV 0, uV 0, iV 0, iV 0, uV 0] 90, Cl r58 [iV e.d.1, iV e.d.2.1, uV e.d.2.2, iV e.num, iV e.h.1, uV e.h.2] 90, Cl r1 [iV x, iV y, uV z] 28, R] := tab_close hM24.1 (by omega) (by first | rfl | omega) h87
      have h89 : sat g w84 [Tab b n A E RL, R] := sat_sel [0, 4] rfl h88
      refine hi_out [iV 0, iV 0, uV 0, iV 0, iV 0, uV 0] (.tuple #[.agg #[iV 0, iV 0, uV 0, iV 0, iV 0, uV 0], iV 7]) [(⟨r4, 0, none⟩, iV 0), (⟨r4, 1, none⟩, iV 0), (⟨r4, 2, none⟩, uV 0), (⟨r4, 3, none⟩, iV 0), (⟨r4, 4, none⟩, iV 0), (⟨r4, 5, none⟩, uV 0)] (by kernel_rfl) (allq ⟨sat_cell h85 0 rfl rfl, sat_cell h85 0 rfl rfl, sat_cell h85 0 rfl rfl, sat_cell h85 0 rfl rfl, sat_cell h85 0 rfl rfl, sat_cell h85 0 rfl rfl, trivial⟩) ?_
      exact ⟨.tuple #[.agg #[iV 0, iV 0, uV 0, iV 0, iV 0, uV 0], iV 7], [Tab b n A E RL], rfl, ⟨rfl, rfl⟩, h89⟩

set_option maxHeartbeats 4000000 in
theorem tlen_n  : HT Try.prog 22 [Value.pointer none] [] (fun v K => v = Value.int IntKind.i64 0 ∧ K = []) := by
  refine hi_in 11 ([(0, .pointer none)] : Fr) Try.func22 (by kernel_rfl) Try.ntmps22 rfl rfl ?_
  intro g w0 R h0
  change WP _ _ (CA Try.f22 []) _ _ _
  refine zSq (by kernel_rfl) ?_
  refine zPl [0] (by kernel_rfl) ?_
  refine zB0 [] [0] [(2, iV 0)] (by kernel_rfl) ?_
  refine PO.mk ?_
  change WP _ _ (CA Try.f22 [1]) _ _ _
  refine fk_cut ([(0, .pointer none)] : Fr) (by kernel_rfl) (fun a => WP _ _ _ _ a _) (fun lr1 => ?_)
  refine zSq (by kernel_rfl) ?_
  refine zSq (by kernel_rfl) ?_
  refine zPl [0, 1, 2] (by kernel_rfl) ?_
  refine zB0 [1, 2] [0] [(3, .pointer none)] (by kernel_rfl) ?_
  refine plain_act (i := 1) (by kernel_rfl) ?_
  refine zCl 4 Try.call36 (tvalid_n) h0 (by kernel_rfl) ?_
  rintro v K w2 (⟨rfl, rfl⟩) h3
  refine ⟨_, rfl, ?_⟩
  have h4 : sat g w2 [R] := h3
  refine zB0 [] [2] [(5, .bool true)] (by kernel_rfl) ?_
  refine PO.mk ?_
  change WP _ _ (CA Try.f22 [1, 0, 1]) _ _ _
  refine fk_cut ([(0, .pointer none), (5, .bool true)] : Fr) (by kernel_rfl) (fun a => WP _ _ _ _ a _) (fun lr5 => ?_)
  refine zCt (by kernel_rfl) ?_
  refine zSq (by kernel_rfl) ?_
  refine zPl [0] (by kernel_rfl) ?_
  refine zB0 [] [0] [(2, iV 0)] (by kernel_rfl) ?_
  refine PO.mk ?_
  change WP _ _ (CA Try.f22 [1, 0, 1, 0, 1]) _ _ _
  refine fk_cut ([(2, iV 0)] : Fr) (by kernel_rfl) (fun a => WP _ _ _ _ a _) (fun lr6 => ?_)
  refine gi_rt (by kernel_rfl) ?_
  repeat (first | simp only [Exit.inBlock] | simp only [Exit.then])
  refine hi_out [] (iV 0) [] (by kernel_rfl) (by intro q hq; cases hq) ?_
  exact ⟨iV 0, [], rfl, ⟨rfl, rfl⟩, h4⟩

set_option maxHeartbeats 4000000 in
theorem tlen_z (b : Nat)  : HT Try.prog 22 [Value.pointer (some ⟨b, 0, none⟩)] [Cl b [Value.pointer none, Value.map none, Value.slice none 0 0] 76] (fun v K => v = Value.int IntKind.i64 0 ∧ K = [Cl b [Value.pointer none, Value.map none, Value.slice none 0 0] 76]) := by
  refine hi_in 11 ([(0, pV b)] : Fr) Try.func22 (by kernel_rfl) Try.ntmps22 rfl rfl ?_
  intro g w0 R h0
  change WP _ _ (CA Try.f22 []) _ _ _
  refine zSq (by kernel_rfl) ?_
  refine zPl [0] (by kernel_rfl) ?_
  refine zB0 [] [0] [(2, iV 0)] (by kernel_rfl) ?_
  refine PO.mk ?_
  change WP _ _ (CA Try.f22 [1]) _ _ _
  refine fk_cut ([(0, pV b)] : Fr) (by kernel_rfl) (fun a => WP _ _ _ _ a _) (fun lr1 => ?_)
  refine zSq (by kernel_rfl) ?_
  refine zSq (by kernel_rfl) ?_
  refine zPl [0, 1, 2] (by kernel_rfl) ?_
  refine zB0 [1, 2] [0] [(3, pV b)] (by kernel_rfl) ?_
  refine plain_act (i := 1) (by kernel_rfl) ?_
  refine zCl 4 Try.call36 (tvalid_z b) h0 (by kernel_rfl) ?_
  rintro v K w2 (⟨rfl, rfl⟩) h3
  refine ⟨_, rfl, ?_⟩
  have h4 : sat g w2 [Cl b [.pointer none, .map none, .slice none 0 0] 76, R] := h3
  refine zB0 [] [2] [(5, .bool true)] (by kernel_rfl) ?_
  refine PO.mk ?_
  change WP _ _ (CA Try.f22 [1, 0, 1]) _ _ _
  refine fk_cut ([(0, pV b), (5, .bool true)] : Fr) (by kernel_rfl) (fun a => WP _ _ _ _ a _) (fun lr5 => ?_)
  refine zCt (by kernel_rfl) ?_
  refine zSq (by kernel_rfl) ?_
  refine zPl [0] (by kernel_rfl) ?_
  refine zB0 [] [0] [(2, iV 0)] (by kernel_rfl) ?_
  refine PO.mk ?_
  change WP _ _ (CA Try.f22 [1, 0, 1, 0, 1]) _ _ _
  refine fk_cut ([(2, iV 0)] : Fr) (by kernel_rfl) (fun a => WP _ _ _ _ a _) (fun lr6 => ?_)
  refine gi_rt (by kernel_rfl) ?_
  repeat (first | simp only [Exit.inBlock] | simp only [Exit.then])
  refine hi_out [] (iV 0) [] (by kernel_rfl) (by intro q hq; cases hq) ?_
  exact ⟨iV 0, [Cl b [.pointer none, .map none, .slice none 0 0] 76], rfl, ⟨rfl, rfl⟩, h4⟩

set_option maxHeartbeats 4000000 in
theorem troom_n  : HT Try.prog 29 [Value.pointer none] [] (fun v K => v = Value.int IntKind.i64 0 ∧ K = []) := by
  refine hi_in 11 ([(0, .pointer none)] : Fr) Try.func29 (by kernel_rfl) Try.ntmps29 rfl rfl ?_
  intro g w0 R h0
  change WP _ _ (CA Try.f29 []) _ _ _
  refine zSq (by kernel_rfl) ?_
  refine zPl [0] (by kernel_rfl) ?_
  refine zB0 [] [0] [(2, iV 0)] (by kernel_rfl) ?_
  refine PO.mk ?_
  change WP _ _ (CA Try.f29 [1]) _ _ _
  refine fk_cut ([(0, .pointer none)] : Fr) (by kernel_rfl) (fun a => WP _ _ _ _ a _) (fun lr1 => ?_)
  refine zSq (by kernel_rfl) ?_
  refine zSq (by kernel_rfl) ?_
  refine zPl [0, 1, 2] (by kernel_rfl) ?_
  refine zB0 [1, 2] [0] [(3, .pointer none)] (by kernel_rfl) ?_
  refine plain_act (i := 1) (by kernel_rfl) ?_
  refine zCl 4 Try.call36 (tvalid_n) h0 (by kernel_rfl) ?_
  rintro v K w2 (⟨rfl, rfl⟩) h3
  refine ⟨_, rfl, ?_⟩
  have h4 : sat g w2 [R] := h3
  refine zB0 [] [2] [(5, .bool true)] (by kernel_rfl) ?_
  refine PO.mk ?_
  change WP _ _ (CA Try.f29 [1, 0, 1]) _ _ _
  refine fk_cut ([(0, .pointer none), (5, .bool true)] : Fr) (by kernel_rfl) (fun a => WP _ _ _ _ a _) (fun lr5 => ?_)
  refine zCt (by kernel_rfl) ?_
  refine zSq (by kernel_rfl) ?_
  refine zPl [0] (by kernel_rfl) ?_
  refine zB0 [] [0] [(2, iV 0)] (by kernel_rfl) ?_
  refine PO.mk ?_
  change WP _ _ (CA Try.f29 [1, 0, 1, 0, 1]) _ _ _
  refine fk_cut ([(2, iV 0)] : Fr) (by kernel_rfl) (fun a => WP _ _ _ _ a _) (fun lr6 => ?_)
  refine gi_rt (by kernel_rfl) ?_
  repeat (first | simp only [Exit.inBlock] | simp only [Exit.then])
  refine hi_out [] (iV 0) [] (by kernel_rfl) (by intro q hq; cases hq) ?_
  exact ⟨iV 0, [], rfl, ⟨rfl, rfl⟩, h4⟩

set_option maxHeartbeats 4000000 in
theorem troom_z (b : Nat)  : HT Try.prog 29 [Value.pointer (some ⟨b, 0, none⟩)] [Cl b [Value.pointer none, Value.map none, Value.slice none 0 0] 76] (fun v K => v = Value.int IntKind.i64 0 ∧ K = [Cl b [Value.pointer none, Value.map none, Value.slice none 0 0] 76]) := by
  refine hi_in 11 ([(0, pV b)] : Fr) Try.func29 (by kernel_rfl) Try.ntmps29 rfl rfl ?_
  intro g w0 R h0
  change WP _ _ (CA Try.f29 []) _ _ _
  refine zSq (by kernel_rfl) ?_
  refine zPl [0] (by kernel_rfl) ?_
  refine zB0 [] [0] [(2, iV 0)] (by kernel_rfl) ?_
  refine PO.mk ?_
  change WP _ _ (CA Try.f29 [1]) _ _ _
  refine fk_cut ([(0, pV b)] : Fr) (by kernel_rfl) (fun a => WP _ _ _ _ a _) (fun lr1 => ?_)
  refine zSq (by kernel_rfl) ?_
  refine zSq (by kernel_rfl) ?_
  refine zPl [0, 1, 2] (by kernel_rfl) ?_
  refine zB0 [1, 2] [0] [(3, pV b)] (by kernel_rfl) ?_
  refine plain_act (i := 1) (by kernel_rfl) ?_
  refine zCl 4 Try.call36 (tvalid_z b) h0 (by kernel_rfl) ?_
  rintro v K w2 (⟨rfl, rfl⟩) h3
  refine ⟨_, rfl, ?_⟩
  have h4 : sat g w2 [Cl b [.pointer none, .map none, .slice none 0 0] 76, R] := h3
  refine zB0 [] [2] [(5, .bool true)] (by kernel_rfl) ?_
  refine PO.mk ?_
  change WP _ _ (CA Try.f29 [1, 0, 1]) _ _ _
  refine fk_cut ([(0, pV b), (5, .bool true)] : Fr) (by kernel_rfl) (fun a => WP _ _ _ _ a _) (fun lr5 => ?_)
  refine zCt (by kernel_rfl) ?_
  refine zSq (by kernel_rfl) ?_
  refine zPl [0] (by kernel_rfl) ?_
  refine zB0 [] [0] [(2, iV 0)] (by kernel_rfl) ?_
  refine PO.mk ?_
  change WP _ _ (CA Try.f29 [1, 0, 1, 0, 1]) _ _ _
  refine fk_cut ([(2, iV 0)] : Fr) (by kernel_rfl) (fun a => WP _ _ _ _ a _) (fun lr6 => ?_)
  refine gi_rt (by kernel_rfl) ?_
  repeat (first | simp only [Exit.inBlock] | simp only [Exit.then])
  refine hi_out [] (iV 0) [] (by kernel_rfl) (by intro q hq; cases hq) ?_
  exact ⟨iV 0, [Cl b [.pointer none, .map none, .slice none 0 0] 76], rfl, ⟨rfl, rfl⟩, h4⟩

set_option maxHeartbeats 4000000 in
theorem tcheck_n (v : Int) : HT Try.prog 47 [Value.pointer none, Value.int IntKind.i64 v] [] (fun v K => v = Value.int IntKind.i64 1 ∧ K = []) := by
  refine hi_in 21 ([(0, .pointer none), (1, iV v)] : Fr) Try.func47 (by kernel_rfl) Try.ntmps47 rfl rfl ?_
  intro g w0 R h0
  change WP _ _ (CA Try.f47 []) _ _ _
  refine zSq (by kernel_rfl) ?_
  refine zPl [0] (by kernel_rfl) ?_
  refine zB0 [] [0] [(4, iV 0)] (by kernel_rfl) ?_
  refine PO.mk ?_
  change WP _ _ (CA Try.f47 [1]) _ _ _
  refine fk_cut ([(0, .pointer none), (1, iV v)] : Fr) (by kernel_rfl) (fun a => WP _ _ _ _ a _) (fun lr1 => ?_)
  refine zSq (by kernel_rfl) ?_
  refine gi_blk (id := 0) (x := CA Try.f47 [1, 0, 0]) (by kernel_rfl) ?_
  refine zSq (by kernel_rfl) ?_
  refine zPl [0, 1, 2, 3] (by kernel_rfl) ?_
  refine zB0 [1, 2, 3] [0] [(6, .pointer none)] (by kernel_rfl) ?_
  refine plain_act (i := 1) (by kernel_rfl) ?_
  refine zCl 7 Try.call36 (tvalid_n) h0 (by kernel_rfl) ?_
  rintro v K w2 (⟨rfl, rfl⟩) h3
  refine ⟨_, rfl, ?_⟩
  have h4 : sat g w2 [R] := h3
  refine zB0 [] [2, 3] [(5, .bool true), (8, .bool true)] (by kernel_rfl) ?_
  refine PO.mk ?_
  change WP _ _ (CA Try.f47 [1, 0, 0, 1]) _ _ _
  refine fk_cut ([(0, .pointer none), (1, iV v), (5, .bool true)] : Fr) (by kernel_rfl) (fun a => WP _ _ _ _ a _) (fun lr5 => ?_)
  refine zCt (by kernel_rfl) ?_
  refine zSq (by kernel_rfl) ?_
  refine zPl [0] (by kernel_rfl) ?_
  refine zB0 [] [0] [(4, iV 1)] (by kernel_rfl) ?_
  refine PO.mk ?_
  change WP _ _ (CA Try.f47 [1, 0, 0, 1, 0, 1]) _ _ _
  refine fk_cut ([(4, iV 1)] : Fr) (by kernel_rfl) (fun a => WP _ _ _ _ a _) (fun lr6 => ?_)
  refine gi_rt (by kernel_rfl) ?_
  repeat (first | simp only [Exit.inBlock] | simp only [Exit.then])
  refine hi_out [] (iV 1) [] (by kernel_rfl) (by intro q hq; cases hq) ?_
  exact ⟨iV 1, [], rfl, ⟨rfl, rfl⟩, h4⟩

set_option maxHeartbeats 4000000 in
theorem tcheck_z (b : Nat) (v : Int) : HT Try.prog 47 [Value.pointer (some ⟨b, 0, none⟩), Value.int IntKind.i64 v] [Cl b [Value.pointer none, Value.map none, Value.slice none 0 0] 76] (fun v K => v = Value.int IntKind.i64 1 ∧ K = [Cl b [Value.pointer none, Value.map none, Value.slice none 0 0] 76]) := by
  refine hi_in 21 ([(0, pV b), (1, iV v)] : Fr) Try.func47 (by kernel_rfl) Try.ntmps47 rfl rfl ?_
  intro g w0 R h0
  change WP _ _ (CA Try.f47 []) _ _ _
  refine zSq (by kernel_rfl) ?_
  refine zPl [0] (by kernel_rfl) ?_
  refine zB0 [] [0] [(4, iV 0)] (by kernel_rfl) ?_
  refine PO.mk ?_
  change WP _ _ (CA Try.f47 [1]) _ _ _
  refine fk_cut ([(0, pV b), (1, iV v)] : Fr) (by kernel_rfl) (fun a => WP _ _ _ _ a _) (fun lr1 => ?_)
  refine zSq (by kernel_rfl) ?_
  refine gi_blk (id := 0) (x := CA Try.f47 [1, 0, 0]) (by kernel_rfl) ?_
  refine zSq (by kernel_rfl) ?_
  refine zPl [0, 1, 2, 3] (by kernel_rfl) ?_
  refine zB0 [1, 2, 3] [0] [(6, pV b)] (by kernel_rfl) ?_
  refine plain_act (i := 1) (by kernel_rfl) ?_
  refine zCl 7 Try.call36 (tvalid_z b) h0 (by kernel_rfl) ?_
  rintro v K w2 (⟨rfl, rfl⟩) h3
  refine ⟨_, rfl, ?_⟩
  have h4 : sat g w2 [Cl b [.pointer none, .map none, .slice none 0 0] 76, R] := h3
  refine zB0 [] [2, 3] [(5, .bool true), (8, .bool true)] (by kernel_rfl) ?_
  refine PO.mk ?_
  change WP _ _ (CA Try.f47 [1, 0, 0, 1]) _ _ _
  refine fk_cut ([(0, pV b), (1, iV v), (5, .bool true)] : Fr) (by kernel_rfl) (fun a => WP _ _ _ _ a _) (fun lr5 => ?_)
  refine zCt (by kernel_rfl) ?_
  refine zSq (by kernel_rfl) ?_
  refine zPl [0] (by kernel_rfl) ?_
  refine zB0 [] [0] [(4, iV 1)] (by kernel_rfl) ?_
  refine PO.mk ?_
  change WP _ _ (CA Try.f47 [1, 0, 0, 1, 0, 1]) _ _ _
  refine fk_cut ([(4, iV 1)] : Fr) (by kernel_rfl) (fun a => WP _ _ _ _ a _) (fun lr6 => ?_)
  refine gi_rt (by kernel_rfl) ?_
  repeat (first | simp only [Exit.inBlock] | simp only [Exit.then])
  refine hi_out [] (iV 1) [] (by kernel_rfl) (by intro q hq; cases hq) ?_
  exact ⟨iV 1, [Cl b [.pointer none, .map none, .slice none 0 0] 76], rfl, ⟨rfl, rfl⟩, h4⟩

set_option maxHeartbeats 4000000 in
theorem tlen_ht (b n : Nat) (A : List Sl2) (E : Tm) (RL : List Rs) : HT Try.prog 22 [Value.pointer (some ⟨b, 0, none⟩)] [Tab b n A E RL] (fun v K => v = Value.int IntKind.i64 (((RL.length : Nat) : Int)) ∧ K = [Tab b n A E RL]) := by
  refine hi_in 11 ([(0, pV b)] : Fr) Try.func22 (by kernel_rfl) Try.ntmps22 rfl rfl ?_
  intro g w0 R h0
  change WP _ _ (CA Try.f22 []) _ _ _
  refine zSq (by kernel_rfl) ?_
  refine zPl [0] (by kernel_rfl) ?_
  refine zB0 [] [0] [(2, iV 0)] (by kernel_rfl) ?_
  refine PO.mk ?_
  change WP _ _ (CA Try.f22 [1]) _ _ _
  refine fk_cut ([(0, pV b)] : Fr) (by kernel_rfl) (fun a => WP _ _ _ _ a _) (fun lr1 => ?_)
  refine zSq (by kernel_rfl) ?_
  refine zSq (by kernel_rfl) ?_
  refine zPl [0, 1, 2] (by kernel_rfl) ?_
  refine zB0 [1, 2] [0] [(3, pV b)] (by kernel_rfl) ?_
  refine plain_act (i := 1) (by kernel_rfl) ?_
  refine zCl 4 Try.call36 (tvalid_ht b n A E RL) h0 (by kernel_rfl) ?_
  rintro v K w2 (⟨rfl, rfl⟩) h3
  refine ⟨_, rfl, ?_⟩
  have h4 : sat g w2 [Tab b n A E RL, R] := h3
  refine zB0 [] [2] [(5, .bool false)] (by kernel_rfl) ?_
  refine PO.mk ?_
  change WP _ _ (CA Try.f22 [1, 0, 1]) _ _ _
  refine fk_cut ([(0, pV b), (5, .bool false)] : Fr) (by kernel_rfl) (fun a => WP _ _ _ _ a _) (fun lr5 => ?_)
  refine zCf (by kernel_rfl) ?_
  refine gi_skp (by kernel_rfl) ?_
  change WP _ _ (CA Try.f22 [1, 1]) _ _ _
  refine zSq (by kernel_rfl) ?_
  refine zPl [0, 1, 2, 3, 4, 5] (by kernel_rfl) ?_
  obtain ⟨s6, m7, p8, c9, E10, hM11, h12⟩ := tab_open h4
  have hRl_ := hM11.2
  refine zBb [] [(2, iV (((RL.length : Nat) : Int))), (10, iV (((RL.length : Nat) : Int))), (9, .slice p8 RL.length c9), (8, .pointer (some ⟨b, 2, none⟩)), (7, pV b), (6, pV b)] [⟨0, [], none⟩, ⟨1, [], none⟩, ⟨2, [], none⟩, ⟨3, [.slice p8 RL.length c9], none⟩, ⟨4, [], none⟩, ⟨5, [], none⟩] [(3, ⟨b, 2, none⟩, .slice p8 RL.length c9)] [] (by kernel_rfl) trivial (AllC_cons (sat_cell h12 0 rfl rfl) (AllC_nil _)) ?_
  refine PO.mk ?_
  change WP _ _ (CA Try.f22 [1, 1, 1]) _ _ _
  refine fk_cut ([(2, iV (((RL.length : Nat) : Int)))] : Fr) (by kernel_rfl) (fun a => WP _ _ _ _ a _) (fun lr13 => ?_)
  refine gi_rt (by kernel_rfl) ?_
  repeat (first | simp only [Exit.inBlock] | simp only [Exit.then])
  have h14 : sat g w2 [Tab b n A E RL, R] := tab_close hM11.1 (by omega) (by first | rfl | omega) h12
  refine hi_out [] (iV (((RL.length : Nat) : Int))) [] (by kernel_rfl) (by intro q hq; cases hq) ?_
  exact ⟨iV (((RL.length : Nat) : Int)), [Tab b n A E RL], rfl, ⟨rfl, rfl⟩, h14⟩

set_option maxHeartbeats 4000000 in
theorem tcheck_ok (b n : Nat) (A : List Sl2) (E : Tm) (RL : List Rs) (v : Int) (h : 1 ≤ v ∧ v ≤ (RL.length : Int)) : HT Try.prog 47 [Value.pointer (some ⟨b, 0, none⟩), Value.int IntKind.i64 v] [Tab b n A E RL] (fun v K => v = Value.int IntKind.i64 0 ∧ K = [Tab b n A E RL]) := by
  refine hi_in 21 ([(0, pV b), (1, iV v)] : Fr) Try.func47 (by kernel_rfl) Try.ntmps47 rfl rfl ?_
  intro g w0 R h0
  change WP _ _ (CA Try.f47 []) _ _ _
  refine zSq (by kernel_rfl) ?_
  refine zPl [0] (by kernel_rfl) ?_
  refine zB0 [] [0] [(4, iV 0)] (by kernel_rfl) ?_
  refine PO.mk ?_
  change WP _ _ (CA Try.f47 [1]) _ _ _
  refine fk_cut ([(0, pV b), (1, iV v)] : Fr) (by kernel_rfl) (fun a => WP _ _ _ _ a _) (fun lr1 => ?_)
  refine zSq (by kernel_rfl) ?_
  refine gi_blk (id := 0) (x := CA Try.f47 [1, 0, 0]) (by kernel_rfl) ?_
  refine zSq (by kernel_rfl) ?_
  refine zPl [0, 1, 2, 3] (by kernel_rfl) ?_
  refine zB0 [1, 2, 3] [0] [(6, pV b)] (by kernel_rfl) ?_
  refine plain_act (i := 1) (by kernel_rfl) ?_
  refine zCl 7 Try.call36 (tvalid_ht b n A E RL) h0 (by kernel_rfl) ?_
  rintro v K w2 (⟨rfl, rfl⟩) h3
  refine ⟨_, rfl, ?_⟩
  have h4 : sat g w2 [Tab b n A E RL, R] := h3
  refine zB0 [] [2, 3] [(5, .bool false), (8, .bool false)] (by kernel_rfl) ?_
  refine PO.mk ?_
  change WP _ _ (CA Try.f47 [1, 0, 0, 1]) _ _ _
  refine fk_cut ([(0, pV b), (1, iV v), (5, .bool false)] : Fr) (by kernel_rfl) (fun a => WP _ _ _ _ a _) (fun lr5 => ?_)
  refine zCf (by kernel_rfl) ?_
  refine zSq (by kernel_rfl) ?_
  refine zPl [0, 1, 2, 3, 4, 5, 6, 7, 8, 9, 10, 11] (by kernel_rfl) ?_
  obtain ⟨s6, m7, p8, c9, E10, hM11, h12⟩ := tab_open h4
  have hRl_ := hM11.2
  refine zBb [] [(9, .bool false), (20, .bool false), (19, .bool false), (18, iV (((RL.length : Nat) : Int))), (17, .slice p8 RL.length c9), (16, .pointer (some ⟨b, 2, none⟩)), (15, pV b), (14, pV b), (13, iV v), (12, .bool false), (11, .bool false), (10, iV v)] [⟨0, [], none⟩, ⟨1, [], some (.bool false)⟩, ⟨2, [], none⟩, ⟨3, [], none⟩, ⟨4, [], none⟩, ⟨5, [], none⟩, ⟨6, [], none⟩, ⟨7, [.slice p8 RL.length c9], none⟩, ⟨8, [], none⟩, ⟨9, [], some (.bool false)⟩, ⟨10, [], none⟩, ⟨11, [], none⟩] [(7, ⟨b, 2, none⟩, .slice p8 RL.length c9)] [(.bool (decide (v < 1)), .bool false), (.bool (decide (v > ((RL.length : Nat) : Int))), .bool false)] (by kernel_rfl) ⟨(ov_f (by omega)), (ov_f (by omega)), trivial⟩ (AllC_cons (sat_cell h12 0 rfl rfl) (AllC_nil _)) ?_
  refine PO.mk ?_
  change WP _ _ (CA Try.f47 [1, 0, 0, 1, 1, 1]) _ _ _
  refine fk_cut ([(9, .bool false)] : Fr) (by kernel_rfl) (fun a => WP _ _ _ _ a _) (fun lr13 => ?_)
  refine zCf (by kernel_rfl) ?_
  refine gi_skp (by kernel_rfl) ?_
  change WP _ _ (CA Try.f47 [1, 1]) _ _ _
  refine zSq (by kernel_rfl) ?_
  refine zPl [0] (by kernel_rfl) ?_
  refine zB0 [] [0] [(4, iV 0)] (by kernel_rfl) ?_
  refine PO.mk ?_
  change WP _ _ (CA Try.f47 [1, 1, 1]) _ _ _
  refine fk_cut ([(4, iV 0)] : Fr) (by kernel_rfl) (fun a => WP _ _ _ _ a _) (fun lr14 => ?_)
  refine gi_rt (by kernel_rfl) ?_
  repeat (first | simp only [Exit.inBlock] | simp only [Exit.then])
  have h15 : sat g w2 [Tab b n A E RL, R] := tab_close hM11.1 (by omega) (by first | rfl | omega) h12
  refine hi_out [] (iV 0) [] (by kernel_rfl) (by intro q hq; cases hq) ?_
  exact ⟨iV 0, [Tab b n A E RL], rfl, ⟨rfl, rfl⟩, h15⟩

end Go.Proofs.Ytjjpmehiolejgaa
