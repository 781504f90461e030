/- Walks, printed by my generator gen17.py. -/
import Derived.Test.YtjjpmehiolejgaaF15
namespace Go.Proofs.Ytjjpmehiolejgaa
set_option maxHeartbeats 4000000 in
theorem topen_n (x y z hx hy : Int) (L : List UInt8) : HT Try.prog 12 [Value.pointer none, Value.agg #[Value.int IntKind.i64 x, Value.int IntKind.i64 y, Value.int IntKind.u32 z], Value.string (St L), Value.agg #[Value.int IntKind.i64 hx, Value.int IntKind.u32 hy]] [] (fun v K => v = Value.tuple #[Value.agg #[Value.int IntKind.i64 0, Value.int IntKind.i64 0, Value.int IntKind.u32 0], Value.int IntKind.i64 1] ∧ K = []) := by
  refine hi_in 80 ([(0, .pointer none), (1, .agg #[iV x, iV y, uV z]), (2, .string (St L)), (3, .agg #[iV hx, uV hy])] : Fr) Try.func12 (by kernel_rfl) Try.ntmps12 rfl rfl ?_
  intro g w0 R h0
  change WP _ _ (CA Try.f12 []) _ _ _
  refine zSq (by kernel_rfl) ?_
  refine zPl [0, 1, 2, 3] (by kernel_rfl) ?_
  refine plain_act (i := 0) (by kernel_rfl) ?_
  refine an_new (d := 5) (fun xb_ => pV xb_) (fun xb_ => Obj.cells [iV x, iV y, uV z].toArray 32 (0, 0)) (fun xb_ => by kernel_rfl) (by kernel_rfl) rfl h0 ?_
  intro r1 w2 (h3 : sat g w2 [Cl r1 [iV x, iV y, uV z] 32, R])
  refine plain_act (i := 1) (by kernel_rfl) ?_
  refine an_new (d := 7) (fun xb_ => pV xb_) (fun xb_ => Obj.cells [iV hx, uV hy].toArray 34 (0, 0)) (fun xb_ => by kernel_rfl) (by kernel_rfl) rfl h3 ?_
  intro r4 w5 (h6 : sat g w5 [Cl r4 [iV hx, uV hy] 34, Cl r1 [iV x, iV y, uV z] 32, R])
  refine plain_act (i := 2) (by kernel_rfl) ?_
  refine an_new (d := 8) (fun xb_ => pV xb_) (fun xb_ => Obj.cells [iV 0, iV 0, uV 0].toArray 28 (0, 0)) (fun xb_ => by kernel_rfl) (by kernel_rfl) rfl h6 ?_
  intro r7 w8 (h9 : sat g w8 [Cl r7 [iV 0, iV 0, uV 0] 28, Cl r4 [iV hx, uV hy] 34, Cl r1 [iV x, iV y, uV z] 32, R])
  refine zB0 [] [3] [(9, iV 0)] (by kernel_rfl) ?_
  refine PO.mk ?_
  change WP _ _ (CA Try.f12 [1]) _ _ _
  refine fk_cut ([(0, .pointer none), (2, .string (St L)), (5, pV r1), (7, pV r4), (8, pV r7)] : Fr) (by kernel_rfl) (fun a => WP _ _ _ _ a _) (fun lr10 => ?_)
  refine zSq (by kernel_rfl) ?_
  refine zSq (by kernel_rfl) ?_
  refine zPl [0, 1, 2] (by kernel_rfl) ?_
  refine zB0 [1, 2] [0] [(12, .pointer none)] (by kernel_rfl) ?_
  refine plain_act (i := 1) (by kernel_rfl) ?_
  refine zCl 13 Try.call36 (tvalid_n) h9 (by kernel_rfl) ?_
  rintro v K w11 (⟨rfl, rfl⟩) h12
  refine ⟨_, rfl, ?_⟩
  have h13 : sat g w11 [Cl r7 [iV 0, iV 0, uV 0] 28, Cl r4 [iV hx, uV hy] 34, Cl r1 [iV x, iV y, uV z] 32, R] := h12
  refine zB0 [] [2] [(14, .bool true)] (by kernel_rfl) ?_
  refine PO.mk ?_
  change WP _ _ (CA Try.f12 [1, 0, 1]) _ _ _
  refine fk_cut ([(0, .pointer none), (2, .string (St L)), (5, pV r1), (7, pV r4), (8, pV r7), (14, .bool true)] : Fr) (by kernel_rfl) (fun a => WP _ _ _ _ a _) (fun lr14 => ?_)
  refine zCt (by kernel_rfl) ?_
  refine zSq (by kernel_rfl) ?_
  refine zPl [0, 1, 2] (by kernel_rfl) ?_
  refine zB0 [1, 2] [0] [(15, .agg #[iV 0, iV 0, uV 0])] (by kernel_rfl) ?_
  refine plain_act (i := 1) (by kernel_rfl) ?_
  refine an_store [(0, iV 0), (1, iV 0), (2, uV 0)] (cs' := [iV 0, iV 0, uV 0]) (by kernel_rfl) (by kernel_rfl) (allq ⟨⟨by simp, rfl⟩, ⟨by simp, rfl⟩, ⟨by simp, rfl⟩, trivial⟩) rfl h13 ?_
  intro w15 (h16 : sat g w15 [Cl r7 [iV 0, iV 0, uV 0] 28, Cl r4 [iV hx, uV hy] 34, Cl r1 [iV x, iV y, uV z] 32, R])
  refine zB0 [] [2] [(9, iV 1)] (by kernel_rfl) ?_
  refine PO.mk ?_
  change WP _ _ (CA Try.f12 [1, 0, 1, 0, 1]) _ _ _
  refine fk_cut ([(8, pV r7), (9, iV 1)] : Fr) (by kernel_rfl) (fun a => WP _ _ _ _ a _) (fun lr17 => ?_)
  refine gi_rt (by kernel_rfl) ?_
  repeat (first | simp only [Exit.inBlock] | simp only [Exit.then])
  have h18 : sat g w15 [R] := sat_sel [3] rfl h16
  refine hi_out [iV 0, iV 0, uV 0] (.tuple #[.agg #[iV 0, iV 0, uV 0], iV 1]) [(⟨r7, 0, none⟩, iV 0), (⟨r7, 1, none⟩, iV 0), (⟨r7, 2, none⟩, uV 0)] (by kernel_rfl) (allq ⟨sat_cell h16 0 rfl rfl, sat_cell h16 0 rfl rfl, sat_cell h16 0 rfl rfl, trivial⟩) ?_
  exact ⟨.tuple #[.agg #[iV 0, iV 0, uV 0], iV 1], [], rfl, ⟨rfl, rfl⟩, h18⟩

set_option maxHeartbeats 4000000 in
theorem topen_z (b : Nat) (x y z hx hy : Int) (L : List UInt8) : HT Try.prog 12 [Value.pointer (some ⟨b, 0, none⟩), Value.agg #[Value.int IntKind.i64 x, Value.int IntKind.i64 y, Value.int IntKind.u32 z], Value.string (St L), Value.agg #[Value.int IntKind.i64 hx, Value.int IntKind.u32 hy]] [Cl b [Value.pointer none, Value.map none, Value.slice none 0 0] 76] (fun v K => v = Value.tuple #[Value.agg #[Value.int IntKind.i64 0, Value.int IntKind.i64 0, Value.int IntKind.u32 0], Value.int IntKind.i64 1] ∧ K = [Cl b [Value.pointer none, Value.map none, Value.slice none 0 0] 76]) := by
  refine hi_in 80 ([(0, pV b), (1, .agg #[iV x, iV y, uV z]), (2, .string (St L)), (3, .agg #[iV hx, uV hy])] : Fr) Try.func12 (by kernel_rfl) Try.ntmps12 rfl rfl ?_
  intro g w0 R h0
  change WP _ _ (CA Try.f12 []) _ _ _
  refine zSq (by kernel_rfl) ?_
  refine zPl [0, 1, 2, 3] (by kernel_rfl) ?_
  refine plain_act (i := 0) (by kernel_rfl) ?_
  refine an_new (d := 5) (fun xb_ => pV xb_) (fun xb_ => Obj.cells [iV x, iV y, uV z].toArray 32 (0, 0)) (fun xb_ => by kernel_rfl) (by kernel_rfl) rfl h0 ?_
  intro r1 w2 (h3 : sat g w2 [Cl r1 [iV x, iV y, uV z] 32, Cl b [.pointer none, .map none, .slice none 0 0] 76, R])
  refine plain_act (i := 1) (by kernel_rfl) ?_
  refine an_new (d := 7) (fun xb_ => pV xb_) (fun xb_ => Obj.cells [iV hx, uV hy].toArray 34 (0, 0)) (fun xb_ => by kernel_rfl) (by kernel_rfl) rfl h3 ?_
  intro r4 w5 (h6 : sat g w5 [Cl r4 [iV hx, uV hy] 34, Cl r1 [iV x, iV y, uV z] 32, Cl b [.pointer none, .map none, .slice none 0 0] 76, R])
  refine plain_act (i := 2) (by kernel_rfl) ?_
  refine an_new (d := 8) (fun xb_ => pV xb_) (fun xb_ => Obj.cells [iV 0, iV 0, uV 0].toArray 28 (0, 0)) (fun xb_ => by kernel_rfl) (by kernel_rfl) rfl h6 ?_
  intro r7 w8 (h9 : sat g w8 [Cl r7 [iV 0, iV 0, uV 0] 28, Cl r4 [iV hx, uV hy] 34, Cl r1 [iV x, iV y, uV z] 32, Cl b [.pointer none, .map none, .slice none 0 0] 76, R])
  refine zB0 [] [3] [(9, iV 0)] (by kernel_rfl) ?_
  refine PO.mk ?_
  change WP _ _ (CA Try.f12 [1]) _ _ _
  refine fk_cut ([(0, pV b), (2, .string (St L)), (5, pV r1), (7, pV r4), (8, pV r7)] : Fr) (by kernel_rfl) (fun a => WP _ _ _ _ a _) (fun lr10 => ?_)
  refine zSq (by kernel_rfl) ?_
  refine zSq (by kernel_rfl) ?_
  refine zPl [0, 1, 2] (by kernel_rfl) ?_
  refine zB0 [1, 2] [0] [(12, pV b)] (by kernel_rfl) ?_
  have h11 : sat g w8 [Cl b [.pointer none, .map none, .slice none 0 0] 76, Cl r7 [iV 0, iV 0, uV 0] 28, Cl r4 [iV hx, uV hy] 34, Cl r1 [iV x, iV y, uV z] 32, R] := sat_sel [3, 0, 1, 2, 4] rfl h9
  refine plain_act (i := 1) (by kernel_rfl) ?_
  refine zCl 13 Try.call36 (tvalid_z b) h11 (by kernel_rfl) ?_
  rintro v K w12 (⟨rfl, rfl⟩) h13
  refine ⟨_, rfl, ?_⟩
  have h14 : sat g w12 [Cl b [.pointer none, .map none, .slice none 0 0] 76, Cl r7 [iV 0, iV 0, uV 0] 28, Cl r4 [iV hx, uV hy] 34, Cl r1 [iV x, iV y, uV z] 32, R] := h13
  refine zB0 [] [2] [(14, .bool true)] (by kernel_rfl) ?_
  refine PO.mk ?_
  change WP _ _ (CA Try.f12 [1, 0, 1]) _ _ _
  refine fk_cut ([(0, pV b), (2, .string (St L)), (5, pV r1), (7, pV r4), (8, pV r7), (14, .bool true)] : Fr) (by kernel_rfl) (fun a => WP _ _ _ _ a _) (fun lr15 => ?_)
  refine zCt (by kernel_rfl) ?_
  refine zSq (by kernel_rfl) ?_
  refine zPl [0, 1, 2] (by kernel_rfl) ?_
  refine zB0 [1, 2] [0] [(15, .agg #[iV 0, iV 0, uV 0])] (by kernel_rfl) ?_
  have h16 : sat g w12 [Cl r7 [iV 0, iV 0, uV 0] 28, Cl b [.pointer none, .map none, .slice none 0 0] 76, Cl r4 [iV hx, uV hy] 34, Cl r1 [iV x, iV y, uV z] 32, R] := sat_sel [1, 0, 2, 3, 4] rfl h14
  refine plain_act (i := 1) (by kernel_rfl) ?_
  refine an_store [(0, iV 0), (1, iV 0), (2, uV 0)] (cs' := [iV 0, iV 0, uV 0]) (by kernel_rfl) (by kernel_rfl) (allq ⟨⟨by simp, rfl⟩, ⟨by simp, rfl⟩, ⟨by simp, rfl⟩, trivial⟩) rfl h16 ?_
  intro w17 (h18 : sat g w17 [Cl r7 [iV 0, iV 0, uV 0] 28, Cl b [.pointer none, .map none, .slice none 0 0] 76, Cl r4 [iV hx, uV hy] 34, Cl r1 [iV x, iV y, uV z] 32, R])
  refine zB0 [] [2] [(9, iV 1)] (by kernel_rfl) ?_
  refine PO.mk ?_
  change WP _ _ (CA Try.f12 [1, 0, 1, 0, 1]) _ _ _
  refine fk_cut ([(8, pV r7), (9, iV 1)] : Fr) (by kernel_rfl) (fun a => WP _ _ _ _ a _) (fun lr19 => ?_)
  refine gi_rt (by kernel_rfl) ?_
  repeat (first | simp only [Exit.inBlock] | simp only [Exit.then])
  have h20 : sat g w17 [Cl b [.pointer none, .map none, .slice none 0 0] 76, Cl r7 [iV 0, iV 0, uV 0] 28, Cl r4 [iV hx, uV hy] 34, Cl r1 [iV x, iV y, uV z] 32, R] := sat_sel [1, 0, 2, 3, 4] rfl h18
  have h21 : sat g w17 [Cl b [.pointer none, .map none, .slice none 0 0] 76, R] := sat_sel [0, 4] rfl h20
  refine hi_out [iV 0, iV 0, uV 0] (.tuple #[.agg #[iV 0, iV 0, uV 0], iV 1]) [(⟨r7, 0, none⟩, iV 0), (⟨r7, 1, none⟩, iV 0), (⟨r7, 2, none⟩, uV 0)] (by kernel_rfl) (allq ⟨sat_cell h18 0 rfl rfl, sat_cell h18 0 rfl rfl, sat_cell h18 0 rfl rfl, trivial⟩) ?_
  exact ⟨.tuple #[.agg #[iV 0, iV 0, uV 0], iV 1], [Cl b [.pointer none, .map none, .slice none 0 0] 76], rfl, ⟨rfl, rfl⟩, h21⟩

set_option maxHeartbeats 4000000 in
theorem texp_n (vn : Int) : HT Try.prog 31 [Value.pointer none, Value.int IntKind.i64 vn] [] (fun v K => v = Value.tuple #[Value.slice none 0 0, Value.int IntKind.i64 1] ∧ K = []) := by
  refine hi_in 28 ([(0, .pointer none), (1, iV vn)] : Fr) Try.func31 (by kernel_rfl) Try.ntmps31 rfl rfl ?_
  intro g w0 R h0
  change WP _ _ (CA Try.f31 []) _ _ _
  refine zSq (by kernel_rfl) ?_
  refine zPl [0, 1] (by kernel_rfl) ?_
  refine zB0 [] [0, 1] [(5, iV 0), (4, .slice none 0 0)] (by kernel_rfl) ?_
  refine PO.mk ?_
  change WP _ _ (CA Try.f31 [1]) _ _ _
  refine fk_cut ([(0, .pointer none), (1, iV vn)] : Fr) (by kernel_rfl) (fun a => WP _ _ _ _ a _) (fun lr1 => ?_)
  refine zSq (by kernel_rfl) ?_
  refine zPl [0, 1, 2, 3, 4, 5, 6, 7] (by kernel_rfl) ?_
  refine zB0 [2, 3, 4, 5, 6, 7] [0, 1] [(12, iV vn), (11, .pointer none)] (by kernel_rfl) ?_
  refine plain_act (i := 2) (by kernel_rfl) ?_
  refine zCl 13 Try.call21 (tdescs_n vn) h0 (by kernel_rfl) ?_
  rintro v K w2 (⟨rfl, rfl⟩) h3
  refine ⟨_, rfl, ?_⟩
  have h4 : sat g w2 [R] := h3
  refine zB0 [] [3, 4, 5, 6, 7] [(7, iV 1), (6, .slice none 0 0), (15, iV 1), (14, .slice none 0 0), (10, .tuple #[.slice none 0 0, iV 1])] (by kernel_rfl) ?_
  refine PO.mk ?_
  change WP _ _ (CA Try.f31 [1, 1]) _ _ _
  refine fk_cut ([(0, .pointer none), (6, .slice none 0 0), (7, iV 1)] : Fr) (by kernel_rfl) (fun a => WP _ _ _ _ a _) (fun lr5 => ?_)
  refine zSq (by kernel_rfl) ?_
  refine zSq (by kernel_rfl) ?_
  refine zPl [0, 1, 2] (by kernel_rfl) ?_
  refine zB0 [] [0, 1, 2] [(18, iV 0), (17, iV 0), (16, .slice none 0 0)] (by kernel_rfl) ?_
  refine PO.mk ?_
  change WP _ _ (CA Try.f31 [1, 1, 0, 1]) _ _ _
  refine fk_cut ([(0, .pointer none), (6, .slice none 0 0), (7, iV 1), (16, .slice none 0 0), (17, iV 0), (18, iV 0)] : Fr) (by kernel_rfl) (fun a => WP _ _ _ _ a _) (fun lr6 => ?_)
  refine gi_blk (id := 0) (x := CA Try.f31 [1, 1, 0, 1, 0]) (by kernel_rfl) ?_
  refine gi_unr (x := CA Try.f31 [1, 1, 0, 1, 0, 0]) 1 (by kernel_rfl) ?_
  change WP _ _ (CA Try.f31 [1, 1, 0, 1, 0, 0]) _ _ _
  refine zSq (by kernel_rfl) ?_
  refine zPl [0] (by kernel_rfl) ?_
  refine zB0 [] [0] [(19, .bool false)] (by kernel_rfl) ?_
  refine PO.mk ?_
  change WP _ _ (CA Try.f31 [1, 1, 0, 1, 0, 0, 1]) _ _ _
  refine fk_cut ([(0, .pointer none), (6, .slice none 0 0), (7, iV 1), (16, .slice none 0 0), (17, iV 0), (18, iV 0), (19, .bool false)] : Fr) (by kernel_rfl) (fun a => WP _ _ _ _ a _) (fun lr7 => ?_)
  refine zSq (by kernel_rfl) ?_
  refine zCf (by kernel_rfl) ?_
  refine gi_ext (id := 0) (by kernel_rfl) ?_
  change WP _ _ (CA Try.f31 [1, 1, 1]) _ _ _
  refine zSq (by kernel_rfl) ?_
  refine zPl [0, 1, 2, 3] (by kernel_rfl) ?_
  refine zB0 [] [0, 1, 2, 3] [(5, iV 1), (4, .slice none 0 0), (27, iV 1), (26, .slice none 0 0)] (by kernel_rfl) ?_
  refine PO.mk ?_
  change WP _ _ (CA Try.f31 [1, 1, 1, 1]) _ _ _
  refine fk_cut ([(4, .slice none 0 0), (5, iV 1)] : Fr) (by kernel_rfl) (fun a => WP _ _ _ _ a _) (fun lr8 => ?_)
  refine gi_rt (by kernel_rfl) ?_
  repeat (first | simp only [Exit.inBlock] | simp only [Exit.then])
  refine hi_out [] (.tuple #[.slice none 0 0, iV 1]) [] (by kernel_rfl) (by intro q hq; cases hq) ?_
  exact ⟨.tuple #[.slice none 0 0, iV 1], [], rfl, ⟨rfl, rfl⟩, h4⟩

set_option maxHeartbeats 4000000 in
theorem texp_z (b : Nat) (vn : Int) : HT Try.prog 31 [Value.pointer (some ⟨b, 0, none⟩), Value.int IntKind.i64 vn] [Cl b [Value.pointer none, Value.map none, Value.slice none 0 0] 76] (fun v K => v = Value.tuple #[Value.slice none 0 0, Value.int IntKind.i64 1] ∧ K = [Cl b [Value.pointer none, Value.map none, Value.slice none 0 0] 76]) := by
  refine hi_in 28 ([(0, pV b), (1, iV vn)] : Fr) Try.func31 (by kernel_rfl) Try.ntmps31 rfl rfl ?_
  intro g w0 R h0
  change WP _ _ (CA Try.f31 []) _ _ _
  refine zSq (by kernel_rfl) ?_
  refine zPl [0, 1] (by kernel_rfl) ?_
  refine zB0 [] [0, 1] [(5, iV 0), (4, .slice none 0 0)] (by kernel_rfl) ?_
  refine PO.mk ?_
  change WP _ _ (CA Try.f31 [1]) _ _ _
  refine fk_cut ([(0, pV b), (1, iV vn)] : Fr) (by kernel_rfl) (fun a => WP _ _ _ _ a _) (fun lr1 => ?_)
  refine zSq (by kernel_rfl) ?_
  refine zPl [0, 1, 2, 3, 4, 5, 6, 7] (by kernel_rfl) ?_
  refine zB0 [2, 3, 4, 5, 6, 7] [0, 1] [(12, iV vn), (11, pV b)] (by kernel_rfl) ?_
  refine plain_act (i := 2) (by kernel_rfl) ?_
  refine zCl 13 Try.call21 (tdescs_z b vn) h0 (by kernel_rfl) ?_
  rintro v K w2 (⟨rfl, rfl⟩) h3
  refine ⟨_, rfl, ?_⟩
  have h4 : sat g w2 [Cl b [.pointer none, .map none, .slice none 0 0] 76, R] := h3
  refine zB0 [] [3, 4, 5, 6, 7] [(7, iV 1), (6, .slice none 0 0), (15, iV 1), (14, .slice none 0 0), (10, .tuple #[.slice none 0 0, iV 1])] (by kernel_rfl) ?_
  refine PO.mk ?_
  change WP _ _ (CA Try.f31 [1, 1]) _ _ _
  refine fk_cut ([(0, pV b), (6, .slice none 0 0), (7, iV 1)] : Fr) (by kernel_rfl) (fun a => WP _ _ _ _ a _) (fun lr5 => ?_)
  refine zSq (by kernel_rfl) ?_
  refine zSq (by kernel_rfl) ?_
  refine zPl [0, 1, 2] (by kernel_rfl) ?_
  refine zB0 [] [0, 1, 2] [(18, iV 0), (17, iV 0), (16, .slice none 0 0)] (by kernel_rfl) ?_
  refine PO.mk ?_
  change WP _ _ (CA Try.f31 [1, 1, 0, 1]) _ _ _
  refine fk_cut ([(0, pV b), (6, .slice none 0 0), (7, iV 1), (16, .slice none 0 0), (17, iV 0), (18, iV 0)] : Fr) (by kernel_rfl) (fun a => WP _ _ _ _ a _) (fun lr6 => ?_)
  refine gi_blk (id := 0) (x := CA Try.f31 [1, 1, 0, 1, 0]) (by kernel_rfl) ?_
  refine gi_unr (x := CA Try.f31 [1, 1, 0, 1, 0, 0]) 1 (by kernel_rfl) ?_
  change WP _ _ (CA Try.f31 [1, 1, 0, 1, 0, 0]) _ _ _
  refine zSq (by kernel_rfl) ?_
  refine zPl [0] (by kernel_rfl) ?_
  refine zB0 [] [0] [(19, .bool false)] (by kernel_rfl) ?_
  refine PO.mk ?_
  change WP _ _ (CA Try.f31 [1, 1, 0, 1, 0, 0, 1]) _ _ _
  refine fk_cut ([(0, pV b), (6, .slice none 0 0), (7, iV 1), (16, .slice none 0 0), (17, iV 0), (18, iV 0), (19, .bool false)] : Fr) (by kernel_rfl) (fun a => WP _ _ _ _ a _) (fun lr7 => ?_)
  refine zSq (by kernel_rfl) ?_
  refine zCf (by kernel_rfl) ?_
  refine gi_ext (id := 0) (by kernel_rfl) ?_
  change WP _ _ (CA Try.f31 [1, 1, 1]) _ _ _
  refine zSq (by kernel_rfl) ?_
  refine zPl [0, 1, 2, 3] (by kernel_rfl) ?_
  refine zB0 [] [0, 1, 2, 3] [(5, iV 1), (4, .slice none 0 0), (27, iV 1), (26, .slice none 0 0)] (by kernel_rfl) ?_
  refine PO.mk ?_
  change WP _ _ (CA Try.f31 [1, 1, 1, 1]) _ _ _
  refine fk_cut ([(4, .slice none 0 0), (5, iV 1)] : Fr) (by kernel_rfl) (fun a => WP _ _ _ _ a _) (fun lr8 => ?_)
  refine gi_rt (by kernel_rfl) ?_
  repeat (first | simp only [Exit.inBlock] | simp only [Exit.then])
  refine hi_out [] (.tuple #[.slice none 0 0, iV 1]) [] (by kernel_rfl) (by intro q hq; cases hq) ?_
  exact ⟨.tuple #[.slice none 0 0, iV 1], [Cl b [.pointer none, .map none, .slice none 0 0] 76], rfl, ⟨rfl, rfl⟩, h4⟩

set_option maxHeartbeats 4000000 in
theorem tnums_n (vn : Int) : HT Try.prog 28 [Value.pointer none, Value.int IntKind.i64 vn] [] (fun v K => v = Value.slice none 0 0 ∧ K = []) := by
  refine hi_in 32 ([(0, .pointer none), (1, iV vn)] : Fr) Try.func28 (by kernel_rfl) Try.ntmps28 rfl rfl ?_
  intro g w0 R h0
  change WP _ _ (CA Try.f28 []) _ _ _
  refine zSq (by kernel_rfl) ?_
  refine zPl [0] (by kernel_rfl) ?_
  refine zB0 [] [0] [(4, .slice none 0 0)] (by kernel_rfl) ?_
  refine PO.mk ?_
  change WP _ _ (CA Try.f28 [1]) _ _ _
  refine fk_cut ([(0, .pointer none), (1, iV vn)] : Fr) (by kernel_rfl) (fun a => WP _ _ _ _ a _) (fun lr1 => ?_)
  refine zSq (by kernel_rfl) ?_
  refine zSq (by kernel_rfl) ?_
  refine zPl [0, 1, 2] (by kernel_rfl) ?_
  refine zB0 [1, 2] [0] [(8, .pointer none)] (by kernel_rfl) ?_
  refine plain_act (i := 1) (by kernel_rfl) ?_
  refine zCl 9 Try.call36 (tvalid_n) h0 (by kernel_rfl) ?_
  rintro v K w2 (⟨rfl, rfl⟩) h3
  refine ⟨_, rfl, ?_⟩
  have h4 : sat g w2 [R] := h3
  refine zB0 [] [2] [(10, .bool true)] (by kernel_rfl) ?_
  refine PO.mk ?_
  change WP _ _ (CA Try.f28 [1, 0, 1]) _ _ _
  refine fk_cut ([(0, .pointer none), (1, iV vn), (10, .bool true)] : Fr) (by kernel_rfl) (fun a => WP _ _ _ _ a _) (fun lr5 => ?_)
  refine zCt (by kernel_rfl) ?_
  refine zSq (by kernel_rfl) ?_
  refine zPl [0] (by kernel_rfl) ?_
  refine zB0 [] [0] [(4, .slice none 0 0)] (by kernel_rfl) ?_
  refine PO.mk ?_
  change WP _ _ (CA Try.f28 [1, 0, 1, 0, 1]) _ _ _
  refine fk_cut ([(4, .slice none 0 0)] : Fr) (by kernel_rfl) (fun a => WP _ _ _ _ a _) (fun lr6 => ?_)
  refine gi_rt (by kernel_rfl) ?_
  repeat (first | simp only [Exit.inBlock] | simp only [Exit.then])
  refine hi_out [] (.slice none 0 0) [] (by kernel_rfl) (by intro q hq; cases hq) ?_
  exact ⟨.slice none 0 0, [], rfl, ⟨rfl, rfl⟩, h4⟩

set_option maxHeartbeats 4000000 in
theorem tnums_z (b : Nat) (vn : Int) : HT Try.prog 28 [Value.pointer (some ⟨b, 0, none⟩), Value.int IntKind.i64 vn] [Cl b [Value.pointer none, Value.map none, Value.slice none 0 0] 76] (fun v K => v = Value.slice none 0 0 ∧ K = [Cl b [Value.pointer none, Value.map none, Value.slice none 0 0] 76]) := by
  refine hi_in 32 ([(0, pV b), (1, iV vn)] : Fr) Try.func28 (by kernel_rfl) Try.ntmps28 rfl rfl ?_
  intro g w0 R h0
  change WP _ _ (CA Try.f28 []) _ _ _
  refine zSq (by kernel_rfl) ?_
  refine zPl [0] (by kernel_rfl) ?_
  refine zB0 [] [0] [(4, .slice none 0 0)] (by kernel_rfl) ?_
  refine PO.mk ?_
  change WP _ _ (CA Try.f28 [1]) _ _ _
  refine fk_cut ([(0, pV b), (1, iV vn)] : Fr) (by kernel_rfl) (fun a => WP _ _ _ _ a _) (fun lr1 => ?_)
  refine zSq (by kernel_rfl) ?_
  refine zSq (by kernel_rfl) ?_
  refine zPl [0, 1, 2] (by kernel_rfl) ?_
  refine zB0 [1, 2] [0] [(8, pV b)] (by kernel_rfl) ?_
  refine plain_act (i := 1) (by kernel_rfl) ?_
  refine zCl 9 Try.call36 (tvalid_z b) h0 (by kernel_rfl) ?_
  rintro v K w2 (⟨rfl, rfl⟩) h3
  refine ⟨_, rfl, ?_⟩
  have h4 : sat g w2 [Cl b [.pointer none, .map none, .slice none 0 0] 76, R] := h3
  refine zB0 [] [2] [(10, .bool true)] (by kernel_rfl) ?_
  refine PO.mk ?_
  change WP _ _ (CA Try.f28 [1, 0, 1]) _ _ _
  refine fk_cut ([(0, pV b), (1, iV vn), (10, .bool true)] : Fr) (by kernel_rfl) (fun a => WP _ _ _ _ a _) (fun lr5 => ?_)
  refine zCt (by kernel_rfl) ?_
  refine zSq (by kernel_rfl) ?_
  refine zPl [0] (by kernel_rfl) ?_
  refine zB0 [] [0] [(4, .slice none 0 0)] (by kernel_rfl) ?_
  refine PO.mk ?_
  change WP _ _ (CA Try.f28 [1, 0, 1, 0, 1]) _ _ _
  refine fk_cut ([(4, .slice none 0 0)] : Fr) (by kernel_rfl) (fun a => WP _ _ _ _ a _) (fun lr6 => ?_)
  refine gi_rt (by kernel_rfl) ?_
  repeat (first | simp only [Exit.inBlock] | simp only [Exit.then])
  refine hi_out [] (.slice none 0 0) [] (by kernel_rfl) (by intro q hq; cases hq) ?_
  exact ⟨.slice none 0 0, [Cl b [.pointer none, .map none, .slice none 0 0] 76], rfl, ⟨rfl, rfl⟩, h4⟩

set_option maxHeartbeats 4000000 in
theorem tcopy_n  : HT Try.prog 30 [Value.pointer none] [] (fun v K => v = Value.pointer none ∧ K = []) := by
  refine hi_in 39 ([(0, .pointer none)] : Fr) Try.func30 (by kernel_rfl) Try.ntmps30 rfl rfl ?_
  intro g w0 R h0
  change WP _ _ (CA Try.f30 []) _ _ _
  refine zSq (by kernel_rfl) ?_
  refine zPl [0] (by kernel_rfl) ?_
  refine zB0 [] [0] [(2, .pointer none)] (by kernel_rfl) ?_
  refine PO.mk ?_
  change WP _ _ (CA Try.f30 [1]) _ _ _
  refine fk_cut ([(0, .pointer none)] : Fr) (by kernel_rfl) (fun a => WP _ _ _ _ a _) (fun lr1 => ?_)
  refine zSq (by kernel_rfl) ?_
  refine zSq (by kernel_rfl) ?_
  refine zPl [0, 1, 2] (by kernel_rfl) ?_
  refine zB0 [1, 2] [0] [(6, .pointer none)] (by kernel_rfl) ?_
  refine plain_act (i := 1) (by kernel_rfl) ?_
  refine zCl 7 Try.call36 (tvalid_n) h0 (by kernel_rfl) ?_
  rintro v K w2 (⟨rfl, rfl⟩) h3
  refine ⟨_, rfl, ?_⟩
  have h4 : sat g w2 [R] := h3
  refine zB0 [] [2] [(8, .bool true)] (by kernel_rfl) ?_
  refine PO.mk ?_
  change WP _ _ (CA Try.f30 [1, 0, 1]) _ _ _
  refine fk_cut ([(0, .pointer none), (8, .bool true)] : Fr) (by kernel_rfl) (fun a => WP _ _ _ _ a _) (fun lr5 => ?_)
  refine zCt (by kernel_rfl) ?_
  refine zSq (by kernel_rfl) ?_
  refine zPl [0] (by kernel_rfl) ?_
  refine zB0 [] [0] [(2, .pointer none)] (by kernel_rfl) ?_
  refine PO.mk ?_
  change WP _ _ (CA Try.f30 [1, 0, 1, 0, 1]) _ _ _
  refine fk_cut ([(2, .pointer none)] : Fr) (by kernel_rfl) (fun a => WP _ _ _ _ a _) (fun lr6 => ?_)
  refine gi_rt (by kernel_rfl) ?_
  repeat (first | simp only [Exit.inBlock] | simp only [Exit.then])
  refine hi_out [] (.pointer none) [] (by kernel_rfl) (by intro q hq; cases hq) ?_
  exact ⟨.pointer none, [], rfl, ⟨rfl, rfl⟩, h4⟩

set_option maxHeartbeats 4000000 in
theorem tcopy_z (b : Nat)  : HT Try.prog 30 [Value.pointer (some ⟨b, 0, none⟩)] [Cl b [Value.pointer none, Value.map none, Value.slice none 0 0] 76] (fun v K => v = Value.pointer none ∧ K = [Cl b [Value.pointer none, Value.map none, Value.slice none 0 0] 76]) := by
  refine hi_in 39 ([(0, pV b)] : Fr) Try.func30 (by kernel_rfl) Try.ntmps30 rfl rfl ?_
  intro g w0 R h0
  change WP _ _ (CA Try.f30 []) _ _ _
  refine zSq (by kernel_rfl) ?_
  refine zPl [0] (by kernel_rfl) ?_
  refine zB0 [] [0] [(2, .pointer none)] (by kernel_rfl) ?_
  refine PO.mk ?_
  change WP _ _ (CA Try.f30 [1]) _ _ _
  refine fk_cut ([(0, pV b)] : Fr) (by kernel_rfl) (fun a => WP _ _ _ _ a _) (fun lr1 => ?_)
  refine zSq (by kernel_rfl) ?_
  refine zSq (by kernel_rfl) ?_
  refine zPl [0, 1, 2] (by kernel_rfl) ?_
  refine zB0 [1, 2] [0] [(6, pV b)] (by kernel_rfl) ?_
  refine plain_act (i := 1) (by kernel_rfl) ?_
  refine zCl 7 Try.call36 (tvalid_z b) h0 (by kernel_rfl) ?_
  rintro v K w2 (⟨rfl, rfl⟩) h3
  refine ⟨_, rfl, ?_⟩
  have h4 : sat g w2 [Cl b [.pointer none, .map none, .slice none 0 0] 76, R] := h3
  refine zB0 [] [2] [(8, .bool true)] (by kernel_rfl) ?_
  refine PO.mk ?_
  change WP _ _ (CA Try.f30 [1, 0, 1]) _ _ _
  refine fk_cut ([(0, pV b), (8, .bool true)] : Fr) (by kernel_rfl) (fun a => WP _ _ _ _ a _) (fun lr5 => ?_)
  refine zCt (by kernel_rfl) ?_
  refine zSq (by kernel_rfl) ?_
  refine zPl [0] (by kernel_rfl) ?_
  refine zB0 [] [0] [(2, .pointer none)] (by kernel_rfl) ?_
  refine PO.mk ?_
  change WP _ _ (CA Try.f30 [1, 0, 1, 0, 1]) _ _ _
  refine fk_cut ([(2, .pointer none)] : Fr) (by kernel_rfl) (fun a => WP _ _ _ _ a _) (fun lr6 => ?_)
  refine gi_rt (by kernel_rfl) ?_
  repeat (first | simp only [Exit.inBlock] | simp only [Exit.then])
  refine hi_out [] (.pointer none) [] (by kernel_rfl) (by intro q hq; cases hq) ?_
  exact ⟨.pointer none, [Cl b [.pointer none, .map none, .slice none 0 0] 76], rfl, ⟨rfl, rfl⟩, h4⟩

set_option maxHeartbeats 4000000 in
theorem tset_n (vn x y z st why tr nx : Int) (L : List UInt8) : HT Try.prog 17 [Value.pointer none, Value.int IntKind.i64 vn, Value.agg #[Value.int IntKind.i64 x, Value.int IntKind.i64 y, Value.int IntKind.u32 z, Value.int IntKind.i64 st, Value.int IntKind.i64 why, Value.int IntKind.i64 tr, Value.int IntKind.i64 nx, Value.string (St L)]] [] (fun v K => v = Value.int IntKind.i64 1 ∧ K = []) := by
  refine hi_in 62 ([(0, .pointer none), (1, iV vn), (2, .agg #[iV x, iV y, uV z, iV st, iV why, iV tr, iV nx, .string (St L)])] : Fr) Try.func17 (by kernel_rfl) Try.ntmps17 rfl rfl ?_
  intro g w0 R h0
  change WP _ _ (CA Try.f17 []) _ _ _
  refine zSq (by kernel_rfl) ?_
  refine zPl [0, 1] (by kernel_rfl) ?_
  refine plain_act (i := 0) (by kernel_rfl) ?_
  refine an_new (d := 5) (fun xb_ => pV xb_) (fun xb_ => Obj.cells [iV x, iV y, uV z, iV st, iV why, iV tr, iV nx, .string (St L)].toArray 42 (0, 0)) (fun xb_ => by kernel_rfl) (by kernel_rfl) rfl h0 ?_
  intro r1 w2 (h3 : sat g w2 [Cl r1 [iV x, iV y, uV z, iV st, iV why, iV tr, iV nx, .string (St L)] 42, R])
  refine zB0 [] [1] [(6, iV 0)] (by kernel_rfl) ?_
  refine PO.mk ?_
  change WP _ _ (CA Try.f17 [1]) _ _ _
  refine fk_cut ([(0, .pointer none), (1, iV vn), (5, pV r1)] : Fr) (by kernel_rfl) (fun a => WP _ _ _ _ a _) (fun lr4 => ?_)
  refine zSq (by kernel_rfl) ?_
  refine zPl [0, 1, 2, 3, 4, 5, 6, 7, 8] (by kernel_rfl) ?_
  refine zB0 [2, 3, 4, 5, 6, 7, 8] [0, 1] [(13, iV vn), (12, .pointer none)] (by kernel_rfl) ?_
  refine plain_act (i := 2) (by kernel_rfl) ?_
  refine zCl 14 Try.call20 (tget_n vn) h3 (by kernel_rfl) ?_
  rintro v K w5 (⟨rfl, rfl⟩) h6
  refine ⟨_, rfl, ?_⟩
  have h7 : sat g w5 [Cl r1 [iV x, iV y, uV z, iV st, iV why, iV tr, iV nx, .string (St L)] 42, R] := h6
  refine zB0 [6, 7, 8] [3, 4, 5] [(16, iV 1), (15, .agg #[iV 0, iV 0, uV 0, iV 0, iV 0, iV 0, iV 0, .string (St [])]), (11, .tuple #[.agg #[iV 0, iV 0, uV 0, iV 0, iV 0, iV 0, iV 0, .string (St [])], iV 1])] (by kernel_rfl) ?_
  refine plain_act (i := 6) (by kernel_rfl) ?_
  refine an_new (d := 7) (fun xb_ => pV xb_) (fun xb_ => Obj.cells [iV 0, iV 0, uV 0, iV 0, iV 0, iV 0, iV 0, .string (St [])].toArray 42 (0, 0)) (fun xb_ => by kernel_rfl) (by kernel_rfl) rfl h7 ?_
  intro r8 w9 (h10 : sat g w9 [Cl r8 [iV 0, iV 0, uV 0, iV 0, iV 0, iV 0, iV 0, .string (St [])] 42, Cl r1 [iV x, iV y, uV z, iV st, iV why, iV tr, iV nx, .string (St L)] 42, R])
  refine plain_act (i := 7) (by kernel_rfl) ?_
  refine an_store [(0, iV 0), (1, iV 0), (2, uV 0), (3, iV 0), (4, iV 0), (5, iV 0), (6, iV 0), (7, .string (St []))] (cs' := [iV 0, iV 0, uV 0, iV 0, iV 0, iV 0, iV 0, .string (St [])]) (by kernel_rfl) (by kernel_rfl) (allq ⟨⟨by simp, rfl⟩, ⟨by simp, rfl⟩, ⟨by simp, rfl⟩, ⟨by simp, rfl⟩, ⟨by simp, rfl⟩, ⟨by simp, rfl⟩, ⟨by simp, rfl⟩, ⟨by simp, rfl⟩, trivial⟩) rfl h10 ?_
  intro w11 (h12 : sat g w11 [Cl r8 [iV 0, iV 0, uV 0, iV 0, iV 0, iV 0, iV 0, .string (St [])] 42, Cl r1 [iV x, iV y, uV z, iV st, iV why, iV tr, iV nx, .string (St L)] 42, R])
  refine zB0 [] [8] [(8, iV 1)] (by kernel_rfl) ?_
  refine PO.mk ?_
  change WP _ _ (CA Try.f17 [1, 1]) _ _ _
  refine fk_cut ([(0, .pointer none), (1, iV vn), (5, pV r1), (7, pV r8), (8, iV 1)] : Fr) (by kernel_rfl) (fun a => WP _ _ _ _ a _) (fun lr13 => ?_)
  refine zSq (by kernel_rfl) ?_
  refine zSq (by kernel_rfl) ?_
  refine zPl [0, 1] (by kernel_rfl) ?_
  refine zB0 [] [0, 1] [(18, .bool true), (17, iV 1)] (by kernel_rfl) ?_
  refine PO.mk ?_
  change WP _ _ (CA Try.f17 [1, 1, 0, 1]) _ _ _
  refine fk_cut ([(0, .pointer none), (1, iV vn), (5, pV r1), (7, pV r8), (8, iV 1), (18, .bool true)] : Fr) (by kernel_rfl) (fun a => WP _ _ _ _ a _) (fun lr14 => ?_)
  refine zCt (by kernel_rfl) ?_
  refine zSq (by kernel_rfl) ?_
  refine zPl [0, 1] (by kernel_rfl) ?_
  refine zB0 [] [0, 1] [(6, iV 1), (19, iV 1)] (by kernel_rfl) ?_
  refine PO.mk ?_
  change WP _ _ (CA Try.f17 [1, 1, 0, 1, 0, 1]) _ _ _
  refine fk_cut ([(6, iV 1)] : Fr) (by kernel_rfl) (fun a => WP _ _ _ _ a _) (fun lr15 => ?_)
  refine gi_rt (by kernel_rfl) ?_
  repeat (first | simp only [Exit.inBlock] | simp only [Exit.then])
  have h16 : sat g w11 [R] := sat_sel [2] rfl h12
  refine hi_out [] (iV 1) [] (by kernel_rfl) (by intro q hq; cases hq) ?_
  exact ⟨iV 1, [], rfl, ⟨rfl, rfl⟩, h16⟩

set_option maxHeartbeats 4000000 in
theorem tset_z (b : Nat) (vn x y z st why tr nx : Int) (L : List UInt8) : HT Try.prog 17 [Value.pointer (some ⟨b, 0, none⟩), Value.int IntKind.i64 vn, Value.agg #[Value.int IntKind.i64 x, Value.int IntKind.i64 y, Value.int IntKind.u32 z, Value.int IntKind.i64 st, Value.int IntKind.i64 why, Value.int IntKind.i64 tr, Value.int IntKind.i64 nx, Value.string (St L)]] [Cl b [Value.pointer none, Value.map none, Value.slice none 0 0] 76] (fun v K => v = Value.int IntKind.i64 1 ∧ K = [Cl b [Value.pointer none, Value.map none, Value.slice none 0 0] 76]) := by
  refine hi_in 62 ([(0, pV b), (1, iV vn), (2, .agg #[iV x, iV y, uV z, iV st, iV why, iV tr, iV nx, .string (St L)])] : Fr) Try.func17 (by kernel_rfl) Try.ntmps17 rfl rfl ?_
  intro g w0 R h0
  change WP _ _ (CA Try.f17 []) _ _ _
  refine zSq (by kernel_rfl) ?_
  refine zPl [0, 1] (by kernel_rfl) ?_
  refine plain_act (i := 0) (by kernel_rfl) ?_
  refine an_new (d := 5) (fun xb_ => pV xb_) (fun xb_ => Obj.cells [iV x, iV y, uV z, iV st, iV why, iV tr, iV nx, .string (St L)].toArray 42 (0, 0)) (fun xb_ => by kernel_rfl) (by kernel_rfl) rfl h0 ?_
  intro r1 w2 (h3 : sat g w2 [Cl r1 [iV x, iV y, uV z, iV st, iV why, iV tr, iV nx, .string (St L)] 42, Cl b [.pointer none, .map none, .slice none 0 0] 76, R])
  refine zB0 [] [1] [(6, iV 0)] (by kernel_rfl) ?_
  refine PO.mk ?_
  change WP _ _ (CA Try.f17 [1]) _ _ _
  refine fk_cut ([(0, pV b), (1, iV vn), (5, pV r1)] : Fr) (by kernel_rfl) (fun a => WP _ _ _ _ a _) (fun lr4 => ?_)
  refine zSq (by kernel_rfl) ?_
  refine zPl [0, 1, 2, 3, 4, 5, 6, 7, 8] (by kernel_rfl) ?_
  refine zB0 [2, 3, 4, 5, 6, 7, 8] [0, 1] [(13, iV vn), (12, pV b)] (by kernel_rfl) ?_
  have h5 : sat g w2 [Cl b [.pointer none, .map none, .slice none 0 0] 76, Cl r1 [iV x, iV y, uV z, iV st, iV why, iV tr, iV nx, .string (St L)] 42, R] := sat_sel [1, 0, 2] rfl h3
  refine plain_act (i := 2) (by kernel_rfl) ?_
  refine zCl 14 Try.call20 (tget_z b vn) h5 (by kernel_rfl) ?_
  rintro v K w6 (⟨rfl, rfl⟩) h7
  refine ⟨_, rfl, ?_⟩
  have h8 : sat g w6 [Cl b [.pointer none, .map none, .slice none 0 0] 76, Cl r1 [iV x, iV y, uV z, iV st, iV why, iV tr, iV nx, .string (St L)] 42, R] := h7
  refine zB0 [6, 7, 8] [3, 4, 5] [(16, iV 1), (15, .agg #[iV 0, iV 0, uV 0, iV 0, iV 0, iV 0, iV 0, .string (St [])]), (11, .tuple #[.agg #[iV 0, iV 0, uV 0, iV 0, iV 0, iV 0, iV 0, .string (St [])], iV 1])] (by kernel_rfl) ?_
  refine plain_act (i := 6) (by kernel_rfl) ?_
  refine an_new (d := 7) (fun xb_ => pV xb_) (fun xb_ => Obj.cells [iV 0, iV 0, uV 0, iV 0, iV 0, iV 0, iV 0, .string (St [])].toArray 42 (0, 0)) (fun xb_ => by kernel_rfl) (by kernel_rfl) rfl h8 ?_
  intro r9 w10 (h11 : sat g w10 [Cl r9 [iV 0, iV 0, uV 0, iV 0, iV 0, iV 0, iV 0, .string (St [])] 42, Cl b [.pointer none, .map none, .slice none 0 0] 76, Cl r1 [iV x, iV y, uV z, iV st, iV why, iV tr, iV nx, .string (St L)] 42, R])
  refine plain_act (i := 7) (by kernel_rfl) ?_
  refine an_store [(0, iV 0), (1, iV 0), (2, uV 0), (3, iV 0), (4, iV 0), (5, iV 0), (6, iV 0), (7, .string (St []))] (cs' := [iV 0, iV 0, uV 0, iV 0, iV 0, iV 0, iV 0, .string (St [])]) (by kernel_rfl) (by kernel_rfl) (allq ⟨⟨by simp, rfl⟩, ⟨by simp, rfl⟩, ⟨by simp, rfl⟩, ⟨by simp, rfl⟩, ⟨by simp, rfl⟩, ⟨by simp, rfl⟩, ⟨by simp, rfl⟩, ⟨by simp, rfl⟩, trivial⟩) rfl h11 ?_
  intro w12 (h13 : sat g w12 [Cl r9 [iV 0, iV 0, uV 0, iV 0, iV 0, iV 0, iV 0, .string (St [])] 42, Cl b [.pointer none, .map none, .slice none 0 0] 76, Cl r1 [iV x, iV y, uV z, iV st, iV why, iV tr, iV nx, .string (St L)] 42, R])
  refine zB0 [] [8] [(8, iV 1)] (by kernel_rfl) ?_
  refine PO.mk ?_
  change WP _ _ (CA Try.f17 [1, 1]) _ _ _
  refine fk_cut ([(0, pV b), (1, iV vn), (5, pV r1), (7, pV r9), (8, iV 1)] : Fr) (by kernel_rfl) (fun a => WP _ _ _ _ a _) (fun lr14 => ?_)
  refine zSq (by kernel_rfl) ?_
  refine zSq (by kernel_rfl) ?_
  refine zPl [0, 1] (by kernel_rfl) ?_
  refine zB0 [] [0, 1] [(18, .bool true), (17, iV 1)] (by kernel_rfl) ?_
  refine PO.mk ?_
  change WP _ _ (CA Try.f17 [1, 1, 0, 1]) _ _ _
  refine fk_cut ([(0, pV b), (1, iV vn), (5, pV r1), (7, pV r9), (8, iV 1), (18, .bool true)] : Fr) (by kernel_rfl) (fun a => WP _ _ _ _ a _) (fun lr15 => ?_)
  refine zCt (by kernel_rfl) ?_
  refine zSq (by kernel_rfl) ?_
  refine zPl [0, 1] (by kernel_rfl) ?_
  refine zB0 [] [0, 1] [(6, iV 1), (19, iV 1)] (by kernel_rfl) ?_
  refine PO.mk ?_
  change WP _ _ (CA Try.f17 [1, 1, 0, 1, 0, 1]) _ _ _
  refine fk_cut ([(6, iV 1)] : Fr) (by kernel_rfl) (fun a => WP _ _ _ _ a _) (fun lr16 => ?_)
  refine gi_rt (by kernel_rfl) ?_
  repeat (first | simp only [Exit.inBlock] | simp only [Exit.then])
  have h17 : sat g w12 [Cl b [.pointer none, .map none, .slice none 0 0] 76, Cl r9 [iV 0, iV 0, uV 0, iV 0, iV 0, iV 0, iV 0, .string (St [])] 42, Cl r1 [iV x, iV y, uV z, iV st, iV why, iV tr, iV nx, .string (St L)] 42, R] := sat_sel [1, 0, 2, 3] rfl h13
  have h18 : sat g w12 [Cl b [.pointer none, .map none, .slice none 0 0] 76, R] := sat_sel [0, 3] rfl h17
  refine hi_out [] (iV 1) [] (by kernel_rfl) (by intro q hq; cases hq) ?_
  exact ⟨iV 1, [Cl b [.pointer none, .map none, .slice none 0 0] 76], rfl, ⟨rfl, rfl⟩, h18⟩

end Go.Proofs.Ytjjpmehiolejgaa
