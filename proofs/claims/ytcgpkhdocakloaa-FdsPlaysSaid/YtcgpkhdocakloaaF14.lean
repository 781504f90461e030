/- Walks, printed by my generator gen14.py. -/
import Derived.Test.YtcgpkhdocakloaaF9
import Derived.Test.YtcgpkhdocakloaaF11
import Derived.Test.YtcgpkhdocakloaaFdsZ
namespace Go.Proofs.Ytcgpkhdocakloaa

set_option maxHeartbeats 4000000 in
theorem shows_ht (b d n : Nat) (X : Xs) (x y z : Int) (hz0 : 0 ≤ z) (hz1 : z ≤ 4294967295) : HT Try.prog 26 [Value.pointer (some ⟨b, 0, none⟩), Value.pointer (some ⟨d, 0, none⟩), Value.agg #[Value.int IntKind.i64 x, Value.int IntKind.i64 y, Value.int IntKind.u32 z]] [Fd b n X, Dc d n X] (fun v K => v = Value.bool true ∧ K = [Fd b n X, Dc d n X]) := by
  refine hi_in 45 ([(0, .pointer (some ⟨b, 0, none⟩)), (1, .pointer (some ⟨d, 0, none⟩)), (2, .agg #[.int .i64 x, .int .i64 y, .int .u32 z])] : Fr) Try.func26 (by kernel_rfl) Try.ntmps26 rfl rfl ?_
  intro g w0 R h0
  have hb1 := dc_bd (j := 1) h0 rfl
  have hal_ := inS_len 1 (As X) 0; have hxl_ := as_len X; have hD1_ := hb1.1; have hD2_ := hb1.2.2.1
  refine gi_seq (x := CA Try.f26 [0]) (y := CA Try.f26 [1]) (by kernel_rfl) ?_
  refine gi_pln (id := 0) (ops := RA Try.f26 [0]) [0, 1] (by kernel_rfl) (by kernel_rfl) (by kernel_rfl) ?_
  refine plain_act (i := 0) (by kernel_rfl) ?_
  refine an_new (d := 5) (fun xb_ => .pointer (some ⟨xb_, 0, none⟩)) (fun xb_ => Obj.cells [.int .i64 x, .int .i64 y, .int .u32 z].toArray 28 (0, 0)) (fun xb_ => by kernel_rfl) (by kernel_rfl) rfl h0 ?_
  intro r2 w3 (h4 : sat g w3 [Cl r2 [.int .i64 x, .int .i64 y, .int .u32 z] 28, Fd b n X, Dc d n X, R])
  refine plain_batch (rest := []) [⟨1, [], none⟩] (l' := ([(6, .bool false), (5, .pointer (some ⟨r2, 0, none⟩)), (0, .pointer (some ⟨b, 0, none⟩)), (1, .pointer (some ⟨d, 0, none⟩)), (2, .agg #[.int .i64 x, .int .i64 y, .int .u32 z])] : Fr)) (pts' := []) (eqs := []) (by kernel_rfl) trivial (AllC_nil _) ?_
  refine PO.mk ?_
  change WP _ _ (CA Try.f26 [1]) _ _ _
  refine fk_cut ([(0, .pointer (some ⟨b, 0, none⟩)), (1, .pointer (some ⟨d, 0, none⟩)), (2, .agg #[.int .i64 x, .int .i64 y, .int .u32 z]), (5, .pointer (some ⟨r2, 0, none⟩)), (6, .bool false)] : Fr) (by kernel_rfl) (fun a => WP _ _ _ _ a _) (fun lr5 => ?_)
  refine gi_seq (x := CA Try.f26 [1, 0]) (y := CA Try.f26 [1, 1]) (by kernel_rfl) ?_
  refine gi_pln (id := 1) (ops := RA Try.f26 [1, 0]) [0, 1, 2, 3, 4, 5, 6, 7] (by kernel_rfl) (by kernel_rfl) (by kernel_rfl) ?_
  refine plain_batch (rest := [2, 3, 4, 5, 6, 7]) [⟨0, [], none⟩, ⟨1, [.int .i64 x, .int .i64 y, .int .u32 z], none⟩] (l' := ([(13, .agg #[.int .i64 x, .int .i64 y, .int .u32 z]), (12, .pointer (some ⟨b, 0, none⟩)), (0, .pointer (some ⟨b, 0, none⟩)), (1, .pointer (some ⟨d, 0, none⟩)), (2, .agg #[.int .i64 x, .int .i64 y, .int .u32 z]), (5, .pointer (some ⟨r2, 0, none⟩)), (6, .bool false)] : Fr) ++ lr5) (pts' := [(1, ⟨r2, 0, none⟩, .int .i64 x), (1, ⟨r2, 1, none⟩, .int .i64 y), (1, ⟨r2, 2, none⟩, .int .u32 z)]) (eqs := []) (by kernel_rfl) trivial (AllC_cons (sat_cell h4 0 rfl rfl) (AllC_cons (sat_cell h4 0 rfl rfl) (AllC_cons (sat_cell h4 0 rfl rfl) (AllC_nil _)))) ?_
  have h6 : sat g w3 [Fd b n X, Cl r2 [.int .i64 x, .int .i64 y, .int .u32 z] 28, Dc d n X, R] := sat_sel [1, 0, 2, 3] rfl h4
  refine plain_act (i := 2) (by kernel_rfl) ?_
  refine an_call (d := some 14) (f := 13) (args := [.pointer (some ⟨b, 0, none⟩), .agg #[.int .i64 x, .int .i64 y, .int .u32 z]]) (by kernel_rfl) Try.call13 (fnum_ht b n X x y z (by omega) (by omega)) (F := [Cl r2 [.int .i64 x, .int .i64 y, .int .u32 z] 28, Dc d n X, R]) h6 ?_
  rintro v K w7 (⟨rfl, rfl⟩) h8
  refine ⟨_, rfl, ?_⟩
  have h9 : sat g w7 [Fd b n X, Cl r2 [.int .i64 x, .int .i64 y, .int .u32 z] 28, Dc d n X, R] := h8
  refine plain_batch (rest := []) [⟨3, [], none⟩, ⟨4, [], none⟩, ⟨5, [], none⟩, ⟨6, [], none⟩, ⟨7, [], none⟩] (l' := ([(8, .int .i64 ((errA (As X) (x, y, z)))), (7, .int .i64 ((numX X (x, y, z)))), (16, .int .i64 ((errA (As X) (x, y, z)))), (15, .int .i64 ((numX X (x, y, z)))), (11, .tuple #[.int .i64 ((numX X (x, y, z))), .int .i64 ((errA (As X) (x, y, z)))]), (14, .tuple #[.int .i64 ((numX X (x, y, z))), .int .i64 ((errA (As X) (x, y, z)))]), (13, .agg #[.int .i64 x, .int .i64 y, .int .u32 z]), (12, .pointer (some ⟨b, 0, none⟩)), (0, .pointer (some ⟨b, 0, none⟩)), (1, .pointer (some ⟨d, 0, none⟩)), (2, .agg #[.int .i64 x, .int .i64 y, .int .u32 z]), (5, .pointer (some ⟨r2, 0, none⟩)), (6, .bool false)] : Fr) ++ lr5) (pts' := []) (eqs := []) (by kernel_rfl) trivial (AllC_nil _) ?_
  refine PO.mk ?_
  change WP _ _ (CA Try.f26 [1, 1]) _ _ _
  refine fk_cut ([(0, .pointer (some ⟨b, 0, none⟩)), (1, .pointer (some ⟨d, 0, none⟩)), (2, .agg #[.int .i64 x, .int .i64 y, .int .u32 z]), (5, .pointer (some ⟨r2, 0, none⟩)), (6, .bool false), (7, .int .i64 ((numX X (x, y, z)))), (8, .int .i64 ((errA (As X) (x, y, z))))] : Fr) (by kernel_rfl) (fun a => WP _ _ _ _ a _) (fun lr10 => ?_)
  refine gi_seq (x := CA Try.f26 [1, 1, 0]) (y := CA Try.f26 [1, 1, 1]) (by kernel_rfl) ?_
  refine gi_pln (id := 2) (ops := RA Try.f26 [1, 1, 0]) [0, 1, 2, 3, 4, 5, 6, 7] (by kernel_rfl) (by kernel_rfl) (by kernel_rfl) ?_
  refine plain_batch (rest := [2, 3, 4, 5, 6, 7]) [⟨0, [], none⟩, ⟨1, [.int .i64 x, .int .i64 y, .int .u32 z], none⟩] (l' := ([(19, .agg #[.int .i64 x, .int .i64 y, .int .u32 z]), (18, .pointer (some ⟨d, 0, none⟩)), (0, .pointer (some ⟨b, 0, none⟩)), (1, .pointer (some ⟨d, 0, none⟩)), (2, .agg #[.int .i64 x, .int .i64 y, .int .u32 z]), (5, .pointer (some ⟨r2, 0, none⟩)), (6, .bool false), (7, .int .i64 ((numX X (x, y, z)))), (8, .int .i64 ((errA (As X) (x, y, z))))] : Fr) ++ lr10) (pts' := [(1, ⟨r2, 0, none⟩, .int .i64 x), (1, ⟨r2, 1, none⟩, .int .i64 y), (1, ⟨r2, 2, none⟩, .int .u32 z)]) (eqs := []) (by kernel_rfl) trivial (AllC_cons (sat_cell h9 1 rfl rfl) (AllC_cons (sat_cell h9 1 rfl rfl) (AllC_cons (sat_cell h9 1 rfl rfl) (AllC_nil _)))) ?_
  have h11 : sat g w7 [Dc d n X, Fd b n X, Cl r2 [.int .i64 x, .int .i64 y, .int .u32 z] 28, R] := sat_sel [2, 0, 1, 3] rfl h9
  refine plain_act (i := 2) (by kernel_rfl) ?_
  refine an_call (d := some 20) (f := 46) (args := [.pointer (some ⟨d, 0, none⟩), .agg #[.int .i64 x, .int .i64 y, .int .u32 z]]) (by kernel_rfl) Try.call46 (dnum_ht d n X x y z (by omega) (by omega)) (F := [Fd b n X, Cl r2 [.int .i64 x, .int .i64 y, .int .u32 z] 28, R]) h11 ?_
  rintro v K w12 (⟨rfl, rfl⟩) h13
  refine ⟨_, rfl, ?_⟩
  have h14 : sat g w12 [Dc d n X, Fd b n X, Cl r2 [.int .i64 x, .int .i64 y, .int .u32 z] 28, R] := h13
  refine plain_batch (rest := []) [⟨3, [], none⟩, ⟨4, [], none⟩, ⟨5, [], none⟩, ⟨6, [], none⟩, ⟨7, [], none⟩] (l' := ([(10, .int .i64 ((errA (As X) (x, y, z)))), (9, .int .i64 ((numX X (x, y, z)))), (22, .int .i64 ((errA (As X) (x, y, z)))), (21, .int .i64 ((numX X (x, y, z)))), (17, .tuple #[.int .i64 ((numX X (x, y, z))), .int .i64 ((errA (As X) (x, y, z)))]), (20, .tuple #[.int .i64 ((numX X (x, y, z))), .int .i64 ((errA (As X) (x, y, z)))]), (19, .agg #[.int .i64 x, .int .i64 y, .int .u32 z]), (18, .pointer (some ⟨d, 0, none⟩)), (0, .pointer (some ⟨b, 0, none⟩)), (1, .pointer (some ⟨d, 0, none⟩)), (2, .agg #[.int .i64 x, .int .i64 y, .int .u32 z]), (5, .pointer (some ⟨r2, 0, none⟩)), (6, .bool false), (7, .int .i64 ((numX X (x, y, z)))), (8, .int .i64 ((errA (As X) (x, y, z))))] : Fr) ++ lr10) (pts' := []) (eqs := []) (by kernel_rfl) trivial (AllC_nil _) ?_
  refine PO.mk ?_
  change WP _ _ (CA Try.f26 [1, 1, 1]) _ _ _
  refine fk_cut ([(0, .pointer (some ⟨b, 0, none⟩)), (1, .pointer (some ⟨d, 0, none⟩)), (2, .agg #[.int .i64 x, .int .i64 y, .int .u32 z]), (5, .pointer (some ⟨r2, 0, none⟩)), (6, .bool false), (7, .int .i64 ((numX X (x, y, z)))), (8, .int .i64 ((errA (As X) (x, y, z)))), (9, .int .i64 ((numX X (x, y, z)))), (10, .int .i64 ((errA (As X) (x, y, z))))] : Fr) (by kernel_rfl) (fun a => WP _ _ _ _ a _) (fun lr15 => ?_)
  refine gi_seq (x := CA Try.f26 [1, 1, 1, 0]) (y := CA Try.f26 [1, 1, 1, 1]) (by kernel_rfl) ?_
  refine gi_pln (id := 3) (ops := RA Try.f26 [1, 1, 1, 0]) [0, 1, 2, 3, 4, 5, 6, 7, 8, 9, 10, 11, 12, 13, 14, 15, 16, 17, 18, 19, 20, 21, 22] (by kernel_rfl) (by kernel_rfl) (by kernel_rfl) ?_
  refine plain_batch (rest := [10, 11, 12, 13, 14, 15, 16, 17, 18, 19, 20, 21, 22]) [⟨0, [], none⟩, ⟨1, [], none⟩, ⟨2, [], some (.bool true)⟩, ⟨3, [], none⟩, ⟨4, [], none⟩, ⟨5, [], none⟩, ⟨6, [], some (.bool true)⟩, ⟨7, [], none⟩, ⟨8, [], none⟩, ⟨9, [], none⟩] (l' := ([(32, .pointer (some ⟨b, 0, none⟩)), (31, .bool true), (30, .bool true), (29, .bool true), (28, .int .i64 ((errA (As X) (x, y, z)))), (27, .int .i64 ((errA (As X) (x, y, z)))), (26, .bool true), (25, .bool true), (24, .int .i64 ((numX X (x, y, z)))), (23, .int .i64 ((numX X (x, y, z)))), (0, .pointer (some ⟨b, 0, none⟩)), (1, .pointer (some ⟨d, 0, none⟩)), (2, .agg #[.int .i64 x, .int .i64 y, .int .u32 z]), (5, .pointer (some ⟨r2, 0, none⟩)), (6, .bool false), (7, .int .i64 ((numX X (x, y, z)))), (8, .int .i64 ((errA (As X) (x, y, z)))), (9, .int .i64 ((numX X (x, y, z)))), (10, .int .i64 ((errA (As X) (x, y, z))))] : Fr) ++ lr15) (pts' := []) (eqs := [(.bool (((numX X (x, y, z))) == ((numX X (x, y, z)))), .bool true), (.bool (((errA (As X) (x, y, z))) == ((errA (As X) (x, y, z)))), .bool true)]) (by kernel_rfl) ⟨(ov_et (by omega)), (ov_et (by omega)), trivial⟩ (AllC_nil _) ?_
  have h18 : sat g w12 [Fd b n X, Dc d n X, Cl r2 [.int .i64 x, .int .i64 y, .int .u32 z] 28, R] := sat_sel [1, 0, 2, 3] rfl h14
  refine plain_act (i := 10) (by kernel_rfl) ?_
  refine an_call (d := some 33) (f := 17) (args := [.pointer (some ⟨b, 0, none⟩)]) (by kernel_rfl) Try.call17 (fall_ht b n X) (F := [Dc d n X, Cl r2 [.int .i64 x, .int .i64 y, .int .u32 z] 28, R]) h18 ?_
  rintro v K w19 (⟨p16, c17, rfl, rfl⟩) h20
  refine ⟨_, rfl, ?_⟩
  have h21 : sat g w19 [Fd b n X, Sl 28 3 p16 (((inS 1 (As X) 0).length)) c17 (fl eO (allX X)), Dc d n X, Cl r2 [.int .i64 x, .int .i64 y, .int .u32 z] 28, R] := h20
  refine plain_batch (rest := [12, 13, 14, 15, 16, 17, 18, 19, 20, 21, 22]) [⟨11, [], none⟩] (l' := ([(34, .pointer (some ⟨d, 0, none⟩)), (33, .slice p16 (((inS 1 (As X) 0).length)) c17), (32, .pointer (some ⟨b, 0, none⟩)), (31, .bool true), (30, .bool true), (29, .bool true), (28, .int .i64 ((errA (As X) (x, y, z)))), (27, .int .i64 ((errA (As X) (x, y, z)))), (26, .bool true), (25, .bool true), (24, .int .i64 ((numX X (x, y, z)))), (23, .int .i64 ((numX X (x, y, z)))), (0, .pointer (some ⟨b, 0, none⟩)), (1, .pointer (some ⟨d, 0, none⟩)), (2, .agg #[.int .i64 x, .int .i64 y, .int .u32 z]), (5, .pointer (some ⟨r2, 0, none⟩)), (6, .bool false), (7, .int .i64 ((numX X (x, y, z)))), (8, .int .i64 ((errA (As X) (x, y, z)))), (9, .int .i64 ((numX X (x, y, z)))), (10, .int .i64 ((errA (As X) (x, y, z))))] : Fr) ++ lr15) (pts' := []) (eqs := []) (by kernel_rfl) trivial (AllC_nil _) ?_
  have h24 : sat g w19 [Dc d n X, Fd b n X, Sl 28 3 p16 (((inS 1 (As X) 0).length)) c17 (fl eO (allX X)), Cl r2 [.int .i64 x, .int .i64 y, .int .u32 z] 28, R] := sat_sel [2, 0, 1, 3, 4] rfl h21
  refine plain_act (i := 12) (by kernel_rfl) ?_
  refine an_call (d := some 35) (f := 21) (args := [.pointer (some ⟨d, 0, none⟩)]) (by kernel_rfl) Try.call21 (dall_ht d n X) (F := [Fd b n X, Sl 28 3 p16 (((inS 1 (As X) 0).length)) c17 (fl eO (allX X)), Cl r2 [.int .i64 x, .int .i64 y, .int .u32 z] 28, R]) h24 ?_
  rintro v K w25 (⟨p22, c23, rfl, rfl⟩) h26
  refine ⟨_, rfl, ?_⟩
  have h27 : sat g w25 [Dc d n X, Sl 28 3 p22 (((inS 1 (As X) 0).length)) c23 (fl eO (allX X)), Fd b n X, Sl 28 3 p16 (((inS 1 (As X) 0).length)) c17 (fl eO (allX X)), Cl r2 [.int .i64 x, .int .i64 y, .int .u32 z] 28, R] := h26
  have h28 : sat g w25 [Sl 28 3 p16 (((inS 1 (As X) 0).length)) c17 (fl eO (allX X)), Sl 28 3 p22 (((inS 1 (As X) 0).length)) c23 (fl eO (allX X)), Dc d n X, Fd b n X, Cl r2 [.int .i64 x, .int .i64 y, .int .u32 z] 28, R] := sat_sel [3, 1, 0, 2, 4, 5] rfl h27
  refine plain_act (i := 13) (by kernel_rfl) ?_
  refine an_call (d := some 36) (f := 16) (args := [.slice p16 (((inS 1 (As X) 0).length)) c17, .slice p22 (((inS 1 (As X) 0).length)) c23]) (by kernel_rfl) Try.call16 (same_eq (Sl 28 3 p16 (((inS 1 (As X) 0).length)) c17 (fl eO (allX X))) (Sl 28 3 p22 (((inS 1 (As X) 0).length)) c23 (fl eO (allX X))) p16 p22 (((inS 1 (As X) 0).length)) c17 c23 (allX X) (gv_sl _ _ _) (gv_sl _ _ _) (by first | rfl | exact allX_len X) (by omega)) (F := [Dc d n X, Fd b n X, Cl r2 [.int .i64 x, .int .i64 y, .int .u32 z] 28, R]) h28 ?_
  rintro v K w29 (⟨rfl, rfl⟩) h30
  refine ⟨_, rfl, ?_⟩
  have h31 : sat g w29 [Sl 28 3 p16 (((inS 1 (As X) 0).length)) c17 (fl eO (allX X)), Sl 28 3 p22 (((inS 1 (As X) 0).length)) c23 (fl eO (allX X)), Dc d n X, Fd b n X, Cl r2 [.int .i64 x, .int .i64 y, .int .u32 z] 28, R] := h30
  refine plain_batch (rest := [17, 18, 19, 20, 21, 22]) [⟨14, [], none⟩, ⟨15, [], none⟩, ⟨16, [], none⟩] (l' := ([(39, .pointer (some ⟨b, 0, none⟩)), (38, .bool true), (37, .bool true), (36, .bool true), (35, .slice p22 (((inS 1 (As X) 0).length)) c23), (34, .pointer (some ⟨d, 0, none⟩)), (33, .slice p16 (((inS 1 (As X) 0).length)) c17), (32, .pointer (some ⟨b, 0, none⟩)), (31, .bool true), (30, .bool true), (29, .bool true), (28, .int .i64 ((errA (As X) (x, y, z)))), (27, .int .i64 ((errA (As X) (x, y, z)))), (26, .bool true), (25, .bool true), (24, .int .i64 ((numX X (x, y, z)))), (23, .int .i64 ((numX X (x, y, z)))), (0, .pointer (some ⟨b, 0, none⟩)), (1, .pointer (some ⟨d, 0, none⟩)), (2, .agg #[.int .i64 x, .int .i64 y, .int .u32 z]), (5, .pointer (some ⟨r2, 0, none⟩)), (6, .bool false), (7, .int .i64 ((numX X (x, y, z)))), (8, .int .i64 ((errA (As X) (x, y, z)))), (9, .int .i64 ((numX X (x, y, z)))), (10, .int .i64 ((errA (As X) (x, y, z))))] : Fr) ++ lr15) (pts' := []) (eqs := []) (by kernel_rfl) trivial (AllC_nil _) ?_
  refine fk_cut ([(39, .pointer (some ⟨b, 0, none⟩)), (38, .bool true), (0, .pointer (some ⟨b, 0, none⟩)), (1, .pointer (some ⟨d, 0, none⟩)), (2, .agg #[.int .i64 x, .int .i64 y, .int .u32 z]), (5, .pointer (some ⟨r2, 0, none⟩)), (6, .bool false), (7, .int .i64 ((numX X (x, y, z)))), (8, .int .i64 ((errA (As X) (x, y, z)))), (9, .int .i64 ((numX X (x, y, z)))), (10, .int .i64 ((errA (As X) (x, y, z))))] : Fr) (by kernel_rfl) (fun a => PO _ _ _ _ a _) (fun lr32 => ?_)
  have h33 : sat g w29 [Fd b n X, Sl 28 3 p16 (((inS 1 (As X) 0).length)) c17 (fl eO (allX X)), Sl 28 3 p22 (((inS 1 (As X) 0).length)) c23 (fl eO (allX X)), Dc d n X, Cl r2 [.int .i64 x, .int .i64 y, .int .u32 z] 28, R] := sat_sel [3, 0, 1, 2, 4, 5] rfl h31
  refine plain_act (i := 17) (by kernel_rfl) ?_
  refine an_call (d := some 40) (f := 19) (args := [.pointer (some ⟨b, 0, none⟩)]) (by kernel_rfl) Try.call19 (flen_ht b n X) (F := [Sl 28 3 p16 (((inS 1 (As X) 0).length)) c17 (fl eO (allX X)), Sl 28 3 p22 (((inS 1 (As X) 0).length)) c23 (fl eO (allX X)), Dc d n X, Cl r2 [.int .i64 x, .int .i64 y, .int .u32 z] 28, R]) h33 ?_
  rintro v K w34 (⟨rfl, rfl⟩) h35
  refine ⟨_, rfl, ?_⟩
  have h36 : sat g w34 [Fd b n X, Sl 28 3 p16 (((inS 1 (As X) 0).length)) c17 (fl eO (allX X)), Sl 28 3 p22 (((inS 1 (As X) 0).length)) c23 (fl eO (allX X)), Dc d n X, Cl r2 [.int .i64 x, .int .i64 y, .int .u32 z] 28, R] := h35
  refine plain_batch (rest := [19, 20, 21, 22]) [⟨18, [], none⟩] (l' := ([(41, .pointer (some ⟨d, 0, none⟩)), (40, .int .i64 ((((inS 1 (As X) 0).length : Nat) : Int))), (39, .pointer (some ⟨b, 0, none⟩)), (38, .bool true), (0, .pointer (some ⟨b, 0, none⟩)), (1, .pointer (some ⟨d, 0, none⟩)), (2, .agg #[.int .i64 x, .int .i64 y, .int .u32 z]), (5, .pointer (some ⟨r2, 0, none⟩)), (6, .bool false), (7, .int .i64 ((numX X (x, y, z)))), (8, .int .i64 ((errA (As X) (x, y, z)))), (9, .int .i64 ((numX X (x, y, z)))), (10, .int .i64 ((errA (As X) (x, y, z))))] : Fr) ++ lr32) (pts' := []) (eqs := []) (by kernel_rfl) trivial (AllC_nil _) ?_
  have h37 : sat g w34 [Dc d n X, Fd b n X, Sl 28 3 p16 (((inS 1 (As X) 0).length)) c17 (fl eO (allX X)), Sl 28 3 p22 (((inS 1 (As X) 0).length)) c23 (fl eO (allX X)), Cl r2 [.int .i64 x, .int .i64 y, .int .u32 z] 28, R] := sat_sel [3, 0, 1, 2, 4, 5] rfl h36
  refine plain_act (i := 19) (by kernel_rfl) ?_
  refine an_call (d := some 42) (f := 47) (args := [.pointer (some ⟨d, 0, none⟩)]) (by kernel_rfl) Try.call47 (dlen_ht d n X) (F := [Fd b n X, Sl 28 3 p16 (((inS 1 (As X) 0).length)) c17 (fl eO (allX X)), Sl 28 3 p22 (((inS 1 (As X) 0).length)) c23 (fl eO (allX X)), Cl r2 [.int .i64 x, .int .i64 y, .int .u32 z] 28, R]) h37 ?_
  rintro v K w38 (⟨rfl, rfl⟩) h39
  refine ⟨_, rfl, ?_⟩
  have h40 : sat g w38 [Dc d n X, Fd b n X, Sl 28 3 p16 (((inS 1 (As X) 0).length)) c17 (fl eO (allX X)), Sl 28 3 p22 (((inS 1 (As X) 0).length)) c23 (fl eO (allX X)), Cl r2 [.int .i64 x, .int .i64 y, .int .u32 z] 28, R] := h39
  refine plain_batch (rest := []) [⟨20, [], some (.bool true)⟩, ⟨21, [], none⟩, ⟨22, [], none⟩] (l' := ([(6, .bool true), (44, .bool true), (43, .bool true), (42, .int .i64 ((((inS 1 (As X) 0).length : Nat) : Int))), (41, .pointer (some ⟨d, 0, none⟩)), (40, .int .i64 ((((inS 1 (As X) 0).length : Nat) : Int))), (39, .pointer (some ⟨b, 0, none⟩)), (38, .bool true), (0, .pointer (some ⟨b, 0, none⟩)), (1, .pointer (some ⟨d, 0, none⟩)), (2, .agg #[.int .i64 x, .int .i64 y, .int .u32 z]), (5, .pointer (some ⟨r2, 0, none⟩)), (6, .bool false), (7, .int .i64 ((numX X (x, y, z)))), (8, .int .i64 ((errA (As X) (x, y, z)))), (9, .int .i64 ((numX X (x, y, z)))), (10, .int .i64 ((errA (As X) (x, y, z))))] : Fr) ++ lr32) (pts' := []) (eqs := [(.bool (((((inS 1 (As X) 0).length : Nat) : Int)) == ((((inS 1 (As X) 0).length : Nat) : Int))), .bool true)]) (by kernel_rfl) ⟨(ov_et (by omega)), trivial⟩ (AllC_nil _) ?_
  refine PO.mk ?_
  change WP _ _ (CA Try.f26 [1, 1, 1, 1]) _ _ _
  refine fk_cut ([(0, .pointer (some ⟨b, 0, none⟩)), (1, .pointer (some ⟨d, 0, none⟩)), (2, .agg #[.int .i64 x, .int .i64 y, .int .u32 z]), (5, .pointer (some ⟨r2, 0, none⟩)), (6, .bool true), (7, .int .i64 ((numX X (x, y, z)))), (8, .int .i64 ((errA (As X) (x, y, z)))), (9, .int .i64 ((numX X (x, y, z)))), (10, .int .i64 ((errA (As X) (x, y, z))))] : Fr) (by kernel_rfl) (fun a => WP _ _ _ _ a _) (fun lr41 => ?_)
  refine gi_rt (by kernel_rfl) ?_
  repeat (first | simp only [Exit.inBlock] | simp only [Exit.then])
  have h42 : sat g w38 [Fd b n X, Dc d n X, Sl 28 3 p16 (((inS 1 (As X) 0).length)) c17 (fl eO (allX X)), Sl 28 3 p22 (((inS 1 (As X) 0).length)) c23 (fl eO (allX X)), Cl r2 [.int .i64 x, .int .i64 y, .int .u32 z] 28, R] := sat_sel [1, 0, 2, 3, 4, 5] rfl h40
  have h43 : sat g w38 [Fd b n X, Dc d n X, R] := sat_sel [0, 1, 5] rfl h42
  refine hi_out [] (.bool true) [] (by kernel_rfl) (by intro q hq; cases hq) ?_
  exact ⟨.bool true, [Fd b n X, Dc d n X], rfl, ⟨rfl, rfl⟩, h43⟩

end Go.Proofs.Ytcgpkhdocakloaa
