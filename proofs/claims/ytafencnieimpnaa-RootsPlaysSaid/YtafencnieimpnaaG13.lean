/- Walks, printed by my generator gen14.py. -/
import Derived.Test.YtafencnieimpnaaRtsR
namespace Go.Proofs.Ytafencnieimpnaa

set_option maxHeartbeats 4000000 in
theorem rvalid_ht (b : Nat) (p : Option Addr) (n c : Nat) : HT Try.prog 41 [Value.pointer (some ⟨b, 0, none⟩)] [Cl b [Value.bool true, Value.slice p n c] 65] (fun v K => v = Value.bool true ∧ K = [Cl b [.bool true, .slice p n c] 65]) := by
  refine ht_in 11 [(0, Value.pointer (some ⟨b, 0, none⟩))] Try.func41 (by kernel_rfl) Try.ntmps41 rfl rfl ?_
  intro g w0 R h0
  refine go_seq (x := CA Try.f41 [0]) (y := CA Try.f41 [1]) (by kernel_rfl) ?_
  refine go_pln (id := 0) (ops := RA Try.f41 [0]) [0] (by kernel_rfl) (by kernel_rfl) ?_
  refine plain_batch (rest := []) [⟨0, [], none⟩] (l' := [(2, Value.bool false), (0, Value.pointer (some ⟨b, 0, none⟩))]) (pts' := []) (eqs := []) (by kernel_rfl) trivial (AllC_nil _) ?_
  change Code.wp _ (CA Try.f41 [1]) _ _ _
  refine fr_cut [(0, Value.pointer (some ⟨b, 0, none⟩)), (2, Value.bool false)] ⟨rfl, rfl, trivial⟩ (fun a => Code.wp _ _ _ a _) (fun lr1 => ?_)
  refine go_seq (x := CA Try.f41 [1, 0]) (y := CA Try.f41 [1, 1]) (by kernel_rfl) ?_
  refine go_pln (id := 1) (ops := RA Try.f41 [1, 0]) [0, 1, 2, 3, 4, 5, 6, 7, 8] (by kernel_rfl) (by kernel_rfl) ?_
  refine plain_batch (rest := []) [⟨0, [], none⟩, ⟨1, [], none⟩, ⟨2, [], none⟩, ⟨3, [], none⟩, ⟨4, [], none⟩, ⟨5, [], none⟩, ⟨6, [Value.bool true], none⟩, ⟨7, [], none⟩, ⟨8, [], none⟩] (l' := [(2, Value.bool true), (10, Value.bool true), (9, Value.bool true), (8, Value.pointer (some ⟨b, 0, none⟩)), (7, Value.pointer (some ⟨b, 0, none⟩)), (6, Value.pointer (some ⟨b, 0, none⟩)), (5, Value.bool true), (4, Value.bool true), (3, Value.pointer (some ⟨b, 0, none⟩)), (0, Value.pointer (some ⟨b, 0, none⟩)), (2, Value.bool false)] ++ lr1) (pts' := [(6, ⟨b, 0, none⟩, Value.bool true)]) (eqs := []) (by kernel_rfl) trivial (AllC_cons (sat_cell h0 0 rfl rfl) (AllC_nil _)) ?_
  change Code.wp _ (CA Try.f41 [1, 1]) _ _ _
  refine fr_cut [(0, Value.pointer (some ⟨b, 0, none⟩)), (2, Value.bool true)] ⟨rfl, rfl, trivial⟩ (fun a => Code.wp _ _ _ a _) (fun lr2 => ?_)
  refine go_rt (by kernel_rfl) ?_
  try simp only [Exit.inBlock, Exit.then]
  refine ht_out [] (Value.bool true) [] (by kernel_rfl) (by intro q hq; cases hq) ?_
  exact ⟨Value.bool true, [Cl b [Value.bool true, Value.slice p n c] 65], rfl, ⟨rfl, rfl⟩, h0⟩

set_option maxHeartbeats 4000000 in
theorem rnew_ht  : HT Try.prog 24 [] [] (fun v K => ∃ b : Nat, v = Value.pointer (some ⟨b, 0, none⟩) ∧ K = [RStk b []]) := by
  refine ht_in 3 [] Try.func24 (by kernel_rfl) Try.ntmps24 rfl rfl ?_
  intro g w0 R h0
  refine go_seq (x := CA Try.f24 [0]) (y := CA Try.f24 [1]) (by kernel_rfl) ?_
  refine go_pln (id := 0) (ops := RA Try.f24 [0]) [0] (by kernel_rfl) (by kernel_rfl) ?_
  refine plain_batch (rest := []) [⟨0, [], none⟩] (l' := [(0, Value.pointer none)]) (pts' := []) (eqs := []) (by kernel_rfl) trivial (AllC_nil _) ?_
  change Code.wp _ (CA Try.f24 [1]) _ _ _
  refine fr_cut [(0, Value.pointer none)] ⟨rfl, trivial⟩ (fun a => Code.wp _ _ _ a _) (fun lr1 => ?_)
  refine go_seq (x := CA Try.f24 [1, 0]) (y := CA Try.f24 [1, 1]) (by kernel_rfl) ?_
  refine go_pln (id := 1) (ops := RA Try.f24 [1, 0]) [0, 1, 2] (by kernel_rfl) (by kernel_rfl) ?_
  refine plain_batch (rest := [1, 2]) [⟨0, [], none⟩] (l' := [(1, Value.agg #[Value.bool true, Value.slice none 0 0]), (0, Value.pointer none)] ++ lr1) (pts' := []) (eqs := []) (by kernel_rfl) trivial (AllC_nil _) ?_
  refine plain_act (i := 1) (by kernel_rfl) ?_
  refine an_new (d := 2) (fun xb_ => Value.pointer (some ⟨xb_, 0, none⟩)) (fun xb_ => Obj.cells [Value.bool true, Value.slice none 0 0].toArray 65 (0, 0)) (fun xb_ => by kernel_rfl) (by kernel_rfl) rfl h0 ?_
  intro r2 w3 (h4 : sat g w3 [Cl r2 [Value.bool true, Value.slice none 0 0] 65, R])
  refine plain_batch (rest := []) [⟨2, [], none⟩] (l' := [(0, Value.pointer (some ⟨r2, 0, none⟩)), (2, Value.pointer (some ⟨r2, 0, none⟩)), (1, Value.agg #[Value.bool true, Value.slice none 0 0]), (0, Value.pointer none)] ++ lr1) (pts' := []) (eqs := []) (by kernel_rfl) trivial (AllC_nil _) ?_
  change Code.wp _ (CA Try.f24 [1, 1]) _ _ _
  refine fr_cut [(0, Value.pointer (some ⟨r2, 0, none⟩))] ⟨rfl, trivial⟩ (fun a => Code.wp _ _ _ a _) (fun lr5 => ?_)
  refine go_rt (by kernel_rfl) ?_
  have h6 : sat g w3 [Sl 25 2 none 0 0 (fl eR ([])), Cl r2 [Value.bool true, Value.slice none 0 0] 65, R] := sl_nil 25 2 h4
  have h7 : sat g w3 [Cl r2 [Value.bool true, Value.slice none 0 0] 65, Sl 25 2 none 0 0 (fl eR ([])), R] := sat_sel [1, 0, 2] rfl h6
  have h8 : sat g w3 [RStk r2 [], R] := rstk_close (n := 0) h7 rfl
  try simp only [Exit.inBlock, Exit.then]
  refine ht_out [] (Value.pointer (some ⟨r2, 0, none⟩)) [] (by kernel_rfl) (by intro q hq; cases hq) ?_
  exact ⟨Value.pointer (some ⟨r2, 0, none⟩), [RStk r2 []], rfl, ⟨r2, rfl, rfl⟩, h8⟩

set_option maxHeartbeats 4000000 in
theorem rlen_n (b n : Nat) (L : List Rf) (hn : L.length = n) : HT Try.prog 32 [Value.pointer (some ⟨b, 0, none⟩)] [RStk b L] (fun v K => v = Value.int .i64 (n : Int) ∧ K = [RStk b L]) := by
  refine ht_in 11 [(0, Value.pointer (some ⟨b, 0, none⟩))] Try.func32 (by kernel_rfl) Try.ntmps32 rfl rfl ?_
  intro g w0 R h0
  obtain ⟨p1, n2, c3, hn4, h5⟩ := rstk_open h0
  have h6 : sat g w0 [Sl 25 2 p1 n2 c3 (fl eR L), Cl b [Value.bool true, Value.slice p1 n2 c3] 65, R] := sat_sel [1, 0, 2] rfl h5
  obtain ⟨hc7, hc8⟩ := sl_le h6
  refine go_seq (x := CA Try.f32 [0]) (y := CA Try.f32 [1]) (by kernel_rfl) ?_
  refine go_pln (id := 0) (ops := RA Try.f32 [0]) [0] (by kernel_rfl) (by kernel_rfl) ?_
  refine plain_batch (rest := []) [⟨0, [], none⟩] (l' := [(2, Value.int IntKind.i64 0), (0, Value.pointer (some ⟨b, 0, none⟩))]) (pts' := []) (eqs := []) (by kernel_rfl) trivial (AllC_nil _) ?_
  change Code.wp _ (CA Try.f32 [1]) _ _ _
  refine fr_cut [(0, Value.pointer (some ⟨b, 0, none⟩)), (2, Value.int IntKind.i64 0)] ⟨rfl, rfl, trivial⟩ (fun a => Code.wp _ _ _ a _) (fun lr9 => ?_)
  refine go_seq (x := CA Try.f32 [1, 0]) (y := CA Try.f32 [1, 1]) (by kernel_rfl) ?_
  refine go_seq (x := CA Try.f32 [1, 0, 0]) (y := CA Try.f32 [1, 0, 1]) (by kernel_rfl) ?_
  refine go_pln (id := 1) (ops := RA Try.f32 [1, 0, 0]) [0, 1, 2] (by kernel_rfl) (by kernel_rfl) ?_
  refine plain_batch (rest := [1, 2]) [⟨0, [], none⟩] (l' := [(3, Value.pointer (some ⟨b, 0, none⟩)), (0, Value.pointer (some ⟨b, 0, none⟩)), (2, Value.int IntKind.i64 0)] ++ lr9) (pts' := []) (eqs := []) (by kernel_rfl) trivial (AllC_nil _) ?_
  have h10 : sat g w0 [Cl b [Value.bool true, Value.slice p1 n2 c3] 65, Sl 25 2 p1 n2 c3 (fl eR L), R] := sat_sel [1, 0, 2] rfl h6
  refine plain_act (i := 1) (by kernel_rfl) ?_
  refine an_call (d := some 4) (f := 41) (args := [Value.pointer (some ⟨b, 0, none⟩)]) (by kernel_rfl) Try.call41 (rvalid_ht b p1 n2 c3) (F := [Sl 25 2 p1 n2 c3 (fl eR L), R]) h10 ?_
  rintro v K w11 (⟨rfl, rfl⟩) h12
  refine ⟨_, rfl, ?_⟩
  have h13 : sat g w11 [Cl b [Value.bool true, Value.slice p1 n2 c3] 65, Sl 25 2 p1 n2 c3 (fl eR L), R] := h12
  refine plain_batch (rest := []) [⟨2, [], none⟩] (l' := [(5, Value.bool false), (4, Value.bool true), (3, Value.pointer (some ⟨b, 0, none⟩)), (0, Value.pointer (some ⟨b, 0, none⟩)), (2, Value.int IntKind.i64 0)] ++ lr9) (pts' := []) (eqs := []) (by kernel_rfl) trivial (AllC_nil _) ?_
  change Code.wp _ (CA Try.f32 [1, 0, 1]) _ _ _
  refine fr_cut [(0, Value.pointer (some ⟨b, 0, none⟩)), (2, Value.int IntKind.i64 0), (5, Value.bool false)] ⟨rfl, rfl, rfl, trivial⟩ (fun a => Code.wp _ _ _ a _) (fun lr14 => ?_)
  refine go_cnd (x := (Operand.tmp 5)) (s := CA Try.f32 [1, 0, 1, 0]) (t := CA Try.f32 [1, 0, 1, 1]) false (by kernel_rfl) (by kernel_rfl) ?_
  change Code.wp _ (CA Try.f32 [1, 0, 1, 1]) _ _ _
  refine go_skp (by kernel_rfl) ?_
  change Code.wp _ (CA Try.f32 [1, 1]) _ _ _
  refine go_seq (x := CA Try.f32 [1, 1, 0]) (y := CA Try.f32 [1, 1, 1]) (by kernel_rfl) ?_
  refine go_pln (id := 3) (ops := RA Try.f32 [1, 1, 0]) [0, 1, 2, 3, 4, 5] (by kernel_rfl) (by kernel_rfl) ?_
  refine plain_batch (rest := []) [⟨0, [], none⟩, ⟨1, [], none⟩, ⟨2, [], none⟩, ⟨3, [Value.slice p1 n2 c3], none⟩, ⟨4, [], none⟩, ⟨5, [], none⟩] (l' := [(2, Value.int IntKind.i64 (((n2 : Nat) : Int))), (10, Value.int IntKind.i64 (((n2 : Nat) : Int))), (9, Value.slice p1 n2 c3), (8, Value.pointer (some ⟨b, 1, none⟩)), (7, Value.pointer (some ⟨b, 0, none⟩)), (6, Value.pointer (some ⟨b, 0, none⟩)), (0, Value.pointer (some ⟨b, 0, none⟩)), (2, Value.int IntKind.i64 0), (5, Value.bool false)] ++ lr14) (pts' := [(3, ⟨b, 1, none⟩, Value.slice p1 n2 c3)]) (eqs := []) (by kernel_rfl) trivial (AllC_cons (sat_cell h13 0 rfl rfl) (AllC_nil _)) ?_
  change Code.wp _ (CA Try.f32 [1, 1, 1]) _ _ _
  refine fr_cut [(0, Value.pointer (some ⟨b, 0, none⟩)), (2, Value.int IntKind.i64 (((n2 : Nat) : Int))), (5, Value.bool false)] ⟨rfl, rfl, rfl, trivial⟩ (fun a => Code.wp _ _ _ a _) (fun lr15 => ?_)
  refine go_rt (by kernel_rfl) ?_
  have hl17 := fl_n eR_ok (by decide) (sat_sel [1] rfl h13)
  have h16 : sat g w11 [RStk b L, R] := rstk_close h13 hl17
  try simp only [Exit.inBlock, Exit.then]
  refine ht_out [] (Value.int IntKind.i64 (((n2 : Nat) : Int))) [] (by kernel_rfl) (by intro q hq; cases hq) ?_
  exact ⟨Value.int IntKind.i64 (((n2 : Nat) : Int)), [RStk b L], rfl, ⟨ov_int (by omega), rfl⟩, h16⟩

set_option maxHeartbeats 4000000 in
theorem rget_n (b n : Nat) (L : List Rf) (hn : L.length = n) (i : Nat) (r : Rf) (z : Int) (hz : z = (i : Int)) (hi : i < n) (hr : L[i]? = some r) : HT Try.prog 29 [Value.pointer (some ⟨b, 0, none⟩), Value.int IntKind.i64 z] [RStk b L] (fun v K => v = Value.tuple #[Value.agg #[Value.int .i64 r.1, Value.int .u32 r.2], Value.int .i64 0] ∧ K = [RStk b L]) := by
  refine ht_in 29 [(0, Value.pointer (some ⟨b, 0, none⟩)), (1, Value.int IntKind.i64 z)] Try.func29 (by kernel_rfl) Try.ntmps29 rfl rfl ?_
  intro g w0 R h0
  obtain ⟨p1, n2, c3, hn4, h5⟩ := rstk_open h0
  have h6 : sat g w0 [Sl 25 2 p1 n2 c3 (fl eR L), Cl b [Value.bool true, Value.slice p1 n2 c3] 65, R] := sat_sel [1, 0, 2] rfl h5
  obtain ⟨hc7, hc8⟩ := sl_le h6
  refine go_seq (x := CA Try.f29 [0]) (y := CA Try.f29 [1]) (by kernel_rfl) ?_
  refine go_pln (id := 0) (ops := RA Try.f29 [0]) [0, 1] (by kernel_rfl) (by kernel_rfl) ?_
  refine plain_act (i := 0) (by kernel_rfl) ?_
  refine an_new (d := 4) (fun xb_ => Value.pointer (some ⟨xb_, 0, none⟩)) (fun xb_ => Obj.cells [Value.int IntKind.i64 0, Value.int IntKind.u32 0].toArray 25 (0, 0)) (fun xb_ => by kernel_rfl) (by kernel_rfl) rfl h6 ?_
  intro r9 w10 (h11 : sat g w10 [Cl r9 [Value.int IntKind.i64 0, Value.int IntKind.u32 0] 25, Sl 25 2 p1 n2 c3 (fl eR L), Cl b [Value.bool true, Value.slice p1 n2 c3] 65, R])
  refine plain_batch (rest := []) [⟨1, [], none⟩] (l' := [(5, Value.int IntKind.i64 0), (4, Value.pointer (some ⟨r9, 0, none⟩)), (0, Value.pointer (some ⟨b, 0, none⟩)), (1, Value.int IntKind.i64 z)]) (pts' := []) (eqs := []) (by kernel_rfl) trivial (AllC_nil _) ?_
  change Code.wp _ (CA Try.f29 [1]) _ _ _
  refine fr_cut [(0, Value.pointer (some ⟨b, 0, none⟩)), (1, Value.int IntKind.i64 z), (4, Value.pointer (some ⟨r9, 0, none⟩)), (5, Value.int IntKind.i64 0)] ⟨rfl, rfl, rfl, rfl, trivial⟩ (fun a => Code.wp _ _ _ a _) (fun lr12 => ?_)
  refine go_seq (x := CA Try.f29 [1, 0]) (y := CA Try.f29 [1, 1]) (by kernel_rfl) ?_
  refine go_seq (x := CA Try.f29 [1, 0, 0]) (y := CA Try.f29 [1, 0, 1]) (by kernel_rfl) ?_
  refine go_pln (id := 1) (ops := RA Try.f29 [1, 0, 0]) [0, 1, 2] (by kernel_rfl) (by kernel_rfl) ?_
  refine plain_batch (rest := [1, 2]) [⟨0, [], none⟩] (l' := [(6, Value.pointer (some ⟨b, 0, none⟩)), (0, Value.pointer (some ⟨b, 0, none⟩)), (1, Value.int IntKind.i64 z), (4, Value.pointer (some ⟨r9, 0, none⟩)), (5, Value.int IntKind.i64 0)] ++ lr12) (pts' := []) (eqs := []) (by kernel_rfl) trivial (AllC_nil _) ?_
  have h13 : sat g w10 [Cl b [Value.bool true, Value.slice p1 n2 c3] 65, Cl r9 [Value.int IntKind.i64 0, Value.int IntKind.u32 0] 25, Sl 25 2 p1 n2 c3 (fl eR L), R] := sat_sel [2, 0, 1, 3] rfl h11
  refine plain_act (i := 1) (by kernel_rfl) ?_
  refine an_call (d := some 7) (f := 41) (args := [Value.pointer (some ⟨b, 0, none⟩)]) (by kernel_rfl) Try.call41 (rvalid_ht b p1 n2 c3) (F := [Cl r9 [Value.int IntKind.i64 0, Value.int IntKind.u32 0] 25, Sl 25 2 p1 n2 c3 (fl eR L), R]) h13 ?_
  rintro v K w14 (⟨rfl, rfl⟩) h15
  refine ⟨_, rfl, ?_⟩
  have h16 : sat g w14 [Cl b [Value.bool true, Value.slice p1 n2 c3] 65, Cl r9 [Value.int IntKind.i64 0, Value.int IntKind.u32 0] 25, Sl 25 2 p1 n2 c3 (fl eR L), R] := h15
  refine plain_batch (rest := []) [⟨2, [], none⟩] (l' := [(8, Value.bool false), (7, Value.bool true), (6, Value.pointer (some ⟨b, 0, none⟩)), (0, Value.pointer (some ⟨b, 0, none⟩)), (1, Value.int IntKind.i64 z), (4, Value.pointer (some ⟨r9, 0, none⟩)), (5, Value.int IntKind.i64 0)] ++ lr12) (pts' := []) (eqs := []) (by kernel_rfl) trivial (AllC_nil _) ?_
  change Code.wp _ (CA Try.f29 [1, 0, 1]) _ _ _
  refine fr_cut [(0, Value.pointer (some ⟨b, 0, none⟩)), (1, Value.int IntKind.i64 z), (4, Value.pointer (some ⟨r9, 0, none⟩)), (5, Value.int IntKind.i64 0), (8, Value.bool false)] ⟨rfl, rfl, rfl, rfl, rfl, trivial⟩ (fun a => Code.wp _ _ _ a _) (fun lr17 => ?_)
  refine go_cnd (x := (Operand.tmp 8)) (s := CA Try.f29 [1, 0, 1, 0]) (t := CA Try.f29 [1, 0, 1, 1]) false (by kernel_rfl) (by kernel_rfl) ?_
  change Code.wp _ (CA Try.f29 [1, 0, 1, 1]) _ _ _
  refine go_skp (by kernel_rfl) ?_
  change Code.wp _ (CA Try.f29 [1, 1]) _ _ _
  refine go_seq (x := CA Try.f29 [1, 1, 0]) (y := CA Try.f29 [1, 1, 1]) (by kernel_rfl) ?_
  refine go_seq (x := CA Try.f29 [1, 1, 0, 0]) (y := CA Try.f29 [1, 1, 0, 1]) (by kernel_rfl) ?_
  refine go_pln (id := 3) (ops := RA Try.f29 [1, 1, 0, 0]) [0, 1, 2, 3, 4, 5, 6, 7, 8, 9, 10] (by kernel_rfl) (by kernel_rfl) ?_
  refine plain_batch (rest := []) [⟨0, [], none⟩, ⟨1, [], some (Value.bool false)⟩, ⟨2, [], none⟩, ⟨3, [], none⟩, ⟨4, [], none⟩, ⟨5, [], none⟩, ⟨6, [], none⟩, ⟨7, [Value.slice p1 n2 c3], none⟩, ⟨8, [], none⟩, ⟨9, [], some (Value.bool false)⟩, ⟨10, [], none⟩] (l' := [(20, Value.bool false), (19, Value.bool false), (18, Value.int IntKind.i64 (((n2 : Nat) : Int))), (17, Value.slice p1 n2 c3), (16, Value.pointer (some ⟨b, 1, none⟩)), (15, Value.pointer (some ⟨b, 0, none⟩)), (14, Value.pointer (some ⟨b, 0, none⟩)), (13, Value.int IntKind.i64 z), (12, Value.bool false), (11, Value.bool false), (10, Value.int IntKind.i64 z), (0, Value.pointer (some ⟨b, 0, none⟩)), (1, Value.int IntKind.i64 z), (4, Value.pointer (some ⟨r9, 0, none⟩)), (5, Value.int IntKind.i64 0), (8, Value.bool false)] ++ lr17) (pts' := [(7, ⟨b, 1, none⟩, Value.slice p1 n2 c3)]) (eqs := [(Value.bool (decide (z < 0)), Value.bool false), (Value.bool (decide (z ≥ ((n2 : Nat) : Int))), Value.bool false)]) (by kernel_rfl) ⟨(ov_f (by omega)), (ov_f (by omega)), trivial⟩ (AllC_cons (sat_cell h16 0 rfl rfl) (AllC_nil _)) ?_
  change Code.wp _ (CA Try.f29 [1, 1, 0, 1]) _ _ _
  refine fr_cut [(0, Value.pointer (some ⟨b, 0, none⟩)), (1, Value.int IntKind.i64 z), (4, Value.pointer (some ⟨r9, 0, none⟩)), (5, Value.int IntKind.i64 0), (8, Value.bool false), (20, Value.bool false)] ⟨rfl, rfl, rfl, rfl, rfl, rfl, trivial⟩ (fun a => Code.wp _ _ _ a _) (fun lr18 => ?_)
  refine go_cnd (x := (Operand.tmp 20)) (s := CA Try.f29 [1, 1, 0, 1, 0]) (t := CA Try.f29 [1, 1, 0, 1, 1]) false (by kernel_rfl) (by kernel_rfl) ?_
  change Code.wp _ (CA Try.f29 [1, 1, 0, 1, 1]) _ _ _
  refine go_skp (by kernel_rfl) ?_
  change Code.wp _ (CA Try.f29 [1, 1, 1]) _ _ _
  refine go_seq (x := CA Try.f29 [1, 1, 1, 0]) (y := CA Try.f29 [1, 1, 1, 1]) (by kernel_rfl) ?_
  refine go_pln (id := 5) (ops := RA Try.f29 [1, 1, 1, 0]) [0, 1, 2, 3, 4, 5, 6, 7, 8] (by kernel_rfl) (by kernel_rfl) ?_
  obtain ⟨b19, hp20⟩ := sl_ptr0 (j := 2) h16 rfl (by omega)
  refine plain_batch (rest := [5, 6, 7, 8]) [⟨0, [], none⟩, ⟨1, [], none⟩, ⟨2, [], none⟩, ⟨3, [Value.slice p1 n2 c3], none⟩, ⟨4, [], none⟩] (l' := [(26, Value.int IntKind.i64 z), (25, Value.slice p1 n2 c3), (24, Value.pointer (some ⟨b, 1, none⟩)), (23, Value.pointer (some ⟨b, 0, none⟩)), (22, Value.pointer (some ⟨b, 0, none⟩)), (0, Value.pointer (some ⟨b, 0, none⟩)), (1, Value.int IntKind.i64 z), (4, Value.pointer (some ⟨r9, 0, none⟩)), (5, Value.int IntKind.i64 0), (8, Value.bool false), (20, Value.bool false)] ++ lr18) (pts' := [(3, ⟨b, 1, none⟩, Value.slice p1 n2 c3)]) (eqs := []) (by kernel_rfl) trivial (AllC_cons (sat_cell h16 0 rfl rfl) (AllC_nil _)) ?_
  refine plain_law (i := 5) 27 (Value.pointer (some ⟨b19, i * 2, none⟩)) (by kernel_rfl) (law_indexSlP (o := opA (RA Try.f29 [1, 1, 1, 0]) 5) (x := (Operand.tmp 25)) (i := (Operand.tmp 26)) (p := p1) (b := b19) (off := 0) (z := z) (len := n2) (cap := c3) (by kernel_rfl) Try.underlying28 2 (by kernel_rfl) i (by kernel_rfl) hp20 (by kernel_rfl) (by omega) (by omega) (i * 2) (by omega) _) ?_
  refine plain_batch (rest := [7, 8]) [⟨6, [Value.int IntKind.i64 r.1, Value.int IntKind.u32 r.2], none⟩] (l' := [(28, Value.agg #[Value.int IntKind.i64 r.1, Value.int IntKind.u32 r.2]), (27, Value.pointer (some ⟨b19, i * 2, none⟩)), (26, Value.int IntKind.i64 z), (25, Value.slice p1 n2 c3), (24, Value.pointer (some ⟨b, 1, none⟩)), (23, Value.pointer (some ⟨b, 0, none⟩)), (22, Value.pointer (some ⟨b, 0, none⟩)), (0, Value.pointer (some ⟨b, 0, none⟩)), (1, Value.int IntKind.i64 z), (4, Value.pointer (some ⟨r9, 0, none⟩)), (5, Value.int IntKind.i64 0), (8, Value.bool false), (20, Value.bool false)] ++ lr18) (pts' := [(6, ⟨b19, i * 2, none⟩, Value.int IntKind.i64 r.1), (6, ⟨b19, i * 2 + 1, none⟩, Value.int IntKind.u32 r.2)]) (eqs := []) (by kernel_rfl) trivial (AllC_cons (gv_cell (j := 2) h16 rfl (gv_sl _ _ _) hp20 (fl_get eR_ok (j := 0) (v := Value.int IntKind.i64 r.1) hr rfl) (i * 2) (by omega)) (AllC_cons (gv_cell (j := 2) h16 rfl (gv_sl _ _ _) hp20 (fl_get eR_ok (j := 1) (v := Value.int IntKind.u32 r.2) hr rfl) (i * 2 + 1) (by omega)) (AllC_nil _))) ?_
  have h21 : sat g w14 [Cl r9 [Value.int IntKind.i64 0, Value.int IntKind.u32 0] 25, Cl b [Value.bool true, Value.slice p1 n2 c3] 65, Sl 25 2 p1 n2 c3 (fl eR L), R] := sat_sel [1, 0, 2, 3] rfl h16
  refine plain_act (i := 7) (by kernel_rfl) ?_
  refine an_store [(0, Value.int IntKind.i64 r.1), (1, Value.int IntKind.u32 r.2)] (cs' := [Value.int IntKind.i64 r.1, Value.int IntKind.u32 r.2]) (by kernel_rfl) (by kernel_rfl) (allq ⟨⟨by simp, rfl⟩, ⟨by simp, rfl⟩, trivial⟩) rfl h21 ?_
  intro w22 (h23 : sat g w22 [Cl r9 [Value.int IntKind.i64 r.1, Value.int IntKind.u32 r.2] 25, Cl b [Value.bool true, Value.slice p1 n2 c3] 65, Sl 25 2 p1 n2 c3 (fl eR L), R])
  refine plain_batch (rest := []) [⟨8, [], none⟩] (l' := [(5, Value.int IntKind.i64 0), (28, Value.agg #[Value.int IntKind.i64 r.1, Value.int IntKind.u32 r.2]), (27, Value.pointer (some ⟨b19, i * 2, none⟩)), (26, Value.int IntKind.i64 z), (25, Value.slice p1 n2 c3), (24, Value.pointer (some ⟨b, 1, none⟩)), (23, Value.pointer (some ⟨b, 0, none⟩)), (22, Value.pointer (some ⟨b, 0, none⟩)), (0, Value.pointer (some ⟨b, 0, none⟩)), (1, Value.int IntKind.i64 z), (4, Value.pointer (some ⟨r9, 0, none⟩)), (5, Value.int IntKind.i64 0), (8, Value.bool false), (20, Value.bool false)] ++ lr18) (pts' := []) (eqs := []) (by kernel_rfl) trivial (AllC_nil _) ?_
  change Code.wp _ (CA Try.f29 [1, 1, 1, 1]) _ _ _
  refine fr_cut [(0, Value.pointer (some ⟨b, 0, none⟩)), (1, Value.int IntKind.i64 z), (4, Value.pointer (some ⟨r9, 0, none⟩)), (5, Value.int IntKind.i64 0), (8, Value.bool false), (20, Value.bool false)] ⟨rfl, rfl, rfl, rfl, rfl, rfl, trivial⟩ (fun a => Code.wp _ _ _ a _) (fun lr24 => ?_)
  refine go_rt (by kernel_rfl) ?_
  have h25 : sat g w22 [Cl b [Value.bool true, Value.slice p1 n2 c3] 65, Sl 25 2 p1 n2 c3 (fl eR L), Cl r9 [Value.int IntKind.i64 r.1, Value.int IntKind.u32 r.2] 25, R] := sat_sel [1, 2, 0, 3] rfl h23
  have hl27 := fl_n eR_ok (by decide) (sat_sel [1] rfl h25)
  have h26 : sat g w22 [RStk b L, Cl r9 [Value.int IntKind.i64 r.1, Value.int IntKind.u32 r.2] 25, R] := rstk_close h25 hl27
  try simp only [Exit.inBlock, Exit.then]
  have h28 : sat g w22 [RStk b L, R] := sat_sel [0, 2] rfl h26
  refine ht_out [Value.int IntKind.i64 r.1, Value.int IntKind.u32 r.2] (Value.tuple #[Value.agg #[Value.int IntKind.i64 r.1, Value.int IntKind.u32 r.2], Value.int IntKind.i64 0]) [(⟨r9, 0, none⟩, Value.int IntKind.i64 r.1), (⟨r9, 1, none⟩, Value.int IntKind.u32 r.2)] (by kernel_rfl) (allq ⟨sat_cell h26 1 rfl rfl, sat_cell h26 1 rfl rfl, trivial⟩) ?_
  exact ⟨Value.tuple #[Value.agg #[Value.int IntKind.i64 r.1, Value.int IntKind.u32 r.2], Value.int IntKind.i64 0], [RStk b L], rfl, ⟨rfl, rfl⟩, h28⟩

set_option maxHeartbeats 4000000 in
theorem rget_no (b n : Nat) (L : List Rf) (hn : L.length = n) (z : Int) (hi : z < 0 ∨ (n : Int) ≤ z) : HT Try.prog 29 [Value.pointer (some ⟨b, 0, none⟩), Value.int IntKind.i64 z] [RStk b L] (fun v K => v = Value.tuple #[Value.agg #[Value.int .i64 0, Value.int .u32 0], Value.int .i64 3] ∧ K = [RStk b L]) := by
  refine ht_in 29 [(0, Value.pointer (some ⟨b, 0, none⟩)), (1, Value.int IntKind.i64 z)] Try.func29 (by kernel_rfl) Try.ntmps29 rfl rfl ?_
  intro g w0 R h0
  obtain ⟨p1, n2, c3, hn4, h5⟩ := rstk_open h0
  have h6 : sat g w0 [Sl 25 2 p1 n2 c3 (fl eR L), Cl b [Value.bool true, Value.slice p1 n2 c3] 65, R] := sat_sel [1, 0, 2] rfl h5
  obtain ⟨hc7, hc8⟩ := sl_le h6
  refine go_seq (x := CA Try.f29 [0]) (y := CA Try.f29 [1]) (by kernel_rfl) ?_
  refine go_pln (id := 0) (ops := RA Try.f29 [0]) [0, 1] (by kernel_rfl) (by kernel_rfl) ?_
  refine plain_act (i := 0) (by kernel_rfl) ?_
  refine an_new (d := 4) (fun xb_ => Value.pointer (some ⟨xb_, 0, none⟩)) (fun xb_ => Obj.cells [Value.int IntKind.i64 0, Value.int IntKind.u32 0].toArray 25 (0, 0)) (fun xb_ => by kernel_rfl) (by kernel_rfl) rfl h6 ?_
  intro r9 w10 (h11 : sat g w10 [Cl r9 [Value.int IntKind.i64 0, Value.int IntKind.u32 0] 25, Sl 25 2 p1 n2 c3 (fl eR L), Cl b [Value.bool true, Value.slice p1 n2 c3] 65, R])
  refine plain_batch (rest := []) [⟨1, [], none⟩] (l' := [(5, Value.int IntKind.i64 0), (4, Value.pointer (some ⟨r9, 0, none⟩)), (0, Value.pointer (some ⟨b, 0, none⟩)), (1, Value.int IntKind.i64 z)]) (pts' := []) (eqs := []) (by kernel_rfl) trivial (AllC_nil _) ?_
  change Code.wp _ (CA Try.f29 [1]) _ _ _
  refine fr_cut [(0, Value.pointer (some ⟨b, 0, none⟩)), (1, Value.int IntKind.i64 z), (4, Value.pointer (some ⟨r9, 0, none⟩)), (5, Value.int IntKind.i64 0)] ⟨rfl, rfl, rfl, rfl, trivial⟩ (fun a => Code.wp _ _ _ a _) (fun lr12 => ?_)
  refine go_seq (x := CA Try.f29 [1, 0]) (y := CA Try.f29 [1, 1]) (by kernel_rfl) ?_
  refine go_seq (x := CA Try.f29 [1, 0, 0]) (y := CA Try.f29 [1, 0, 1]) (by kernel_rfl) ?_
  refine go_pln (id := 1) (ops := RA Try.f29 [1, 0, 0]) [0, 1, 2] (by kernel_rfl) (by kernel_rfl) ?_
  refine plain_batch (rest := [1, 2]) [⟨0, [], none⟩] (l' := [(6, Value.pointer (some ⟨b, 0, none⟩)), (0, Value.pointer (some ⟨b, 0, none⟩)), (1, Value.int IntKind.i64 z), (4, Value.pointer (some ⟨r9, 0, none⟩)), (5, Value.int IntKind.i64 0)] ++ lr12) (pts' := []) (eqs := []) (by kernel_rfl) trivial (AllC_nil _) ?_
  have h13 : sat g w10 [Cl b [Value.bool true, Value.slice p1 n2 c3] 65, Cl r9 [Value.int IntKind.i64 0, Value.int IntKind.u32 0] 25, Sl 25 2 p1 n2 c3 (fl eR L), R] := sat_sel [2, 0, 1, 3] rfl h11
  refine plain_act (i := 1) (by kernel_rfl) ?_
  refine an_call (d := some 7) (f := 41) (args := [Value.pointer (some ⟨b, 0, none⟩)]) (by kernel_rfl) Try.call41 (rvalid_ht b p1 n2 c3) (F := [Cl r9 [Value.int IntKind.i64 0, Value.int IntKind.u32 0] 25, Sl 25 2 p1 n2 c3 (fl eR L), R]) h13 ?_
  rintro v K w14 (⟨rfl, rfl⟩) h15
  refine ⟨_, rfl, ?_⟩
  have h16 : sat g w14 [Cl b [Value.bool true, Value.slice p1 n2 c3] 65, Cl r9 [Value.int IntKind.i64 0, Value.int IntKind.u32 0] 25, Sl 25 2 p1 n2 c3 (fl eR L), R] := h15
  refine plain_batch (rest := []) [⟨2, [], none⟩] (l' := [(8, Value.bool false), (7, Value.bool true), (6, Value.pointer (some ⟨b, 0, none⟩)), (0, Value.pointer (some ⟨b, 0, none⟩)), (1, Value.int IntKind.i64 z), (4, Value.pointer (some ⟨r9, 0, none⟩)), (5, Value.int IntKind.i64 0)] ++ lr12) (pts' := []) (eqs := []) (by kernel_rfl) trivial (AllC_nil _) ?_
  change Code.wp _ (CA Try.f29 [1, 0, 1]) _ _ _
  refine fr_cut [(0, Value.pointer (some ⟨b, 0, none⟩)), (1, Value.int IntKind.i64 z), (4, Value.pointer (some ⟨r9, 0, none⟩)), (5, Value.int IntKind.i64 0), (8, Value.bool false)] ⟨rfl, rfl, rfl, rfl, rfl, trivial⟩ (fun a => Code.wp _ _ _ a _) (fun lr17 => ?_)
  refine go_cnd (x := (Operand.tmp 8)) (s := CA Try.f29 [1, 0, 1, 0]) (t := CA Try.f29 [1, 0, 1, 1]) false (by kernel_rfl) (by kernel_rfl) ?_
  change Code.wp _ (CA Try.f29 [1, 0, 1, 1]) _ _ _
  refine go_skp (by kernel_rfl) ?_
  change Code.wp _ (CA Try.f29 [1, 1]) _ _ _
  refine go_seq (x := CA Try.f29 [1, 1, 0]) (y := CA Try.f29 [1, 1, 1]) (by kernel_rfl) ?_
  refine go_seq (x := CA Try.f29 [1, 1, 0, 0]) (y := CA Try.f29 [1, 1, 0, 1]) (by kernel_rfl) ?_
  refine go_pln (id := 3) (ops := RA Try.f29 [1, 1, 0, 0]) [0, 1, 2, 3, 4, 5, 6, 7, 8, 9, 10] (by kernel_rfl) (by kernel_rfl) ?_
  refine plain_batch (rest := [1, 2, 3, 4, 5, 6, 7, 8, 9, 10]) [⟨0, [], none⟩] (l' := [(10, Value.int IntKind.i64 z), (0, Value.pointer (some ⟨b, 0, none⟩)), (1, Value.int IntKind.i64 z), (4, Value.pointer (some ⟨r9, 0, none⟩)), (5, Value.int IntKind.i64 0), (8, Value.bool false)] ++ lr17) (pts' := []) (eqs := []) (by kernel_rfl) trivial (AllC_nil _) ?_
  by_cases c18 : z < 0
  ·
    refine plain_batch (rest := []) [⟨1, [], some (Value.bool true)⟩, ⟨2, [], none⟩, ⟨3, [], none⟩, ⟨4, [], none⟩, ⟨5, [], none⟩, ⟨6, [], none⟩, ⟨7, [], none⟩, ⟨8, [], none⟩, ⟨9, [], none⟩, ⟨10, [], none⟩] (l' := [(20, Value.bool true), (19, undef), (18, undef), (17, undef), (16, undef), (15, undef), (14, undef), (13, undef), (12, Value.bool true), (11, Value.bool true), (10, Value.int IntKind.i64 z), (0, Value.pointer (some ⟨b, 0, none⟩)), (1, Value.int IntKind.i64 z), (4, Value.pointer (some ⟨r9, 0, none⟩)), (5, Value.int IntKind.i64 0), (8, Value.bool false)] ++ lr17) (pts' := []) (eqs := [(Value.bool (decide (z < 0)), Value.bool true)]) (by kernel_rfl) ⟨(ov_t (by omega)), trivial⟩ (AllC_nil _) ?_
    change Code.wp _ (CA Try.f29 [1, 1, 0, 1]) _ _ _
    refine fr_cut [(0, Value.pointer (some ⟨b, 0, none⟩)), (1, Value.int IntKind.i64 z), (4, Value.pointer (some ⟨r9, 0, none⟩)), (5, Value.int IntKind.i64 0), (8, Value.bool false), (20, Value.bool true)] ⟨rfl, rfl, rfl, rfl, rfl, rfl, trivial⟩ (fun a => Code.wp _ _ _ a _) (fun lr19 => ?_)
    refine go_cnd (x := (Operand.tmp 20)) (s := CA Try.f29 [1, 1, 0, 1, 0]) (t := CA Try.f29 [1, 1, 0, 1, 1]) true (by kernel_rfl) (by kernel_rfl) ?_
    change Code.wp _ (CA Try.f29 [1, 1, 0, 1, 0]) _ _ _
    refine go_seq (x := CA Try.f29 [1, 1, 0, 1, 0, 0]) (y := CA Try.f29 [1, 1, 0, 1, 0, 1]) (by kernel_rfl) ?_
    refine go_pln (id := 4) (ops := RA Try.f29 [1, 1, 0, 1, 0, 0]) [0, 1, 2] (by kernel_rfl) (by kernel_rfl) ?_
    refine plain_batch (rest := [1, 2]) [⟨0, [], none⟩] (l' := [(21, Value.agg #[Value.int IntKind.i64 0, Value.int IntKind.u32 0]), (0, Value.pointer (some ⟨b, 0, none⟩)), (1, Value.int IntKind.i64 z), (4, Value.pointer (some ⟨r9, 0, none⟩)), (5, Value.int IntKind.i64 0), (8, Value.bool false), (20, Value.bool true)] ++ lr19) (pts' := []) (eqs := []) (by kernel_rfl) trivial (AllC_nil _) ?_
    have h20 : sat g w14 [Cl r9 [Value.int IntKind.i64 0, Value.int IntKind.u32 0] 25, Cl b [Value.bool true, Value.slice p1 n2 c3] 65, Sl 25 2 p1 n2 c3 (fl eR L), R] := sat_sel [1, 0, 2, 3] rfl h16
    refine plain_act (i := 1) (by kernel_rfl) ?_
    refine an_store [(0, Value.int IntKind.i64 0), (1, Value.int IntKind.u32 0)] (cs' := [Value.int IntKind.i64 0, Value.int IntKind.u32 0]) (by kernel_rfl) (by kernel_rfl) (allq ⟨⟨by simp, rfl⟩, ⟨by simp, rfl⟩, trivial⟩) rfl h20 ?_
    intro w21 (h22 : sat g w21 [Cl r9 [Value.int IntKind.i64 0, Value.int IntKind.u32 0] 25, Cl b [Value.bool true, Value.slice p1 n2 c3] 65, Sl 25 2 p1 n2 c3 (fl eR L), R])
    refine plain_batch (rest := []) [⟨2, [], none⟩] (l' := [(5, Value.int IntKind.i64 3), (21, Value.agg #[Value.int IntKind.i64 0, Value.int IntKind.u32 0]), (0, Value.pointer (some ⟨b, 0, none⟩)), (1, Value.int IntKind.i64 z), (4, Value.pointer (some ⟨r9, 0, none⟩)), (5, Value.int IntKind.i64 0), (8, Value.bool false), (20, Value.bool true)] ++ lr19) (pts' := []) (eqs := []) (by kernel_rfl) trivial (AllC_nil _) ?_
    change Code.wp _ (CA Try.f29 [1, 1, 0, 1, 0, 1]) _ _ _
    refine fr_cut [(0, Value.pointer (some ⟨b, 0, none⟩)), (1, Value.int IntKind.i64 z), (4, Value.pointer (some ⟨r9, 0, none⟩)), (5, Value.int IntKind.i64 3), (8, Value.bool false), (20, Value.bool true)] ⟨rfl, rfl, rfl, rfl, rfl, rfl, trivial⟩ (fun a => Code.wp _ _ _ a _) (fun lr23 => ?_)
    refine go_rt (by kernel_rfl) ?_
    have h24 : sat g w21 [Cl b [Value.bool true, Value.slice p1 n2 c3] 65, Sl 25 2 p1 n2 c3 (fl eR L), Cl r9 [Value.int IntKind.i64 0, Value.int IntKind.u32 0] 25, R] := sat_sel [1, 2, 0, 3] rfl h22
    have hl26 := fl_n eR_ok (by decide) (sat_sel [1] rfl h24)
    have h25 : sat g w21 [RStk b L, Cl r9 [Value.int IntKind.i64 0, Value.int IntKind.u32 0] 25, R] := rstk_close h24 hl26
    try simp only [Exit.inBlock, Exit.then]
    have h27 : sat g w21 [RStk b L, R] := sat_sel [0, 2] rfl h25
    refine ht_out [Value.int IntKind.i64 0, Value.int IntKind.u32 0] (Value.tuple #[Value.agg #[Value.int IntKind.i64 0, Value.int IntKind.u32 0], Value.int IntKind.i64 3]) [(⟨r9, 0, none⟩, Value.int IntKind.i64 0), (⟨r9, 1, none⟩, Value.int IntKind.u32 0)] (by kernel_rfl) (allq ⟨sat_cell h25 1 rfl rfl, sat_cell h25 1 rfl rfl, trivial⟩) ?_
    exact ⟨Value.tuple #[Value.agg #[Value.int IntKind.i64 0, Value.int IntKind.u32 0], Value.int IntKind.i64 3], [RStk b L], rfl, ⟨rfl, rfl⟩, h27⟩
  ·
    refine plain_batch (rest := []) [⟨1, [], some (Value.bool false)⟩, ⟨2, [], none⟩, ⟨3, [], none⟩, ⟨4, [], none⟩, ⟨5, [], none⟩, ⟨6, [], none⟩, ⟨7, [Value.slice p1 n2 c3], none⟩, ⟨8, [], none⟩, ⟨9, [], some (Value.bool true)⟩, ⟨10, [], none⟩] (l' := [(20, Value.bool true), (19, Value.bool true), (18, Value.int IntKind.i64 (((n2 : Nat) : Int))), (17, Value.slice p1 n2 c3), (16, Value.pointer (some ⟨b, 1, none⟩)), (15, Value.pointer (some ⟨b, 0, none⟩)), (14, Value.pointer (some ⟨b, 0, none⟩)), (13, Value.int IntKind.i64 z), (12, Value.bool false), (11, Value.bool false), (10, Value.int IntKind.i64 z), (0, Value.pointer (some ⟨b, 0, none⟩)), (1, Value.int IntKind.i64 z), (4, Value.pointer (some ⟨r9, 0, none⟩)), (5, Value.int IntKind.i64 0), (8, Value.bool false)] ++ lr17) (pts' := [(7, ⟨b, 1, none⟩, Value.slice p1 n2 c3)]) (eqs := [(Value.bool (decide (z < 0)), Value.bool false), (Value.bool (decide (z ≥ ((n2 : Nat) : Int))), Value.bool true)]) (by kernel_rfl) ⟨(ov_f (by omega)), (ov_t (by omega)), trivial⟩ (AllC_cons (sat_cell h16 0 rfl rfl) (AllC_nil _)) ?_
    change Code.wp _ (CA Try.f29 [1, 1, 0, 1]) _ _ _
    refine fr_cut [(0, Value.pointer (some ⟨b, 0, none⟩)), (1, Value.int IntKind.i64 z), (4, Value.pointer (some ⟨r9, 0, none⟩)), (5, Value.int IntKind.i64 0), (8, Value.bool false), (20, Value.bool true)] ⟨rfl, rfl, rfl, rfl, rfl, rfl, trivial⟩ (fun a => Code.wp _ _ _ a _) (fun lr28 => ?_)
    refine go_cnd (x := (Operand.tmp 20)) (s := CA Try.f29 [1, 1, 0, 1, 0]) (t := CA Try.f29 [1, 1, 0, 1, 1]) true (by kernel_rfl) (by kernel_rfl) ?_
    change Code.wp _ (CA Try.f29 [1, 1, 0, 1, 0]) _ _ _
    refine go_seq (x := CA Try.f29 [1, 1, 0, 1, 0, 0]) (y := CA Try.f29 [1, 1, 0, 1, 0, 1]) (by kernel_rfl) ?_
    refine go_pln (id := 4) (ops := RA Try.f29 [1, 1, 0, 1, 0, 0]) [0, 1, 2] (by kernel_rfl) (by kernel_rfl) ?_
    refine plain_batch (rest := [1, 2]) [⟨0, [], none⟩] (l' := [(21, Value.agg #[Value.int IntKind.i64 0, Value.int IntKind.u32 0]), (0, Value.pointer (some ⟨b, 0, none⟩)), (1, Value.int IntKind.i64 z), (4, Value.pointer (some ⟨r9, 0, none⟩)), (5, Value.int IntKind.i64 0), (8, Value.bool false), (20, Value.bool true)] ++ lr28) (pts' := []) (eqs := []) (by kernel_rfl) trivial (AllC_nil _) ?_
    have h29 : sat g w14 [Cl r9 [Value.int IntKind.i64 0, Value.int IntKind.u32 0] 25, Cl b [Value.bool true, Value.slice p1 n2 c3] 65, Sl 25 2 p1 n2 c3 (fl eR L), R] := sat_sel [1, 0, 2, 3] rfl h16
    refine plain_act (i := 1) (by kernel_rfl) ?_
    refine an_store [(0, Value.int IntKind.i64 0), (1, Value.int IntKind.u32 0)] (cs' := [Value.int IntKind.i64 0, Value.int IntKind.u32 0]) (by kernel_rfl) (by kernel_rfl) (allq ⟨⟨by simp, rfl⟩, ⟨by simp, rfl⟩, trivial⟩) rfl h29 ?_
    intro w30 (h31 : sat g w30 [Cl r9 [Value.int IntKind.i64 0, Value.int IntKind.u32 0] 25, Cl b [Value.bool true, Value.slice p1 n2 c3] 65, Sl 25 2 p1 n2 c3 (fl eR L), R])
    refine plain_batch (rest := []) [⟨2, [], none⟩] (l' := [(5, Value.int IntKind.i64 3), (21, Value.agg #[Value.int IntKind.i64 0, Value.int IntKind.u32 0]), (0, Value.pointer (some ⟨b, 0, none⟩)), (1, Value.int IntKind.i64 z), (4, Value.pointer (some ⟨r9, 0, none⟩)), (5, Value.int IntKind.i64 0), (8, Value.bool false), (20, Value.bool true)] ++ lr28) (pts' := []) (eqs := []) (by kernel_rfl) trivial (AllC_nil _) ?_
    change Code.wp _ (CA Try.f29 [1, 1, 0, 1, 0, 1]) _ _ _
    refine fr_cut [(0, Value.pointer (some ⟨b, 0, none⟩)), (1, Value.int IntKind.i64 z), (4, Value.pointer (some ⟨r9, 0, none⟩)), (5, Value.int IntKind.i64 3), (8, Value.bool false), (20, Value.bool true)] ⟨rfl, rfl, rfl, rfl, rfl, rfl, trivial⟩ (fun a => Code.wp _ _ _ a _) (fun lr32 => ?_)
    refine go_rt (by kernel_rfl) ?_
    have h33 : sat g w30 [Cl b [Value.bool true, Value.slice p1 n2 c3] 65, Sl 25 2 p1 n2 c3 (fl eR L), Cl r9 [Value.int IntKind.i64 0, Value.int IntKind.u32 0] 25, R] := sat_sel [1, 2, 0, 3] rfl h31
    have hl35 := fl_n eR_ok (by decide) (sat_sel [1] rfl h33)
    have h34 : sat g w30 [RStk b L, Cl r9 [Value.int IntKind.i64 0, Value.int IntKind.u32 0] 25, R] := rstk_close h33 hl35
    try simp only [Exit.inBlock, Exit.then]
    have h36 : sat g w30 [RStk b L, R] := sat_sel [0, 2] rfl h34
    refine ht_out [Value.int IntKind.i64 0, Value.int IntKind.u32 0] (Value.tuple #[Value.agg #[Value.int IntKind.i64 0, Value.int IntKind.u32 0], Value.int IntKind.i64 3]) [(⟨r9, 0, none⟩, Value.int IntKind.i64 0), (⟨r9, 1, none⟩, Value.int IntKind.u32 0)] (by kernel_rfl) (allq ⟨sat_cell h34 1 rfl rfl, sat_cell h34 1 rfl rfl, trivial⟩) ?_
    exact ⟨Value.tuple #[Value.agg #[Value.int IntKind.i64 0, Value.int IntKind.u32 0], Value.int IntKind.i64 3], [RStk b L], rfl, ⟨rfl, rfl⟩, h36⟩

set_option maxHeartbeats 4000000 in
theorem rpush_n (b n : Nat) (L : List Rf) (hn : L.length = n) (s gn : Int) (hl : n < 32) (h0 : 0 ≤ s) (h1 : s ≤ 255) (h2 : 1 ≤ gn) : HT Try.prog 25 [Value.pointer (some ⟨b, 0, none⟩), Value.agg #[Value.int IntKind.i64 s, Value.int IntKind.u32 gn]] [RStk b L] (fun v K => v = Value.tuple #[Value.int .i64 (n : Int), Value.int .i64 0] ∧ K = [RStk b (L ++ [(s, gn)])]) := by
  refine ht_in 46 [(0, Value.pointer (some ⟨b, 0, none⟩)), (1, Value.agg #[Value.int IntKind.i64 s, Value.int IntKind.u32 gn])] Try.func25 (by kernel_rfl) Try.ntmps25 rfl rfl ?_
  intro g w0 R h0
  obtain ⟨p1, n2, c3, hn4, h5⟩ := rstk_open h0
  have h6 : sat g w0 [Sl 25 2 p1 n2 c3 (fl eR L), Cl b [Value.bool true, Value.slice p1 n2 c3] 65, R] := sat_sel [1, 0, 2] rfl h5
  obtain ⟨hc7, hc8⟩ := sl_le h6
  refine go_seq (x := CA Try.f25 [0]) (y := CA Try.f25 [1]) (by kernel_rfl) ?_
  refine go_pln (id := 0) (ops := RA Try.f25 [0]) [0, 1, 2] (by kernel_rfl) (by kernel_rfl) ?_
  refine plain_act (i := 0) (by kernel_rfl) ?_
  refine an_new (d := 3) (fun xb_ => Value.pointer (some ⟨xb_, 0, none⟩)) (fun xb_ => Obj.cells [Value.int IntKind.i64 s, Value.int IntKind.u32 gn].toArray 25 (0, 0)) (fun xb_ => by kernel_rfl) (by kernel_rfl) rfl h6 ?_
  intro r9 w10 (h11 : sat g w10 [Cl r9 [Value.int IntKind.i64 s, Value.int IntKind.u32 gn] 25, Sl 25 2 p1 n2 c3 (fl eR L), Cl b [Value.bool true, Value.slice p1 n2 c3] 65, R])
  refine plain_batch (rest := []) [⟨1, [], none⟩, ⟨2, [], none⟩] (l' := [(5, Value.int IntKind.i64 0), (4, Value.int IntKind.i64 0), (3, Value.pointer (some ⟨r9, 0, none⟩)), (0, Value.pointer (some ⟨b, 0, none⟩)), (1, Value.agg #[Value.int IntKind.i64 s, Value.int IntKind.u32 gn])]) (pts' := []) (eqs := []) (by kernel_rfl) trivial (AllC_nil _) ?_
  change Code.wp _ (CA Try.f25 [1]) _ _ _
  refine fr_cut [(0, Value.pointer (some ⟨b, 0, none⟩)), (1, Value.agg #[Value.int IntKind.i64 s, Value.int IntKind.u32 gn]), (3, Value.pointer (some ⟨r9, 0, none⟩)), (4, Value.int IntKind.i64 0), (5, Value.int IntKind.i64 0)] ⟨rfl, rfl, rfl, rfl, rfl, trivial⟩ (fun a => Code.wp _ _ _ a _) (fun lr12 => ?_)
  refine go_seq (x := CA Try.f25 [1, 0]) (y := CA Try.f25 [1, 1]) (by kernel_rfl) ?_
  refine go_seq (x := CA Try.f25 [1, 0, 0]) (y := CA Try.f25 [1, 0, 1]) (by kernel_rfl) ?_
  refine go_pln (id := 1) (ops := RA Try.f25 [1, 0, 0]) [0, 1, 2] (by kernel_rfl) (by kernel_rfl) ?_
  refine plain_batch (rest := [1, 2]) [⟨0, [], none⟩] (l' := [(6, Value.pointer (some ⟨b, 0, none⟩)), (0, Value.pointer (some ⟨b, 0, none⟩)), (1, Value.agg #[Value.int IntKind.i64 s, Value.int IntKind.u32 gn]), (3, Value.pointer (some ⟨r9, 0, none⟩)), (4, Value.int IntKind.i64 0), (5, Value.int IntKind.i64 0)] ++ lr12) (pts' := []) (eqs := []) (by kernel_rfl) trivial (AllC_nil _) ?_
  have h13 : sat g w10 [Cl b [Value.bool true, Value.slice p1 n2 c3] 65, Cl r9 [Value.int IntKind.i64 s, Value.int IntKind.u32 gn] 25, Sl 25 2 p1 n2 c3 (fl eR L), R] := sat_sel [2, 0, 1, 3] rfl h11
  refine plain_act (i := 1) (by kernel_rfl) ?_
  refine an_call (d := some 7) (f := 41) (args := [Value.pointer (some ⟨b, 0, none⟩)]) (by kernel_rfl) Try.call41 (rvalid_ht b p1 n2 c3) (F := [Cl r9 [Value.int IntKind.i64 s, Value.int IntKind.u32 gn] 25, Sl 25 2 p1 n2 c3 (fl eR L), R]) h13 ?_
  rintro v K w14 (⟨rfl, rfl⟩) h15
  refine ⟨_, rfl, ?_⟩
  have h16 : sat g w14 [Cl b [Value.bool true, Value.slice p1 n2 c3] 65, Cl r9 [Value.int IntKind.i64 s, Value.int IntKind.u32 gn] 25, Sl 25 2 p1 n2 c3 (fl eR L), R] := h15
  refine plain_batch (rest := []) [⟨2, [], none⟩] (l' := [(8, Value.bool false), (7, Value.bool true), (6, Value.pointer (some ⟨b, 0, none⟩)), (0, Value.pointer (some ⟨b, 0, none⟩)), (1, Value.agg #[Value.int IntKind.i64 s, Value.int IntKind.u32 gn]), (3, Value.pointer (some ⟨r9, 0, none⟩)), (4, Value.int IntKind.i64 0), (5, Value.int IntKind.i64 0)] ++ lr12) (pts' := []) (eqs := []) (by kernel_rfl) trivial (AllC_nil _) ?_
  change Code.wp _ (CA Try.f25 [1, 0, 1]) _ _ _
  refine fr_cut [(0, Value.pointer (some ⟨b, 0, none⟩)), (1, Value.agg #[Value.int IntKind.i64 s, Value.int IntKind.u32 gn]), (3, Value.pointer (some ⟨r9, 0, none⟩)), (4, Value.int IntKind.i64 0), (5, Value.int IntKind.i64 0), (8, Value.bool false)] ⟨rfl, rfl, rfl, rfl, rfl, rfl, trivial⟩ (fun a => Code.wp _ _ _ a _) (fun lr17 => ?_)
  refine go_cnd (x := (Operand.tmp 8)) (s := CA Try.f25 [1, 0, 1, 0]) (t := CA Try.f25 [1, 0, 1, 1]) false (by kernel_rfl) (by kernel_rfl) ?_
  change Code.wp _ (CA Try.f25 [1, 0, 1, 1]) _ _ _
  refine go_skp (by kernel_rfl) ?_
  change Code.wp _ (CA Try.f25 [1, 1]) _ _ _
  refine go_seq (x := CA Try.f25 [1, 1, 0]) (y := CA Try.f25 [1, 1, 1]) (by kernel_rfl) ?_
  refine go_seq (x := CA Try.f25 [1, 1, 0, 0]) (y := CA Try.f25 [1, 1, 0, 1]) (by kernel_rfl) ?_
  refine go_pln (id := 3) (ops := RA Try.f25 [1, 1, 0, 0]) [0, 1, 2, 3, 4, 5, 6, 7, 8, 9, 10, 11, 12] (by kernel_rfl) (by kernel_rfl) ?_
  refine plain_batch (rest := []) [⟨0, [], none⟩, ⟨1, [Value.int IntKind.i64 s], none⟩, ⟨2, [], some (Value.bool false)⟩, ⟨3, [], none⟩, ⟨4, [], none⟩, ⟨5, [Value.int IntKind.i64 s], none⟩, ⟨6, [], some (Value.bool false)⟩, ⟨7, [], none⟩, ⟨8, [], none⟩, ⟨9, [], none⟩, ⟨10, [Value.int IntKind.u32 gn], none⟩, ⟨11, [], some (Value.bool false)⟩, ⟨12, [], none⟩] (l' := [(21, Value.bool false), (20, Value.bool false), (19, Value.int IntKind.u32 gn), (18, Value.pointer (some ⟨r9, 1, none⟩)), (17, Value.bool false), (16, Value.bool false), (15, Value.bool false), (14, Value.int IntKind.i64 s), (13, Value.pointer (some ⟨r9, 0, none⟩)), (12, Value.bool false), (11, Value.bool false), (10, Value.int IntKind.i64 s), (9, Value.pointer (some ⟨r9, 0, none⟩)), (0, Value.pointer (some ⟨b, 0, none⟩)), (1, Value.agg #[Value.int IntKind.i64 s, Value.int IntKind.u32 gn]), (3, Value.pointer (some ⟨r9, 0, none⟩)), (4, Value.int IntKind.i64 0), (5, Value.int IntKind.i64 0), (8, Value.bool false)] ++ lr17) (pts' := [(10, ⟨r9, 1, none⟩, Value.int IntKind.u32 gn), (5, ⟨r9, 0, none⟩, Value.int IntKind.i64 s), (1, ⟨r9, 0, none⟩, Value.int IntKind.i64 s)]) (eqs := [(Value.bool (decide (s < 0)), Value.bool false), (Value.bool (decide (s ≥ 256)), Value.bool false), (Value.bool (gn == 0), Value.bool false)]) (by kernel_rfl) ⟨(ov_f (by omega)), (ov_f (by omega)), (ov_ef (by omega)), trivial⟩ (AllC_cons (sat_cell h16 1 rfl rfl) (AllC_cons (sat_cell h16 1 rfl rfl) (AllC_cons (sat_cell h16 1 rfl rfl) (AllC_nil _)))) ?_
  change Code.wp _ (CA Try.f25 [1, 1, 0, 1]) _ _ _
  refine fr_cut [(0, Value.pointer (some ⟨b, 0, none⟩)), (1, Value.agg #[Value.int IntKind.i64 s, Value.int IntKind.u32 gn]), (3, Value.pointer (some ⟨r9, 0, none⟩)), (4, Value.int IntKind.i64 0), (5, Value.int IntKind.i64 0), (8, Value.bool false), (21, Value.bool false)] ⟨rfl, rfl, rfl, rfl, rfl, rfl, rfl, trivial⟩ (fun a => Code.wp _ _ _ a _) (fun lr18 => ?_)
  refine go_cnd (x := (Operand.tmp 21)) (s := CA Try.f25 [1, 1, 0, 1, 0]) (t := CA Try.f25 [1, 1, 0, 1, 1]) false (by kernel_rfl) (by kernel_rfl) ?_
  change Code.wp _ (CA Try.f25 [1, 1, 0, 1, 1]) _ _ _
  refine go_skp (by kernel_rfl) ?_
  change Code.wp _ (CA Try.f25 [1, 1, 1]) _ _ _
  refine go_seq (x := CA Try.f25 [1, 1, 1, 0]) (y := CA Try.f25 [1, 1, 1, 1]) (by kernel_rfl) ?_
  refine go_seq (x := CA Try.f25 [1, 1, 1, 0, 0]) (y := CA Try.f25 [1, 1, 1, 0, 1]) (by kernel_rfl) ?_
  refine go_pln (id := 5) (ops := RA Try.f25 [1, 1, 1, 0, 0]) [0, 1, 2, 3, 4, 5] (by kernel_rfl) (by kernel_rfl) ?_
  refine plain_batch (rest := []) [⟨0, [], none⟩, ⟨1, [], none⟩, ⟨2, [], none⟩, ⟨3, [Value.slice p1 n2 c3], none⟩, ⟨4, [], none⟩, ⟨5, [], some (Value.bool false)⟩] (l' := [(27, Value.bool false), (26, Value.int IntKind.i64 (((n2 : Nat) : Int))), (25, Value.slice p1 n2 c3), (24, Value.pointer (some ⟨b, 1, none⟩)), (23, Value.pointer (some ⟨b, 0, none⟩)), (22, Value.pointer (some ⟨b, 0, none⟩)), (0, Value.pointer (some ⟨b, 0, none⟩)), (1, Value.agg #[Value.int IntKind.i64 s, Value.int IntKind.u32 gn]), (3, Value.pointer (some ⟨r9, 0, none⟩)), (4, Value.int IntKind.i64 0), (5, Value.int IntKind.i64 0), (8, Value.bool false), (21, Value.bool false)] ++ lr18) (pts' := [(3, ⟨b, 1, none⟩, Value.slice p1 n2 c3)]) (eqs := [(Value.bool (decide (((n2 : Nat) : Int) ≥ 32)), Value.bool false)]) (by kernel_rfl) ⟨(ov_f (by omega)), trivial⟩ (AllC_cons (sat_cell h16 0 rfl rfl) (AllC_nil _)) ?_
  change Code.wp _ (CA Try.f25 [1, 1, 1, 0, 1]) _ _ _
  refine fr_cut [(0, Value.pointer (some ⟨b, 0, none⟩)), (1, Value.agg #[Value.int IntKind.i64 s, Value.int IntKind.u32 gn]), (3, Value.pointer (some ⟨r9, 0, none⟩)), (4, Value.int IntKind.i64 0), (5, Value.int IntKind.i64 0), (8, Value.bool false), (21, Value.bool false), (27, Value.bool false)] ⟨rfl, rfl, rfl, rfl, rfl, rfl, rfl, rfl, trivial⟩ (fun a => Code.wp _ _ _ a _) (fun lr19 => ?_)
  refine go_cnd (x := (Operand.tmp 27)) (s := CA Try.f25 [1, 1, 1, 0, 1, 0]) (t := CA Try.f25 [1, 1, 1, 0, 1, 1]) false (by kernel_rfl) (by kernel_rfl) ?_
  change Code.wp _ (CA Try.f25 [1, 1, 1, 0, 1, 1]) _ _ _
  refine go_skp (by kernel_rfl) ?_
  change Code.wp _ (CA Try.f25 [1, 1, 1, 1]) _ _ _
  refine go_seq (x := CA Try.f25 [1, 1, 1, 1, 0]) (y := CA Try.f25 [1, 1, 1, 1, 1]) (by kernel_rfl) ?_
  refine go_drw (id := 7) (ops := RA Try.f25 [1, 1, 1, 1, 0]) (Tr.fl 0 (Tr.fl 2 (Tr.fl 3 (Tr.fl 4 (Tr.fl 5 (Tr.fl 7 (Tr.an2 1 (Tr.an2 6 (Tr.an 8 (Tr.an 9 (Tr.fl 10 (Tr.fl 11 (Tr.an 12 Tr.nil))))) 8 (Tr.an 6 (Tr.an 9 (Tr.fl 10 (Tr.fl 11 (Tr.an 12 Tr.nil)))))) 8 (Tr.an 1 (Tr.an 6 (Tr.an 9 (Tr.fl 10 (Tr.fl 11 (Tr.an 12 Tr.nil))))))))))))) (by kernel_rfl) (by kernel_rfl) (by kernel_rfl) (by kernel_rfl) (fun _ _ d _ _ h => by cases d <;> exact h) h16 ?_
  intro w20 h21
  refine draw_batch (t := (Tr.an2 1 (Tr.an2 6 (Tr.an 8 (Tr.an 9 (Tr.fl 10 (Tr.fl 11 (Tr.an 12 Tr.nil))))) 8 (Tr.an 6 (Tr.an 9 (Tr.fl 10 (Tr.fl 11 (Tr.an 12 Tr.nil)))))) 8 (Tr.an 1 (Tr.an 6 (Tr.an 9 (Tr.fl 10 (Tr.fl 11 (Tr.an 12 Tr.nil)))))))) [⟨0, [], none⟩, ⟨2, [], none⟩, ⟨3, [], none⟩, ⟨4, [], none⟩, ⟨5, [Value.slice p1 n2 c3], none⟩, ⟨7, [Value.int IntKind.i64 s, Value.int IntKind.u32 gn], none⟩] (l' := [(35, Value.agg #[Value.int IntKind.i64 s, Value.int IntKind.u32 gn]), (33, Value.slice p1 n2 c3), (32, Value.pointer (some ⟨b, 1, none⟩)), (31, Value.pointer (some ⟨b, 0, none⟩)), (30, Value.pointer (some ⟨b, 0, none⟩)), (28, Value.pointer (some ⟨b, 0, none⟩)), (0, Value.pointer (some ⟨b, 0, none⟩)), (1, Value.agg #[Value.int IntKind.i64 s, Value.int IntKind.u32 gn]), (3, Value.pointer (some ⟨r9, 0, none⟩)), (4, Value.int IntKind.i64 0), (5, Value.int IntKind.i64 0), (8, Value.bool false), (21, Value.bool false), (27, Value.bool false)] ++ lr19) (pts' := [(7, ⟨r9, 0, none⟩, Value.int IntKind.i64 s), (7, ⟨r9, 1, none⟩, Value.int IntKind.u32 gn), (5, ⟨b, 1, none⟩, Value.slice p1 n2 c3)]) (eqs := []) (by kernel_rfl) trivial (AllC_cons (sat_cell h21 1 rfl rfl) (AllC_cons (sat_cell h21 1 rfl rfl) (AllC_cons (sat_cell h21 0 rfl rfl) (AllC_nil _)))) ?_
  refine ⟨?_, ?_⟩
  ·
    refine draw_act (i := 1) [(7, ⟨r9, 0, none⟩, Value.int IntKind.i64 s), (7, ⟨r9, 1, none⟩, Value.int IntKind.u32 gn), (5, ⟨b, 1, none⟩, Value.slice p1 n2 c3)] (by kernel_rfl) (by kernel_rfl) ?_
    refine an_new (d := 29) (fun xb_ => Value.slice (some ⟨xb_, 0, none⟩) 0 0) (fun xb_ => Obj.cells [].toArray 25 (0, 0)) (fun xb_ => by kernel_rfl) (by kernel_rfl) rfl h21 ?_
    intro r22 w23 (h24 : sat g w23 [Cl r22 [] 25, Cl b [Value.bool true, Value.slice p1 n2 c3] 65, Cl r9 [Value.int IntKind.i64 s, Value.int IntKind.u32 gn] 25, Sl 25 2 p1 n2 c3 (fl eR L), R])
    refine ⟨(AllC_cons (sat_cell h24 2 rfl rfl) (AllC_cons (sat_cell h24 2 rfl rfl) (AllC_cons (sat_cell h24 1 rfl rfl) (AllC_nil _)))), ?_⟩
    refine ⟨?_, ?_⟩
    ·
      have h25 : sat g w23 [Sl 25 2 (some ⟨r22, 0, none⟩) 0 0 (fl eR ([])), Cl b [Value.bool true, Value.slice p1 n2 c3] 65, Cl r9 [Value.int IntKind.i64 s, Value.int IntKind.u32 gn] 25, Sl 25 2 p1 n2 c3 (fl eR L), R] := sl_of_cl h24 rfl (by omega)
      refine draw_act (i := 6) [(7, ⟨r9, 0, none⟩, Value.int IntKind.i64 s), (7, ⟨r9, 1, none⟩, Value.int IntKind.u32 gn)] (by kernel_rfl) (by kernel_rfl) ?_
      refine an_append_gv (d := 34) (sz := 2) (s := (Operand.tmp 29)) (x := (Operand.tmp 33)) (z := Value.agg #[Value.int IntKind.i64 0, Value.int IntKind.u32 0]) (p := (some ⟨r22, 0, none⟩)) (p2 := p1) (m := 0) (c := 0) (k := n2) (c2 := c3) (by_ := 16) (by kernel_rfl) (by kernel_rfl) rfl Try.underlying28 (by kernel_rfl) rfl (by decide) (by kernel_rfl) (by kernel_rfl) h25 3 rfl (fl eR L) (gv_sl _ _ _) (by rw [fl_len eR_ok, hn4]) (fl_one eR_ok _) (by omega) (by omega) n2 (by omega) ?_
      intro p26 cap27 w28 (h29 : sat g w28 [Sl 25 2 p26 n2 cap27 ((fl eR ([])) ++ (fl eR L)), Cl b [Value.bool true, Value.slice p1 n2 c3] 65, Cl r9 [Value.int IntKind.i64 s, Value.int IntKind.u32 gn] 25, Sl 25 2 p1 n2 c3 (fl eR L), R])
      have h30 : sat g w28 [Sl 25 2 p26 n2 cap27 (fl eR L), Cl b [Value.bool true, Value.slice p1 n2 c3] 65, Cl r9 [Value.int IntKind.i64 s, Value.int IntKind.u32 gn] 25, Sl 25 2 p1 n2 c3 (fl eR L), R] := sat_imp h29 (fun _ hh => by exact hh)
      obtain ⟨hn31, hn32⟩ := sl_le h30
      refine ⟨(AllC_cons (sat_cell h30 2 rfl rfl) (AllC_cons (sat_cell h30 2 rfl rfl) (AllC_nil _))), ?_⟩
      refine draw_act (i := 8) [] (by kernel_rfl) (by kernel_rfl) ?_
      refine an_new (d := 36) (fun xb_ => Value.slice (some ⟨xb_, 0, none⟩) 1 1) (fun xb_ => Obj.cells [Value.int IntKind.i64 s, Value.int IntKind.u32 gn].toArray 25 (0, 0)) (fun xb_ => by kernel_rfl) (by kernel_rfl) rfl h30 ?_
      intro r33 w34 (h35 : sat g w34 [Cl r33 [Value.int IntKind.i64 s, Value.int IntKind.u32 gn] 25, Sl 25 2 p26 n2 cap27 (fl eR L), Cl b [Value.bool true, Value.slice p1 n2 c3] 65, Cl r9 [Value.int IntKind.i64 s, Value.int IntKind.u32 gn] 25, Sl 25 2 p1 n2 c3 (fl eR L), R])
      refine ⟨(AllC_nil _), ?_⟩
      have h36 : sat g w34 [Sl 25 2 p26 n2 cap27 (fl eR L), Cl r33 [Value.int IntKind.i64 s, Value.int IntKind.u32 gn] 25, Cl b [Value.bool true, Value.slice p1 n2 c3] 65, Cl r9 [Value.int IntKind.i64 s, Value.int IntKind.u32 gn] 25, Sl 25 2 p1 n2 c3 (fl eR L), R] := sat_sel [1, 0, 2, 3, 4, 5] rfl h35
      refine draw_act (i := 9) [] (by kernel_rfl) (by kernel_rfl) ?_
      refine an_append (d := 37) (sz := 2) (s := (Operand.tmp 34)) (x := (Operand.tmp 36)) (z := Value.agg #[Value.int IntKind.i64 0, Value.int IntKind.u32 0]) (p := p26) (m := n2) (c := cap27) (k := 1) (c2 := 1) (a := ⟨r33, 0, none⟩) (by_ := 16) (by kernel_rfl) (by kernel_rfl) rfl Try.underlying28 (by kernel_rfl) rfl (by decide) (by kernel_rfl) (by kernel_rfl) h36 (fl eR [(s, gn)]) rfl (fun j u hj => by rw [add_off]; exact sat_cell h36 1 rfl (by rw [Nat.zero_add]; exact hj)) (fl_one eR_ok _) (by omega) (by omega) (n2 + 1) (by omega) ?_
      intro p37 cap38 w39 (h40 : sat g w39 [Sl 25 2 p37 (n2 + 1) cap38 ((fl eR L) ++ (fl eR [(s, gn)])), Cl r33 [Value.int IntKind.i64 s, Value.int IntKind.u32 gn] 25, Cl b [Value.bool true, Value.slice p1 n2 c3] 65, Cl r9 [Value.int IntKind.i64 s, Value.int IntKind.u32 gn] 25, Sl 25 2 p1 n2 c3 (fl eR L), R])
      have h41 : sat g w39 [Sl 25 2 p37 (n2 + 1) cap38 (fl eR (L ++ [(s, gn)])), Cl r33 [Value.int IntKind.i64 s, Value.int IntKind.u32 gn] 25, Cl b [Value.bool true, Value.slice p1 n2 c3] 65, Cl r9 [Value.int IntKind.i64 s, Value.int IntKind.u32 gn] 25, Sl 25 2 p1 n2 c3 (fl eR L), R] := sat_imp h40 (fun _ hh => by rw [fl_app]; exact hh)
      obtain ⟨hn42, hn43⟩ := sl_le h41
      refine ⟨(AllC_nil _), ?_⟩
      refine draw_batch (t := (Tr.an 12 Tr.nil)) [⟨10, [], none⟩, ⟨11, [], none⟩] (l' := [(39, Value.pointer (some ⟨b, 1, none⟩)), (38, Value.pointer (some ⟨b, 0, none⟩)), (37, Value.slice p37 (n2 + 1) cap38), (36, Value.slice (some ⟨r33, 0, none⟩) 1 1), (34, Value.slice p26 n2 cap27), (29, Value.slice (some ⟨r22, 0, none⟩) 0 0), (35, Value.agg #[Value.int IntKind.i64 s, Value.int IntKind.u32 gn]), (33, Value.slice p1 n2 c3), (32, Value.pointer (some ⟨b, 1, none⟩)), (31, Value.pointer (some ⟨b, 0, none⟩)), (30, Value.pointer (some ⟨b, 0, none⟩)), (28, Value.pointer (some ⟨b, 0, none⟩)), (0, Value.pointer (some ⟨b, 0, none⟩)), (1, Value.agg #[Value.int IntKind.i64 s, Value.int IntKind.u32 gn]), (3, Value.pointer (some ⟨r9, 0, none⟩)), (4, Value.int IntKind.i64 0), (5, Value.int IntKind.i64 0), (8, Value.bool false), (21, Value.bool false), (27, Value.bool false)] ++ lr19) (pts' := []) (eqs := []) (by kernel_rfl) trivial (AllC_nil _) ?_
      have h44 : sat g w39 [Cl b [Value.bool true, Value.slice p1 n2 c3] 65, Sl 25 2 p37 (n2 + 1) cap38 (fl eR (L ++ [(s, gn)])), Cl r33 [Value.int IntKind.i64 s, Value.int IntKind.u32 gn] 25, Cl r9 [Value.int IntKind.i64 s, Value.int IntKind.u32 gn] 25, Sl 25 2 p1 n2 c3 (fl eR L), R] := sat_sel [2, 0, 1, 3, 4, 5] rfl h41
      refine draw_act (i := 12) [] (by kernel_rfl) (by kernel_rfl) ?_
      refine an_store [(1, Value.slice p37 (n2 + 1) cap38)] (cs' := [Value.bool true, Value.slice p37 (n2 + 1) cap38]) (by kernel_rfl) (by kernel_rfl) (allq ⟨⟨by simp, rfl⟩, trivial⟩) rfl h44 ?_
      intro w45 (h46 : sat g w45 [Cl b [Value.bool true, Value.slice p37 (n2 + 1) cap38] 65, Sl 25 2 p37 (n2 + 1) cap38 (fl eR (L ++ [(s, gn)])), Cl r33 [Value.int IntKind.i64 s, Value.int IntKind.u32 gn] 25, Cl r9 [Value.int IntKind.i64 s, Value.int IntKind.u32 gn] 25, Sl 25 2 p1 n2 c3 (fl eR L), R])
      refine ⟨(AllC_nil _), ?_⟩
      change Code.wp _ (CA Try.f25 [1, 1, 1, 1, 1]) _ _ _
      refine fr_cut [(0, Value.pointer (some ⟨b, 0, none⟩)), (1, Value.agg #[Value.int IntKind.i64 s, Value.int IntKind.u32 gn]), (3, Value.pointer (some ⟨r9, 0, none⟩)), (4, Value.int IntKind.i64 0), (5, Value.int IntKind.i64 0), (8, Value.bool false), (21, Value.bool false), (27, Value.bool false)] ⟨rfl, rfl, rfl, rfl, rfl, rfl, rfl, rfl, trivial⟩ (fun a => Code.wp _ _ _ a _) (fun lr47 => ?_)
      refine go_seq (x := CA Try.f25 [1, 1, 1, 1, 1, 0]) (y := CA Try.f25 [1, 1, 1, 1, 1, 1]) (by kernel_rfl) ?_
      refine go_pln (id := 8) (ops := RA Try.f25 [1, 1, 1, 1, 1, 0]) [0, 1, 2, 3, 4, 5, 6, 7] (by kernel_rfl) (by kernel_rfl) ?_
      refine plain_batch (rest := []) [⟨0, [], none⟩, ⟨1, [], none⟩, ⟨2, [], none⟩, ⟨3, [Value.slice p37 (n2 + 1) cap38], none⟩, ⟨4, [], some (Value.int IntKind.i64 (((n2 : Nat) : Int) + 1))⟩, ⟨5, [], some (Value.int IntKind.i64 (((n2 : Nat) : Int)))⟩, ⟨6, [], none⟩, ⟨7, [], none⟩] (l' := [(5, Value.int IntKind.i64 0), (4, Value.int IntKind.i64 (((n2 : Nat) : Int))), (45, Value.int IntKind.i64 (((n2 : Nat) : Int))), (44, Value.int IntKind.i64 (((n2 : Nat) : Int) + 1)), (43, Value.slice p37 (n2 + 1) cap38), (42, Value.pointer (some ⟨b, 1, none⟩)), (41, Value.pointer (some ⟨b, 0, none⟩)), (40, Value.pointer (some ⟨b, 0, none⟩)), (0, Value.pointer (some ⟨b, 0, none⟩)), (1, Value.agg #[Value.int IntKind.i64 s, Value.int IntKind.u32 gn]), (3, Value.pointer (some ⟨r9, 0, none⟩)), (4, Value.int IntKind.i64 0), (5, Value.int IntKind.i64 0), (8, Value.bool false), (21, Value.bool false), (27, Value.bool false)] ++ lr47) (pts' := [(3, ⟨b, 1, none⟩, Value.slice p37 (n2 + 1) cap38)]) (eqs := [(Value.int IntKind.i64 ((n2 + 1 : Nat) : Int), Value.int IntKind.i64 (((n2 : Nat) : Int) + 1)), (Value.int IntKind.i64 (IntKind.wrap IntKind.i64 ((((n2 : Nat) : Int) + 1) - 1)), Value.int IntKind.i64 (((n2 : Nat) : Int)))]) (by kernel_rfl) ⟨(ov_int (by omega)), (ov_i64 (by omega) (by omega) (by omega)), trivial⟩ (AllC_cons (sat_cell h46 0 rfl rfl) (AllC_nil _)) ?_
      change Code.wp _ (CA Try.f25 [1, 1, 1, 1, 1, 1]) _ _ _
      refine fr_cut [(0, Value.pointer (some ⟨b, 0, none⟩)), (1, Value.agg #[Value.int IntKind.i64 s, Value.int IntKind.u32 gn]), (3, Value.pointer (some ⟨r9, 0, none⟩)), (4, Value.int IntKind.i64 (((n2 : Nat) : Int))), (5, Value.int IntKind.i64 0), (8, Value.bool false), (21, Value.bool false), (27, Value.bool false)] ⟨rfl, rfl, rfl, rfl, rfl, rfl, rfl, rfl, trivial⟩ (fun a => Code.wp _ _ _ a _) (fun lr48 => ?_)
      refine go_rt (by kernel_rfl) ?_
      have hl50 := fl_n eR_ok (by decide) (sat_sel [1] rfl h46)
      have h49 : sat g w45 [RStk b (L ++ [(s, gn)]), Cl r33 [Value.int IntKind.i64 s, Value.int IntKind.u32 gn] 25, Cl r9 [Value.int IntKind.i64 s, Value.int IntKind.u32 gn] 25, Sl 25 2 p1 n2 c3 (fl eR L), R] := rstk_close h46 hl50
      try simp only [Exit.inBlock, Exit.then]
      have h51 : sat g w45 [RStk b (L ++ [(s, gn)]), R] := sat_sel [0, 4] rfl h49
      refine ht_out [] (Value.tuple #[Value.int IntKind.i64 (((n2 : Nat) : Int)), Value.int IntKind.i64 0]) [] (by kernel_rfl) (by intro q hq; cases hq) ?_
      exact ⟨Value.tuple #[Value.int IntKind.i64 (((n2 : Nat) : Int)), Value.int IntKind.i64 0], [RStk b (L ++ [(s, gn)])], rfl, ⟨congrArg (fun q => Value.tuple #[q, Value.int .i64 0]) (ov_int (by omega)), rfl⟩, h51⟩
    ·
      refine draw_act (i := 8) [(5, ⟨b, 1, none⟩, Value.slice p1 n2 c3)] (by kernel_rfl) (by kernel_rfl) ?_
      refine an_new (d := 36) (fun xb_ => Value.slice (some ⟨xb_, 0, none⟩) 1 1) (fun xb_ => Obj.cells [Value.int IntKind.i64 s, Value.int IntKind.u32 gn].toArray 25 (0, 0)) (fun xb_ => by kernel_rfl) (by kernel_rfl) rfl h24 ?_
      intro r52 w53 (h54 : sat g w53 [Cl r52 [Value.int IntKind.i64 s, Value.int IntKind.u32 gn] 25, Cl r22 [] 25, Cl b [Value.bool true, Value.slice p1 n2 c3] 65, Cl r9 [Value.int IntKind.i64 s, Value.int IntKind.u32 gn] 25, Sl 25 2 p1 n2 c3 (fl eR L), R])
      refine ⟨(AllC_cons (sat_cell h54 2 rfl rfl) (AllC_nil _)), ?_⟩
      have h55 : sat g w53 [Cl r22 [] 25, Cl r52 [Value.int IntKind.i64 s, Value.int IntKind.u32 gn] 25, Cl b [Value.bool true, Value.slice p1 n2 c3] 65, Cl r9 [Value.int IntKind.i64 s, Value.int IntKind.u32 gn] 25, Sl 25 2 p1 n2 c3 (fl eR L), R] := sat_sel [1, 0, 2, 3, 4, 5] rfl h54
      have h56 : sat g w53 [Sl 25 2 (some ⟨r22, 0, none⟩) 0 0 (fl eR ([])), Cl r52 [Value.int IntKind.i64 s, Value.int IntKind.u32 gn] 25, Cl b [Value.bool true, Value.slice p1 n2 c3] 65, Cl r9 [Value.int IntKind.i64 s, Value.int IntKind.u32 gn] 25, Sl 25 2 p1 n2 c3 (fl eR L), R] := sl_of_cl h55 rfl (by omega)
      refine draw_act (i := 6) [] (by kernel_rfl) (by kernel_rfl) ?_
      refine an_append_gv (d := 34) (sz := 2) (s := (Operand.tmp 29)) (x := (Operand.tmp 33)) (z := Value.agg #[Value.int IntKind.i64 0, Value.int IntKind.u32 0]) (p := (some ⟨r22, 0, none⟩)) (p2 := p1) (m := 0) (c := 0) (k := n2) (c2 := c3) (by_ := 16) (by kernel_rfl) (by kernel_rfl) rfl Try.underlying28 (by kernel_rfl) rfl (by decide) (by kernel_rfl) (by kernel_rfl) h56 4 rfl (fl eR L) (gv_sl _ _ _) (by rw [fl_len eR_ok, hn4]) (fl_one eR_ok _) (by omega) (by omega) n2 (by omega) ?_
      intro p57 cap58 w59 (h60 : sat g w59 [Sl 25 2 p57 n2 cap58 ((fl eR ([])) ++ (fl eR L)), Cl r52 [Value.int IntKind.i64 s, Value.int IntKind.u32 gn] 25, Cl b [Value.bool true, Value.slice p1 n2 c3] 65, Cl r9 [Value.int IntKind.i64 s, Value.int IntKind.u32 gn] 25, Sl 25 2 p1 n2 c3 (fl eR L), R])
      have h61 : sat g w59 [Sl 25 2 p57 n2 cap58 (fl eR L), Cl r52 [Value.int IntKind.i64 s, Value.int IntKind.u32 gn] 25, Cl b [Value.bool true, Value.slice p1 n2 c3] 65, Cl r9 [Value.int IntKind.i64 s, Value.int IntKind.u32 gn] 25, Sl 25 2 p1 n2 c3 (fl eR L), R] := sat_imp h60 (fun _ hh => by exact hh)
      obtain ⟨hn62, hn63⟩ := sl_le h61
      refine ⟨(AllC_nil _), ?_⟩
      refine draw_act (i := 9) [] (by kernel_rfl) (by kernel_rfl) ?_
      refine an_append (d := 37) (sz := 2) (s := (Operand.tmp 34)) (x := (Operand.tmp 36)) (z := Value.agg #[Value.int IntKind.i64 0, Value.int IntKind.u32 0]) (p := p57) (m := n2) (c := cap58) (k := 1) (c2 := 1) (a := ⟨r52, 0, none⟩) (by_ := 16) (by kernel_rfl) (by kernel_rfl) rfl Try.underlying28 (by kernel_rfl) rfl (by decide) (by kernel_rfl) (by kernel_rfl) h61 (fl eR [(s, gn)]) rfl (fun j u hj => by rw [add_off]; exact sat_cell h61 1 rfl (by rw [Nat.zero_add]; exact hj)) (fl_one eR_ok _) (by omega) (by omega) (n2 + 1) (by omega) ?_
      intro p64 cap65 w66 (h67 : sat g w66 [Sl 25 2 p64 (n2 + 1) cap65 ((fl eR L) ++ (fl eR [(s, gn)])), Cl r52 [Value.int IntKind.i64 s, Value.int IntKind.u32 gn] 25, Cl b [Value.bool true, Value.slice p1 n2 c3] 65, Cl r9 [Value.int IntKind.i64 s, Value.int IntKind.u32 gn] 25, Sl 25 2 p1 n2 c3 (fl eR L), R])
      have h68 : sat g w66 [Sl 25 2 p64 (n2 + 1) cap65 (fl eR (L ++ [(s, gn)])), Cl r52 [Value.int IntKind.i64 s, Value.int IntKind.u32 gn] 25, Cl b [Value.bool true, Value.slice p1 n2 c3] 65, Cl r9 [Value.int IntKind.i64 s, Value.int IntKind.u32 gn] 25, Sl 25 2 p1 n2 c3 (fl eR L), R] := sat_imp h67 (fun _ hh => by rw [fl_app]; exact hh)
      obtain ⟨hn69, hn70⟩ := sl_le h68
      refine ⟨(AllC_nil _), ?_⟩
      refine draw_batch (t := (Tr.an 12 Tr.nil)) [⟨10, [], none⟩, ⟨11, [], none⟩] (l' := [(39, Value.pointer (some ⟨b, 1, none⟩)), (38, Value.pointer (some ⟨b, 0, none⟩)), (37, Value.slice p64 (n2 + 1) cap65), (34, Value.slice p57 n2 cap58), (36, Value.slice (some ⟨r52, 0, none⟩) 1 1), (29, Value.slice (some ⟨r22, 0, none⟩) 0 0), (35, Value.agg #[Value.int IntKind.i64 s, Value.int IntKind.u32 gn]), (33, Value.slice p1 n2 c3), (32, Value.pointer (some ⟨b, 1, none⟩)), (31, Value.pointer (some ⟨b, 0, none⟩)), (30, Value.pointer (some ⟨b, 0, none⟩)), (28, Value.pointer (some ⟨b, 0, none⟩)), (0, Value.pointer (some ⟨b, 0, none⟩)), (1, Value.agg #[Value.int IntKind.i64 s, Value.int IntKind.u32 gn]), (3, Value.pointer (some ⟨r9, 0, none⟩)), (4, Value.int IntKind.i64 0), (5, Value.int IntKind.i64 0), (8, Value.bool false), (21, Value.bool false), (27, Value.bool false)] ++ lr19) (pts' := []) (eqs := []) (by kernel_rfl) trivial (AllC_nil _) ?_
      have h71 : sat g w66 [Cl b [Value.bool true, Value.slice p1 n2 c3] 65, Sl 25 2 p64 (n2 + 1) cap65 (fl eR (L ++ [(s, gn)])), Cl r52 [Value.int IntKind.i64 s, Value.int IntKind.u32 gn] 25, Cl r9 [Value.int IntKind.i64 s, Value.int IntKind.u32 gn] 25, Sl 25 2 p1 n2 c3 (fl eR L), R] := sat_sel [2, 0, 1, 3, 4, 5] rfl h68
      refine draw_act (i := 12) [] (by kernel_rfl) (by kernel_rfl) ?_
      refine an_store [(1, Value.slice p64 (n2 + 1) cap65)] (cs' := [Value.bool true, Value.slice p64 (n2 + 1) cap65]) (by kernel_rfl) (by kernel_rfl) (allq ⟨⟨by simp, rfl⟩, trivial⟩) rfl h71 ?_
      intro w72 (h73 : sat g w72 [Cl b [Value.bool true, Value.slice p64 (n2 + 1) cap65] 65, Sl 25 2 p64 (n2 + 1) cap65 (fl eR (L ++ [(s, gn)])), Cl r52 [Value.int IntKind.i64 s, Value.int IntKind.u32 gn] 25, Cl r9 [Value.int IntKind.i64 s, Value.int IntKind.u32 gn] 25, Sl 25 2 p1 n2 c3 (fl eR L), R])
      refine ⟨(AllC_nil _), ?_⟩
      change Code.wp _ (CA Try.f25 [1, 1, 1, 1, 1]) _ _ _
      refine fr_cut [(0, Value.pointer (some ⟨b, 0, none⟩)), (1, Value.agg #[Value.int IntKind.i64 s, Value.int IntKind.u32 gn]), (3, Value.pointer (some ⟨r9, 0, none⟩)), (4, Value.int IntKind.i64 0), (5, Value.int IntKind.i64 0), (8, Value.bool false), (21, Value.bool false), (27, Value.bool false)] ⟨rfl, rfl, rfl, rfl, rfl, rfl, rfl, rfl, trivial⟩ (fun a => Code.wp _ _ _ a _) (fun lr74 => ?_)
      refine go_seq (x := CA Try.f25 [1, 1, 1, 1, 1, 0]) (y := CA Try.f25 [1, 1, 1, 1, 1, 1]) (by kernel_rfl) ?_
      refine go_pln (id := 8) (ops := RA Try.f25 [1, 1, 1, 1, 1, 0]) [0, 1, 2, 3, 4, 5, 6, 7] (by kernel_rfl) (by kernel_rfl) ?_
      refine plain_batch (rest := []) [⟨0, [], none⟩, ⟨1, [], none⟩, ⟨2, [], none⟩, ⟨3, [Value.slice p64 (n2 + 1) cap65], none⟩, ⟨4, [], some (Value.int IntKind.i64 (((n2 : Nat) : Int) + 1))⟩, ⟨5, [], some (Value.int IntKind.i64 (((n2 : Nat) : Int)))⟩, ⟨6, [], none⟩, ⟨7, [], none⟩] (l' := [(5, Value.int IntKind.i64 0), (4, Value.int IntKind.i64 (((n2 : Nat) : Int))), (45, Value.int IntKind.i64 (((n2 : Nat) : Int))), (44, Value.int IntKind.i64 (((n2 : Nat) : Int) + 1)), (43, Value.slice p64 (n2 + 1) cap65), (42, Value.pointer (some ⟨b, 1, none⟩)), (41, Value.pointer (some ⟨b, 0, none⟩)), (40, Value.pointer (some ⟨b, 0, none⟩)), (0, Value.pointer (some ⟨b, 0, none⟩)), (1, Value.agg #[Value.int IntKind.i64 s, Value.int IntKind.u32 gn]), (3, Value.pointer (some ⟨r9, 0, none⟩)), (4, Value.int IntKind.i64 0), (5, Value.int IntKind.i64 0), (8, Value.bool false), (21, Value.bool false), (27, Value.bool false)] ++ lr74) (pts' := [(3, ⟨b, 1, none⟩, Value.slice p64 (n2 + 1) cap65)]) (eqs := [(Value.int IntKind.i64 ((n2 + 1 : Nat) : Int), Value.int IntKind.i64 (((n2 : Nat) : Int) + 1)), (Value.int IntKind.i64 (IntKind.wrap IntKind.i64 ((((n2 : Nat) : Int) + 1) - 1)), Value.int IntKind.i64 (((n2 : Nat) : Int)))]) (by kernel_rfl) ⟨(ov_int (by omega)), (ov_i64 (by omega) (by omega) (by omega)), trivial⟩ (AllC_cons (sat_cell h73 0 rfl rfl) (AllC_nil _)) ?_
      change Code.wp _ (CA Try.f25 [1, 1, 1, 1, 1, 1]) _ _ _
      refine fr_cut [(0, Value.pointer (some ⟨b, 0, none⟩)), (1, Value.agg #[Value.int IntKind.i64 s, Value.int IntKind.u32 gn]), (3, Value.pointer (some ⟨r9, 0, none⟩)), (4, Value.int IntKind.i64 (((n2 : Nat) : Int))), (5, Value.int IntKind.i64 0), (8, Value.bool false), (21, Value.bool false), (27, Value.bool false)] ⟨rfl, rfl, rfl, rfl, rfl, rfl, rfl, rfl, trivial⟩ (fun a => Code.wp _ _ _ a _) (fun lr75 => ?_)
      refine go_rt (by kernel_rfl) ?_
      have hl77 := fl_n eR_ok (by decide) (sat_sel [1] rfl h73)
      have h76 : sat g w72 [RStk b (L ++ [(s, gn)]), Cl r52 [Value.int IntKind.i64 s, Value.int IntKind.u32 gn] 25, Cl r9 [Value.int IntKind.i64 s, Value.int IntKind.u32 gn] 25, Sl 25 2 p1 n2 c3 (fl eR L), R] := rstk_close h73 hl77
      try simp only [Exit.inBlock, Exit.then]
      have h78 : sat g w72 [RStk b (L ++ [(s, gn)]), R] := sat_sel [0, 4] rfl h76
      refine ht_out [] (Value.tuple #[Value.int IntKind.i64 (((n2 : Nat) : Int)), Value.int IntKind.i64 0]) [] (by kernel_rfl) (by intro q hq; cases hq) ?_
      exact ⟨Value.tuple #[Value.int IntKind.i64 (((n2 : Nat) : Int)), Value.int IntKind.i64 0], [RStk b (L ++ [(s, gn)])], rfl, ⟨congrArg (fun q => Value.tuple #[q, Value.int .i64 0]) (ov_int (by omega)), rfl⟩, h78⟩
  ·
    refine draw_act (i := 8) [(5, ⟨b, 1, none⟩, Value.slice p1 n2 c3)] (by kernel_rfl) (by kernel_rfl) ?_
    refine an_new (d := 36) (fun xb_ => Value.slice (some ⟨xb_, 0, none⟩) 1 1) (fun xb_ => Obj.cells [Value.int IntKind.i64 s, Value.int IntKind.u32 gn].toArray 25 (0, 0)) (fun xb_ => by kernel_rfl) (by kernel_rfl) rfl h21 ?_
    intro r79 w80 (h81 : sat g w80 [Cl r79 [Value.int IntKind.i64 s, Value.int IntKind.u32 gn] 25, Cl b [Value.bool true, Value.slice p1 n2 c3] 65, Cl r9 [Value.int IntKind.i64 s, Value.int IntKind.u32 gn] 25, Sl 25 2 p1 n2 c3 (fl eR L), R])
    refine ⟨(AllC_cons (sat_cell h81 1 rfl rfl) (AllC_nil _)), ?_⟩
    refine draw_act (i := 1) [(5, ⟨b, 1, none⟩, Value.slice p1 n2 c3)] (by kernel_rfl) (by kernel_rfl) ?_
    refine an_new (d := 29) (fun xb_ => Value.slice (some ⟨xb_, 0, none⟩) 0 0) (fun xb_ => Obj.cells [].toArray 25 (0, 0)) (fun xb_ => by kernel_rfl) (by kernel_rfl) rfl h81 ?_
    intro r82 w83 (h84 : sat g w83 [Cl r82 [] 25, Cl r79 [Value.int IntKind.i64 s, Value.int IntKind.u32 gn] 25, Cl b [Value.bool true, Value.slice p1 n2 c3] 65, Cl r9 [Value.int IntKind.i64 s, Value.int IntKind.u32 gn] 25, Sl 25 2 p1 n2 c3 (fl eR L), R])
    refine ⟨(AllC_cons (sat_cell h84 2 rfl rfl) (AllC_nil _)), ?_⟩
    have h85 : sat g w83 [Sl 25 2 (some ⟨r82, 0, none⟩) 0 0 (fl eR ([])), Cl r79 [Value.int IntKind.i64 s, Value.int IntKind.u32 gn] 25, Cl b [Value.bool true, Value.slice p1 n2 c3] 65, Cl r9 [Value.int IntKind.i64 s, Value.int IntKind.u32 gn] 25, Sl 25 2 p1 n2 c3 (fl eR L), R] := sl_of_cl h84 rfl (by omega)
    refine draw_act (i := 6) [] (by kernel_rfl) (by kernel_rfl) ?_
    refine an_append_gv (d := 34) (sz := 2) (s := (Operand.tmp 29)) (x := (Operand.tmp 33)) (z := Value.agg #[Value.int IntKind.i64 0, Value.int IntKind.u32 0]) (p := (some ⟨r82, 0, none⟩)) (p2 := p1) (m := 0) (c := 0) (k := n2) (c2 := c3) (by_ := 16) (by kernel_rfl) (by kernel_rfl) rfl Try.underlying28 (by kernel_rfl) rfl (by decide) (by kernel_rfl) (by kernel_rfl) h85 4 rfl (fl eR L) (gv_sl _ _ _) (by rw [fl_len eR_ok, hn4]) (fl_one eR_ok _) (by omega) (by omega) n2 (by omega) ?_
    intro p86 cap87 w88 (h89 : sat g w88 [Sl 25 2 p86 n2 cap87 ((fl eR ([])) ++ (fl eR L)), Cl r79 [Value.int IntKind.i64 s, Value.int IntKind.u32 gn] 25, Cl b [Value.bool true, Value.slice p1 n2 c3] 65, Cl r9 [Value.int IntKind.i64 s, Value.int IntKind.u32 gn] 25, Sl 25 2 p1 n2 c3 (fl eR L), R])
    have h90 : sat g w88 [Sl 25 2 p86 n2 cap87 (fl eR L), Cl r79 [Value.int IntKind.i64 s, Value.int IntKind.u32 gn] 25, Cl b [Value.bool true, Value.slice p1 n2 c3] 65, Cl r9 [Value.int IntKind.i64 s, Value.int IntKind.u32 gn] 25, Sl 25 2 p1 n2 c3 (fl eR L), R] := sat_imp h89 (fun _ hh => by exact hh)
    obtain ⟨hn91, hn92⟩ := sl_le h90
    refine ⟨(AllC_nil _), ?_⟩
    refine draw_act (i := 9) [] (by kernel_rfl) (by kernel_rfl) ?_
    refine an_append (d := 37) (sz := 2) (s := (Operand.tmp 34)) (x := (Operand.tmp 36)) (z := Value.agg #[Value.int IntKind.i64 0, Value.int IntKind.u32 0]) (p := p86) (m := n2) (c := cap87) (k := 1) (c2 := 1) (a := ⟨r79, 0, none⟩) (by_ := 16) (by kernel_rfl) (by kernel_rfl) rfl Try.underlying28 (by kernel_rfl) rfl (by decide) (by kernel_rfl) (by kernel_rfl) h90 (fl eR [(s, gn)]) rfl (fun j u hj => by rw [add_off]; exact sat_cell h90 1 rfl (by rw [Nat.zero_add]; exact hj)) (fl_one eR_ok _) (by omega) (by omega) (n2 + 1) (by omega) ?_
    intro p93 cap94 w95 (h96 : sat g w95 [Sl 25 2 p93 (n2 + 1) cap94 ((fl eR L) ++ (fl eR [(s, gn)])), Cl r79 [Value.int IntKind.i64 s, Value.int IntKind.u32 gn] 25, Cl b [Value.bool true, Value.slice p1 n2 c3] 65, Cl r9 [Value.int IntKind.i64 s, Value.int IntKind.u32 gn] 25, Sl 25 2 p1 n2 c3 (fl eR L), R])
    have h97 : sat g w95 [Sl 25 2 p93 (n2 + 1) cap94 (fl eR (L ++ [(s, gn)])), Cl r79 [Value.int IntKind.i64 s, Value.int IntKind.u32 gn] 25, Cl b [Value.bool true, Value.slice p1 n2 c3] 65, Cl r9 [Value.int IntKind.i64 s, Value.int IntKind.u32 gn] 25, Sl 25 2 p1 n2 c3 (fl eR L), R] := sat_imp h96 (fun _ hh => by rw [fl_app]; exact hh)
    obtain ⟨hn98, hn99⟩ := sl_le h97
    refine ⟨(AllC_nil _), ?_⟩
    refine draw_batch (t := (Tr.an 12 Tr.nil)) [⟨10, [], none⟩, ⟨11, [], none⟩] (l' := [(39, Value.pointer (some ⟨b, 1, none⟩)), (38, Value.pointer (some ⟨b, 0, none⟩)), (37, Value.slice p93 (n2 + 1) cap94), (34, Value.slice p86 n2 cap87), (29, Value.slice (some ⟨r82, 0, none⟩) 0 0), (36, Value.slice (some ⟨r79, 0, none⟩) 1 1), (35, Value.agg #[Value.int IntKind.i64 s, Value.int IntKind.u32 gn]), (33, Value.slice p1 n2 c3), (32, Value.pointer (some ⟨b, 1, none⟩)), (31, Value.pointer (some ⟨b, 0, none⟩)), (30, Value.pointer (some ⟨b, 0, none⟩)), (28, Value.pointer (some ⟨b, 0, none⟩)), (0, Value.pointer (some ⟨b, 0, none⟩)), (1, Value.agg #[Value.int IntKind.i64 s, Value.int IntKind.u32 gn]), (3, Value.pointer (some ⟨r9, 0, none⟩)), (4, Value.int IntKind.i64 0), (5, Value.int IntKind.i64 0), (8, Value.bool false), (21, Value.bool false), (27, Value.bool false)] ++ lr19) (pts' := []) (eqs := []) (by kernel_rfl) trivial (AllC_nil _) ?_
    have h100 : sat g w95 [Cl b [Value.bool true, Value.slice p1 n2 c3] 65, Sl 25 2 p93 (n2 + 1) cap94 (fl eR (L ++ [(s, gn)])), Cl r79 [Value.int IntKind.i64 s, Value.int IntKind.u32 gn] 25, Cl r9 [Value.int IntKind.i64 s, Value.int IntKind.u32 gn] 25, Sl 25 2 p1 n2 c3 (fl eR L), R] := sat_sel [2, 0, 1, 3, 4, 5] rfl h97
    refine draw_act (i := 12) [] (by kernel_rfl) (by kernel_rfl) ?_
    refine an_store [(1, Value.slice p93 (n2 + 1) cap94)] (cs' := [Value.bool true, Value.slice p93 (n2 + 1) cap94]) (by kernel_rfl) (by kernel_rfl) (allq ⟨⟨by simp, rfl⟩, trivial⟩) rfl h100 ?_
    intro w101 (h102 : sat g w101 [Cl b [Value.bool true, Value.slice p93 (n2 + 1) cap94] 65, Sl 25 2 p93 (n2 + 1) cap94 (fl eR (L ++ [(s, gn)])), Cl r79 [Value.int IntKind.i64 s, Value.int IntKind.u32 gn] 25, Cl r9 [Value.int IntKind.i64 s, Value.int IntKind.u32 gn] 25, Sl 25 2 p1 n2 c3 (fl eR L), R])
    refine ⟨(AllC_nil _), ?_⟩
    change Code.wp _ (CA Try.f25 [1, 1, 1, 1, 1]) _ _ _
    refine fr_cut [(0, Value.pointer (some ⟨b, 0, none⟩)), (1, Value.agg #[Value.int IntKind.i64 s, Value.int IntKind.u32 gn]), (3, Value.pointer (some ⟨r9, 0, none⟩)), (4, Value.int IntKind.i64 0), (5, Value.int IntKind.i64 0), (8, Value.bool false), (21, Value.bool false), (27, Value.bool false)] ⟨rfl, rfl, rfl, rfl, rfl, rfl, rfl, rfl, trivial⟩ (fun a => Code.wp _ _ _ a _) (fun lr103 => ?_)
    refine go_seq (x := CA Try.f25 [1, 1, 1, 1, 1, 0]) (y := CA Try.f25 [1, 1, 1, 1, 1, 1]) (by kernel_rfl) ?_
    refine go_pln (id := 8) (ops := RA Try.f25 [1, 1, 1, 1, 1, 0]) [0, 1, 2, 3, 4, 5, 6, 7] (by kernel_rfl) (by kernel_rfl) ?_
    refine plain_batch (rest := []) [⟨0, [], none⟩, ⟨1, [], none⟩, ⟨2, [], none⟩, ⟨3, [Value.slice p93 (n2 + 1) cap94], none⟩, ⟨4, [], some (Value.int IntKind.i64 (((n2 : Nat) : Int) + 1))⟩, ⟨5, [], some (Value.int IntKind.i64 (((n2 : Nat) : Int)))⟩, ⟨6, [], none⟩, ⟨7, [], none⟩] (l' := [(5, Value.int IntKind.i64 0), (4, Value.int IntKind.i64 (((n2 : Nat) : Int))), (45, Value.int IntKind.i64 (((n2 : Nat) : Int))), (44, Value.int IntKind.i64 (((n2 : Nat) : Int) + 1)), (43, Value.slice p93 (n2 + 1) cap94), (42, Value.pointer (some ⟨b, 1, none⟩)), (41, Value.pointer (some ⟨b, 0, none⟩)), (40, Value.pointer (some ⟨b, 0, none⟩)), (0, Value.pointer (some ⟨b, 0, none⟩)), (1, Value.agg #[Value.int IntKind.i64 s, Value.int IntKind.u32 gn]), (3, Value.pointer (some ⟨r9, 0, none⟩)), (4, Value.int IntKind.i64 0), (5, Value.int IntKind.i64 0), (8, Value.bool false), (21, Value.bool false), (27, Value.bool false)] ++ lr103) (pts' := [(3, ⟨b, 1, none⟩, Value.slice p93 (n2 + 1) cap94)]) (eqs := [(Value.int IntKind.i64 ((n2 + 1 : Nat) : Int), Value.int IntKind.i64 (((n2 : Nat) : Int) + 1)), (Value.int IntKind.i64 (IntKind.wrap IntKind.i64 ((((n2 : Nat) : Int) + 1) - 1)), Value.int IntKind.i64 (((n2 : Nat) : Int)))]) (by kernel_rfl) ⟨(ov_int (by omega)), (ov_i64 (by omega) (by omega) (by omega)), trivial⟩ (AllC_cons (sat_cell h102 0 rfl rfl) (AllC_nil _)) ?_
    change Code.wp _ (CA Try.f25 [1, 1, 1, 1, 1, 1]) _ _ _
    refine fr_cut [(0, Value.pointer (some ⟨b, 0, none⟩)), (1, Value.agg #[Value.int IntKind.i64 s, Value.int IntKind.u32 gn]), (3, Value.pointer (some ⟨r9, 0, none⟩)), (4, Value.int IntKind.i64 (((n2 : Nat) : Int))), (5, Value.int IntKind.i64 0), (8, Value.bool false), (21, Value.bool false), (27, Value.bool false)] ⟨rfl, rfl, rfl, rfl, rfl, rfl, rfl, rfl, trivial⟩ (fun a => Code.wp _ _ _ a _) (fun lr104 => ?_)
    refine go_rt (by kernel_rfl) ?_
    have hl106 := fl_n eR_ok (by decide) (sat_sel [1] rfl h102)
    have h105 : sat g w101 [RStk b (L ++ [(s, gn)]), Cl r79 [Value.int IntKind.i64 s, Value.int IntKind.u32 gn] 25, Cl r9 [Value.int IntKind.i64 s, Value.int IntKind.u32 gn] 25, Sl 25 2 p1 n2 c3 (fl eR L), R] := rstk_close h102 hl106
    try simp only [Exit.inBlock, Exit.then]
    have h107 : sat g w101 [RStk b (L ++ [(s, gn)]), R] := sat_sel [0, 4] rfl h105
    refine ht_out [] (Value.tuple #[Value.int IntKind.i64 (((n2 : Nat) : Int)), Value.int IntKind.i64 0]) [] (by kernel_rfl) (by intro q hq; cases hq) ?_
    exact ⟨Value.tuple #[Value.int IntKind.i64 (((n2 : Nat) : Int)), Value.int IntKind.i64 0], [RStk b (L ++ [(s, gn)])], rfl, ⟨congrArg (fun q => Value.tuple #[q, Value.int .i64 0]) (ov_int (by omega)), rfl⟩, h107⟩

set_option maxHeartbeats 4000000 in
theorem rpush_nf (b n : Nat) (L : List Rf) (hn : L.length = n) (s gn : Int) (hl : 32 ≤ n) (h0 : 0 ≤ s) (h1 : s ≤ 255) (h2 : 1 ≤ gn) : HT Try.prog 25 [Value.pointer (some ⟨b, 0, none⟩), Value.agg #[Value.int IntKind.i64 s, Value.int IntKind.u32 gn]] [RStk b L] (fun v K => v = Value.tuple #[Value.int .i64 0, Value.int .i64 4] ∧ K = [RStk b L]) := by
  refine ht_in 46 [(0, Value.pointer (some ⟨b, 0, none⟩)), (1, Value.agg #[Value.int IntKind.i64 s, Value.int IntKind.u32 gn])] Try.func25 (by kernel_rfl) Try.ntmps25 rfl rfl ?_
  intro g w0 R h0
  obtain ⟨p1, n2, c3, hn4, h5⟩ := rstk_open h0
  have h6 : sat g w0 [Sl 25 2 p1 n2 c3 (fl eR L), Cl b [Value.bool true, Value.slice p1 n2 c3] 65, R] := sat_sel [1, 0, 2] rfl h5
  obtain ⟨hc7, hc8⟩ := sl_le h6
  refine go_seq (x := CA Try.f25 [0]) (y := CA Try.f25 [1]) (by kernel_rfl) ?_
  refine go_pln (id := 0) (ops := RA Try.f25 [0]) [0, 1, 2] (by kernel_rfl) (by kernel_rfl) ?_
  refine plain_act (i := 0) (by kernel_rfl) ?_
  refine an_new (d := 3) (fun xb_ => Value.pointer (some ⟨xb_, 0, none⟩)) (fun xb_ => Obj.cells [Value.int IntKind.i64 s, Value.int IntKind.u32 gn].toArray 25 (0, 0)) (fun xb_ => by kernel_rfl) (by kernel_rfl) rfl h6 ?_
  intro r9 w10 (h11 : sat g w10 [Cl r9 [Value.int IntKind.i64 s, Value.int IntKind.u32 gn] 25, Sl 25 2 p1 n2 c3 (fl eR L), Cl b [Value.bool true, Value.slice p1 n2 c3] 65, R])
  refine plain_batch (rest := []) [⟨1, [], none⟩, ⟨2, [], none⟩] (l' := [(5, Value.int IntKind.i64 0), (4, Value.int IntKind.i64 0), (3, Value.pointer (some ⟨r9, 0, none⟩)), (0, Value.pointer (some ⟨b, 0, none⟩)), (1, Value.agg #[Value.int IntKind.i64 s, Value.int IntKind.u32 gn])]) (pts' := []) (eqs := []) (by kernel_rfl) trivial (AllC_nil _) ?_
  change Code.wp _ (CA Try.f25 [1]) _ _ _
  refine fr_cut [(0, Value.pointer (some ⟨b, 0, none⟩)), (1, Value.agg #[Value.int IntKind.i64 s, Value.int IntKind.u32 gn]), (3, Value.pointer (some ⟨r9, 0, none⟩)), (4, Value.int IntKind.i64 0), (5, Value.int IntKind.i64 0)] ⟨rfl, rfl, rfl, rfl, rfl, trivial⟩ (fun a => Code.wp _ _ _ a _) (fun lr12 => ?_)
  refine go_seq (x := CA Try.f25 [1, 0]) (y := CA Try.f25 [1, 1]) (by kernel_rfl) ?_
  refine go_seq (x := CA Try.f25 [1, 0, 0]) (y := CA Try.f25 [1, 0, 1]) (by kernel_rfl) ?_
  refine go_pln (id := 1) (ops := RA Try.f25 [1, 0, 0]) [0, 1, 2] (by kernel_rfl) (by kernel_rfl) ?_
  refine plain_batch (rest := [1, 2]) [⟨0, [], none⟩] (l' := [(6, Value.pointer (some ⟨b, 0, none⟩)), (0, Value.pointer (some ⟨b, 0, none⟩)), (1, Value.agg #[Value.int IntKind.i64 s, Value.int IntKind.u32 gn]), (3, Value.pointer (some ⟨r9, 0, none⟩)), (4, Value.int IntKind.i64 0), (5, Value.int IntKind.i64 0)] ++ lr12) (pts' := []) (eqs := []) (by kernel_rfl) trivial (AllC_nil _) ?_
  have h13 : sat g w10 [Cl b [Value.bool true, Value.slice p1 n2 c3] 65, Cl r9 [Value.int IntKind.i64 s, Value.int IntKind.u32 gn] 25, Sl 25 2 p1 n2 c3 (fl eR L), R] := sat_sel [2, 0, 1, 3] rfl h11
  refine plain_act (i := 1) (by kernel_rfl) ?_
  refine an_call (d := some 7) (f := 41) (args := [Value.pointer (some ⟨b, 0, none⟩)]) (by kernel_rfl) Try.call41 (rvalid_ht b p1 n2 c3) (F := [Cl r9 [Value.int IntKind.i64 s, Value.int IntKind.u32 gn] 25, Sl 25 2 p1 n2 c3 (fl eR L), R]) h13 ?_
  rintro v K w14 (⟨rfl, rfl⟩) h15
  refine ⟨_, rfl, ?_⟩
  have h16 : sat g w14 [Cl b [Value.bool true, Value.slice p1 n2 c3] 65, Cl r9 [Value.int IntKind.i64 s, Value.int IntKind.u32 gn] 25, Sl 25 2 p1 n2 c3 (fl eR L), R] := h15
  refine plain_batch (rest := []) [⟨2, [], none⟩] (l' := [(8, Value.bool false), (7, Value.bool true), (6, Value.pointer (some ⟨b, 0, none⟩)), (0, Value.pointer (some ⟨b, 0, none⟩)), (1, Value.agg #[Value.int IntKind.i64 s, Value.int IntKind.u32 gn]), (3, Value.pointer (some ⟨r9, 0, none⟩)), (4, Value.int IntKind.i64 0), (5, Value.int IntKind.i64 0)] ++ lr12) (pts' := []) (eqs := []) (by kernel_rfl) trivial (AllC_nil _) ?_
  change Code.wp _ (CA Try.f25 [1, 0, 1]) _ _ _
  refine fr_cut [(0, Value.pointer (some ⟨b, 0, none⟩)), (1, Value.agg #[Value.int IntKind.i64 s, Value.int IntKind.u32 gn]), (3, Value.pointer (some ⟨r9, 0, none⟩)), (4, Value.int IntKind.i64 0), (5, Value.int IntKind.i64 0), (8, Value.bool false)] ⟨rfl, rfl, rfl, rfl, rfl, rfl, trivial⟩ (fun a => Code.wp _ _ _ a _) (fun lr17 => ?_)
  refine go_cnd (x := (Operand.tmp 8)) (s := CA Try.f25 [1, 0, 1, 0]) (t := CA Try.f25 [1, 0, 1, 1]) false (by kernel_rfl) (by kernel_rfl) ?_
  change Code.wp _ (CA Try.f25 [1, 0, 1, 1]) _ _ _
  refine go_skp (by kernel_rfl) ?_
  change Code.wp _ (CA Try.f25 [1, 1]) _ _ _
  refine go_seq (x := CA Try.f25 [1, 1, 0]) (y := CA Try.f25 [1, 1, 1]) (by kernel_rfl) ?_
  refine go_seq (x := CA Try.f25 [1, 1, 0, 0]) (y := CA Try.f25 [1, 1, 0, 1]) (by kernel_rfl) ?_
  refine go_pln (id := 3) (ops := RA Try.f25 [1, 1, 0, 0]) [0, 1, 2, 3, 4, 5, 6, 7, 8, 9, 10, 11, 12] (by kernel_rfl) (by kernel_rfl) ?_
  refine plain_batch (rest := []) [⟨0, [], none⟩, ⟨1, [Value.int IntKind.i64 s], none⟩, ⟨2, [], some (Value.bool false)⟩, ⟨3, [], none⟩, ⟨4, [], none⟩, ⟨5, [Value.int IntKind.i64 s], none⟩, ⟨6, [], some (Value.bool false)⟩, ⟨7, [], none⟩, ⟨8, [], none⟩, ⟨9, [], none⟩, ⟨10, [Value.int IntKind.u32 gn], none⟩, ⟨11, [], some (Value.bool false)⟩, ⟨12, [], none⟩] (l' := [(21, Value.bool false), (20, Value.bool false), (19, Value.int IntKind.u32 gn), (18, Value.pointer (some ⟨r9, 1, none⟩)), (17, Value.bool false), (16, Value.bool false), (15, Value.bool false), (14, Value.int IntKind.i64 s), (13, Value.pointer (some ⟨r9, 0, none⟩)), (12, Value.bool false), (11, Value.bool false), (10, Value.int IntKind.i64 s), (9, Value.pointer (some ⟨r9, 0, none⟩)), (0, Value.pointer (some ⟨b, 0, none⟩)), (1, Value.agg #[Value.int IntKind.i64 s, Value.int IntKind.u32 gn]), (3, Value.pointer (some ⟨r9, 0, none⟩)), (4, Value.int IntKind.i64 0), (5, Value.int IntKind.i64 0), (8, Value.bool false)] ++ lr17) (pts' := [(10, ⟨r9, 1, none⟩, Value.int IntKind.u32 gn), (5, ⟨r9, 0, none⟩, Value.int IntKind.i64 s), (1, ⟨r9, 0, none⟩, Value.int IntKind.i64 s)]) (eqs := [(Value.bool (decide (s < 0)), Value.bool false), (Value.bool (decide (s ≥ 256)), Value.bool false), (Value.bool (gn == 0), Value.bool false)]) (by kernel_rfl) ⟨(ov_f (by omega)), (ov_f (by omega)), (ov_ef (by omega)), trivial⟩ (AllC_cons (sat_cell h16 1 rfl rfl) (AllC_cons (sat_cell h16 1 rfl rfl) (AllC_cons (sat_cell h16 1 rfl rfl) (AllC_nil _)))) ?_
  change Code.wp _ (CA Try.f25 [1, 1, 0, 1]) _ _ _
  refine fr_cut [(0, Value.pointer (some ⟨b, 0, none⟩)), (1, Value.agg #[Value.int IntKind.i64 s, Value.int IntKind.u32 gn]), (3, Value.pointer (some ⟨r9, 0, none⟩)), (4, Value.int IntKind.i64 0), (5, Value.int IntKind.i64 0), (8, Value.bool false), (21, Value.bool false)] ⟨rfl, rfl, rfl, rfl, rfl, rfl, rfl, trivial⟩ (fun a => Code.wp _ _ _ a _) (fun lr18 => ?_)
  refine go_cnd (x := (Operand.tmp 21)) (s := CA Try.f25 [1, 1, 0, 1, 0]) (t := CA Try.f25 [1, 1, 0, 1, 1]) false (by kernel_rfl) (by kernel_rfl) ?_
  change Code.wp _ (CA Try.f25 [1, 1, 0, 1, 1]) _ _ _
  refine go_skp (by kernel_rfl) ?_
  change Code.wp _ (CA Try.f25 [1, 1, 1]) _ _ _
  refine go_seq (x := CA Try.f25 [1, 1, 1, 0]) (y := CA Try.f25 [1, 1, 1, 1]) (by kernel_rfl) ?_
  refine go_seq (x := CA Try.f25 [1, 1, 1, 0, 0]) (y := CA Try.f25 [1, 1, 1, 0, 1]) (by kernel_rfl) ?_
  refine go_pln (id := 5) (ops := RA Try.f25 [1, 1, 1, 0, 0]) [0, 1, 2, 3, 4, 5] (by kernel_rfl) (by kernel_rfl) ?_
  refine plain_batch (rest := []) [⟨0, [], none⟩, ⟨1, [], none⟩, ⟨2, [], none⟩, ⟨3, [Value.slice p1 n2 c3], none⟩, ⟨4, [], none⟩, ⟨5, [], some (Value.bool true)⟩] (l' := [(27, Value.bool true), (26, Value.int IntKind.i64 (((n2 : Nat) : Int))), (25, Value.slice p1 n2 c3), (24, Value.pointer (some ⟨b, 1, none⟩)), (23, Value.pointer (some ⟨b, 0, none⟩)), (22, Value.pointer (some ⟨b, 0, none⟩)), (0, Value.pointer (some ⟨b, 0, none⟩)), (1, Value.agg #[Value.int IntKind.i64 s, Value.int IntKind.u32 gn]), (3, Value.pointer (some ⟨r9, 0, none⟩)), (4, Value.int IntKind.i64 0), (5, Value.int IntKind.i64 0), (8, Value.bool false), (21, Value.bool false)] ++ lr18) (pts' := [(3, ⟨b, 1, none⟩, Value.slice p1 n2 c3)]) (eqs := [(Value.bool (decide (((n2 : Nat) : Int) ≥ 32)), Value.bool true)]) (by kernel_rfl) ⟨(ov_t (by omega)), trivial⟩ (AllC_cons (sat_cell h16 0 rfl rfl) (AllC_nil _)) ?_
  change Code.wp _ (CA Try.f25 [1, 1, 1, 0, 1]) _ _ _
  refine fr_cut [(0, Value.pointer (some ⟨b, 0, none⟩)), (1, Value.agg #[Value.int IntKind.i64 s, Value.int IntKind.u32 gn]), (3, Value.pointer (some ⟨r9, 0, none⟩)), (4, Value.int IntKind.i64 0), (5, Value.int IntKind.i64 0), (8, Value.bool false), (21, Value.bool false), (27, Value.bool true)] ⟨rfl, rfl, rfl, rfl, rfl, rfl, rfl, rfl, trivial⟩ (fun a => Code.wp _ _ _ a _) (fun lr19 => ?_)
  refine go_cnd (x := (Operand.tmp 27)) (s := CA Try.f25 [1, 1, 1, 0, 1, 0]) (t := CA Try.f25 [1, 1, 1, 0, 1, 1]) true (by kernel_rfl) (by kernel_rfl) ?_
  change Code.wp _ (CA Try.f25 [1, 1, 1, 0, 1, 0]) _ _ _
  refine go_seq (x := CA Try.f25 [1, 1, 1, 0, 1, 0, 0]) (y := CA Try.f25 [1, 1, 1, 0, 1, 0, 1]) (by kernel_rfl) ?_
  refine go_pln (id := 6) (ops := RA Try.f25 [1, 1, 1, 0, 1, 0, 0]) [0, 1] (by kernel_rfl) (by kernel_rfl) ?_
  refine plain_batch (rest := []) [⟨0, [], none⟩, ⟨1, [], none⟩] (l' := [(5, Value.int IntKind.i64 4), (4, Value.int IntKind.i64 0), (0, Value.pointer (some ⟨b, 0, none⟩)), (1, Value.agg #[Value.int IntKind.i64 s, Value.int IntKind.u32 gn]), (3, Value.pointer (some ⟨r9, 0, none⟩)), (4, Value.int IntKind.i64 0), (5, Value.int IntKind.i64 0), (8, Value.bool false), (21, Value.bool false), (27, Value.bool true)] ++ lr19) (pts' := []) (eqs := []) (by kernel_rfl) trivial (AllC_nil _) ?_
  change Code.wp _ (CA Try.f25 [1, 1, 1, 0, 1, 0, 1]) _ _ _
  refine fr_cut [(0, Value.pointer (some ⟨b, 0, none⟩)), (1, Value.agg #[Value.int IntKind.i64 s, Value.int IntKind.u32 gn]), (3, Value.pointer (some ⟨r9, 0, none⟩)), (4, Value.int IntKind.i64 0), (5, Value.int IntKind.i64 4), (8, Value.bool false), (21, Value.bool false), (27, Value.bool true)] ⟨rfl, rfl, rfl, rfl, rfl, rfl, rfl, rfl, trivial⟩ (fun a => Code.wp _ _ _ a _) (fun lr20 => ?_)
  refine go_rt (by kernel_rfl) ?_
  have h21 : sat g w14 [Cl b [Value.bool true, Value.slice p1 n2 c3] 65, Sl 25 2 p1 n2 c3 (fl eR L), Cl r9 [Value.int IntKind.i64 s, Value.int IntKind.u32 gn] 25, R] := sat_sel [0, 2, 1, 3] rfl h16
  have hl23 := fl_n eR_ok (by decide) (sat_sel [1] rfl h21)
  have h22 : sat g w14 [RStk b L, Cl r9 [Value.int IntKind.i64 s, Value.int IntKind.u32 gn] 25, R] := rstk_close h21 hl23
  try simp only [Exit.inBlock, Exit.then]
  have h24 : sat g w14 [RStk b L, R] := sat_sel [0, 2] rfl h22
  refine ht_out [] (Value.tuple #[Value.int IntKind.i64 0, Value.int IntKind.i64 4]) [] (by kernel_rfl) (by intro q hq; cases hq) ?_
  exact ⟨Value.tuple #[Value.int IntKind.i64 0, Value.int IntKind.i64 4], [RStk b L], rfl, ⟨rfl, rfl⟩, h24⟩

set_option maxHeartbeats 4000000 in
theorem rpush_arg (b : Nat) (L : List Rf) (s gn : Int) (hs : s < 0 ∨ 256 ≤ s ∨ gn = 0) : HT Try.prog 25 [Value.pointer (some ⟨b, 0, none⟩), Value.agg #[Value.int IntKind.i64 s, Value.int IntKind.u32 gn]] [RStk b L] (fun v K => v = Value.tuple #[Value.int .i64 0, Value.int .i64 2] ∧ K = [RStk b L]) := by
  refine ht_in 46 [(0, Value.pointer (some ⟨b, 0, none⟩)), (1, Value.agg #[Value.int IntKind.i64 s, Value.int IntKind.u32 gn])] Try.func25 (by kernel_rfl) Try.ntmps25 rfl rfl ?_
  intro g w0 R h0
  obtain ⟨p1, n2, c3, hn4, h5⟩ := rstk_open h0
  have h6 : sat g w0 [Sl 25 2 p1 n2 c3 (fl eR L), Cl b [Value.bool true, Value.slice p1 n2 c3] 65, R] := sat_sel [1, 0, 2] rfl h5
  obtain ⟨hc7, hc8⟩ := sl_le h6
  refine go_seq (x := CA Try.f25 [0]) (y := CA Try.f25 [1]) (by kernel_rfl) ?_
  refine go_pln (id := 0) (ops := RA Try.f25 [0]) [0, 1, 2] (by kernel_rfl) (by kernel_rfl) ?_
  refine plain_act (i := 0) (by kernel_rfl) ?_
  refine an_new (d := 3) (fun xb_ => Value.pointer (some ⟨xb_, 0, none⟩)) (fun xb_ => Obj.cells [Value.int IntKind.i64 s, Value.int IntKind.u32 gn].toArray 25 (0, 0)) (fun xb_ => by kernel_rfl) (by kernel_rfl) rfl h6 ?_
  intro r9 w10 (h11 : sat g w10 [Cl r9 [Value.int IntKind.i64 s, Value.int IntKind.u32 gn] 25, Sl 25 2 p1 n2 c3 (fl eR L), Cl b [Value.bool true, Value.slice p1 n2 c3] 65, R])
  refine plain_batch (rest := []) [⟨1, [], none⟩, ⟨2, [], none⟩] (l' := [(5, Value.int IntKind.i64 0), (4, Value.int IntKind.i64 0), (3, Value.pointer (some ⟨r9, 0, none⟩)), (0, Value.pointer (some ⟨b, 0, none⟩)), (1, Value.agg #[Value.int IntKind.i64 s, Value.int IntKind.u32 gn])]) (pts' := []) (eqs := []) (by kernel_rfl) trivial (AllC_nil _) ?_
  change Code.wp _ (CA Try.f25 [1]) _ _ _
  refine fr_cut [(0, Value.pointer (some ⟨b, 0, none⟩)), (1, Value.agg #[Value.int IntKind.i64 s, Value.int IntKind.u32 gn]), (3, Value.pointer (some ⟨r9, 0, none⟩)), (4, Value.int IntKind.i64 0), (5, Value.int IntKind.i64 0)] ⟨rfl, rfl, rfl, rfl, rfl, trivial⟩ (fun a => Code.wp _ _ _ a _) (fun lr12 => ?_)
  refine go_seq (x := CA Try.f25 [1, 0]) (y := CA Try.f25 [1, 1]) (by kernel_rfl) ?_
  refine go_seq (x := CA Try.f25 [1, 0, 0]) (y := CA Try.f25 [1, 0, 1]) (by kernel_rfl) ?_
  refine go_pln (id := 1) (ops := RA Try.f25 [1, 0, 0]) [0, 1, 2] (by kernel_rfl) (by kernel_rfl) ?_
  refine plain_batch (rest := [1, 2]) [⟨0, [], none⟩] (l' := [(6, Value.pointer (some ⟨b, 0, none⟩)), (0, Value.pointer (some ⟨b, 0, none⟩)), (1, Value.agg #[Value.int IntKind.i64 s, Value.int IntKind.u32 gn]), (3, Value.pointer (some ⟨r9, 0, none⟩)), (4, Value.int IntKind.i64 0), (5, Value.int IntKind.i64 0)] ++ lr12) (pts' := []) (eqs := []) (by kernel_rfl) trivial (AllC_nil _) ?_
  have h13 : sat g w10 [Cl b [Value.bool true, Value.slice p1 n2 c3] 65, Cl r9 [Value.int IntKind.i64 s, Value.int IntKind.u32 gn] 25, Sl 25 2 p1 n2 c3 (fl eR L), R] := sat_sel [2, 0, 1, 3] rfl h11
  refine plain_act (i := 1) (by kernel_rfl) ?_
  refine an_call (d := some 7) (f := 41) (args := [Value.pointer (some ⟨b, 0, none⟩)]) (by kernel_rfl) Try.call41 (rvalid_ht b p1 n2 c3) (F := [Cl r9 [Value.int IntKind.i64 s, Value.int IntKind.u32 gn] 25, Sl 25 2 p1 n2 c3 (fl eR L), R]) h13 ?_
  rintro v K w14 (⟨rfl, rfl⟩) h15
  refine ⟨_, rfl, ?_⟩
  have h16 : sat g w14 [Cl b [Value.bool true, Value.slice p1 n2 c3] 65, Cl r9 [Value.int IntKind.i64 s, Value.int IntKind.u32 gn] 25, Sl 25 2 p1 n2 c3 (fl eR L), R] := h15
  refine plain_batch (rest := []) [⟨2, [], none⟩] (l' := [(8, Value.bool false), (7, Value.bool true), (6, Value.pointer (some ⟨b, 0, none⟩)), (0, Value.pointer (some ⟨b, 0, none⟩)), (1, Value.agg #[Value.int IntKind.i64 s, Value.int IntKind.u32 gn]), (3, Value.pointer (some ⟨r9, 0, none⟩)), (4, Value.int IntKind.i64 0), (5, Value.int IntKind.i64 0)] ++ lr12) (pts' := []) (eqs := []) (by kernel_rfl) trivial (AllC_nil _) ?_
  change Code.wp _ (CA Try.f25 [1, 0, 1]) _ _ _
  refine fr_cut [(0, Value.pointer (some ⟨b, 0, none⟩)), (1, Value.agg #[Value.int IntKind.i64 s, Value.int IntKind.u32 gn]), (3, Value.pointer (some ⟨r9, 0, none⟩)), (4, Value.int IntKind.i64 0), (5, Value.int IntKind.i64 0), (8, Value.bool false)] ⟨rfl, rfl, rfl, rfl, rfl, rfl, trivial⟩ (fun a => Code.wp _ _ _ a _) (fun lr17 => ?_)
  refine go_cnd (x := (Operand.tmp 8)) (s := CA Try.f25 [1, 0, 1, 0]) (t := CA Try.f25 [1, 0, 1, 1]) false (by kernel_rfl) (by kernel_rfl) ?_
  change Code.wp _ (CA Try.f25 [1, 0, 1, 1]) _ _ _
  refine go_skp (by kernel_rfl) ?_
  change Code.wp _ (CA Try.f25 [1, 1]) _ _ _
  refine go_seq (x := CA Try.f25 [1, 1, 0]) (y := CA Try.f25 [1, 1, 1]) (by kernel_rfl) ?_
  refine go_seq (x := CA Try.f25 [1, 1, 0, 0]) (y := CA Try.f25 [1, 1, 0, 1]) (by kernel_rfl) ?_
  refine go_pln (id := 3) (ops := RA Try.f25 [1, 1, 0, 0]) [0, 1, 2, 3, 4, 5, 6, 7, 8, 9, 10, 11, 12] (by kernel_rfl) (by kernel_rfl) ?_
  refine plain_batch (rest := [2, 3, 4, 5, 6, 7, 8, 9, 10, 11, 12]) [⟨0, [], none⟩, ⟨1, [Value.int IntKind.i64 s], none⟩] (l' := [(10, Value.int IntKind.i64 s), (9, Value.pointer (some ⟨r9, 0, none⟩)), (0, Value.pointer (some ⟨b, 0, none⟩)), (1, Value.agg #[Value.int IntKind.i64 s, Value.int IntKind.u32 gn]), (3, Value.pointer (some ⟨r9, 0, none⟩)), (4, Value.int IntKind.i64 0), (5, Value.int IntKind.i64 0), (8, Value.bool false)] ++ lr17) (pts' := [(1, ⟨r9, 0, none⟩, Value.int IntKind.i64 s)]) (eqs := []) (by kernel_rfl) trivial (AllC_cons (sat_cell h16 1 rfl rfl) (AllC_nil _)) ?_
  by_cases c18 : s < 0
  ·
    refine plain_batch (rest := []) [⟨2, [], some (Value.bool true)⟩, ⟨3, [], none⟩, ⟨4, [], none⟩, ⟨5, [], none⟩, ⟨6, [], none⟩, ⟨7, [], none⟩, ⟨8, [], none⟩, ⟨9, [], none⟩, ⟨10, [], none⟩, ⟨11, [], none⟩, ⟨12, [], none⟩] (l' := [(21, Value.bool true), (20, undef), (19, undef), (18, undef), (17, Value.bool true), (16, Value.bool true), (15, undef), (14, undef), (13, undef), (12, Value.bool true), (11, Value.bool true), (10, Value.int IntKind.i64 s), (9, Value.pointer (some ⟨r9, 0, none⟩)), (0, Value.pointer (some ⟨b, 0, none⟩)), (1, Value.agg #[Value.int IntKind.i64 s, Value.int IntKind.u32 gn]), (3, Value.pointer (some ⟨r9, 0, none⟩)), (4, Value.int IntKind.i64 0), (5, Value.int IntKind.i64 0), (8, Value.bool false)] ++ lr17) (pts' := []) (eqs := [(Value.bool (decide (s < 0)), Value.bool true)]) (by kernel_rfl) ⟨(ov_t (by omega)), trivial⟩ (AllC_nil _) ?_
    change Code.wp _ (CA Try.f25 [1, 1, 0, 1]) _ _ _
    refine fr_cut [(0, Value.pointer (some ⟨b, 0, none⟩)), (1, Value.agg #[Value.int IntKind.i64 s, Value.int IntKind.u32 gn]), (3, Value.pointer (some ⟨r9, 0, none⟩)), (4, Value.int IntKind.i64 0), (5, Value.int IntKind.i64 0), (8, Value.bool false), (21, Value.bool true)] ⟨rfl, rfl, rfl, rfl, rfl, rfl, rfl, trivial⟩ (fun a => Code.wp _ _ _ a _) (fun lr19 => ?_)
    refine go_cnd (x := (Operand.tmp 21)) (s := CA Try.f25 [1, 1, 0, 1, 0]) (t := CA Try.f25 [1, 1, 0, 1, 1]) true (by kernel_rfl) (by kernel_rfl) ?_
    change Code.wp _ (CA Try.f25 [1, 1, 0, 1, 0]) _ _ _
    refine go_seq (x := CA Try.f25 [1, 1, 0, 1, 0, 0]) (y := CA Try.f25 [1, 1, 0, 1, 0, 1]) (by kernel_rfl) ?_
    refine go_pln (id := 4) (ops := RA Try.f25 [1, 1, 0, 1, 0, 0]) [0, 1] (by kernel_rfl) (by kernel_rfl) ?_
    refine plain_batch (rest := []) [⟨0, [], none⟩, ⟨1, [], none⟩] (l' := [(5, Value.int IntKind.i64 2), (4, Value.int IntKind.i64 0), (0, Value.pointer (some ⟨b, 0, none⟩)), (1, Value.agg #[Value.int IntKind.i64 s, Value.int IntKind.u32 gn]), (3, Value.pointer (some ⟨r9, 0, none⟩)), (4, Value.int IntKind.i64 0), (5, Value.int IntKind.i64 0), (8, Value.bool false), (21, Value.bool true)] ++ lr19) (pts' := []) (eqs := []) (by kernel_rfl) trivial (AllC_nil _) ?_
    change Code.wp _ (CA Try.f25 [1, 1, 0, 1, 0, 1]) _ _ _
    refine fr_cut [(0, Value.pointer (some ⟨b, 0, none⟩)), (1, Value.agg #[Value.int IntKind.i64 s, Value.int IntKind.u32 gn]), (3, Value.pointer (some ⟨r9, 0, none⟩)), (4, Value.int IntKind.i64 0), (5, Value.int IntKind.i64 2), (8, Value.bool false), (21, Value.bool true)] ⟨rfl, rfl, rfl, rfl, rfl, rfl, rfl, trivial⟩ (fun a => Code.wp _ _ _ a _) (fun lr20 => ?_)
    refine go_rt (by kernel_rfl) ?_
    have h21 : sat g w14 [Cl b [Value.bool true, Value.slice p1 n2 c3] 65, Sl 25 2 p1 n2 c3 (fl eR L), Cl r9 [Value.int IntKind.i64 s, Value.int IntKind.u32 gn] 25, R] := sat_sel [0, 2, 1, 3] rfl h16
    have hl23 := fl_n eR_ok (by decide) (sat_sel [1] rfl h21)
    have h22 : sat g w14 [RStk b L, Cl r9 [Value.int IntKind.i64 s, Value.int IntKind.u32 gn] 25, R] := rstk_close h21 hl23
    try simp only [Exit.inBlock, Exit.then]
    have h24 : sat g w14 [RStk b L, R] := sat_sel [0, 2] rfl h22
    refine ht_out [] (Value.tuple #[Value.int IntKind.i64 0, Value.int IntKind.i64 2]) [] (by kernel_rfl) (by intro q hq; cases hq) ?_
    exact ⟨Value.tuple #[Value.int IntKind.i64 0, Value.int IntKind.i64 2], [RStk b L], rfl, ⟨rfl, rfl⟩, h24⟩
  ·
    refine plain_batch (rest := [6, 7, 8, 9, 10, 11, 12]) [⟨2, [], some (Value.bool false)⟩, ⟨3, [], none⟩, ⟨4, [], none⟩, ⟨5, [Value.int IntKind.i64 s], none⟩] (l' := [(14, Value.int IntKind.i64 s), (13, Value.pointer (some ⟨r9, 0, none⟩)), (12, Value.bool false), (11, Value.bool false), (10, Value.int IntKind.i64 s), (9, Value.pointer (some ⟨r9, 0, none⟩)), (0, Value.pointer (some ⟨b, 0, none⟩)), (1, Value.agg #[Value.int IntKind.i64 s, Value.int IntKind.u32 gn]), (3, Value.pointer (some ⟨r9, 0, none⟩)), (4, Value.int IntKind.i64 0), (5, Value.int IntKind.i64 0), (8, Value.bool false)] ++ lr17) (pts' := [(5, ⟨r9, 0, none⟩, Value.int IntKind.i64 s)]) (eqs := [(Value.bool (decide (s < 0)), Value.bool false)]) (by kernel_rfl) ⟨(ov_f (by omega)), trivial⟩ (AllC_cons (sat_cell h16 1 rfl rfl) (AllC_nil _)) ?_
    by_cases c25 : s ≥ 256
    ·
      refine plain_batch (rest := []) [⟨6, [], some (Value.bool true)⟩, ⟨7, [], none⟩, ⟨8, [], none⟩, ⟨9, [], none⟩, ⟨10, [], none⟩, ⟨11, [], none⟩, ⟨12, [], none⟩] (l' := [(21, Value.bool true), (20, undef), (19, undef), (18, undef), (17, Value.bool true), (16, Value.bool true), (15, Value.bool true), (14, Value.int IntKind.i64 s), (13, Value.pointer (some ⟨r9, 0, none⟩)), (12, Value.bool false), (11, Value.bool false), (10, Value.int IntKind.i64 s), (9, Value.pointer (some ⟨r9, 0, none⟩)), (0, Value.pointer (some ⟨b, 0, none⟩)), (1, Value.agg #[Value.int IntKind.i64 s, Value.int IntKind.u32 gn]), (3, Value.pointer (some ⟨r9, 0, none⟩)), (4, Value.int IntKind.i64 0), (5, Value.int IntKind.i64 0), (8, Value.bool false)] ++ lr17) (pts' := []) (eqs := [(Value.bool (decide (s ≥ 256)), Value.bool true)]) (by kernel_rfl) ⟨(ov_t (by omega)), trivial⟩ (AllC_nil _) ?_
      change Code.wp _ (CA Try.f25 [1, 1, 0, 1]) _ _ _
      refine fr_cut [(0, Value.pointer (some ⟨b, 0, none⟩)), (1, Value.agg #[Value.int IntKind.i64 s, Value.int IntKind.u32 gn]), (3, Value.pointer (some ⟨r9, 0, none⟩)), (4, Value.int IntKind.i64 0), (5, Value.int IntKind.i64 0), (8, Value.bool false), (21, Value.bool true)] ⟨rfl, rfl, rfl, rfl, rfl, rfl, rfl, trivial⟩ (fun a => Code.wp _ _ _ a _) (fun lr26 => ?_)
      refine go_cnd (x := (Operand.tmp 21)) (s := CA Try.f25 [1, 1, 0, 1, 0]) (t := CA Try.f25 [1, 1, 0, 1, 1]) true (by kernel_rfl) (by kernel_rfl) ?_
      change Code.wp _ (CA Try.f25 [1, 1, 0, 1, 0]) _ _ _
      refine go_seq (x := CA Try.f25 [1, 1, 0, 1, 0, 0]) (y := CA Try.f25 [1, 1, 0, 1, 0, 1]) (by kernel_rfl) ?_
      refine go_pln (id := 4) (ops := RA Try.f25 [1, 1, 0, 1, 0, 0]) [0, 1] (by kernel_rfl) (by kernel_rfl) ?_
      refine plain_batch (rest := []) [⟨0, [], none⟩, ⟨1, [], none⟩] (l' := [(5, Value.int IntKind.i64 2), (4, Value.int IntKind.i64 0), (0, Value.pointer (some ⟨b, 0, none⟩)), (1, Value.agg #[Value.int IntKind.i64 s, Value.int IntKind.u32 gn]), (3, Value.pointer (some ⟨r9, 0, none⟩)), (4, Value.int IntKind.i64 0), (5, Value.int IntKind.i64 0), (8, Value.bool false), (21, Value.bool true)] ++ lr26) (pts' := []) (eqs := []) (by kernel_rfl) trivial (AllC_nil _) ?_
      change Code.wp _ (CA Try.f25 [1, 1, 0, 1, 0, 1]) _ _ _
      refine fr_cut [(0, Value.pointer (some ⟨b, 0, none⟩)), (1, Value.agg #[Value.int IntKind.i64 s, Value.int IntKind.u32 gn]), (3, Value.pointer (some ⟨r9, 0, none⟩)), (4, Value.int IntKind.i64 0), (5, Value.int IntKind.i64 2), (8, Value.bool false), (21, Value.bool true)] ⟨rfl, rfl, rfl, rfl, rfl, rfl, rfl, trivial⟩ (fun a => Code.wp _ _ _ a _) (fun lr27 => ?_)
      refine go_rt (by kernel_rfl) ?_
      have h28 : sat g w14 [Cl b [Value.bool true, Value.slice p1 n2 c3] 65, Sl 25 2 p1 n2 c3 (fl eR L), Cl r9 [Value.int IntKind.i64 s, Value.int IntKind.u32 gn] 25, R] := sat_sel [0, 2, 1, 3] rfl h16
      have hl30 := fl_n eR_ok (by decide) (sat_sel [1] rfl h28)
      have h29 : sat g w14 [RStk b L, Cl r9 [Value.int IntKind.i64 s, Value.int IntKind.u32 gn] 25, R] := rstk_close h28 hl30
      try simp only [Exit.inBlock, Exit.then]
      have h31 : sat g w14 [RStk b L, R] := sat_sel [0, 2] rfl h29
      refine ht_out [] (Value.tuple #[Value.int IntKind.i64 0, Value.int IntKind.i64 2]) [] (by kernel_rfl) (by intro q hq; cases hq) ?_
      exact ⟨Value.tuple #[Value.int IntKind.i64 0, Value.int IntKind.i64 2], [RStk b L], rfl, ⟨rfl, rfl⟩, h31⟩
    ·
      refine plain_batch (rest := []) [⟨6, [], some (Value.bool false)⟩, ⟨7, [], none⟩, ⟨8, [], none⟩, ⟨9, [], none⟩, ⟨10, [Value.int IntKind.u32 gn], none⟩, ⟨11, [], some (Value.bool true)⟩, ⟨12, [], none⟩] (l' := [(21, Value.bool true), (20, Value.bool true), (19, Value.int IntKind.u32 gn), (18, Value.pointer (some ⟨r9, 1, none⟩)), (17, Value.bool false), (16, Value.bool false), (15, Value.bool false), (14, Value.int IntKind.i64 s), (13, Value.pointer (some ⟨r9, 0, none⟩)), (12, Value.bool false), (11, Value.bool false), (10, Value.int IntKind.i64 s), (9, Value.pointer (some ⟨r9, 0, none⟩)), (0, Value.pointer (some ⟨b, 0, none⟩)), (1, Value.agg #[Value.int IntKind.i64 s, Value.int IntKind.u32 gn]), (3, Value.pointer (some ⟨r9, 0, none⟩)), (4, Value.int IntKind.i64 0), (5, Value.int IntKind.i64 0), (8, Value.bool false)] ++ lr17) (pts' := [(10, ⟨r9, 1, none⟩, Value.int IntKind.u32 gn)]) (eqs := [(Value.bool (decide (s ≥ 256)), Value.bool false), (Value.bool (gn == 0), Value.bool true)]) (by kernel_rfl) ⟨(ov_f (by omega)), (ov_et (by omega)), trivial⟩ (AllC_cons (sat_cell h16 1 rfl rfl) (AllC_nil _)) ?_
      change Code.wp _ (CA Try.f25 [1, 1, 0, 1]) _ _ _
      refine fr_cut [(0, Value.pointer (some ⟨b, 0, none⟩)), (1, Value.agg #[Value.int IntKind.i64 s, Value.int IntKind.u32 gn]), (3, Value.pointer (some ⟨r9, 0, none⟩)), (4, Value.int IntKind.i64 0), (5, Value.int IntKind.i64 0), (8, Value.bool false), (21, Value.bool true)] ⟨rfl, rfl, rfl, rfl, rfl, rfl, rfl, trivial⟩ (fun a => Code.wp _ _ _ a _) (fun lr32 => ?_)
      refine go_cnd (x := (Operand.tmp 21)) (s := CA Try.f25 [1, 1, 0, 1, 0]) (t := CA Try.f25 [1, 1, 0, 1, 1]) true (by kernel_rfl) (by kernel_rfl) ?_
      change Code.wp _ (CA Try.f25 [1, 1, 0, 1, 0]) _ _ _
      refine go_seq (x := CA Try.f25 [1, 1, 0, 1, 0, 0]) (y := CA Try.f25 [1, 1, 0, 1, 0, 1]) (by kernel_rfl) ?_
      refine go_pln (id := 4) (ops := RA Try.f25 [1, 1, 0, 1, 0, 0]) [0, 1] (by kernel_rfl) (by kernel_rfl) ?_
      refine plain_batch (rest := []) [⟨0, [], none⟩, ⟨1, [], none⟩] (l' := [(5, Value.int IntKind.i64 2), (4, Value.int IntKind.i64 0), (0, Value.pointer (some ⟨b, 0, none⟩)), (1, Value.agg #[Value.int IntKind.i64 s, Value.int IntKind.u32 gn]), (3, Value.pointer (some ⟨r9, 0, none⟩)), (4, Value.int IntKind.i64 0), (5, Value.int IntKind.i64 0), (8, Value.bool false), (21, Value.bool true)] ++ lr32) (pts' := []) (eqs := []) (by kernel_rfl) trivial (AllC_nil _) ?_
      change Code.wp _ (CA Try.f25 [1, 1, 0, 1, 0, 1]) _ _ _
      refine fr_cut [(0, Value.pointer (some ⟨b, 0, none⟩)), (1, Value.agg #[Value.int IntKind.i64 s, Value.int IntKind.u32 gn]), (3, Value.pointer (some ⟨r9, 0, none⟩)), (4, Value.int IntKind.i64 0), (5, Value.int IntKind.i64 2), (8, Value.bool false), (21, Value.bool true)] ⟨rfl, rfl, rfl, rfl, rfl, rfl, rfl, trivial⟩ (fun a => Code.wp _ _ _ a _) (fun lr33 => ?_)
      refine go_rt (by kernel_rfl) ?_
      have h34 : sat g w14 [Cl b [Value.bool true, Value.slice p1 n2 c3] 65, Sl 25 2 p1 n2 c3 (fl eR L), Cl r9 [Value.int IntKind.i64 s, Value.int IntKind.u32 gn] 25, R] := sat_sel [0, 2, 1, 3] rfl h16
      have hl36 := fl_n eR_ok (by decide) (sat_sel [1] rfl h34)
      have h35 : sat g w14 [RStk b L, Cl r9 [Value.int IntKind.i64 s, Value.int IntKind.u32 gn] 25, R] := rstk_close h34 hl36
      try simp only [Exit.inBlock, Exit.then]
      have h37 : sat g w14 [RStk b L, R] := sat_sel [0, 2] rfl h35
      refine ht_out [] (Value.tuple #[Value.int IntKind.i64 0, Value.int IntKind.i64 2]) [] (by kernel_rfl) (by intro q hq; cases hq) ?_
      exact ⟨Value.tuple #[Value.int IntKind.i64 0, Value.int IntKind.i64 2], [RStk b L], rfl, ⟨rfl, rfl⟩, h37⟩

set_option maxHeartbeats 4000000 in
theorem rall_n (b n : Nat) (L : List Rf) (hn : L.length = n) (hb : n ≤ 1000000) : HT Try.prog 34 [Value.pointer (some ⟨b, 0, none⟩)] [RStk b L] (fun v K => ∃ (p : Option Addr) (c : Nat), v = Value.slice p n c ∧ K = [RStk b L, Sl 25 2 p n c (fl eR L)]) := by
  refine ht_in 12 [(0, Value.pointer (some ⟨b, 0, none⟩))] Try.func34 (by kernel_rfl) Try.ntmps34 rfl rfl ?_
  intro g w0 R h0
  obtain ⟨p1, n2, c3, hn4, h5⟩ := rstk_open h0
  have h6 : sat g w0 [Sl 25 2 p1 n2 c3 (fl eR L), Cl b [Value.bool true, Value.slice p1 n2 c3] 65, R] := sat_sel [1, 0, 2] rfl h5
  obtain ⟨hc7, hc8⟩ := sl_le h6
  refine go_seq (x := CA Try.f34 [0]) (y := CA Try.f34 [1]) (by kernel_rfl) ?_
  refine go_pln (id := 0) (ops := RA Try.f34 [0]) [0] (by kernel_rfl) (by kernel_rfl) ?_
  refine plain_batch (rest := []) [⟨0, [], none⟩] (l' := [(2, Value.slice none 0 0), (0, Value.pointer (some ⟨b, 0, none⟩))]) (pts' := []) (eqs := []) (by kernel_rfl) trivial (AllC_nil _) ?_
  change Code.wp _ (CA Try.f34 [1]) _ _ _
  refine fr_cut [(0, Value.pointer (some ⟨b, 0, none⟩)), (2, Value.slice none 0 0)] ⟨rfl, rfl, trivial⟩ (fun a => Code.wp _ _ _ a _) (fun lr9 => ?_)
  refine go_seq (x := CA Try.f34 [1, 0]) (y := CA Try.f34 [1, 1]) (by kernel_rfl) ?_
  refine go_seq (x := CA Try.f34 [1, 0, 0]) (y := CA Try.f34 [1, 0, 1]) (by kernel_rfl) ?_
  refine go_pln (id := 1) (ops := RA Try.f34 [1, 0, 0]) [0, 1, 2] (by kernel_rfl) (by kernel_rfl) ?_
  refine plain_batch (rest := [1, 2]) [⟨0, [], none⟩] (l' := [(3, Value.pointer (some ⟨b, 0, none⟩)), (0, Value.pointer (some ⟨b, 0, none⟩)), (2, Value.slice none 0 0)] ++ lr9) (pts' := []) (eqs := []) (by kernel_rfl) trivial (AllC_nil _) ?_
  have h10 : sat g w0 [Cl b [Value.bool true, Value.slice p1 n2 c3] 65, Sl 25 2 p1 n2 c3 (fl eR L), R] := sat_sel [1, 0, 2] rfl h6
  refine plain_act (i := 1) (by kernel_rfl) ?_
  refine an_call (d := some 4) (f := 41) (args := [Value.pointer (some ⟨b, 0, none⟩)]) (by kernel_rfl) Try.call41 (rvalid_ht b p1 n2 c3) (F := [Sl 25 2 p1 n2 c3 (fl eR L), R]) h10 ?_
  rintro v K w11 (⟨rfl, rfl⟩) h12
  refine ⟨_, rfl, ?_⟩
  have h13 : sat g w11 [Cl b [Value.bool true, Value.slice p1 n2 c3] 65, Sl 25 2 p1 n2 c3 (fl eR L), R] := h12
  refine plain_batch (rest := []) [⟨2, [], none⟩] (l' := [(5, Value.bool false), (4, Value.bool true), (3, Value.pointer (some ⟨b, 0, none⟩)), (0, Value.pointer (some ⟨b, 0, none⟩)), (2, Value.slice none 0 0)] ++ lr9) (pts' := []) (eqs := []) (by kernel_rfl) trivial (AllC_nil _) ?_
  change Code.wp _ (CA Try.f34 [1, 0, 1]) _ _ _
  refine fr_cut [(0, Value.pointer (some ⟨b, 0, none⟩)), (2, Value.slice none 0 0), (5, Value.bool false)] ⟨rfl, rfl, rfl, trivial⟩ (fun a => Code.wp _ _ _ a _) (fun lr14 => ?_)
  refine go_cnd (x := (Operand.tmp 5)) (s := CA Try.f34 [1, 0, 1, 0]) (t := CA Try.f34 [1, 0, 1, 1]) false (by kernel_rfl) (by kernel_rfl) ?_
  change Code.wp _ (CA Try.f34 [1, 0, 1, 1]) _ _ _
  refine go_skp (by kernel_rfl) ?_
  change Code.wp _ (CA Try.f34 [1, 1]) _ _ _
  refine go_seq (x := CA Try.f34 [1, 1, 0]) (y := CA Try.f34 [1, 1, 1]) (by kernel_rfl) ?_
  refine go_pln (id := 3) (ops := RA Try.f34 [1, 1, 0]) [0, 1, 2, 3, 4, 5, 6] (by kernel_rfl) (by kernel_rfl) ?_
  refine plain_act (i := 0) (by kernel_rfl) ?_
  refine an_new (d := 6) (fun xb_ => Value.slice (some ⟨xb_, 0, none⟩) 0 0) (fun xb_ => Obj.cells [].toArray 25 (0, 0)) (fun xb_ => by kernel_rfl) (by kernel_rfl) rfl h13 ?_
  intro r15 w16 (h17 : sat g w16 [Cl r15 [] 25, Cl b [Value.bool true, Value.slice p1 n2 c3] 65, Sl 25 2 p1 n2 c3 (fl eR L), R])
  refine plain_batch (rest := [5, 6]) [⟨1, [], none⟩, ⟨2, [], none⟩, ⟨3, [], none⟩, ⟨4, [Value.slice p1 n2 c3], none⟩] (l' := [(10, Value.slice p1 n2 c3), (9, Value.pointer (some ⟨b, 1, none⟩)), (8, Value.pointer (some ⟨b, 0, none⟩)), (7, Value.pointer (some ⟨b, 0, none⟩)), (6, Value.slice (some ⟨r15, 0, none⟩) 0 0), (0, Value.pointer (some ⟨b, 0, none⟩)), (2, Value.slice none 0 0), (5, Value.bool false)] ++ lr14) (pts' := [(4, ⟨b, 1, none⟩, Value.slice p1 n2 c3)]) (eqs := []) (by kernel_rfl) trivial (AllC_cons (sat_cell h17 1 rfl rfl) (AllC_nil _)) ?_
  have h18 : sat g w16 [Sl 25 2 (some ⟨r15, 0, none⟩) 0 0 (fl eR ([])), Cl b [Value.bool true, Value.slice p1 n2 c3] 65, Sl 25 2 p1 n2 c3 (fl eR L), R] := sl_of_cl h17 rfl (by omega)
  refine plain_act (i := 5) (by kernel_rfl) ?_
  refine an_append_gv (d := 11) (sz := 2) (s := (Operand.tmp 6)) (x := (Operand.tmp 10)) (z := Value.agg #[Value.int IntKind.i64 0, Value.int IntKind.u32 0]) (p := (some ⟨r15, 0, none⟩)) (p2 := p1) (m := 0) (c := 0) (k := n2) (c2 := c3) (by_ := 16) (by kernel_rfl) (by kernel_rfl) rfl Try.underlying28 (by kernel_rfl) rfl (by decide) (by kernel_rfl) (by kernel_rfl) h18 2 rfl (fl eR L) (gv_sl _ _ _) (by rw [fl_len eR_ok, hn4]) (fl_one eR_ok _) (by omega) (by omega) n2 (by omega) ?_
  intro p19 cap20 w21 (h22 : sat g w21 [Sl 25 2 p19 n2 cap20 ((fl eR ([])) ++ (fl eR L)), Cl b [Value.bool true, Value.slice p1 n2 c3] 65, Sl 25 2 p1 n2 c3 (fl eR L), R])
  have h23 : sat g w21 [Sl 25 2 p19 n2 cap20 (fl eR L), Cl b [Value.bool true, Value.slice p1 n2 c3] 65, Sl 25 2 p1 n2 c3 (fl eR L), R] := sat_imp h22 (fun _ hh => by exact hh)
  obtain ⟨hn24, hn25⟩ := sl_le h23
  refine plain_batch (rest := []) [⟨6, [], none⟩] (l' := [(2, Value.slice p19 n2 cap20), (11, Value.slice p19 n2 cap20), (10, Value.slice p1 n2 c3), (9, Value.pointer (some ⟨b, 1, none⟩)), (8, Value.pointer (some ⟨b, 0, none⟩)), (7, Value.pointer (some ⟨b, 0, none⟩)), (6, Value.slice (some ⟨r15, 0, none⟩) 0 0), (0, Value.pointer (some ⟨b, 0, none⟩)), (2, Value.slice none 0 0), (5, Value.bool false)] ++ lr14) (pts' := []) (eqs := []) (by kernel_rfl) trivial (AllC_nil _) ?_
  change Code.wp _ (CA Try.f34 [1, 1, 1]) _ _ _
  refine fr_cut [(0, Value.pointer (some ⟨b, 0, none⟩)), (2, Value.slice p19 n2 cap20), (5, Value.bool false)] ⟨rfl, rfl, rfl, trivial⟩ (fun a => Code.wp _ _ _ a _) (fun lr26 => ?_)
  refine go_rt (by kernel_rfl) ?_
  have h27 : sat g w21 [Cl b [Value.bool true, Value.slice p1 n2 c3] 65, Sl 25 2 p1 n2 c3 (fl eR L), Sl 25 2 p19 n2 cap20 (fl eR L), R] := sat_sel [1, 2, 0, 3] rfl h23
  have hl29 := fl_n eR_ok (by decide) (sat_sel [1] rfl h27)
  have h28 : sat g w21 [RStk b L, Sl 25 2 p19 n2 cap20 (fl eR L), R] := rstk_close h27 hl29
  try simp only [Exit.inBlock, Exit.then]
  refine ht_out [] (Value.slice p19 n2 cap20) [] (by kernel_rfl) (by intro q hq; cases hq) ?_
  exact ⟨Value.slice p19 n2 cap20, [RStk b L, Sl 25 2 p19 n2 cap20 (fl eR L)], rfl, ⟨p19, cap20, by rw [show n = n2 by omega], by rw [show n = n2 by omega]⟩, h28⟩

set_option maxHeartbeats 4000000 in
theorem rcopy_ht (b : Nat) (L : List Rf) (hb : L.length ≤ 1000000) : HT Try.prog 28 [Value.pointer (some ⟨b, 0, none⟩)] [RStk b L] (fun v K => ∃ b2 : Nat, v = Value.pointer (some ⟨b2, 0, none⟩) ∧ K = [RStk b L, RStk b2 L]) := by
  refine ht_in 14 [(0, Value.pointer (some ⟨b, 0, none⟩))] Try.func28 (by kernel_rfl) Try.ntmps28 rfl rfl ?_
  intro g w0 R h0
  obtain ⟨p1, n2, c3, hn4, h5⟩ := rstk_open h0
  have h6 : sat g w0 [Sl 25 2 p1 n2 c3 (fl eR L), Cl b [Value.bool true, Value.slice p1 n2 c3] 65, R] := sat_sel [1, 0, 2] rfl h5
  obtain ⟨hc7, hc8⟩ := sl_le h6
  refine go_seq (x := CA Try.f28 [0]) (y := CA Try.f28 [1]) (by kernel_rfl) ?_
  refine go_pln (id := 0) (ops := RA Try.f28 [0]) [0] (by kernel_rfl) (by kernel_rfl) ?_
  refine plain_batch (rest := []) [⟨0, [], none⟩] (l' := [(2, Value.pointer none), (0, Value.pointer (some ⟨b, 0, none⟩))]) (pts' := []) (eqs := []) (by kernel_rfl) trivial (AllC_nil _) ?_
  change Code.wp _ (CA Try.f28 [1]) _ _ _
  refine fr_cut [(0, Value.pointer (some ⟨b, 0, none⟩)), (2, Value.pointer none)] ⟨rfl, rfl, trivial⟩ (fun a => Code.wp _ _ _ a _) (fun lr9 => ?_)
  refine go_seq (x := CA Try.f28 [1, 0]) (y := CA Try.f28 [1, 1]) (by kernel_rfl) ?_
  refine go_seq (x := CA Try.f28 [1, 0, 0]) (y := CA Try.f28 [1, 0, 1]) (by kernel_rfl) ?_
  refine go_pln (id := 1) (ops := RA Try.f28 [1, 0, 0]) [0, 1, 2] (by kernel_rfl) (by kernel_rfl) ?_
  refine plain_batch (rest := [1, 2]) [⟨0, [], none⟩] (l' := [(3, Value.pointer (some ⟨b, 0, none⟩)), (0, Value.pointer (some ⟨b, 0, none⟩)), (2, Value.pointer none)] ++ lr9) (pts' := []) (eqs := []) (by kernel_rfl) trivial (AllC_nil _) ?_
  have h10 : sat g w0 [Cl b [Value.bool true, Value.slice p1 n2 c3] 65, Sl 25 2 p1 n2 c3 (fl eR L), R] := sat_sel [1, 0, 2] rfl h6
  refine plain_act (i := 1) (by kernel_rfl) ?_
  refine an_call (d := some 4) (f := 41) (args := [Value.pointer (some ⟨b, 0, none⟩)]) (by kernel_rfl) Try.call41 (rvalid_ht b p1 n2 c3) (F := [Sl 25 2 p1 n2 c3 (fl eR L), R]) h10 ?_
  rintro v K w11 (⟨rfl, rfl⟩) h12
  refine ⟨_, rfl, ?_⟩
  have h13 : sat g w11 [Cl b [Value.bool true, Value.slice p1 n2 c3] 65, Sl 25 2 p1 n2 c3 (fl eR L), R] := h12
  refine plain_batch (rest := []) [⟨2, [], none⟩] (l' := [(5, Value.bool false), (4, Value.bool true), (3, Value.pointer (some ⟨b, 0, none⟩)), (0, Value.pointer (some ⟨b, 0, none⟩)), (2, Value.pointer none)] ++ lr9) (pts' := []) (eqs := []) (by kernel_rfl) trivial (AllC_nil _) ?_
  change Code.wp _ (CA Try.f28 [1, 0, 1]) _ _ _
  refine fr_cut [(0, Value.pointer (some ⟨b, 0, none⟩)), (2, Value.pointer none), (5, Value.bool false)] ⟨rfl, rfl, rfl, trivial⟩ (fun a => Code.wp _ _ _ a _) (fun lr14 => ?_)
  refine go_cnd (x := (Operand.tmp 5)) (s := CA Try.f28 [1, 0, 1, 0]) (t := CA Try.f28 [1, 0, 1, 1]) false (by kernel_rfl) (by kernel_rfl) ?_
  change Code.wp _ (CA Try.f28 [1, 0, 1, 1]) _ _ _
  refine go_skp (by kernel_rfl) ?_
  change Code.wp _ (CA Try.f28 [1, 1]) _ _ _
  refine go_seq (x := CA Try.f28 [1, 1, 0]) (y := CA Try.f28 [1, 1, 1]) (by kernel_rfl) ?_
  refine go_pln (id := 3) (ops := RA Try.f28 [1, 1, 0]) [0, 1, 2, 3, 4, 5, 6, 7, 8] (by kernel_rfl) (by kernel_rfl) ?_
  refine plain_act (i := 0) (by kernel_rfl) ?_
  refine an_new (d := 6) (fun xb_ => Value.slice (some ⟨xb_, 0, none⟩) 0 0) (fun xb_ => Obj.cells [].toArray 25 (0, 0)) (fun xb_ => by kernel_rfl) (by kernel_rfl) rfl h13 ?_
  intro r15 w16 (h17 : sat g w16 [Cl r15 [] 25, Cl b [Value.bool true, Value.slice p1 n2 c3] 65, Sl 25 2 p1 n2 c3 (fl eR L), R])
  refine plain_batch (rest := [5, 6, 7, 8]) [⟨1, [], none⟩, ⟨2, [], none⟩, ⟨3, [], none⟩, ⟨4, [Value.slice p1 n2 c3], none⟩] (l' := [(10, Value.slice p1 n2 c3), (9, Value.pointer (some ⟨b, 1, none⟩)), (8, Value.pointer (some ⟨b, 0, none⟩)), (7, Value.pointer (some ⟨b, 0, none⟩)), (6, Value.slice (some ⟨r15, 0, none⟩) 0 0), (0, Value.pointer (some ⟨b, 0, none⟩)), (2, Value.pointer none), (5, Value.bool false)] ++ lr14) (pts' := [(4, ⟨b, 1, none⟩, Value.slice p1 n2 c3)]) (eqs := []) (by kernel_rfl) trivial (AllC_cons (sat_cell h17 1 rfl rfl) (AllC_nil _)) ?_
  have h18 : sat g w16 [Sl 25 2 (some ⟨r15, 0, none⟩) 0 0 (fl eR ([])), Cl b [Value.bool true, Value.slice p1 n2 c3] 65, Sl 25 2 p1 n2 c3 (fl eR L), R] := sl_of_cl h17 rfl (by omega)
  refine plain_act (i := 5) (by kernel_rfl) ?_
  refine an_append_gv (d := 11) (sz := 2) (s := (Operand.tmp 6)) (x := (Operand.tmp 10)) (z := Value.agg #[Value.int IntKind.i64 0, Value.int IntKind.u32 0]) (p := (some ⟨r15, 0, none⟩)) (p2 := p1) (m := 0) (c := 0) (k := n2) (c2 := c3) (by_ := 16) (by kernel_rfl) (by kernel_rfl) rfl Try.underlying28 (by kernel_rfl) rfl (by decide) (by kernel_rfl) (by kernel_rfl) h18 2 rfl (fl eR L) (gv_sl _ _ _) (by rw [fl_len eR_ok, hn4]) (fl_one eR_ok _) (by omega) (by omega) n2 (by omega) ?_
  intro p19 cap20 w21 (h22 : sat g w21 [Sl 25 2 p19 n2 cap20 ((fl eR ([])) ++ (fl eR L)), Cl b [Value.bool true, Value.slice p1 n2 c3] 65, Sl 25 2 p1 n2 c3 (fl eR L), R])
  have h23 : sat g w21 [Sl 25 2 p19 n2 cap20 (fl eR L), Cl b [Value.bool true, Value.slice p1 n2 c3] 65, Sl 25 2 p1 n2 c3 (fl eR L), R] := sat_imp h22 (fun _ hh => by exact hh)
  obtain ⟨hn24, hn25⟩ := sl_le h23
  refine plain_batch (rest := [7, 8]) [⟨6, [], none⟩] (l' := [(12, Value.agg #[Value.bool true, Value.slice p19 n2 cap20]), (11, Value.slice p19 n2 cap20), (10, Value.slice p1 n2 c3), (9, Value.pointer (some ⟨b, 1, none⟩)), (8, Value.pointer (some ⟨b, 0, none⟩)), (7, Value.pointer (some ⟨b, 0, none⟩)), (6, Value.slice (some ⟨r15, 0, none⟩) 0 0), (0, Value.pointer (some ⟨b, 0, none⟩)), (2, Value.pointer none), (5, Value.bool false)] ++ lr14) (pts' := []) (eqs := []) (by kernel_rfl) trivial (AllC_nil _) ?_
  refine plain_act (i := 7) (by kernel_rfl) ?_
  refine an_new (d := 13) (fun xb_ => Value.pointer (some ⟨xb_, 0, none⟩)) (fun xb_ => Obj.cells [Value.bool true, Value.slice p19 n2 cap20].toArray 65 (0, 0)) (fun xb_ => by kernel_rfl) (by kernel_rfl) rfl h23 ?_
  intro r26 w27 (h28 : sat g w27 [Cl r26 [Value.bool true, Value.slice p19 n2 cap20] 65, Sl 25 2 p19 n2 cap20 (fl eR L), Cl b [Value.bool true, Value.slice p1 n2 c3] 65, Sl 25 2 p1 n2 c3 (fl eR L), R])
  refine plain_batch (rest := []) [⟨8, [], none⟩] (l' := [(2, Value.pointer (some ⟨r26, 0, none⟩)), (13, Value.pointer (some ⟨r26, 0, none⟩)), (12, Value.agg #[Value.bool true, Value.slice p19 n2 cap20]), (11, Value.slice p19 n2 cap20), (10, Value.slice p1 n2 c3), (9, Value.pointer (some ⟨b, 1, none⟩)), (8, Value.pointer (some ⟨b, 0, none⟩)), (7, Value.pointer (some ⟨b, 0, none⟩)), (6, Value.slice (some ⟨r15, 0, none⟩) 0 0), (0, Value.pointer (some ⟨b, 0, none⟩)), (2, Value.pointer none), (5, Value.bool false)] ++ lr14) (pts' := []) (eqs := []) (by kernel_rfl) trivial (AllC_nil _) ?_
  change Code.wp _ (CA Try.f28 [1, 1, 1]) _ _ _
  refine fr_cut [(0, Value.pointer (some ⟨b, 0, none⟩)), (2, Value.pointer (some ⟨r26, 0, none⟩)), (5, Value.bool false)] ⟨rfl, rfl, rfl, trivial⟩ (fun a => Code.wp _ _ _ a _) (fun lr29 => ?_)
  refine go_rt (by kernel_rfl) ?_
  have hl31 := fl_n eR_ok (by decide) (sat_sel [1] rfl h28)
  have h30 : sat g w27 [RStk r26 L, Cl b [Value.bool true, Value.slice p1 n2 c3] 65, Sl 25 2 p1 n2 c3 (fl eR L), R] := rstk_close h28 hl31
  have h32 : sat g w27 [Cl b [Value.bool true, Value.slice p1 n2 c3] 65, Sl 25 2 p1 n2 c3 (fl eR L), RStk r26 L, R] := sat_sel [1, 2, 0, 3] rfl h30
  have hl34 := fl_n eR_ok (by decide) (sat_sel [1] rfl h32)
  have h33 : sat g w27 [RStk b L, RStk r26 L, R] := rstk_close h32 hl34
  try simp only [Exit.inBlock, Exit.then]
  refine ht_out [] (Value.pointer (some ⟨r26, 0, none⟩)) [] (by kernel_rfl) (by intro q hq; cases hq) ?_
  exact ⟨Value.pointer (some ⟨r26, 0, none⟩), [RStk b L, RStk r26 L], rfl, ⟨r26, rfl, rfl⟩, h33⟩

set_option maxHeartbeats 4000000 in
theorem rdrop_n (b n : Nat) (L : List Rf) (hn : L.length = n) (hb : n ≤ 1000000) (i : Nat) (r : Rf) (z : Int) (hz : z = (i : Int)) (hi : i < n) (hr : L[i]? = some r) : HT Try.prog 26 [Value.pointer (some ⟨b, 0, none⟩), Value.int IntKind.i64 z] [RStk b L] (fun v K => v = Value.tuple #[Value.agg #[Value.int .i64 r.1, Value.int .u32 r.2], Value.int .i64 0] ∧ K = [RStk b (L.eraseIdx i)]) := by
  refine ht_in 38 [(0, Value.pointer (some ⟨b, 0, none⟩)), (1, Value.int IntKind.i64 z)] Try.func26 (by kernel_rfl) Try.ntmps26 rfl rfl ?_
  intro g w0 R h0
  refine go_seq (x := CA Try.f26 [0]) (y := CA Try.f26 [1]) (by kernel_rfl) ?_
  refine go_pln (id := 0) (ops := RA Try.f26 [0]) [0, 1] (by kernel_rfl) (by kernel_rfl) ?_
  refine plain_act (i := 0) (by kernel_rfl) ?_
  refine an_new (d := 4) (fun xb_ => Value.pointer (some ⟨xb_, 0, none⟩)) (fun xb_ => Obj.cells [Value.int IntKind.i64 0, Value.int IntKind.u32 0].toArray 25 (0, 0)) (fun xb_ => by kernel_rfl) (by kernel_rfl) rfl h0 ?_
  intro r1 w2 (h3 : sat g w2 [Cl r1 [Value.int IntKind.i64 0, Value.int IntKind.u32 0] 25, RStk b L, R])
  refine plain_batch (rest := []) [⟨1, [], none⟩] (l' := [(5, Value.int IntKind.i64 0), (4, Value.pointer (some ⟨r1, 0, none⟩)), (0, Value.pointer (some ⟨b, 0, none⟩)), (1, Value.int IntKind.i64 z)]) (pts' := []) (eqs := []) (by kernel_rfl) trivial (AllC_nil _) ?_
  change Code.wp _ (CA Try.f26 [1]) _ _ _
  refine fr_cut [(0, Value.pointer (some ⟨b, 0, none⟩)), (1, Value.int IntKind.i64 z), (4, Value.pointer (some ⟨r1, 0, none⟩)), (5, Value.int IntKind.i64 0)] ⟨rfl, rfl, rfl, rfl, trivial⟩ (fun a => Code.wp _ _ _ a _) (fun lr4 => ?_)
  refine go_seq (x := CA Try.f26 [1, 0]) (y := CA Try.f26 [1, 1]) (by kernel_rfl) ?_
  refine go_pln (id := 1) (ops := RA Try.f26 [1, 0]) [0, 1, 2, 3, 4, 5, 6, 7, 8] (by kernel_rfl) (by kernel_rfl) ?_
  refine plain_batch (rest := [2, 3, 4, 5, 6, 7, 8]) [⟨0, [], none⟩, ⟨1, [], none⟩] (l' := [(10, Value.int IntKind.i64 z), (9, Value.pointer (some ⟨b, 0, none⟩)), (0, Value.pointer (some ⟨b, 0, none⟩)), (1, Value.int IntKind.i64 z), (4, Value.pointer (some ⟨r1, 0, none⟩)), (5, Value.int IntKind.i64 0)] ++ lr4) (pts' := []) (eqs := []) (by kernel_rfl) trivial (AllC_nil _) ?_
  have h5 : sat g w2 [RStk b L, Cl r1 [Value.int IntKind.i64 0, Value.int IntKind.u32 0] 25, R] := sat_sel [1, 0, 2] rfl h3
  refine plain_act (i := 2) (by kernel_rfl) ?_
  refine an_call (d := some 11) (f := 29) (args := [Value.pointer (some ⟨b, 0, none⟩), Value.int IntKind.i64 z]) (by kernel_rfl) Try.call29 (rget_n b n L hn i r z hz hi hr) (F := [Cl r1 [Value.int IntKind.i64 0, Value.int IntKind.u32 0] 25, R]) h5 ?_
  rintro v K w6 (⟨rfl, rfl⟩) h7
  refine ⟨_, rfl, ?_⟩
  have h8 : sat g w6 [RStk b L, Cl r1 [Value.int IntKind.i64 0, Value.int IntKind.u32 0] 25, R] := h7
  refine plain_batch (rest := [6, 7, 8]) [⟨3, [], none⟩, ⟨4, [], none⟩, ⟨5, [], none⟩] (l' := [(13, Value.int IntKind.i64 0), (12, Value.agg #[Value.int IntKind.i64 r.1, Value.int IntKind.u32 r.2]), (8, Value.tuple #[Value.agg #[Value.int IntKind.i64 r.1, Value.int IntKind.u32 r.2], Value.int IntKind.i64 0]), (11, Value.tuple #[Value.agg #[Value.int IntKind.i64 r.1, Value.int IntKind.u32 r.2], Value.int IntKind.i64 0]), (10, Value.int IntKind.i64 z), (9, Value.pointer (some ⟨b, 0, none⟩)), (0, Value.pointer (some ⟨b, 0, none⟩)), (1, Value.int IntKind.i64 z), (4, Value.pointer (some ⟨r1, 0, none⟩)), (5, Value.int IntKind.i64 0)] ++ lr4) (pts' := []) (eqs := []) (by kernel_rfl) trivial (AllC_nil _) ?_
  refine plain_act (i := 6) (by kernel_rfl) ?_
  refine an_new (d := 6) (fun xb_ => Value.pointer (some ⟨xb_, 0, none⟩)) (fun xb_ => Obj.cells [Value.int IntKind.i64 0, Value.int IntKind.u32 0].toArray 25 (0, 0)) (fun xb_ => by kernel_rfl) (by kernel_rfl) rfl h8 ?_
  intro r9 w10 (h11 : sat g w10 [Cl r9 [Value.int IntKind.i64 0, Value.int IntKind.u32 0] 25, RStk b L, Cl r1 [Value.int IntKind.i64 0, Value.int IntKind.u32 0] 25, R])
  refine plain_act (i := 7) (by kernel_rfl) ?_
  refine an_store [(0, Value.int IntKind.i64 r.1), (1, Value.int IntKind.u32 r.2)] (cs' := [Value.int IntKind.i64 r.1, Value.int IntKind.u32 r.2]) (by kernel_rfl) (by kernel_rfl) (allq ⟨⟨by simp, rfl⟩, ⟨by simp, rfl⟩, trivial⟩) rfl h11 ?_
  intro w12 (h13 : sat g w12 [Cl r9 [Value.int IntKind.i64 r.1, Value.int IntKind.u32 r.2] 25, RStk b L, Cl r1 [Value.int IntKind.i64 0, Value.int IntKind.u32 0] 25, R])
  refine plain_batch (rest := []) [⟨8, [], none⟩] (l' := [(7, Value.int IntKind.i64 0), (6, Value.pointer (some ⟨r9, 0, none⟩)), (13, Value.int IntKind.i64 0), (12, Value.agg #[Value.int IntKind.i64 r.1, Value.int IntKind.u32 r.2]), (8, Value.tuple #[Value.agg #[Value.int IntKind.i64 r.1, Value.int IntKind.u32 r.2], Value.int IntKind.i64 0]), (11, Value.tuple #[Value.agg #[Value.int IntKind.i64 r.1, Value.int IntKind.u32 r.2], Value.int IntKind.i64 0]), (10, Value.int IntKind.i64 z), (9, Value.pointer (some ⟨b, 0, none⟩)), (0, Value.pointer (some ⟨b, 0, none⟩)), (1, Value.int IntKind.i64 z), (4, Value.pointer (some ⟨r1, 0, none⟩)), (5, Value.int IntKind.i64 0)] ++ lr4) (pts' := []) (eqs := []) (by kernel_rfl) trivial (AllC_nil _) ?_
  change Code.wp _ (CA Try.f26 [1, 1]) _ _ _
  refine fr_cut [(0, Value.pointer (some ⟨b, 0, none⟩)), (1, Value.int IntKind.i64 z), (4, Value.pointer (some ⟨r1, 0, none⟩)), (5, Value.int IntKind.i64 0), (6, Value.pointer (some ⟨r9, 0, none⟩)), (7, Value.int IntKind.i64 0)] ⟨rfl, rfl, rfl, rfl, rfl, rfl, trivial⟩ (fun a => Code.wp _ _ _ a _) (fun lr14 => ?_)
  refine go_seq (x := CA Try.f26 [1, 1, 0]) (y := CA Try.f26 [1, 1, 1]) (by kernel_rfl) ?_
  refine go_seq (x := CA Try.f26 [1, 1, 0, 0]) (y := CA Try.f26 [1, 1, 0, 1]) (by kernel_rfl) ?_
  refine go_pln (id := 2) (ops := RA Try.f26 [1, 1, 0, 0]) [0, 1] (by kernel_rfl) (by kernel_rfl) ?_
  refine plain_batch (rest := []) [⟨0, [], none⟩, ⟨1, [], none⟩] (l' := [(15, Value.bool false), (14, Value.int IntKind.i64 0), (0, Value.pointer (some ⟨b, 0, none⟩)), (1, Value.int IntKind.i64 z), (4, Value.pointer (some ⟨r1, 0, none⟩)), (5, Value.int IntKind.i64 0), (6, Value.pointer (some ⟨r9, 0, none⟩)), (7, Value.int IntKind.i64 0)] ++ lr14) (pts' := []) (eqs := []) (by kernel_rfl) trivial (AllC_nil _) ?_
  change Code.wp _ (CA Try.f26 [1, 1, 0, 1]) _ _ _
  refine fr_cut [(0, Value.pointer (some ⟨b, 0, none⟩)), (1, Value.int IntKind.i64 z), (4, Value.pointer (some ⟨r1, 0, none⟩)), (5, Value.int IntKind.i64 0), (6, Value.pointer (some ⟨r9, 0, none⟩)), (7, Value.int IntKind.i64 0), (15, Value.bool false)] ⟨rfl, rfl, rfl, rfl, rfl, rfl, rfl, trivial⟩ (fun a => Code.wp _ _ _ a _) (fun lr15 => ?_)
  refine go_cnd (x := (Operand.tmp 15)) (s := CA Try.f26 [1, 1, 0, 1, 0]) (t := CA Try.f26 [1, 1, 0, 1, 1]) false (by kernel_rfl) (by kernel_rfl) ?_
  change Code.wp _ (CA Try.f26 [1, 1, 0, 1, 1]) _ _ _
  refine go_skp (by kernel_rfl) ?_
  change Code.wp _ (CA Try.f26 [1, 1, 1]) _ _ _
  refine go_seq (x := CA Try.f26 [1, 1, 1, 0]) (y := CA Try.f26 [1, 1, 1, 1]) (by kernel_rfl) ?_
  have h16 : sat g w12 [RStk b L, Cl r9 [Value.int IntKind.i64 r.1, Value.int IntKind.u32 r.2] 25, Cl r1 [Value.int IntKind.i64 0, Value.int IntKind.u32 0] 25, R] := sat_sel [1, 0, 2, 3] rfl h13
  obtain ⟨p17, n18, c19, hn20, h21⟩ := rstk_open h16
  have h22 : sat g w12 [Sl 25 2 p17 n18 c19 (fl eR L), Cl b [Value.bool true, Value.slice p17 n18 c19] 65, Cl r9 [Value.int IntKind.i64 r.1, Value.int IntKind.u32 r.2] 25, Cl r1 [Value.int IntKind.i64 0, Value.int IntKind.u32 0] 25, R] := sat_sel [1, 0, 2, 3, 4] rfl h21
  obtain ⟨hc23, hc24⟩ := sl_le h22
  refine go_drw (id := 4) (ops := RA Try.f26 [1, 1, 1, 0]) (Tr.fl 0 (Tr.fl 2 (Tr.fl 3 (Tr.fl 4 (Tr.fl 5 (Tr.fl 6 (Tr.fl 7 (Tr.fl 9 (Tr.fl 10 (Tr.fl 11 (Tr.fl 12 (Tr.fl 13 (Tr.fl 14 (Tr.fl 15 (Tr.an 1 (Tr.an 8 (Tr.an 16 (Tr.fl 17 (Tr.fl 18 (Tr.an 19 Tr.nil)))))))))))))))))))) (by kernel_rfl) (by kernel_rfl) (by kernel_rfl) (by kernel_rfl) (fun _ _ d _ _ h => by cases d <;> exact h) h22 ?_
  intro w25 h26
  obtain ⟨b27, hp28⟩ := sl_ptr0 (j := 0) h26 rfl (by omega)
  refine draw_batch (t := (Tr.fl 7 (Tr.fl 9 (Tr.fl 10 (Tr.fl 11 (Tr.fl 12 (Tr.fl 13 (Tr.fl 14 (Tr.fl 15 (Tr.an 1 (Tr.an 8 (Tr.an 16 (Tr.fl 17 (Tr.fl 18 (Tr.an 19 Tr.nil))))))))))))))) [⟨0, [], none⟩, ⟨2, [], none⟩, ⟨3, [], none⟩, ⟨4, [], none⟩, ⟨5, [Value.slice p17 n18 c19], none⟩, ⟨6, [], none⟩] (l' := [(24, Value.int IntKind.i64 z), (23, Value.slice p17 n18 c19), (22, Value.pointer (some ⟨b, 1, none⟩)), (21, Value.pointer (some ⟨b, 0, none⟩)), (20, Value.pointer (some ⟨b, 0, none⟩)), (18, Value.pointer (some ⟨b, 0, none⟩)), (0, Value.pointer (some ⟨b, 0, none⟩)), (1, Value.int IntKind.i64 z), (4, Value.pointer (some ⟨r1, 0, none⟩)), (5, Value.int IntKind.i64 0), (6, Value.pointer (some ⟨r9, 0, none⟩)), (7, Value.int IntKind.i64 0), (15, Value.bool false)] ++ lr15) (pts' := [(5, ⟨b, 1, none⟩, Value.slice p17 n18 c19)]) (eqs := []) (by kernel_rfl) trivial (AllC_cons (sat_cell h26 1 rfl rfl) (AllC_nil _)) ?_
  refine draw_law (i := 7) 25 (Value.slice (some ⟨b27, 0, none⟩) i c19) [] (by kernel_rfl) (fun _ _ => law_sliceSlP (p := p17) (o := opA (RA Try.f26 [1, 1, 1, 0]) 7) (x := (Operand.tmp 23)) (lo := none) (hi := (some (Operand.tmp 24))) (b := b27) (off := 0) (m := n18) (c := c19) (by kernel_rfl) Try.underlying28 2 (by kernel_rfl) 0 z 0 i (by kernel_rfl) hp28 rfl (show fe _ _ (Operand.tmp 24) = _ from by kernel_rfl) (by omega) (by omega) (by omega) (by omega) 0 (by split <;> omega) i c19 (by omega) (by omega) _) (by intro q hq; cases hq) ?_
  refine draw_batch (t := (Tr.fl 15 (Tr.an 1 (Tr.an 8 (Tr.an 16 (Tr.fl 17 (Tr.fl 18 (Tr.an 19 Tr.nil)))))))) [⟨9, [], none⟩, ⟨10, [], none⟩, ⟨11, [], none⟩, ⟨12, [Value.slice p17 n18 c19], none⟩, ⟨13, [], none⟩, ⟨14, [], some (Value.int IntKind.i64 (z + 1))⟩] (l' := [(32, Value.int IntKind.i64 (z + 1)), (31, Value.int IntKind.i64 z), (30, Value.slice p17 n18 c19), (29, Value.pointer (some ⟨b, 1, none⟩)), (28, Value.pointer (some ⟨b, 0, none⟩)), (27, Value.pointer (some ⟨b, 0, none⟩)), (25, Value.slice (some ⟨b27, 0, none⟩) i c19), (24, Value.int IntKind.i64 z), (23, Value.slice p17 n18 c19), (22, Value.pointer (some ⟨b, 1, none⟩)), (21, Value.pointer (some ⟨b, 0, none⟩)), (20, Value.pointer (some ⟨b, 0, none⟩)), (18, Value.pointer (some ⟨b, 0, none⟩)), (0, Value.pointer (some ⟨b, 0, none⟩)), (1, Value.int IntKind.i64 z), (4, Value.pointer (some ⟨r1, 0, none⟩)), (5, Value.int IntKind.i64 0), (6, Value.pointer (some ⟨r9, 0, none⟩)), (7, Value.int IntKind.i64 0), (15, Value.bool false)] ++ lr15) (pts' := [(12, ⟨b, 1, none⟩, Value.slice p17 n18 c19)]) (eqs := [(Value.int IntKind.i64 (IntKind.wrap IntKind.i64 (z + 1)), Value.int IntKind.i64 (z + 1))]) (by kernel_rfl) ⟨(ov_i64 (by omega) (by omega) (by omega)), trivial⟩ (AllC_cons (sat_cell h26 1 rfl rfl) (AllC_nil _)) ?_
  refine draw_law (i := 15) 33 (Value.slice (some ⟨b27, (if c19 = i + 1 then 0 else i * 2 + 2), none⟩) (n18 - i - 1) (c19 - i - 1)) [] (by kernel_rfl) (fun _ _ => law_sliceSlP (p := p17) (o := opA (RA Try.f26 [1, 1, 1, 0]) 15) (x := (Operand.tmp 30)) (lo := (some (Operand.tmp 32))) (hi := none) (b := b27) (off := 0) (m := n18) (c := c19) (by kernel_rfl) Try.underlying28 2 (by kernel_rfl) (z + 1) (((n18 : Nat) : Int)) (i + 1) n18 (by kernel_rfl) hp28 (show fe _ _ (Operand.tmp 32) = _ from by kernel_rfl) rfl (by omega) (by omega) (by omega) (by omega) ((if c19 = i + 1 then 0 else i * 2 + 2)) (ite_r (by omega)) (n18 - i - 1) (c19 - i - 1) (by omega) (by omega) _) (by intro q hq; cases hq) ?_
  refine draw_act (i := 1) [(12, ⟨b, 1, none⟩, Value.slice p17 n18 c19), (5, ⟨b, 1, none⟩, Value.slice p17 n18 c19)] (by kernel_rfl) (by kernel_rfl) ?_
  refine an_new (d := 19) (fun xb_ => Value.slice (some ⟨xb_, 0, none⟩) 0 0) (fun xb_ => Obj.cells [].toArray 25 (0, 0)) (fun xb_ => by kernel_rfl) (by kernel_rfl) rfl h26 ?_
  intro r29 w30 (h31 : sat g w30 [Cl r29 [] 25, Sl 25 2 p17 n18 c19 (fl eR L), Cl b [Value.bool true, Value.slice p17 n18 c19] 65, Cl r9 [Value.int IntKind.i64 r.1, Value.int IntKind.u32 r.2] 25, Cl r1 [Value.int IntKind.i64 0, Value.int IntKind.u32 0] 25, R])
  refine ⟨(AllC_cons (sat_cell h31 2 rfl rfl) (AllC_cons (sat_cell h31 2 rfl rfl) (AllC_nil _))), ?_⟩
  have h32 : sat g w30 [Sl 25 2 (some ⟨r29, 0, none⟩) 0 0 (fl eR ([])), Sl 25 2 p17 n18 c19 (fl eR L), Cl b [Value.bool true, Value.slice p17 n18 c19] 65, Cl r9 [Value.int IntKind.i64 r.1, Value.int IntKind.u32 r.2] 25, Cl r1 [Value.int IntKind.i64 0, Value.int IntKind.u32 0] 25, R] := sl_of_cl h31 rfl (by omega)
  refine draw_act (i := 8) [(12, ⟨b, 1, none⟩, Value.slice p17 n18 c19), (5, ⟨b, 1, none⟩, Value.slice p17 n18 c19)] (by kernel_rfl) (by kernel_rfl) ?_
  refine an_append (d := 26) (sz := 2) (s := (Operand.tmp 19)) (x := (Operand.tmp 25)) (z := Value.agg #[Value.int IntKind.i64 0, Value.int IntKind.u32 0]) (p := (some ⟨r29, 0, none⟩)) (m := 0) (c := 0) (k := i) (c2 := c19) (a := ⟨b27, 0, none⟩) (by_ := 16) (by kernel_rfl) (by kernel_rfl) rfl Try.underlying28 (by kernel_rfl) rfl (by decide) (by kernel_rfl) (by kernel_rfl) h32 (fl eR ((L.drop 0).take i)) (by rw [fl_len eR_ok, List.length_take, List.length_drop, hn20]; omega) (fun j u hj => by rw [add_off]; exact gv_cell (j := 1) h32 rfl (gv_sl _ _ _) hp28 (fl_part eR_ok L 0 i j u hj) _ (by omega)) (fl_one eR_ok _) (by omega) (by omega) i (by omega) ?_
  intro p33 cap34 w35 (h36 : sat g w35 [Sl 25 2 p33 i cap34 ((fl eR ([])) ++ (fl eR ((L.drop 0).take i))), Sl 25 2 p17 n18 c19 (fl eR L), Cl b [Value.bool true, Value.slice p17 n18 c19] 65, Cl r9 [Value.int IntKind.i64 r.1, Value.int IntKind.u32 r.2] 25, Cl r1 [Value.int IntKind.i64 0, Value.int IntKind.u32 0] 25, R])
  have h37 : sat g w35 [Sl 25 2 p33 i cap34 (fl eR ((L.drop 0).take i)), Sl 25 2 p17 n18 c19 (fl eR L), Cl b [Value.bool true, Value.slice p17 n18 c19] 65, Cl r9 [Value.int IntKind.i64 r.1, Value.int IntKind.u32 r.2] 25, Cl r1 [Value.int IntKind.i64 0, Value.int IntKind.u32 0] 25, R] := sat_imp h36 (fun _ hh => by exact hh)
  obtain ⟨hn38, hn39⟩ := sl_le h37
  refine ⟨(AllC_cons (sat_cell h37 2 rfl rfl) (AllC_cons (sat_cell h37 2 rfl rfl) (AllC_nil _))), ?_⟩
  refine draw_act (i := 16) [(12, ⟨b, 1, none⟩, Value.slice p17 n18 c19), (5, ⟨b, 1, none⟩, Value.slice p17 n18 c19)] (by kernel_rfl) (by kernel_rfl) ?_
  refine an_append (d := 34) (sz := 2) (s := (Operand.tmp 26)) (x := (Operand.tmp 33)) (z := Value.agg #[Value.int IntKind.i64 0, Value.int IntKind.u32 0]) (p := p33) (m := i) (c := cap34) (k := (n18 - i - 1)) (c2 := (c19 - i - 1)) (a := ⟨b27, (if c19 = i + 1 then 0 else i * 2 + 2), none⟩) (by_ := 16) (by kernel_rfl) (by kernel_rfl) rfl Try.underlying28 (by kernel_rfl) rfl (by decide) (by kernel_rfl) (by kernel_rfl) h37 (fl eR ((L.drop (i + 1)).take (n18 - i - 1))) (by rw [fl_len eR_ok, List.length_take, List.length_drop, hn20]; omega) (fun j u hj => by rw [add_off]; exact gv_cell (j := 1) h37 rfl (gv_sl _ _ _) hp28 (fl_part eR_ok L (i + 1) (n18 - i - 1) j u hj) _ (by have hjl := (List.getElem?_eq_some_iff.1 hj).1; rw [fl_len eR_ok, List.length_take, List.length_drop, hn20] at hjl; split <;> omega)) (fl_one eR_ok _) (by omega) (by omega) (n18 - 1) (by omega) ?_
  intro p40 cap41 w42 (h43 : sat g w42 [Sl 25 2 p40 (n18 - 1) cap41 ((fl eR ((L.drop 0).take i)) ++ (fl eR ((L.drop (i + 1)).take (n18 - i - 1)))), Sl 25 2 p17 n18 c19 (fl eR L), Cl b [Value.bool true, Value.slice p17 n18 c19] 65, Cl r9 [Value.int IntKind.i64 r.1, Value.int IntKind.u32 r.2] 25, Cl r1 [Value.int IntKind.i64 0, Value.int IntKind.u32 0] 25, R])
  have h44 : sat g w42 [Sl 25 2 p40 (n18 - 1) cap41 (fl eR (((L.drop 0).take i) ++ ((L.drop (i + 1)).take (n18 - i - 1)))), Sl 25 2 p17 n18 c19 (fl eR L), Cl b [Value.bool true, Value.slice p17 n18 c19] 65, Cl r9 [Value.int IntKind.i64 r.1, Value.int IntKind.u32 r.2] 25, Cl r1 [Value.int IntKind.i64 0, Value.int IntKind.u32 0] 25, R] := sat_imp h43 (fun _ hh => by rw [fl_app]; exact hh)
  obtain ⟨hn45, hn46⟩ := sl_le h44
  refine ⟨(AllC_cons (sat_cell h44 2 rfl rfl) (AllC_cons (sat_cell h44 2 rfl rfl) (AllC_nil _))), ?_⟩
  refine draw_batch (t := (Tr.an 19 Tr.nil)) [⟨17, [], none⟩, ⟨18, [], none⟩] (l' := [(36, Value.pointer (some ⟨b, 1, none⟩)), (35, Value.pointer (some ⟨b, 0, none⟩)), (34, Value.slice p40 (n18 - 1) cap41), (26, Value.slice p33 i cap34), (19, Value.slice (some ⟨r29, 0, none⟩) 0 0), (33, Value.slice (some ⟨b27, (if c19 = i + 1 then 0 else i * 2 + 2), none⟩) (n18 - i - 1) (c19 - i - 1)), (32, Value.int IntKind.i64 (z + 1)), (31, Value.int IntKind.i64 z), (30, Value.slice p17 n18 c19), (29, Value.pointer (some ⟨b, 1, none⟩)), (28, Value.pointer (some ⟨b, 0, none⟩)), (27, Value.pointer (some ⟨b, 0, none⟩)), (25, Value.slice (some ⟨b27, 0, none⟩) i c19), (24, Value.int IntKind.i64 z), (23, Value.slice p17 n18 c19), (22, Value.pointer (some ⟨b, 1, none⟩)), (21, Value.pointer (some ⟨b, 0, none⟩)), (20, Value.pointer (some ⟨b, 0, none⟩)), (18, Value.pointer (some ⟨b, 0, none⟩)), (0, Value.pointer (some ⟨b, 0, none⟩)), (1, Value.int IntKind.i64 z), (4, Value.pointer (some ⟨r1, 0, none⟩)), (5, Value.int IntKind.i64 0), (6, Value.pointer (some ⟨r9, 0, none⟩)), (7, Value.int IntKind.i64 0), (15, Value.bool false)] ++ lr15) (pts' := []) (eqs := []) (by kernel_rfl) trivial (AllC_nil _) ?_
  have h47 : sat g w42 [Cl b [Value.bool true, Value.slice p17 n18 c19] 65, Sl 25 2 p40 (n18 - 1) cap41 (fl eR (((L.drop 0).take i) ++ ((L.drop (i + 1)).take (n18 - i - 1)))), Sl 25 2 p17 n18 c19 (fl eR L), Cl r9 [Value.int IntKind.i64 r.1, Value.int IntKind.u32 r.2] 25, Cl r1 [Value.int IntKind.i64 0, Value.int IntKind.u32 0] 25, R] := sat_sel [2, 0, 1, 3, 4, 5] rfl h44
  refine draw_act (i := 19) [] (by kernel_rfl) (by kernel_rfl) ?_
  refine an_store [(1, Value.slice p40 (n18 - 1) cap41)] (cs' := [Value.bool true, Value.slice p40 (n18 - 1) cap41]) (by kernel_rfl) (by kernel_rfl) (allq ⟨⟨by simp, rfl⟩, trivial⟩) rfl h47 ?_
  intro w48 (h49 : sat g w48 [Cl b [Value.bool true, Value.slice p40 (n18 - 1) cap41] 65, Sl 25 2 p40 (n18 - 1) cap41 (fl eR (((L.drop 0).take i) ++ ((L.drop (i + 1)).take (n18 - i - 1)))), Sl 25 2 p17 n18 c19 (fl eR L), Cl r9 [Value.int IntKind.i64 r.1, Value.int IntKind.u32 r.2] 25, Cl r1 [Value.int IntKind.i64 0, Value.int IntKind.u32 0] 25, R])
  refine ⟨(AllC_nil _), ?_⟩
  change Code.wp _ (CA Try.f26 [1, 1, 1, 1]) _ _ _
  refine fr_cut [(0, Value.pointer (some ⟨b, 0, none⟩)), (1, Value.int IntKind.i64 z), (4, Value.pointer (some ⟨r1, 0, none⟩)), (5, Value.int IntKind.i64 0), (6, Value.pointer (some ⟨r9, 0, none⟩)), (7, Value.int IntKind.i64 0), (15, Value.bool false)] ⟨rfl, rfl, rfl, rfl, rfl, rfl, rfl, trivial⟩ (fun a => Code.wp _ _ _ a _) (fun lr50 => ?_)
  refine go_seq (x := CA Try.f26 [1, 1, 1, 1, 0]) (y := CA Try.f26 [1, 1, 1, 1, 1]) (by kernel_rfl) ?_
  refine go_pln (id := 5) (ops := RA Try.f26 [1, 1, 1, 1, 0]) [0, 1, 2] (by kernel_rfl) (by kernel_rfl) ?_
  refine plain_batch (rest := [1, 2]) [⟨0, [Value.int IntKind.i64 r.1, Value.int IntKind.u32 r.2], none⟩] (l' := [(37, Value.agg #[Value.int IntKind.i64 r.1, Value.int IntKind.u32 r.2]), (0, Value.pointer (some ⟨b, 0, none⟩)), (1, Value.int IntKind.i64 z), (4, Value.pointer (some ⟨r1, 0, none⟩)), (5, Value.int IntKind.i64 0), (6, Value.pointer (some ⟨r9, 0, none⟩)), (7, Value.int IntKind.i64 0), (15, Value.bool false)] ++ lr50) (pts' := [(0, ⟨r9, 0, none⟩, Value.int IntKind.i64 r.1), (0, ⟨r9, 1, none⟩, Value.int IntKind.u32 r.2)]) (eqs := []) (by kernel_rfl) trivial (AllC_cons (sat_cell h49 3 rfl rfl) (AllC_cons (sat_cell h49 3 rfl rfl) (AllC_nil _))) ?_
  have h51 : sat g w48 [Cl r1 [Value.int IntKind.i64 0, Value.int IntKind.u32 0] 25, Cl b [Value.bool true, Value.slice p40 (n18 - 1) cap41] 65, Sl 25 2 p40 (n18 - 1) cap41 (fl eR (((L.drop 0).take i) ++ ((L.drop (i + 1)).take (n18 - i - 1)))), Sl 25 2 p17 n18 c19 (fl eR L), Cl r9 [Value.int IntKind.i64 r.1, Value.int IntKind.u32 r.2] 25, R] := sat_sel [4, 0, 1, 2, 3, 5] rfl h49
  refine plain_act (i := 1) (by kernel_rfl) ?_
  refine an_store [(0, Value.int IntKind.i64 r.1), (1, Value.int IntKind.u32 r.2)] (cs' := [Value.int IntKind.i64 r.1, Value.int IntKind.u32 r.2]) (by kernel_rfl) (by kernel_rfl) (allq ⟨⟨by simp, rfl⟩, ⟨by simp, rfl⟩, trivial⟩) rfl h51 ?_
  intro w52 (h53 : sat g w52 [Cl r1 [Value.int IntKind.i64 r.1, Value.int IntKind.u32 r.2] 25, Cl b [Value.bool true, Value.slice p40 (n18 - 1) cap41] 65, Sl 25 2 p40 (n18 - 1) cap41 (fl eR (((L.drop 0).take i) ++ ((L.drop (i + 1)).take (n18 - i - 1)))), Sl 25 2 p17 n18 c19 (fl eR L), Cl r9 [Value.int IntKind.i64 r.1, Value.int IntKind.u32 r.2] 25, R])
  refine plain_batch (rest := []) [⟨2, [], none⟩] (l' := [(5, Value.int IntKind.i64 0), (37, Value.agg #[Value.int IntKind.i64 r.1, Value.int IntKind.u32 r.2]), (0, Value.pointer (some ⟨b, 0, none⟩)), (1, Value.int IntKind.i64 z), (4, Value.pointer (some ⟨r1, 0, none⟩)), (5, Value.int IntKind.i64 0), (6, Value.pointer (some ⟨r9, 0, none⟩)), (7, Value.int IntKind.i64 0), (15, Value.bool false)] ++ lr50) (pts' := []) (eqs := []) (by kernel_rfl) trivial (AllC_nil _) ?_
  change Code.wp _ (CA Try.f26 [1, 1, 1, 1, 1]) _ _ _
  refine fr_cut [(0, Value.pointer (some ⟨b, 0, none⟩)), (1, Value.int IntKind.i64 z), (4, Value.pointer (some ⟨r1, 0, none⟩)), (5, Value.int IntKind.i64 0), (6, Value.pointer (some ⟨r9, 0, none⟩)), (7, Value.int IntKind.i64 0), (15, Value.bool false)] ⟨rfl, rfl, rfl, rfl, rfl, rfl, rfl, trivial⟩ (fun a => Code.wp _ _ _ a _) (fun lr54 => ?_)
  refine go_rt (by kernel_rfl) ?_
  have h55 : sat g w52 [Sl 25 2 p40 (n18 - 1) cap41 (fl eR (((L.drop 0).take i) ++ ((L.drop (i + 1)).take (n18 - i - 1)))), Cl r1 [Value.int IntKind.i64 r.1, Value.int IntKind.u32 r.2] 25, Cl b [Value.bool true, Value.slice p40 (n18 - 1) cap41] 65, Sl 25 2 p17 n18 c19 (fl eR L), Cl r9 [Value.int IntKind.i64 r.1, Value.int IntKind.u32 r.2] 25, R] := sat_sel [2, 0, 1, 3, 4, 5] rfl h53
  have h56 : sat g w52 [Sl 25 2 p40 (n18 - 1) cap41 (fl eR (L.eraseIdx i)), Cl r1 [Value.int IntKind.i64 r.1, Value.int IntKind.u32 r.2] 25, Cl b [Value.bool true, Value.slice p40 (n18 - 1) cap41] 65, Sl 25 2 p17 n18 c19 (fl eR L), Cl r9 [Value.int IntKind.i64 r.1, Value.int IntKind.u32 r.2] 25, R] := sat_imp h55 (fun _ hh => by rw [er_eq' (by omega) (by omega)] at hh; exact hh)
  have h57 : sat g w52 [Cl b [Value.bool true, Value.slice p40 (n18 - 1) cap41] 65, Sl 25 2 p40 (n18 - 1) cap41 (fl eR (L.eraseIdx i)), Cl r1 [Value.int IntKind.i64 r.1, Value.int IntKind.u32 r.2] 25, Sl 25 2 p17 n18 c19 (fl eR L), Cl r9 [Value.int IntKind.i64 r.1, Value.int IntKind.u32 r.2] 25, R] := sat_sel [2, 0, 1, 3, 4, 5] rfl h56
  have hl59 := fl_n eR_ok (by decide) (sat_sel [1] rfl h57)
  have h58 : sat g w52 [RStk b (L.eraseIdx i), Cl r1 [Value.int IntKind.i64 r.1, Value.int IntKind.u32 r.2] 25, Sl 25 2 p17 n18 c19 (fl eR L), Cl r9 [Value.int IntKind.i64 r.1, Value.int IntKind.u32 r.2] 25, R] := rstk_close h57 hl59
  try simp only [Exit.inBlock, Exit.then]
  have h60 : sat g w52 [RStk b (L.eraseIdx i), R] := sat_sel [0, 4] rfl h58
  refine ht_out [Value.int IntKind.i64 r.1, Value.int IntKind.u32 r.2] (Value.tuple #[Value.agg #[Value.int IntKind.i64 r.1, Value.int IntKind.u32 r.2], Value.int IntKind.i64 0]) [(⟨r1, 0, none⟩, Value.int IntKind.i64 r.1), (⟨r1, 1, none⟩, Value.int IntKind.u32 r.2)] (by kernel_rfl) (allq ⟨sat_cell h58 1 rfl rfl, sat_cell h58 1 rfl rfl, trivial⟩) ?_
  exact ⟨Value.tuple #[Value.agg #[Value.int IntKind.i64 r.1, Value.int IntKind.u32 r.2], Value.int IntKind.i64 0], [RStk b (L.eraseIdx i)], rfl, ⟨rfl, rfl⟩, h60⟩

set_option maxHeartbeats 4000000 in
theorem rdrop_no (b n : Nat) (L : List Rf) (hn : L.length = n) (z : Int) (hi : z < 0 ∨ (n : Int) ≤ z) : HT Try.prog 26 [Value.pointer (some ⟨b, 0, none⟩), Value.int IntKind.i64 z] [RStk b L] (fun v K => v = Value.tuple #[Value.agg #[Value.int .i64 0, Value.int .u32 0], Value.int .i64 3] ∧ K = [RStk b L]) := by
  refine ht_in 38 [(0, Value.pointer (some ⟨b, 0, none⟩)), (1, Value.int IntKind.i64 z)] Try.func26 (by kernel_rfl) Try.ntmps26 rfl rfl ?_
  intro g w0 R h0
  refine go_seq (x := CA Try.f26 [0]) (y := CA Try.f26 [1]) (by kernel_rfl) ?_
  refine go_pln (id := 0) (ops := RA Try.f26 [0]) [0, 1] (by kernel_rfl) (by kernel_rfl) ?_
  refine plain_act (i := 0) (by kernel_rfl) ?_
  refine an_new (d := 4) (fun xb_ => Value.pointer (some ⟨xb_, 0, none⟩)) (fun xb_ => Obj.cells [Value.int IntKind.i64 0, Value.int IntKind.u32 0].toArray 25 (0, 0)) (fun xb_ => by kernel_rfl) (by kernel_rfl) rfl h0 ?_
  intro r1 w2 (h3 : sat g w2 [Cl r1 [Value.int IntKind.i64 0, Value.int IntKind.u32 0] 25, RStk b L, R])
  refine plain_batch (rest := []) [⟨1, [], none⟩] (l' := [(5, Value.int IntKind.i64 0), (4, Value.pointer (some ⟨r1, 0, none⟩)), (0, Value.pointer (some ⟨b, 0, none⟩)), (1, Value.int IntKind.i64 z)]) (pts' := []) (eqs := []) (by kernel_rfl) trivial (AllC_nil _) ?_
  change Code.wp _ (CA Try.f26 [1]) _ _ _
  refine fr_cut [(0, Value.pointer (some ⟨b, 0, none⟩)), (1, Value.int IntKind.i64 z), (4, Value.pointer (some ⟨r1, 0, none⟩)), (5, Value.int IntKind.i64 0)] ⟨rfl, rfl, rfl, rfl, trivial⟩ (fun a => Code.wp _ _ _ a _) (fun lr4 => ?_)
  refine go_seq (x := CA Try.f26 [1, 0]) (y := CA Try.f26 [1, 1]) (by kernel_rfl) ?_
  refine go_pln (id := 1) (ops := RA Try.f26 [1, 0]) [0, 1, 2, 3, 4, 5, 6, 7, 8] (by kernel_rfl) (by kernel_rfl) ?_
  refine plain_batch (rest := [2, 3, 4, 5, 6, 7, 8]) [⟨0, [], none⟩, ⟨1, [], none⟩] (l' := [(10, Value.int IntKind.i64 z), (9, Value.pointer (some ⟨b, 0, none⟩)), (0, Value.pointer (some ⟨b, 0, none⟩)), (1, Value.int IntKind.i64 z), (4, Value.pointer (some ⟨r1, 0, none⟩)), (5, Value.int IntKind.i64 0)] ++ lr4) (pts' := []) (eqs := []) (by kernel_rfl) trivial (AllC_nil _) ?_
  have h5 : sat g w2 [RStk b L, Cl r1 [Value.int IntKind.i64 0, Value.int IntKind.u32 0] 25, R] := sat_sel [1, 0, 2] rfl h3
  refine plain_act (i := 2) (by kernel_rfl) ?_
  refine an_call (d := some 11) (f := 29) (args := [Value.pointer (some ⟨b, 0, none⟩), Value.int IntKind.i64 z]) (by kernel_rfl) Try.call29 (rget_no b n L hn z hi) (F := [Cl r1 [Value.int IntKind.i64 0, Value.int IntKind.u32 0] 25, R]) h5 ?_
  rintro v K w6 (⟨rfl, rfl⟩) h7
  refine ⟨_, rfl, ?_⟩
  have h8 : sat g w6 [RStk b L, Cl r1 [Value.int IntKind.i64 0, Value.int IntKind.u32 0] 25, R] := h7
  refine plain_batch (rest := [6, 7, 8]) [⟨3, [], none⟩, ⟨4, [], none⟩, ⟨5, [], none⟩] (l' := [(13, Value.int IntKind.i64 3), (12, Value.agg #[Value.int IntKind.i64 0, Value.int IntKind.u32 0]), (8, Value.tuple #[Value.agg #[Value.int IntKind.i64 0, Value.int IntKind.u32 0], Value.int IntKind.i64 3]), (11, Value.tuple #[Value.agg #[Value.int IntKind.i64 0, Value.int IntKind.u32 0], Value.int IntKind.i64 3]), (10, Value.int IntKind.i64 z), (9, Value.pointer (some ⟨b, 0, none⟩)), (0, Value.pointer (some ⟨b, 0, none⟩)), (1, Value.int IntKind.i64 z), (4, Value.pointer (some ⟨r1, 0, none⟩)), (5, Value.int IntKind.i64 0)] ++ lr4) (pts' := []) (eqs := []) (by kernel_rfl) trivial (AllC_nil _) ?_
  refine plain_act (i := 6) (by kernel_rfl) ?_
  refine an_new (d := 6) (fun xb_ => Value.pointer (some ⟨xb_, 0, none⟩)) (fun xb_ => Obj.cells [Value.int IntKind.i64 0, Value.int IntKind.u32 0].toArray 25 (0, 0)) (fun xb_ => by kernel_rfl) (by kernel_rfl) rfl h8 ?_
  intro r9 w10 (h11 : sat g w10 [Cl r9 [Value.int IntKind.i64 0, Value.int IntKind.u32 0] 25, RStk b L, Cl r1 [Value.int IntKind.i64 0, Value.int IntKind.u32 0] 25, R])
  refine plain_act (i := 7) (by kernel_rfl) ?_
  refine an_store [(0, Value.int IntKind.i64 0), (1, Value.int IntKind.u32 0)] (cs' := [Value.int IntKind.i64 0, Value.int IntKind.u32 0]) (by kernel_rfl) (by kernel_rfl) (allq ⟨⟨by simp, rfl⟩, ⟨by simp, rfl⟩, trivial⟩) rfl h11 ?_
  intro w12 (h13 : sat g w12 [Cl r9 [Value.int IntKind.i64 0, Value.int IntKind.u32 0] 25, RStk b L, Cl r1 [Value.int IntKind.i64 0, Value.int IntKind.u32 0] 25, R])
  refine plain_batch (rest := []) [⟨8, [], none⟩] (l' := [(7, Value.int IntKind.i64 3), (6, Value.pointer (some ⟨r9, 0, none⟩)), (13, Value.int IntKind.i64 3), (12, Value.agg #[Value.int IntKind.i64 0, Value.int IntKind.u32 0]), (8, Value.tuple #[Value.agg #[Value.int IntKind.i64 0, Value.int IntKind.u32 0], Value.int IntKind.i64 3]), (11, Value.tuple #[Value.agg #[Value.int IntKind.i64 0, Value.int IntKind.u32 0], Value.int IntKind.i64 3]), (10, Value.int IntKind.i64 z), (9, Value.pointer (some ⟨b, 0, none⟩)), (0, Value.pointer (some ⟨b, 0, none⟩)), (1, Value.int IntKind.i64 z), (4, Value.pointer (some ⟨r1, 0, none⟩)), (5, Value.int IntKind.i64 0)] ++ lr4) (pts' := []) (eqs := []) (by kernel_rfl) trivial (AllC_nil _) ?_
  change Code.wp _ (CA Try.f26 [1, 1]) _ _ _
  refine fr_cut [(0, Value.pointer (some ⟨b, 0, none⟩)), (1, Value.int IntKind.i64 z), (4, Value.pointer (some ⟨r1, 0, none⟩)), (5, Value.int IntKind.i64 0), (6, Value.pointer (some ⟨r9, 0, none⟩)), (7, Value.int IntKind.i64 3)] ⟨rfl, rfl, rfl, rfl, rfl, rfl, trivial⟩ (fun a => Code.wp _ _ _ a _) (fun lr14 => ?_)
  refine go_seq (x := CA Try.f26 [1, 1, 0]) (y := CA Try.f26 [1, 1, 1]) (by kernel_rfl) ?_
  refine go_seq (x := CA Try.f26 [1, 1, 0, 0]) (y := CA Try.f26 [1, 1, 0, 1]) (by kernel_rfl) ?_
  refine go_pln (id := 2) (ops := RA Try.f26 [1, 1, 0, 0]) [0, 1] (by kernel_rfl) (by kernel_rfl) ?_
  refine plain_batch (rest := []) [⟨0, [], none⟩, ⟨1, [], none⟩] (l' := [(15, Value.bool true), (14, Value.int IntKind.i64 3), (0, Value.pointer (some ⟨b, 0, none⟩)), (1, Value.int IntKind.i64 z), (4, Value.pointer (some ⟨r1, 0, none⟩)), (5, Value.int IntKind.i64 0), (6, Value.pointer (some ⟨r9, 0, none⟩)), (7, Value.int IntKind.i64 3)] ++ lr14) (pts' := []) (eqs := []) (by kernel_rfl) trivial (AllC_nil _) ?_
  change Code.wp _ (CA Try.f26 [1, 1, 0, 1]) _ _ _
  refine fr_cut [(0, Value.pointer (some ⟨b, 0, none⟩)), (1, Value.int IntKind.i64 z), (4, Value.pointer (some ⟨r1, 0, none⟩)), (5, Value.int IntKind.i64 0), (6, Value.pointer (some ⟨r9, 0, none⟩)), (7, Value.int IntKind.i64 3), (15, Value.bool true)] ⟨rfl, rfl, rfl, rfl, rfl, rfl, rfl, trivial⟩ (fun a => Code.wp _ _ _ a _) (fun lr15 => ?_)
  refine go_cnd (x := (Operand.tmp 15)) (s := CA Try.f26 [1, 1, 0, 1, 0]) (t := CA Try.f26 [1, 1, 0, 1, 1]) true (by kernel_rfl) (by kernel_rfl) ?_
  change Code.wp _ (CA Try.f26 [1, 1, 0, 1, 0]) _ _ _
  refine go_seq (x := CA Try.f26 [1, 1, 0, 1, 0, 0]) (y := CA Try.f26 [1, 1, 0, 1, 0, 1]) (by kernel_rfl) ?_
  refine go_pln (id := 3) (ops := RA Try.f26 [1, 1, 0, 1, 0, 0]) [0, 1, 2, 3] (by kernel_rfl) (by kernel_rfl) ?_
  refine plain_batch (rest := [2, 3]) [⟨0, [], none⟩, ⟨1, [], none⟩] (l' := [(17, Value.int IntKind.i64 3), (16, Value.agg #[Value.int IntKind.i64 0, Value.int IntKind.u32 0]), (0, Value.pointer (some ⟨b, 0, none⟩)), (1, Value.int IntKind.i64 z), (4, Value.pointer (some ⟨r1, 0, none⟩)), (5, Value.int IntKind.i64 0), (6, Value.pointer (some ⟨r9, 0, none⟩)), (7, Value.int IntKind.i64 3), (15, Value.bool true)] ++ lr15) (pts' := []) (eqs := []) (by kernel_rfl) trivial (AllC_nil _) ?_
  have h16 : sat g w12 [Cl r1 [Value.int IntKind.i64 0, Value.int IntKind.u32 0] 25, Cl r9 [Value.int IntKind.i64 0, Value.int IntKind.u32 0] 25, RStk b L, R] := sat_sel [2, 0, 1, 3] rfl h13
  refine plain_act (i := 2) (by kernel_rfl) ?_
  refine an_store [(0, Value.int IntKind.i64 0), (1, Value.int IntKind.u32 0)] (cs' := [Value.int IntKind.i64 0, Value.int IntKind.u32 0]) (by kernel_rfl) (by kernel_rfl) (allq ⟨⟨by simp, rfl⟩, ⟨by simp, rfl⟩, trivial⟩) rfl h16 ?_
  intro w17 (h18 : sat g w17 [Cl r1 [Value.int IntKind.i64 0, Value.int IntKind.u32 0] 25, Cl r9 [Value.int IntKind.i64 0, Value.int IntKind.u32 0] 25, RStk b L, R])
  refine plain_batch (rest := []) [⟨3, [], none⟩] (l' := [(5, Value.int IntKind.i64 3), (17, Value.int IntKind.i64 3), (16, Value.agg #[Value.int IntKind.i64 0, Value.int IntKind.u32 0]), (0, Value.pointer (some ⟨b, 0, none⟩)), (1, Value.int IntKind.i64 z), (4, Value.pointer (some ⟨r1, 0, none⟩)), (5, Value.int IntKind.i64 0), (6, Value.pointer (some ⟨r9, 0, none⟩)), (7, Value.int IntKind.i64 3), (15, Value.bool true)] ++ lr15) (pts' := []) (eqs := []) (by kernel_rfl) trivial (AllC_nil _) ?_
  change Code.wp _ (CA Try.f26 [1, 1, 0, 1, 0, 1]) _ _ _
  refine fr_cut [(0, Value.pointer (some ⟨b, 0, none⟩)), (1, Value.int IntKind.i64 z), (4, Value.pointer (some ⟨r1, 0, none⟩)), (5, Value.int IntKind.i64 3), (6, Value.pointer (some ⟨r9, 0, none⟩)), (7, Value.int IntKind.i64 3), (15, Value.bool true)] ⟨rfl, rfl, rfl, rfl, rfl, rfl, rfl, trivial⟩ (fun a => Code.wp _ _ _ a _) (fun lr19 => ?_)
  refine go_rt (by kernel_rfl) ?_
  try simp only [Exit.inBlock, Exit.then]
  have h20 : sat g w17 [RStk b L, Cl r1 [Value.int IntKind.i64 0, Value.int IntKind.u32 0] 25, Cl r9 [Value.int IntKind.i64 0, Value.int IntKind.u32 0] 25, R] := sat_sel [2, 0, 1, 3] rfl h18
  have h21 : sat g w17 [RStk b L, R] := sat_sel [0, 3] rfl h20
  refine ht_out [Value.int IntKind.i64 0, Value.int IntKind.u32 0] (Value.tuple #[Value.agg #[Value.int IntKind.i64 0, Value.int IntKind.u32 0], Value.int IntKind.i64 3]) [(⟨r1, 0, none⟩, Value.int IntKind.i64 0), (⟨r1, 1, none⟩, Value.int IntKind.u32 0)] (by kernel_rfl) (allq ⟨sat_cell h18 0 rfl rfl, sat_cell h18 0 rfl rfl, trivial⟩) ?_
  exact ⟨Value.tuple #[Value.agg #[Value.int IntKind.i64 0, Value.int IntKind.u32 0], Value.int IntKind.i64 3], [RStk b L], rfl, ⟨rfl, rfl⟩, h21⟩

set_option maxHeartbeats 4000000 in
theorem rpop_no (b n : Nat) (L : List Rf) (hn : L.length = n) (h0 : n = 0) : HT Try.prog 27 [Value.pointer (some ⟨b, 0, none⟩)] [RStk b L] (fun v K => v = Value.tuple #[Value.agg #[Value.int .i64 0, Value.int .u32 0], Value.int .i64 5] ∧ K = [RStk b L]) := by
  refine ht_in 25 [(0, Value.pointer (some ⟨b, 0, none⟩))] Try.func27 (by kernel_rfl) Try.ntmps27 rfl rfl ?_
  intro g w0 R h0
  obtain ⟨p1, n2, c3, hn4, h5⟩ := rstk_open h0
  have h6 : sat g w0 [Sl 25 2 p1 n2 c3 (fl eR L), Cl b [Value.bool true, Value.slice p1 n2 c3] 65, R] := sat_sel [1, 0, 2] rfl h5
  obtain ⟨hc7, hc8⟩ := sl_le h6
  refine go_seq (x := CA Try.f27 [0]) (y := CA Try.f27 [1]) (by kernel_rfl) ?_
  refine go_pln (id := 0) (ops := RA Try.f27 [0]) [0, 1] (by kernel_rfl) (by kernel_rfl) ?_
  refine plain_act (i := 0) (by kernel_rfl) ?_
  refine an_new (d := 2) (fun xb_ => Value.pointer (some ⟨xb_, 0, none⟩)) (fun xb_ => Obj.cells [Value.int IntKind.i64 0, Value.int IntKind.u32 0].toArray 25 (0, 0)) (fun xb_ => by kernel_rfl) (by kernel_rfl) rfl h6 ?_
  intro r9 w10 (h11 : sat g w10 [Cl r9 [Value.int IntKind.i64 0, Value.int IntKind.u32 0] 25, Sl 25 2 p1 n2 c3 (fl eR L), Cl b [Value.bool true, Value.slice p1 n2 c3] 65, R])
  refine plain_batch (rest := []) [⟨1, [], none⟩] (l' := [(3, Value.int IntKind.i64 0), (2, Value.pointer (some ⟨r9, 0, none⟩)), (0, Value.pointer (some ⟨b, 0, none⟩))]) (pts' := []) (eqs := []) (by kernel_rfl) trivial (AllC_nil _) ?_
  change Code.wp _ (CA Try.f27 [1]) _ _ _
  refine fr_cut [(0, Value.pointer (some ⟨b, 0, none⟩)), (2, Value.pointer (some ⟨r9, 0, none⟩)), (3, Value.int IntKind.i64 0)] ⟨rfl, rfl, rfl, trivial⟩ (fun a => Code.wp _ _ _ a _) (fun lr12 => ?_)
  refine go_seq (x := CA Try.f27 [1, 0]) (y := CA Try.f27 [1, 1]) (by kernel_rfl) ?_
  refine go_seq (x := CA Try.f27 [1, 0, 0]) (y := CA Try.f27 [1, 0, 1]) (by kernel_rfl) ?_
  refine go_pln (id := 1) (ops := RA Try.f27 [1, 0, 0]) [0, 1, 2] (by kernel_rfl) (by kernel_rfl) ?_
  refine plain_batch (rest := [1, 2]) [⟨0, [], none⟩] (l' := [(4, Value.pointer (some ⟨b, 0, none⟩)), (0, Value.pointer (some ⟨b, 0, none⟩)), (2, Value.pointer (some ⟨r9, 0, none⟩)), (3, Value.int IntKind.i64 0)] ++ lr12) (pts' := []) (eqs := []) (by kernel_rfl) trivial (AllC_nil _) ?_
  have h13 : sat g w10 [Cl b [Value.bool true, Value.slice p1 n2 c3] 65, Cl r9 [Value.int IntKind.i64 0, Value.int IntKind.u32 0] 25, Sl 25 2 p1 n2 c3 (fl eR L), R] := sat_sel [2, 0, 1, 3] rfl h11
  refine plain_act (i := 1) (by kernel_rfl) ?_
  refine an_call (d := some 5) (f := 41) (args := [Value.pointer (some ⟨b, 0, none⟩)]) (by kernel_rfl) Try.call41 (rvalid_ht b p1 n2 c3) (F := [Cl r9 [Value.int IntKind.i64 0, Value.int IntKind.u32 0] 25, Sl 25 2 p1 n2 c3 (fl eR L), R]) h13 ?_
  rintro v K w14 (⟨rfl, rfl⟩) h15
  refine ⟨_, rfl, ?_⟩
  have h16 : sat g w14 [Cl b [Value.bool true, Value.slice p1 n2 c3] 65, Cl r9 [Value.int IntKind.i64 0, Value.int IntKind.u32 0] 25, Sl 25 2 p1 n2 c3 (fl eR L), R] := h15
  refine plain_batch (rest := []) [⟨2, [], none⟩] (l' := [(6, Value.bool false), (5, Value.bool true), (4, Value.pointer (some ⟨b, 0, none⟩)), (0, Value.pointer (some ⟨b, 0, none⟩)), (2, Value.pointer (some ⟨r9, 0, none⟩)), (3, Value.int IntKind.i64 0)] ++ lr12) (pts' := []) (eqs := []) (by kernel_rfl) trivial (AllC_nil _) ?_
  change Code.wp _ (CA Try.f27 [1, 0, 1]) _ _ _
  refine fr_cut [(0, Value.pointer (some ⟨b, 0, none⟩)), (2, Value.pointer (some ⟨r9, 0, none⟩)), (3, Value.int IntKind.i64 0), (6, Value.bool false)] ⟨rfl, rfl, rfl, rfl, trivial⟩ (fun a => Code.wp _ _ _ a _) (fun lr17 => ?_)
  refine go_cnd (x := (Operand.tmp 6)) (s := CA Try.f27 [1, 0, 1, 0]) (t := CA Try.f27 [1, 0, 1, 1]) false (by kernel_rfl) (by kernel_rfl) ?_
  change Code.wp _ (CA Try.f27 [1, 0, 1, 1]) _ _ _
  refine go_skp (by kernel_rfl) ?_
  change Code.wp _ (CA Try.f27 [1, 1]) _ _ _
  refine go_seq (x := CA Try.f27 [1, 1, 0]) (y := CA Try.f27 [1, 1, 1]) (by kernel_rfl) ?_
  refine go_seq (x := CA Try.f27 [1, 1, 0, 0]) (y := CA Try.f27 [1, 1, 0, 1]) (by kernel_rfl) ?_
  refine go_pln (id := 3) (ops := RA Try.f27 [1, 1, 0, 0]) [0, 1, 2, 3, 4, 5] (by kernel_rfl) (by kernel_rfl) ?_
  refine plain_batch (rest := []) [⟨0, [], none⟩, ⟨1, [], none⟩, ⟨2, [], none⟩, ⟨3, [Value.slice p1 n2 c3], none⟩, ⟨4, [], none⟩, ⟨5, [], some (Value.bool true)⟩] (l' := [(13, Value.bool true), (12, Value.int IntKind.i64 (((n2 : Nat) : Int))), (11, Value.slice p1 n2 c3), (10, Value.pointer (some ⟨b, 1, none⟩)), (9, Value.pointer (some ⟨b, 0, none⟩)), (8, Value.pointer (some ⟨b, 0, none⟩)), (0, Value.pointer (some ⟨b, 0, none⟩)), (2, Value.pointer (some ⟨r9, 0, none⟩)), (3, Value.int IntKind.i64 0), (6, Value.bool false)] ++ lr17) (pts' := [(3, ⟨b, 1, none⟩, Value.slice p1 n2 c3)]) (eqs := [(Value.bool ((((n2 : Nat) : Int)) == 0), Value.bool true)]) (by kernel_rfl) ⟨(ov_et (by omega)), trivial⟩ (AllC_cons (sat_cell h16 0 rfl rfl) (AllC_nil _)) ?_
  change Code.wp _ (CA Try.f27 [1, 1, 0, 1]) _ _ _
  refine fr_cut [(0, Value.pointer (some ⟨b, 0, none⟩)), (2, Value.pointer (some ⟨r9, 0, none⟩)), (3, Value.int IntKind.i64 0), (6, Value.bool false), (13, Value.bool true)] ⟨rfl, rfl, rfl, rfl, rfl, trivial⟩ (fun a => Code.wp _ _ _ a _) (fun lr18 => ?_)
  refine go_cnd (x := (Operand.tmp 13)) (s := CA Try.f27 [1, 1, 0, 1, 0]) (t := CA Try.f27 [1, 1, 0, 1, 1]) true (by kernel_rfl) (by kernel_rfl) ?_
  change Code.wp _ (CA Try.f27 [1, 1, 0, 1, 0]) _ _ _
  refine go_seq (x := CA Try.f27 [1, 1, 0, 1, 0, 0]) (y := CA Try.f27 [1, 1, 0, 1, 0, 1]) (by kernel_rfl) ?_
  refine go_pln (id := 4) (ops := RA Try.f27 [1, 1, 0, 1, 0, 0]) [0, 1, 2] (by kernel_rfl) (by kernel_rfl) ?_
  refine plain_batch (rest := [1, 2]) [⟨0, [], none⟩] (l' := [(14, Value.agg #[Value.int IntKind.i64 0, Value.int IntKind.u32 0]), (0, Value.pointer (some ⟨b, 0, none⟩)), (2, Value.pointer (some ⟨r9, 0, none⟩)), (3, Value.int IntKind.i64 0), (6, Value.bool false), (13, Value.bool true)] ++ lr18) (pts' := []) (eqs := []) (by kernel_rfl) trivial (AllC_nil _) ?_
  have h19 : sat g w14 [Cl r9 [Value.int IntKind.i64 0, Value.int IntKind.u32 0] 25, Cl b [Value.bool true, Value.slice p1 n2 c3] 65, Sl 25 2 p1 n2 c3 (fl eR L), R] := sat_sel [1, 0, 2, 3] rfl h16
  refine plain_act (i := 1) (by kernel_rfl) ?_
  refine an_store [(0, Value.int IntKind.i64 0), (1, Value.int IntKind.u32 0)] (cs' := [Value.int IntKind.i64 0, Value.int IntKind.u32 0]) (by kernel_rfl) (by kernel_rfl) (allq ⟨⟨by simp, rfl⟩, ⟨by simp, rfl⟩, trivial⟩) rfl h19 ?_
  intro w20 (h21 : sat g w20 [Cl r9 [Value.int IntKind.i64 0, Value.int IntKind.u32 0] 25, Cl b [Value.bool true, Value.slice p1 n2 c3] 65, Sl 25 2 p1 n2 c3 (fl eR L), R])
  refine plain_batch (rest := []) [⟨2, [], none⟩] (l' := [(3, Value.int IntKind.i64 5), (14, Value.agg #[Value.int IntKind.i64 0, Value.int IntKind.u32 0]), (0, Value.pointer (some ⟨b, 0, none⟩)), (2, Value.pointer (some ⟨r9, 0, none⟩)), (3, Value.int IntKind.i64 0), (6, Value.bool false), (13, Value.bool true)] ++ lr18) (pts' := []) (eqs := []) (by kernel_rfl) trivial (AllC_nil _) ?_
  change Code.wp _ (CA Try.f27 [1, 1, 0, 1, 0, 1]) _ _ _
  refine fr_cut [(0, Value.pointer (some ⟨b, 0, none⟩)), (2, Value.pointer (some ⟨r9, 0, none⟩)), (3, Value.int IntKind.i64 5), (6, Value.bool false), (13, Value.bool true)] ⟨rfl, rfl, rfl, rfl, rfl, trivial⟩ (fun a => Code.wp _ _ _ a _) (fun lr22 => ?_)
  refine go_rt (by kernel_rfl) ?_
  have h23 : sat g w20 [Cl b [Value.bool true, Value.slice p1 n2 c3] 65, Sl 25 2 p1 n2 c3 (fl eR L), Cl r9 [Value.int IntKind.i64 0, Value.int IntKind.u32 0] 25, R] := sat_sel [1, 2, 0, 3] rfl h21
  have hl25 := fl_n eR_ok (by decide) (sat_sel [1] rfl h23)
  have h24 : sat g w20 [RStk b L, Cl r9 [Value.int IntKind.i64 0, Value.int IntKind.u32 0] 25, R] := rstk_close h23 hl25
  try simp only [Exit.inBlock, Exit.then]
  have h26 : sat g w20 [RStk b L, R] := sat_sel [0, 2] rfl h24
  refine ht_out [Value.int IntKind.i64 0, Value.int IntKind.u32 0] (Value.tuple #[Value.agg #[Value.int IntKind.i64 0, Value.int IntKind.u32 0], Value.int IntKind.i64 5]) [(⟨r9, 0, none⟩, Value.int IntKind.i64 0), (⟨r9, 1, none⟩, Value.int IntKind.u32 0)] (by kernel_rfl) (allq ⟨sat_cell h24 1 rfl rfl, sat_cell h24 1 rfl rfl, trivial⟩) ?_
  exact ⟨Value.tuple #[Value.agg #[Value.int IntKind.i64 0, Value.int IntKind.u32 0], Value.int IntKind.i64 5], [RStk b L], rfl, ⟨rfl, rfl⟩, h26⟩

set_option maxHeartbeats 4000000 in
theorem rpop_n (b n : Nat) (L : List Rf) (hn : L.length = n) (hb : n ≤ 1000000) (i : Nat) (r : Rf) (hi : n = i + 1) (hr : L[i]? = some r) : HT Try.prog 27 [Value.pointer (some ⟨b, 0, none⟩)] [RStk b L] (fun v K => v = Value.tuple #[Value.agg #[Value.int .i64 r.1, Value.int .u32 r.2], Value.int .i64 0] ∧ K = [RStk b (L.eraseIdx i)]) := by
  refine ht_in 25 [(0, Value.pointer (some ⟨b, 0, none⟩))] Try.func27 (by kernel_rfl) Try.ntmps27 rfl rfl ?_
  intro g w0 R h0
  obtain ⟨p1, n2, c3, hn4, h5⟩ := rstk_open h0
  have h6 : sat g w0 [Sl 25 2 p1 n2 c3 (fl eR L), Cl b [Value.bool true, Value.slice p1 n2 c3] 65, R] := sat_sel [1, 0, 2] rfl h5
  obtain ⟨hc7, hc8⟩ := sl_le h6
  refine go_seq (x := CA Try.f27 [0]) (y := CA Try.f27 [1]) (by kernel_rfl) ?_
  refine go_pln (id := 0) (ops := RA Try.f27 [0]) [0, 1] (by kernel_rfl) (by kernel_rfl) ?_
  refine plain_act (i := 0) (by kernel_rfl) ?_
  refine an_new (d := 2) (fun xb_ => Value.pointer (some ⟨xb_, 0, none⟩)) (fun xb_ => Obj.cells [Value.int IntKind.i64 0, Value.int IntKind.u32 0].toArray 25 (0, 0)) (fun xb_ => by kernel_rfl) (by kernel_rfl) rfl h6 ?_
  intro r9 w10 (h11 : sat g w10 [Cl r9 [Value.int IntKind.i64 0, Value.int IntKind.u32 0] 25, Sl 25 2 p1 n2 c3 (fl eR L), Cl b [Value.bool true, Value.slice p1 n2 c3] 65, R])
  refine plain_batch (rest := []) [⟨1, [], none⟩] (l' := [(3, Value.int IntKind.i64 0), (2, Value.pointer (some ⟨r9, 0, none⟩)), (0, Value.pointer (some ⟨b, 0, none⟩))]) (pts' := []) (eqs := []) (by kernel_rfl) trivial (AllC_nil _) ?_
  change Code.wp _ (CA Try.f27 [1]) _ _ _
  refine fr_cut [(0, Value.pointer (some ⟨b, 0, none⟩)), (2, Value.pointer (some ⟨r9, 0, none⟩)), (3, Value.int IntKind.i64 0)] ⟨rfl, rfl, rfl, trivial⟩ (fun a => Code.wp _ _ _ a _) (fun lr12 => ?_)
  refine go_seq (x := CA Try.f27 [1, 0]) (y := CA Try.f27 [1, 1]) (by kernel_rfl) ?_
  refine go_seq (x := CA Try.f27 [1, 0, 0]) (y := CA Try.f27 [1, 0, 1]) (by kernel_rfl) ?_
  refine go_pln (id := 1) (ops := RA Try.f27 [1, 0, 0]) [0, 1, 2] (by kernel_rfl) (by kernel_rfl) ?_
  refine plain_batch (rest := [1, 2]) [⟨0, [], none⟩] (l' := [(4, Value.pointer (some ⟨b, 0, none⟩)), (0, Value.pointer (some ⟨b, 0, none⟩)), (2, Value.pointer (some ⟨r9, 0, none⟩)), (3, Value.int IntKind.i64 0)] ++ lr12) (pts' := []) (eqs := []) (by kernel_rfl) trivial (AllC_nil _) ?_
  have h13 : sat g w10 [Cl b [Value.bool true, Value.slice p1 n2 c3] 65, Cl r9 [Value.int IntKind.i64 0, Value.int IntKind.u32 0] 25, Sl 25 2 p1 n2 c3 (fl eR L), R] := sat_sel [2, 0, 1, 3] rfl h11
  refine plain_act (i := 1) (by kernel_rfl) ?_
  refine an_call (d := some 5) (f := 41) (args := [Value.pointer (some ⟨b, 0, none⟩)]) (by kernel_rfl) Try.call41 (rvalid_ht b p1 n2 c3) (F := [Cl r9 [Value.int IntKind.i64 0, Value.int IntKind.u32 0] 25, Sl 25 2 p1 n2 c3 (fl eR L), R]) h13 ?_
  rintro v K w14 (⟨rfl, rfl⟩) h15
  refine ⟨_, rfl, ?_⟩
  have h16 : sat g w14 [Cl b [Value.bool true, Value.slice p1 n2 c3] 65, Cl r9 [Value.int IntKind.i64 0, Value.int IntKind.u32 0] 25, Sl 25 2 p1 n2 c3 (fl eR L), R] := h15
  refine plain_batch (rest := []) [⟨2, [], none⟩] (l' := [(6, Value.bool false), (5, Value.bool true), (4, Value.pointer (some ⟨b, 0, none⟩)), (0, Value.pointer (some ⟨b, 0, none⟩)), (2, Value.pointer (some ⟨r9, 0, none⟩)), (3, Value.int IntKind.i64 0)] ++ lr12) (pts' := []) (eqs := []) (by kernel_rfl) trivial (AllC_nil _) ?_
  change Code.wp _ (CA Try.f27 [1, 0, 1]) _ _ _
  refine fr_cut [(0, Value.pointer (some ⟨b, 0, none⟩)), (2, Value.pointer (some ⟨r9, 0, none⟩)), (3, Value.int IntKind.i64 0), (6, Value.bool false)] ⟨rfl, rfl, rfl, rfl, trivial⟩ (fun a => Code.wp _ _ _ a _) (fun lr17 => ?_)
  refine go_cnd (x := (Operand.tmp 6)) (s := CA Try.f27 [1, 0, 1, 0]) (t := CA Try.f27 [1, 0, 1, 1]) false (by kernel_rfl) (by kernel_rfl) ?_
  change Code.wp _ (CA Try.f27 [1, 0, 1, 1]) _ _ _
  refine go_skp (by kernel_rfl) ?_
  change Code.wp _ (CA Try.f27 [1, 1]) _ _ _
  refine go_seq (x := CA Try.f27 [1, 1, 0]) (y := CA Try.f27 [1, 1, 1]) (by kernel_rfl) ?_
  refine go_seq (x := CA Try.f27 [1, 1, 0, 0]) (y := CA Try.f27 [1, 1, 0, 1]) (by kernel_rfl) ?_
  refine go_pln (id := 3) (ops := RA Try.f27 [1, 1, 0, 0]) [0, 1, 2, 3, 4, 5] (by kernel_rfl) (by kernel_rfl) ?_
  refine plain_batch (rest := []) [⟨0, [], none⟩, ⟨1, [], none⟩, ⟨2, [], none⟩, ⟨3, [Value.slice p1 n2 c3], none⟩, ⟨4, [], none⟩, ⟨5, [], some (Value.bool false)⟩] (l' := [(13, Value.bool false), (12, Value.int IntKind.i64 (((n2 : Nat) : Int))), (11, Value.slice p1 n2 c3), (10, Value.pointer (some ⟨b, 1, none⟩)), (9, Value.pointer (some ⟨b, 0, none⟩)), (8, Value.pointer (some ⟨b, 0, none⟩)), (0, Value.pointer (some ⟨b, 0, none⟩)), (2, Value.pointer (some ⟨r9, 0, none⟩)), (3, Value.int IntKind.i64 0), (6, Value.bool false)] ++ lr17) (pts' := [(3, ⟨b, 1, none⟩, Value.slice p1 n2 c3)]) (eqs := [(Value.bool ((((n2 : Nat) : Int)) == 0), Value.bool false)]) (by kernel_rfl) ⟨(ov_ef (by omega)), trivial⟩ (AllC_cons (sat_cell h16 0 rfl rfl) (AllC_nil _)) ?_
  change Code.wp _ (CA Try.f27 [1, 1, 0, 1]) _ _ _
  refine fr_cut [(0, Value.pointer (some ⟨b, 0, none⟩)), (2, Value.pointer (some ⟨r9, 0, none⟩)), (3, Value.int IntKind.i64 0), (6, Value.bool false), (13, Value.bool false)] ⟨rfl, rfl, rfl, rfl, rfl, trivial⟩ (fun a => Code.wp _ _ _ a _) (fun lr18 => ?_)
  refine go_cnd (x := (Operand.tmp 13)) (s := CA Try.f27 [1, 1, 0, 1, 0]) (t := CA Try.f27 [1, 1, 0, 1, 1]) false (by kernel_rfl) (by kernel_rfl) ?_
  change Code.wp _ (CA Try.f27 [1, 1, 0, 1, 1]) _ _ _
  refine go_skp (by kernel_rfl) ?_
  change Code.wp _ (CA Try.f27 [1, 1, 1]) _ _ _
  refine go_seq (x := CA Try.f27 [1, 1, 1, 0]) (y := CA Try.f27 [1, 1, 1, 1]) (by kernel_rfl) ?_
  refine go_pln (id := 5) (ops := RA Try.f27 [1, 1, 1, 0]) [0, 1, 2, 3, 4, 5, 6, 7, 8, 9, 10, 11] (by kernel_rfl) (by kernel_rfl) ?_
  refine plain_batch (rest := [7, 8, 9, 10, 11]) [⟨0, [], none⟩, ⟨1, [], none⟩, ⟨2, [], none⟩, ⟨3, [], none⟩, ⟨4, [Value.slice p1 n2 c3], none⟩, ⟨5, [], none⟩, ⟨6, [], some (Value.int IntKind.i64 (((n2 : Nat) : Int) - 1))⟩] (l' := [(21, Value.int IntKind.i64 (((n2 : Nat) : Int) - 1)), (20, Value.int IntKind.i64 (((n2 : Nat) : Int))), (19, Value.slice p1 n2 c3), (18, Value.pointer (some ⟨b, 1, none⟩)), (17, Value.pointer (some ⟨b, 0, none⟩)), (16, Value.pointer (some ⟨b, 0, none⟩)), (15, Value.pointer (some ⟨b, 0, none⟩)), (0, Value.pointer (some ⟨b, 0, none⟩)), (2, Value.pointer (some ⟨r9, 0, none⟩)), (3, Value.int IntKind.i64 0), (6, Value.bool false), (13, Value.bool false)] ++ lr18) (pts' := [(4, ⟨b, 1, none⟩, Value.slice p1 n2 c3)]) (eqs := [(Value.int IntKind.i64 (IntKind.wrap IntKind.i64 ((((n2 : Nat) : Int)) - 1)), Value.int IntKind.i64 (((n2 : Nat) : Int) - 1))]) (by kernel_rfl) ⟨(ov_i64 (by omega) (by omega) (by omega)), trivial⟩ (AllC_cons (sat_cell h16 0 rfl rfl) (AllC_nil _)) ?_
  have h19 : sat g w14 [Cl b [Value.bool true, Value.slice p1 n2 c3] 65, Sl 25 2 p1 n2 c3 (fl eR L), Cl r9 [Value.int IntKind.i64 0, Value.int IntKind.u32 0] 25, R] := sat_sel [0, 2, 1, 3] rfl h16
  have hl21 := fl_n eR_ok (by decide) (sat_sel [1] rfl h19)
  have h20 : sat g w14 [RStk b L, Cl r9 [Value.int IntKind.i64 0, Value.int IntKind.u32 0] 25, R] := rstk_close h19 hl21
  refine plain_act (i := 7) (by kernel_rfl) ?_
  refine an_call (d := some 22) (f := 26) (args := [Value.pointer (some ⟨b, 0, none⟩), Value.int IntKind.i64 (((n2 : Nat) : Int) - 1)]) (by kernel_rfl) Try.call26 (rdrop_n b n L hn hb i r (((n2 : Nat) : Int) - 1) (by omega) (by omega) hr) (F := [Cl r9 [Value.int IntKind.i64 0, Value.int IntKind.u32 0] 25, R]) h20 ?_
  rintro v K w22 (⟨rfl, rfl⟩) h23
  refine ⟨_, rfl, ?_⟩
  have h24 : sat g w22 [RStk b (L.eraseIdx i), Cl r9 [Value.int IntKind.i64 0, Value.int IntKind.u32 0] 25, R] := h23
  refine plain_batch (rest := [10, 11]) [⟨8, [], none⟩, ⟨9, [], none⟩] (l' := [(24, Value.int IntKind.i64 0), (23, Value.agg #[Value.int IntKind.i64 r.1, Value.int IntKind.u32 r.2]), (22, Value.tuple #[Value.agg #[Value.int IntKind.i64 r.1, Value.int IntKind.u32 r.2], Value.int IntKind.i64 0]), (21, Value.int IntKind.i64 (((n2 : Nat) : Int) - 1)), (20, Value.int IntKind.i64 (((n2 : Nat) : Int))), (19, Value.slice p1 n2 c3), (18, Value.pointer (some ⟨b, 1, none⟩)), (17, Value.pointer (some ⟨b, 0, none⟩)), (16, Value.pointer (some ⟨b, 0, none⟩)), (15, Value.pointer (some ⟨b, 0, none⟩)), (0, Value.pointer (some ⟨b, 0, none⟩)), (2, Value.pointer (some ⟨r9, 0, none⟩)), (3, Value.int IntKind.i64 0), (6, Value.bool false), (13, Value.bool false)] ++ lr18) (pts' := []) (eqs := []) (by kernel_rfl) trivial (AllC_nil _) ?_
  have h25 : sat g w22 [Cl r9 [Value.int IntKind.i64 0, Value.int IntKind.u32 0] 25, RStk b (L.eraseIdx i), R] := sat_sel [1, 0, 2] rfl h24
  refine plain_act (i := 10) (by kernel_rfl) ?_
  refine an_store [(0, Value.int IntKind.i64 r.1), (1, Value.int IntKind.u32 r.2)] (cs' := [Value.int IntKind.i64 r.1, Value.int IntKind.u32 r.2]) (by kernel_rfl) (by kernel_rfl) (allq ⟨⟨by simp, rfl⟩, ⟨by simp, rfl⟩, trivial⟩) rfl h25 ?_
  intro w26 (h27 : sat g w26 [Cl r9 [Value.int IntKind.i64 r.1, Value.int IntKind.u32 r.2] 25, RStk b (L.eraseIdx i), R])
  refine plain_batch (rest := []) [⟨11, [], none⟩] (l' := [(3, Value.int IntKind.i64 0), (24, Value.int IntKind.i64 0), (23, Value.agg #[Value.int IntKind.i64 r.1, Value.int IntKind.u32 r.2]), (22, Value.tuple #[Value.agg #[Value.int IntKind.i64 r.1, Value.int IntKind.u32 r.2], Value.int IntKind.i64 0]), (21, Value.int IntKind.i64 (((n2 : Nat) : Int) - 1)), (20, Value.int IntKind.i64 (((n2 : Nat) : Int))), (19, Value.slice p1 n2 c3), (18, Value.pointer (some ⟨b, 1, none⟩)), (17, Value.pointer (some ⟨b, 0, none⟩)), (16, Value.pointer (some ⟨b, 0, none⟩)), (15, Value.pointer (some ⟨b, 0, none⟩)), (0, Value.pointer (some ⟨b, 0, none⟩)), (2, Value.pointer (some ⟨r9, 0, none⟩)), (3, Value.int IntKind.i64 0), (6, Value.bool false), (13, Value.bool false)] ++ lr18) (pts' := []) (eqs := []) (by kernel_rfl) trivial (AllC_nil _) ?_
  change Code.wp _ (CA Try.f27 [1, 1, 1, 1]) _ _ _
  refine fr_cut [(0, Value.pointer (some ⟨b, 0, none⟩)), (2, Value.pointer (some ⟨r9, 0, none⟩)), (3, Value.int IntKind.i64 0), (6, Value.bool false), (13, Value.bool false)] ⟨rfl, rfl, rfl, rfl, rfl, trivial⟩ (fun a => Code.wp _ _ _ a _) (fun lr28 => ?_)
  refine go_rt (by kernel_rfl) ?_
  try simp only [Exit.inBlock, Exit.then]
  have h29 : sat g w26 [RStk b (L.eraseIdx i), Cl r9 [Value.int IntKind.i64 r.1, Value.int IntKind.u32 r.2] 25, R] := sat_sel [1, 0, 2] rfl h27
  have h30 : sat g w26 [RStk b (L.eraseIdx i), R] := sat_sel [0, 2] rfl h29
  refine ht_out [Value.int IntKind.i64 r.1, Value.int IntKind.u32 r.2] (Value.tuple #[Value.agg #[Value.int IntKind.i64 r.1, Value.int IntKind.u32 r.2], Value.int IntKind.i64 0]) [(⟨r9, 0, none⟩, Value.int IntKind.i64 r.1), (⟨r9, 1, none⟩, Value.int IntKind.u32 r.2)] (by kernel_rfl) (allq ⟨sat_cell h27 0 rfl rfl, sat_cell h27 0 rfl rfl, trivial⟩) ?_
  exact ⟨Value.tuple #[Value.agg #[Value.int IntKind.i64 r.1, Value.int IntKind.u32 r.2], Value.int IntKind.i64 0], [RStk b (L.eraseIdx i)], rfl, ⟨rfl, rfl⟩, h30⟩

set_option maxHeartbeats 4000000 in
theorem rfind_in (b : Nat) (L : List Rf) (r : Rf) (k : Nat) (hr : L[k]? = some r) (hmin : ∀ j : Nat, j < k → L[j]? ≠ some r) : HT Try.prog 30 [Value.pointer (some ⟨b, 0, none⟩), Value.agg #[Value.int IntKind.i64 r.1, Value.int IntKind.u32 r.2]] [RStk b L] (fun v K => v = Value.tuple #[Value.int .i64 (k : Int), Value.bool true] ∧ K = [RStk b L]) := by
  have hkl := (List.getElem?_eq_some_iff.1 hr).1
  refine ht_in 30 [(0, Value.pointer (some ⟨b, 0, none⟩)), (1, Value.agg #[Value.int IntKind.i64 r.1, Value.int IntKind.u32 r.2])] Try.func30 (by kernel_rfl) Try.ntmps30 rfl rfl ?_
  intro g w0 R h0
  obtain ⟨p1, n2, c3, hn4, h5⟩ := rstk_open h0
  have h6 : sat g w0 [Sl 25 2 p1 n2 c3 (fl eR L), Cl b [Value.bool true, Value.slice p1 n2 c3] 65, R] := sat_sel [1, 0, 2] rfl h5
  obtain ⟨hc7, hc8⟩ := sl_le h6
  refine go_seq (x := CA Try.f30 [0]) (y := CA Try.f30 [1]) (by kernel_rfl) ?_
  refine go_pln (id := 0) (ops := RA Try.f30 [0]) [0, 1, 2] (by kernel_rfl) (by kernel_rfl) ?_
  refine plain_act (i := 0) (by kernel_rfl) ?_
  refine an_new (d := 3) (fun xb_ => Value.pointer (some ⟨xb_, 0, none⟩)) (fun xb_ => Obj.cells [Value.int IntKind.i64 r.1, Value.int IntKind.u32 r.2].toArray 25 (0, 0)) (fun xb_ => by kernel_rfl) (by kernel_rfl) rfl h6 ?_
  intro r9 w10 (h11 : sat g w10 [Cl r9 [Value.int IntKind.i64 r.1, Value.int IntKind.u32 r.2] 25, Sl 25 2 p1 n2 c3 (fl eR L), Cl b [Value.bool true, Value.slice p1 n2 c3] 65, R])
  refine plain_batch (rest := []) [⟨1, [], none⟩, ⟨2, [], none⟩] (l' := [(5, Value.bool false), (4, Value.int IntKind.i64 0), (3, Value.pointer (some ⟨r9, 0, none⟩)), (0, Value.pointer (some ⟨b, 0, none⟩)), (1, Value.agg #[Value.int IntKind.i64 r.1, Value.int IntKind.u32 r.2])]) (pts' := []) (eqs := []) (by kernel_rfl) trivial (AllC_nil _) ?_
  change Code.wp _ (CA Try.f30 [1]) _ _ _
  refine fr_cut [(0, Value.pointer (some ⟨b, 0, none⟩)), (1, Value.agg #[Value.int IntKind.i64 r.1, Value.int IntKind.u32 r.2]), (3, Value.pointer (some ⟨r9, 0, none⟩)), (4, Value.int IntKind.i64 0), (5, Value.bool false)] ⟨rfl, rfl, rfl, rfl, rfl, trivial⟩ (fun a => Code.wp _ _ _ a _) (fun lr12 => ?_)
  refine go_seq (x := CA Try.f30 [1, 0]) (y := CA Try.f30 [1, 1]) (by kernel_rfl) ?_
  refine go_seq (x := CA Try.f30 [1, 0, 0]) (y := CA Try.f30 [1, 0, 1]) (by kernel_rfl) ?_
  refine go_pln (id := 1) (ops := RA Try.f30 [1, 0, 0]) [0] (by kernel_rfl) (by kernel_rfl) ?_
  refine plain_batch (rest := []) [⟨0, [], none⟩] (l' := [(6, Value.int IntKind.i64 0), (0, Value.pointer (some ⟨b, 0, none⟩)), (1, Value.agg #[Value.int IntKind.i64 r.1, Value.int IntKind.u32 r.2]), (3, Value.pointer (some ⟨r9, 0, none⟩)), (4, Value.int IntKind.i64 0), (5, Value.bool false)] ++ lr12) (pts' := []) (eqs := []) (by kernel_rfl) trivial (AllC_nil _) ?_
  change Code.wp _ (CA Try.f30 [1, 0, 1]) _ _ _
  refine fr_cut [(0, Value.pointer (some ⟨b, 0, none⟩)), (1, Value.agg #[Value.int IntKind.i64 r.1, Value.int IntKind.u32 r.2]), (3, Value.pointer (some ⟨r9, 0, none⟩)), (4, Value.int IntKind.i64 0), (5, Value.bool false), (6, Value.int IntKind.i64 0)] ⟨rfl, rfl, rfl, rfl, rfl, rfl, trivial⟩ (fun a => Code.wp _ _ _ a _) (fun lr13 => ?_)
  refine go_blk (id := 0) (x := CA Try.f30 [1, 0, 1, 0]) (by kernel_rfl) ?_
  refine lp (x := CA Try.f30 [1, 0, 1, 0, 0]) (by kernel_rfl) (fun mz_ a w => ∃ i : Nat, ∃ lr : Fr, mz_ = k - i ∧ (i ≤ k) ∧ a = mk 30 ([(0, Value.pointer (some ⟨b, 0, none⟩)), (3, Value.pointer (some ⟨r9, 0, none⟩)), (6, Value.int IntKind.i64 (((i : Nat) : Int)))] ++ lr) ∧ sat g w [Cl r9 [Value.int IntKind.i64 r.1, Value.int IntKind.u32 r.2] 25, Sl 25 2 p1 n2 c3 (fl eR L), Cl b [Value.bool true, Value.slice p1 n2 c3] 65, R]) (k) ⟨0, _, rfl, (Nat.zero_le _), (mk_live [(0, Value.pointer (some ⟨b, 0, none⟩)), (3, Value.pointer (some ⟨r9, 0, none⟩)), (6, Value.int IntKind.i64 (((0 : Nat) : Int)))] ⟨rfl, rfl, (ov_int (by omega)), trivial⟩), h11⟩ ?_
  rintro m15 a16 w17 ⟨i, lr14, rfl, hi, rfl, h18⟩
  change Code.wp _ (CA Try.f30 [1, 0, 1, 0, 0]) _ _ _
  refine go_seq (x := CA Try.f30 [1, 0, 1, 0, 0, 0]) (y := CA Try.f30 [1, 0, 1, 0, 0, 1]) (by kernel_rfl) ?_
  refine go_seq (x := CA Try.f30 [1, 0, 1, 0, 0, 0, 0]) (y := CA Try.f30 [1, 0, 1, 0, 0, 0, 1]) (by kernel_rfl) ?_
  refine go_pln (id := 2) (ops := RA Try.f30 [1, 0, 1, 0, 0, 0, 0]) [0, 1, 2, 3, 4, 5, 6, 7, 8, 9, 10] (by kernel_rfl) (by kernel_rfl) ?_
  refine plain_batch (rest := [1, 2, 3, 4, 5, 6, 7, 8, 9, 10]) [⟨0, [], none⟩] (l' := [(7, Value.pointer (some ⟨b, 0, none⟩)), (0, Value.pointer (some ⟨b, 0, none⟩)), (3, Value.pointer (some ⟨r9, 0, none⟩)), (6, Value.int IntKind.i64 (((i : Nat) : Int)))] ++ lr14) (pts' := []) (eqs := []) (by kernel_rfl) trivial (AllC_nil _) ?_
  have h19 : sat g w17 [Cl b [Value.bool true, Value.slice p1 n2 c3] 65, Cl r9 [Value.int IntKind.i64 r.1, Value.int IntKind.u32 r.2] 25, Sl 25 2 p1 n2 c3 (fl eR L), R] := sat_sel [2, 0, 1, 3] rfl h18
  refine plain_act (i := 1) (by kernel_rfl) ?_
  refine an_call (d := some 8) (f := 41) (args := [Value.pointer (some ⟨b, 0, none⟩)]) (by kernel_rfl) Try.call41 (rvalid_ht b p1 n2 c3) (F := [Cl r9 [Value.int IntKind.i64 r.1, Value.int IntKind.u32 r.2] 25, Sl 25 2 p1 n2 c3 (fl eR L), R]) h19 ?_
  rintro v K w20 (⟨rfl, rfl⟩) h21
  refine ⟨_, rfl, ?_⟩
  have h22 : sat g w20 [Cl b [Value.bool true, Value.slice p1 n2 c3] 65, Cl r9 [Value.int IntKind.i64 r.1, Value.int IntKind.u32 r.2] 25, Sl 25 2 p1 n2 c3 (fl eR L), R] := h21
  refine plain_batch (rest := []) [⟨2, [], none⟩, ⟨3, [], none⟩, ⟨4, [], none⟩, ⟨5, [], none⟩, ⟨6, [], none⟩, ⟨7, [Value.slice p1 n2 c3], none⟩, ⟨8, [], none⟩, ⟨9, [], some (Value.bool true)⟩, ⟨10, [], none⟩] (l' := [(17, Value.bool true), (16, Value.bool true), (15, Value.int IntKind.i64 (((n2 : Nat) : Int))), (14, Value.slice p1 n2 c3), (13, Value.pointer (some ⟨b, 1, none⟩)), (12, Value.pointer (some ⟨b, 0, none⟩)), (11, Value.pointer (some ⟨b, 0, none⟩)), (10, Value.int IntKind.i64 (((i : Nat) : Int))), (9, Value.bool true), (8, Value.bool true), (7, Value.pointer (some ⟨b, 0, none⟩)), (0, Value.pointer (some ⟨b, 0, none⟩)), (3, Value.pointer (some ⟨r9, 0, none⟩)), (6, Value.int IntKind.i64 (((i : Nat) : Int)))] ++ lr14) (pts' := [(7, ⟨b, 1, none⟩, Value.slice p1 n2 c3)]) (eqs := [(Value.bool (decide (((i : Nat) : Int) < ((n2 : Nat) : Int))), Value.bool true)]) (by kernel_rfl) ⟨(ov_t (by omega)), trivial⟩ (AllC_cons (sat_cell h22 0 rfl rfl) (AllC_nil _)) ?_
  change Code.wp _ (CA Try.f30 [1, 0, 1, 0, 0, 0, 1]) _ _ _
  refine fr_cut [(0, Value.pointer (some ⟨b, 0, none⟩)), (3, Value.pointer (some ⟨r9, 0, none⟩)), (6, Value.int IntKind.i64 (((i : Nat) : Int))), (17, Value.bool true)] ⟨rfl, rfl, rfl, rfl, trivial⟩ (fun a => Code.wp _ _ _ a _) (fun lr23 => ?_)
  refine go_cnd (x := (Operand.tmp 17)) (s := CA Try.f30 [1, 0, 1, 0, 0, 0, 1, 0]) (t := CA Try.f30 [1, 0, 1, 0, 0, 0, 1, 1]) true (by kernel_rfl) (by kernel_rfl) ?_
  change Code.wp _ (CA Try.f30 [1, 0, 1, 0, 0, 0, 1, 0]) _ _ _
  refine go_skp (by kernel_rfl) ?_
  change Code.wp _ (CA Try.f30 [1, 0, 1, 0, 0, 1]) _ _ _
  refine go_seq (x := CA Try.f30 [1, 0, 1, 0, 0, 1, 0]) (y := CA Try.f30 [1, 0, 1, 0, 0, 1, 1]) (by kernel_rfl) ?_
  refine go_blk (id := 1) (x := CA Try.f30 [1, 0, 1, 0, 0, 1, 0, 0]) (by kernel_rfl) ?_
  refine go_seq (x := CA Try.f30 [1, 0, 1, 0, 0, 1, 0, 0, 0]) (y := CA Try.f30 [1, 0, 1, 0, 0, 1, 0, 0, 1]) (by kernel_rfl) ?_
  by_cases c24 : i = k
  ·
    refine go_drw (id := 4) (ops := RA Try.f30 [1, 0, 1, 0, 0, 1, 0, 0, 0]) (Tr.fl 0 (Tr.fl 1 (Tr.fl 2 (Tr.fl 3 (Tr.fl 4 (Tr.fl 5 (Tr.fl 6 (Tr.fl 7 (Tr.fl 8 Tr.nil))))))))) (by kernel_rfl) (by kernel_rfl) (by kernel_rfl) (by kernel_rfl) (fun _ _ d _ _ h => by cases d <;> exact h) h22 ?_
    intro w25 h26
    obtain ⟨b27, hp28⟩ := sl_ptr0 (j := 2) h26 rfl (by omega)
    refine draw_batch (t := (Tr.fl 5 (Tr.fl 6 (Tr.fl 7 (Tr.fl 8 Tr.nil))))) [⟨0, [], none⟩, ⟨1, [], none⟩, ⟨2, [], none⟩, ⟨3, [Value.slice p1 n2 c3], none⟩, ⟨4, [], none⟩] (l' := [(24, Value.int IntKind.i64 (((i : Nat) : Int))), (23, Value.slice p1 n2 c3), (22, Value.pointer (some ⟨b, 1, none⟩)), (21, Value.pointer (some ⟨b, 0, none⟩)), (20, Value.pointer (some ⟨b, 0, none⟩)), (0, Value.pointer (some ⟨b, 0, none⟩)), (3, Value.pointer (some ⟨r9, 0, none⟩)), (6, Value.int IntKind.i64 (((i : Nat) : Int))), (17, Value.bool true)] ++ lr23) (pts' := [(3, ⟨b, 1, none⟩, Value.slice p1 n2 c3)]) (eqs := []) (by kernel_rfl) trivial (AllC_cons (sat_cell h26 0 rfl rfl) (AllC_nil _)) ?_
    refine draw_law (i := 5) 25 (Value.pointer (some ⟨b27, i * 2, none⟩)) [] (by kernel_rfl) (fun _ _ => law_indexSlP (o := opA (RA Try.f30 [1, 0, 1, 0, 0, 1, 0, 0, 0]) 5) (x := (Operand.tmp 23)) (i := (Operand.tmp 24)) (p := p1) (b := b27) (off := 0) (z := (((i : Nat) : Int))) (len := n2) (cap := c3) (by kernel_rfl) Try.underlying28 2 (by kernel_rfl) i (by kernel_rfl) hp28 (by kernel_rfl) (by omega) (by omega) (i * 2) (by omega) _) (by intro q hq; cases hq) ?_
    have hx29 : L[i]? = some r := by rw [show i = k by omega]; exact hr
    refine draw_batch (t := (Tr.fl 8 Tr.nil)) [⟨6, [Value.int IntKind.i64 r.1, Value.int IntKind.u32 r.2], none⟩, ⟨7, [Value.int IntKind.i64 r.1, Value.int IntKind.u32 r.2], none⟩] (l' := [(27, Value.agg #[Value.int IntKind.i64 r.1, Value.int IntKind.u32 r.2]), (26, Value.agg #[Value.int IntKind.i64 r.1, Value.int IntKind.u32 r.2]), (25, Value.pointer (some ⟨b27, i * 2, none⟩)), (24, Value.int IntKind.i64 (((i : Nat) : Int))), (23, Value.slice p1 n2 c3), (22, Value.pointer (some ⟨b, 1, none⟩)), (21, Value.pointer (some ⟨b, 0, none⟩)), (20, Value.pointer (some ⟨b, 0, none⟩)), (0, Value.pointer (some ⟨b, 0, none⟩)), (3, Value.pointer (some ⟨r9, 0, none⟩)), (6, Value.int IntKind.i64 (((i : Nat) : Int))), (17, Value.bool true)] ++ lr23) (pts' := [(7, ⟨r9, 0, none⟩, Value.int IntKind.i64 r.1), (7, ⟨r9, 1, none⟩, Value.int IntKind.u32 r.2), (6, ⟨b27, i * 2, none⟩, Value.int IntKind.i64 r.1), (6, ⟨b27, i * 2 + 1, none⟩, Value.int IntKind.u32 r.2)]) (eqs := []) (by kernel_rfl) trivial (AllC_cons (sat_cell h26 1 rfl rfl) (AllC_cons (sat_cell h26 1 rfl rfl) (AllC_cons (gv_cell (j := 2) h26 rfl (gv_sl _ _ _) hp28 (fl_get eR_ok (j := 0) (v := Value.int IntKind.i64 r.1) hx29 rfl) (i * 2) (by omega)) (AllC_cons (gv_cell (j := 2) h26 rfl (gv_sl _ _ _) hp28 (fl_get eR_ok (j := 1) (v := Value.int IntKind.u32 r.2) hx29 rfl) (i * 2 + 1) (by omega)) (AllC_nil _))))) ?_
    refine draw_law (i := 8) 28 (Value.bool true) [] (by kernel_rfl) (fun _ _ => seq25_eql_t (o := opA (RA Try.f30 [1, 0, 1, 0, 0, 1, 0, 0, 0]) 8) (x := (Operand.tmp 26)) (y := (Operand.tmp 27)) r.1 r.2 r.1 r.2 (by kernel_rfl) (by kernel_rfl) (by kernel_rfl) ⟨rfl, rfl⟩ _) (by intro q hq; cases hq) ?_
    change Code.wp _ (CA Try.f30 [1, 0, 1, 0, 0, 1, 0, 0, 1]) _ _ _
    refine fr_cut [(0, Value.pointer (some ⟨b, 0, none⟩)), (3, Value.pointer (some ⟨r9, 0, none⟩)), (6, Value.int IntKind.i64 (((i : Nat) : Int))), (17, Value.bool true), (28, Value.bool true)] ⟨rfl, rfl, rfl, rfl, rfl, trivial⟩ (fun a => Code.wp _ _ _ a _) (fun lr30 => ?_)
    refine go_cnd (x := (Operand.tmp 28)) (s := CA Try.f30 [1, 0, 1, 0, 0, 1, 0, 0, 1, 0]) (t := CA Try.f30 [1, 0, 1, 0, 0, 1, 0, 0, 1, 1]) true (by kernel_rfl) (by kernel_rfl) ?_
    change Code.wp _ (CA Try.f30 [1, 0, 1, 0, 0, 1, 0, 0, 1, 0]) _ _ _
    refine go_seq (x := CA Try.f30 [1, 0, 1, 0, 0, 1, 0, 0, 1, 0, 0]) (y := CA Try.f30 [1, 0, 1, 0, 0, 1, 0, 0, 1, 0, 1]) (by kernel_rfl) ?_
    refine go_pln (id := 5) (ops := RA Try.f30 [1, 0, 1, 0, 0, 1, 0, 0, 1, 0, 0]) [0, 1, 2] (by kernel_rfl) (by kernel_rfl) ?_
    refine plain_batch (rest := []) [⟨0, [], none⟩, ⟨1, [], none⟩, ⟨2, [], none⟩] (l' := [(5, Value.bool true), (4, Value.int IntKind.i64 (((i : Nat) : Int))), (29, Value.int IntKind.i64 (((i : Nat) : Int))), (0, Value.pointer (some ⟨b, 0, none⟩)), (3, Value.pointer (some ⟨r9, 0, none⟩)), (6, Value.int IntKind.i64 (((i : Nat) : Int))), (17, Value.bool true), (28, Value.bool true)] ++ lr30) (pts' := []) (eqs := []) (by kernel_rfl) trivial (AllC_nil _) ?_
    change Code.wp _ (CA Try.f30 [1, 0, 1, 0, 0, 1, 0, 0, 1, 0, 1]) _ _ _
    refine fr_cut [(0, Value.pointer (some ⟨b, 0, none⟩)), (3, Value.pointer (some ⟨r9, 0, none⟩)), (4, Value.int IntKind.i64 (((i : Nat) : Int))), (5, Value.bool true), (6, Value.int IntKind.i64 (((i : Nat) : Int))), (17, Value.bool true), (28, Value.bool true)] ⟨rfl, rfl, rfl, rfl, rfl, rfl, rfl, trivial⟩ (fun a => Code.wp _ _ _ a _) (fun lr31 => ?_)
    refine go_rt (by kernel_rfl) ?_
    have h32 : sat g w25 [Cl b [Value.bool true, Value.slice p1 n2 c3] 65, Sl 25 2 p1 n2 c3 (fl eR L), Cl r9 [Value.int IntKind.i64 r.1, Value.int IntKind.u32 r.2] 25, R] := sat_sel [0, 2, 1, 3] rfl h26
    have hl34 := fl_n eR_ok (by decide) (sat_sel [1] rfl h32)
    have h33 : sat g w25 [RStk b L, Cl r9 [Value.int IntKind.i64 r.1, Value.int IntKind.u32 r.2] 25, R] := rstk_close h32 hl34
    try simp only [Exit.inBlock, Exit.then]
    have h35 : sat g w25 [RStk b L, R] := sat_sel [0, 2] rfl h33
    refine ht_out [] (Value.tuple #[Value.int IntKind.i64 (((i : Nat) : Int)), Value.bool true]) [] (by kernel_rfl) (by intro q hq; cases hq) ?_
    exact ⟨Value.tuple #[Value.int IntKind.i64 (((i : Nat) : Int)), Value.bool true], [RStk b L], rfl, ⟨by rw [show k = i by omega], rfl⟩, h35⟩
  ·
    refine go_drw (id := 4) (ops := RA Try.f30 [1, 0, 1, 0, 0, 1, 0, 0, 0]) (Tr.fl 0 (Tr.fl 1 (Tr.fl 2 (Tr.fl 3 (Tr.fl 4 (Tr.fl 5 (Tr.fl 6 (Tr.fl 7 (Tr.fl 8 Tr.nil))))))))) (by kernel_rfl) (by kernel_rfl) (by kernel_rfl) (by kernel_rfl) (fun _ _ d _ _ h => by cases d <;> exact h) h22 ?_
    intro w36 h37
    obtain ⟨b38, hp39⟩ := sl_ptr0 (j := 2) h37 rfl (by omega)
    refine draw_batch (t := (Tr.fl 5 (Tr.fl 6 (Tr.fl 7 (Tr.fl 8 Tr.nil))))) [⟨0, [], none⟩, ⟨1, [], none⟩, ⟨2, [], none⟩, ⟨3, [Value.slice p1 n2 c3], none⟩, ⟨4, [], none⟩] (l' := [(24, Value.int IntKind.i64 (((i : Nat) : Int))), (23, Value.slice p1 n2 c3), (22, Value.pointer (some ⟨b, 1, none⟩)), (21, Value.pointer (some ⟨b, 0, none⟩)), (20, Value.pointer (some ⟨b, 0, none⟩)), (0, Value.pointer (some ⟨b, 0, none⟩)), (3, Value.pointer (some ⟨r9, 0, none⟩)), (6, Value.int IntKind.i64 (((i : Nat) : Int))), (17, Value.bool true)] ++ lr23) (pts' := [(3, ⟨b, 1, none⟩, Value.slice p1 n2 c3)]) (eqs := []) (by kernel_rfl) trivial (AllC_cons (sat_cell h37 0 rfl rfl) (AllC_nil _)) ?_
    refine draw_law (i := 5) 25 (Value.pointer (some ⟨b38, i * 2, none⟩)) [] (by kernel_rfl) (fun _ _ => law_indexSlP (o := opA (RA Try.f30 [1, 0, 1, 0, 0, 1, 0, 0, 0]) 5) (x := (Operand.tmp 23)) (i := (Operand.tmp 24)) (p := p1) (b := b38) (off := 0) (z := (((i : Nat) : Int))) (len := n2) (cap := c3) (by kernel_rfl) Try.underlying28 2 (by kernel_rfl) i (by kernel_rfl) hp39 (by kernel_rfl) (by omega) (by omega) (i * 2) (by omega) _) (by intro q hq; cases hq) ?_
    obtain ⟨x40, hx41⟩ : ∃ x, L[i]? = some x := ⟨_, List.getElem?_eq_getElem (by rw [hn4]; omega)⟩
    have hne42 := rf_ne (by rw [← hx41]; exact hmin i (by omega) : some x40 ≠ some r)
    refine draw_batch (t := (Tr.fl 8 Tr.nil)) [⟨6, [Value.int IntKind.i64 x40.1, Value.int IntKind.u32 x40.2], none⟩, ⟨7, [Value.int IntKind.i64 r.1, Value.int IntKind.u32 r.2], none⟩] (l' := [(27, Value.agg #[Value.int IntKind.i64 r.1, Value.int IntKind.u32 r.2]), (26, Value.agg #[Value.int IntKind.i64 x40.1, Value.int IntKind.u32 x40.2]), (25, Value.pointer (some ⟨b38, i * 2, none⟩)), (24, Value.int IntKind.i64 (((i : Nat) : Int))), (23, Value.slice p1 n2 c3), (22, Value.pointer (some ⟨b, 1, none⟩)), (21, Value.pointer (some ⟨b, 0, none⟩)), (20, Value.pointer (some ⟨b, 0, none⟩)), (0, Value.pointer (some ⟨b, 0, none⟩)), (3, Value.pointer (some ⟨r9, 0, none⟩)), (6, Value.int IntKind.i64 (((i : Nat) : Int))), (17, Value.bool true)] ++ lr23) (pts' := [(7, ⟨r9, 0, none⟩, Value.int IntKind.i64 r.1), (7, ⟨r9, 1, none⟩, Value.int IntKind.u32 r.2), (6, ⟨b38, i * 2, none⟩, Value.int IntKind.i64 x40.1), (6, ⟨b38, i * 2 + 1, none⟩, Value.int IntKind.u32 x40.2)]) (eqs := []) (by kernel_rfl) trivial (AllC_cons (sat_cell h37 1 rfl rfl) (AllC_cons (sat_cell h37 1 rfl rfl) (AllC_cons (gv_cell (j := 2) h37 rfl (gv_sl _ _ _) hp39 (fl_get eR_ok (j := 0) (v := Value.int IntKind.i64 x40.1) hx41 rfl) (i * 2) (by omega)) (AllC_cons (gv_cell (j := 2) h37 rfl (gv_sl _ _ _) hp39 (fl_get eR_ok (j := 1) (v := Value.int IntKind.u32 x40.2) hx41 rfl) (i * 2 + 1) (by omega)) (AllC_nil _))))) ?_
    by_cases c43 : x40.1 = r.1
    ·
      refine draw_law (i := 8) 28 (Value.bool false) [] (by kernel_rfl) (fun _ _ => seq25_eql_f (o := opA (RA Try.f30 [1, 0, 1, 0, 0, 1, 0, 0, 0]) 8) (x := (Operand.tmp 26)) (y := (Operand.tmp 27)) x40.1 x40.2 r.1 r.2 (by kernel_rfl) (by kernel_rfl) (by kernel_rfl) (by omega) _) (by intro q hq; cases hq) ?_
      change Code.wp _ (CA Try.f30 [1, 0, 1, 0, 0, 1, 0, 0, 1]) _ _ _
      refine fr_cut [(0, Value.pointer (some ⟨b, 0, none⟩)), (3, Value.pointer (some ⟨r9, 0, none⟩)), (6, Value.int IntKind.i64 (((i : Nat) : Int))), (17, Value.bool true), (28, Value.bool false)] ⟨rfl, rfl, rfl, rfl, rfl, trivial⟩ (fun a => Code.wp _ _ _ a _) (fun lr44 => ?_)
      refine go_cnd (x := (Operand.tmp 28)) (s := CA Try.f30 [1, 0, 1, 0, 0, 1, 0, 0, 1, 0]) (t := CA Try.f30 [1, 0, 1, 0, 0, 1, 0, 0, 1, 1]) false (by kernel_rfl) (by kernel_rfl) ?_
      change Code.wp _ (CA Try.f30 [1, 0, 1, 0, 0, 1, 0, 0, 1, 1]) _ _ _
      refine go_skp (by kernel_rfl) ?_
      change Code.wp _ (CA Try.f30 [1, 0, 1, 0, 0, 1, 1]) _ _ _
      refine go_pln (id := 3) (ops := RA Try.f30 [1, 0, 1, 0, 0, 1, 1]) [0, 1, 2] (by kernel_rfl) (by kernel_rfl) ?_
      refine plain_batch (rest := []) [⟨0, [], none⟩, ⟨1, [], some (Value.int IntKind.i64 (((i : Nat) : Int) + 1))⟩, ⟨2, [], none⟩] (l' := [(6, Value.int IntKind.i64 (((i : Nat) : Int) + 1)), (19, Value.int IntKind.i64 (((i : Nat) : Int) + 1)), (18, Value.int IntKind.i64 (((i : Nat) : Int))), (0, Value.pointer (some ⟨b, 0, none⟩)), (3, Value.pointer (some ⟨r9, 0, none⟩)), (6, Value.int IntKind.i64 (((i : Nat) : Int))), (17, Value.bool true), (28, Value.bool false)] ++ lr44) (pts' := []) (eqs := [(Value.int IntKind.i64 (IntKind.wrap IntKind.i64 ((((i : Nat) : Int)) + 1)), Value.int IntKind.i64 (((i : Nat) : Int) + 1))]) (by kernel_rfl) ⟨(ov_i64 (by omega) (by omega) (by omega)), trivial⟩ (AllC_nil _) ?_
      have h45 : sat g w36 [Cl r9 [Value.int IntKind.i64 r.1, Value.int IntKind.u32 r.2] 25, Sl 25 2 p1 n2 c3 (fl eR L), Cl b [Value.bool true, Value.slice p1 n2 c3] 65, R] := sat_sel [1, 2, 0, 3] rfl h37
      change ∃ n', n' < _ ∧ _
      refine ⟨(k - (i + 1)), by omega, (i + 1), _, rfl, (by omega), (mk_live [(0, Value.pointer (some ⟨b, 0, none⟩)), (3, Value.pointer (some ⟨r9, 0, none⟩)), (6, Value.int IntKind.i64 ((((i + 1) : Nat) : Int)))] ⟨rfl, rfl, (ov_int (by omega)), trivial⟩), h45⟩
    ·
      refine draw_law (i := 8) 28 (Value.bool false) [] (by kernel_rfl) (fun _ _ => seq25_eql_f (o := opA (RA Try.f30 [1, 0, 1, 0, 0, 1, 0, 0, 0]) 8) (x := (Operand.tmp 26)) (y := (Operand.tmp 27)) x40.1 x40.2 r.1 r.2 (by kernel_rfl) (by kernel_rfl) (by kernel_rfl) (by omega) _) (by intro q hq; cases hq) ?_
      change Code.wp _ (CA Try.f30 [1, 0, 1, 0, 0, 1, 0, 0, 1]) _ _ _
      refine fr_cut [(0, Value.pointer (some ⟨b, 0, none⟩)), (3, Value.pointer (some ⟨r9, 0, none⟩)), (6, Value.int IntKind.i64 (((i : Nat) : Int))), (17, Value.bool true), (28, Value.bool false)] ⟨rfl, rfl, rfl, rfl, rfl, trivial⟩ (fun a => Code.wp _ _ _ a _) (fun lr46 => ?_)
      refine go_cnd (x := (Operand.tmp 28)) (s := CA Try.f30 [1, 0, 1, 0, 0, 1, 0, 0, 1, 0]) (t := CA Try.f30 [1, 0, 1, 0, 0, 1, 0, 0, 1, 1]) false (by kernel_rfl) (by kernel_rfl) ?_
      change Code.wp _ (CA Try.f30 [1, 0, 1, 0, 0, 1, 0, 0, 1, 1]) _ _ _
      refine go_skp (by kernel_rfl) ?_
      change Code.wp _ (CA Try.f30 [1, 0, 1, 0, 0, 1, 1]) _ _ _
      refine go_pln (id := 3) (ops := RA Try.f30 [1, 0, 1, 0, 0, 1, 1]) [0, 1, 2] (by kernel_rfl) (by kernel_rfl) ?_
      refine plain_batch (rest := []) [⟨0, [], none⟩, ⟨1, [], some (Value.int IntKind.i64 (((i : Nat) : Int) + 1))⟩, ⟨2, [], none⟩] (l' := [(6, Value.int IntKind.i64 (((i : Nat) : Int) + 1)), (19, Value.int IntKind.i64 (((i : Nat) : Int) + 1)), (18, Value.int IntKind.i64 (((i : Nat) : Int))), (0, Value.pointer (some ⟨b, 0, none⟩)), (3, Value.pointer (some ⟨r9, 0, none⟩)), (6, Value.int IntKind.i64 (((i : Nat) : Int))), (17, Value.bool true), (28, Value.bool false)] ++ lr46) (pts' := []) (eqs := [(Value.int IntKind.i64 (IntKind.wrap IntKind.i64 ((((i : Nat) : Int)) + 1)), Value.int IntKind.i64 (((i : Nat) : Int) + 1))]) (by kernel_rfl) ⟨(ov_i64 (by omega) (by omega) (by omega)), trivial⟩ (AllC_nil _) ?_
      have h47 : sat g w36 [Cl r9 [Value.int IntKind.i64 r.1, Value.int IntKind.u32 r.2] 25, Sl 25 2 p1 n2 c3 (fl eR L), Cl b [Value.bool true, Value.slice p1 n2 c3] 65, R] := sat_sel [1, 2, 0, 3] rfl h37
      change ∃ n', n' < _ ∧ _
      refine ⟨(k - (i + 1)), by omega, (i + 1), _, rfl, (by omega), (mk_live [(0, Value.pointer (some ⟨b, 0, none⟩)), (3, Value.pointer (some ⟨r9, 0, none⟩)), (6, Value.int IntKind.i64 ((((i + 1) : Nat) : Int)))] ⟨rfl, rfl, (ov_int (by omega)), trivial⟩), h47⟩

set_option maxHeartbeats 4000000 in
theorem rfind_out (b : Nat) (L : List Rf) (r : Rf) (hr : r ∉ L) : HT Try.prog 30 [Value.pointer (some ⟨b, 0, none⟩), Value.agg #[Value.int IntKind.i64 r.1, Value.int IntKind.u32 r.2]] [RStk b L] (fun v K => v = Value.tuple #[Value.int .i64 0, Value.bool false] ∧ K = [RStk b L]) := by
  refine ht_in 30 [(0, Value.pointer (some ⟨b, 0, none⟩)), (1, Value.agg #[Value.int IntKind.i64 r.1, Value.int IntKind.u32 r.2])] Try.func30 (by kernel_rfl) Try.ntmps30 rfl rfl ?_
  intro g w0 R h0
  obtain ⟨p1, n2, c3, hn4, h5⟩ := rstk_open h0
  have h6 : sat g w0 [Sl 25 2 p1 n2 c3 (fl eR L), Cl b [Value.bool true, Value.slice p1 n2 c3] 65, R] := sat_sel [1, 0, 2] rfl h5
  obtain ⟨hc7, hc8⟩ := sl_le h6
  refine go_seq (x := CA Try.f30 [0]) (y := CA Try.f30 [1]) (by kernel_rfl) ?_
  refine go_pln (id := 0) (ops := RA Try.f30 [0]) [0, 1, 2] (by kernel_rfl) (by kernel_rfl) ?_
  refine plain_act (i := 0) (by kernel_rfl) ?_
  refine an_new (d := 3) (fun xb_ => Value.pointer (some ⟨xb_, 0, none⟩)) (fun xb_ => Obj.cells [Value.int IntKind.i64 r.1, Value.int IntKind.u32 r.2].toArray 25 (0, 0)) (fun xb_ => by kernel_rfl) (by kernel_rfl) rfl h6 ?_
  intro r9 w10 (h11 : sat g w10 [Cl r9 [Value.int IntKind.i64 r.1, Value.int IntKind.u32 r.2] 25, Sl 25 2 p1 n2 c3 (fl eR L), Cl b [Value.bool true, Value.slice p1 n2 c3] 65, R])
  refine plain_batch (rest := []) [⟨1, [], none⟩, ⟨2, [], none⟩] (l' := [(5, Value.bool false), (4, Value.int IntKind.i64 0), (3, Value.pointer (some ⟨r9, 0, none⟩)), (0, Value.pointer (some ⟨b, 0, none⟩)), (1, Value.agg #[Value.int IntKind.i64 r.1, Value.int IntKind.u32 r.2])]) (pts' := []) (eqs := []) (by kernel_rfl) trivial (AllC_nil _) ?_
  change Code.wp _ (CA Try.f30 [1]) _ _ _
  refine fr_cut [(0, Value.pointer (some ⟨b, 0, none⟩)), (1, Value.agg #[Value.int IntKind.i64 r.1, Value.int IntKind.u32 r.2]), (3, Value.pointer (some ⟨r9, 0, none⟩)), (4, Value.int IntKind.i64 0), (5, Value.bool false)] ⟨rfl, rfl, rfl, rfl, rfl, trivial⟩ (fun a => Code.wp _ _ _ a _) (fun lr12 => ?_)
  refine go_seq (x := CA Try.f30 [1, 0]) (y := CA Try.f30 [1, 1]) (by kernel_rfl) ?_
  refine go_seq (x := CA Try.f30 [1, 0, 0]) (y := CA Try.f30 [1, 0, 1]) (by kernel_rfl) ?_
  refine go_pln (id := 1) (ops := RA Try.f30 [1, 0, 0]) [0] (by kernel_rfl) (by kernel_rfl) ?_
  refine plain_batch (rest := []) [⟨0, [], none⟩] (l' := [(6, Value.int IntKind.i64 0), (0, Value.pointer (some ⟨b, 0, none⟩)), (1, Value.agg #[Value.int IntKind.i64 r.1, Value.int IntKind.u32 r.2]), (3, Value.pointer (some ⟨r9, 0, none⟩)), (4, Value.int IntKind.i64 0), (5, Value.bool false)] ++ lr12) (pts' := []) (eqs := []) (by kernel_rfl) trivial (AllC_nil _) ?_
  change Code.wp _ (CA Try.f30 [1, 0, 1]) _ _ _
  refine fr_cut [(0, Value.pointer (some ⟨b, 0, none⟩)), (1, Value.agg #[Value.int IntKind.i64 r.1, Value.int IntKind.u32 r.2]), (3, Value.pointer (some ⟨r9, 0, none⟩)), (4, Value.int IntKind.i64 0), (5, Value.bool false), (6, Value.int IntKind.i64 0)] ⟨rfl, rfl, rfl, rfl, rfl, rfl, trivial⟩ (fun a => Code.wp _ _ _ a _) (fun lr13 => ?_)
  refine go_blk (id := 0) (x := CA Try.f30 [1, 0, 1, 0]) (by kernel_rfl) ?_
  refine lp (x := CA Try.f30 [1, 0, 1, 0, 0]) (by kernel_rfl) (fun mz_ a w => ∃ i : Nat, ∃ lr : Fr, mz_ = n2 - i ∧ (i ≤ n2) ∧ a = mk 30 ([(0, Value.pointer (some ⟨b, 0, none⟩)), (3, Value.pointer (some ⟨r9, 0, none⟩)), (6, Value.int IntKind.i64 (((i : Nat) : Int)))] ++ lr) ∧ sat g w [Cl r9 [Value.int IntKind.i64 r.1, Value.int IntKind.u32 r.2] 25, Sl 25 2 p1 n2 c3 (fl eR L), Cl b [Value.bool true, Value.slice p1 n2 c3] 65, R]) (n2) ⟨0, _, rfl, (Nat.zero_le _), (mk_live [(0, Value.pointer (some ⟨b, 0, none⟩)), (3, Value.pointer (some ⟨r9, 0, none⟩)), (6, Value.int IntKind.i64 (((0 : Nat) : Int)))] ⟨rfl, rfl, (ov_int (by omega)), trivial⟩), h11⟩ ?_
  rintro m15 a16 w17 ⟨i, lr14, rfl, hi, rfl, h18⟩
  change Code.wp _ (CA Try.f30 [1, 0, 1, 0, 0]) _ _ _
  refine go_seq (x := CA Try.f30 [1, 0, 1, 0, 0, 0]) (y := CA Try.f30 [1, 0, 1, 0, 0, 1]) (by kernel_rfl) ?_
  refine go_seq (x := CA Try.f30 [1, 0, 1, 0, 0, 0, 0]) (y := CA Try.f30 [1, 0, 1, 0, 0, 0, 1]) (by kernel_rfl) ?_
  refine go_pln (id := 2) (ops := RA Try.f30 [1, 0, 1, 0, 0, 0, 0]) [0, 1, 2, 3, 4, 5, 6, 7, 8, 9, 10] (by kernel_rfl) (by kernel_rfl) ?_
  refine plain_batch (rest := [1, 2, 3, 4, 5, 6, 7, 8, 9, 10]) [⟨0, [], none⟩] (l' := [(7, Value.pointer (some ⟨b, 0, none⟩)), (0, Value.pointer (some ⟨b, 0, none⟩)), (3, Value.pointer (some ⟨r9, 0, none⟩)), (6, Value.int IntKind.i64 (((i : Nat) : Int)))] ++ lr14) (pts' := []) (eqs := []) (by kernel_rfl) trivial (AllC_nil _) ?_
  have h19 : sat g w17 [Cl b [Value.bool true, Value.slice p1 n2 c3] 65, Cl r9 [Value.int IntKind.i64 r.1, Value.int IntKind.u32 r.2] 25, Sl 25 2 p1 n2 c3 (fl eR L), R] := sat_sel [2, 0, 1, 3] rfl h18
  refine plain_act (i := 1) (by kernel_rfl) ?_
  refine an_call (d := some 8) (f := 41) (args := [Value.pointer (some ⟨b, 0, none⟩)]) (by kernel_rfl) Try.call41 (rvalid_ht b p1 n2 c3) (F := [Cl r9 [Value.int IntKind.i64 r.1, Value.int IntKind.u32 r.2] 25, Sl 25 2 p1 n2 c3 (fl eR L), R]) h19 ?_
  rintro v K w20 (⟨rfl, rfl⟩) h21
  refine ⟨_, rfl, ?_⟩
  have h22 : sat g w20 [Cl b [Value.bool true, Value.slice p1 n2 c3] 65, Cl r9 [Value.int IntKind.i64 r.1, Value.int IntKind.u32 r.2] 25, Sl 25 2 p1 n2 c3 (fl eR L), R] := h21
  refine plain_batch (rest := [9, 10]) [⟨2, [], none⟩, ⟨3, [], none⟩, ⟨4, [], none⟩, ⟨5, [], none⟩, ⟨6, [], none⟩, ⟨7, [Value.slice p1 n2 c3], none⟩, ⟨8, [], none⟩] (l' := [(15, Value.int IntKind.i64 (((n2 : Nat) : Int))), (14, Value.slice p1 n2 c3), (13, Value.pointer (some ⟨b, 1, none⟩)), (12, Value.pointer (some ⟨b, 0, none⟩)), (11, Value.pointer (some ⟨b, 0, none⟩)), (10, Value.int IntKind.i64 (((i : Nat) : Int))), (9, Value.bool true), (8, Value.bool true), (7, Value.pointer (some ⟨b, 0, none⟩)), (0, Value.pointer (some ⟨b, 0, none⟩)), (3, Value.pointer (some ⟨r9, 0, none⟩)), (6, Value.int IntKind.i64 (((i : Nat) : Int)))] ++ lr14) (pts' := [(7, ⟨b, 1, none⟩, Value.slice p1 n2 c3)]) (eqs := []) (by kernel_rfl) trivial (AllC_cons (sat_cell h22 0 rfl rfl) (AllC_nil _)) ?_
  by_cases c23 : ((i : Nat) : Int) < ((n2 : Nat) : Int)
  ·
    refine plain_batch (rest := []) [⟨9, [], some (Value.bool true)⟩, ⟨10, [], none⟩] (l' := [(17, Value.bool true), (16, Value.bool true), (15, Value.int IntKind.i64 (((n2 : Nat) : Int))), (14, Value.slice p1 n2 c3), (13, Value.pointer (some ⟨b, 1, none⟩)), (12, Value.pointer (some ⟨b, 0, none⟩)), (11, Value.pointer (some ⟨b, 0, none⟩)), (10, Value.int IntKind.i64 (((i : Nat) : Int))), (9, Value.bool true), (8, Value.bool true), (7, Value.pointer (some ⟨b, 0, none⟩)), (0, Value.pointer (some ⟨b, 0, none⟩)), (3, Value.pointer (some ⟨r9, 0, none⟩)), (6, Value.int IntKind.i64 (((i : Nat) : Int)))] ++ lr14) (pts' := []) (eqs := [(Value.bool (decide (((i : Nat) : Int) < ((n2 : Nat) : Int))), Value.bool true)]) (by kernel_rfl) ⟨(ov_t (by omega)), trivial⟩ (AllC_nil _) ?_
    change Code.wp _ (CA Try.f30 [1, 0, 1, 0, 0, 0, 1]) _ _ _
    refine fr_cut [(0, Value.pointer (some ⟨b, 0, none⟩)), (3, Value.pointer (some ⟨r9, 0, none⟩)), (6, Value.int IntKind.i64 (((i : Nat) : Int))), (17, Value.bool true)] ⟨rfl, rfl, rfl, rfl, trivial⟩ (fun a => Code.wp _ _ _ a _) (fun lr24 => ?_)
    refine go_cnd (x := (Operand.tmp 17)) (s := CA Try.f30 [1, 0, 1, 0, 0, 0, 1, 0]) (t := CA Try.f30 [1, 0, 1, 0, 0, 0, 1, 1]) true (by kernel_rfl) (by kernel_rfl) ?_
    change Code.wp _ (CA Try.f30 [1, 0, 1, 0, 0, 0, 1, 0]) _ _ _
    refine go_skp (by kernel_rfl) ?_
    change Code.wp _ (CA Try.f30 [1, 0, 1, 0, 0, 1]) _ _ _
    refine go_seq (x := CA Try.f30 [1, 0, 1, 0, 0, 1, 0]) (y := CA Try.f30 [1, 0, 1, 0, 0, 1, 1]) (by kernel_rfl) ?_
    refine go_blk (id := 1) (x := CA Try.f30 [1, 0, 1, 0, 0, 1, 0, 0]) (by kernel_rfl) ?_
    refine go_seq (x := CA Try.f30 [1, 0, 1, 0, 0, 1, 0, 0, 0]) (y := CA Try.f30 [1, 0, 1, 0, 0, 1, 0, 0, 1]) (by kernel_rfl) ?_
    refine go_drw (id := 4) (ops := RA Try.f30 [1, 0, 1, 0, 0, 1, 0, 0, 0]) (Tr.fl 0 (Tr.fl 1 (Tr.fl 2 (Tr.fl 3 (Tr.fl 4 (Tr.fl 5 (Tr.fl 6 (Tr.fl 7 (Tr.fl 8 Tr.nil))))))))) (by kernel_rfl) (by kernel_rfl) (by kernel_rfl) (by kernel_rfl) (fun _ _ d _ _ h => by cases d <;> exact h) h22 ?_
    intro w25 h26
    obtain ⟨b27, hp28⟩ := sl_ptr0 (j := 2) h26 rfl (by omega)
    refine draw_batch (t := (Tr.fl 5 (Tr.fl 6 (Tr.fl 7 (Tr.fl 8 Tr.nil))))) [⟨0, [], none⟩, ⟨1, [], none⟩, ⟨2, [], none⟩, ⟨3, [Value.slice p1 n2 c3], none⟩, ⟨4, [], none⟩] (l' := [(24, Value.int IntKind.i64 (((i : Nat) : Int))), (23, Value.slice p1 n2 c3), (22, Value.pointer (some ⟨b, 1, none⟩)), (21, Value.pointer (some ⟨b, 0, none⟩)), (20, Value.pointer (some ⟨b, 0, none⟩)), (0, Value.pointer (some ⟨b, 0, none⟩)), (3, Value.pointer (some ⟨r9, 0, none⟩)), (6, Value.int IntKind.i64 (((i : Nat) : Int))), (17, Value.bool true)] ++ lr24) (pts' := [(3, ⟨b, 1, none⟩, Value.slice p1 n2 c3)]) (eqs := []) (by kernel_rfl) trivial (AllC_cons (sat_cell h26 0 rfl rfl) (AllC_nil _)) ?_
    refine draw_law (i := 5) 25 (Value.pointer (some ⟨b27, i * 2, none⟩)) [] (by kernel_rfl) (fun _ _ => law_indexSlP (o := opA (RA Try.f30 [1, 0, 1, 0, 0, 1, 0, 0, 0]) 5) (x := (Operand.tmp 23)) (i := (Operand.tmp 24)) (p := p1) (b := b27) (off := 0) (z := (((i : Nat) : Int))) (len := n2) (cap := c3) (by kernel_rfl) Try.underlying28 2 (by kernel_rfl) i (by kernel_rfl) hp28 (by kernel_rfl) (by omega) (by omega) (i * 2) (by omega) _) (by intro q hq; cases hq) ?_
    obtain ⟨x29, hx30⟩ : ∃ x, L[i]? = some x := ⟨_, List.getElem?_eq_getElem (by rw [hn4]; omega)⟩
    have hne31 : ¬ (x29.1 = r.1 ∧ x29.2 = r.2) := fun e => hr (by rw [← (Prod.ext e.1 e.2 : x29 = r)]; exact List.mem_of_getElem? hx30)
    refine draw_batch (t := (Tr.fl 8 Tr.nil)) [⟨6, [Value.int IntKind.i64 x29.1, Value.int IntKind.u32 x29.2], none⟩, ⟨7, [Value.int IntKind.i64 r.1, Value.int IntKind.u32 r.2], none⟩] (l' := [(27, Value.agg #[Value.int IntKind.i64 r.1, Value.int IntKind.u32 r.2]), (26, Value.agg #[Value.int IntKind.i64 x29.1, Value.int IntKind.u32 x29.2]), (25, Value.pointer (some ⟨b27, i * 2, none⟩)), (24, Value.int IntKind.i64 (((i : Nat) : Int))), (23, Value.slice p1 n2 c3), (22, Value.pointer (some ⟨b, 1, none⟩)), (21, Value.pointer (some ⟨b, 0, none⟩)), (20, Value.pointer (some ⟨b, 0, none⟩)), (0, Value.pointer (some ⟨b, 0, none⟩)), (3, Value.pointer (some ⟨r9, 0, none⟩)), (6, Value.int IntKind.i64 (((i : Nat) : Int))), (17, Value.bool true)] ++ lr24) (pts' := [(7, ⟨r9, 0, none⟩, Value.int IntKind.i64 r.1), (7, ⟨r9, 1, none⟩, Value.int IntKind.u32 r.2), (6, ⟨b27, i * 2, none⟩, Value.int IntKind.i64 x29.1), (6, ⟨b27, i * 2 + 1, none⟩, Value.int IntKind.u32 x29.2)]) (eqs := []) (by kernel_rfl) trivial (AllC_cons (sat_cell h26 1 rfl rfl) (AllC_cons (sat_cell h26 1 rfl rfl) (AllC_cons (gv_cell (j := 2) h26 rfl (gv_sl _ _ _) hp28 (fl_get eR_ok (j := 0) (v := Value.int IntKind.i64 x29.1) hx30 rfl) (i * 2) (by omega)) (AllC_cons (gv_cell (j := 2) h26 rfl (gv_sl _ _ _) hp28 (fl_get eR_ok (j := 1) (v := Value.int IntKind.u32 x29.2) hx30 rfl) (i * 2 + 1) (by omega)) (AllC_nil _))))) ?_
    by_cases c32 : x29.1 = r.1
    ·
      refine draw_law (i := 8) 28 (Value.bool false) [] (by kernel_rfl) (fun _ _ => seq25_eql_f (o := opA (RA Try.f30 [1, 0, 1, 0, 0, 1, 0, 0, 0]) 8) (x := (Operand.tmp 26)) (y := (Operand.tmp 27)) x29.1 x29.2 r.1 r.2 (by kernel_rfl) (by kernel_rfl) (by kernel_rfl) (by omega) _) (by intro q hq; cases hq) ?_
      change Code.wp _ (CA Try.f30 [1, 0, 1, 0, 0, 1, 0, 0, 1]) _ _ _
      refine fr_cut [(0, Value.pointer (some ⟨b, 0, none⟩)), (3, Value.pointer (some ⟨r9, 0, none⟩)), (6, Value.int IntKind.i64 (((i : Nat) : Int))), (17, Value.bool true), (28, Value.bool false)] ⟨rfl, rfl, rfl, rfl, rfl, trivial⟩ (fun a => Code.wp _ _ _ a _) (fun lr33 => ?_)
      refine go_cnd (x := (Operand.tmp 28)) (s := CA Try.f30 [1, 0, 1, 0, 0, 1, 0, 0, 1, 0]) (t := CA Try.f30 [1, 0, 1, 0, 0, 1, 0, 0, 1, 1]) false (by kernel_rfl) (by kernel_rfl) ?_
      change Code.wp _ (CA Try.f30 [1, 0, 1, 0, 0, 1, 0, 0, 1, 1]) _ _ _
      refine go_skp (by kernel_rfl) ?_
      change Code.wp _ (CA Try.f30 [1, 0, 1, 0, 0, 1, 1]) _ _ _
      refine go_pln (id := 3) (ops := RA Try.f30 [1, 0, 1, 0, 0, 1, 1]) [0, 1, 2] (by kernel_rfl) (by kernel_rfl) ?_
      refine plain_batch (rest := []) [⟨0, [], none⟩, ⟨1, [], some (Value.int IntKind.i64 (((i : Nat) : Int) + 1))⟩, ⟨2, [], none⟩] (l' := [(6, Value.int IntKind.i64 (((i : Nat) : Int) + 1)), (19, Value.int IntKind.i64 (((i : Nat) : Int) + 1)), (18, Value.int IntKind.i64 (((i : Nat) : Int))), (0, Value.pointer (some ⟨b, 0, none⟩)), (3, Value.pointer (some ⟨r9, 0, none⟩)), (6, Value.int IntKind.i64 (((i : Nat) : Int))), (17, Value.bool true), (28, Value.bool false)] ++ lr33) (pts' := []) (eqs := [(Value.int IntKind.i64 (IntKind.wrap IntKind.i64 ((((i : Nat) : Int)) + 1)), Value.int IntKind.i64 (((i : Nat) : Int) + 1))]) (by kernel_rfl) ⟨(ov_i64 (by omega) (by omega) (by omega)), trivial⟩ (AllC_nil _) ?_
      have h34 : sat g w25 [Cl r9 [Value.int IntKind.i64 r.1, Value.int IntKind.u32 r.2] 25, Sl 25 2 p1 n2 c3 (fl eR L), Cl b [Value.bool true, Value.slice p1 n2 c3] 65, R] := sat_sel [1, 2, 0, 3] rfl h26
      change ∃ n', n' < _ ∧ _
      refine ⟨(n2 - (i + 1)), by omega, (i + 1), _, rfl, (by omega), (mk_live [(0, Value.pointer (some ⟨b, 0, none⟩)), (3, Value.pointer (some ⟨r9, 0, none⟩)), (6, Value.int IntKind.i64 ((((i + 1) : Nat) : Int)))] ⟨rfl, rfl, (ov_int (by omega)), trivial⟩), h34⟩
    ·
      refine draw_law (i := 8) 28 (Value.bool false) [] (by kernel_rfl) (fun _ _ => seq25_eql_f (o := opA (RA Try.f30 [1, 0, 1, 0, 0, 1, 0, 0, 0]) 8) (x := (Operand.tmp 26)) (y := (Operand.tmp 27)) x29.1 x29.2 r.1 r.2 (by kernel_rfl) (by kernel_rfl) (by kernel_rfl) (by omega) _) (by intro q hq; cases hq) ?_
      change Code.wp _ (CA Try.f30 [1, 0, 1, 0, 0, 1, 0, 0, 1]) _ _ _
      refine fr_cut [(0, Value.pointer (some ⟨b, 0, none⟩)), (3, Value.pointer (some ⟨r9, 0, none⟩)), (6, Value.int IntKind.i64 (((i : Nat) : Int))), (17, Value.bool true), (28, Value.bool false)] ⟨rfl, rfl, rfl, rfl, rfl, trivial⟩ (fun a => Code.wp _ _ _ a _) (fun lr35 => ?_)
      refine go_cnd (x := (Operand.tmp 28)) (s := CA Try.f30 [1, 0, 1, 0, 0, 1, 0, 0, 1, 0]) (t := CA Try.f30 [1, 0, 1, 0, 0, 1, 0, 0, 1, 1]) false (by kernel_rfl) (by kernel_rfl) ?_
      change Code.wp _ (CA Try.f30 [1, 0, 1, 0, 0, 1, 0, 0, 1, 1]) _ _ _
      refine go_skp (by kernel_rfl) ?_
      change Code.wp _ (CA Try.f30 [1, 0, 1, 0, 0, 1, 1]) _ _ _
      refine go_pln (id := 3) (ops := RA Try.f30 [1, 0, 1, 0, 0, 1, 1]) [0, 1, 2] (by kernel_rfl) (by kernel_rfl) ?_
      refine plain_batch (rest := []) [⟨0, [], none⟩, ⟨1, [], some (Value.int IntKind.i64 (((i : Nat) : Int) + 1))⟩, ⟨2, [], none⟩] (l' := [(6, Value.int IntKind.i64 (((i : Nat) : Int) + 1)), (19, Value.int IntKind.i64 (((i : Nat) : Int) + 1)), (18, Value.int IntKind.i64 (((i : Nat) : Int))), (0, Value.pointer (some ⟨b, 0, none⟩)), (3, Value.pointer (some ⟨r9, 0, none⟩)), (6, Value.int IntKind.i64 (((i : Nat) : Int))), (17, Value.bool true), (28, Value.bool false)] ++ lr35) (pts' := []) (eqs := [(Value.int IntKind.i64 (IntKind.wrap IntKind.i64 ((((i : Nat) : Int)) + 1)), Value.int IntKind.i64 (((i : Nat) : Int) + 1))]) (by kernel_rfl) ⟨(ov_i64 (by omega) (by omega) (by omega)), trivial⟩ (AllC_nil _) ?_
      have h36 : sat g w25 [Cl r9 [Value.int IntKind.i64 r.1, Value.int IntKind.u32 r.2] 25, Sl 25 2 p1 n2 c3 (fl eR L), Cl b [Value.bool true, Value.slice p1 n2 c3] 65, R] := sat_sel [1, 2, 0, 3] rfl h26
      change ∃ n', n' < _ ∧ _
      refine ⟨(n2 - (i + 1)), by omega, (i + 1), _, rfl, (by omega), (mk_live [(0, Value.pointer (some ⟨b, 0, none⟩)), (3, Value.pointer (some ⟨r9, 0, none⟩)), (6, Value.int IntKind.i64 ((((i + 1) : Nat) : Int)))] ⟨rfl, rfl, (ov_int (by omega)), trivial⟩), h36⟩
  ·
    refine plain_batch (rest := []) [⟨9, [], some (Value.bool false)⟩, ⟨10, [], none⟩] (l' := [(17, Value.bool false), (16, Value.bool false), (15, Value.int IntKind.i64 (((n2 : Nat) : Int))), (14, Value.slice p1 n2 c3), (13, Value.pointer (some ⟨b, 1, none⟩)), (12, Value.pointer (some ⟨b, 0, none⟩)), (11, Value.pointer (some ⟨b, 0, none⟩)), (10, Value.int IntKind.i64 (((i : Nat) : Int))), (9, Value.bool true), (8, Value.bool true), (7, Value.pointer (some ⟨b, 0, none⟩)), (0, Value.pointer (some ⟨b, 0, none⟩)), (3, Value.pointer (some ⟨r9, 0, none⟩)), (6, Value.int IntKind.i64 (((i : Nat) : Int)))] ++ lr14) (pts' := []) (eqs := [(Value.bool (decide (((i : Nat) : Int) < ((n2 : Nat) : Int))), Value.bool false)]) (by kernel_rfl) ⟨(ov_f (by omega)), trivial⟩ (AllC_nil _) ?_
    change Code.wp _ (CA Try.f30 [1, 0, 1, 0, 0, 0, 1]) _ _ _
    refine fr_cut [(0, Value.pointer (some ⟨b, 0, none⟩)), (3, Value.pointer (some ⟨r9, 0, none⟩)), (6, Value.int IntKind.i64 (((i : Nat) : Int))), (17, Value.bool false)] ⟨rfl, rfl, rfl, rfl, trivial⟩ (fun a => Code.wp _ _ _ a _) (fun lr37 => ?_)
    refine go_cnd (x := (Operand.tmp 17)) (s := CA Try.f30 [1, 0, 1, 0, 0, 0, 1, 0]) (t := CA Try.f30 [1, 0, 1, 0, 0, 0, 1, 1]) false (by kernel_rfl) (by kernel_rfl) ?_
    change Code.wp _ (CA Try.f30 [1, 0, 1, 0, 0, 0, 1, 1]) _ _ _
    refine go_ext (id := 0) (by kernel_rfl) ?_
    change Code.wp _ (CA Try.f30 [1, 1]) _ _ _
    refine go_seq (x := CA Try.f30 [1, 1, 0]) (y := CA Try.f30 [1, 1, 1]) (by kernel_rfl) ?_
    refine go_pln (id := 6) (ops := RA Try.f30 [1, 1, 0]) [0, 1] (by kernel_rfl) (by kernel_rfl) ?_
    refine plain_batch (rest := []) [⟨0, [], none⟩, ⟨1, [], none⟩] (l' := [(5, Value.bool false), (4, Value.int IntKind.i64 0), (0, Value.pointer (some ⟨b, 0, none⟩)), (3, Value.pointer (some ⟨r9, 0, none⟩)), (6, Value.int IntKind.i64 (((i : Nat) : Int))), (17, Value.bool false)] ++ lr37) (pts' := []) (eqs := []) (by kernel_rfl) trivial (AllC_nil _) ?_
    change Code.wp _ (CA Try.f30 [1, 1, 1]) _ _ _
    refine fr_cut [(0, Value.pointer (some ⟨b, 0, none⟩)), (3, Value.pointer (some ⟨r9, 0, none⟩)), (4, Value.int IntKind.i64 0), (5, Value.bool false), (6, Value.int IntKind.i64 (((i : Nat) : Int))), (17, Value.bool false)] ⟨rfl, rfl, rfl, rfl, rfl, rfl, trivial⟩ (fun a => Code.wp _ _ _ a _) (fun lr38 => ?_)
    refine go_rt (by kernel_rfl) ?_
    have h39 : sat g w20 [Cl b [Value.bool true, Value.slice p1 n2 c3] 65, Sl 25 2 p1 n2 c3 (fl eR L), Cl r9 [Value.int IntKind.i64 r.1, Value.int IntKind.u32 r.2] 25, R] := sat_sel [0, 2, 1, 3] rfl h22
    have hl41 := fl_n eR_ok (by decide) (sat_sel [1] rfl h39)
    have h40 : sat g w20 [RStk b L, Cl r9 [Value.int IntKind.i64 r.1, Value.int IntKind.u32 r.2] 25, R] := rstk_close h39 hl41
    try simp only [Exit.inBlock, Exit.then]
    have h42 : sat g w20 [RStk b L, R] := sat_sel [0, 2] rfl h40
    refine ht_out [] (Value.tuple #[Value.int IntKind.i64 0, Value.bool false]) [] (by kernel_rfl) (by intro q hq; cases hq) ?_
    exact ⟨Value.tuple #[Value.int IntKind.i64 0, Value.bool false], [RStk b L], rfl, ⟨rfl, rfl⟩, h42⟩

set_option maxHeartbeats 4000000 in
theorem rhas_in (b : Nat) (L : List Rf) (r : Rf) (hr : r ∈ L) : HT Try.prog 31 [Value.pointer (some ⟨b, 0, none⟩), Value.agg #[Value.int IntKind.i64 r.1, Value.int IntKind.u32 r.2]] [RStk b L] (fun v K => v = Value.bool true ∧ K = [RStk b L]) := by
  refine ht_in 14 [(0, Value.pointer (some ⟨b, 0, none⟩)), (1, Value.agg #[Value.int IntKind.i64 r.1, Value.int IntKind.u32 r.2])] Try.func31 (by kernel_rfl) Try.ntmps31 rfl rfl ?_
  intro g w0 R h0
  refine go_seq (x := CA Try.f31 [0]) (y := CA Try.f31 [1]) (by kernel_rfl) ?_
  refine go_pln (id := 0) (ops := RA Try.f31 [0]) [0, 1] (by kernel_rfl) (by kernel_rfl) ?_
  refine plain_act (i := 0) (by kernel_rfl) ?_
  refine an_new (d := 3) (fun xb_ => Value.pointer (some ⟨xb_, 0, none⟩)) (fun xb_ => Obj.cells [Value.int IntKind.i64 r.1, Value.int IntKind.u32 r.2].toArray 25 (0, 0)) (fun xb_ => by kernel_rfl) (by kernel_rfl) rfl h0 ?_
  intro r1 w2 (h3 : sat g w2 [Cl r1 [Value.int IntKind.i64 r.1, Value.int IntKind.u32 r.2] 25, RStk b L, R])
  refine plain_batch (rest := []) [⟨1, [], none⟩] (l' := [(4, Value.bool false), (3, Value.pointer (some ⟨r1, 0, none⟩)), (0, Value.pointer (some ⟨b, 0, none⟩)), (1, Value.agg #[Value.int IntKind.i64 r.1, Value.int IntKind.u32 r.2])]) (pts' := []) (eqs := []) (by kernel_rfl) trivial (AllC_nil _) ?_
  change Code.wp _ (CA Try.f31 [1]) _ _ _
  refine fr_cut [(0, Value.pointer (some ⟨b, 0, none⟩)), (1, Value.agg #[Value.int IntKind.i64 r.1, Value.int IntKind.u32 r.2]), (3, Value.pointer (some ⟨r1, 0, none⟩)), (4, Value.bool false)] ⟨rfl, rfl, rfl, rfl, trivial⟩ (fun a => Code.wp _ _ _ a _) (fun lr4 => ?_)
  refine go_seq (x := CA Try.f31 [1, 0]) (y := CA Try.f31 [1, 1]) (by kernel_rfl) ?_
  refine go_pln (id := 1) (ops := RA Try.f31 [1, 0]) [0, 1, 2, 3, 4, 5, 6, 7] (by kernel_rfl) (by kernel_rfl) ?_
  refine plain_batch (rest := [2, 3, 4, 5, 6, 7]) [⟨0, [], none⟩, ⟨1, [Value.int IntKind.i64 r.1, Value.int IntKind.u32 r.2], none⟩] (l' := [(9, Value.agg #[Value.int IntKind.i64 r.1, Value.int IntKind.u32 r.2]), (8, Value.pointer (some ⟨b, 0, none⟩)), (0, Value.pointer (some ⟨b, 0, none⟩)), (1, Value.agg #[Value.int IntKind.i64 r.1, Value.int IntKind.u32 r.2]), (3, Value.pointer (some ⟨r1, 0, none⟩)), (4, Value.bool false)] ++ lr4) (pts' := [(1, ⟨r1, 0, none⟩, Value.int IntKind.i64 r.1), (1, ⟨r1, 1, none⟩, Value.int IntKind.u32 r.2)]) (eqs := []) (by kernel_rfl) trivial (AllC_cons (sat_cell h3 0 rfl rfl) (AllC_cons (sat_cell h3 0 rfl rfl) (AllC_nil _))) ?_
  have h5 : sat g w2 [RStk b L, Cl r1 [Value.int IntKind.i64 r.1, Value.int IntKind.u32 r.2] 25, R] := sat_sel [1, 0, 2] rfl h3
  refine plain_act (i := 2) (by kernel_rfl) ?_
  refine an_call (d := some 10) (f := 30) (args := [Value.pointer (some ⟨b, 0, none⟩), Value.agg #[Value.int IntKind.i64 r.1, Value.int IntKind.u32 r.2]]) (by kernel_rfl) Try.call30 (rfind_in b L r (fk L r) (fk_is hr).1 (fk_is hr).2) (F := [Cl r1 [Value.int IntKind.i64 r.1, Value.int IntKind.u32 r.2] 25, R]) h5 ?_
  rintro v K w6 (⟨rfl, rfl⟩) h7
  refine ⟨_, rfl, ?_⟩
  have h8 : sat g w6 [RStk b L, Cl r1 [Value.int IntKind.i64 r.1, Value.int IntKind.u32 r.2] 25, R] := h7
  refine plain_batch (rest := []) [⟨3, [], none⟩, ⟨4, [], none⟩, ⟨5, [], none⟩, ⟨6, [], none⟩, ⟨7, [], none⟩] (l' := [(6, Value.bool true), (5, Value.int IntKind.i64 ((((fk L r) : Nat) : Int))), (12, Value.bool true), (11, Value.int IntKind.i64 ((((fk L r) : Nat) : Int))), (7, Value.tuple #[Value.int IntKind.i64 ((((fk L r) : Nat) : Int)), Value.bool true]), (10, Value.tuple #[Value.int IntKind.i64 ((((fk L r) : Nat) : Int)), Value.bool true]), (9, Value.agg #[Value.int IntKind.i64 r.1, Value.int IntKind.u32 r.2]), (8, Value.pointer (some ⟨b, 0, none⟩)), (0, Value.pointer (some ⟨b, 0, none⟩)), (1, Value.agg #[Value.int IntKind.i64 r.1, Value.int IntKind.u32 r.2]), (3, Value.pointer (some ⟨r1, 0, none⟩)), (4, Value.bool false)] ++ lr4) (pts' := []) (eqs := []) (by kernel_rfl) trivial (AllC_nil _) ?_
  change Code.wp _ (CA Try.f31 [1, 1]) _ _ _
  refine fr_cut [(0, Value.pointer (some ⟨b, 0, none⟩)), (1, Value.agg #[Value.int IntKind.i64 r.1, Value.int IntKind.u32 r.2]), (3, Value.pointer (some ⟨r1, 0, none⟩)), (4, Value.bool false), (6, Value.bool true)] ⟨rfl, rfl, rfl, rfl, rfl, trivial⟩ (fun a => Code.wp _ _ _ a _) (fun lr9 => ?_)
  refine go_seq (x := CA Try.f31 [1, 1, 0]) (y := CA Try.f31 [1, 1, 1]) (by kernel_rfl) ?_
  refine go_pln (id := 2) (ops := RA Try.f31 [1, 1, 0]) [0, 1] (by kernel_rfl) (by kernel_rfl) ?_
  refine plain_batch (rest := []) [⟨0, [], none⟩, ⟨1, [], none⟩] (l' := [(4, Value.bool true), (13, Value.bool true), (0, Value.pointer (some ⟨b, 0, none⟩)), (1, Value.agg #[Value.int IntKind.i64 r.1, Value.int IntKind.u32 r.2]), (3, Value.pointer (some ⟨r1, 0, none⟩)), (4, Value.bool false), (6, Value.bool true)] ++ lr9) (pts' := []) (eqs := []) (by kernel_rfl) trivial (AllC_nil _) ?_
  change Code.wp _ (CA Try.f31 [1, 1, 1]) _ _ _
  refine fr_cut [(0, Value.pointer (some ⟨b, 0, none⟩)), (1, Value.agg #[Value.int IntKind.i64 r.1, Value.int IntKind.u32 r.2]), (3, Value.pointer (some ⟨r1, 0, none⟩)), (4, Value.bool true), (6, Value.bool true)] ⟨rfl, rfl, rfl, rfl, rfl, trivial⟩ (fun a => Code.wp _ _ _ a _) (fun lr10 => ?_)
  refine go_rt (by kernel_rfl) ?_
  try simp only [Exit.inBlock, Exit.then]
  have h11 : sat g w6 [RStk b L, R] := sat_sel [0, 2] rfl h8
  refine ht_out [] (Value.bool true) [] (by kernel_rfl) (by intro q hq; cases hq) ?_
  exact ⟨Value.bool true, [RStk b L], rfl, ⟨rfl, rfl⟩, h11⟩

set_option maxHeartbeats 4000000 in
theorem rhas_out (b : Nat) (L : List Rf) (r : Rf) (hr : r ∉ L) : HT Try.prog 31 [Value.pointer (some ⟨b, 0, none⟩), Value.agg #[Value.int IntKind.i64 r.1, Value.int IntKind.u32 r.2]] [RStk b L] (fun v K => v = Value.bool false ∧ K = [RStk b L]) := by
  refine ht_in 14 [(0, Value.pointer (some ⟨b, 0, none⟩)), (1, Value.agg #[Value.int IntKind.i64 r.1, Value.int IntKind.u32 r.2])] Try.func31 (by kernel_rfl) Try.ntmps31 rfl rfl ?_
  intro g w0 R h0
  refine go_seq (x := CA Try.f31 [0]) (y := CA Try.f31 [1]) (by kernel_rfl) ?_
  refine go_pln (id := 0) (ops := RA Try.f31 [0]) [0, 1] (by kernel_rfl) (by kernel_rfl) ?_
  refine plain_act (i := 0) (by kernel_rfl) ?_
  refine an_new (d := 3) (fun xb_ => Value.pointer (some ⟨xb_, 0, none⟩)) (fun xb_ => Obj.cells [Value.int IntKind.i64 r.1, Value.int IntKind.u32 r.2].toArray 25 (0, 0)) (fun xb_ => by kernel_rfl) (by kernel_rfl) rfl h0 ?_
  intro r1 w2 (h3 : sat g w2 [Cl r1 [Value.int IntKind.i64 r.1, Value.int IntKind.u32 r.2] 25, RStk b L, R])
  refine plain_batch (rest := []) [⟨1, [], none⟩] (l' := [(4, Value.bool false), (3, Value.pointer (some ⟨r1, 0, none⟩)), (0, Value.pointer (some ⟨b, 0, none⟩)), (1, Value.agg #[Value.int IntKind.i64 r.1, Value.int IntKind.u32 r.2])]) (pts' := []) (eqs := []) (by kernel_rfl) trivial (AllC_nil _) ?_
  change Code.wp _ (CA Try.f31 [1]) _ _ _
  refine fr_cut [(0, Value.pointer (some ⟨b, 0, none⟩)), (1, Value.agg #[Value.int IntKind.i64 r.1, Value.int IntKind.u32 r.2]), (3, Value.pointer (some ⟨r1, 0, none⟩)), (4, Value.bool false)] ⟨rfl, rfl, rfl, rfl, trivial⟩ (fun a => Code.wp _ _ _ a _) (fun lr4 => ?_)
  refine go_seq (x := CA Try.f31 [1, 0]) (y := CA Try.f31 [1, 1]) (by kernel_rfl) ?_
  refine go_pln (id := 1) (ops := RA Try.f31 [1, 0]) [0, 1, 2, 3, 4, 5, 6, 7] (by kernel_rfl) (by kernel_rfl) ?_
  refine plain_batch (rest := [2, 3, 4, 5, 6, 7]) [⟨0, [], none⟩, ⟨1, [Value.int IntKind.i64 r.1, Value.int IntKind.u32 r.2], none⟩] (l' := [(9, Value.agg #[Value.int IntKind.i64 r.1, Value.int IntKind.u32 r.2]), (8, Value.pointer (some ⟨b, 0, none⟩)), (0, Value.pointer (some ⟨b, 0, none⟩)), (1, Value.agg #[Value.int IntKind.i64 r.1, Value.int IntKind.u32 r.2]), (3, Value.pointer (some ⟨r1, 0, none⟩)), (4, Value.bool false)] ++ lr4) (pts' := [(1, ⟨r1, 0, none⟩, Value.int IntKind.i64 r.1), (1, ⟨r1, 1, none⟩, Value.int IntKind.u32 r.2)]) (eqs := []) (by kernel_rfl) trivial (AllC_cons (sat_cell h3 0 rfl rfl) (AllC_cons (sat_cell h3 0 rfl rfl) (AllC_nil _))) ?_
  have h5 : sat g w2 [RStk b L, Cl r1 [Value.int IntKind.i64 r.1, Value.int IntKind.u32 r.2] 25, R] := sat_sel [1, 0, 2] rfl h3
  refine plain_act (i := 2) (by kernel_rfl) ?_
  refine an_call (d := some 10) (f := 30) (args := [Value.pointer (some ⟨b, 0, none⟩), Value.agg #[Value.int IntKind.i64 r.1, Value.int IntKind.u32 r.2]]) (by kernel_rfl) Try.call30 (rfind_out b L r hr) (F := [Cl r1 [Value.int IntKind.i64 r.1, Value.int IntKind.u32 r.2] 25, R]) h5 ?_
  rintro v K w6 (⟨rfl, rfl⟩) h7
  refine ⟨_, rfl, ?_⟩
  have h8 : sat g w6 [RStk b L, Cl r1 [Value.int IntKind.i64 r.1, Value.int IntKind.u32 r.2] 25, R] := h7
  refine plain_batch (rest := []) [⟨3, [], none⟩, ⟨4, [], none⟩, ⟨5, [], none⟩, ⟨6, [], none⟩, ⟨7, [], none⟩] (l' := [(6, Value.bool false), (5, Value.int IntKind.i64 0), (12, Value.bool false), (11, Value.int IntKind.i64 0), (7, Value.tuple #[Value.int IntKind.i64 0, Value.bool false]), (10, Value.tuple #[Value.int IntKind.i64 0, Value.bool false]), (9, Value.agg #[Value.int IntKind.i64 r.1, Value.int IntKind.u32 r.2]), (8, Value.pointer (some ⟨b, 0, none⟩)), (0, Value.pointer (some ⟨b, 0, none⟩)), (1, Value.agg #[Value.int IntKind.i64 r.1, Value.int IntKind.u32 r.2]), (3, Value.pointer (some ⟨r1, 0, none⟩)), (4, Value.bool false)] ++ lr4) (pts' := []) (eqs := []) (by kernel_rfl) trivial (AllC_nil _) ?_
  change Code.wp _ (CA Try.f31 [1, 1]) _ _ _
  refine fr_cut [(0, Value.pointer (some ⟨b, 0, none⟩)), (1, Value.agg #[Value.int IntKind.i64 r.1, Value.int IntKind.u32 r.2]), (3, Value.pointer (some ⟨r1, 0, none⟩)), (4, Value.bool false), (6, Value.bool false)] ⟨rfl, rfl, rfl, rfl, rfl, trivial⟩ (fun a => Code.wp _ _ _ a _) (fun lr9 => ?_)
  refine go_seq (x := CA Try.f31 [1, 1, 0]) (y := CA Try.f31 [1, 1, 1]) (by kernel_rfl) ?_
  refine go_pln (id := 2) (ops := RA Try.f31 [1, 1, 0]) [0, 1] (by kernel_rfl) (by kernel_rfl) ?_
  refine plain_batch (rest := []) [⟨0, [], none⟩, ⟨1, [], none⟩] (l' := [(4, Value.bool false), (13, Value.bool false), (0, Value.pointer (some ⟨b, 0, none⟩)), (1, Value.agg #[Value.int IntKind.i64 r.1, Value.int IntKind.u32 r.2]), (3, Value.pointer (some ⟨r1, 0, none⟩)), (4, Value.bool false), (6, Value.bool false)] ++ lr9) (pts' := []) (eqs := []) (by kernel_rfl) trivial (AllC_nil _) ?_
  change Code.wp _ (CA Try.f31 [1, 1, 1]) _ _ _
  refine fr_cut [(0, Value.pointer (some ⟨b, 0, none⟩)), (1, Value.agg #[Value.int IntKind.i64 r.1, Value.int IntKind.u32 r.2]), (3, Value.pointer (some ⟨r1, 0, none⟩)), (4, Value.bool false), (6, Value.bool false)] ⟨rfl, rfl, rfl, rfl, rfl, trivial⟩ (fun a => Code.wp _ _ _ a _) (fun lr10 => ?_)
  refine go_rt (by kernel_rfl) ?_
  try simp only [Exit.inBlock, Exit.then]
  have h11 : sat g w6 [RStk b L, R] := sat_sel [0, 2] rfl h8
  refine ht_out [] (Value.bool false) [] (by kernel_rfl) (by intro q hq; cases hq) ?_
  exact ⟨Value.bool false, [RStk b L], rfl, ⟨rfl, rfl⟩, h11⟩

set_option maxHeartbeats 4000000 in
theorem rsame_eq (A1 A2 : Assn) (p1 p2 : Option Addr) (n c1 c2 : Nat) (L : List Rf) (hg1 : Gv A1 p1 n (fl eR L)) (hg2 : Gv A2 p2 n (fl eR L)) (hl1 : L.length = n) (hl2 : L.length = n) (hn : n ≤ 1000000) : HT Try.prog 33 [Value.slice p1 n c1, Value.slice p2 n c2] [A1, A2] (fun v K => v = Value.bool true ∧ K = [A1, A2]) := by
  refine ht_in 26 [(0, Value.slice p1 n c1), (1, Value.slice p2 n c2)] Try.func33 (by kernel_rfl) Try.ntmps33 rfl rfl ?_
  intro g w0 R h0
  refine go_seq (x := CA Try.f33 [0]) (y := CA Try.f33 [1]) (by kernel_rfl) ?_
  refine go_pln (id := 0) (ops := RA Try.f33 [0]) [0] (by kernel_rfl) (by kernel_rfl) ?_
  refine plain_batch (rest := []) [⟨0, [], none⟩] (l' := [(4, Value.bool false), (0, Value.slice p1 n c1), (1, Value.slice p2 n c2)]) (pts' := []) (eqs := []) (by kernel_rfl) trivial (AllC_nil _) ?_
  change Code.wp _ (CA Try.f33 [1]) _ _ _
  refine fr_cut [(0, Value.slice p1 n c1), (1, Value.slice p2 n c2), (4, Value.bool false)] ⟨rfl, rfl, rfl, trivial⟩ (fun a => Code.wp _ _ _ a _) (fun lr1 => ?_)
  refine go_seq (x := CA Try.f33 [1, 0]) (y := CA Try.f33 [1, 1]) (by kernel_rfl) ?_
  refine go_seq (x := CA Try.f33 [1, 0, 0]) (y := CA Try.f33 [1, 0, 1]) (by kernel_rfl) ?_
  refine go_pln (id := 1) (ops := RA Try.f33 [1, 0, 0]) [0, 1, 2, 3, 4] (by kernel_rfl) (by kernel_rfl) ?_
  refine plain_batch (rest := []) [⟨0, [], none⟩, ⟨1, [], none⟩, ⟨2, [], none⟩, ⟨3, [], none⟩, ⟨4, [], some (Value.bool false)⟩] (l' := [(10, Value.bool false), (9, Value.int IntKind.i64 (((n : Nat) : Int))), (8, Value.slice p2 n c2), (7, Value.int IntKind.i64 (((n : Nat) : Int))), (6, Value.slice p1 n c1), (0, Value.slice p1 n c1), (1, Value.slice p2 n c2), (4, Value.bool false)] ++ lr1) (pts' := []) (eqs := [(Value.bool ((((n : Nat) : Int)) != (((n : Nat) : Int))), Value.bool false)]) (by kernel_rfl) ⟨(ov_nf (by omega)), trivial⟩ (AllC_nil _) ?_
  change Code.wp _ (CA Try.f33 [1, 0, 1]) _ _ _
  refine fr_cut [(0, Value.slice p1 n c1), (1, Value.slice p2 n c2), (4, Value.bool false), (10, Value.bool false)] ⟨rfl, rfl, rfl, rfl, trivial⟩ (fun a => Code.wp _ _ _ a _) (fun lr2 => ?_)
  refine go_cnd (x := (Operand.tmp 10)) (s := CA Try.f33 [1, 0, 1, 0]) (t := CA Try.f33 [1, 0, 1, 1]) false (by kernel_rfl) (by kernel_rfl) ?_
  change Code.wp _ (CA Try.f33 [1, 0, 1, 1]) _ _ _
  refine go_skp (by kernel_rfl) ?_
  change Code.wp _ (CA Try.f33 [1, 1]) _ _ _
  refine go_seq (x := CA Try.f33 [1, 1, 0]) (y := CA Try.f33 [1, 1, 1]) (by kernel_rfl) ?_
  refine go_seq (x := CA Try.f33 [1, 1, 0, 0]) (y := CA Try.f33 [1, 1, 0, 1]) (by kernel_rfl) ?_
  refine go_pln (id := 3) (ops := RA Try.f33 [1, 1, 0, 0]) [0] (by kernel_rfl) (by kernel_rfl) ?_
  refine plain_batch (rest := []) [⟨0, [], none⟩] (l' := [(5, Value.int IntKind.i64 0), (0, Value.slice p1 n c1), (1, Value.slice p2 n c2), (4, Value.bool false), (10, Value.bool false)] ++ lr2) (pts' := []) (eqs := []) (by kernel_rfl) trivial (AllC_nil _) ?_
  change Code.wp _ (CA Try.f33 [1, 1, 0, 1]) _ _ _
  refine fr_cut [(0, Value.slice p1 n c1), (1, Value.slice p2 n c2), (4, Value.bool false), (5, Value.int IntKind.i64 0), (10, Value.bool false)] ⟨rfl, rfl, rfl, rfl, rfl, trivial⟩ (fun a => Code.wp _ _ _ a _) (fun lr3 => ?_)
  refine go_blk (id := 0) (x := CA Try.f33 [1, 1, 0, 1, 0]) (by kernel_rfl) ?_
  refine lp (x := CA Try.f33 [1, 1, 0, 1, 0, 0]) (by kernel_rfl) (fun mz_ a w => ∃ k : Nat, ∃ lr : Fr, mz_ = n - k ∧ (k ≤ n) ∧ a = mk 26 ([(0, Value.slice p1 n c1), (1, Value.slice p2 n c2), (5, Value.int IntKind.i64 (((k : Nat) : Int)))] ++ lr) ∧ sat g w [A1, A2, R]) (n) ⟨0, _, rfl, (Nat.zero_le _), (mk_live [(0, Value.slice p1 n c1), (1, Value.slice p2 n c2), (5, Value.int IntKind.i64 (((0 : Nat) : Int)))] ⟨rfl, rfl, (ov_int (by omega)), trivial⟩), h0⟩ ?_
  rintro m5 a6 w7 ⟨k, lr4, rfl, hk, rfl, h8⟩
  change Code.wp _ (CA Try.f33 [1, 1, 0, 1, 0, 0]) _ _ _
  refine go_seq (x := CA Try.f33 [1, 1, 0, 1, 0, 0, 0]) (y := CA Try.f33 [1, 1, 0, 1, 0, 0, 1]) (by kernel_rfl) ?_
  refine go_seq (x := CA Try.f33 [1, 1, 0, 1, 0, 0, 0, 0]) (y := CA Try.f33 [1, 1, 0, 1, 0, 0, 0, 1]) (by kernel_rfl) ?_
  refine go_pln (id := 4) (ops := RA Try.f33 [1, 1, 0, 1, 0, 0, 0, 0]) [0, 1, 2, 3] (by kernel_rfl) (by kernel_rfl) ?_
  refine plain_batch (rest := [3]) [⟨0, [], none⟩, ⟨1, [], none⟩, ⟨2, [], none⟩] (l' := [(13, Value.int IntKind.i64 (((n : Nat) : Int))), (12, Value.slice p1 n c1), (11, Value.int IntKind.i64 (((k : Nat) : Int))), (0, Value.slice p1 n c1), (1, Value.slice p2 n c2), (5, Value.int IntKind.i64 (((k : Nat) : Int)))] ++ lr4) (pts' := []) (eqs := []) (by kernel_rfl) trivial (AllC_nil _) ?_
  by_cases c9 : ((k : Nat) : Int) < ((n : Nat) : Int)
  ·
    refine plain_batch (rest := []) [⟨3, [], some (Value.bool true)⟩] (l' := [(14, Value.bool true), (13, Value.int IntKind.i64 (((n : Nat) : Int))), (12, Value.slice p1 n c1), (11, Value.int IntKind.i64 (((k : Nat) : Int))), (0, Value.slice p1 n c1), (1, Value.slice p2 n c2), (5, Value.int IntKind.i64 (((k : Nat) : Int)))] ++ lr4) (pts' := []) (eqs := [(Value.bool (decide (((k : Nat) : Int) < ((n : Nat) : Int))), Value.bool true)]) (by kernel_rfl) ⟨(ov_t (by omega)), trivial⟩ (AllC_nil _) ?_
    change Code.wp _ (CA Try.f33 [1, 1, 0, 1, 0, 0, 0, 1]) _ _ _
    refine fr_cut [(0, Value.slice p1 n c1), (1, Value.slice p2 n c2), (5, Value.int IntKind.i64 (((k : Nat) : Int))), (14, Value.bool true)] ⟨rfl, rfl, rfl, rfl, trivial⟩ (fun a => Code.wp _ _ _ a _) (fun lr10 => ?_)
    refine go_cnd (x := (Operand.tmp 14)) (s := CA Try.f33 [1, 1, 0, 1, 0, 0, 0, 1, 0]) (t := CA Try.f33 [1, 1, 0, 1, 0, 0, 0, 1, 1]) true (by kernel_rfl) (by kernel_rfl) ?_
    change Code.wp _ (CA Try.f33 [1, 1, 0, 1, 0, 0, 0, 1, 0]) _ _ _
    refine go_skp (by kernel_rfl) ?_
    change Code.wp _ (CA Try.f33 [1, 1, 0, 1, 0, 0, 1]) _ _ _
    refine go_seq (x := CA Try.f33 [1, 1, 0, 1, 0, 0, 1, 0]) (y := CA Try.f33 [1, 1, 0, 1, 0, 0, 1, 1]) (by kernel_rfl) ?_
    refine go_blk (id := 1) (x := CA Try.f33 [1, 1, 0, 1, 0, 0, 1, 0, 0]) (by kernel_rfl) ?_
    refine go_seq (x := CA Try.f33 [1, 1, 0, 1, 0, 0, 1, 0, 0, 0]) (y := CA Try.f33 [1, 1, 0, 1, 0, 0, 1, 0, 0, 1]) (by kernel_rfl) ?_
    refine go_drw (id := 6) (ops := RA Try.f33 [1, 1, 0, 1, 0, 0, 1, 0, 0, 0]) (Tr.fl 0 (Tr.fl 1 (Tr.fl 2 (Tr.fl 3 (Tr.fl 4 (Tr.fl 5 (Tr.fl 6 (Tr.fl 7 (Tr.fl 8 Tr.nil))))))))) (by kernel_rfl) (by kernel_rfl) (by kernel_rfl) (by kernel_rfl) (fun _ _ d _ _ h => by cases d <;> exact h) h8 ?_
    intro w11 h12
    obtain ⟨b13, off15, hp14⟩ := gv_ptr (j := 0) h12 rfl hg1 (by omega)
    refine draw_batch (t := (Tr.fl 2 (Tr.fl 3 (Tr.fl 4 (Tr.fl 5 (Tr.fl 6 (Tr.fl 7 (Tr.fl 8 Tr.nil)))))))) [⟨0, [], none⟩, ⟨1, [], none⟩] (l' := [(18, Value.int IntKind.i64 (((k : Nat) : Int))), (17, Value.slice p1 n c1), (0, Value.slice p1 n c1), (1, Value.slice p2 n c2), (5, Value.int IntKind.i64 (((k : Nat) : Int))), (14, Value.bool true)] ++ lr10) (pts' := []) (eqs := []) (by kernel_rfl) trivial (AllC_nil _) ?_
    refine draw_law (i := 2) 19 (Value.pointer (some ⟨b13, off15 + k * 2, none⟩)) [] (by kernel_rfl) (fun _ _ => law_indexSlP (o := opA (RA Try.f33 [1, 1, 0, 1, 0, 0, 1, 0, 0, 0]) 2) (x := (Operand.tmp 17)) (i := (Operand.tmp 18)) (p := p1) (b := b13) (off := off15) (z := (((k : Nat) : Int))) (len := n) (cap := c1) (by kernel_rfl) Try.underlying28 2 (by kernel_rfl) k (by kernel_rfl) hp14 (by kernel_rfl) (by omega) (by omega) (off15 + k * 2) (by omega) _) (by intro q hq; cases hq) ?_
    obtain ⟨x16, hx17⟩ : ∃ x, L[k]? = some x := ⟨_, List.getElem?_eq_getElem (by rw [hl1]; omega)⟩
    obtain ⟨b18, off20, hp19⟩ := gv_ptr (j := 1) h12 rfl hg2 (by omega)
    refine draw_batch (t := (Tr.fl 6 (Tr.fl 7 (Tr.fl 8 Tr.nil)))) [⟨3, [Value.int IntKind.i64 x16.1, Value.int IntKind.u32 x16.2], none⟩, ⟨4, [], none⟩, ⟨5, [], none⟩] (l' := [(22, Value.int IntKind.i64 (((k : Nat) : Int))), (21, Value.slice p2 n c2), (20, Value.agg #[Value.int IntKind.i64 x16.1, Value.int IntKind.u32 x16.2]), (19, Value.pointer (some ⟨b13, off15 + k * 2, none⟩)), (18, Value.int IntKind.i64 (((k : Nat) : Int))), (17, Value.slice p1 n c1), (0, Value.slice p1 n c1), (1, Value.slice p2 n c2), (5, Value.int IntKind.i64 (((k : Nat) : Int))), (14, Value.bool true)] ++ lr10) (pts' := [(3, ⟨b13, off15 + k * 2, none⟩, Value.int IntKind.i64 x16.1), (3, ⟨b13, off15 + k * 2 + 1, none⟩, Value.int IntKind.u32 x16.2)]) (eqs := []) (by kernel_rfl) trivial (AllC_cons (gv_cell (j := 0) h12 rfl hg1 hp14 (fl_get eR_ok (j := 0) (v := Value.int IntKind.i64 x16.1) hx17 rfl) (off15 + k * 2) (by omega)) (AllC_cons (gv_cell (j := 0) h12 rfl hg1 hp14 (fl_get eR_ok (j := 1) (v := Value.int IntKind.u32 x16.2) hx17 rfl) (off15 + k * 2 + 1) (by omega)) (AllC_nil _))) ?_
    refine draw_law (i := 6) 23 (Value.pointer (some ⟨b18, off20 + k * 2, none⟩)) [] (by kernel_rfl) (fun _ _ => law_indexSlP (o := opA (RA Try.f33 [1, 1, 0, 1, 0, 0, 1, 0, 0, 0]) 6) (x := (Operand.tmp 21)) (i := (Operand.tmp 22)) (p := p2) (b := b18) (off := off20) (z := (((k : Nat) : Int))) (len := n) (cap := c2) (by kernel_rfl) Try.underlying28 2 (by kernel_rfl) k (by kernel_rfl) hp19 (by kernel_rfl) (by omega) (by omega) (off20 + k * 2) (by omega) _) (by intro q hq; cases hq) ?_
    refine draw_batch (t := (Tr.fl 8 Tr.nil)) [⟨7, [Value.int IntKind.i64 x16.1, Value.int IntKind.u32 x16.2], none⟩] (l' := [(24, Value.agg #[Value.int IntKind.i64 x16.1, Value.int IntKind.u32 x16.2]), (23, Value.pointer (some ⟨b18, off20 + k * 2, none⟩)), (22, Value.int IntKind.i64 (((k : Nat) : Int))), (21, Value.slice p2 n c2), (20, Value.agg #[Value.int IntKind.i64 x16.1, Value.int IntKind.u32 x16.2]), (19, Value.pointer (some ⟨b13, off15 + k * 2, none⟩)), (18, Value.int IntKind.i64 (((k : Nat) : Int))), (17, Value.slice p1 n c1), (0, Value.slice p1 n c1), (1, Value.slice p2 n c2), (5, Value.int IntKind.i64 (((k : Nat) : Int))), (14, Value.bool true)] ++ lr10) (pts' := [(7, ⟨b18, off20 + k * 2, none⟩, Value.int IntKind.i64 x16.1), (7, ⟨b18, off20 + k * 2 + 1, none⟩, Value.int IntKind.u32 x16.2)]) (eqs := []) (by kernel_rfl) trivial (AllC_cons (gv_cell (j := 1) h12 rfl hg2 hp19 (fl_get eR_ok (j := 0) (v := Value.int IntKind.i64 x16.1) hx17 rfl) (off20 + k * 2) (by omega)) (AllC_cons (gv_cell (j := 1) h12 rfl hg2 hp19 (fl_get eR_ok (j := 1) (v := Value.int IntKind.u32 x16.2) hx17 rfl) (off20 + k * 2 + 1) (by omega)) (AllC_nil _))) ?_
    refine draw_law (i := 8) 25 (Value.bool false) [] (by kernel_rfl) (fun _ _ => seq25_neq_t (o := opA (RA Try.f33 [1, 1, 0, 1, 0, 0, 1, 0, 0, 0]) 8) (x := (Operand.tmp 20)) (y := (Operand.tmp 24)) x16.1 x16.2 x16.1 x16.2 (by kernel_rfl) (by kernel_rfl) (by kernel_rfl) ⟨rfl, rfl⟩ _) (by intro q hq; cases hq) ?_
    change Code.wp _ (CA Try.f33 [1, 1, 0, 1, 0, 0, 1, 0, 0, 1]) _ _ _
    refine fr_cut [(0, Value.slice p1 n c1), (1, Value.slice p2 n c2), (5, Value.int IntKind.i64 (((k : Nat) : Int))), (14, Value.bool true), (25, Value.bool false)] ⟨rfl, rfl, rfl, rfl, rfl, trivial⟩ (fun a => Code.wp _ _ _ a _) (fun lr21 => ?_)
    refine go_cnd (x := (Operand.tmp 25)) (s := CA Try.f33 [1, 1, 0, 1, 0, 0, 1, 0, 0, 1, 0]) (t := CA Try.f33 [1, 1, 0, 1, 0, 0, 1, 0, 0, 1, 1]) false (by kernel_rfl) (by kernel_rfl) ?_
    change Code.wp _ (CA Try.f33 [1, 1, 0, 1, 0, 0, 1, 0, 0, 1, 1]) _ _ _
    refine go_skp (by kernel_rfl) ?_
    change Code.wp _ (CA Try.f33 [1, 1, 0, 1, 0, 0, 1, 1]) _ _ _
    refine go_pln (id := 5) (ops := RA Try.f33 [1, 1, 0, 1, 0, 0, 1, 1]) [0, 1, 2] (by kernel_rfl) (by kernel_rfl) ?_
    refine plain_batch (rest := []) [⟨0, [], none⟩, ⟨1, [], some (Value.int IntKind.i64 (((k : Nat) : Int) + 1))⟩, ⟨2, [], none⟩] (l' := [(5, Value.int IntKind.i64 (((k : Nat) : Int) + 1)), (16, Value.int IntKind.i64 (((k : Nat) : Int) + 1)), (15, Value.int IntKind.i64 (((k : Nat) : Int))), (0, Value.slice p1 n c1), (1, Value.slice p2 n c2), (5, Value.int IntKind.i64 (((k : Nat) : Int))), (14, Value.bool true), (25, Value.bool false)] ++ lr21) (pts' := []) (eqs := [(Value.int IntKind.i64 (IntKind.wrap IntKind.i64 ((((k : Nat) : Int)) + 1)), Value.int IntKind.i64 (((k : Nat) : Int) + 1))]) (by kernel_rfl) ⟨(ov_i64 (by omega) (by omega) (by omega)), trivial⟩ (AllC_nil _) ?_
    change ∃ n', n' < _ ∧ _
    refine ⟨(n - (k + 1)), by omega, (k + 1), _, rfl, (by omega), (mk_live [(0, Value.slice p1 n c1), (1, Value.slice p2 n c2), (5, Value.int IntKind.i64 ((((k + 1) : Nat) : Int)))] ⟨rfl, rfl, (ov_int (by omega)), trivial⟩), h12⟩
  ·
    refine plain_batch (rest := []) [⟨3, [], some (Value.bool false)⟩] (l' := [(14, Value.bool false), (13, Value.int IntKind.i64 (((n : Nat) : Int))), (12, Value.slice p1 n c1), (11, Value.int IntKind.i64 (((k : Nat) : Int))), (0, Value.slice p1 n c1), (1, Value.slice p2 n c2), (5, Value.int IntKind.i64 (((k : Nat) : Int)))] ++ lr4) (pts' := []) (eqs := [(Value.bool (decide (((k : Nat) : Int) < ((n : Nat) : Int))), Value.bool false)]) (by kernel_rfl) ⟨(ov_f (by omega)), trivial⟩ (AllC_nil _) ?_
    change Code.wp _ (CA Try.f33 [1, 1, 0, 1, 0, 0, 0, 1]) _ _ _
    refine fr_cut [(0, Value.slice p1 n c1), (1, Value.slice p2 n c2), (5, Value.int IntKind.i64 (((k : Nat) : Int))), (14, Value.bool false)] ⟨rfl, rfl, rfl, rfl, trivial⟩ (fun a => Code.wp _ _ _ a _) (fun lr22 => ?_)
    refine go_cnd (x := (Operand.tmp 14)) (s := CA Try.f33 [1, 1, 0, 1, 0, 0, 0, 1, 0]) (t := CA Try.f33 [1, 1, 0, 1, 0, 0, 0, 1, 1]) false (by kernel_rfl) (by kernel_rfl) ?_
    change Code.wp _ (CA Try.f33 [1, 1, 0, 1, 0, 0, 0, 1, 1]) _ _ _
    refine go_ext (id := 0) (by kernel_rfl) ?_
    change Code.wp _ (CA Try.f33 [1, 1, 1]) _ _ _
    refine go_seq (x := CA Try.f33 [1, 1, 1, 0]) (y := CA Try.f33 [1, 1, 1, 1]) (by kernel_rfl) ?_
    refine go_pln (id := 8) (ops := RA Try.f33 [1, 1, 1, 0]) [0] (by kernel_rfl) (by kernel_rfl) ?_
    refine plain_batch (rest := []) [⟨0, [], none⟩] (l' := [(4, Value.bool true), (0, Value.slice p1 n c1), (1, Value.slice p2 n c2), (5, Value.int IntKind.i64 (((k : Nat) : Int))), (14, Value.bool false)] ++ lr22) (pts' := []) (eqs := []) (by kernel_rfl) trivial (AllC_nil _) ?_
    change Code.wp _ (CA Try.f33 [1, 1, 1, 1]) _ _ _
    refine fr_cut [(0, Value.slice p1 n c1), (1, Value.slice p2 n c2), (4, Value.bool true), (5, Value.int IntKind.i64 (((k : Nat) : Int))), (14, Value.bool false)] ⟨rfl, rfl, rfl, rfl, rfl, trivial⟩ (fun a => Code.wp _ _ _ a _) (fun lr23 => ?_)
    refine go_rt (by kernel_rfl) ?_
    try simp only [Exit.inBlock, Exit.then]
    refine ht_out [] (Value.bool true) [] (by kernel_rfl) (by intro q hq; cases hq) ?_
    exact ⟨Value.bool true, [A1, A2], rfl, ⟨rfl, rfl⟩, h8⟩

end Go.Proofs.Ytafencnieimpnaa
