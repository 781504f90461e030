/- Walks, printed by my generator gen4.py. -/
import Derived.Test.YtafencnieimpnaaRtsB
import Derived.Test.YtafencnieimpnaaG1
namespace Go.Proofs.Ytafencnieimpnaa
set_option maxHeartbeats 4000000 in
theorem get_out (b : Nat) (z : Int) (L : List Rf) (hi : z < 0 ∨ (L.length : Int) ≤ z) : HT Try.prog 19 [Value.pointer (some ⟨b, 0, none⟩), Value.int IntKind.i64 z] [PStk b L] (fun v K => v = Value.tuple #[Value.agg #[Value.int .i64 0, Value.int .u32 0], Value.int .i64 3] ∧ K = [PStk b L]) := by
  refine ht_in 29 [(0, Value.pointer (some ⟨b, 0, none⟩)), (1, Value.int IntKind.i64 z)] Try.func19 (by kernel_rfl) Try.ntmps19 rfl rfl ?_
  intro g w0 R h0
  obtain ⟨T1, hT2, h3⟩ := sat_open (X := List Rf) (p := fun T => (L ++ T).length = 32) (B := fun T => Cl b (stk L.length (L ++ T)) 57) h0 (fun _ hh => hh)
  rw [List.length_append] at hT2
  refine go_seq (x := CA Try.f19 [0]) (y := CA Try.f19 [1]) (by kernel_rfl) ?_
  refine go_pln (id := 0) (ops := RA Try.f19 [0]) [0, 1] (by kernel_rfl) (by kernel_rfl) ?_
  refine plain_act (i := 0) (by kernel_rfl) ?_
  refine an_new (d := 4) (fun xb_ => Value.pointer (some ⟨xb_, 0, none⟩)) (fun xb_ => Obj.cells [Value.int IntKind.i64 0, Value.int IntKind.u32 0].toArray 25 (0, 0)) (fun xb_ => by kernel_rfl) (by kernel_rfl) rfl h3 ?_
  intro r4 w5 (h6 : sat g w5 [Cl r4 [Value.int IntKind.i64 0, Value.int IntKind.u32 0] 25, Cl b (stk L.length (L ++ T1)) 57, R])
  refine plain_batch (rest := []) [⟨1, [], none⟩] (l' := [(5, Value.int IntKind.i64 0), (4, Value.pointer (some ⟨r4, 0, none⟩)), (0, Value.pointer (some ⟨b, 0, none⟩)), (1, Value.int IntKind.i64 z)]) (pts' := []) (eqs := []) (by kernel_rfl) trivial (AllC_nil _) ?_
  change Code.wp _ (CA Try.f19 [1]) _ _ _
  refine fr_cut [(0, Value.pointer (some ⟨b, 0, none⟩)), (1, Value.int IntKind.i64 z), (4, Value.pointer (some ⟨r4, 0, none⟩)), (5, Value.int IntKind.i64 0)] ⟨rfl, rfl, rfl, rfl, trivial⟩ (fun a => Code.wp _ _ _ a _) (fun lr7 => ?_)
  refine go_seq (x := CA Try.f19 [1, 0]) (y := CA Try.f19 [1, 1]) (by kernel_rfl) ?_
  refine go_blk (id := 0) (x := CA Try.f19 [1, 0, 0]) (by kernel_rfl) ?_
  refine go_seq (x := CA Try.f19 [1, 0, 0, 0]) (y := CA Try.f19 [1, 0, 0, 1]) (by kernel_rfl) ?_
  refine go_pln (id := 1) (ops := RA Try.f19 [1, 0, 0, 0]) [0, 1, 2, 3] (by kernel_rfl) (by kernel_rfl) ?_
  refine plain_batch (rest := [1, 2, 3]) [⟨0, [], none⟩] (l' := [(7, Value.pointer (some ⟨b, 0, none⟩)), (0, Value.pointer (some ⟨b, 0, none⟩)), (1, Value.int IntKind.i64 z), (4, Value.pointer (some ⟨r4, 0, none⟩)), (5, Value.int IntKind.i64 0)] ++ lr7) (pts' := []) (eqs := []) (by kernel_rfl) trivial (AllC_nil _) ?_
  have h8 : sat g w5 [Cl b (stk L.length (L ++ T1)) 57, Cl r4 [Value.int IntKind.i64 0, Value.int IntKind.u32 0] 25, R] := sat_sel [1, 0, 2] rfl h6
  refine plain_act (i := 1) (by kernel_rfl) ?_
  refine an_call (d := some 8) (f := 39) (args := [Value.pointer (some ⟨b, 0, none⟩)]) (by kernel_rfl) Try.call39 (valid_ht b _) (F := [Cl r4 [Value.int IntKind.i64 0, Value.int IntKind.u32 0] 25, R]) h8 ?_
  rintro v K w9 (⟨rfl, rfl⟩) h10
  refine ⟨_, rfl, ?_⟩
  have h11 : sat g w9 [Cl b (stk L.length (L ++ T1)) 57, Cl r4 [Value.int IntKind.i64 0, Value.int IntKind.u32 0] 25, R] := h10
  refine plain_batch (rest := []) [⟨2, [], none⟩, ⟨3, [], none⟩] (l' := [(6, Value.bool false), (9, Value.bool false), (8, Value.bool true), (7, Value.pointer (some ⟨b, 0, none⟩)), (0, Value.pointer (some ⟨b, 0, none⟩)), (1, Value.int IntKind.i64 z), (4, Value.pointer (some ⟨r4, 0, none⟩)), (5, Value.int IntKind.i64 0)] ++ lr7) (pts' := []) (eqs := []) (by kernel_rfl) trivial (AllC_nil _) ?_
  change Code.wp _ (CA Try.f19 [1, 0, 0, 1]) _ _ _
  refine fr_cut [(0, Value.pointer (some ⟨b, 0, none⟩)), (1, Value.int IntKind.i64 z), (4, Value.pointer (some ⟨r4, 0, none⟩)), (5, Value.int IntKind.i64 0), (6, Value.bool false)] ⟨rfl, rfl, rfl, rfl, rfl, trivial⟩ (fun a => Code.wp _ _ _ a _) (fun lr12 => ?_)
  refine go_cnd (x := (Operand.tmp 6)) (s := CA Try.f19 [1, 0, 0, 1, 0]) (t := CA Try.f19 [1, 0, 0, 1, 1]) false (by kernel_rfl) (by kernel_rfl) ?_
  change Code.wp _ (CA Try.f19 [1, 0, 0, 1, 1]) _ _ _
  refine go_seq (x := CA Try.f19 [1, 0, 0, 1, 1, 0]) (y := CA Try.f19 [1, 0, 0, 1, 1, 1]) (by kernel_rfl) ?_
  refine go_pln (id := 3) (ops := RA Try.f19 [1, 0, 0, 1, 1, 0]) [0, 1, 2, 3, 4, 5, 6, 7, 8, 9, 10] (by kernel_rfl) (by kernel_rfl) ?_
  refine plain_batch (rest := [1, 2, 3, 4, 5, 6, 7, 8, 9, 10]) [⟨0, [], none⟩] (l' := [(12, Value.int IntKind.i64 z), (0, Value.pointer (some ⟨b, 0, none⟩)), (1, Value.int IntKind.i64 z), (4, Value.pointer (some ⟨r4, 0, none⟩)), (5, Value.int IntKind.i64 0), (6, Value.bool false)] ++ lr12) (pts' := []) (eqs := []) (by kernel_rfl) trivial (AllC_nil _) ?_
  by_cases c13 : z < 0
  ·
    refine plain_batch (rest := []) [⟨1, [], some (Value.bool true)⟩, ⟨2, [], none⟩, ⟨3, [], none⟩, ⟨4, [], none⟩, ⟨5, [], none⟩, ⟨6, [], none⟩, ⟨7, [], none⟩, ⟨8, [], none⟩, ⟨9, [], none⟩, ⟨10, [], none⟩] (l' := [(11, Value.bool true), (21, Value.bool true), (20, undef), (19, undef), (18, undef), (17, undef), (16, undef), (15, undef), (14, Value.bool true), (13, Value.bool true), (12, Value.int IntKind.i64 z), (0, Value.pointer (some ⟨b, 0, none⟩)), (1, Value.int IntKind.i64 z), (4, Value.pointer (some ⟨r4, 0, none⟩)), (5, Value.int IntKind.i64 0), (6, Value.bool false)] ++ lr12) (pts' := []) (eqs := [(Value.bool (decide (z < 0)), Value.bool true)]) (by kernel_rfl) ⟨(ov_t (by omega)), trivial⟩ (AllC_nil _) ?_
    change Code.wp _ (CA Try.f19 [1, 0, 0, 1, 1, 1]) _ _ _
    refine fr_cut [(0, Value.pointer (some ⟨b, 0, none⟩)), (1, Value.int IntKind.i64 z), (4, Value.pointer (some ⟨r4, 0, none⟩)), (5, Value.int IntKind.i64 0), (6, Value.bool false), (11, Value.bool true)] ⟨rfl, rfl, rfl, rfl, rfl, rfl, trivial⟩ (fun a => Code.wp _ _ _ a _) (fun lr14 => ?_)
    refine go_cnd (x := (Operand.tmp 11)) (s := CA Try.f19 [1, 0, 0, 1, 1, 1, 0]) (t := CA Try.f19 [1, 0, 0, 1, 1, 1, 1]) true (by kernel_rfl) (by kernel_rfl) ?_
    change Code.wp _ (CA Try.f19 [1, 0, 0, 1, 1, 1, 0]) _ _ _
    refine go_seq (x := CA Try.f19 [1, 0, 0, 1, 1, 1, 0, 0]) (y := CA Try.f19 [1, 0, 0, 1, 1, 1, 0, 1]) (by kernel_rfl) ?_
    refine go_pln (id := 4) (ops := RA Try.f19 [1, 0, 0, 1, 1, 1, 0, 0]) [0, 1, 2] (by kernel_rfl) (by kernel_rfl) ?_
    refine plain_batch (rest := [1, 2]) [⟨0, [], none⟩] (l' := [(22, Value.agg #[Value.int IntKind.i64 0, Value.int IntKind.u32 0]), (0, Value.pointer (some ⟨b, 0, none⟩)), (1, Value.int IntKind.i64 z), (4, Value.pointer (some ⟨r4, 0, none⟩)), (5, Value.int IntKind.i64 0), (6, Value.bool false), (11, Value.bool true)] ++ lr14) (pts' := []) (eqs := []) (by kernel_rfl) trivial (AllC_nil _) ?_
    have h15 : sat g w9 [Cl r4 [Value.int IntKind.i64 0, Value.int IntKind.u32 0] 25, Cl b (stk L.length (L ++ T1)) 57, R] := sat_sel [1, 0, 2] rfl h11
    refine plain_act (i := 1) (by kernel_rfl) ?_
    refine an_store [(0, Value.int IntKind.i64 0), (1, Value.int IntKind.u32 0)] (cs' := [Value.int IntKind.i64 0, Value.int IntKind.u32 0]) (by kernel_rfl) (by kernel_rfl) (allq ⟨⟨by simp, rfl⟩, ⟨by simp, rfl⟩, trivial⟩) rfl h15 ?_
    intro w16 (h17 : sat g w16 [Cl r4 [Value.int IntKind.i64 0, Value.int IntKind.u32 0] 25, Cl b (stk L.length (L ++ T1)) 57, R])
    refine plain_batch (rest := []) [⟨2, [], none⟩] (l' := [(5, Value.int IntKind.i64 3), (22, Value.agg #[Value.int IntKind.i64 0, Value.int IntKind.u32 0]), (0, Value.pointer (some ⟨b, 0, none⟩)), (1, Value.int IntKind.i64 z), (4, Value.pointer (some ⟨r4, 0, none⟩)), (5, Value.int IntKind.i64 0), (6, Value.bool false), (11, Value.bool true)] ++ lr14) (pts' := []) (eqs := []) (by kernel_rfl) trivial (AllC_nil _) ?_
    change Code.wp _ (CA Try.f19 [1, 0, 0, 1, 1, 1, 0, 1]) _ _ _
    refine fr_cut [(0, Value.pointer (some ⟨b, 0, none⟩)), (1, Value.int IntKind.i64 z), (4, Value.pointer (some ⟨r4, 0, none⟩)), (5, Value.int IntKind.i64 3), (6, Value.bool false), (11, Value.bool true)] ⟨rfl, rfl, rfl, rfl, rfl, rfl, trivial⟩ (fun a => Code.wp _ _ _ a _) (fun lr18 => ?_)
    refine go_rt (by kernel_rfl) ?_
    have h19 : sat g w16 [Cl b (stk L.length (L ++ T1)) 57, Cl r4 [Value.int IntKind.i64 0, Value.int IntKind.u32 0] 25, R] := sat_sel [1, 0, 2] rfl h17
    have h20 : sat g w16 [PStk b L, Cl r4 [Value.int IntKind.i64 0, Value.int IntKind.u32 0] 25, R] := sat_imp h19 (fun _ hh => ⟨T1, (by rw [List.length_append]; exact hT2), hh⟩)
    repeat (first | simp only [Exit.inBlock] | simp only [Exit.then])
    have h21 : sat g w16 [PStk b L, R] := sat_sel [0, 2] rfl h20
    refine ht_out [Value.int IntKind.i64 0, Value.int IntKind.u32 0] (Value.tuple #[Value.agg #[Value.int IntKind.i64 0, Value.int IntKind.u32 0], Value.int IntKind.i64 3]) [(⟨r4, 0, none⟩, Value.int IntKind.i64 0), (⟨r4, 1, none⟩, Value.int IntKind.u32 0)] (by kernel_rfl) (allq ⟨sat_cell h20 1 rfl rfl, sat_cell h20 1 rfl rfl, trivial⟩) ?_
    exact ⟨Value.tuple #[Value.agg #[Value.int IntKind.i64 0, Value.int IntKind.u32 0], Value.int IntKind.i64 3], [PStk b L], rfl, ⟨rfl, rfl⟩, h21⟩
  ·
    refine plain_batch (rest := []) [⟨1, [], some (Value.bool false)⟩, ⟨2, [], none⟩, ⟨3, [], none⟩, ⟨4, [], none⟩, ⟨5, [], none⟩, ⟨6, [], none⟩, ⟨7, [Value.int IntKind.i64 (((L.length : Nat) : Int))], none⟩, ⟨8, [], some (Value.bool true)⟩, ⟨9, [], none⟩, ⟨10, [], none⟩] (l' := [(11, Value.bool true), (21, Value.bool true), (20, Value.bool true), (19, Value.int IntKind.i64 (((L.length : Nat) : Int))), (18, Value.pointer (some ⟨b, 1, none⟩)), (17, Value.pointer (some ⟨b, 0, none⟩)), (16, Value.pointer (some ⟨b, 0, none⟩)), (15, Value.int IntKind.i64 z), (14, Value.bool false), (13, Value.bool false), (12, Value.int IntKind.i64 z), (0, Value.pointer (some ⟨b, 0, none⟩)), (1, Value.int IntKind.i64 z), (4, Value.pointer (some ⟨r4, 0, none⟩)), (5, Value.int IntKind.i64 0), (6, Value.bool false)] ++ lr12) (pts' := [(7, ⟨b, 1, none⟩, Value.int IntKind.i64 (((L.length : Nat) : Int)))]) (eqs := [(Value.bool (decide (z < 0)), Value.bool false), (Value.bool (decide (z ≥ ((L.length : Nat) : Int))), Value.bool true)]) (by kernel_rfl) ⟨(ov_f (by omega)), (ov_t (by omega)), trivial⟩ (AllC_cons (sat_cell h11 0 rfl rfl) (AllC_nil _)) ?_
    change Code.wp _ (CA Try.f19 [1, 0, 0, 1, 1, 1]) _ _ _
    refine fr_cut [(0, Value.pointer (some ⟨b, 0, none⟩)), (1, Value.int IntKind.i64 z), (4, Value.pointer (some ⟨r4, 0, none⟩)), (5, Value.int IntKind.i64 0), (6, Value.bool false), (11, Value.bool true)] ⟨rfl, rfl, rfl, rfl, rfl, rfl, trivial⟩ (fun a => Code.wp _ _ _ a _) (fun lr22 => ?_)
    refine go_cnd (x := (Operand.tmp 11)) (s := CA Try.f19 [1, 0, 0, 1, 1, 1, 0]) (t := CA Try.f19 [1, 0, 0, 1, 1, 1, 1]) true (by kernel_rfl) (by kernel_rfl) ?_
    change Code.wp _ (CA Try.f19 [1, 0, 0, 1, 1, 1, 0]) _ _ _
    refine go_seq (x := CA Try.f19 [1, 0, 0, 1, 1, 1, 0, 0]) (y := CA Try.f19 [1, 0, 0, 1, 1, 1, 0, 1]) (by kernel_rfl) ?_
    refine go_pln (id := 4) (ops := RA Try.f19 [1, 0, 0, 1, 1, 1, 0, 0]) [0, 1, 2] (by kernel_rfl) (by kernel_rfl) ?_
    refine plain_batch (rest := [1, 2]) [⟨0, [], none⟩] (l' := [(22, Value.agg #[Value.int IntKind.i64 0, Value.int IntKind.u32 0]), (0, Value.pointer (some ⟨b, 0, none⟩)), (1, Value.int IntKind.i64 z), (4, Value.pointer (some ⟨r4, 0, none⟩)), (5, Value.int IntKind.i64 0), (6, Value.bool false), (11, Value.bool true)] ++ lr22) (pts' := []) (eqs := []) (by kernel_rfl) trivial (AllC_nil _) ?_
    have h23 : sat g w9 [Cl r4 [Value.int IntKind.i64 0, Value.int IntKind.u32 0] 25, Cl b (stk L.length (L ++ T1)) 57, R] := sat_sel [1, 0, 2] rfl h11
    refine plain_act (i := 1) (by kernel_rfl) ?_
    refine an_store [(0, Value.int IntKind.i64 0), (1, Value.int IntKind.u32 0)] (cs' := [Value.int IntKind.i64 0, Value.int IntKind.u32 0]) (by kernel_rfl) (by kernel_rfl) (allq ⟨⟨by simp, rfl⟩, ⟨by simp, rfl⟩, trivial⟩) rfl h23 ?_
    intro w24 (h25 : sat g w24 [Cl r4 [Value.int IntKind.i64 0, Value.int IntKind.u32 0] 25, Cl b (stk L.length (L ++ T1)) 57, R])
    refine plain_batch (rest := []) [⟨2, [], none⟩] (l' := [(5, Value.int IntKind.i64 3), (22, Value.agg #[Value.int IntKind.i64 0, Value.int IntKind.u32 0]), (0, Value.pointer (some ⟨b, 0, none⟩)), (1, Value.int IntKind.i64 z), (4, Value.pointer (some ⟨r4, 0, none⟩)), (5, Value.int IntKind.i64 0), (6, Value.bool false), (11, Value.bool true)] ++ lr22) (pts' := []) (eqs := []) (by kernel_rfl) trivial (AllC_nil _) ?_
    change Code.wp _ (CA Try.f19 [1, 0, 0, 1, 1, 1, 0, 1]) _ _ _
    refine fr_cut [(0, Value.pointer (some ⟨b, 0, none⟩)), (1, Value.int IntKind.i64 z), (4, Value.pointer (some ⟨r4, 0, none⟩)), (5, Value.int IntKind.i64 3), (6, Value.bool false), (11, Value.bool true)] ⟨rfl, rfl, rfl, rfl, rfl, rfl, trivial⟩ (fun a => Code.wp _ _ _ a _) (fun lr26 => ?_)
    refine go_rt (by kernel_rfl) ?_
    have h27 : sat g w24 [Cl b (stk L.length (L ++ T1)) 57, Cl r4 [Value.int IntKind.i64 0, Value.int IntKind.u32 0] 25, R] := sat_sel [1, 0, 2] rfl h25
    have h28 : sat g w24 [PStk b L, Cl r4 [Value.int IntKind.i64 0, Value.int IntKind.u32 0] 25, R] := sat_imp h27 (fun _ hh => ⟨T1, (by rw [List.length_append]; exact hT2), hh⟩)
    repeat (first | simp only [Exit.inBlock] | simp only [Exit.then])
    have h29 : sat g w24 [PStk b L, R] := sat_sel [0, 2] rfl h28
    refine ht_out [Value.int IntKind.i64 0, Value.int IntKind.u32 0] (Value.tuple #[Value.agg #[Value.int IntKind.i64 0, Value.int IntKind.u32 0], Value.int IntKind.i64 3]) [(⟨r4, 0, none⟩, Value.int IntKind.i64 0), (⟨r4, 1, none⟩, Value.int IntKind.u32 0)] (by kernel_rfl) (allq ⟨sat_cell h28 1 rfl rfl, sat_cell h28 1 rfl rfl, trivial⟩) ?_
    exact ⟨Value.tuple #[Value.agg #[Value.int IntKind.i64 0, Value.int IntKind.u32 0], Value.int IntKind.i64 3], [PStk b L], rfl, ⟨rfl, rfl⟩, h29⟩

theorem get_hz (b i : Nat) (L : List Rf) (r : Rf) (z : Int) (hz : z = (i : Int)) (hi : i < L.length) (hr : L[i]? = some r) : HT Try.prog 19 [Value.pointer (some ⟨b, 0, none⟩), Value.int IntKind.i64 z] [PStk b L] (fun v K => v = Value.tuple #[Value.agg #[Value.int .i64 r.1, Value.int .u32 r.2], Value.int .i64 0] ∧ K = [PStk b L]) := by
  subst hz
  exact get_ht b i L r hi hr

set_option maxHeartbeats 4000000 in
theorem drop_ht (b i : Nat) (L : List Rf) (r : Rf) (hi : i < L.length) (hr : L[i]? = some r) : HT Try.prog 15 [Value.pointer (some ⟨b, 0, none⟩), Value.int IntKind.i64 (((i : Nat) : Int))] [PStk b L] (fun v K => v = Value.tuple #[Value.agg #[Value.int .i64 r.1, Value.int .u32 r.2], Value.int .i64 0] ∧ K = [PStk b (L.eraseIdx i)]) := by
  refine ht_in 46 [(0, Value.pointer (some ⟨b, 0, none⟩)), (1, Value.int IntKind.i64 (((i : Nat) : Int)))] Try.func15 (by kernel_rfl) Try.ntmps15 rfl rfl ?_
  intro g w0 R h0
  refine go_seq (x := CA Try.f15 [0]) (y := CA Try.f15 [1]) (by kernel_rfl) ?_
  refine go_pln (id := 0) (ops := RA Try.f15 [0]) [0, 1] (by kernel_rfl) (by kernel_rfl) ?_
  refine plain_act (i := 0) (by kernel_rfl) ?_
  refine an_new (d := 4) (fun xb_ => Value.pointer (some ⟨xb_, 0, none⟩)) (fun xb_ => Obj.cells [Value.int IntKind.i64 0, Value.int IntKind.u32 0].toArray 25 (0, 0)) (fun xb_ => by kernel_rfl) (by kernel_rfl) rfl h0 ?_
  intro r1 w2 (h3 : sat g w2 [Cl r1 [Value.int IntKind.i64 0, Value.int IntKind.u32 0] 25, PStk b L, R])
  refine plain_batch (rest := []) [⟨1, [], none⟩] (l' := [(5, Value.int IntKind.i64 0), (4, Value.pointer (some ⟨r1, 0, none⟩)), (0, Value.pointer (some ⟨b, 0, none⟩)), (1, Value.int IntKind.i64 (((i : Nat) : Int)))]) (pts' := []) (eqs := []) (by kernel_rfl) trivial (AllC_nil _) ?_
  change Code.wp _ (CA Try.f15 [1]) _ _ _
  refine fr_cut [(0, Value.pointer (some ⟨b, 0, none⟩)), (1, Value.int IntKind.i64 (((i : Nat) : Int))), (4, Value.pointer (some ⟨r1, 0, none⟩)), (5, Value.int IntKind.i64 0)] ⟨rfl, rfl, rfl, rfl, trivial⟩ (fun a => Code.wp _ _ _ a _) (fun lr4 => ?_)
  refine go_seq (x := CA Try.f15 [1, 0]) (y := CA Try.f15 [1, 1]) (by kernel_rfl) ?_
  refine go_pln (id := 1) (ops := RA Try.f15 [1, 0]) [0, 1, 2, 3, 4, 5, 6, 7, 8] (by kernel_rfl) (by kernel_rfl) ?_
  refine plain_batch (rest := [2, 3, 4, 5, 6, 7, 8]) [⟨0, [], none⟩, ⟨1, [], none⟩] (l' := [(10, Value.int IntKind.i64 (((i : Nat) : Int))), (9, Value.pointer (some ⟨b, 0, none⟩)), (0, Value.pointer (some ⟨b, 0, none⟩)), (1, Value.int IntKind.i64 (((i : Nat) : Int))), (4, Value.pointer (some ⟨r1, 0, none⟩)), (5, Value.int IntKind.i64 0)] ++ lr4) (pts' := []) (eqs := []) (by kernel_rfl) trivial (AllC_nil _) ?_
  have h5 : sat g w2 [PStk b L, Cl r1 [Value.int IntKind.i64 0, Value.int IntKind.u32 0] 25, R] := sat_sel [1, 0, 2] rfl h3
  refine plain_act (i := 2) (by kernel_rfl) ?_
  refine an_call (d := some 11) (f := 19) (args := [Value.pointer (some ⟨b, 0, none⟩), Value.int IntKind.i64 (((i : Nat) : Int))]) (by kernel_rfl) Try.call19 (get_hz b i L r (((i : Nat) : Int)) (by omega) (by omega) hr) (F := [Cl r1 [Value.int IntKind.i64 0, Value.int IntKind.u32 0] 25, R]) h5 ?_
  rintro v K w6 (⟨rfl, rfl⟩) h7
  refine ⟨_, rfl, ?_⟩
  have h8 : sat g w6 [PStk b L, Cl r1 [Value.int IntKind.i64 0, Value.int IntKind.u32 0] 25, R] := h7
  refine plain_batch (rest := [6, 7, 8]) [⟨3, [], none⟩, ⟨4, [], none⟩, ⟨5, [], none⟩] (l' := [(13, Value.int IntKind.i64 0), (12, Value.agg #[Value.int IntKind.i64 r.1, Value.int IntKind.u32 r.2]), (8, Value.tuple #[Value.agg #[Value.int IntKind.i64 r.1, Value.int IntKind.u32 r.2], Value.int IntKind.i64 0]), (11, Value.tuple #[Value.agg #[Value.int IntKind.i64 r.1, Value.int IntKind.u32 r.2], Value.int IntKind.i64 0]), (10, Value.int IntKind.i64 (((i : Nat) : Int))), (9, Value.pointer (some ⟨b, 0, none⟩)), (0, Value.pointer (some ⟨b, 0, none⟩)), (1, Value.int IntKind.i64 (((i : Nat) : Int))), (4, Value.pointer (some ⟨r1, 0, none⟩)), (5, Value.int IntKind.i64 0)] ++ lr4) (pts' := []) (eqs := []) (by kernel_rfl) trivial (AllC_nil _) ?_
  refine plain_act (i := 6) (by kernel_rfl) ?_
  refine an_new (d := 6) (fun xb_ => Value.pointer (some ⟨xb_, 0, none⟩)) (fun xb_ => Obj.cells [Value.int IntKind.i64 0, Value.int IntKind.u32 0].toArray 25 (0, 0)) (fun xb_ => by kernel_rfl) (by kernel_rfl) rfl h8 ?_
  intro r9 w10 (h11 : sat g w10 [Cl r9 [Value.int IntKind.i64 0, Value.int IntKind.u32 0] 25, PStk b L, Cl r1 [Value.int IntKind.i64 0, Value.int IntKind.u32 0] 25, R])
  refine plain_act (i := 7) (by kernel_rfl) ?_
  refine an_store [(0, Value.int IntKind.i64 r.1), (1, Value.int IntKind.u32 r.2)] (cs' := [Value.int IntKind.i64 r.1, Value.int IntKind.u32 r.2]) (by kernel_rfl) (by kernel_rfl) (allq ⟨⟨by simp, rfl⟩, ⟨by simp, rfl⟩, trivial⟩) rfl h11 ?_
  intro w12 (h13 : sat g w12 [Cl r9 [Value.int IntKind.i64 r.1, Value.int IntKind.u32 r.2] 25, PStk b L, Cl r1 [Value.int IntKind.i64 0, Value.int IntKind.u32 0] 25, R])
  refine plain_batch (rest := []) [⟨8, [], none⟩] (l' := [(7, Value.int IntKind.i64 0), (6, Value.pointer (some ⟨r9, 0, none⟩)), (13, Value.int IntKind.i64 0), (12, Value.agg #[Value.int IntKind.i64 r.1, Value.int IntKind.u32 r.2]), (8, Value.tuple #[Value.agg #[Value.int IntKind.i64 r.1, Value.int IntKind.u32 r.2], Value.int IntKind.i64 0]), (11, Value.tuple #[Value.agg #[Value.int IntKind.i64 r.1, Value.int IntKind.u32 r.2], Value.int IntKind.i64 0]), (10, Value.int IntKind.i64 (((i : Nat) : Int))), (9, Value.pointer (some ⟨b, 0, none⟩)), (0, Value.pointer (some ⟨b, 0, none⟩)), (1, Value.int IntKind.i64 (((i : Nat) : Int))), (4, Value.pointer (some ⟨r1, 0, none⟩)), (5, Value.int IntKind.i64 0)] ++ lr4) (pts' := []) (eqs := []) (by kernel_rfl) trivial (AllC_nil _) ?_
  change Code.wp _ (CA Try.f15 [1, 1]) _ _ _
  refine fr_cut [(0, Value.pointer (some ⟨b, 0, none⟩)), (1, Value.int IntKind.i64 (((i : Nat) : Int))), (4, Value.pointer (some ⟨r1, 0, none⟩)), (5, Value.int IntKind.i64 0), (6, Value.pointer (some ⟨r9, 0, none⟩)), (7, Value.int IntKind.i64 0)] ⟨rfl, rfl, rfl, rfl, rfl, rfl, trivial⟩ (fun a => Code.wp _ _ _ a _) (fun lr14 => ?_)
  refine go_seq (x := CA Try.f15 [1, 1, 0]) (y := CA Try.f15 [1, 1, 1]) (by kernel_rfl) ?_
  refine go_seq (x := CA Try.f15 [1, 1, 0, 0]) (y := CA Try.f15 [1, 1, 0, 1]) (by kernel_rfl) ?_
  refine go_pln (id := 2) (ops := RA Try.f15 [1, 1, 0, 0]) [0, 1] (by kernel_rfl) (by kernel_rfl) ?_
  refine plain_batch (rest := []) [⟨0, [], none⟩, ⟨1, [], none⟩] (l' := [(15, Value.bool false), (14, Value.int IntKind.i64 0), (0, Value.pointer (some ⟨b, 0, none⟩)), (1, Value.int IntKind.i64 (((i : Nat) : Int))), (4, Value.pointer (some ⟨r1, 0, none⟩)), (5, Value.int IntKind.i64 0), (6, Value.pointer (some ⟨r9, 0, none⟩)), (7, Value.int IntKind.i64 0)] ++ lr14) (pts' := []) (eqs := []) (by kernel_rfl) trivial (AllC_nil _) ?_
  change Code.wp _ (CA Try.f15 [1, 1, 0, 1]) _ _ _
  refine fr_cut [(0, Value.pointer (some ⟨b, 0, none⟩)), (1, Value.int IntKind.i64 (((i : Nat) : Int))), (4, Value.pointer (some ⟨r1, 0, none⟩)), (5, Value.int IntKind.i64 0), (6, Value.pointer (some ⟨r9, 0, none⟩)), (7, Value.int IntKind.i64 0), (15, Value.bool false)] ⟨rfl, rfl, rfl, rfl, rfl, rfl, rfl, trivial⟩ (fun a => Code.wp _ _ _ a _) (fun lr15 => ?_)
  refine go_cnd (x := (Operand.tmp 15)) (s := CA Try.f15 [1, 1, 0, 1, 0]) (t := CA Try.f15 [1, 1, 0, 1, 1]) false (by kernel_rfl) (by kernel_rfl) ?_
  change Code.wp _ (CA Try.f15 [1, 1, 0, 1, 1]) _ _ _
  refine go_skp (by kernel_rfl) ?_
  change Code.wp _ (CA Try.f15 [1, 1, 1]) _ _ _
  refine go_seq (x := CA Try.f15 [1, 1, 1, 0]) (y := CA Try.f15 [1, 1, 1, 1]) (by kernel_rfl) ?_
  have h18 : sat g w12 [PStk b L, Cl r9 [Value.int IntKind.i64 r.1, Value.int IntKind.u32 r.2] 25, Cl r1 [Value.int IntKind.i64 0, Value.int IntKind.u32 0] 25, R] := sat_sel [1, 0, 2, 3] rfl h13
  obtain ⟨T16, hT17, h19⟩ := sat_open (X := List Rf) (p := fun T => (L ++ T).length = 32) (B := fun T => Cl b (stk L.length (L ++ T)) 57) h18 (fun _ hh => hh)
  rw [List.length_append] at hT17
  refine go_drw (id := 4) (ops := RA Try.f15 [1, 1, 1, 0]) (Tr.fl 0 (Tr.fl 1 (Tr.fl 2 (Tr.fl 3 (Tr.fl 4 (Tr.fl 5 (Tr.fl 6 (Tr.fl 7 (Tr.fl 8 (Tr.fl 9 (Tr.fl 10 (Tr.fl 11 (Tr.fl 12 (Tr.fl 13 (Tr.fl 14 (Tr.fl 15 (Tr.fl 16 (Tr.fl 17 (Tr.fl 18 (Tr.an 19 Tr.nil)))))))))))))))))))) (by kernel_rfl) (by kernel_rfl) (by kernel_rfl) (by kernel_rfl) (fun _ _ d _ _ h => by cases d <;> exact h) h19 ?_
  intro w20 h21
  refine draw_batch (t := (Tr.fl 8 (Tr.fl 9 (Tr.fl 10 (Tr.fl 11 (Tr.fl 12 (Tr.fl 13 (Tr.fl 14 (Tr.fl 15 (Tr.fl 16 (Tr.fl 17 (Tr.fl 18 (Tr.an 19 Tr.nil))))))))))))) [⟨0, [], none⟩, ⟨1, [], none⟩, ⟨2, [], none⟩, ⟨3, [], none⟩, ⟨4, [], none⟩, ⟨5, [], none⟩, ⟨6, [], none⟩, ⟨7, [Value.int IntKind.i64 (((L.length : Nat) : Int))], none⟩] (l' := [(25, Value.int IntKind.i64 (((L.length : Nat) : Int))), (24, Value.pointer (some ⟨b, 1, none⟩)), (23, Value.pointer (some ⟨b, 0, none⟩)), (22, Value.pointer (some ⟨b, 0, none⟩)), (21, Value.int IntKind.i64 (((i : Nat) : Int))), (20, Value.pointer (some ⟨b, 2, none⟩)), (19, Value.pointer (some ⟨b, 0, none⟩)), (18, Value.pointer (some ⟨b, 0, none⟩)), (0, Value.pointer (some ⟨b, 0, none⟩)), (1, Value.int IntKind.i64 (((i : Nat) : Int))), (4, Value.pointer (some ⟨r1, 0, none⟩)), (5, Value.int IntKind.i64 0), (6, Value.pointer (some ⟨r9, 0, none⟩)), (7, Value.int IntKind.i64 0), (15, Value.bool false)] ++ lr15) (pts' := [(7, ⟨b, 1, none⟩, Value.int IntKind.i64 (((L.length : Nat) : Int)))]) (eqs := []) (by kernel_rfl) trivial (AllC_cons (sat_cell h21 0 rfl rfl) (AllC_nil _)) ?_
  refine draw_law (i := 8) 26 (Value.slice (some ⟨b, i * 2 + 2, none⟩) (L.length - i) (32 - i)) [] (by kernel_rfl) (fun _ _ => law_sliceArr (o := opA (RA Try.f15 [1, 1, 1, 0]) 8) (x := (Operand.tmp 20)) (lo := (some (Operand.tmp 21))) (hi := (some (Operand.tmp 25))) (b := b) (off := 2) (by kernel_rfl) Try.underlying55 2 (by kernel_rfl) (((i : Nat) : Int)) (((L.length : Nat) : Int)) i L.length (by kernel_rfl) (show fe _ _ (Operand.tmp 21) = _ from by kernel_rfl) (show fe _ _ (Operand.tmp 25) = _ from by kernel_rfl) (by omega) (by omega) (by omega) (by omega) (i * 2 + 2) ((if_neg (by omega)).trans (by omega)) (L.length - i) (32 - i) (by omega) (by omega) _) (by intro q hq; cases hq) ?_
  refine draw_batch (t := (Tr.fl 18 (Tr.an 19 Tr.nil))) [⟨9, [], none⟩, ⟨10, [], none⟩, ⟨11, [], none⟩, ⟨12, [], none⟩, ⟨13, [], some (Value.int IntKind.i64 (((i : Nat) : Int) + 1))⟩, ⟨14, [], none⟩, ⟨15, [], none⟩, ⟨16, [], none⟩, ⟨17, [Value.int IntKind.i64 (((L.length : Nat) : Int))], none⟩] (l' := [(35, Value.int IntKind.i64 (((L.length : Nat) : Int))), (34, Value.pointer (some ⟨b, 1, none⟩)), (33, Value.pointer (some ⟨b, 0, none⟩)), (32, Value.pointer (some ⟨b, 0, none⟩)), (31, Value.int IntKind.i64 (((i : Nat) : Int) + 1)), (30, Value.int IntKind.i64 (((i : Nat) : Int))), (29, Value.pointer (some ⟨b, 2, none⟩)), (28, Value.pointer (some ⟨b, 0, none⟩)), (27, Value.pointer (some ⟨b, 0, none⟩)), (26, Value.slice (some ⟨b, i * 2 + 2, none⟩) (L.length - i) (32 - i)), (25, Value.int IntKind.i64 (((L.length : Nat) : Int))), (24, Value.pointer (some ⟨b, 1, none⟩)), (23, Value.pointer (some ⟨b, 0, none⟩)), (22, Value.pointer (some ⟨b, 0, none⟩)), (21, Value.int IntKind.i64 (((i : Nat) : Int))), (20, Value.pointer (some ⟨b, 2, none⟩)), (19, Value.pointer (some ⟨b, 0, none⟩)), (18, Value.pointer (some ⟨b, 0, none⟩)), (0, Value.pointer (some ⟨b, 0, none⟩)), (1, Value.int IntKind.i64 (((i : Nat) : Int))), (4, Value.pointer (some ⟨r1, 0, none⟩)), (5, Value.int IntKind.i64 0), (6, Value.pointer (some ⟨r9, 0, none⟩)), (7, Value.int IntKind.i64 0), (15, Value.bool false)] ++ lr15) (pts' := [(17, ⟨b, 1, none⟩, Value.int IntKind.i64 (((L.length : Nat) : Int)))]) (eqs := [(Value.int IntKind.i64 (IntKind.wrap IntKind.i64 ((((i : Nat) : Int)) + 1)), Value.int IntKind.i64 (((i : Nat) : Int) + 1))]) (by kernel_rfl) ⟨(ov_i64 (by omega) (by omega) (by omega)), trivial⟩ (AllC_cons (sat_cell h21 0 rfl rfl) (AllC_nil _)) ?_
  refine draw_law (i := 18) 36 (Value.slice (some ⟨b, (if 32 = i + 1 then 2 else i * 2 + 4), none⟩) (L.length - i - 1) (31 - i)) [] (by kernel_rfl) (fun _ _ => law_sliceArr (o := opA (RA Try.f15 [1, 1, 1, 0]) 18) (x := (Operand.tmp 29)) (lo := (some (Operand.tmp 31))) (hi := (some (Operand.tmp 35))) (b := b) (off := 2) (by kernel_rfl) Try.underlying55 2 (by kernel_rfl) (((i : Nat) : Int) + 1) (((L.length : Nat) : Int)) (i + 1) L.length (by kernel_rfl) (show fe _ _ (Operand.tmp 31) = _ from by kernel_rfl) (show fe _ _ (Operand.tmp 35) = _ from by kernel_rfl) (by omega) (by omega) (by omega) (by omega) ((if 32 = i + 1 then 2 else i * 2 + 4)) (ite_r (by omega)) (L.length - i - 1) (31 - i) (by omega) (by omega) _) (by intro q hq; cases hq) ?_
  refine draw_act (i := 19) [(17, ⟨b, 1, none⟩, Value.int IntKind.i64 (((L.length : Nat) : Int))), (7, ⟨b, 1, none⟩, Value.int IntKind.i64 (((L.length : Nat) : Int)))] (by kernel_rfl) (by kernel_rfl) ?_
  refine an_copy (d := 37) (x := (Operand.tmp 26)) (y := (Operand.tmp 36)) (o1 := (i * 2 + 2)) (n1 := (L.length - i)) (c1 := (32 - i)) (o2 := ((if 32 = i + 1 then 2 else i * 2 + 4))) (n2 := (L.length - i - 1)) (c2 := (31 - i)) (by kernel_rfl) (by kernel_rfl) rfl Try.underlying28 (by kernel_rfl) h21 (by kernel_rfl) (by kernel_rfl) (L.length - (i + 1)) (by show min _ _ = _; omega) (flat (L.drop (i + 1))) (by rw [flat_len, List.length_drop]) (drop_cells _ T16) (flat_one _) (by rw [flat_len, stk_len, List.length_drop, List.length_append]; omega) ?_
  intro w22 h24
  rw [stk_drop _ hi T16] at h24
  have h23 : sat g w22 [Cl b (stk L.length (L.eraseIdx i ++ (L.drop (L.length - 1) ++ T16))) 57, Cl r9 [Value.int IntKind.i64 r.1, Value.int IntKind.u32 r.2] 25, Cl r1 [Value.int IntKind.i64 0, Value.int IntKind.u32 0] 25, R] := h24
  refine ⟨(AllC_cons (sat_cell h23 0 rfl rfl) (AllC_cons (sat_cell h23 0 rfl rfl) (AllC_nil _))), ?_⟩
  rw [show ((L.length - (i + 1) : Nat) : Int) = (L.length : Int) - (i : Int) - 1 from by omega]
  change Code.wp _ (CA Try.f15 [1, 1, 1, 1]) _ _ _
  refine fr_cut [(0, Value.pointer (some ⟨b, 0, none⟩)), (1, Value.int IntKind.i64 (((i : Nat) : Int))), (4, Value.pointer (some ⟨r1, 0, none⟩)), (5, Value.int IntKind.i64 0), (6, Value.pointer (some ⟨r9, 0, none⟩)), (7, Value.int IntKind.i64 0), (15, Value.bool false)] ⟨rfl, rfl, rfl, rfl, rfl, rfl, rfl, trivial⟩ (fun a => Code.wp _ _ _ a _) (fun lr25 => ?_)
  refine go_seq (x := CA Try.f15 [1, 1, 1, 1, 0]) (y := CA Try.f15 [1, 1, 1, 1, 1]) (by kernel_rfl) ?_
  refine go_pln (id := 5) (ops := RA Try.f15 [1, 1, 1, 1, 0]) [0, 1, 2, 3, 4, 5, 6, 7] (by kernel_rfl) (by kernel_rfl) ?_
  refine plain_batch (rest := [7]) [⟨0, [], none⟩, ⟨1, [], none⟩, ⟨2, [], none⟩, ⟨3, [Value.int IntKind.i64 (((L.length : Nat) : Int))], none⟩, ⟨4, [], some (Value.int IntKind.i64 (((L.length : Nat) : Int) - 1))⟩, ⟨5, [], none⟩, ⟨6, [], none⟩] (l' := [(44, Value.pointer (some ⟨b, 1, none⟩)), (43, Value.pointer (some ⟨b, 0, none⟩)), (42, Value.int IntKind.i64 (((L.length : Nat) : Int) - 1)), (41, Value.int IntKind.i64 (((L.length : Nat) : Int))), (40, Value.pointer (some ⟨b, 1, none⟩)), (39, Value.pointer (some ⟨b, 0, none⟩)), (38, Value.pointer (some ⟨b, 0, none⟩)), (0, Value.pointer (some ⟨b, 0, none⟩)), (1, Value.int IntKind.i64 (((i : Nat) : Int))), (4, Value.pointer (some ⟨r1, 0, none⟩)), (5, Value.int IntKind.i64 0), (6, Value.pointer (some ⟨r9, 0, none⟩)), (7, Value.int IntKind.i64 0), (15, Value.bool false)] ++ lr25) (pts' := [(3, ⟨b, 1, none⟩, Value.int IntKind.i64 (((L.length : Nat) : Int)))]) (eqs := [(Value.int IntKind.i64 (IntKind.wrap IntKind.i64 ((((L.length : Nat) : Int)) - 1)), Value.int IntKind.i64 (((L.length : Nat) : Int) - 1))]) (by kernel_rfl) ⟨(ov_i64 (by omega) (by omega) (by omega)), trivial⟩ (AllC_cons (sat_cell h23 0 rfl rfl) (AllC_nil _)) ?_
  refine plain_act (i := 7) (by kernel_rfl) ?_
  refine an_store [(1, Value.int IntKind.i64 (((L.length : Nat) : Int) - 1))] (cs' := (stk (L.length - 1) (L.eraseIdx i ++ (L.drop (L.length - 1) ++ T16)))) (by kernel_rfl) (by kernel_rfl) (allq ⟨⟨by rw [stk_len]; omega, rfl⟩, trivial⟩) (stk_num _ (L.length - 1) _ _ (by omega)) h23 ?_
  intro w26 (h27 : sat g w26 [Cl b (stk (L.length - 1) (L.eraseIdx i ++ (L.drop (L.length - 1) ++ T16))) 57, Cl r9 [Value.int IntKind.i64 r.1, Value.int IntKind.u32 r.2] 25, Cl r1 [Value.int IntKind.i64 0, Value.int IntKind.u32 0] 25, R])
  change Code.wp _ (CA Try.f15 [1, 1, 1, 1, 1]) _ _ _
  refine fr_cut [(0, Value.pointer (some ⟨b, 0, none⟩)), (1, Value.int IntKind.i64 (((i : Nat) : Int))), (4, Value.pointer (some ⟨r1, 0, none⟩)), (5, Value.int IntKind.i64 0), (6, Value.pointer (some ⟨r9, 0, none⟩)), (7, Value.int IntKind.i64 0), (15, Value.bool false)] ⟨rfl, rfl, rfl, rfl, rfl, rfl, rfl, trivial⟩ (fun a => Code.wp _ _ _ a _) (fun lr28 => ?_)
  refine go_seq (x := CA Try.f15 [1, 1, 1, 1, 1, 0]) (y := CA Try.f15 [1, 1, 1, 1, 1, 1]) (by kernel_rfl) ?_
  refine go_pln (id := 6) (ops := RA Try.f15 [1, 1, 1, 1, 1, 0]) [0, 1, 2] (by kernel_rfl) (by kernel_rfl) ?_
  refine plain_batch (rest := [1, 2]) [⟨0, [Value.int IntKind.i64 r.1, Value.int IntKind.u32 r.2], none⟩] (l' := [(45, Value.agg #[Value.int IntKind.i64 r.1, Value.int IntKind.u32 r.2]), (0, Value.pointer (some ⟨b, 0, none⟩)), (1, Value.int IntKind.i64 (((i : Nat) : Int))), (4, Value.pointer (some ⟨r1, 0, none⟩)), (5, Value.int IntKind.i64 0), (6, Value.pointer (some ⟨r9, 0, none⟩)), (7, Value.int IntKind.i64 0), (15, Value.bool false)] ++ lr28) (pts' := [(0, ⟨r9, 0, none⟩, Value.int IntKind.i64 r.1), (0, ⟨r9, 1, none⟩, Value.int IntKind.u32 r.2)]) (eqs := []) (by kernel_rfl) trivial (AllC_cons (sat_cell h27 1 rfl rfl) (AllC_cons (sat_cell h27 1 rfl rfl) (AllC_nil _))) ?_
  have h29 : sat g w26 [Cl r1 [Value.int IntKind.i64 0, Value.int IntKind.u32 0] 25, Cl b (stk (L.length - 1) (L.eraseIdx i ++ (L.drop (L.length - 1) ++ T16))) 57, Cl r9 [Value.int IntKind.i64 r.1, Value.int IntKind.u32 r.2] 25, R] := sat_sel [2, 0, 1, 3] rfl h27
  refine plain_act (i := 1) (by kernel_rfl) ?_
  refine an_store [(0, Value.int IntKind.i64 r.1), (1, Value.int IntKind.u32 r.2)] (cs' := [Value.int IntKind.i64 r.1, Value.int IntKind.u32 r.2]) (by kernel_rfl) (by kernel_rfl) (allq ⟨⟨by simp, rfl⟩, ⟨by simp, rfl⟩, trivial⟩) rfl h29 ?_
  intro w30 (h31 : sat g w30 [Cl r1 [Value.int IntKind.i64 r.1, Value.int IntKind.u32 r.2] 25, Cl b (stk (L.length - 1) (L.eraseIdx i ++ (L.drop (L.length - 1) ++ T16))) 57, Cl r9 [Value.int IntKind.i64 r.1, Value.int IntKind.u32 r.2] 25, R])
  refine plain_batch (rest := []) [⟨2, [], none⟩] (l' := [(5, Value.int IntKind.i64 0), (45, Value.agg #[Value.int IntKind.i64 r.1, Value.int IntKind.u32 r.2]), (0, Value.pointer (some ⟨b, 0, none⟩)), (1, Value.int IntKind.i64 (((i : Nat) : Int))), (4, Value.pointer (some ⟨r1, 0, none⟩)), (5, Value.int IntKind.i64 0), (6, Value.pointer (some ⟨r9, 0, none⟩)), (7, Value.int IntKind.i64 0), (15, Value.bool false)] ++ lr28) (pts' := []) (eqs := []) (by kernel_rfl) trivial (AllC_nil _) ?_
  change Code.wp _ (CA Try.f15 [1, 1, 1, 1, 1, 1]) _ _ _
  refine fr_cut [(0, Value.pointer (some ⟨b, 0, none⟩)), (1, Value.int IntKind.i64 (((i : Nat) : Int))), (4, Value.pointer (some ⟨r1, 0, none⟩)), (5, Value.int IntKind.i64 0), (6, Value.pointer (some ⟨r9, 0, none⟩)), (7, Value.int IntKind.i64 0), (15, Value.bool false)] ⟨rfl, rfl, rfl, rfl, rfl, rfl, rfl, trivial⟩ (fun a => Code.wp _ _ _ a _) (fun lr32 => ?_)
  refine go_rt (by kernel_rfl) ?_
  have h33 : sat g w30 [Cl b (stk (L.length - 1) (L.eraseIdx i ++ (L.drop (L.length - 1) ++ T16))) 57, Cl r1 [Value.int IntKind.i64 r.1, Value.int IntKind.u32 r.2] 25, Cl r9 [Value.int IntKind.i64 r.1, Value.int IntKind.u32 r.2] 25, R] := sat_sel [1, 0, 2, 3] rfl h31
  have h34 : sat g w30 [PStk b (L.eraseIdx i), Cl r1 [Value.int IntKind.i64 r.1, Value.int IntKind.u32 r.2] 25, Cl r9 [Value.int IntKind.i64 r.1, Value.int IntKind.u32 r.2] 25, R] := sat_imp h33 (fun _ hh => ⟨L.drop (L.length - 1) ++ T16, by rw [List.length_append, List.length_eraseIdx_of_lt hi, List.length_append, List.length_drop]; omega, by rw [List.length_eraseIdx_of_lt hi]; exact hh⟩)
  repeat (first | simp only [Exit.inBlock] | simp only [Exit.then])
  have h35 : sat g w30 [PStk b (L.eraseIdx i), R] := sat_sel [0, 3] rfl h34
  refine ht_out [Value.int IntKind.i64 r.1, Value.int IntKind.u32 r.2] (Value.tuple #[Value.agg #[Value.int IntKind.i64 r.1, Value.int IntKind.u32 r.2], Value.int IntKind.i64 0]) [(⟨r1, 0, none⟩, Value.int IntKind.i64 r.1), (⟨r1, 1, none⟩, Value.int IntKind.u32 r.2)] (by kernel_rfl) (allq ⟨sat_cell h34 1 rfl rfl, sat_cell h34 1 rfl rfl, trivial⟩) ?_
  exact ⟨Value.tuple #[Value.agg #[Value.int IntKind.i64 r.1, Value.int IntKind.u32 r.2], Value.int IntKind.i64 0], [PStk b (L.eraseIdx i)], rfl, ⟨rfl, rfl⟩, h35⟩

set_option maxHeartbeats 4000000 in
theorem drop_out (b : Nat) (z : Int) (L : List Rf) (hi : z < 0 ∨ (L.length : Int) ≤ z) : HT Try.prog 15 [Value.pointer (some ⟨b, 0, none⟩), Value.int IntKind.i64 z] [PStk b L] (fun v K => v = Value.tuple #[Value.agg #[Value.int .i64 0, Value.int .u32 0], Value.int .i64 3] ∧ K = [PStk b L]) := by
  refine ht_in 46 [(0, Value.pointer (some ⟨b, 0, none⟩)), (1, Value.int IntKind.i64 z)] Try.func15 (by kernel_rfl) Try.ntmps15 rfl rfl ?_
  intro g w0 R h0
  refine go_seq (x := CA Try.f15 [0]) (y := CA Try.f15 [1]) (by kernel_rfl) ?_
  refine go_pln (id := 0) (ops := RA Try.f15 [0]) [0, 1] (by kernel_rfl) (by kernel_rfl) ?_
  refine plain_act (i := 0) (by kernel_rfl) ?_
  refine an_new (d := 4) (fun xb_ => Value.pointer (some ⟨xb_, 0, none⟩)) (fun xb_ => Obj.cells [Value.int IntKind.i64 0, Value.int IntKind.u32 0].toArray 25 (0, 0)) (fun xb_ => by kernel_rfl) (by kernel_rfl) rfl h0 ?_
  intro r1 w2 (h3 : sat g w2 [Cl r1 [Value.int IntKind.i64 0, Value.int IntKind.u32 0] 25, PStk b L, R])
  refine plain_batch (rest := []) [⟨1, [], none⟩] (l' := [(5, Value.int IntKind.i64 0), (4, Value.pointer (some ⟨r1, 0, none⟩)), (0, Value.pointer (some ⟨b, 0, none⟩)), (1, Value.int IntKind.i64 z)]) (pts' := []) (eqs := []) (by kernel_rfl) trivial (AllC_nil _) ?_
  change Code.wp _ (CA Try.f15 [1]) _ _ _
  refine fr_cut [(0, Value.pointer (some ⟨b, 0, none⟩)), (1, Value.int IntKind.i64 z), (4, Value.pointer (some ⟨r1, 0, none⟩)), (5, Value.int IntKind.i64 0)] ⟨rfl, rfl, rfl, rfl, trivial⟩ (fun a => Code.wp _ _ _ a _) (fun lr4 => ?_)
  refine go_seq (x := CA Try.f15 [1, 0]) (y := CA Try.f15 [1, 1]) (by kernel_rfl) ?_
  refine go_pln (id := 1) (ops := RA Try.f15 [1, 0]) [0, 1, 2, 3, 4, 5, 6, 7, 8] (by kernel_rfl) (by kernel_rfl) ?_
  refine plain_batch (rest := [2, 3, 4, 5, 6, 7, 8]) [⟨0, [], none⟩, ⟨1, [], none⟩] (l' := [(10, Value.int IntKind.i64 z), (9, Value.pointer (some ⟨b, 0, none⟩)), (0, Value.pointer (some ⟨b, 0, none⟩)), (1, Value.int IntKind.i64 z), (4, Value.pointer (some ⟨r1, 0, none⟩)), (5, Value.int IntKind.i64 0)] ++ lr4) (pts' := []) (eqs := []) (by kernel_rfl) trivial (AllC_nil _) ?_
  have h5 : sat g w2 [PStk b L, Cl r1 [Value.int IntKind.i64 0, Value.int IntKind.u32 0] 25, R] := sat_sel [1, 0, 2] rfl h3
  refine plain_act (i := 2) (by kernel_rfl) ?_
  refine an_call (d := some 11) (f := 19) (args := [Value.pointer (some ⟨b, 0, none⟩), Value.int IntKind.i64 z]) (by kernel_rfl) Try.call19 (get_out b z L (by omega)) (F := [Cl r1 [Value.int IntKind.i64 0, Value.int IntKind.u32 0] 25, R]) h5 ?_
  rintro v K w6 (⟨rfl, rfl⟩) h7
  refine ⟨_, rfl, ?_⟩
  have h8 : sat g w6 [PStk b L, Cl r1 [Value.int IntKind.i64 0, Value.int IntKind.u32 0] 25, R] := h7
  refine plain_batch (rest := [6, 7, 8]) [⟨3, [], none⟩, ⟨4, [], none⟩, ⟨5, [], none⟩] (l' := [(13, Value.int IntKind.i64 3), (12, Value.agg #[Value.int IntKind.i64 0, Value.int IntKind.u32 0]), (8, Value.tuple #[Value.agg #[Value.int IntKind.i64 0, Value.int IntKind.u32 0], Value.int IntKind.i64 3]), (11, Value.tuple #[Value.agg #[Value.int IntKind.i64 0, Value.int IntKind.u32 0], Value.int IntKind.i64 3]), (10, Value.int IntKind.i64 z), (9, Value.pointer (some ⟨b, 0, none⟩)), (0, Value.pointer (some ⟨b, 0, none⟩)), (1, Value.int IntKind.i64 z), (4, Value.pointer (some ⟨r1, 0, none⟩)), (5, Value.int IntKind.i64 0)] ++ lr4) (pts' := []) (eqs := []) (by kernel_rfl) trivial (AllC_nil _) ?_
  refine plain_act (i := 6) (by kernel_rfl) ?_
  refine an_new (d := 6) (fun xb_ => Value.pointer (some ⟨xb_, 0, none⟩)) (fun xb_ => Obj.cells [Value.int IntKind.i64 0, Value.int IntKind.u32 0].toArray 25 (0, 0)) (fun xb_ => by kernel_rfl) (by kernel_rfl) rfl h8 ?_
  intro r9 w10 (h11 : sat g w10 [Cl r9 [Value.int IntKind.i64 0, Value.int IntKind.u32 0] 25, PStk b L, Cl r1 [Value.int IntKind.i64 0, Value.int IntKind.u32 0] 25, R])
  refine plain_act (i := 7) (by kernel_rfl) ?_
  refine an_store [(0, Value.int IntKind.i64 0), (1, Value.int IntKind.u32 0)] (cs' := [Value.int IntKind.i64 0, Value.int IntKind.u32 0]) (by kernel_rfl) (by kernel_rfl) (allq ⟨⟨by simp, rfl⟩, ⟨by simp, rfl⟩, trivial⟩) rfl h11 ?_
  intro w12 (h13 : sat g w12 [Cl r9 [Value.int IntKind.i64 0, Value.int IntKind.u32 0] 25, PStk b L, Cl r1 [Value.int IntKind.i64 0, Value.int IntKind.u32 0] 25, R])
  refine plain_batch (rest := []) [⟨8, [], none⟩] (l' := [(7, Value.int IntKind.i64 3), (6, Value.pointer (some ⟨r9, 0, none⟩)), (13, Value.int IntKind.i64 3), (12, Value.agg #[Value.int IntKind.i64 0, Value.int IntKind.u32 0]), (8, Value.tuple #[Value.agg #[Value.int IntKind.i64 0, Value.int IntKind.u32 0], Value.int IntKind.i64 3]), (11, Value.tuple #[Value.agg #[Value.int IntKind.i64 0, Value.int IntKind.u32 0], Value.int IntKind.i64 3]), (10, Value.int IntKind.i64 z), (9, Value.pointer (some ⟨b, 0, none⟩)), (0, Value.pointer (some ⟨b, 0, none⟩)), (1, Value.int IntKind.i64 z), (4, Value.pointer (some ⟨r1, 0, none⟩)), (5, Value.int IntKind.i64 0)] ++ lr4) (pts' := []) (eqs := []) (by kernel_rfl) trivial (AllC_nil _) ?_
  change Code.wp _ (CA Try.f15 [1, 1]) _ _ _
  refine fr_cut [(0, Value.pointer (some ⟨b, 0, none⟩)), (1, Value.int IntKind.i64 z), (4, Value.pointer (some ⟨r1, 0, none⟩)), (5, Value.int IntKind.i64 0), (6, Value.pointer (some ⟨r9, 0, none⟩)), (7, Value.int IntKind.i64 3)] ⟨rfl, rfl, rfl, rfl, rfl, rfl, trivial⟩ (fun a => Code.wp _ _ _ a _) (fun lr14 => ?_)
  refine go_seq (x := CA Try.f15 [1, 1, 0]) (y := CA Try.f15 [1, 1, 1]) (by kernel_rfl) ?_
  refine go_seq (x := CA Try.f15 [1, 1, 0, 0]) (y := CA Try.f15 [1, 1, 0, 1]) (by kernel_rfl) ?_
  refine go_pln (id := 2) (ops := RA Try.f15 [1, 1, 0, 0]) [0, 1] (by kernel_rfl) (by kernel_rfl) ?_
  refine plain_batch (rest := []) [⟨0, [], none⟩, ⟨1, [], none⟩] (l' := [(15, Value.bool true), (14, Value.int IntKind.i64 3), (0, Value.pointer (some ⟨b, 0, none⟩)), (1, Value.int IntKind.i64 z), (4, Value.pointer (some ⟨r1, 0, none⟩)), (5, Value.int IntKind.i64 0), (6, Value.pointer (some ⟨r9, 0, none⟩)), (7, Value.int IntKind.i64 3)] ++ lr14) (pts' := []) (eqs := []) (by kernel_rfl) trivial (AllC_nil _) ?_
  change Code.wp _ (CA Try.f15 [1, 1, 0, 1]) _ _ _
  refine fr_cut [(0, Value.pointer (some ⟨b, 0, none⟩)), (1, Value.int IntKind.i64 z), (4, Value.pointer (some ⟨r1, 0, none⟩)), (5, Value.int IntKind.i64 0), (6, Value.pointer (some ⟨r9, 0, none⟩)), (7, Value.int IntKind.i64 3), (15, Value.bool true)] ⟨rfl, rfl, rfl, rfl, rfl, rfl, rfl, trivial⟩ (fun a => Code.wp _ _ _ a _) (fun lr15 => ?_)
  refine go_cnd (x := (Operand.tmp 15)) (s := CA Try.f15 [1, 1, 0, 1, 0]) (t := CA Try.f15 [1, 1, 0, 1, 1]) true (by kernel_rfl) (by kernel_rfl) ?_
  change Code.wp _ (CA Try.f15 [1, 1, 0, 1, 0]) _ _ _
  refine go_seq (x := CA Try.f15 [1, 1, 0, 1, 0, 0]) (y := CA Try.f15 [1, 1, 0, 1, 0, 1]) (by kernel_rfl) ?_
  refine go_pln (id := 3) (ops := RA Try.f15 [1, 1, 0, 1, 0, 0]) [0, 1, 2, 3] (by kernel_rfl) (by kernel_rfl) ?_
  refine plain_batch (rest := [2, 3]) [⟨0, [], none⟩, ⟨1, [], none⟩] (l' := [(17, Value.int IntKind.i64 3), (16, Value.agg #[Value.int IntKind.i64 0, Value.int IntKind.u32 0]), (0, Value.pointer (some ⟨b, 0, none⟩)), (1, Value.int IntKind.i64 z), (4, Value.pointer (some ⟨r1, 0, none⟩)), (5, Value.int IntKind.i64 0), (6, Value.pointer (some ⟨r9, 0, none⟩)), (7, Value.int IntKind.i64 3), (15, Value.bool true)] ++ lr15) (pts' := []) (eqs := []) (by kernel_rfl) trivial (AllC_nil _) ?_
  have h16 : sat g w12 [Cl r1 [Value.int IntKind.i64 0, Value.int IntKind.u32 0] 25, Cl r9 [Value.int IntKind.i64 0, Value.int IntKind.u32 0] 25, PStk b L, R] := sat_sel [2, 0, 1, 3] rfl h13
  refine plain_act (i := 2) (by kernel_rfl) ?_
  refine an_store [(0, Value.int IntKind.i64 0), (1, Value.int IntKind.u32 0)] (cs' := [Value.int IntKind.i64 0, Value.int IntKind.u32 0]) (by kernel_rfl) (by kernel_rfl) (allq ⟨⟨by simp, rfl⟩, ⟨by simp, rfl⟩, trivial⟩) rfl h16 ?_
  intro w17 (h18 : sat g w17 [Cl r1 [Value.int IntKind.i64 0, Value.int IntKind.u32 0] 25, Cl r9 [Value.int IntKind.i64 0, Value.int IntKind.u32 0] 25, PStk b L, R])
  refine plain_batch (rest := []) [⟨3, [], none⟩] (l' := [(5, Value.int IntKind.i64 3), (17, Value.int IntKind.i64 3), (16, Value.agg #[Value.int IntKind.i64 0, Value.int IntKind.u32 0]), (0, Value.pointer (some ⟨b, 0, none⟩)), (1, Value.int IntKind.i64 z), (4, Value.pointer (some ⟨r1, 0, none⟩)), (5, Value.int IntKind.i64 0), (6, Value.pointer (some ⟨r9, 0, none⟩)), (7, Value.int IntKind.i64 3), (15, Value.bool true)] ++ lr15) (pts' := []) (eqs := []) (by kernel_rfl) trivial (AllC_nil _) ?_
  change Code.wp _ (CA Try.f15 [1, 1, 0, 1, 0, 1]) _ _ _
  refine fr_cut [(0, Value.pointer (some ⟨b, 0, none⟩)), (1, Value.int IntKind.i64 z), (4, Value.pointer (some ⟨r1, 0, none⟩)), (5, Value.int IntKind.i64 3), (6, Value.pointer (some ⟨r9, 0, none⟩)), (7, Value.int IntKind.i64 3), (15, Value.bool true)] ⟨rfl, rfl, rfl, rfl, rfl, rfl, rfl, trivial⟩ (fun a => Code.wp _ _ _ a _) (fun lr19 => ?_)
  refine go_rt (by kernel_rfl) ?_
  repeat (first | simp only [Exit.inBlock] | simp only [Exit.then])
  have h20 : sat g w17 [PStk b L, Cl r1 [Value.int IntKind.i64 0, Value.int IntKind.u32 0] 25, Cl r9 [Value.int IntKind.i64 0, Value.int IntKind.u32 0] 25, R] := sat_sel [2, 0, 1, 3] rfl h18
  have h21 : sat g w17 [PStk b L, R] := sat_sel [0, 3] rfl h20
  refine ht_out [Value.int IntKind.i64 0, Value.int IntKind.u32 0] (Value.tuple #[Value.agg #[Value.int IntKind.i64 0, Value.int IntKind.u32 0], Value.int IntKind.i64 3]) [(⟨r1, 0, none⟩, Value.int IntKind.i64 0), (⟨r1, 1, none⟩, Value.int IntKind.u32 0)] (by kernel_rfl) (allq ⟨sat_cell h18 0 rfl rfl, sat_cell h18 0 rfl rfl, trivial⟩) ?_
  exact ⟨Value.tuple #[Value.agg #[Value.int IntKind.i64 0, Value.int IntKind.u32 0], Value.int IntKind.i64 3], [PStk b L], rfl, ⟨rfl, rfl⟩, h21⟩

theorem drop_hz (b i : Nat) (L : List Rf) (r : Rf) (z : Int) (hz : z = (i : Int)) (hi : i < L.length) (hr : L[i]? = some r) : HT Try.prog 15 [Value.pointer (some ⟨b, 0, none⟩), Value.int IntKind.i64 z] [PStk b L] (fun v K => v = Value.tuple #[Value.agg #[Value.int .i64 r.1, Value.int .u32 r.2], Value.int .i64 0] ∧ K = [PStk b (L.eraseIdx i)]) := by
  subst hz
  exact drop_ht b i L r hi hr

end Go.Proofs.Ytafencnieimpnaa
