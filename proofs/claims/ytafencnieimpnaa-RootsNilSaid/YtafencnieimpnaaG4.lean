/- Walks, printed by my generator gen5.py. -/
import Derived.Test.YtafencnieimpnaaRtsB
import Derived.Test.YtafencnieimpnaaG1
import Derived.Test.YtafencnieimpnaaG2
import Derived.Test.YtafencnieimpnaaG3
namespace Go.Proofs.Ytafencnieimpnaa
set_option maxHeartbeats 4000000 in
theorem push_arg (b : Nat) (L : List Rf) (s gn : Int) (hs : s < 0 ∨ 256 ≤ s ∨ gn = 0) : HT Try.prog 18 [Value.pointer (some ⟨b, 0, none⟩), Value.agg #[Value.int IntKind.i64 s, Value.int IntKind.u32 gn]] [PStk b L] (fun v K => v = Value.tuple #[Value.int .i64 0, Value.int .i64 2] ∧ K = [PStk b L]) := by
  refine ht_in 51 [(0, Value.pointer (some ⟨b, 0, none⟩)), (1, Value.agg #[Value.int IntKind.i64 s, Value.int IntKind.u32 gn])] Try.func18 (by kernel_rfl) Try.ntmps18 rfl rfl ?_
  intro g w0 R h0
  obtain ⟨T1, hT2, h3⟩ := sat_open (X := List Rf) (p := fun T => (L ++ T).length = 32) (B := fun T => Cl b (stk L.length (L ++ T)) 57) h0 (fun _ hh => hh)
  rw [List.length_append] at hT2
  refine go_seq (x := CA Try.f18 [0]) (y := CA Try.f18 [1]) (by kernel_rfl) ?_
  refine go_pln (id := 0) (ops := RA Try.f18 [0]) [0, 1, 2] (by kernel_rfl) (by kernel_rfl) ?_
  refine plain_act (i := 0) (by kernel_rfl) ?_
  refine an_new (d := 3) (fun xb_ => Value.pointer (some ⟨xb_, 0, none⟩)) (fun xb_ => Obj.cells [Value.int IntKind.i64 s, Value.int IntKind.u32 gn].toArray 25 (0, 0)) (fun xb_ => by kernel_rfl) (by kernel_rfl) rfl h3 ?_
  intro r4 w5 (h6 : sat g w5 [Cl r4 [Value.int IntKind.i64 s, Value.int IntKind.u32 gn] 25, Cl b (stk L.length (L ++ T1)) 57, R])
  refine plain_batch (rest := []) [⟨1, [], none⟩, ⟨2, [], none⟩] (l' := [(5, Value.int IntKind.i64 0), (4, Value.int IntKind.i64 0), (3, Value.pointer (some ⟨r4, 0, none⟩)), (0, Value.pointer (some ⟨b, 0, none⟩)), (1, Value.agg #[Value.int IntKind.i64 s, Value.int IntKind.u32 gn])]) (pts' := []) (eqs := []) (by kernel_rfl) trivial (AllC_nil _) ?_
  change Code.wp _ (CA Try.f18 [1]) _ _ _
  refine fr_cut [(0, Value.pointer (some ⟨b, 0, none⟩)), (1, Value.agg #[Value.int IntKind.i64 s, Value.int IntKind.u32 gn]), (3, Value.pointer (some ⟨r4, 0, none⟩)), (4, Value.int IntKind.i64 0), (5, Value.int IntKind.i64 0)] ⟨rfl, rfl, rfl, rfl, rfl, trivial⟩ (fun a => Code.wp _ _ _ a _) (fun lr7 => ?_)
  refine go_seq (x := CA Try.f18 [1, 0]) (y := CA Try.f18 [1, 1]) (by kernel_rfl) ?_
  refine go_blk (id := 0) (x := CA Try.f18 [1, 0, 0]) (by kernel_rfl) ?_
  refine go_seq (x := CA Try.f18 [1, 0, 0, 0]) (y := CA Try.f18 [1, 0, 0, 1]) (by kernel_rfl) ?_
  refine go_pln (id := 1) (ops := RA Try.f18 [1, 0, 0, 0]) [0, 1, 2, 3] (by kernel_rfl) (by kernel_rfl) ?_
  refine plain_batch (rest := [1, 2, 3]) [⟨0, [], none⟩] (l' := [(7, Value.pointer (some ⟨b, 0, none⟩)), (0, Value.pointer (some ⟨b, 0, none⟩)), (1, Value.agg #[Value.int IntKind.i64 s, Value.int IntKind.u32 gn]), (3, Value.pointer (some ⟨r4, 0, none⟩)), (4, Value.int IntKind.i64 0), (5, Value.int IntKind.i64 0)] ++ lr7) (pts' := []) (eqs := []) (by kernel_rfl) trivial (AllC_nil _) ?_
  have h8 : sat g w5 [Cl b (stk L.length (L ++ T1)) 57, Cl r4 [Value.int IntKind.i64 s, Value.int IntKind.u32 gn] 25, R] := sat_sel [1, 0, 2] rfl h6
  refine plain_act (i := 1) (by kernel_rfl) ?_
  refine an_call (d := some 8) (f := 39) (args := [Value.pointer (some ⟨b, 0, none⟩)]) (by kernel_rfl) Try.call39 (valid_ht b _) (F := [Cl r4 [Value.int IntKind.i64 s, Value.int IntKind.u32 gn] 25, R]) h8 ?_
  rintro v K w9 (⟨rfl, rfl⟩) h10
  refine ⟨_, rfl, ?_⟩
  have h11 : sat g w9 [Cl b (stk L.length (L ++ T1)) 57, Cl r4 [Value.int IntKind.i64 s, Value.int IntKind.u32 gn] 25, R] := h10
  refine plain_batch (rest := []) [⟨2, [], none⟩, ⟨3, [], none⟩] (l' := [(6, Value.bool false), (9, Value.bool false), (8, Value.bool true), (7, Value.pointer (some ⟨b, 0, none⟩)), (0, Value.pointer (some ⟨b, 0, none⟩)), (1, Value.agg #[Value.int IntKind.i64 s, Value.int IntKind.u32 gn]), (3, Value.pointer (some ⟨r4, 0, none⟩)), (4, Value.int IntKind.i64 0), (5, Value.int IntKind.i64 0)] ++ lr7) (pts' := []) (eqs := []) (by kernel_rfl) trivial (AllC_nil _) ?_
  change Code.wp _ (CA Try.f18 [1, 0, 0, 1]) _ _ _
  refine fr_cut [(0, Value.pointer (some ⟨b, 0, none⟩)), (1, Value.agg #[Value.int IntKind.i64 s, Value.int IntKind.u32 gn]), (3, Value.pointer (some ⟨r4, 0, none⟩)), (4, Value.int IntKind.i64 0), (5, Value.int IntKind.i64 0), (6, Value.bool false)] ⟨rfl, rfl, rfl, rfl, rfl, rfl, trivial⟩ (fun a => Code.wp _ _ _ a _) (fun lr12 => ?_)
  refine go_cnd (x := (Operand.tmp 6)) (s := CA Try.f18 [1, 0, 0, 1, 0]) (t := CA Try.f18 [1, 0, 0, 1, 1]) false (by kernel_rfl) (by kernel_rfl) ?_
  change Code.wp _ (CA Try.f18 [1, 0, 0, 1, 1]) _ _ _
  refine go_seq (x := CA Try.f18 [1, 0, 0, 1, 1, 0]) (y := CA Try.f18 [1, 0, 0, 1, 1, 1]) (by kernel_rfl) ?_
  refine go_pln (id := 3) (ops := RA Try.f18 [1, 0, 0, 1, 1, 0]) [0, 1, 2, 3, 4, 5, 6, 7, 8, 9, 10, 11, 12, 13] (by kernel_rfl) (by kernel_rfl) ?_
  refine plain_batch (rest := [2, 3, 4, 5, 6, 7, 8, 9, 10, 11, 12, 13]) [⟨0, [], none⟩, ⟨1, [Value.int IntKind.i64 s], none⟩] (l' := [(12, Value.int IntKind.i64 s), (11, Value.pointer (some ⟨r4, 0, none⟩)), (0, Value.pointer (some ⟨b, 0, none⟩)), (1, Value.agg #[Value.int IntKind.i64 s, Value.int IntKind.u32 gn]), (3, Value.pointer (some ⟨r4, 0, none⟩)), (4, Value.int IntKind.i64 0), (5, Value.int IntKind.i64 0), (6, Value.bool false)] ++ lr12) (pts' := [(1, ⟨r4, 0, none⟩, Value.int IntKind.i64 s)]) (eqs := []) (by kernel_rfl) trivial (AllC_cons (sat_cell h11 1 rfl rfl) (AllC_nil _)) ?_
  by_cases c13 : s < 0
  ·
    refine plain_batch (rest := []) [⟨2, [], some (Value.bool true)⟩, ⟨3, [], none⟩, ⟨4, [], none⟩, ⟨5, [], none⟩, ⟨6, [], none⟩, ⟨7, [], none⟩, ⟨8, [], none⟩, ⟨9, [], none⟩, ⟨10, [], none⟩, ⟨11, [], none⟩, ⟨12, [], none⟩, ⟨13, [], none⟩] (l' := [(10, Value.bool true), (23, Value.bool true), (22, undef), (21, undef), (20, undef), (19, Value.bool true), (18, Value.bool true), (17, undef), (16, undef), (15, undef), (14, Value.bool true), (13, Value.bool true), (12, Value.int IntKind.i64 s), (11, Value.pointer (some ⟨r4, 0, none⟩)), (0, Value.pointer (some ⟨b, 0, none⟩)), (1, Value.agg #[Value.int IntKind.i64 s, Value.int IntKind.u32 gn]), (3, Value.pointer (some ⟨r4, 0, none⟩)), (4, Value.int IntKind.i64 0), (5, Value.int IntKind.i64 0), (6, Value.bool false)] ++ lr12) (pts' := []) (eqs := [(Value.bool (decide (s < 0)), Value.bool true)]) (by kernel_rfl) ⟨(ov_t (by omega)), trivial⟩ (AllC_nil _) ?_
    change Code.wp _ (CA Try.f18 [1, 0, 0, 1, 1, 1]) _ _ _
    refine fr_cut [(0, Value.pointer (some ⟨b, 0, none⟩)), (1, Value.agg #[Value.int IntKind.i64 s, Value.int IntKind.u32 gn]), (3, Value.pointer (some ⟨r4, 0, none⟩)), (4, Value.int IntKind.i64 0), (5, Value.int IntKind.i64 0), (6, Value.bool false), (10, Value.bool true)] ⟨rfl, rfl, rfl, rfl, rfl, rfl, rfl, trivial⟩ (fun a => Code.wp _ _ _ a _) (fun lr14 => ?_)
    refine go_cnd (x := (Operand.tmp 10)) (s := CA Try.f18 [1, 0, 0, 1, 1, 1, 0]) (t := CA Try.f18 [1, 0, 0, 1, 1, 1, 1]) true (by kernel_rfl) (by kernel_rfl) ?_
    change Code.wp _ (CA Try.f18 [1, 0, 0, 1, 1, 1, 0]) _ _ _
    refine go_seq (x := CA Try.f18 [1, 0, 0, 1, 1, 1, 0, 0]) (y := CA Try.f18 [1, 0, 0, 1, 1, 1, 0, 1]) (by kernel_rfl) ?_
    refine go_pln (id := 4) (ops := RA Try.f18 [1, 0, 0, 1, 1, 1, 0, 0]) [0, 1] (by kernel_rfl) (by kernel_rfl) ?_
    refine plain_batch (rest := []) [⟨0, [], none⟩, ⟨1, [], none⟩] (l' := [(5, Value.int IntKind.i64 2), (4, Value.int IntKind.i64 0), (0, Value.pointer (some ⟨b, 0, none⟩)), (1, Value.agg #[Value.int IntKind.i64 s, Value.int IntKind.u32 gn]), (3, Value.pointer (some ⟨r4, 0, none⟩)), (4, Value.int IntKind.i64 0), (5, Value.int IntKind.i64 0), (6, Value.bool false), (10, Value.bool true)] ++ lr14) (pts' := []) (eqs := []) (by kernel_rfl) trivial (AllC_nil _) ?_
    change Code.wp _ (CA Try.f18 [1, 0, 0, 1, 1, 1, 0, 1]) _ _ _
    refine fr_cut [(0, Value.pointer (some ⟨b, 0, none⟩)), (1, Value.agg #[Value.int IntKind.i64 s, Value.int IntKind.u32 gn]), (3, Value.pointer (some ⟨r4, 0, none⟩)), (4, Value.int IntKind.i64 0), (5, Value.int IntKind.i64 2), (6, Value.bool false), (10, Value.bool true)] ⟨rfl, rfl, rfl, rfl, rfl, rfl, rfl, trivial⟩ (fun a => Code.wp _ _ _ a _) (fun lr15 => ?_)
    refine go_rt (by kernel_rfl) ?_
    have h16 : sat g w9 [PStk b L, Cl r4 [Value.int IntKind.i64 s, Value.int IntKind.u32 gn] 25, R] := sat_imp h11 (fun _ hh => ⟨T1, (by rw [List.length_append]; exact hT2), hh⟩)
    repeat (first | simp only [Exit.inBlock] | simp only [Exit.then])
    have h17 : sat g w9 [PStk b L, R] := sat_sel [0, 2] rfl h16
    refine ht_out [] (Value.tuple #[Value.int IntKind.i64 0, Value.int IntKind.i64 2]) [] (by kernel_rfl) (by intro q hq; cases hq) ?_
    exact ⟨Value.tuple #[Value.int IntKind.i64 0, Value.int IntKind.i64 2], [PStk b L], rfl, ⟨rfl, rfl⟩, h17⟩
  ·
    refine plain_batch (rest := [6, 7, 8, 9, 10, 11, 12, 13]) [⟨2, [], some (Value.bool false)⟩, ⟨3, [], none⟩, ⟨4, [], none⟩, ⟨5, [Value.int IntKind.i64 s], none⟩] (l' := [(16, Value.int IntKind.i64 s), (15, Value.pointer (some ⟨r4, 0, none⟩)), (14, Value.bool false), (13, Value.bool false), (12, Value.int IntKind.i64 s), (11, Value.pointer (some ⟨r4, 0, none⟩)), (0, Value.pointer (some ⟨b, 0, none⟩)), (1, Value.agg #[Value.int IntKind.i64 s, Value.int IntKind.u32 gn]), (3, Value.pointer (some ⟨r4, 0, none⟩)), (4, Value.int IntKind.i64 0), (5, Value.int IntKind.i64 0), (6, Value.bool false)] ++ lr12) (pts' := [(5, ⟨r4, 0, none⟩, Value.int IntKind.i64 s)]) (eqs := [(Value.bool (decide (s < 0)), Value.bool false)]) (by kernel_rfl) ⟨(ov_f (by omega)), trivial⟩ (AllC_cons (sat_cell h11 1 rfl rfl) (AllC_nil _)) ?_
    by_cases c18 : s ≥ 256
    ·
      refine plain_batch (rest := []) [⟨6, [], some (Value.bool true)⟩, ⟨7, [], none⟩, ⟨8, [], none⟩, ⟨9, [], none⟩, ⟨10, [], none⟩, ⟨11, [], none⟩, ⟨12, [], none⟩, ⟨13, [], none⟩] (l' := [(10, Value.bool true), (23, Value.bool true), (22, undef), (21, undef), (20, undef), (19, Value.bool true), (18, Value.bool true), (17, Value.bool true), (16, Value.int IntKind.i64 s), (15, Value.pointer (some ⟨r4, 0, none⟩)), (14, Value.bool false), (13, Value.bool false), (12, Value.int IntKind.i64 s), (11, Value.pointer (some ⟨r4, 0, none⟩)), (0, Value.pointer (some ⟨b, 0, none⟩)), (1, Value.agg #[Value.int IntKind.i64 s, Value.int IntKind.u32 gn]), (3, Value.pointer (some ⟨r4, 0, none⟩)), (4, Value.int IntKind.i64 0), (5, Value.int IntKind.i64 0), (6, Value.bool false)] ++ lr12) (pts' := []) (eqs := [(Value.bool (decide (s ≥ 256)), Value.bool true)]) (by kernel_rfl) ⟨(ov_t (by omega)), trivial⟩ (AllC_nil _) ?_
      change Code.wp _ (CA Try.f18 [1, 0, 0, 1, 1, 1]) _ _ _
      refine fr_cut [(0, Value.pointer (some ⟨b, 0, none⟩)), (1, Value.agg #[Value.int IntKind.i64 s, Value.int IntKind.u32 gn]), (3, Value.pointer (some ⟨r4, 0, none⟩)), (4, Value.int IntKind.i64 0), (5, Value.int IntKind.i64 0), (6, Value.bool false), (10, Value.bool true)] ⟨rfl, rfl, rfl, rfl, rfl, rfl, rfl, trivial⟩ (fun a => Code.wp _ _ _ a _) (fun lr19 => ?_)
      refine go_cnd (x := (Operand.tmp 10)) (s := CA Try.f18 [1, 0, 0, 1, 1, 1, 0]) (t := CA Try.f18 [1, 0, 0, 1, 1, 1, 1]) true (by kernel_rfl) (by kernel_rfl) ?_
      change Code.wp _ (CA Try.f18 [1, 0, 0, 1, 1, 1, 0]) _ _ _
      refine go_seq (x := CA Try.f18 [1, 0, 0, 1, 1, 1, 0, 0]) (y := CA Try.f18 [1, 0, 0, 1, 1, 1, 0, 1]) (by kernel_rfl) ?_
      refine go_pln (id := 4) (ops := RA Try.f18 [1, 0, 0, 1, 1, 1, 0, 0]) [0, 1] (by kernel_rfl) (by kernel_rfl) ?_
      refine plain_batch (rest := []) [⟨0, [], none⟩, ⟨1, [], none⟩] (l' := [(5, Value.int IntKind.i64 2), (4, Value.int IntKind.i64 0), (0, Value.pointer (some ⟨b, 0, none⟩)), (1, Value.agg #[Value.int IntKind.i64 s, Value.int IntKind.u32 gn]), (3, Value.pointer (some ⟨r4, 0, none⟩)), (4, Value.int IntKind.i64 0), (5, Value.int IntKind.i64 0), (6, Value.bool false), (10, Value.bool true)] ++ lr19) (pts' := []) (eqs := []) (by kernel_rfl) trivial (AllC_nil _) ?_
      change Code.wp _ (CA Try.f18 [1, 0, 0, 1, 1, 1, 0, 1]) _ _ _
      refine fr_cut [(0, Value.pointer (some ⟨b, 0, none⟩)), (1, Value.agg #[Value.int IntKind.i64 s, Value.int IntKind.u32 gn]), (3, Value.pointer (some ⟨r4, 0, none⟩)), (4, Value.int IntKind.i64 0), (5, Value.int IntKind.i64 2), (6, Value.bool false), (10, Value.bool true)] ⟨rfl, rfl, rfl, rfl, rfl, rfl, rfl, trivial⟩ (fun a => Code.wp _ _ _ a _) (fun lr20 => ?_)
      refine go_rt (by kernel_rfl) ?_
      have h21 : sat g w9 [PStk b L, Cl r4 [Value.int IntKind.i64 s, Value.int IntKind.u32 gn] 25, R] := sat_imp h11 (fun _ hh => ⟨T1, (by rw [List.length_append]; exact hT2), hh⟩)
      repeat (first | simp only [Exit.inBlock] | simp only [Exit.then])
      have h22 : sat g w9 [PStk b L, R] := sat_sel [0, 2] rfl h21
      refine ht_out [] (Value.tuple #[Value.int IntKind.i64 0, Value.int IntKind.i64 2]) [] (by kernel_rfl) (by intro q hq; cases hq) ?_
      exact ⟨Value.tuple #[Value.int IntKind.i64 0, Value.int IntKind.i64 2], [PStk b L], rfl, ⟨rfl, rfl⟩, h22⟩
    ·
      refine plain_batch (rest := []) [⟨6, [], some (Value.bool false)⟩, ⟨7, [], none⟩, ⟨8, [], none⟩, ⟨9, [], none⟩, ⟨10, [Value.int IntKind.u32 gn], none⟩, ⟨11, [], some (Value.bool true)⟩, ⟨12, [], none⟩, ⟨13, [], none⟩] (l' := [(10, Value.bool true), (23, Value.bool true), (22, Value.bool true), (21, Value.int IntKind.u32 gn), (20, Value.pointer (some ⟨r4, 1, none⟩)), (19, Value.bool false), (18, Value.bool false), (17, Value.bool false), (16, Value.int IntKind.i64 s), (15, Value.pointer (some ⟨r4, 0, none⟩)), (14, Value.bool false), (13, Value.bool false), (12, Value.int IntKind.i64 s), (11, Value.pointer (some ⟨r4, 0, none⟩)), (0, Value.pointer (some ⟨b, 0, none⟩)), (1, Value.agg #[Value.int IntKind.i64 s, Value.int IntKind.u32 gn]), (3, Value.pointer (some ⟨r4, 0, none⟩)), (4, Value.int IntKind.i64 0), (5, Value.int IntKind.i64 0), (6, Value.bool false)] ++ lr12) (pts' := [(10, ⟨r4, 1, none⟩, Value.int IntKind.u32 gn)]) (eqs := [(Value.bool (decide (s ≥ 256)), Value.bool false), (Value.bool (gn == 0), Value.bool true)]) (by kernel_rfl) ⟨(ov_f (by omega)), (ov_et (by omega)), trivial⟩ (AllC_cons (sat_cell h11 1 rfl rfl) (AllC_nil _)) ?_
      change Code.wp _ (CA Try.f18 [1, 0, 0, 1, 1, 1]) _ _ _
      refine fr_cut [(0, Value.pointer (some ⟨b, 0, none⟩)), (1, Value.agg #[Value.int IntKind.i64 s, Value.int IntKind.u32 gn]), (3, Value.pointer (some ⟨r4, 0, none⟩)), (4, Value.int IntKind.i64 0), (5, Value.int IntKind.i64 0), (6, Value.bool false), (10, Value.bool true)] ⟨rfl, rfl, rfl, rfl, rfl, rfl, rfl, trivial⟩ (fun a => Code.wp _ _ _ a _) (fun lr23 => ?_)
      refine go_cnd (x := (Operand.tmp 10)) (s := CA Try.f18 [1, 0, 0, 1, 1, 1, 0]) (t := CA Try.f18 [1, 0, 0, 1, 1, 1, 1]) true (by kernel_rfl) (by kernel_rfl) ?_
      change Code.wp _ (CA Try.f18 [1, 0, 0, 1, 1, 1, 0]) _ _ _
      refine go_seq (x := CA Try.f18 [1, 0, 0, 1, 1, 1, 0, 0]) (y := CA Try.f18 [1, 0, 0, 1, 1, 1, 0, 1]) (by kernel_rfl) ?_
      refine go_pln (id := 4) (ops := RA Try.f18 [1, 0, 0, 1, 1, 1, 0, 0]) [0, 1] (by kernel_rfl) (by kernel_rfl) ?_
      refine plain_batch (rest := []) [⟨0, [], none⟩, ⟨1, [], none⟩] (l' := [(5, Value.int IntKind.i64 2), (4, Value.int IntKind.i64 0), (0, Value.pointer (some ⟨b, 0, none⟩)), (1, Value.agg #[Value.int IntKind.i64 s, Value.int IntKind.u32 gn]), (3, Value.pointer (some ⟨r4, 0, none⟩)), (4, Value.int IntKind.i64 0), (5, Value.int IntKind.i64 0), (6, Value.bool false), (10, Value.bool true)] ++ lr23) (pts' := []) (eqs := []) (by kernel_rfl) trivial (AllC_nil _) ?_
      change Code.wp _ (CA Try.f18 [1, 0, 0, 1, 1, 1, 0, 1]) _ _ _
      refine fr_cut [(0, Value.pointer (some ⟨b, 0, none⟩)), (1, Value.agg #[Value.int IntKind.i64 s, Value.int IntKind.u32 gn]), (3, Value.pointer (some ⟨r4, 0, none⟩)), (4, Value.int IntKind.i64 0), (5, Value.int IntKind.i64 2), (6, Value.bool false), (10, Value.bool true)] ⟨rfl, rfl, rfl, rfl, rfl, rfl, rfl, trivial⟩ (fun a => Code.wp _ _ _ a _) (fun lr24 => ?_)
      refine go_rt (by kernel_rfl) ?_
      have h25 : sat g w9 [PStk b L, Cl r4 [Value.int IntKind.i64 s, Value.int IntKind.u32 gn] 25, R] := sat_imp h11 (fun _ hh => ⟨T1, (by rw [List.length_append]; exact hT2), hh⟩)
      repeat (first | simp only [Exit.inBlock] | simp only [Exit.then])
      have h26 : sat g w9 [PStk b L, R] := sat_sel [0, 2] rfl h25
      refine ht_out [] (Value.tuple #[Value.int IntKind.i64 0, Value.int IntKind.i64 2]) [] (by kernel_rfl) (by intro q hq; cases hq) ?_
      exact ⟨Value.tuple #[Value.int IntKind.i64 0, Value.int IntKind.i64 2], [PStk b L], rfl, ⟨rfl, rfl⟩, h26⟩

set_option maxHeartbeats 4000000 in
theorem pop_none (b : Nat) (L : List Rf) (hl : L.length = 0) : HT Try.prog 23 [Value.pointer (some ⟨b, 0, none⟩)] [PStk b L] (fun v K => v = Value.tuple #[Value.agg #[Value.int .i64 0, Value.int .u32 0], Value.int .i64 5] ∧ K = [PStk b L]) := by
  refine ht_in 25 [(0, Value.pointer (some ⟨b, 0, none⟩))] Try.func23 (by kernel_rfl) Try.ntmps23 rfl rfl ?_
  intro g w0 R h0
  refine go_seq (x := CA Try.f23 [0]) (y := CA Try.f23 [1]) (by kernel_rfl) ?_
  refine go_pln (id := 0) (ops := RA Try.f23 [0]) [0, 1] (by kernel_rfl) (by kernel_rfl) ?_
  refine plain_act (i := 0) (by kernel_rfl) ?_
  refine an_new (d := 2) (fun xb_ => Value.pointer (some ⟨xb_, 0, none⟩)) (fun xb_ => Obj.cells [Value.int IntKind.i64 0, Value.int IntKind.u32 0].toArray 25 (0, 0)) (fun xb_ => by kernel_rfl) (by kernel_rfl) rfl h0 ?_
  intro r1 w2 (h3 : sat g w2 [Cl r1 [Value.int IntKind.i64 0, Value.int IntKind.u32 0] 25, PStk b L, R])
  refine plain_batch (rest := []) [⟨1, [], none⟩] (l' := [(3, Value.int IntKind.i64 0), (2, Value.pointer (some ⟨r1, 0, none⟩)), (0, Value.pointer (some ⟨b, 0, none⟩))]) (pts' := []) (eqs := []) (by kernel_rfl) trivial (AllC_nil _) ?_
  change Code.wp _ (CA Try.f23 [1]) _ _ _
  refine fr_cut [(0, Value.pointer (some ⟨b, 0, none⟩)), (2, Value.pointer (some ⟨r1, 0, none⟩)), (3, Value.int IntKind.i64 0)] ⟨rfl, rfl, rfl, trivial⟩ (fun a => Code.wp _ _ _ a _) (fun lr4 => ?_)
  refine go_seq (x := CA Try.f23 [1, 0]) (y := CA Try.f23 [1, 1]) (by kernel_rfl) ?_
  refine go_blk (id := 0) (x := CA Try.f23 [1, 0, 0]) (by kernel_rfl) ?_
  refine go_seq (x := CA Try.f23 [1, 0, 0, 0]) (y := CA Try.f23 [1, 0, 0, 1]) (by kernel_rfl) ?_
  refine go_pln (id := 1) (ops := RA Try.f23 [1, 0, 0, 0]) [0, 1, 2, 3] (by kernel_rfl) (by kernel_rfl) ?_
  refine plain_batch (rest := [1, 2, 3]) [⟨0, [], none⟩] (l' := [(5, Value.pointer (some ⟨b, 0, none⟩)), (0, Value.pointer (some ⟨b, 0, none⟩)), (2, Value.pointer (some ⟨r1, 0, none⟩)), (3, Value.int IntKind.i64 0)] ++ lr4) (pts' := []) (eqs := []) (by kernel_rfl) trivial (AllC_nil _) ?_
  have h7 : sat g w2 [PStk b L, Cl r1 [Value.int IntKind.i64 0, Value.int IntKind.u32 0] 25, R] := sat_sel [1, 0, 2] rfl h3
  obtain ⟨T5, hT6, h8⟩ := sat_open (X := List Rf) (p := fun T => (L ++ T).length = 32) (B := fun T => Cl b (stk L.length (L ++ T)) 57) h7 (fun _ hh => hh)
  rw [List.length_append] at hT6
  refine plain_act (i := 1) (by kernel_rfl) ?_
  refine an_call (d := some 6) (f := 39) (args := [Value.pointer (some ⟨b, 0, none⟩)]) (by kernel_rfl) Try.call39 (valid_ht b _) (F := [Cl r1 [Value.int IntKind.i64 0, Value.int IntKind.u32 0] 25, R]) h8 ?_
  rintro v K w9 (⟨rfl, rfl⟩) h10
  refine ⟨_, rfl, ?_⟩
  have h11 : sat g w9 [Cl b (stk L.length (L ++ T5)) 57, Cl r1 [Value.int IntKind.i64 0, Value.int IntKind.u32 0] 25, R] := h10
  refine plain_batch (rest := []) [⟨2, [], none⟩, ⟨3, [], none⟩] (l' := [(4, Value.bool false), (7, Value.bool false), (6, Value.bool true), (5, Value.pointer (some ⟨b, 0, none⟩)), (0, Value.pointer (some ⟨b, 0, none⟩)), (2, Value.pointer (some ⟨r1, 0, none⟩)), (3, Value.int IntKind.i64 0)] ++ lr4) (pts' := []) (eqs := []) (by kernel_rfl) trivial (AllC_nil _) ?_
  change Code.wp _ (CA Try.f23 [1, 0, 0, 1]) _ _ _
  refine fr_cut [(0, Value.pointer (some ⟨b, 0, none⟩)), (2, Value.pointer (some ⟨r1, 0, none⟩)), (3, Value.int IntKind.i64 0), (4, Value.bool false)] ⟨rfl, rfl, rfl, rfl, trivial⟩ (fun a => Code.wp _ _ _ a _) (fun lr12 => ?_)
  refine go_cnd (x := (Operand.tmp 4)) (s := CA Try.f23 [1, 0, 0, 1, 0]) (t := CA Try.f23 [1, 0, 0, 1, 1]) false (by kernel_rfl) (by kernel_rfl) ?_
  change Code.wp _ (CA Try.f23 [1, 0, 0, 1, 1]) _ _ _
  refine go_seq (x := CA Try.f23 [1, 0, 0, 1, 1, 0]) (y := CA Try.f23 [1, 0, 0, 1, 1, 1]) (by kernel_rfl) ?_
  refine go_pln (id := 3) (ops := RA Try.f23 [1, 0, 0, 1, 1, 0]) [0, 1, 2, 3, 4, 5] (by kernel_rfl) (by kernel_rfl) ?_
  refine plain_batch (rest := []) [⟨0, [], none⟩, ⟨1, [], none⟩, ⟨2, [], none⟩, ⟨3, [Value.int IntKind.i64 (((L.length : Nat) : Int))], none⟩, ⟨4, [], some (Value.bool true)⟩, ⟨5, [], none⟩] (l' := [(9, Value.bool true), (14, Value.bool true), (13, Value.int IntKind.i64 (((L.length : Nat) : Int))), (12, Value.pointer (some ⟨b, 1, none⟩)), (11, Value.pointer (some ⟨b, 0, none⟩)), (10, Value.pointer (some ⟨b, 0, none⟩)), (0, Value.pointer (some ⟨b, 0, none⟩)), (2, Value.pointer (some ⟨r1, 0, none⟩)), (3, Value.int IntKind.i64 0), (4, Value.bool false)] ++ lr12) (pts' := [(3, ⟨b, 1, none⟩, Value.int IntKind.i64 (((L.length : Nat) : Int)))]) (eqs := [(Value.bool ((((L.length : Nat) : Int)) == 0), Value.bool true)]) (by kernel_rfl) ⟨(ov_et (by omega)), trivial⟩ (AllC_cons (sat_cell h11 0 rfl rfl) (AllC_nil _)) ?_
  change Code.wp _ (CA Try.f23 [1, 0, 0, 1, 1, 1]) _ _ _
  refine fr_cut [(0, Value.pointer (some ⟨b, 0, none⟩)), (2, Value.pointer (some ⟨r1, 0, none⟩)), (3, Value.int IntKind.i64 0), (4, Value.bool false), (9, Value.bool true)] ⟨rfl, rfl, rfl, rfl, rfl, trivial⟩ (fun a => Code.wp _ _ _ a _) (fun lr13 => ?_)
  refine go_cnd (x := (Operand.tmp 9)) (s := CA Try.f23 [1, 0, 0, 1, 1, 1, 0]) (t := CA Try.f23 [1, 0, 0, 1, 1, 1, 1]) true (by kernel_rfl) (by kernel_rfl) ?_
  change Code.wp _ (CA Try.f23 [1, 0, 0, 1, 1, 1, 0]) _ _ _
  refine go_seq (x := CA Try.f23 [1, 0, 0, 1, 1, 1, 0, 0]) (y := CA Try.f23 [1, 0, 0, 1, 1, 1, 0, 1]) (by kernel_rfl) ?_
  refine go_pln (id := 4) (ops := RA Try.f23 [1, 0, 0, 1, 1, 1, 0, 0]) [0, 1, 2] (by kernel_rfl) (by kernel_rfl) ?_
  refine plain_batch (rest := [1, 2]) [⟨0, [], none⟩] (l' := [(15, Value.agg #[Value.int IntKind.i64 0, Value.int IntKind.u32 0]), (0, Value.pointer (some ⟨b, 0, none⟩)), (2, Value.pointer (some ⟨r1, 0, none⟩)), (3, Value.int IntKind.i64 0), (4, Value.bool false), (9, Value.bool true)] ++ lr13) (pts' := []) (eqs := []) (by kernel_rfl) trivial (AllC_nil _) ?_
  have h14 : sat g w9 [Cl r1 [Value.int IntKind.i64 0, Value.int IntKind.u32 0] 25, Cl b (stk L.length (L ++ T5)) 57, R] := sat_sel [1, 0, 2] rfl h11
  refine plain_act (i := 1) (by kernel_rfl) ?_
  refine an_store [(0, Value.int IntKind.i64 0), (1, Value.int IntKind.u32 0)] (cs' := [Value.int IntKind.i64 0, Value.int IntKind.u32 0]) (by kernel_rfl) (by kernel_rfl) (allq ⟨⟨by simp, rfl⟩, ⟨by simp, rfl⟩, trivial⟩) rfl h14 ?_
  intro w15 (h16 : sat g w15 [Cl r1 [Value.int IntKind.i64 0, Value.int IntKind.u32 0] 25, Cl b (stk L.length (L ++ T5)) 57, R])
  refine plain_batch (rest := []) [⟨2, [], none⟩] (l' := [(3, Value.int IntKind.i64 5), (15, Value.agg #[Value.int IntKind.i64 0, Value.int IntKind.u32 0]), (0, Value.pointer (some ⟨b, 0, none⟩)), (2, Value.pointer (some ⟨r1, 0, none⟩)), (3, Value.int IntKind.i64 0), (4, Value.bool false), (9, Value.bool true)] ++ lr13) (pts' := []) (eqs := []) (by kernel_rfl) trivial (AllC_nil _) ?_
  change Code.wp _ (CA Try.f23 [1, 0, 0, 1, 1, 1, 0, 1]) _ _ _
  refine fr_cut [(0, Value.pointer (some ⟨b, 0, none⟩)), (2, Value.pointer (some ⟨r1, 0, none⟩)), (3, Value.int IntKind.i64 5), (4, Value.bool false), (9, Value.bool true)] ⟨rfl, rfl, rfl, rfl, rfl, trivial⟩ (fun a => Code.wp _ _ _ a _) (fun lr17 => ?_)
  refine go_rt (by kernel_rfl) ?_
  have h18 : sat g w15 [Cl b (stk L.length (L ++ T5)) 57, Cl r1 [Value.int IntKind.i64 0, Value.int IntKind.u32 0] 25, R] := sat_sel [1, 0, 2] rfl h16
  have h19 : sat g w15 [PStk b L, Cl r1 [Value.int IntKind.i64 0, Value.int IntKind.u32 0] 25, R] := sat_imp h18 (fun _ hh => ⟨T5, (by rw [List.length_append]; exact hT6), hh⟩)
  repeat (first | simp only [Exit.inBlock] | simp only [Exit.then])
  have h20 : sat g w15 [PStk b L, R] := sat_sel [0, 2] rfl h19
  refine ht_out [Value.int IntKind.i64 0, Value.int IntKind.u32 0] (Value.tuple #[Value.agg #[Value.int IntKind.i64 0, Value.int IntKind.u32 0], Value.int IntKind.i64 5]) [(⟨r1, 0, none⟩, Value.int IntKind.i64 0), (⟨r1, 1, none⟩, Value.int IntKind.u32 0)] (by kernel_rfl) (allq ⟨sat_cell h19 1 rfl rfl, sat_cell h19 1 rfl rfl, trivial⟩) ?_
  exact ⟨Value.tuple #[Value.agg #[Value.int IntKind.i64 0, Value.int IntKind.u32 0], Value.int IntKind.i64 5], [PStk b L], rfl, ⟨rfl, rfl⟩, h20⟩

set_option maxHeartbeats 4000000 in
theorem pop_ht (b : Nat) (L : List Rf) (r : Rf) (hr : L[L.length - 1]? = some r) : HT Try.prog 23 [Value.pointer (some ⟨b, 0, none⟩)] [PStk b L] (fun v K => v = Value.tuple #[Value.agg #[Value.int .i64 r.1, Value.int .u32 r.2], Value.int .i64 0] ∧ K = [PStk b (L.eraseIdx (L.length - 1))]) := by
  have hpos : 0 < L.length := by have := (List.getElem?_eq_some_iff.1 hr).1; omega
  refine ht_in 25 [(0, Value.pointer (some ⟨b, 0, none⟩))] Try.func23 (by kernel_rfl) Try.ntmps23 rfl rfl ?_
  intro g w0 R h0
  refine go_seq (x := CA Try.f23 [0]) (y := CA Try.f23 [1]) (by kernel_rfl) ?_
  refine go_pln (id := 0) (ops := RA Try.f23 [0]) [0, 1] (by kernel_rfl) (by kernel_rfl) ?_
  refine plain_act (i := 0) (by kernel_rfl) ?_
  refine an_new (d := 2) (fun xb_ => Value.pointer (some ⟨xb_, 0, none⟩)) (fun xb_ => Obj.cells [Value.int IntKind.i64 0, Value.int IntKind.u32 0].toArray 25 (0, 0)) (fun xb_ => by kernel_rfl) (by kernel_rfl) rfl h0 ?_
  intro r1 w2 (h3 : sat g w2 [Cl r1 [Value.int IntKind.i64 0, Value.int IntKind.u32 0] 25, PStk b L, R])
  refine plain_batch (rest := []) [⟨1, [], none⟩] (l' := [(3, Value.int IntKind.i64 0), (2, Value.pointer (some ⟨r1, 0, none⟩)), (0, Value.pointer (some ⟨b, 0, none⟩))]) (pts' := []) (eqs := []) (by kernel_rfl) trivial (AllC_nil _) ?_
  change Code.wp _ (CA Try.f23 [1]) _ _ _
  refine fr_cut [(0, Value.pointer (some ⟨b, 0, none⟩)), (2, Value.pointer (some ⟨r1, 0, none⟩)), (3, Value.int IntKind.i64 0)] ⟨rfl, rfl, rfl, trivial⟩ (fun a => Code.wp _ _ _ a _) (fun lr4 => ?_)
  refine go_seq (x := CA Try.f23 [1, 0]) (y := CA Try.f23 [1, 1]) (by kernel_rfl) ?_
  refine go_blk (id := 0) (x := CA Try.f23 [1, 0, 0]) (by kernel_rfl) ?_
  refine go_seq (x := CA Try.f23 [1, 0, 0, 0]) (y := CA Try.f23 [1, 0, 0, 1]) (by kernel_rfl) ?_
  refine go_pln (id := 1) (ops := RA Try.f23 [1, 0, 0, 0]) [0, 1, 2, 3] (by kernel_rfl) (by kernel_rfl) ?_
  refine plain_batch (rest := [1, 2, 3]) [⟨0, [], none⟩] (l' := [(5, Value.pointer (some ⟨b, 0, none⟩)), (0, Value.pointer (some ⟨b, 0, none⟩)), (2, Value.pointer (some ⟨r1, 0, none⟩)), (3, Value.int IntKind.i64 0)] ++ lr4) (pts' := []) (eqs := []) (by kernel_rfl) trivial (AllC_nil _) ?_
  have h7 : sat g w2 [PStk b L, Cl r1 [Value.int IntKind.i64 0, Value.int IntKind.u32 0] 25, R] := sat_sel [1, 0, 2] rfl h3
  obtain ⟨T5, hT6, h8⟩ := sat_open (X := List Rf) (p := fun T => (L ++ T).length = 32) (B := fun T => Cl b (stk L.length (L ++ T)) 57) h7 (fun _ hh => hh)
  rw [List.length_append] at hT6
  refine plain_act (i := 1) (by kernel_rfl) ?_
  refine an_call (d := some 6) (f := 39) (args := [Value.pointer (some ⟨b, 0, none⟩)]) (by kernel_rfl) Try.call39 (valid_ht b _) (F := [Cl r1 [Value.int IntKind.i64 0, Value.int IntKind.u32 0] 25, R]) h8 ?_
  rintro v K w9 (⟨rfl, rfl⟩) h10
  refine ⟨_, rfl, ?_⟩
  have h11 : sat g w9 [Cl b (stk L.length (L ++ T5)) 57, Cl r1 [Value.int IntKind.i64 0, Value.int IntKind.u32 0] 25, R] := h10
  refine plain_batch (rest := []) [⟨2, [], none⟩, ⟨3, [], none⟩] (l' := [(4, Value.bool false), (7, Value.bool false), (6, Value.bool true), (5, Value.pointer (some ⟨b, 0, none⟩)), (0, Value.pointer (some ⟨b, 0, none⟩)), (2, Value.pointer (some ⟨r1, 0, none⟩)), (3, Value.int IntKind.i64 0)] ++ lr4) (pts' := []) (eqs := []) (by kernel_rfl) trivial (AllC_nil _) ?_
  change Code.wp _ (CA Try.f23 [1, 0, 0, 1]) _ _ _
  refine fr_cut [(0, Value.pointer (some ⟨b, 0, none⟩)), (2, Value.pointer (some ⟨r1, 0, none⟩)), (3, Value.int IntKind.i64 0), (4, Value.bool false)] ⟨rfl, rfl, rfl, rfl, trivial⟩ (fun a => Code.wp _ _ _ a _) (fun lr12 => ?_)
  refine go_cnd (x := (Operand.tmp 4)) (s := CA Try.f23 [1, 0, 0, 1, 0]) (t := CA Try.f23 [1, 0, 0, 1, 1]) false (by kernel_rfl) (by kernel_rfl) ?_
  change Code.wp _ (CA Try.f23 [1, 0, 0, 1, 1]) _ _ _
  refine go_seq (x := CA Try.f23 [1, 0, 0, 1, 1, 0]) (y := CA Try.f23 [1, 0, 0, 1, 1, 1]) (by kernel_rfl) ?_
  refine go_pln (id := 3) (ops := RA Try.f23 [1, 0, 0, 1, 1, 0]) [0, 1, 2, 3, 4, 5] (by kernel_rfl) (by kernel_rfl) ?_
  refine plain_batch (rest := []) [⟨0, [], none⟩, ⟨1, [], none⟩, ⟨2, [], none⟩, ⟨3, [Value.int IntKind.i64 (((L.length : Nat) : Int))], none⟩, ⟨4, [], some (Value.bool false)⟩, ⟨5, [], none⟩] (l' := [(9, Value.bool false), (14, Value.bool false), (13, Value.int IntKind.i64 (((L.length : Nat) : Int))), (12, Value.pointer (some ⟨b, 1, none⟩)), (11, Value.pointer (some ⟨b, 0, none⟩)), (10, Value.pointer (some ⟨b, 0, none⟩)), (0, Value.pointer (some ⟨b, 0, none⟩)), (2, Value.pointer (some ⟨r1, 0, none⟩)), (3, Value.int IntKind.i64 0), (4, Value.bool false)] ++ lr12) (pts' := [(3, ⟨b, 1, none⟩, Value.int IntKind.i64 (((L.length : Nat) : Int)))]) (eqs := [(Value.bool ((((L.length : Nat) : Int)) == 0), Value.bool false)]) (by kernel_rfl) ⟨(ov_ef (by omega)), trivial⟩ (AllC_cons (sat_cell h11 0 rfl rfl) (AllC_nil _)) ?_
  change Code.wp _ (CA Try.f23 [1, 0, 0, 1, 1, 1]) _ _ _
  refine fr_cut [(0, Value.pointer (some ⟨b, 0, none⟩)), (2, Value.pointer (some ⟨r1, 0, none⟩)), (3, Value.int IntKind.i64 0), (4, Value.bool false), (9, Value.bool false)] ⟨rfl, rfl, rfl, rfl, rfl, trivial⟩ (fun a => Code.wp _ _ _ a _) (fun lr13 => ?_)
  refine go_cnd (x := (Operand.tmp 9)) (s := CA Try.f23 [1, 0, 0, 1, 1, 1, 0]) (t := CA Try.f23 [1, 0, 0, 1, 1, 1, 1]) false (by kernel_rfl) (by kernel_rfl) ?_
  change Code.wp _ (CA Try.f23 [1, 0, 0, 1, 1, 1, 1]) _ _ _
  refine go_skp (by kernel_rfl) ?_
  change Code.wp _ (CA Try.f23 [1, 1]) _ _ _
  refine go_seq (x := CA Try.f23 [1, 1, 0]) (y := CA Try.f23 [1, 1, 1]) (by kernel_rfl) ?_
  refine go_pln (id := 5) (ops := RA Try.f23 [1, 1, 0]) [0, 1, 2, 3, 4, 5, 6, 7, 8, 9, 10] (by kernel_rfl) (by kernel_rfl) ?_
  refine plain_batch (rest := [6, 7, 8, 9, 10]) [⟨0, [], none⟩, ⟨1, [], none⟩, ⟨2, [], none⟩, ⟨3, [], none⟩, ⟨4, [Value.int IntKind.i64 (((L.length : Nat) : Int))], none⟩, ⟨5, [], some (Value.int IntKind.i64 (((L.length : Nat) : Int) - 1))⟩] (l' := [(21, Value.int IntKind.i64 (((L.length : Nat) : Int) - 1)), (20, Value.int IntKind.i64 (((L.length : Nat) : Int))), (19, Value.pointer (some ⟨b, 1, none⟩)), (18, Value.pointer (some ⟨b, 0, none⟩)), (17, Value.pointer (some ⟨b, 0, none⟩)), (16, Value.pointer (some ⟨b, 0, none⟩)), (0, Value.pointer (some ⟨b, 0, none⟩)), (2, Value.pointer (some ⟨r1, 0, none⟩)), (3, Value.int IntKind.i64 0), (4, Value.bool false), (9, Value.bool false)] ++ lr13) (pts' := [(4, ⟨b, 1, none⟩, Value.int IntKind.i64 (((L.length : Nat) : Int)))]) (eqs := [(Value.int IntKind.i64 (IntKind.wrap IntKind.i64 ((((L.length : Nat) : Int)) - 1)), Value.int IntKind.i64 (((L.length : Nat) : Int) - 1))]) (by kernel_rfl) ⟨(ov_i64 (by omega) (by omega) (by omega)), trivial⟩ (AllC_cons (sat_cell h11 0 rfl rfl) (AllC_nil _)) ?_
  have h14 : sat g w9 [PStk b L, Cl r1 [Value.int IntKind.i64 0, Value.int IntKind.u32 0] 25, R] := sat_imp h11 (fun _ hh => ⟨T5, (by rw [List.length_append]; exact hT6), hh⟩)
  refine plain_act (i := 6) (by kernel_rfl) ?_
  refine an_call (d := some 22) (f := 15) (args := [Value.pointer (some ⟨b, 0, none⟩), Value.int IntKind.i64 (((L.length : Nat) : Int) - 1)]) (by kernel_rfl) Try.call15 (drop_hz b (L.length - 1) L r (((L.length : Nat) : Int) - 1) (by omega) (by omega) hr) (F := [Cl r1 [Value.int IntKind.i64 0, Value.int IntKind.u32 0] 25, R]) h14 ?_
  rintro v K w15 (⟨rfl, rfl⟩) h16
  refine ⟨_, rfl, ?_⟩
  have h17 : sat g w15 [PStk b (L.eraseIdx (L.length - 1)), Cl r1 [Value.int IntKind.i64 0, Value.int IntKind.u32 0] 25, R] := h16
  refine plain_batch (rest := [9, 10]) [⟨7, [], none⟩, ⟨8, [], none⟩] (l' := [(24, Value.int IntKind.i64 0), (23, Value.agg #[Value.int IntKind.i64 r.1, Value.int IntKind.u32 r.2]), (22, Value.tuple #[Value.agg #[Value.int IntKind.i64 r.1, Value.int IntKind.u32 r.2], Value.int IntKind.i64 0]), (21, Value.int IntKind.i64 (((L.length : Nat) : Int) - 1)), (20, Value.int IntKind.i64 (((L.length : Nat) : Int))), (19, Value.pointer (some ⟨b, 1, none⟩)), (18, Value.pointer (some ⟨b, 0, none⟩)), (17, Value.pointer (some ⟨b, 0, none⟩)), (16, Value.pointer (some ⟨b, 0, none⟩)), (0, Value.pointer (some ⟨b, 0, none⟩)), (2, Value.pointer (some ⟨r1, 0, none⟩)), (3, Value.int IntKind.i64 0), (4, Value.bool false), (9, Value.bool false)] ++ lr13) (pts' := []) (eqs := []) (by kernel_rfl) trivial (AllC_nil _) ?_
  have h18 : sat g w15 [Cl r1 [Value.int IntKind.i64 0, Value.int IntKind.u32 0] 25, PStk b (L.eraseIdx (L.length - 1)), R] := sat_sel [1, 0, 2] rfl h17
  refine plain_act (i := 9) (by kernel_rfl) ?_
  refine an_store [(0, Value.int IntKind.i64 r.1), (1, Value.int IntKind.u32 r.2)] (cs' := [Value.int IntKind.i64 r.1, Value.int IntKind.u32 r.2]) (by kernel_rfl) (by kernel_rfl) (allq ⟨⟨by simp, rfl⟩, ⟨by simp, rfl⟩, trivial⟩) rfl h18 ?_
  intro w19 (h20 : sat g w19 [Cl r1 [Value.int IntKind.i64 r.1, Value.int IntKind.u32 r.2] 25, PStk b (L.eraseIdx (L.length - 1)), R])
  refine plain_batch (rest := []) [⟨10, [], none⟩] (l' := [(3, Value.int IntKind.i64 0), (24, Value.int IntKind.i64 0), (23, Value.agg #[Value.int IntKind.i64 r.1, Value.int IntKind.u32 r.2]), (22, Value.tuple #[Value.agg #[Value.int IntKind.i64 r.1, Value.int IntKind.u32 r.2], Value.int IntKind.i64 0]), (21, Value.int IntKind.i64 (((L.length : Nat) : Int) - 1)), (20, Value.int IntKind.i64 (((L.length : Nat) : Int))), (19, Value.pointer (some ⟨b, 1, none⟩)), (18, Value.pointer (some ⟨b, 0, none⟩)), (17, Value.pointer (some ⟨b, 0, none⟩)), (16, Value.pointer (some ⟨b, 0, none⟩)), (0, Value.pointer (some ⟨b, 0, none⟩)), (2, Value.pointer (some ⟨r1, 0, none⟩)), (3, Value.int IntKind.i64 0), (4, Value.bool false), (9, Value.bool false)] ++ lr13) (pts' := []) (eqs := []) (by kernel_rfl) trivial (AllC_nil _) ?_
  change Code.wp _ (CA Try.f23 [1, 1, 1]) _ _ _
  refine fr_cut [(0, Value.pointer (some ⟨b, 0, none⟩)), (2, Value.pointer (some ⟨r1, 0, none⟩)), (3, Value.int IntKind.i64 0), (4, Value.bool false), (9, Value.bool false)] ⟨rfl, rfl, rfl, rfl, rfl, trivial⟩ (fun a => Code.wp _ _ _ a _) (fun lr21 => ?_)
  refine go_rt (by kernel_rfl) ?_
  repeat (first | simp only [Exit.inBlock] | simp only [Exit.then])
  have h22 : sat g w19 [PStk b (L.eraseIdx (L.length - 1)), Cl r1 [Value.int IntKind.i64 r.1, Value.int IntKind.u32 r.2] 25, R] := sat_sel [1, 0, 2] rfl h20
  have h23 : sat g w19 [PStk b (L.eraseIdx (L.length - 1)), R] := sat_sel [0, 2] rfl h22
  refine ht_out [Value.int IntKind.i64 r.1, Value.int IntKind.u32 r.2] (Value.tuple #[Value.agg #[Value.int IntKind.i64 r.1, Value.int IntKind.u32 r.2], Value.int IntKind.i64 0]) [(⟨r1, 0, none⟩, Value.int IntKind.i64 r.1), (⟨r1, 1, none⟩, Value.int IntKind.u32 r.2)] (by kernel_rfl) (allq ⟨sat_cell h20 0 rfl rfl, sat_cell h20 0 rfl rfl, trivial⟩) ?_
  exact ⟨Value.tuple #[Value.agg #[Value.int IntKind.i64 r.1, Value.int IntKind.u32 r.2], Value.int IntKind.i64 0], [PStk b (L.eraseIdx (L.length - 1))], rfl, ⟨rfl, rfl⟩, h23⟩

set_option maxHeartbeats 4000000 in
theorem contains_in (b off n cp t : Nat) (A : List Rf) (cs : List Value) (r : Rf) (hr : r ∈ A) (hv : ∀ (k : Nat) (x : Rf), A[k]? = some x → cs[off + k * 2]? = some (Value.int .i64 x.1) ∧ cs[off + k * 2 + 1]? = some (Value.int .u32 x.2)) (hn : A.length = n) (hb : n ≤ 1000000) : HT Try.prog 35 [Value.slice (some ⟨b, off, none⟩) n cp, Value.agg #[Value.int IntKind.i64 r.1, Value.int IntKind.u32 r.2]] [Cl b cs t] (fun v K => v = Value.bool true ∧ K = [Cl b cs t]) := by
  refine ht_in 9 [(0, Value.slice (some ⟨b, off, none⟩) n cp), (1, Value.agg #[Value.int IntKind.i64 r.1, Value.int IntKind.u32 r.2])] Try.func35 (by kernel_rfl) Try.ntmps35 rfl rfl ?_
  intro g w0 R h0
  refine go_seq (x := CA Try.f35 [0]) (y := CA Try.f35 [1]) (by kernel_rfl) ?_
  refine go_pln (id := 0) (ops := RA Try.f35 [0]) [0, 1] (by kernel_rfl) (by kernel_rfl) ?_
  refine plain_act (i := 0) (by kernel_rfl) ?_
  refine an_new (d := 3) (fun xb_ => Value.pointer (some ⟨xb_, 0, none⟩)) (fun xb_ => Obj.cells [Value.int IntKind.i64 r.1, Value.int IntKind.u32 r.2].toArray 25 (0, 0)) (fun xb_ => by kernel_rfl) (by kernel_rfl) rfl h0 ?_
  intro r1 w2 (h3 : sat g w2 [Cl r1 [Value.int IntKind.i64 r.1, Value.int IntKind.u32 r.2] 25, Cl b cs t, R])
  refine plain_batch (rest := []) [⟨1, [], none⟩] (l' := [(4, Value.bool false), (3, Value.pointer (some ⟨r1, 0, none⟩)), (0, Value.slice (some ⟨b, off, none⟩) n cp), (1, Value.agg #[Value.int IntKind.i64 r.1, Value.int IntKind.u32 r.2])]) (pts' := []) (eqs := []) (by kernel_rfl) trivial (AllC_nil _) ?_
  change Code.wp _ (CA Try.f35 [1]) _ _ _
  refine fr_cut [(0, Value.slice (some ⟨b, off, none⟩) n cp), (1, Value.agg #[Value.int IntKind.i64 r.1, Value.int IntKind.u32 r.2]), (3, Value.pointer (some ⟨r1, 0, none⟩)), (4, Value.bool false)] ⟨rfl, rfl, rfl, rfl, trivial⟩ (fun a => Code.wp _ _ _ a _) (fun lr4 => ?_)
  refine go_seq (x := CA Try.f35 [1, 0]) (y := CA Try.f35 [1, 1]) (by kernel_rfl) ?_
  refine go_pln (id := 1) (ops := RA Try.f35 [1, 0]) [0, 1, 2, 3, 4] (by kernel_rfl) (by kernel_rfl) ?_
  refine plain_batch (rest := [2, 3, 4]) [⟨0, [], none⟩, ⟨1, [Value.int IntKind.i64 r.1, Value.int IntKind.u32 r.2], none⟩] (l' := [(6, Value.agg #[Value.int IntKind.i64 r.1, Value.int IntKind.u32 r.2]), (5, Value.slice (some ⟨b, off, none⟩) n cp), (0, Value.slice (some ⟨b, off, none⟩) n cp), (1, Value.agg #[Value.int IntKind.i64 r.1, Value.int IntKind.u32 r.2]), (3, Value.pointer (some ⟨r1, 0, none⟩)), (4, Value.bool false)] ++ lr4) (pts' := [(1, ⟨r1, 0, none⟩, Value.int IntKind.i64 r.1), (1, ⟨r1, 1, none⟩, Value.int IntKind.u32 r.2)]) (eqs := []) (by kernel_rfl) trivial (AllC_cons (sat_cell h3 0 rfl rfl) (AllC_cons (sat_cell h3 0 rfl rfl) (AllC_nil _))) ?_
  have h5 : sat g w2 [Cl b cs t, Cl r1 [Value.int IntKind.i64 r.1, Value.int IntKind.u32 r.2] 25, R] := sat_sel [1, 0, 2] rfl h3
  refine plain_act (i := 2) (by kernel_rfl) ?_
  refine an_call (d := some 7) (f := 42) (args := [Value.slice (some ⟨b, off, none⟩) n cp, Value.agg #[Value.int IntKind.i64 r.1, Value.int IntKind.u32 r.2]]) (by kernel_rfl) Try.call42 (index_ht b off n cp t A cs r hv hn hb) (F := [Cl r1 [Value.int IntKind.i64 r.1, Value.int IntKind.u32 r.2] 25, R]) h5 ?_
  rintro v K w6 (⟨z, rfl, hz, rfl⟩) h7
  refine ⟨_, rfl, ?_⟩
  have h8 : sat g w6 [Cl b cs t, Cl r1 [Value.int IntKind.i64 r.1, Value.int IntKind.u32 r.2] 25, R] := h7
  have hz0 := fi_pos hz hr
  refine plain_batch (rest := []) [⟨3, [], some (Value.bool true)⟩, ⟨4, [], none⟩] (l' := [(4, Value.bool true), (8, Value.bool true), (7, Value.int IntKind.i64 z), (6, Value.agg #[Value.int IntKind.i64 r.1, Value.int IntKind.u32 r.2]), (5, Value.slice (some ⟨b, off, none⟩) n cp), (0, Value.slice (some ⟨b, off, none⟩) n cp), (1, Value.agg #[Value.int IntKind.i64 r.1, Value.int IntKind.u32 r.2]), (3, Value.pointer (some ⟨r1, 0, none⟩)), (4, Value.bool false)] ++ lr4) (pts' := []) (eqs := [(Value.bool (decide (z ≥ 0)), Value.bool true)]) (by kernel_rfl) ⟨(ov_t (by omega)), trivial⟩ (AllC_nil _) ?_
  change Code.wp _ (CA Try.f35 [1, 1]) _ _ _
  refine fr_cut [(0, Value.slice (some ⟨b, off, none⟩) n cp), (1, Value.agg #[Value.int IntKind.i64 r.1, Value.int IntKind.u32 r.2]), (3, Value.pointer (some ⟨r1, 0, none⟩)), (4, Value.bool true)] ⟨rfl, rfl, rfl, rfl, trivial⟩ (fun a => Code.wp _ _ _ a _) (fun lr9 => ?_)
  refine go_rt (by kernel_rfl) ?_
  repeat (first | simp only [Exit.inBlock] | simp only [Exit.then])
  have h10 : sat g w6 [Cl b cs t, R] := sat_sel [0, 2] rfl h8
  refine ht_out [] (Value.bool true) [] (by kernel_rfl) (by intro q hq; cases hq) ?_
  exact ⟨Value.bool true, [Cl b cs t], rfl, ⟨rfl, rfl⟩, h10⟩

set_option maxHeartbeats 4000000 in
theorem contains_out (b off n cp t : Nat) (A : List Rf) (cs : List Value) (r : Rf) (hr : r ∉ A) (hv : ∀ (k : Nat) (x : Rf), A[k]? = some x → cs[off + k * 2]? = some (Value.int .i64 x.1) ∧ cs[off + k * 2 + 1]? = some (Value.int .u32 x.2)) (hn : A.length = n) (hb : n ≤ 1000000) : HT Try.prog 35 [Value.slice (some ⟨b, off, none⟩) n cp, Value.agg #[Value.int IntKind.i64 r.1, Value.int IntKind.u32 r.2]] [Cl b cs t] (fun v K => v = Value.bool false ∧ K = [Cl b cs t]) := by
  refine ht_in 9 [(0, Value.slice (some ⟨b, off, none⟩) n cp), (1, Value.agg #[Value.int IntKind.i64 r.1, Value.int IntKind.u32 r.2])] Try.func35 (by kernel_rfl) Try.ntmps35 rfl rfl ?_
  intro g w0 R h0
  refine go_seq (x := CA Try.f35 [0]) (y := CA Try.f35 [1]) (by kernel_rfl) ?_
  refine go_pln (id := 0) (ops := RA Try.f35 [0]) [0, 1] (by kernel_rfl) (by kernel_rfl) ?_
  refine plain_act (i := 0) (by kernel_rfl) ?_
  refine an_new (d := 3) (fun xb_ => Value.pointer (some ⟨xb_, 0, none⟩)) (fun xb_ => Obj.cells [Value.int IntKind.i64 r.1, Value.int IntKind.u32 r.2].toArray 25 (0, 0)) (fun xb_ => by kernel_rfl) (by kernel_rfl) rfl h0 ?_
  intro r1 w2 (h3 : sat g w2 [Cl r1 [Value.int IntKind.i64 r.1, Value.int IntKind.u32 r.2] 25, Cl b cs t, R])
  refine plain_batch (rest := []) [⟨1, [], none⟩] (l' := [(4, Value.bool false), (3, Value.pointer (some ⟨r1, 0, none⟩)), (0, Value.slice (some ⟨b, off, none⟩) n cp), (1, Value.agg #[Value.int IntKind.i64 r.1, Value.int IntKind.u32 r.2])]) (pts' := []) (eqs := []) (by kernel_rfl) trivial (AllC_nil _) ?_
  change Code.wp _ (CA Try.f35 [1]) _ _ _
  refine fr_cut [(0, Value.slice (some ⟨b, off, none⟩) n cp), (1, Value.agg #[Value.int IntKind.i64 r.1, Value.int IntKind.u32 r.2]), (3, Value.pointer (some ⟨r1, 0, none⟩)), (4, Value.bool false)] ⟨rfl, rfl, rfl, rfl, trivial⟩ (fun a => Code.wp _ _ _ a _) (fun lr4 => ?_)
  refine go_seq (x := CA Try.f35 [1, 0]) (y := CA Try.f35 [1, 1]) (by kernel_rfl) ?_
  refine go_pln (id := 1) (ops := RA Try.f35 [1, 0]) [0, 1, 2, 3, 4] (by kernel_rfl) (by kernel_rfl) ?_
  refine plain_batch (rest := [2, 3, 4]) [⟨0, [], none⟩, ⟨1, [Value.int IntKind.i64 r.1, Value.int IntKind.u32 r.2], none⟩] (l' := [(6, Value.agg #[Value.int IntKind.i64 r.1, Value.int IntKind.u32 r.2]), (5, Value.slice (some ⟨b, off, none⟩) n cp), (0, Value.slice (some ⟨b, off, none⟩) n cp), (1, Value.agg #[Value.int IntKind.i64 r.1, Value.int IntKind.u32 r.2]), (3, Value.pointer (some ⟨r1, 0, none⟩)), (4, Value.bool false)] ++ lr4) (pts' := [(1, ⟨r1, 0, none⟩, Value.int IntKind.i64 r.1), (1, ⟨r1, 1, none⟩, Value.int IntKind.u32 r.2)]) (eqs := []) (by kernel_rfl) trivial (AllC_cons (sat_cell h3 0 rfl rfl) (AllC_cons (sat_cell h3 0 rfl rfl) (AllC_nil _))) ?_
  have h5 : sat g w2 [Cl b cs t, Cl r1 [Value.int IntKind.i64 r.1, Value.int IntKind.u32 r.2] 25, R] := sat_sel [1, 0, 2] rfl h3
  refine plain_act (i := 2) (by kernel_rfl) ?_
  refine an_call (d := some 7) (f := 42) (args := [Value.slice (some ⟨b, off, none⟩) n cp, Value.agg #[Value.int IntKind.i64 r.1, Value.int IntKind.u32 r.2]]) (by kernel_rfl) Try.call42 (index_ht b off n cp t A cs r hv hn hb) (F := [Cl r1 [Value.int IntKind.i64 r.1, Value.int IntKind.u32 r.2] 25, R]) h5 ?_
  rintro v K w6 (⟨z, rfl, hz, rfl⟩) h7
  refine ⟨_, rfl, ?_⟩
  have h8 : sat g w6 [Cl b cs t, Cl r1 [Value.int IntKind.i64 r.1, Value.int IntKind.u32 r.2] 25, R] := h7
  have hz0 := fi_neg hz hr
  refine plain_batch (rest := []) [⟨3, [], some (Value.bool false)⟩, ⟨4, [], none⟩] (l' := [(4, Value.bool false), (8, Value.bool false), (7, Value.int IntKind.i64 z), (6, Value.agg #[Value.int IntKind.i64 r.1, Value.int IntKind.u32 r.2]), (5, Value.slice (some ⟨b, off, none⟩) n cp), (0, Value.slice (some ⟨b, off, none⟩) n cp), (1, Value.agg #[Value.int IntKind.i64 r.1, Value.int IntKind.u32 r.2]), (3, Value.pointer (some ⟨r1, 0, none⟩)), (4, Value.bool false)] ++ lr4) (pts' := []) (eqs := [(Value.bool (decide (z ≥ 0)), Value.bool false)]) (by kernel_rfl) ⟨(ov_f (by omega)), trivial⟩ (AllC_nil _) ?_
  change Code.wp _ (CA Try.f35 [1, 1]) _ _ _
  refine fr_cut [(0, Value.slice (some ⟨b, off, none⟩) n cp), (1, Value.agg #[Value.int IntKind.i64 r.1, Value.int IntKind.u32 r.2]), (3, Value.pointer (some ⟨r1, 0, none⟩)), (4, Value.bool false)] ⟨rfl, rfl, rfl, rfl, trivial⟩ (fun a => Code.wp _ _ _ a _) (fun lr9 => ?_)
  refine go_rt (by kernel_rfl) ?_
  repeat (first | simp only [Exit.inBlock] | simp only [Exit.then])
  have h10 : sat g w6 [Cl b cs t, R] := sat_sel [0, 2] rfl h8
  refine ht_out [] (Value.bool false) [] (by kernel_rfl) (by intro q hq; cases hq) ?_
  exact ⟨Value.bool false, [Cl b cs t], rfl, ⟨rfl, rfl⟩, h10⟩

set_option maxHeartbeats 4000000 in
theorem has_in (b : Nat) (L : List Rf) (r : Rf) (hr : r ∈ L) : HT Try.prog 13 [Value.pointer (some ⟨b, 0, none⟩), Value.agg #[Value.int IntKind.i64 r.1, Value.int IntKind.u32 r.2]] [PStk b L] (fun v K => v = Value.bool true ∧ K = [PStk b L]) := by
  refine ht_in 9 [(0, Value.pointer (some ⟨b, 0, none⟩)), (1, Value.agg #[Value.int IntKind.i64 r.1, Value.int IntKind.u32 r.2])] Try.func13 (by kernel_rfl) Try.ntmps13 rfl rfl ?_
  intro g w0 R h0
  obtain ⟨T1, hT2, h3⟩ := sat_open (X := List Rf) (p := fun T => (L ++ T).length = 32) (B := fun T => Cl b (stk L.length (L ++ T)) 57) h0 (fun _ hh => hh)
  rw [List.length_append] at hT2
  refine go_seq (x := CA Try.f13 [0]) (y := CA Try.f13 [1]) (by kernel_rfl) ?_
  refine go_pln (id := 0) (ops := RA Try.f13 [0]) [0, 1] (by kernel_rfl) (by kernel_rfl) ?_
  refine plain_act (i := 0) (by kernel_rfl) ?_
  refine an_new (d := 3) (fun xb_ => Value.pointer (some ⟨xb_, 0, none⟩)) (fun xb_ => Obj.cells [Value.int IntKind.i64 r.1, Value.int IntKind.u32 r.2].toArray 25 (0, 0)) (fun xb_ => by kernel_rfl) (by kernel_rfl) rfl h3 ?_
  intro r4 w5 (h6 : sat g w5 [Cl r4 [Value.int IntKind.i64 r.1, Value.int IntKind.u32 r.2] 25, Cl b (stk L.length (L ++ T1)) 57, R])
  refine plain_batch (rest := []) [⟨1, [], none⟩] (l' := [(4, Value.bool false), (3, Value.pointer (some ⟨r4, 0, none⟩)), (0, Value.pointer (some ⟨b, 0, none⟩)), (1, Value.agg #[Value.int IntKind.i64 r.1, Value.int IntKind.u32 r.2])]) (pts' := []) (eqs := []) (by kernel_rfl) trivial (AllC_nil _) ?_
  change Code.wp _ (CA Try.f13 [1]) _ _ _
  refine fr_cut [(0, Value.pointer (some ⟨b, 0, none⟩)), (1, Value.agg #[Value.int IntKind.i64 r.1, Value.int IntKind.u32 r.2]), (3, Value.pointer (some ⟨r4, 0, none⟩)), (4, Value.bool false)] ⟨rfl, rfl, rfl, rfl, trivial⟩ (fun a => Code.wp _ _ _ a _) (fun lr7 => ?_)
  refine go_seq (x := CA Try.f13 [1, 0]) (y := CA Try.f13 [1, 1]) (by kernel_rfl) ?_
  refine go_drw (id := 1) (ops := RA Try.f13 [1, 0]) (Tr.fl 0 (Tr.fl 2 (Tr.an 1 (Tr.an 3 (Tr.fl 4 Tr.nil))))) (by kernel_rfl) (by kernel_rfl) (by kernel_rfl) (by kernel_rfl) (fun _ _ d _ _ h => by cases d <;> exact h) h6 ?_
  intro w8 h9
  refine draw_batch (t := (Tr.an 1 (Tr.an 3 (Tr.fl 4 Tr.nil)))) [⟨0, [], none⟩, ⟨2, [Value.int IntKind.i64 r.1, Value.int IntKind.u32 r.2], none⟩] (l' := [(7, Value.agg #[Value.int IntKind.i64 r.1, Value.int IntKind.u32 r.2]), (5, Value.pointer (some ⟨b, 0, none⟩)), (0, Value.pointer (some ⟨b, 0, none⟩)), (1, Value.agg #[Value.int IntKind.i64 r.1, Value.int IntKind.u32 r.2]), (3, Value.pointer (some ⟨r4, 0, none⟩)), (4, Value.bool false)] ++ lr7) (pts' := [(2, ⟨r4, 0, none⟩, Value.int IntKind.i64 r.1), (2, ⟨r4, 1, none⟩, Value.int IntKind.u32 r.2)]) (eqs := []) (by kernel_rfl) trivial (AllC_cons (sat_cell h9 0 rfl rfl) (AllC_cons (sat_cell h9 0 rfl rfl) (AllC_nil _))) ?_
  have h10 : sat g w8 [Cl b (stk L.length (L ++ T1)) 57, Cl r4 [Value.int IntKind.i64 r.1, Value.int IntKind.u32 r.2] 25, R] := sat_sel [1, 0, 2] rfl h9
  refine draw_act (i := 1) [(2, ⟨r4, 0, none⟩, Value.int IntKind.i64 r.1), (2, ⟨r4, 1, none⟩, Value.int IntKind.u32 r.2)] (by kernel_rfl) (by kernel_rfl) ?_
  refine an_call (d := some 6) (f := 36) (args := [Value.pointer (some ⟨b, 0, none⟩)]) (by kernel_rfl) Try.call36 (used_ht b L.length (L ++ T1) (by omega)) (F := [Cl r4 [Value.int IntKind.i64 r.1, Value.int IntKind.u32 r.2] 25, R]) h10 ?_
  rintro v K w11 (⟨rfl, rfl⟩) h12
  refine ⟨_, rfl, ?_⟩
  have h13 : sat g w11 [Cl b (stk L.length (L ++ T1)) 57, Cl r4 [Value.int IntKind.i64 r.1, Value.int IntKind.u32 r.2] 25, R] := h12
  refine ⟨(AllC_cons (sat_cell h13 1 rfl rfl) (AllC_cons (sat_cell h13 1 rfl rfl) (AllC_nil _))), ?_⟩
  refine draw_act (i := 3) [] (by kernel_rfl) (by kernel_rfl) ?_
  refine an_call (d := some 8) (f := 35) (args := [Value.slice (some ⟨b, 2, none⟩) L.length 32, Value.agg #[Value.int IntKind.i64 r.1, Value.int IntKind.u32 r.2]]) (by kernel_rfl) Try.call35 (contains_in b 2 L.length 32 57 L (stk L.length (L ++ T1)) r hr (view_stk _ L T1) rfl (by omega)) (F := [Cl r4 [Value.int IntKind.i64 r.1, Value.int IntKind.u32 r.2] 25, R]) h13 ?_
  rintro v K w14 (⟨rfl, rfl⟩) h15
  refine ⟨_, rfl, ?_⟩
  have h16 : sat g w14 [Cl b (stk L.length (L ++ T1)) 57, Cl r4 [Value.int IntKind.i64 r.1, Value.int IntKind.u32 r.2] 25, R] := h15
  refine ⟨(AllC_nil _), ?_⟩
  refine draw_batch (t := Tr.nil) [⟨4, [], none⟩] (l' := [(4, Value.bool true), (8, Value.bool true), (6, Value.slice (some ⟨b, 2, none⟩) L.length 32), (7, Value.agg #[Value.int IntKind.i64 r.1, Value.int IntKind.u32 r.2]), (5, Value.pointer (some ⟨b, 0, none⟩)), (0, Value.pointer (some ⟨b, 0, none⟩)), (1, Value.agg #[Value.int IntKind.i64 r.1, Value.int IntKind.u32 r.2]), (3, Value.pointer (some ⟨r4, 0, none⟩)), (4, Value.bool false)] ++ lr7) (pts' := []) (eqs := []) (by kernel_rfl) trivial (AllC_nil _) ?_
  change Code.wp _ (CA Try.f13 [1, 1]) _ _ _
  refine fr_cut [(0, Value.pointer (some ⟨b, 0, none⟩)), (1, Value.agg #[Value.int IntKind.i64 r.1, Value.int IntKind.u32 r.2]), (3, Value.pointer (some ⟨r4, 0, none⟩)), (4, Value.bool true)] ⟨rfl, rfl, rfl, rfl, trivial⟩ (fun a => Code.wp _ _ _ a _) (fun lr17 => ?_)
  refine go_rt (by kernel_rfl) ?_
  have h18 : sat g w14 [PStk b L, Cl r4 [Value.int IntKind.i64 r.1, Value.int IntKind.u32 r.2] 25, R] := sat_imp h16 (fun _ hh => ⟨T1, (by rw [List.length_append]; exact hT2), hh⟩)
  repeat (first | simp only [Exit.inBlock] | simp only [Exit.then])
  have h19 : sat g w14 [PStk b L, R] := sat_sel [0, 2] rfl h18
  refine ht_out [] (Value.bool true) [] (by kernel_rfl) (by intro q hq; cases hq) ?_
  exact ⟨Value.bool true, [PStk b L], rfl, ⟨rfl, rfl⟩, h19⟩

set_option maxHeartbeats 4000000 in
theorem has_out (b : Nat) (L : List Rf) (r : Rf) (hr : r ∉ L) : HT Try.prog 13 [Value.pointer (some ⟨b, 0, none⟩), Value.agg #[Value.int IntKind.i64 r.1, Value.int IntKind.u32 r.2]] [PStk b L] (fun v K => v = Value.bool false ∧ K = [PStk b L]) := by
  refine ht_in 9 [(0, Value.pointer (some ⟨b, 0, none⟩)), (1, Value.agg #[Value.int IntKind.i64 r.1, Value.int IntKind.u32 r.2])] Try.func13 (by kernel_rfl) Try.ntmps13 rfl rfl ?_
  intro g w0 R h0
  obtain ⟨T1, hT2, h3⟩ := sat_open (X := List Rf) (p := fun T => (L ++ T).length = 32) (B := fun T => Cl b (stk L.length (L ++ T)) 57) h0 (fun _ hh => hh)
  rw [List.length_append] at hT2
  refine go_seq (x := CA Try.f13 [0]) (y := CA Try.f13 [1]) (by kernel_rfl) ?_
  refine go_pln (id := 0) (ops := RA Try.f13 [0]) [0, 1] (by kernel_rfl) (by kernel_rfl) ?_
  refine plain_act (i := 0) (by kernel_rfl) ?_
  refine an_new (d := 3) (fun xb_ => Value.pointer (some ⟨xb_, 0, none⟩)) (fun xb_ => Obj.cells [Value.int IntKind.i64 r.1, Value.int IntKind.u32 r.2].toArray 25 (0, 0)) (fun xb_ => by kernel_rfl) (by kernel_rfl) rfl h3 ?_
  intro r4 w5 (h6 : sat g w5 [Cl r4 [Value.int IntKind.i64 r.1, Value.int IntKind.u32 r.2] 25, Cl b (stk L.length (L ++ T1)) 57, R])
  refine plain_batch (rest := []) [⟨1, [], none⟩] (l' := [(4, Value.bool false), (3, Value.pointer (some ⟨r4, 0, none⟩)), (0, Value.pointer (some ⟨b, 0, none⟩)), (1, Value.agg #[Value.int IntKind.i64 r.1, Value.int IntKind.u32 r.2])]) (pts' := []) (eqs := []) (by kernel_rfl) trivial (AllC_nil _) ?_
  change Code.wp _ (CA Try.f13 [1]) _ _ _
  refine fr_cut [(0, Value.pointer (some ⟨b, 0, none⟩)), (1, Value.agg #[Value.int IntKind.i64 r.1, Value.int IntKind.u32 r.2]), (3, Value.pointer (some ⟨r4, 0, none⟩)), (4, Value.bool false)] ⟨rfl, rfl, rfl, rfl, trivial⟩ (fun a => Code.wp _ _ _ a _) (fun lr7 => ?_)
  refine go_seq (x := CA Try.f13 [1, 0]) (y := CA Try.f13 [1, 1]) (by kernel_rfl) ?_
  refine go_drw (id := 1) (ops := RA Try.f13 [1, 0]) (Tr.fl 0 (Tr.fl 2 (Tr.an 1 (Tr.an 3 (Tr.fl 4 Tr.nil))))) (by kernel_rfl) (by kernel_rfl) (by kernel_rfl) (by kernel_rfl) (fun _ _ d _ _ h => by cases d <;> exact h) h6 ?_
  intro w8 h9
  refine draw_batch (t := (Tr.an 1 (Tr.an 3 (Tr.fl 4 Tr.nil)))) [⟨0, [], none⟩, ⟨2, [Value.int IntKind.i64 r.1, Value.int IntKind.u32 r.2], none⟩] (l' := [(7, Value.agg #[Value.int IntKind.i64 r.1, Value.int IntKind.u32 r.2]), (5, Value.pointer (some ⟨b, 0, none⟩)), (0, Value.pointer (some ⟨b, 0, none⟩)), (1, Value.agg #[Value.int IntKind.i64 r.1, Value.int IntKind.u32 r.2]), (3, Value.pointer (some ⟨r4, 0, none⟩)), (4, Value.bool false)] ++ lr7) (pts' := [(2, ⟨r4, 0, none⟩, Value.int IntKind.i64 r.1), (2, ⟨r4, 1, none⟩, Value.int IntKind.u32 r.2)]) (eqs := []) (by kernel_rfl) trivial (AllC_cons (sat_cell h9 0 rfl rfl) (AllC_cons (sat_cell h9 0 rfl rfl) (AllC_nil _))) ?_
  have h10 : sat g w8 [Cl b (stk L.length (L ++ T1)) 57, Cl r4 [Value.int IntKind.i64 r.1, Value.int IntKind.u32 r.2] 25, R] := sat_sel [1, 0, 2] rfl h9
  refine draw_act (i := 1) [(2, ⟨r4, 0, none⟩, Value.int IntKind.i64 r.1), (2, ⟨r4, 1, none⟩, Value.int IntKind.u32 r.2)] (by kernel_rfl) (by kernel_rfl) ?_
  refine an_call (d := some 6) (f := 36) (args := [Value.pointer (some ⟨b, 0, none⟩)]) (by kernel_rfl) Try.call36 (used_ht b L.length (L ++ T1) (by omega)) (F := [Cl r4 [Value.int IntKind.i64 r.1, Value.int IntKind.u32 r.2] 25, R]) h10 ?_
  rintro v K w11 (⟨rfl, rfl⟩) h12
  refine ⟨_, rfl, ?_⟩
  have h13 : sat g w11 [Cl b (stk L.length (L ++ T1)) 57, Cl r4 [Value.int IntKind.i64 r.1, Value.int IntKind.u32 r.2] 25, R] := h12
  refine ⟨(AllC_cons (sat_cell h13 1 rfl rfl) (AllC_cons (sat_cell h13 1 rfl rfl) (AllC_nil _))), ?_⟩
  refine draw_act (i := 3) [] (by kernel_rfl) (by kernel_rfl) ?_
  refine an_call (d := some 8) (f := 35) (args := [Value.slice (some ⟨b, 2, none⟩) L.length 32, Value.agg #[Value.int IntKind.i64 r.1, Value.int IntKind.u32 r.2]]) (by kernel_rfl) Try.call35 (contains_out b 2 L.length 32 57 L (stk L.length (L ++ T1)) r hr (view_stk _ L T1) rfl (by omega)) (F := [Cl r4 [Value.int IntKind.i64 r.1, Value.int IntKind.u32 r.2] 25, R]) h13 ?_
  rintro v K w14 (⟨rfl, rfl⟩) h15
  refine ⟨_, rfl, ?_⟩
  have h16 : sat g w14 [Cl b (stk L.length (L ++ T1)) 57, Cl r4 [Value.int IntKind.i64 r.1, Value.int IntKind.u32 r.2] 25, R] := h15
  refine ⟨(AllC_nil _), ?_⟩
  refine draw_batch (t := Tr.nil) [⟨4, [], none⟩] (l' := [(4, Value.bool false), (8, Value.bool false), (6, Value.slice (some ⟨b, 2, none⟩) L.length 32), (7, Value.agg #[Value.int IntKind.i64 r.1, Value.int IntKind.u32 r.2]), (5, Value.pointer (some ⟨b, 0, none⟩)), (0, Value.pointer (some ⟨b, 0, none⟩)), (1, Value.agg #[Value.int IntKind.i64 r.1, Value.int IntKind.u32 r.2]), (3, Value.pointer (some ⟨r4, 0, none⟩)), (4, Value.bool false)] ++ lr7) (pts' := []) (eqs := []) (by kernel_rfl) trivial (AllC_nil _) ?_
  change Code.wp _ (CA Try.f13 [1, 1]) _ _ _
  refine fr_cut [(0, Value.pointer (some ⟨b, 0, none⟩)), (1, Value.agg #[Value.int IntKind.i64 r.1, Value.int IntKind.u32 r.2]), (3, Value.pointer (some ⟨r4, 0, none⟩)), (4, Value.bool false)] ⟨rfl, rfl, rfl, rfl, trivial⟩ (fun a => Code.wp _ _ _ a _) (fun lr17 => ?_)
  refine go_rt (by kernel_rfl) ?_
  have h18 : sat g w14 [PStk b L, Cl r4 [Value.int IntKind.i64 r.1, Value.int IntKind.u32 r.2] 25, R] := sat_imp h16 (fun _ hh => ⟨T1, (by rw [List.length_append]; exact hT2), hh⟩)
  repeat (first | simp only [Exit.inBlock] | simp only [Exit.then])
  have h19 : sat g w14 [PStk b L, R] := sat_sel [0, 2] rfl h18
  refine ht_out [] (Value.bool false) [] (by kernel_rfl) (by intro q hq; cases hq) ?_
  exact ⟨Value.bool false, [PStk b L], rfl, ⟨rfl, rfl⟩, h19⟩

set_option maxHeartbeats 4000000 in
theorem fcl_ht (q : Nat) (x r : Rf) : HT Try.prog 38 [Value.agg #[Value.int IntKind.i64 x.1, Value.int IntKind.u32 x.2], Value.pointer (some ⟨q, 0, none⟩)] [Cl q [Value.int IntKind.i64 r.1, Value.int IntKind.u32 r.2] 25] (fun v K => (v = Value.bool true ∧ x = r ∧ K = [Cl q [Value.int IntKind.i64 r.1, Value.int IntKind.u32 r.2] 25]) ∨ (v = Value.bool false ∧ x ≠ r ∧ K = [Cl q [Value.int IntKind.i64 r.1, Value.int IntKind.u32 r.2] 25])) := by
  refine ht_in 7 [(0, Value.agg #[Value.int IntKind.i64 x.1, Value.int IntKind.u32 x.2]), (1, Value.pointer (some ⟨q, 0, none⟩))] Try.func38 (by kernel_rfl) Try.ntmps38 rfl rfl ?_
  intro g w0 R h0
  refine go_seq (x := CA Try.f38 [0]) (y := CA Try.f38 [1]) (by kernel_rfl) ?_
  refine go_pln (id := 0) (ops := RA Try.f38 [0]) [0, 1] (by kernel_rfl) (by kernel_rfl) ?_
  refine plain_act (i := 0) (by kernel_rfl) ?_
  refine an_new (d := 2) (fun xb_ => Value.pointer (some ⟨xb_, 0, none⟩)) (fun xb_ => Obj.cells [Value.int IntKind.i64 x.1, Value.int IntKind.u32 x.2].toArray 25 (0, 0)) (fun xb_ => by kernel_rfl) (by kernel_rfl) rfl h0 ?_
  intro r1 w2 (h3 : sat g w2 [Cl r1 [Value.int IntKind.i64 x.1, Value.int IntKind.u32 x.2] 25, Cl q [Value.int IntKind.i64 r.1, Value.int IntKind.u32 r.2] 25, R])
  refine plain_batch (rest := []) [⟨1, [], none⟩] (l' := [(3, Value.bool false), (2, Value.pointer (some ⟨r1, 0, none⟩)), (0, Value.agg #[Value.int IntKind.i64 x.1, Value.int IntKind.u32 x.2]), (1, Value.pointer (some ⟨q, 0, none⟩))]) (pts' := []) (eqs := []) (by kernel_rfl) trivial (AllC_nil _) ?_
  change Code.wp _ (CA Try.f38 [1]) _ _ _
  refine fr_cut [(0, Value.agg #[Value.int IntKind.i64 x.1, Value.int IntKind.u32 x.2]), (1, Value.pointer (some ⟨q, 0, none⟩)), (2, Value.pointer (some ⟨r1, 0, none⟩)), (3, Value.bool false)] ⟨rfl, rfl, rfl, rfl, trivial⟩ (fun a => Code.wp _ _ _ a _) (fun lr4 => ?_)
  refine go_seq (x := CA Try.f38 [1, 0]) (y := CA Try.f38 [1, 1]) (by kernel_rfl) ?_
  refine go_pln (id := 1) (ops := RA Try.f38 [1, 0]) [0, 1, 2, 3] (by kernel_rfl) (by kernel_rfl) ?_
  refine plain_batch (rest := [2, 3]) [⟨0, [Value.int IntKind.i64 x.1, Value.int IntKind.u32 x.2], none⟩, ⟨1, [Value.int IntKind.i64 r.1, Value.int IntKind.u32 r.2], none⟩] (l' := [(5, Value.agg #[Value.int IntKind.i64 r.1, Value.int IntKind.u32 r.2]), (4, Value.agg #[Value.int IntKind.i64 x.1, Value.int IntKind.u32 x.2]), (0, Value.agg #[Value.int IntKind.i64 x.1, Value.int IntKind.u32 x.2]), (1, Value.pointer (some ⟨q, 0, none⟩)), (2, Value.pointer (some ⟨r1, 0, none⟩)), (3, Value.bool false)] ++ lr4) (pts' := [(1, ⟨q, 0, none⟩, Value.int IntKind.i64 r.1), (1, ⟨q, 1, none⟩, Value.int IntKind.u32 r.2), (0, ⟨r1, 0, none⟩, Value.int IntKind.i64 x.1), (0, ⟨r1, 1, none⟩, Value.int IntKind.u32 x.2)]) (eqs := []) (by kernel_rfl) trivial (AllC_cons (sat_cell h3 1 rfl rfl) (AllC_cons (sat_cell h3 1 rfl rfl) (AllC_cons (sat_cell h3 0 rfl rfl) (AllC_cons (sat_cell h3 0 rfl rfl) (AllC_nil _))))) ?_
  by_cases c5 : x.1 = r.1
  ·
    by_cases c6 : x.2 = r.2
    ·
      refine plain_law (i := 2) 6 (Value.bool true) (by kernel_rfl) (seq25_eql_t (o := opA (RA Try.f38 [1, 0]) 2) (x := (Operand.tmp 4)) (y := (Operand.tmp 5)) x.1 x.2 r.1 r.2 (by kernel_rfl) (by kernel_rfl) (by kernel_rfl) ⟨(by omega), (by omega)⟩ _) ?_
      refine plain_batch (rest := []) [⟨3, [], none⟩] (l' := [(3, Value.bool true), (6, Value.bool true), (5, Value.agg #[Value.int IntKind.i64 r.1, Value.int IntKind.u32 r.2]), (4, Value.agg #[Value.int IntKind.i64 x.1, Value.int IntKind.u32 x.2]), (0, Value.agg #[Value.int IntKind.i64 x.1, Value.int IntKind.u32 x.2]), (1, Value.pointer (some ⟨q, 0, none⟩)), (2, Value.pointer (some ⟨r1, 0, none⟩)), (3, Value.bool false)] ++ lr4) (pts' := []) (eqs := []) (by kernel_rfl) trivial (AllC_nil _) ?_
      change Code.wp _ (CA Try.f38 [1, 1]) _ _ _
      refine fr_cut [(0, Value.agg #[Value.int IntKind.i64 x.1, Value.int IntKind.u32 x.2]), (1, Value.pointer (some ⟨q, 0, none⟩)), (2, Value.pointer (some ⟨r1, 0, none⟩)), (3, Value.bool true)] ⟨rfl, rfl, rfl, rfl, trivial⟩ (fun a => Code.wp _ _ _ a _) (fun lr7 => ?_)
      refine go_rt (by kernel_rfl) ?_
      repeat (first | simp only [Exit.inBlock] | simp only [Exit.then])
      have h8 : sat g w2 [Cl q [Value.int IntKind.i64 r.1, Value.int IntKind.u32 r.2] 25, Cl r1 [Value.int IntKind.i64 x.1, Value.int IntKind.u32 x.2] 25, R] := sat_sel [1, 0, 2] rfl h3
      have h9 : sat g w2 [Cl q [Value.int IntKind.i64 r.1, Value.int IntKind.u32 r.2] 25, R] := sat_sel [0, 2] rfl h8
      refine ht_out [] (Value.bool true) [] (by kernel_rfl) (by intro q hq; cases hq) ?_
      exact ⟨Value.bool true, [Cl q [Value.int IntKind.i64 r.1, Value.int IntKind.u32 r.2] 25], rfl, .inl ⟨rfl, Prod.ext (by omega) (by omega), rfl⟩, h9⟩
    ·
      refine plain_law (i := 2) 6 (Value.bool false) (by kernel_rfl) (seq25_eql_f (o := opA (RA Try.f38 [1, 0]) 2) (x := (Operand.tmp 4)) (y := (Operand.tmp 5)) x.1 x.2 r.1 r.2 (by kernel_rfl) (by kernel_rfl) (by kernel_rfl) (by omega) _) ?_
      refine plain_batch (rest := []) [⟨3, [], none⟩] (l' := [(3, Value.bool false), (6, Value.bool false), (5, Value.agg #[Value.int IntKind.i64 r.1, Value.int IntKind.u32 r.2]), (4, Value.agg #[Value.int IntKind.i64 x.1, Value.int IntKind.u32 x.2]), (0, Value.agg #[Value.int IntKind.i64 x.1, Value.int IntKind.u32 x.2]), (1, Value.pointer (some ⟨q, 0, none⟩)), (2, Value.pointer (some ⟨r1, 0, none⟩)), (3, Value.bool false)] ++ lr4) (pts' := []) (eqs := []) (by kernel_rfl) trivial (AllC_nil _) ?_
      change Code.wp _ (CA Try.f38 [1, 1]) _ _ _
      refine fr_cut [(0, Value.agg #[Value.int IntKind.i64 x.1, Value.int IntKind.u32 x.2]), (1, Value.pointer (some ⟨q, 0, none⟩)), (2, Value.pointer (some ⟨r1, 0, none⟩)), (3, Value.bool false)] ⟨rfl, rfl, rfl, rfl, trivial⟩ (fun a => Code.wp _ _ _ a _) (fun lr10 => ?_)
      refine go_rt (by kernel_rfl) ?_
      repeat (first | simp only [Exit.inBlock] | simp only [Exit.then])
      have h11 : sat g w2 [Cl q [Value.int IntKind.i64 r.1, Value.int IntKind.u32 r.2] 25, Cl r1 [Value.int IntKind.i64 x.1, Value.int IntKind.u32 x.2] 25, R] := sat_sel [1, 0, 2] rfl h3
      have h12 : sat g w2 [Cl q [Value.int IntKind.i64 r.1, Value.int IntKind.u32 r.2] 25, R] := sat_sel [0, 2] rfl h11
      refine ht_out [] (Value.bool false) [] (by kernel_rfl) (by intro q hq; cases hq) ?_
      exact ⟨Value.bool false, [Cl q [Value.int IntKind.i64 r.1, Value.int IntKind.u32 r.2] 25], rfl, .inr ⟨rfl, (fun e => by have e1 := congrArg Prod.fst e; have e2 := congrArg Prod.snd e; omega), rfl⟩, h12⟩
  ·
    refine plain_law (i := 2) 6 (Value.bool false) (by kernel_rfl) (seq25_eql_f (o := opA (RA Try.f38 [1, 0]) 2) (x := (Operand.tmp 4)) (y := (Operand.tmp 5)) x.1 x.2 r.1 r.2 (by kernel_rfl) (by kernel_rfl) (by kernel_rfl) (by omega) _) ?_
    refine plain_batch (rest := []) [⟨3, [], none⟩] (l' := [(3, Value.bool false), (6, Value.bool false), (5, Value.agg #[Value.int IntKind.i64 r.1, Value.int IntKind.u32 r.2]), (4, Value.agg #[Value.int IntKind.i64 x.1, Value.int IntKind.u32 x.2]), (0, Value.agg #[Value.int IntKind.i64 x.1, Value.int IntKind.u32 x.2]), (1, Value.pointer (some ⟨q, 0, none⟩)), (2, Value.pointer (some ⟨r1, 0, none⟩)), (3, Value.bool false)] ++ lr4) (pts' := []) (eqs := []) (by kernel_rfl) trivial (AllC_nil _) ?_
    change Code.wp _ (CA Try.f38 [1, 1]) _ _ _
    refine fr_cut [(0, Value.agg #[Value.int IntKind.i64 x.1, Value.int IntKind.u32 x.2]), (1, Value.pointer (some ⟨q, 0, none⟩)), (2, Value.pointer (some ⟨r1, 0, none⟩)), (3, Value.bool false)] ⟨rfl, rfl, rfl, rfl, trivial⟩ (fun a => Code.wp _ _ _ a _) (fun lr13 => ?_)
    refine go_rt (by kernel_rfl) ?_
    repeat (first | simp only [Exit.inBlock] | simp only [Exit.then])
    have h14 : sat g w2 [Cl q [Value.int IntKind.i64 r.1, Value.int IntKind.u32 r.2] 25, Cl r1 [Value.int IntKind.i64 x.1, Value.int IntKind.u32 x.2] 25, R] := sat_sel [1, 0, 2] rfl h3
    have h15 : sat g w2 [Cl q [Value.int IntKind.i64 r.1, Value.int IntKind.u32 r.2] 25, R] := sat_sel [0, 2] rfl h14
    refine ht_out [] (Value.bool false) [] (by kernel_rfl) (by intro q hq; cases hq) ?_
    exact ⟨Value.bool false, [Cl q [Value.int IntKind.i64 r.1, Value.int IntKind.u32 r.2] 25], rfl, .inr ⟨rfl, (fun e => by have e1 := congrArg Prod.fst e; have e2 := congrArg Prod.snd e; omega), rfl⟩, h15⟩

set_option maxHeartbeats 4000000 in
theorem indexf_ht (b off n cp t q : Nat) (A : List Rf) (cs : List Value) (r : Rf) (hv : ∀ (k : Nat) (x : Rf), A[k]? = some x → cs[off + k * 2]? = some (Value.int .i64 x.1) ∧ cs[off + k * 2 + 1]? = some (Value.int .u32 x.2)) (hn : A.length = n) (hb : n ≤ 1000000) : HT Try.prog 37 [Value.slice (some ⟨b, off, none⟩) n cp, Value.func (Fn.func 38) #[] #[Value.pointer (some ⟨q, 0, none⟩)]] [Cl b cs t, Cl q [Value.int IntKind.i64 r.1, Value.int IntKind.u32 r.2] 25] (fun v K => ∃ z : Int, v = Value.int .i64 z ∧ Fi A r z ∧ K = [Cl b cs t, Cl q [Value.int IntKind.i64 r.1, Value.int IntKind.u32 r.2] 25]) := by
  refine ht_in 19 [(0, Value.slice (some ⟨b, off, none⟩) n cp), (1, Value.func (Fn.func 38) #[] #[Value.pointer (some ⟨q, 0, none⟩)])] Try.func37 (by kernel_rfl) Try.ntmps37 rfl rfl ?_
  intro g w0 R h0
  refine go_seq (x := CA Try.f37 [0]) (y := CA Try.f37 [1]) (by kernel_rfl) ?_
  refine go_pln (id := 0) (ops := RA Try.f37 [0]) [0] (by kernel_rfl) (by kernel_rfl) ?_
  refine plain_batch (rest := []) [⟨0, [], none⟩] (l' := [(4, Value.int IntKind.i64 0), (0, Value.slice (some ⟨b, off, none⟩) n cp), (1, Value.func (Fn.func 38) #[] #[Value.pointer (some ⟨q, 0, none⟩)])]) (pts' := []) (eqs := []) (by kernel_rfl) trivial (AllC_nil _) ?_
  change Code.wp _ (CA Try.f37 [1]) _ _ _
  refine fr_cut [(0, Value.slice (some ⟨b, off, none⟩) n cp), (1, Value.func (Fn.func 38) #[] #[Value.pointer (some ⟨q, 0, none⟩)]), (4, Value.int IntKind.i64 0)] ⟨rfl, rfl, rfl, trivial⟩ (fun a => Code.wp _ _ _ a _) (fun lr1 => ?_)
  refine go_seq (x := CA Try.f37 [1, 0]) (y := CA Try.f37 [1, 1]) (by kernel_rfl) ?_
  refine go_seq (x := CA Try.f37 [1, 0, 0]) (y := CA Try.f37 [1, 0, 1]) (by kernel_rfl) ?_
  refine go_pln (id := 1) (ops := RA Try.f37 [1, 0, 0]) [0, 1, 2] (by kernel_rfl) (by kernel_rfl) ?_
  refine plain_batch (rest := []) [⟨0, [], none⟩, ⟨1, [], none⟩, ⟨2, [], none⟩] (l' := [(8, Value.int IntKind.i64 0), (7, Value.int IntKind.i64 (((n : Nat) : Int))), (6, Value.slice (some ⟨b, off, none⟩) n cp), (0, Value.slice (some ⟨b, off, none⟩) n cp), (1, Value.func (Fn.func 38) #[] #[Value.pointer (some ⟨q, 0, none⟩)]), (4, Value.int IntKind.i64 0)] ++ lr1) (pts' := []) (eqs := []) (by kernel_rfl) trivial (AllC_nil _) ?_
  change Code.wp _ (CA Try.f37 [1, 0, 1]) _ _ _
  refine fr_cut [(0, Value.slice (some ⟨b, off, none⟩) n cp), (1, Value.func (Fn.func 38) #[] #[Value.pointer (some ⟨q, 0, none⟩)]), (4, Value.int IntKind.i64 0), (7, Value.int IntKind.i64 (((n : Nat) : Int))), (8, Value.int IntKind.i64 0)] ⟨rfl, rfl, rfl, rfl, rfl, trivial⟩ (fun a => Code.wp _ _ _ a _) (fun lr2 => ?_)
  refine go_blk (id := 0) (x := CA Try.f37 [1, 0, 1, 0]) (by kernel_rfl) ?_
  refine lp (x := CA Try.f37 [1, 0, 1, 0, 0]) (by kernel_rfl) (fun mz_ a w => ∃ k : Nat, ∃ lr : Fr, mz_ = n - k ∧ (k ≤ n) ∧ (∀ j : Nat, j < k → A[j]? ≠ some r) ∧ a = mk 19 ([(0, Value.slice (some ⟨b, off, none⟩) n cp), (1, Value.func (Fn.func 38) #[] #[Value.pointer (some ⟨q, 0, none⟩)]), (7, Value.int IntKind.i64 (((n : Nat) : Int))), (8, Value.int IntKind.i64 (((k : Nat) : Int)))] ++ lr) ∧ sat g w [Cl b cs t, Cl q [Value.int IntKind.i64 r.1, Value.int IntKind.u32 r.2] 25, R]) (n) ⟨0, _, rfl, Nat.zero_le _, (by intro j hj; omega), (mk_live [(0, Value.slice (some ⟨b, off, none⟩) n cp), (1, Value.func (Fn.func 38) #[] #[Value.pointer (some ⟨q, 0, none⟩)]), (7, Value.int IntKind.i64 (((n : Nat) : Int))), (8, Value.int IntKind.i64 (((0 : Nat) : Int)))] ⟨rfl, rfl, rfl, (ov_int (by omega)), trivial⟩), h0⟩ ?_
  rintro m4 a5 w6 ⟨k, lr3, rfl, hk, hno, rfl, h7⟩
  change Code.wp _ (CA Try.f37 [1, 0, 1, 0, 0]) _ _ _
  refine go_seq (x := CA Try.f37 [1, 0, 1, 0, 0, 0]) (y := CA Try.f37 [1, 0, 1, 0, 0, 1]) (by kernel_rfl) ?_
  refine go_pln (id := 2) (ops := RA Try.f37 [1, 0, 1, 0, 0, 0]) [0] (by kernel_rfl) (by kernel_rfl) ?_
  by_cases c8 : ((k : Nat) : Int) < ((n : Nat) : Int)
  ·
    refine plain_batch (rest := []) [⟨0, [], some (Value.bool true)⟩] (l' := [(9, Value.bool true), (0, Value.slice (some ⟨b, off, none⟩) n cp), (1, Value.func (Fn.func 38) #[] #[Value.pointer (some ⟨q, 0, none⟩)]), (7, Value.int IntKind.i64 (((n : Nat) : Int))), (8, Value.int IntKind.i64 (((k : Nat) : Int)))] ++ lr3) (pts' := []) (eqs := [(Value.bool (decide (((k : Nat) : Int) < ((n : Nat) : Int))), Value.bool true)]) (by kernel_rfl) ⟨(ov_t (by omega)), trivial⟩ (AllC_nil _) ?_
    change Code.wp _ (CA Try.f37 [1, 0, 1, 0, 0, 1]) _ _ _
    refine fr_cut [(0, Value.slice (some ⟨b, off, none⟩) n cp), (1, Value.func (Fn.func 38) #[] #[Value.pointer (some ⟨q, 0, none⟩)]), (7, Value.int IntKind.i64 (((n : Nat) : Int))), (8, Value.int IntKind.i64 (((k : Nat) : Int))), (9, Value.bool true)] ⟨rfl, rfl, rfl, rfl, rfl, trivial⟩ (fun a => Code.wp _ _ _ a _) (fun lr9 => ?_)
    refine go_seq (x := CA Try.f37 [1, 0, 1, 0, 0, 1, 0]) (y := CA Try.f37 [1, 0, 1, 0, 0, 1, 1]) (by kernel_rfl) ?_
    refine go_cnd (x := (Operand.tmp 9)) (s := CA Try.f37 [1, 0, 1, 0, 0, 1, 0, 0]) (t := CA Try.f37 [1, 0, 1, 0, 0, 1, 0, 1]) true (by kernel_rfl) (by kernel_rfl) ?_
    change Code.wp _ (CA Try.f37 [1, 0, 1, 0, 0, 1, 0, 0]) _ _ _
    refine go_skp (by kernel_rfl) ?_
    change Code.wp _ (CA Try.f37 [1, 0, 1, 0, 0, 1, 1]) _ _ _
    refine go_seq (x := CA Try.f37 [1, 0, 1, 0, 0, 1, 1, 0]) (y := CA Try.f37 [1, 0, 1, 0, 0, 1, 1, 1]) (by kernel_rfl) ?_
    refine go_blk (id := 1) (x := CA Try.f37 [1, 0, 1, 0, 0, 1, 1, 0, 0]) (by kernel_rfl) ?_
    refine go_seq (x := CA Try.f37 [1, 0, 1, 0, 0, 1, 1, 0, 0, 0]) (y := CA Try.f37 [1, 0, 1, 0, 0, 1, 1, 0, 0, 1]) (by kernel_rfl) ?_
    refine go_pln (id := 3) (ops := RA Try.f37 [1, 0, 1, 0, 0, 1, 1, 0, 0, 0]) [0, 1] (by kernel_rfl) (by kernel_rfl) ?_
    refine plain_batch (rest := []) [⟨0, [], none⟩, ⟨1, [], none⟩] (l' := [(5, Value.int IntKind.i64 (((k : Nat) : Int))), (10, Value.int IntKind.i64 (((k : Nat) : Int))), (0, Value.slice (some ⟨b, off, none⟩) n cp), (1, Value.func (Fn.func 38) #[] #[Value.pointer (some ⟨q, 0, none⟩)]), (7, Value.int IntKind.i64 (((n : Nat) : Int))), (8, Value.int IntKind.i64 (((k : Nat) : Int))), (9, Value.bool true)] ++ lr9) (pts' := []) (eqs := []) (by kernel_rfl) trivial (AllC_nil _) ?_
    change Code.wp _ (CA Try.f37 [1, 0, 1, 0, 0, 1, 1, 0, 0, 1]) _ _ _
    refine fr_cut [(0, Value.slice (some ⟨b, off, none⟩) n cp), (1, Value.func (Fn.func 38) #[] #[Value.pointer (some ⟨q, 0, none⟩)]), (5, Value.int IntKind.i64 (((k : Nat) : Int))), (7, Value.int IntKind.i64 (((n : Nat) : Int))), (8, Value.int IntKind.i64 (((k : Nat) : Int))), (9, Value.bool true)] ⟨rfl, rfl, rfl, rfl, rfl, rfl, trivial⟩ (fun a => Code.wp _ _ _ a _) (fun lr10 => ?_)
    refine go_seq (x := CA Try.f37 [1, 0, 1, 0, 0, 1, 1, 0, 0, 1, 0]) (y := CA Try.f37 [1, 0, 1, 0, 0, 1, 1, 0, 0, 1, 1]) (by kernel_rfl) ?_
    refine go_pln (id := 4) (ops := RA Try.f37 [1, 0, 1, 0, 0, 1, 1, 0, 0, 1, 0]) [0, 1, 2, 3, 4, 5] (by kernel_rfl) (by kernel_rfl) ?_
    obtain ⟨x11, hx12⟩ : ∃ x, A[k]? = some x := ⟨_, List.getElem?_eq_getElem (by omega)⟩
    refine plain_batch (rest := [3, 4, 5]) [⟨0, [], none⟩, ⟨1, [], none⟩, ⟨2, [], none⟩] (l' := [(13, Value.int IntKind.i64 (((k : Nat) : Int))), (12, Value.slice (some ⟨b, off, none⟩) n cp), (11, Value.func (Fn.func 38) #[] #[Value.pointer (some ⟨q, 0, none⟩)]), (0, Value.slice (some ⟨b, off, none⟩) n cp), (1, Value.func (Fn.func 38) #[] #[Value.pointer (some ⟨q, 0, none⟩)]), (5, Value.int IntKind.i64 (((k : Nat) : Int))), (7, Value.int IntKind.i64 (((n : Nat) : Int))), (8, Value.int IntKind.i64 (((k : Nat) : Int))), (9, Value.bool true)] ++ lr10) (pts' := []) (eqs := []) (by kernel_rfl) trivial (AllC_nil _) ?_
    refine plain_law (i := 3) 14 (Value.pointer (some ⟨b, off + k * 2, none⟩)) (by kernel_rfl) (law_indexSl (o := opA (RA Try.f37 [1, 0, 1, 0, 0, 1, 1, 0, 0, 1, 0]) 3) (x := (Operand.tmp 12)) (i := (Operand.tmp 13)) (b := b) (off := off) (z := (((k : Nat) : Int))) (len := n) (cap := cp) (by kernel_rfl) Try.underlying28 2 (by kernel_rfl) k (by kernel_rfl) (by kernel_rfl) (by omega) (by omega) (off + k * 2) (by omega) _) ?_
    refine plain_batch (rest := [5]) [⟨4, [Value.int IntKind.i64 x11.1, Value.int IntKind.u32 x11.2], none⟩] (l' := [(15, Value.agg #[Value.int IntKind.i64 x11.1, Value.int IntKind.u32 x11.2]), (14, Value.pointer (some ⟨b, off + k * 2, none⟩)), (13, Value.int IntKind.i64 (((k : Nat) : Int))), (12, Value.slice (some ⟨b, off, none⟩) n cp), (11, Value.func (Fn.func 38) #[] #[Value.pointer (some ⟨q, 0, none⟩)]), (0, Value.slice (some ⟨b, off, none⟩) n cp), (1, Value.func (Fn.func 38) #[] #[Value.pointer (some ⟨q, 0, none⟩)]), (5, Value.int IntKind.i64 (((k : Nat) : Int))), (7, Value.int IntKind.i64 (((n : Nat) : Int))), (8, Value.int IntKind.i64 (((k : Nat) : Int))), (9, Value.bool true)] ++ lr10) (pts' := [(4, ⟨b, off + k * 2, none⟩, Value.int IntKind.i64 x11.1), (4, ⟨b, off + k * 2 + 1, none⟩, Value.int IntKind.u32 x11.2)]) (eqs := []) (by kernel_rfl) trivial (AllC_cons (sat_cell h7 0 rfl (hv _ _ hx12).1) (AllC_cons (sat_cell h7 0 rfl (hv _ _ hx12).2) (AllC_nil _))) ?_
    have h13 : sat g w6 [Cl q [Value.int IntKind.i64 r.1, Value.int IntKind.u32 r.2] 25, Cl b cs t, R] := sat_sel [1, 0, 2] rfl h7
    refine plain_act (i := 5) (by kernel_rfl) ?_
    refine an_call (d := some 16) (f := 38) (args := [Value.agg #[Value.int IntKind.i64 x11.1, Value.int IntKind.u32 x11.2], Value.pointer (some ⟨q, 0, none⟩)]) (by kernel_rfl) Try.call38 (fcl_ht q x11 r) (F := [Cl b cs t, R]) h13 ?_
    rintro v K w14 (⟨rfl, hx, rfl⟩ | ⟨rfl, hx, rfl⟩) h15
    ·
      refine ⟨_, rfl, ?_⟩
      have h16 : sat g w14 [Cl q [Value.int IntKind.i64 r.1, Value.int IntKind.u32 r.2] 25, Cl b cs t, R] := h15
      change Code.wp _ (CA Try.f37 [1, 0, 1, 0, 0, 1, 1, 0, 0, 1, 1]) _ _ _
      refine fr_cut [(0, Value.slice (some ⟨b, off, none⟩) n cp), (1, Value.func (Fn.func 38) #[] #[Value.pointer (some ⟨q, 0, none⟩)]), (5, Value.int IntKind.i64 (((k : Nat) : Int))), (7, Value.int IntKind.i64 (((n : Nat) : Int))), (8, Value.int IntKind.i64 (((k : Nat) : Int))), (9, Value.bool true), (16, Value.bool true)] ⟨rfl, rfl, rfl, rfl, rfl, rfl, rfl, trivial⟩ (fun a => Code.wp _ _ _ a _) (fun lr17 => ?_)
      refine go_cnd (x := (Operand.tmp 16)) (s := CA Try.f37 [1, 0, 1, 0, 0, 1, 1, 0, 0, 1, 1, 0]) (t := CA Try.f37 [1, 0, 1, 0, 0, 1, 1, 0, 0, 1, 1, 1]) true (by kernel_rfl) (by kernel_rfl) ?_
      change Code.wp _ (CA Try.f37 [1, 0, 1, 0, 0, 1, 1, 0, 0, 1, 1, 0]) _ _ _
      refine go_seq (x := CA Try.f37 [1, 0, 1, 0, 0, 1, 1, 0, 0, 1, 1, 0, 0]) (y := CA Try.f37 [1, 0, 1, 0, 0, 1, 1, 0, 0, 1, 1, 0, 1]) (by kernel_rfl) ?_
      refine go_pln (id := 5) (ops := RA Try.f37 [1, 0, 1, 0, 0, 1, 1, 0, 0, 1, 1, 0, 0]) [0, 1] (by kernel_rfl) (by kernel_rfl) ?_
      refine plain_batch (rest := []) [⟨0, [], none⟩, ⟨1, [], none⟩] (l' := [(4, Value.int IntKind.i64 (((k : Nat) : Int))), (17, Value.int IntKind.i64 (((k : Nat) : Int))), (0, Value.slice (some ⟨b, off, none⟩) n cp), (1, Value.func (Fn.func 38) #[] #[Value.pointer (some ⟨q, 0, none⟩)]), (5, Value.int IntKind.i64 (((k : Nat) : Int))), (7, Value.int IntKind.i64 (((n : Nat) : Int))), (8, Value.int IntKind.i64 (((k : Nat) : Int))), (9, Value.bool true), (16, Value.bool true)] ++ lr17) (pts' := []) (eqs := []) (by kernel_rfl) trivial (AllC_nil _) ?_
      change Code.wp _ (CA Try.f37 [1, 0, 1, 0, 0, 1, 1, 0, 0, 1, 1, 0, 1]) _ _ _
      refine fr_cut [(0, Value.slice (some ⟨b, off, none⟩) n cp), (1, Value.func (Fn.func 38) #[] #[Value.pointer (some ⟨q, 0, none⟩)]), (4, Value.int IntKind.i64 (((k : Nat) : Int))), (5, Value.int IntKind.i64 (((k : Nat) : Int))), (7, Value.int IntKind.i64 (((n : Nat) : Int))), (8, Value.int IntKind.i64 (((k : Nat) : Int))), (9, Value.bool true), (16, Value.bool true)] ⟨rfl, rfl, rfl, rfl, rfl, rfl, rfl, rfl, trivial⟩ (fun a => Code.wp _ _ _ a _) (fun lr18 => ?_)
      refine go_rt (by kernel_rfl) ?_
      repeat (first | simp only [Exit.inBlock] | simp only [Exit.then])
      have h19 : sat g w14 [Cl b cs t, Cl q [Value.int IntKind.i64 r.1, Value.int IntKind.u32 r.2] 25, R] := sat_sel [1, 0, 2] rfl h16
      refine ht_out [] (Value.int IntKind.i64 (((k : Nat) : Int))) [] (by kernel_rfl) (by intro q hq; cases hq) ?_
      exact ⟨Value.int IntKind.i64 (((k : Nat) : Int)), [Cl b cs t, Cl q [Value.int IntKind.i64 r.1, Value.int IntKind.u32 r.2] 25], rfl, ⟨k, rfl, .inl ⟨k, rfl, by rw [hx12, hx], hno⟩, rfl⟩, h19⟩
    ·
      refine ⟨_, rfl, ?_⟩
      have h20 : sat g w14 [Cl q [Value.int IntKind.i64 r.1, Value.int IntKind.u32 r.2] 25, Cl b cs t, R] := h15
      change Code.wp _ (CA Try.f37 [1, 0, 1, 0, 0, 1, 1, 0, 0, 1, 1]) _ _ _
      refine fr_cut [(0, Value.slice (some ⟨b, off, none⟩) n cp), (1, Value.func (Fn.func 38) #[] #[Value.pointer (some ⟨q, 0, none⟩)]), (5, Value.int IntKind.i64 (((k : Nat) : Int))), (7, Value.int IntKind.i64 (((n : Nat) : Int))), (8, Value.int IntKind.i64 (((k : Nat) : Int))), (9, Value.bool true), (16, Value.bool false)] ⟨rfl, rfl, rfl, rfl, rfl, rfl, rfl, trivial⟩ (fun a => Code.wp _ _ _ a _) (fun lr21 => ?_)
      refine go_cnd (x := (Operand.tmp 16)) (s := CA Try.f37 [1, 0, 1, 0, 0, 1, 1, 0, 0, 1, 1, 0]) (t := CA Try.f37 [1, 0, 1, 0, 0, 1, 1, 0, 0, 1, 1, 1]) false (by kernel_rfl) (by kernel_rfl) ?_
      change Code.wp _ (CA Try.f37 [1, 0, 1, 0, 0, 1, 1, 0, 0, 1, 1, 1]) _ _ _
      refine go_skp (by kernel_rfl) ?_
      change Code.wp _ (CA Try.f37 [1, 0, 1, 0, 0, 1, 1, 1]) _ _ _
      refine go_pln (id := 6) (ops := RA Try.f37 [1, 0, 1, 0, 0, 1, 1, 1]) [0, 1] (by kernel_rfl) (by kernel_rfl) ?_
      refine plain_batch (rest := []) [⟨0, [], some (Value.int IntKind.i64 (((k : Nat) : Int) + 1))⟩, ⟨1, [], none⟩] (l' := [(8, Value.int IntKind.i64 (((k : Nat) : Int) + 1)), (18, Value.int IntKind.i64 (((k : Nat) : Int) + 1)), (0, Value.slice (some ⟨b, off, none⟩) n cp), (1, Value.func (Fn.func 38) #[] #[Value.pointer (some ⟨q, 0, none⟩)]), (5, Value.int IntKind.i64 (((k : Nat) : Int))), (7, Value.int IntKind.i64 (((n : Nat) : Int))), (8, Value.int IntKind.i64 (((k : Nat) : Int))), (9, Value.bool true), (16, Value.bool false)] ++ lr21) (pts' := []) (eqs := [(Value.int IntKind.i64 (IntKind.wrap IntKind.i64 ((((k : Nat) : Int)) + 1)), Value.int IntKind.i64 (((k : Nat) : Int) + 1))]) (by kernel_rfl) ⟨(ov_i64 (by omega) (by omega) (by omega)), trivial⟩ (AllC_nil _) ?_
      have h22 : sat g w14 [Cl b cs t, Cl q [Value.int IntKind.i64 r.1, Value.int IntKind.u32 r.2] 25, R] := sat_sel [1, 0, 2] rfl h20
      change ∃ n', n' < _ ∧ _
      refine ⟨(n - (k + 1)), by omega, (k + 1), _, rfl, (by omega), (no_step hno hx12 (fun e => hx e.symm)), (mk_live [(0, Value.slice (some ⟨b, off, none⟩) n cp), (1, Value.func (Fn.func 38) #[] #[Value.pointer (some ⟨q, 0, none⟩)]), (7, Value.int IntKind.i64 (((n : Nat) : Int))), (8, Value.int IntKind.i64 ((((k + 1) : Nat) : Int)))] ⟨rfl, rfl, rfl, (ov_int (by omega)), trivial⟩), h22⟩
  ·
    refine plain_batch (rest := []) [⟨0, [], some (Value.bool false)⟩] (l' := [(9, Value.bool false), (0, Value.slice (some ⟨b, off, none⟩) n cp), (1, Value.func (Fn.func 38) #[] #[Value.pointer (some ⟨q, 0, none⟩)]), (7, Value.int IntKind.i64 (((n : Nat) : Int))), (8, Value.int IntKind.i64 (((k : Nat) : Int)))] ++ lr3) (pts' := []) (eqs := [(Value.bool (decide (((k : Nat) : Int) < ((n : Nat) : Int))), Value.bool false)]) (by kernel_rfl) ⟨(ov_f (by omega)), trivial⟩ (AllC_nil _) ?_
    change Code.wp _ (CA Try.f37 [1, 0, 1, 0, 0, 1]) _ _ _
    refine fr_cut [(0, Value.slice (some ⟨b, off, none⟩) n cp), (1, Value.func (Fn.func 38) #[] #[Value.pointer (some ⟨q, 0, none⟩)]), (7, Value.int IntKind.i64 (((n : Nat) : Int))), (8, Value.int IntKind.i64 (((k : Nat) : Int))), (9, Value.bool false)] ⟨rfl, rfl, rfl, rfl, rfl, trivial⟩ (fun a => Code.wp _ _ _ a _) (fun lr23 => ?_)
    refine go_seq (x := CA Try.f37 [1, 0, 1, 0, 0, 1, 0]) (y := CA Try.f37 [1, 0, 1, 0, 0, 1, 1]) (by kernel_rfl) ?_
    refine go_cnd (x := (Operand.tmp 9)) (s := CA Try.f37 [1, 0, 1, 0, 0, 1, 0, 0]) (t := CA Try.f37 [1, 0, 1, 0, 0, 1, 0, 1]) false (by kernel_rfl) (by kernel_rfl) ?_
    change Code.wp _ (CA Try.f37 [1, 0, 1, 0, 0, 1, 0, 1]) _ _ _
    refine go_ext (id := 0) (by kernel_rfl) ?_
    change Code.wp _ (CA Try.f37 [1, 1]) _ _ _
    refine go_seq (x := CA Try.f37 [1, 1, 0]) (y := CA Try.f37 [1, 1, 1]) (by kernel_rfl) ?_
    refine go_pln (id := 7) (ops := RA Try.f37 [1, 1, 0]) [0] (by kernel_rfl) (by kernel_rfl) ?_
    refine plain_batch (rest := []) [⟨0, [], none⟩] (l' := [(4, Value.int IntKind.i64 (-1)), (0, Value.slice (some ⟨b, off, none⟩) n cp), (1, Value.func (Fn.func 38) #[] #[Value.pointer (some ⟨q, 0, none⟩)]), (7, Value.int IntKind.i64 (((n : Nat) : Int))), (8, Value.int IntKind.i64 (((k : Nat) : Int))), (9, Value.bool false)] ++ lr23) (pts' := []) (eqs := []) (by kernel_rfl) trivial (AllC_nil _) ?_
    change Code.wp _ (CA Try.f37 [1, 1, 1]) _ _ _
    refine fr_cut [(0, Value.slice (some ⟨b, off, none⟩) n cp), (1, Value.func (Fn.func 38) #[] #[Value.pointer (some ⟨q, 0, none⟩)]), (4, Value.int IntKind.i64 (-1)), (7, Value.int IntKind.i64 (((n : Nat) : Int))), (8, Value.int IntKind.i64 (((k : Nat) : Int))), (9, Value.bool false)] ⟨rfl, rfl, rfl, rfl, rfl, rfl, trivial⟩ (fun a => Code.wp _ _ _ a _) (fun lr24 => ?_)
    refine go_rt (by kernel_rfl) ?_
    repeat (first | simp only [Exit.inBlock] | simp only [Exit.then])
    refine ht_out [] (Value.int IntKind.i64 (-1)) [] (by kernel_rfl) (by intro q hq; cases hq) ?_
    exact ⟨Value.int IntKind.i64 (-1), [Cl b cs t, Cl q [Value.int IntKind.i64 r.1, Value.int IntKind.u32 r.2] 25], rfl, ⟨-1, rfl, .inr ⟨rfl, no_all hno (by omega)⟩, rfl⟩, h7⟩

set_option maxHeartbeats 4000000 in
theorem find_in (b : Nat) (L : List Rf) (r : Rf) (k : Nat) (hr : L[k]? = some r) (hmin : ∀ j : Nat, j < k → L[j]? ≠ some r) : HT Try.prog 14 [Value.pointer (some ⟨b, 0, none⟩), Value.agg #[Value.int IntKind.i64 r.1, Value.int IntKind.u32 r.2]] [PStk b L] (fun v K => v = Value.tuple #[Value.int .i64 (k : Int), Value.bool true] ∧ K = [PStk b L]) := by
  refine ht_in 15 [(0, Value.pointer (some ⟨b, 0, none⟩)), (1, Value.agg #[Value.int IntKind.i64 r.1, Value.int IntKind.u32 r.2])] Try.func14 (by kernel_rfl) Try.ntmps14 rfl rfl ?_
  intro g w0 R h0
  obtain ⟨T1, hT2, h3⟩ := sat_open (X := List Rf) (p := fun T => (L ++ T).length = 32) (B := fun T => Cl b (stk L.length (L ++ T)) 57) h0 (fun _ hh => hh)
  rw [List.length_append] at hT2
  refine go_seq (x := CA Try.f14 [0]) (y := CA Try.f14 [1]) (by kernel_rfl) ?_
  refine go_pln (id := 0) (ops := RA Try.f14 [0]) [0, 1, 2] (by kernel_rfl) (by kernel_rfl) ?_
  refine plain_act (i := 0) (by kernel_rfl) ?_
  refine an_new (d := 3) (fun xb_ => Value.pointer (some ⟨xb_, 0, none⟩)) (fun xb_ => Obj.cells [Value.int IntKind.i64 r.1, Value.int IntKind.u32 r.2].toArray 25 (0, 0)) (fun xb_ => by kernel_rfl) (by kernel_rfl) rfl h3 ?_
  intro r4 w5 (h6 : sat g w5 [Cl r4 [Value.int IntKind.i64 r.1, Value.int IntKind.u32 r.2] 25, Cl b (stk L.length (L ++ T1)) 57, R])
  refine plain_batch (rest := []) [⟨1, [], none⟩, ⟨2, [], none⟩] (l' := [(5, Value.bool false), (4, Value.int IntKind.i64 0), (3, Value.pointer (some ⟨r4, 0, none⟩)), (0, Value.pointer (some ⟨b, 0, none⟩)), (1, Value.agg #[Value.int IntKind.i64 r.1, Value.int IntKind.u32 r.2])]) (pts' := []) (eqs := []) (by kernel_rfl) trivial (AllC_nil _) ?_
  change Code.wp _ (CA Try.f14 [1]) _ _ _
  refine fr_cut [(0, Value.pointer (some ⟨b, 0, none⟩)), (1, Value.agg #[Value.int IntKind.i64 r.1, Value.int IntKind.u32 r.2]), (3, Value.pointer (some ⟨r4, 0, none⟩)), (4, Value.int IntKind.i64 0), (5, Value.bool false)] ⟨rfl, rfl, rfl, rfl, rfl, trivial⟩ (fun a => Code.wp _ _ _ a _) (fun lr7 => ?_)
  refine go_seq (x := CA Try.f14 [1, 0]) (y := CA Try.f14 [1, 1]) (by kernel_rfl) ?_
  refine go_pln (id := 1) (ops := RA Try.f14 [1, 0]) [0, 1, 2, 3, 4] (by kernel_rfl) (by kernel_rfl) ?_
  refine plain_batch (rest := [1, 2, 3, 4]) [⟨0, [], none⟩] (l' := [(7, Value.pointer (some ⟨b, 0, none⟩)), (0, Value.pointer (some ⟨b, 0, none⟩)), (1, Value.agg #[Value.int IntKind.i64 r.1, Value.int IntKind.u32 r.2]), (3, Value.pointer (some ⟨r4, 0, none⟩)), (4, Value.int IntKind.i64 0), (5, Value.bool false)] ++ lr7) (pts' := []) (eqs := []) (by kernel_rfl) trivial (AllC_nil _) ?_
  have h8 : sat g w5 [Cl b (stk L.length (L ++ T1)) 57, Cl r4 [Value.int IntKind.i64 r.1, Value.int IntKind.u32 r.2] 25, R] := sat_sel [1, 0, 2] rfl h6
  refine plain_act (i := 1) (by kernel_rfl) ?_
  refine an_call (d := some 8) (f := 36) (args := [Value.pointer (some ⟨b, 0, none⟩)]) (by kernel_rfl) Try.call36 (used_ht b L.length (L ++ T1) (by omega)) (F := [Cl r4 [Value.int IntKind.i64 r.1, Value.int IntKind.u32 r.2] 25, R]) h8 ?_
  rintro v K w9 (⟨rfl, rfl⟩) h10
  refine ⟨_, rfl, ?_⟩
  have h11 : sat g w9 [Cl b (stk L.length (L ++ T1)) 57, Cl r4 [Value.int IntKind.i64 r.1, Value.int IntKind.u32 r.2] 25, R] := h10
  refine plain_batch (rest := [3, 4]) [⟨2, [], none⟩] (l' := [(9, Value.func (Fn.func 38) #[] #[Value.pointer (some ⟨r4, 0, none⟩)]), (8, Value.slice (some ⟨b, 2, none⟩) L.length 32), (7, Value.pointer (some ⟨b, 0, none⟩)), (0, Value.pointer (some ⟨b, 0, none⟩)), (1, Value.agg #[Value.int IntKind.i64 r.1, Value.int IntKind.u32 r.2]), (3, Value.pointer (some ⟨r4, 0, none⟩)), (4, Value.int IntKind.i64 0), (5, Value.bool false)] ++ lr7) (pts' := []) (eqs := []) (by kernel_rfl) trivial (AllC_nil _) ?_
  refine plain_act (i := 3) (by kernel_rfl) ?_
  refine an_call (d := some 10) (f := 37) (args := [Value.slice (some ⟨b, 2, none⟩) L.length 32, Value.func (Fn.func 38) #[] #[Value.pointer (some ⟨r4, 0, none⟩)]]) (by kernel_rfl) Try.call37 (indexf_ht b 2 L.length 32 57 r4 L (stk L.length (L ++ T1)) r (view_stk _ L T1) rfl (by omega)) (F := [R]) h11 ?_
  rintro v K w12 (⟨z, rfl, hz, rfl⟩) h13
  refine ⟨_, rfl, ?_⟩
  have h14 : sat g w12 [Cl b (stk L.length (L ++ T1)) 57, Cl r4 [Value.int IntKind.i64 r.1, Value.int IntKind.u32 r.2] 25, R] := h13
  obtain rfl := fi_at hz hr hmin
  refine plain_batch (rest := []) [⟨4, [], none⟩] (l' := [(6, Value.int IntKind.i64 (((k : Nat) : Int))), (10, Value.int IntKind.i64 (((k : Nat) : Int))), (9, Value.func (Fn.func 38) #[] #[Value.pointer (some ⟨r4, 0, none⟩)]), (8, Value.slice (some ⟨b, 2, none⟩) L.length 32), (7, Value.pointer (some ⟨b, 0, none⟩)), (0, Value.pointer (some ⟨b, 0, none⟩)), (1, Value.agg #[Value.int IntKind.i64 r.1, Value.int IntKind.u32 r.2]), (3, Value.pointer (some ⟨r4, 0, none⟩)), (4, Value.int IntKind.i64 0), (5, Value.bool false)] ++ lr7) (pts' := []) (eqs := []) (by kernel_rfl) trivial (AllC_nil _) ?_
  change Code.wp _ (CA Try.f14 [1, 1]) _ _ _
  refine fr_cut [(0, Value.pointer (some ⟨b, 0, none⟩)), (1, Value.agg #[Value.int IntKind.i64 r.1, Value.int IntKind.u32 r.2]), (3, Value.pointer (some ⟨r4, 0, none⟩)), (4, Value.int IntKind.i64 0), (5, Value.bool false), (6, Value.int IntKind.i64 (((k : Nat) : Int)))] ⟨rfl, rfl, rfl, rfl, rfl, rfl, trivial⟩ (fun a => Code.wp _ _ _ a _) (fun lr15 => ?_)
  refine go_seq (x := CA Try.f14 [1, 1, 0]) (y := CA Try.f14 [1, 1, 1]) (by kernel_rfl) ?_
  refine go_pln (id := 2) (ops := RA Try.f14 [1, 1, 0]) [0, 1, 2, 3, 4, 5] (by kernel_rfl) (by kernel_rfl) ?_
  refine plain_batch (rest := []) [⟨0, [], none⟩, ⟨1, [], some (Value.int IntKind.i64 (((k : Nat) : Int)))⟩, ⟨2, [], none⟩, ⟨3, [], some (Value.bool true)⟩, ⟨4, [], none⟩, ⟨5, [], none⟩] (l' := [(5, Value.bool true), (4, Value.int IntKind.i64 (((k : Nat) : Int))), (14, Value.bool true), (13, Value.int IntKind.i64 (((k : Nat) : Int))), (12, Value.int IntKind.i64 (((k : Nat) : Int))), (11, Value.int IntKind.i64 (((k : Nat) : Int))), (0, Value.pointer (some ⟨b, 0, none⟩)), (1, Value.agg #[Value.int IntKind.i64 r.1, Value.int IntKind.u32 r.2]), (3, Value.pointer (some ⟨r4, 0, none⟩)), (4, Value.int IntKind.i64 0), (5, Value.bool false), (6, Value.int IntKind.i64 (((k : Nat) : Int)))] ++ lr15) (pts' := []) (eqs := [(Value.int IntKind.i64 (if ((k : Nat) : Int) < 0 then 0 else ((k : Nat) : Int)), Value.int IntKind.i64 (((k : Nat) : Int))), (Value.bool (decide (((k : Nat) : Int) ≥ 0)), Value.bool true)]) (by kernel_rfl) ⟨(ov_int (if_neg (by omega))), (ov_t (by omega)), trivial⟩ (AllC_nil _) ?_
  change Code.wp _ (CA Try.f14 [1, 1, 1]) _ _ _
  refine fr_cut [(0, Value.pointer (some ⟨b, 0, none⟩)), (1, Value.agg #[Value.int IntKind.i64 r.1, Value.int IntKind.u32 r.2]), (3, Value.pointer (some ⟨r4, 0, none⟩)), (4, Value.int IntKind.i64 (((k : Nat) : Int))), (5, Value.bool true), (6, Value.int IntKind.i64 (((k : Nat) : Int)))] ⟨rfl, rfl, rfl, rfl, rfl, rfl, trivial⟩ (fun a => Code.wp _ _ _ a _) (fun lr16 => ?_)
  refine go_rt (by kernel_rfl) ?_
  have h17 : sat g w12 [PStk b L, Cl r4 [Value.int IntKind.i64 r.1, Value.int IntKind.u32 r.2] 25, R] := sat_imp h14 (fun _ hh => ⟨T1, (by rw [List.length_append]; exact hT2), hh⟩)
  repeat (first | simp only [Exit.inBlock] | simp only [Exit.then])
  have h18 : sat g w12 [PStk b L, R] := sat_sel [0, 2] rfl h17
  refine ht_out [] (Value.tuple #[Value.int IntKind.i64 (((k : Nat) : Int)), Value.bool true]) [] (by kernel_rfl) (by intro q hq; cases hq) ?_
  exact ⟨Value.tuple #[Value.int IntKind.i64 (((k : Nat) : Int)), Value.bool true], [PStk b L], rfl, ⟨rfl, rfl⟩, h18⟩

set_option maxHeartbeats 4000000 in
theorem find_out (b : Nat) (L : List Rf) (r : Rf) (hr : r ∉ L) : HT Try.prog 14 [Value.pointer (some ⟨b, 0, none⟩), Value.agg #[Value.int IntKind.i64 r.1, Value.int IntKind.u32 r.2]] [PStk b L] (fun v K => v = Value.tuple #[Value.int .i64 0, Value.bool false] ∧ K = [PStk b L]) := by
  refine ht_in 15 [(0, Value.pointer (some ⟨b, 0, none⟩)), (1, Value.agg #[Value.int IntKind.i64 r.1, Value.int IntKind.u32 r.2])] Try.func14 (by kernel_rfl) Try.ntmps14 rfl rfl ?_
  intro g w0 R h0
  obtain ⟨T1, hT2, h3⟩ := sat_open (X := List Rf) (p := fun T => (L ++ T).length = 32) (B := fun T => Cl b (stk L.length (L ++ T)) 57) h0 (fun _ hh => hh)
  rw [List.length_append] at hT2
  refine go_seq (x := CA Try.f14 [0]) (y := CA Try.f14 [1]) (by kernel_rfl) ?_
  refine go_pln (id := 0) (ops := RA Try.f14 [0]) [0, 1, 2] (by kernel_rfl) (by kernel_rfl) ?_
  refine plain_act (i := 0) (by kernel_rfl) ?_
  refine an_new (d := 3) (fun xb_ => Value.pointer (some ⟨xb_, 0, none⟩)) (fun xb_ => Obj.cells [Value.int IntKind.i64 r.1, Value.int IntKind.u32 r.2].toArray 25 (0, 0)) (fun xb_ => by kernel_rfl) (by kernel_rfl) rfl h3 ?_
  intro r4 w5 (h6 : sat g w5 [Cl r4 [Value.int IntKind.i64 r.1, Value.int IntKind.u32 r.2] 25, Cl b (stk L.length (L ++ T1)) 57, R])
  refine plain_batch (rest := []) [⟨1, [], none⟩, ⟨2, [], none⟩] (l' := [(5, Value.bool false), (4, Value.int IntKind.i64 0), (3, Value.pointer (some ⟨r4, 0, none⟩)), (0, Value.pointer (some ⟨b, 0, none⟩)), (1, Value.agg #[Value.int IntKind.i64 r.1, Value.int IntKind.u32 r.2])]) (pts' := []) (eqs := []) (by kernel_rfl) trivial (AllC_nil _) ?_
  change Code.wp _ (CA Try.f14 [1]) _ _ _
  refine fr_cut [(0, Value.pointer (some ⟨b, 0, none⟩)), (1, Value.agg #[Value.int IntKind.i64 r.1, Value.int IntKind.u32 r.2]), (3, Value.pointer (some ⟨r4, 0, none⟩)), (4, Value.int IntKind.i64 0), (5, Value.bool false)] ⟨rfl, rfl, rfl, rfl, rfl, trivial⟩ (fun a => Code.wp _ _ _ a _) (fun lr7 => ?_)
  refine go_seq (x := CA Try.f14 [1, 0]) (y := CA Try.f14 [1, 1]) (by kernel_rfl) ?_
  refine go_pln (id := 1) (ops := RA Try.f14 [1, 0]) [0, 1, 2, 3, 4] (by kernel_rfl) (by kernel_rfl) ?_
  refine plain_batch (rest := [1, 2, 3, 4]) [⟨0, [], none⟩] (l' := [(7, Value.pointer (some ⟨b, 0, none⟩)), (0, Value.pointer (some ⟨b, 0, none⟩)), (1, Value.agg #[Value.int IntKind.i64 r.1, Value.int IntKind.u32 r.2]), (3, Value.pointer (some ⟨r4, 0, none⟩)), (4, Value.int IntKind.i64 0), (5, Value.bool false)] ++ lr7) (pts' := []) (eqs := []) (by kernel_rfl) trivial (AllC_nil _) ?_
  have h8 : sat g w5 [Cl b (stk L.length (L ++ T1)) 57, Cl r4 [Value.int IntKind.i64 r.1, Value.int IntKind.u32 r.2] 25, R] := sat_sel [1, 0, 2] rfl h6
  refine plain_act (i := 1) (by kernel_rfl) ?_
  refine an_call (d := some 8) (f := 36) (args := [Value.pointer (some ⟨b, 0, none⟩)]) (by kernel_rfl) Try.call36 (used_ht b L.length (L ++ T1) (by omega)) (F := [Cl r4 [Value.int IntKind.i64 r.1, Value.int IntKind.u32 r.2] 25, R]) h8 ?_
  rintro v K w9 (⟨rfl, rfl⟩) h10
  refine ⟨_, rfl, ?_⟩
  have h11 : sat g w9 [Cl b (stk L.length (L ++ T1)) 57, Cl r4 [Value.int IntKind.i64 r.1, Value.int IntKind.u32 r.2] 25, R] := h10
  refine plain_batch (rest := [3, 4]) [⟨2, [], none⟩] (l' := [(9, Value.func (Fn.func 38) #[] #[Value.pointer (some ⟨r4, 0, none⟩)]), (8, Value.slice (some ⟨b, 2, none⟩) L.length 32), (7, Value.pointer (some ⟨b, 0, none⟩)), (0, Value.pointer (some ⟨b, 0, none⟩)), (1, Value.agg #[Value.int IntKind.i64 r.1, Value.int IntKind.u32 r.2]), (3, Value.pointer (some ⟨r4, 0, none⟩)), (4, Value.int IntKind.i64 0), (5, Value.bool false)] ++ lr7) (pts' := []) (eqs := []) (by kernel_rfl) trivial (AllC_nil _) ?_
  refine plain_act (i := 3) (by kernel_rfl) ?_
  refine an_call (d := some 10) (f := 37) (args := [Value.slice (some ⟨b, 2, none⟩) L.length 32, Value.func (Fn.func 38) #[] #[Value.pointer (some ⟨r4, 0, none⟩)]]) (by kernel_rfl) Try.call37 (indexf_ht b 2 L.length 32 57 r4 L (stk L.length (L ++ T1)) r (view_stk _ L T1) rfl (by omega)) (F := [R]) h11 ?_
  rintro v K w12 (⟨z, rfl, hz, rfl⟩) h13
  refine ⟨_, rfl, ?_⟩
  have h14 : sat g w12 [Cl b (stk L.length (L ++ T1)) 57, Cl r4 [Value.int IntKind.i64 r.1, Value.int IntKind.u32 r.2] 25, R] := h13
  obtain rfl := fi_no hz hr
  refine plain_batch (rest := []) [⟨4, [], none⟩] (l' := [(6, Value.int IntKind.i64 (-1)), (10, Value.int IntKind.i64 (-1)), (9, Value.func (Fn.func 38) #[] #[Value.pointer (some ⟨r4, 0, none⟩)]), (8, Value.slice (some ⟨b, 2, none⟩) L.length 32), (7, Value.pointer (some ⟨b, 0, none⟩)), (0, Value.pointer (some ⟨b, 0, none⟩)), (1, Value.agg #[Value.int IntKind.i64 r.1, Value.int IntKind.u32 r.2]), (3, Value.pointer (some ⟨r4, 0, none⟩)), (4, Value.int IntKind.i64 0), (5, Value.bool false)] ++ lr7) (pts' := []) (eqs := []) (by kernel_rfl) trivial (AllC_nil _) ?_
  change Code.wp _ (CA Try.f14 [1, 1]) _ _ _
  refine fr_cut [(0, Value.pointer (some ⟨b, 0, none⟩)), (1, Value.agg #[Value.int IntKind.i64 r.1, Value.int IntKind.u32 r.2]), (3, Value.pointer (some ⟨r4, 0, none⟩)), (4, Value.int IntKind.i64 0), (5, Value.bool false), (6, Value.int IntKind.i64 (-1))] ⟨rfl, rfl, rfl, rfl, rfl, rfl, trivial⟩ (fun a => Code.wp _ _ _ a _) (fun lr15 => ?_)
  refine go_seq (x := CA Try.f14 [1, 1, 0]) (y := CA Try.f14 [1, 1, 1]) (by kernel_rfl) ?_
  refine go_pln (id := 2) (ops := RA Try.f14 [1, 1, 0]) [0, 1, 2, 3, 4, 5] (by kernel_rfl) (by kernel_rfl) ?_
  refine plain_batch (rest := []) [⟨0, [], none⟩, ⟨1, [], some (Value.int IntKind.i64 0)⟩, ⟨2, [], none⟩, ⟨3, [], none⟩, ⟨4, [], none⟩, ⟨5, [], none⟩] (l' := [(5, Value.bool false), (4, Value.int IntKind.i64 0), (14, Value.bool false), (13, Value.int IntKind.i64 (-1)), (12, Value.int IntKind.i64 0), (11, Value.int IntKind.i64 (-1)), (0, Value.pointer (some ⟨b, 0, none⟩)), (1, Value.agg #[Value.int IntKind.i64 r.1, Value.int IntKind.u32 r.2]), (3, Value.pointer (some ⟨r4, 0, none⟩)), (4, Value.int IntKind.i64 0), (5, Value.bool false), (6, Value.int IntKind.i64 (-1))] ++ lr15) (pts' := []) (eqs := [(Value.int IntKind.i64 (if -1 < 0 then 0 else -1), Value.int IntKind.i64 0)]) (by kernel_rfl) ⟨(ov_int (if_pos (by omega))), trivial⟩ (AllC_nil _) ?_
  change Code.wp _ (CA Try.f14 [1, 1, 1]) _ _ _
  refine fr_cut [(0, Value.pointer (some ⟨b, 0, none⟩)), (1, Value.agg #[Value.int IntKind.i64 r.1, Value.int IntKind.u32 r.2]), (3, Value.pointer (some ⟨r4, 0, none⟩)), (4, Value.int IntKind.i64 0), (5, Value.bool false), (6, Value.int IntKind.i64 (-1))] ⟨rfl, rfl, rfl, rfl, rfl, rfl, trivial⟩ (fun a => Code.wp _ _ _ a _) (fun lr16 => ?_)
  refine go_rt (by kernel_rfl) ?_
  have h17 : sat g w12 [PStk b L, Cl r4 [Value.int IntKind.i64 r.1, Value.int IntKind.u32 r.2] 25, R] := sat_imp h14 (fun _ hh => ⟨T1, (by rw [List.length_append]; exact hT2), hh⟩)
  repeat (first | simp only [Exit.inBlock] | simp only [Exit.then])
  have h18 : sat g w12 [PStk b L, R] := sat_sel [0, 2] rfl h17
  refine ht_out [] (Value.tuple #[Value.int IntKind.i64 0, Value.bool false]) [] (by kernel_rfl) (by intro q hq; cases hq) ?_
  exact ⟨Value.tuple #[Value.int IntKind.i64 0, Value.bool false], [PStk b L], rfl, ⟨rfl, rfl⟩, h18⟩

set_option maxHeartbeats 4000000 in
theorem clone_ht (b off n cp t : Nat) (cs ys : List Value) (hl : ys.length = n * 2) (hb : n ≤ 1000000) (hv : ∀ (j : Nat) (u : Value), ys[j]? = some u → cs[off + j]? = some u) (h1 : ∀ u ∈ ys, u.oneCell' = true) : HT Try.prog 40 [Value.slice (some ⟨b, off, none⟩) n cp] [Cl b cs t] (fun v K => ∃ (p : Option Addr) (c : Nat), v = Value.slice p n c ∧ K = [Cl b cs t, Sl 25 2 p n c ys]) := by
  refine ht_in 8 [(0, Value.slice (some ⟨b, off, none⟩) n cp)] Try.func40 (by kernel_rfl) Try.ntmps40 rfl rfl ?_
  intro g w0 R h0
  refine go_seq (x := CA Try.f40 [0]) (y := CA Try.f40 [1]) (by kernel_rfl) ?_
  refine go_pln (id := 0) (ops := RA Try.f40 [0]) [0] (by kernel_rfl) (by kernel_rfl) ?_
  refine plain_batch (rest := []) [⟨0, [], none⟩] (l' := [(2, Value.slice none 0 0), (0, Value.slice (some ⟨b, off, none⟩) n cp)]) (pts' := []) (eqs := []) (by kernel_rfl) trivial (AllC_nil _) ?_
  change Code.wp _ (CA Try.f40 [1]) _ _ _
  refine fr_cut [(0, Value.slice (some ⟨b, off, none⟩) n cp), (2, Value.slice none 0 0)] ⟨rfl, rfl, trivial⟩ (fun a => Code.wp _ _ _ a _) (fun lr1 => ?_)
  refine go_seq (x := CA Try.f40 [1, 0]) (y := CA Try.f40 [1, 1]) (by kernel_rfl) ?_
  refine go_seq (x := CA Try.f40 [1, 0, 0]) (y := CA Try.f40 [1, 0, 1]) (by kernel_rfl) ?_
  refine go_pln (id := 1) (ops := RA Try.f40 [1, 0, 0]) [0, 1] (by kernel_rfl) (by kernel_rfl) ?_
  refine plain_batch (rest := []) [⟨0, [], none⟩, ⟨1, [], none⟩] (l' := [(4, Value.bool false), (3, Value.slice (some ⟨b, off, none⟩) n cp), (0, Value.slice (some ⟨b, off, none⟩) n cp), (2, Value.slice none 0 0)] ++ lr1) (pts' := []) (eqs := []) (by kernel_rfl) trivial (AllC_nil _) ?_
  change Code.wp _ (CA Try.f40 [1, 0, 1]) _ _ _
  refine fr_cut [(0, Value.slice (some ⟨b, off, none⟩) n cp), (2, Value.slice none 0 0), (4, Value.bool false)] ⟨rfl, rfl, rfl, trivial⟩ (fun a => Code.wp _ _ _ a _) (fun lr2 => ?_)
  refine go_cnd (x := (Operand.tmp 4)) (s := CA Try.f40 [1, 0, 1, 0]) (t := CA Try.f40 [1, 0, 1, 1]) false (by kernel_rfl) (by kernel_rfl) ?_
  change Code.wp _ (CA Try.f40 [1, 0, 1, 1]) _ _ _
  refine go_skp (by kernel_rfl) ?_
  change Code.wp _ (CA Try.f40 [1, 1]) _ _ _
  refine go_seq (x := CA Try.f40 [1, 1, 0]) (y := CA Try.f40 [1, 1, 1]) (by kernel_rfl) ?_
  refine go_pln (id := 3) (ops := RA Try.f40 [1, 1, 0]) [0, 1, 2, 3] (by kernel_rfl) (by kernel_rfl) ?_
  refine plain_act (i := 0) (by kernel_rfl) ?_
  refine an_new (d := 5) (fun xb_ => Value.slice (some ⟨xb_, 0, none⟩) 0 0) (fun xb_ => Obj.cells [].toArray 25 (0, 0)) (fun xb_ => by kernel_rfl) (by kernel_rfl) rfl h0 ?_
  intro r3 w4 (h5 : sat g w4 [Cl r3 [] 25, Cl b cs t, R])
  refine plain_batch (rest := [2, 3]) [⟨1, [], none⟩] (l' := [(6, Value.slice (some ⟨b, off, none⟩) n cp), (5, Value.slice (some ⟨r3, 0, none⟩) 0 0), (0, Value.slice (some ⟨b, off, none⟩) n cp), (2, Value.slice none 0 0), (4, Value.bool false)] ++ lr2) (pts' := []) (eqs := []) (by kernel_rfl) trivial (AllC_nil _) ?_
  have h6 : sat g w4 [Sl 25 2 (some ⟨r3, 0, none⟩) 0 0 (fl eR ([])), Cl b cs t, R] := sl_of_cl h5 rfl (by omega)
  refine plain_act (i := 2) (by kernel_rfl) ?_
  refine an_append (d := 7) (sz := 2) (s := (Operand.tmp 5)) (x := (Operand.tmp 6)) (z := Value.agg #[Value.int IntKind.i64 0, Value.int IntKind.u32 0]) (p := (some ⟨r3, 0, none⟩)) (m := 0) (c := 0) (k := n) (c2 := cp) (a := ⟨b, off, none⟩) (by_ := 16) (by kernel_rfl) (by kernel_rfl) rfl Try.underlying28 (by kernel_rfl) rfl (by decide) (by kernel_rfl) (by kernel_rfl) h6 ys (by omega) (fun j u hj => by rw [add_off]; exact sat_cell h6 1 rfl (hv j u hj)) h1 (by omega) (by omega) n (by omega) ?_
  intro p7 cap8 w9 (h10 : sat g w9 [Sl 25 2 p7 n cap8 ((fl eR ([])) ++ ys), Cl b cs t, R])
  have h11 : sat g w9 [Sl 25 2 p7 n cap8 ys, Cl b cs t, R] := h10
  obtain ⟨hn12, hn13⟩ := sl_le h11
  refine plain_batch (rest := []) [⟨3, [], none⟩] (l' := [(2, Value.slice p7 n cap8), (7, Value.slice p7 n cap8), (6, Value.slice (some ⟨b, off, none⟩) n cp), (5, Value.slice (some ⟨r3, 0, none⟩) 0 0), (0, Value.slice (some ⟨b, off, none⟩) n cp), (2, Value.slice none 0 0), (4, Value.bool false)] ++ lr2) (pts' := []) (eqs := []) (by kernel_rfl) trivial (AllC_nil _) ?_
  change Code.wp _ (CA Try.f40 [1, 1, 1]) _ _ _
  refine fr_cut [(0, Value.slice (some ⟨b, off, none⟩) n cp), (2, Value.slice p7 n cap8), (4, Value.bool false)] ⟨rfl, rfl, rfl, trivial⟩ (fun a => Code.wp _ _ _ a _) (fun lr14 => ?_)
  refine go_rt (by kernel_rfl) ?_
  repeat (first | simp only [Exit.inBlock] | simp only [Exit.then])
  have h15 : sat g w9 [Cl b cs t, Sl 25 2 p7 n cap8 ys, R] := sat_sel [1, 0, 2] rfl h11
  refine ht_out [] (Value.slice p7 n cap8) [] (by kernel_rfl) (by intro q hq; cases hq) ?_
  exact ⟨Value.slice p7 n cap8, [Cl b cs t, Sl 25 2 p7 n cap8 ys], rfl, ⟨p7, cap8, rfl, rfl⟩, h15⟩

set_option maxHeartbeats 4000000 in
theorem all_ht (b : Nat) (L : List Rf) : HT Try.prog 21 [Value.pointer (some ⟨b, 0, none⟩)] [PStk b L] (fun v K => ∃ (p : Option Addr) (c : Nat), v = Value.slice p L.length c ∧ K = [PStk b L, Sl 25 2 p L.length c (flat L)]) := by
  refine ht_in 6 [(0, Value.pointer (some ⟨b, 0, none⟩))] Try.func21 (by kernel_rfl) Try.ntmps21 rfl rfl ?_
  intro g w0 R h0
  obtain ⟨T1, hT2, h3⟩ := sat_open (X := List Rf) (p := fun T => (L ++ T).length = 32) (B := fun T => Cl b (stk L.length (L ++ T)) 57) h0 (fun _ hh => hh)
  rw [List.length_append] at hT2
  refine go_seq (x := CA Try.f21 [0]) (y := CA Try.f21 [1]) (by kernel_rfl) ?_
  refine go_pln (id := 0) (ops := RA Try.f21 [0]) [0] (by kernel_rfl) (by kernel_rfl) ?_
  refine plain_batch (rest := []) [⟨0, [], none⟩] (l' := [(2, Value.slice none 0 0), (0, Value.pointer (some ⟨b, 0, none⟩))]) (pts' := []) (eqs := []) (by kernel_rfl) trivial (AllC_nil _) ?_
  change Code.wp _ (CA Try.f21 [1]) _ _ _
  refine fr_cut [(0, Value.pointer (some ⟨b, 0, none⟩)), (2, Value.slice none 0 0)] ⟨rfl, rfl, trivial⟩ (fun a => Code.wp _ _ _ a _) (fun lr4 => ?_)
  refine go_seq (x := CA Try.f21 [1, 0]) (y := CA Try.f21 [1, 1]) (by kernel_rfl) ?_
  refine go_pln (id := 1) (ops := RA Try.f21 [1, 0]) [0, 1, 2, 3] (by kernel_rfl) (by kernel_rfl) ?_
  refine plain_batch (rest := [1, 2, 3]) [⟨0, [], none⟩] (l' := [(3, Value.pointer (some ⟨b, 0, none⟩)), (0, Value.pointer (some ⟨b, 0, none⟩)), (2, Value.slice none 0 0)] ++ lr4) (pts' := []) (eqs := []) (by kernel_rfl) trivial (AllC_nil _) ?_
  refine plain_act (i := 1) (by kernel_rfl) ?_
  refine an_call (d := some 4) (f := 36) (args := [Value.pointer (some ⟨b, 0, none⟩)]) (by kernel_rfl) Try.call36 (used_ht b L.length (L ++ T1) (by omega)) (F := [R]) h3 ?_
  rintro v K w5 (⟨rfl, rfl⟩) h6
  refine ⟨_, rfl, ?_⟩
  have h7 : sat g w5 [Cl b (stk L.length (L ++ T1)) 57, R] := h6
  refine plain_act (i := 2) (by kernel_rfl) ?_
  refine an_call (d := some 5) (f := 40) (args := [Value.slice (some ⟨b, 2, none⟩) L.length 32]) (by kernel_rfl) Try.call40 (clone_ht b 2 L.length 32 57 (stk L.length (L ++ T1)) (flat L) (flat_len L) (by omega) (viewc_stk _ L T1) (flat_one L)) (F := [R]) h7 ?_
  rintro v K w10 (⟨p8, cp9, rfl, rfl⟩) h11
  refine ⟨_, rfl, ?_⟩
  have h12 : sat g w10 [Cl b (stk L.length (L ++ T1)) 57, Sl 25 2 p8 L.length cp9 (flat L), R] := h11
  refine plain_batch (rest := []) [⟨3, [], none⟩] (l' := [(2, Value.slice p8 L.length cp9), (5, Value.slice p8 L.length cp9), (4, Value.slice (some ⟨b, 2, none⟩) L.length 32), (3, Value.pointer (some ⟨b, 0, none⟩)), (0, Value.pointer (some ⟨b, 0, none⟩)), (2, Value.slice none 0 0)] ++ lr4) (pts' := []) (eqs := []) (by kernel_rfl) trivial (AllC_nil _) ?_
  change Code.wp _ (CA Try.f21 [1, 1]) _ _ _
  refine fr_cut [(0, Value.pointer (some ⟨b, 0, none⟩)), (2, Value.slice p8 L.length cp9)] ⟨rfl, rfl, trivial⟩ (fun a => Code.wp _ _ _ a _) (fun lr13 => ?_)
  refine go_rt (by kernel_rfl) ?_
  have h14 : sat g w10 [PStk b L, Sl 25 2 p8 L.length cp9 (flat L), R] := sat_imp h12 (fun _ hh => ⟨T1, (by rw [List.length_append]; exact hT2), hh⟩)
  repeat (first | simp only [Exit.inBlock] | simp only [Exit.then])
  refine ht_out [] (Value.slice p8 L.length cp9) [] (by kernel_rfl) (by intro q hq; cases hq) ?_
  exact ⟨Value.slice p8 L.length cp9, [PStk b L, Sl 25 2 p8 L.length cp9 (flat L)], rfl, ⟨p8, cp9, rfl, rfl⟩, h14⟩

end Go.Proofs.Ytafencnieimpnaa
