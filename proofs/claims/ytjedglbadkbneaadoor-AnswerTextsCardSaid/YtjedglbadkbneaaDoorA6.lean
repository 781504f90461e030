/- Walks, printed by my generator gen6.py. -/
import Derived.Test.YtjedglbadkbneaaDoorA5
namespace Go.Proofs.YtjedglbadkbneaaDoor
set_option maxHeartbeats 4000000 in
theorem texts_law (wo : World) (hg : Lett wo) (l : List UInt8) (p0 : Option Addr) (n cp : Nat) (M : List Int) (hr : Rd wo p0 n (fl eI M)) (hM : M.length = n) : HT Tryd.prog 3 [Value.string (St l), Value.slice p0 n cp] [Old wo] (fun v K => v = Value.bool true ∧ K = [Old wo]) := by
  refine hi_in 63 [(0, Value.string (St l)), (1, Value.slice p0 n cp)] Tryd.func3 (by kernel_rfl) Tryd.ntmps3 rfl rfl ?_
  intro g w0 R h0
  refine gi_seq (x := CA Tryd.f3 [0]) (y := CA Tryd.f3 [1]) (by kernel_rfl) ?_
  refine gi_pln (id := 0) (ops := RA Tryd.f3 [0]) [0] (by kernel_rfl) (by kernel_rfl) (by kernel_rfl) ?_
  refine plain_batch (rest := []) [⟨0, [], none⟩] (l' := [(4, Value.bool false), (0, Value.string (St l)), (1, Value.slice p0 n cp)]) (pts' := []) (eqs := []) (by kernel_rfl) trivial (AllC_nil _) ?_
  change WP _ _ (CA Tryd.f3 [1]) _ _ _
  refine fr_cut [(0, Value.string (St l)), (1, Value.slice p0 n cp), (4, Value.bool false)] ⟨rfl, rfl, rfl, trivial⟩ (fun a => WP _ _ _ _ a _) (fun lr1 => ?_)
  refine gi_seq (x := CA Tryd.f3 [1, 0]) (y := CA Tryd.f3 [1, 1]) (by kernel_rfl) ?_
  refine gi_seq (x := CA Tryd.f3 [1, 0, 0]) (y := CA Tryd.f3 [1, 0, 1]) (by kernel_rfl) ?_
  refine gi_pln (id := 1) (ops := RA Tryd.f3 [1, 0, 0]) [0, 1, 2, 3, 4, 5, 6, 7] (by kernel_rfl) (by kernel_rfl) (by kernel_rfl) ?_
  refine plain_batch (rest := [2, 3, 4, 5, 6, 7]) [⟨0, [], none⟩, ⟨1, [], some (Value.int IntKind.i64 (((l.length : Nat) : Int)))⟩] (l' := [(14, Value.int IntKind.i64 (((l.length : Nat) : Int))), (13, Value.string (St l)), (0, Value.string (St l)), (1, Value.slice p0 n cp), (4, Value.bool false)] ++ lr1) (pts' := []) (eqs := [(Value.int IntKind.i64 ((St l).size : Int), Value.int IntKind.i64 (((l.length : Nat) : Int)))]) (by kernel_rfl) ⟨(ov_int (st_len _)), trivial⟩ (AllC_nil _) ?_
  by_cases c2 : ((l.length : Nat) : Int) > 3000
  ·
    refine plain_batch (rest := []) [⟨2, [], some (Value.bool true)⟩, ⟨3, [], none⟩, ⟨4, [], none⟩, ⟨5, [], none⟩, ⟨6, [], none⟩, ⟨7, [], none⟩] (l' := [(20, Value.bool true), (19, undef), (18, undef), (17, undef), (16, Value.bool true), (15, Value.bool true), (14, Value.int IntKind.i64 (((l.length : Nat) : Int))), (13, Value.string (St l)), (0, Value.string (St l)), (1, Value.slice p0 n cp), (4, Value.bool false)] ++ lr1) (pts' := []) (eqs := [(Value.bool (decide (((l.length : Nat) : Int) > 3000)), Value.bool true)]) (by kernel_rfl) ⟨(ov_t (by omega)), trivial⟩ (AllC_nil _) ?_
    change WP _ _ (CA Tryd.f3 [1, 0, 1]) _ _ _
    refine fr_cut [(0, Value.string (St l)), (1, Value.slice p0 n cp), (4, Value.bool false), (20, Value.bool true)] ⟨rfl, rfl, rfl, rfl, trivial⟩ (fun a => WP _ _ _ _ a _) (fun lr3 => ?_)
    refine gi_cnd (x := (Operand.tmp 20)) (s := CA Tryd.f3 [1, 0, 1, 0]) (t := CA Tryd.f3 [1, 0, 1, 1]) true (by kernel_rfl) (by kernel_rfl) ?_
    change WP _ _ (CA Tryd.f3 [1, 0, 1, 0]) _ _ _
    refine gi_seq (x := CA Tryd.f3 [1, 0, 1, 0, 0]) (y := CA Tryd.f3 [1, 0, 1, 0, 1]) (by kernel_rfl) ?_
    refine gi_pln (id := 2) (ops := RA Tryd.f3 [1, 0, 1, 0, 0]) [0, 1] (by kernel_rfl) (by kernel_rfl) (by kernel_rfl) ?_
    refine plain_act (i := 0) (by kernel_rfl) ?_
    refine an_call (d := some 21) (f := 11) (args := []) (by kernel_rfl) Tryd.call11 (works_ht wo hg) (F := [R]) h0 ?_
    rintro v K w4 (⟨rfl, rfl⟩) h5
    refine ⟨_, rfl, ?_⟩
    have h6 : sat g w4 [Old wo, R] := h5
    refine plain_batch (rest := []) [⟨1, [], none⟩] (l' := [(4, Value.bool true), (21, Value.bool true), (0, Value.string (St l)), (1, Value.slice p0 n cp), (4, Value.bool false), (20, Value.bool true)] ++ lr3) (pts' := []) (eqs := []) (by kernel_rfl) trivial (AllC_nil _) ?_
    change WP _ _ (CA Tryd.f3 [1, 0, 1, 0, 1]) _ _ _
    refine fr_cut [(0, Value.string (St l)), (1, Value.slice p0 n cp), (4, Value.bool true), (20, Value.bool true)] ⟨rfl, rfl, rfl, rfl, trivial⟩ (fun a => WP _ _ _ _ a _) (fun lr7 => ?_)
    refine gi_rt (by kernel_rfl) ?_
    repeat (first | simp only [Exit.inBlock] | simp only [Exit.then])
    refine hi_out [] (Value.bool true) [] (by kernel_rfl) (by intro q hq; cases hq) ?_
    exact ⟨Value.bool true, [Old wo], rfl, ⟨rfl, rfl⟩, h6⟩
  ·
    refine plain_batch (rest := [6, 7]) [⟨2, [], some (Value.bool false)⟩, ⟨3, [], none⟩, ⟨4, [], none⟩, ⟨5, [], none⟩] (l' := [(18, Value.int IntKind.i64 (((n : Nat) : Int))), (17, Value.slice p0 n cp), (16, Value.bool false), (15, Value.bool false), (14, Value.int IntKind.i64 (((l.length : Nat) : Int))), (13, Value.string (St l)), (0, Value.string (St l)), (1, Value.slice p0 n cp), (4, Value.bool false)] ++ lr1) (pts' := []) (eqs := [(Value.bool (decide (((l.length : Nat) : Int) > 3000)), Value.bool false)]) (by kernel_rfl) ⟨(ov_f (by omega)), trivial⟩ (AllC_nil _) ?_
    by_cases c8 : ((n : Nat) : Int) > 3000
    ·
      refine plain_batch (rest := []) [⟨6, [], some (Value.bool true)⟩, ⟨7, [], none⟩] (l' := [(20, Value.bool true), (19, Value.bool true), (18, Value.int IntKind.i64 (((n : Nat) : Int))), (17, Value.slice p0 n cp), (16, Value.bool false), (15, Value.bool false), (14, Value.int IntKind.i64 (((l.length : Nat) : Int))), (13, Value.string (St l)), (0, Value.string (St l)), (1, Value.slice p0 n cp), (4, Value.bool false)] ++ lr1) (pts' := []) (eqs := [(Value.bool (decide (((n : Nat) : Int) > 3000)), Value.bool true)]) (by kernel_rfl) ⟨(ov_t (by omega)), trivial⟩ (AllC_nil _) ?_
      change WP _ _ (CA Tryd.f3 [1, 0, 1]) _ _ _
      refine fr_cut [(0, Value.string (St l)), (1, Value.slice p0 n cp), (4, Value.bool false), (20, Value.bool true)] ⟨rfl, rfl, rfl, rfl, trivial⟩ (fun a => WP _ _ _ _ a _) (fun lr9 => ?_)
      refine gi_cnd (x := (Operand.tmp 20)) (s := CA Tryd.f3 [1, 0, 1, 0]) (t := CA Tryd.f3 [1, 0, 1, 1]) true (by kernel_rfl) (by kernel_rfl) ?_
      change WP _ _ (CA Tryd.f3 [1, 0, 1, 0]) _ _ _
      refine gi_seq (x := CA Tryd.f3 [1, 0, 1, 0, 0]) (y := CA Tryd.f3 [1, 0, 1, 0, 1]) (by kernel_rfl) ?_
      refine gi_pln (id := 2) (ops := RA Tryd.f3 [1, 0, 1, 0, 0]) [0, 1] (by kernel_rfl) (by kernel_rfl) (by kernel_rfl) ?_
      refine plain_act (i := 0) (by kernel_rfl) ?_
      refine an_call (d := some 21) (f := 11) (args := []) (by kernel_rfl) Tryd.call11 (works_ht wo hg) (F := [R]) h0 ?_
      rintro v K w10 (⟨rfl, rfl⟩) h11
      refine ⟨_, rfl, ?_⟩
      have h12 : sat g w10 [Old wo, R] := h11
      refine plain_batch (rest := []) [⟨1, [], none⟩] (l' := [(4, Value.bool true), (21, Value.bool true), (0, Value.string (St l)), (1, Value.slice p0 n cp), (4, Value.bool false), (20, Value.bool true)] ++ lr9) (pts' := []) (eqs := []) (by kernel_rfl) trivial (AllC_nil _) ?_
      change WP _ _ (CA Tryd.f3 [1, 0, 1, 0, 1]) _ _ _
      refine fr_cut [(0, Value.string (St l)), (1, Value.slice p0 n cp), (4, Value.bool true), (20, Value.bool true)] ⟨rfl, rfl, rfl, rfl, trivial⟩ (fun a => WP _ _ _ _ a _) (fun lr13 => ?_)
      refine gi_rt (by kernel_rfl) ?_
      repeat (first | simp only [Exit.inBlock] | simp only [Exit.then])
      refine hi_out [] (Value.bool true) [] (by kernel_rfl) (by intro q hq; cases hq) ?_
      exact ⟨Value.bool true, [Old wo], rfl, ⟨rfl, rfl⟩, h12⟩
    ·
      refine plain_batch (rest := []) [⟨6, [], some (Value.bool false)⟩, ⟨7, [], none⟩] (l' := [(20, Value.bool false), (19, Value.bool false), (18, Value.int IntKind.i64 (((n : Nat) : Int))), (17, Value.slice p0 n cp), (16, Value.bool false), (15, Value.bool false), (14, Value.int IntKind.i64 (((l.length : Nat) : Int))), (13, Value.string (St l)), (0, Value.string (St l)), (1, Value.slice p0 n cp), (4, Value.bool false)] ++ lr1) (pts' := []) (eqs := [(Value.bool (decide (((n : Nat) : Int) > 3000)), Value.bool false)]) (by kernel_rfl) ⟨(ov_f (by omega)), trivial⟩ (AllC_nil _) ?_
      change WP _ _ (CA Tryd.f3 [1, 0, 1]) _ _ _
      refine fr_cut [(0, Value.string (St l)), (1, Value.slice p0 n cp), (4, Value.bool false), (20, Value.bool false)] ⟨rfl, rfl, rfl, rfl, trivial⟩ (fun a => WP _ _ _ _ a _) (fun lr14 => ?_)
      refine gi_cnd (x := (Operand.tmp 20)) (s := CA Tryd.f3 [1, 0, 1, 0]) (t := CA Tryd.f3 [1, 0, 1, 1]) false (by kernel_rfl) (by kernel_rfl) ?_
      change WP _ _ (CA Tryd.f3 [1, 0, 1, 1]) _ _ _
      refine gi_skp (by kernel_rfl) ?_
      change WP _ _ (CA Tryd.f3 [1, 1]) _ _ _
      refine gi_seq (x := CA Tryd.f3 [1, 1, 0]) (y := CA Tryd.f3 [1, 1, 1]) (by kernel_rfl) ?_
      refine gi_pln (id := 3) (ops := RA Tryd.f3 [1, 1, 0]) [0, 1, 2, 3, 4, 5, 6] (by kernel_rfl) (by kernel_rfl) (by kernel_rfl) ?_
      refine plain_batch (rest := [1, 2, 3, 4, 5, 6]) [⟨0, [], none⟩] (l' := [(23, Value.string (St l)), (0, Value.string (St l)), (1, Value.slice p0 n cp), (4, Value.bool false), (20, Value.bool false)] ++ lr14) (pts' := []) (eqs := []) (by kernel_rfl) trivial (AllC_nil _) ?_
      refine plain_act (i := 1) (by kernel_rfl) ?_
      refine an_call (d := some 24) (f := 12) (args := [Value.string (St l)]) (by kernel_rfl) Tryd.call12 (parse_ht wo hg l (by omega)) (F := [R]) h0 ?_
      rintro v K w17 (⟨p15, cap16, rfl, rfl⟩) h18
      refine ⟨_, rfl, ?_⟩
      have h19 : sat g w17 [Sl 3 1 p15 ((((prs l).1).length)) cap16 (fl eI ((prs l).1)), Old wo, R] := h18
      obtain ⟨hn20, hn21⟩ := sl_le h19
      have hq22 := prs_len l
      refine plain_batch (rest := []) [⟨2, [], none⟩, ⟨3, [], none⟩, ⟨4, [], none⟩, ⟨5, [], none⟩, ⟨6, [], none⟩] (l' := [(6, Value.int IntKind.i64 ((prs l).2)), (5, Value.slice p15 ((((prs l).1).length)) cap16), (26, Value.int IntKind.i64 ((prs l).2)), (25, Value.slice p15 ((((prs l).1).length)) cap16), (22, Value.tuple #[Value.slice p15 ((((prs l).1).length)) cap16, Value.int IntKind.i64 ((prs l).2)]), (24, Value.tuple #[Value.slice p15 ((((prs l).1).length)) cap16, Value.int IntKind.i64 ((prs l).2)]), (23, Value.string (St l)), (0, Value.string (St l)), (1, Value.slice p0 n cp), (4, Value.bool false), (20, Value.bool false)] ++ lr14) (pts' := []) (eqs := []) (by kernel_rfl) trivial (AllC_nil _) ?_
      change WP _ _ (CA Tryd.f3 [1, 1, 1]) _ _ _
      refine fr_cut [(0, Value.string (St l)), (1, Value.slice p0 n cp), (4, Value.bool false), (5, Value.slice p15 ((((prs l).1).length)) cap16), (6, Value.int IntKind.i64 ((prs l).2)), (20, Value.bool false)] ⟨rfl, rfl, rfl, rfl, rfl, rfl, trivial⟩ (fun a => WP _ _ _ _ a _) (fun lr23 => ?_)
      refine gi_seq (x := CA Tryd.f3 [1, 1, 1, 0]) (y := CA Tryd.f3 [1, 1, 1, 1]) (by kernel_rfl) ?_
      refine gi_pln (id := 4) (ops := RA Tryd.f3 [1, 1, 1, 0]) [0, 1, 2, 3, 4, 5, 6] (by kernel_rfl) (by kernel_rfl) (by kernel_rfl) ?_
      refine plain_batch (rest := [1, 2, 3, 4, 5, 6]) [⟨0, [], none⟩] (l' := [(28, Value.string (St l)), (0, Value.string (St l)), (1, Value.slice p0 n cp), (4, Value.bool false), (5, Value.slice p15 ((((prs l).1).length)) cap16), (6, Value.int IntKind.i64 ((prs l).2)), (20, Value.bool false)] ++ lr23) (pts' := []) (eqs := []) (by kernel_rfl) trivial (AllC_nil _) ?_
      refine plain_act (i := 1) (by kernel_rfl) ?_
      refine an_call (d := some 29) (f := 13) (args := [Value.string (St l)]) (by kernel_rfl) Tryd.call13 (rparse_ht l (by omega)) (F := [Sl 3 1 p15 ((((prs l).1).length)) cap16 (fl eI ((prs l).1)), Old wo, R]) h19 ?_
      rintro v K w26 (⟨p24, cap25, rfl, rfl⟩) h27
      refine ⟨_, rfl, ?_⟩
      have h28 : sat g w26 [Sl 3 1 p24 ((((prs l).1).length)) cap25 (fl eI ((prs l).1)), Sl 3 1 p15 ((((prs l).1).length)) cap16 (fl eI ((prs l).1)), Old wo, R] := h27
      obtain ⟨hn29, hn30⟩ := sl_le h28
      have hq31 := prs_len l
      refine plain_batch (rest := []) [⟨2, [], none⟩, ⟨3, [], none⟩, ⟨4, [], none⟩, ⟨5, [], none⟩, ⟨6, [], none⟩] (l' := [(8, Value.int IntKind.i64 ((prs l).2)), (7, Value.slice p24 ((((prs l).1).length)) cap25), (31, Value.int IntKind.i64 ((prs l).2)), (30, Value.slice p24 ((((prs l).1).length)) cap25), (27, Value.tuple #[Value.slice p24 ((((prs l).1).length)) cap25, Value.int IntKind.i64 ((prs l).2)]), (29, Value.tuple #[Value.slice p24 ((((prs l).1).length)) cap25, Value.int IntKind.i64 ((prs l).2)]), (28, Value.string (St l)), (0, Value.string (St l)), (1, Value.slice p0 n cp), (4, Value.bool false), (5, Value.slice p15 ((((prs l).1).length)) cap16), (6, Value.int IntKind.i64 ((prs l).2)), (20, Value.bool false)] ++ lr23) (pts' := []) (eqs := []) (by kernel_rfl) trivial (AllC_nil _) ?_
      change WP _ _ (CA Tryd.f3 [1, 1, 1, 1]) _ _ _
      refine fr_cut [(0, Value.string (St l)), (1, Value.slice p0 n cp), (4, Value.bool false), (5, Value.slice p15 ((((prs l).1).length)) cap16), (6, Value.int IntKind.i64 ((prs l).2)), (7, Value.slice p24 ((((prs l).1).length)) cap25), (8, Value.int IntKind.i64 ((prs l).2)), (20, Value.bool false)] ⟨rfl, rfl, rfl, rfl, rfl, rfl, rfl, rfl, trivial⟩ (fun a => WP _ _ _ _ a _) (fun lr32 => ?_)
      refine gi_seq (x := CA Tryd.f3 [1, 1, 1, 1, 0]) (y := CA Tryd.f3 [1, 1, 1, 1, 1]) (by kernel_rfl) ?_
      refine gi_pln (id := 5) (ops := RA Tryd.f3 [1, 1, 1, 1, 0]) [0, 1, 2, 3, 4, 5, 6] (by kernel_rfl) (by kernel_rfl) (by kernel_rfl) ?_
      refine plain_batch (rest := [1, 2, 3, 4, 5, 6]) [⟨0, [], none⟩] (l' := [(33, Value.slice p0 n cp), (0, Value.string (St l)), (1, Value.slice p0 n cp), (4, Value.bool false), (5, Value.slice p15 ((((prs l).1).length)) cap16), (6, Value.int IntKind.i64 ((prs l).2)), (7, Value.slice p24 ((((prs l).1).length)) cap25), (8, Value.int IntKind.i64 ((prs l).2)), (20, Value.bool false)] ++ lr32) (pts' := []) (eqs := []) (by kernel_rfl) trivial (AllC_nil _) ?_
      have h33 : sat g w26 [Old wo, Sl 3 1 p24 ((((prs l).1).length)) cap25 (fl eI ((prs l).1)), Sl 3 1 p15 ((((prs l).1).length)) cap16 (fl eI ((prs l).1)), R] := sat_sel [2, 0, 1, 3] rfl h28
      refine plain_act (i := 1) (by kernel_rfl) ?_
      refine an_call (d := some 34) (f := 14) (args := [Value.slice p0 n cp]) (by kernel_rfl) Tryd.call14 (print_o wo hg p0 n cp M (gv_old hr) hM (by omega)) (F := [Sl 3 1 p24 ((((prs l).1).length)) cap25 (fl eI ((prs l).1)), Sl 3 1 p15 ((((prs l).1).length)) cap16 (fl eI ((prs l).1)), R]) h33 ?_
      rintro v K w34 (⟨rfl, rfl⟩) h35
      refine ⟨_, rfl, ?_⟩
      have h36 : sat g w34 [Old wo, Sl 3 1 p24 ((((prs l).1).length)) cap25 (fl eI ((prs l).1)), Sl 3 1 p15 ((((prs l).1).length)) cap16 (fl eI ((prs l).1)), R] := h35
      refine plain_batch (rest := []) [⟨2, [], none⟩, ⟨3, [], none⟩, ⟨4, [], none⟩, ⟨5, [], none⟩, ⟨6, [], none⟩] (l' := [(10, Value.int IntKind.i64 ((prt M).2)), (9, Value.string (St ((prt M).1))), (36, Value.int IntKind.i64 ((prt M).2)), (35, Value.string (St ((prt M).1))), (32, Value.tuple #[Value.string (St ((prt M).1)), Value.int IntKind.i64 ((prt M).2)]), (34, Value.tuple #[Value.string (St ((prt M).1)), Value.int IntKind.i64 ((prt M).2)]), (33, Value.slice p0 n cp), (0, Value.string (St l)), (1, Value.slice p0 n cp), (4, Value.bool false), (5, Value.slice p15 ((((prs l).1).length)) cap16), (6, Value.int IntKind.i64 ((prs l).2)), (7, Value.slice p24 ((((prs l).1).length)) cap25), (8, Value.int IntKind.i64 ((prs l).2)), (20, Value.bool false)] ++ lr32) (pts' := []) (eqs := []) (by kernel_rfl) trivial (AllC_nil _) ?_
      change WP _ _ (CA Tryd.f3 [1, 1, 1, 1, 1]) _ _ _
      refine fr_cut [(0, Value.string (St l)), (1, Value.slice p0 n cp), (4, Value.bool false), (5, Value.slice p15 ((((prs l).1).length)) cap16), (6, Value.int IntKind.i64 ((prs l).2)), (7, Value.slice p24 ((((prs l).1).length)) cap25), (8, Value.int IntKind.i64 ((prs l).2)), (9, Value.string (St ((prt M).1))), (10, Value.int IntKind.i64 ((prt M).2)), (20, Value.bool false)] ⟨rfl, rfl, rfl, rfl, rfl, rfl, rfl, rfl, rfl, rfl, trivial⟩ (fun a => WP _ _ _ _ a _) (fun lr37 => ?_)
      refine gi_seq (x := CA Tryd.f3 [1, 1, 1, 1, 1, 0]) (y := CA Tryd.f3 [1, 1, 1, 1, 1, 1]) (by kernel_rfl) ?_
      refine gi_pln (id := 6) (ops := RA Tryd.f3 [1, 1, 1, 1, 1, 0]) [0, 1, 2, 3, 4, 5, 6] (by kernel_rfl) (by kernel_rfl) (by kernel_rfl) ?_
      refine plain_batch (rest := [1, 2, 3, 4, 5, 6]) [⟨0, [], none⟩] (l' := [(38, Value.slice p0 n cp), (0, Value.string (St l)), (1, Value.slice p0 n cp), (4, Value.bool false), (5, Value.slice p15 ((((prs l).1).length)) cap16), (6, Value.int IntKind.i64 ((prs l).2)), (7, Value.slice p24 ((((prs l).1).length)) cap25), (8, Value.int IntKind.i64 ((prs l).2)), (9, Value.string (St ((prt M).1))), (10, Value.int IntKind.i64 ((prt M).2)), (20, Value.bool false)] ++ lr37) (pts' := []) (eqs := []) (by kernel_rfl) trivial (AllC_nil _) ?_
      refine plain_act (i := 1) (by kernel_rfl) ?_
      refine an_call (d := some 39) (f := 15) (args := [Value.slice p0 n cp]) (by kernel_rfl) Tryd.call15 (rprint_ht p0 n cp M (Old wo) (gv_old hr) hM (by omega)) (F := [Sl 3 1 p24 ((((prs l).1).length)) cap25 (fl eI ((prs l).1)), Sl 3 1 p15 ((((prs l).1).length)) cap16 (fl eI ((prs l).1)), R]) h36 ?_
      rintro v K w38 (⟨rfl, rfl⟩) h39
      refine ⟨_, rfl, ?_⟩
      have h40 : sat g w38 [Old wo, Sl 3 1 p24 ((((prs l).1).length)) cap25 (fl eI ((prs l).1)), Sl 3 1 p15 ((((prs l).1).length)) cap16 (fl eI ((prs l).1)), R] := h39
      refine plain_batch (rest := []) [⟨2, [], none⟩, ⟨3, [], none⟩, ⟨4, [], none⟩, ⟨5, [], none⟩, ⟨6, [], none⟩] (l' := [(12, Value.int IntKind.i64 ((prt M).2)), (11, Value.string (St ((prt M).1))), (41, Value.int IntKind.i64 ((prt M).2)), (40, Value.string (St ((prt M).1))), (37, Value.tuple #[Value.string (St ((prt M).1)), Value.int IntKind.i64 ((prt M).2)]), (39, Value.tuple #[Value.string (St ((prt M).1)), Value.int IntKind.i64 ((prt M).2)]), (38, Value.slice p0 n cp), (0, Value.string (St l)), (1, Value.slice p0 n cp), (4, Value.bool false), (5, Value.slice p15 ((((prs l).1).length)) cap16), (6, Value.int IntKind.i64 ((prs l).2)), (7, Value.slice p24 ((((prs l).1).length)) cap25), (8, Value.int IntKind.i64 ((prs l).2)), (9, Value.string (St ((prt M).1))), (10, Value.int IntKind.i64 ((prt M).2)), (20, Value.bool false)] ++ lr37) (pts' := []) (eqs := []) (by kernel_rfl) trivial (AllC_nil _) ?_
      change WP _ _ (CA Tryd.f3 [1, 1, 1, 1, 1, 1]) _ _ _
      refine fr_cut [(0, Value.string (St l)), (1, Value.slice p0 n cp), (4, Value.bool false), (5, Value.slice p15 ((((prs l).1).length)) cap16), (6, Value.int IntKind.i64 ((prs l).2)), (7, Value.slice p24 ((((prs l).1).length)) cap25), (8, Value.int IntKind.i64 ((prs l).2)), (9, Value.string (St ((prt M).1))), (10, Value.int IntKind.i64 ((prt M).2)), (11, Value.string (St ((prt M).1))), (12, Value.int IntKind.i64 ((prt M).2)), (20, Value.bool false)] ⟨rfl, rfl, rfl, rfl, rfl, rfl, rfl, rfl, rfl, rfl, rfl, rfl, trivial⟩ (fun a => WP _ _ _ _ a _) (fun lr41 => ?_)
      refine gi_seq (x := CA Tryd.f3 [1, 1, 1, 1, 1, 1, 0]) (y := CA Tryd.f3 [1, 1, 1, 1, 1, 1, 1]) (by kernel_rfl) ?_
      refine gi_pln (id := 7) (ops := RA Tryd.f3 [1, 1, 1, 1, 1, 1, 0]) [0, 1, 2, 3, 4, 5, 6, 7, 8, 9, 10, 11, 12, 13, 14, 15, 16, 17, 18, 19, 20, 21] (by kernel_rfl) (by kernel_rfl) (by kernel_rfl) ?_
      refine plain_batch (rest := [2, 3, 4, 5, 6, 7, 8, 9, 10, 11, 12, 13, 14, 15, 16, 17, 18, 19, 20, 21]) [⟨0, [], none⟩, ⟨1, [], none⟩] (l' := [(43, Value.slice p24 ((((prs l).1).length)) cap25), (42, Value.slice p15 ((((prs l).1).length)) cap16), (0, Value.string (St l)), (1, Value.slice p0 n cp), (4, Value.bool false), (5, Value.slice p15 ((((prs l).1).length)) cap16), (6, Value.int IntKind.i64 ((prs l).2)), (7, Value.slice p24 ((((prs l).1).length)) cap25), (8, Value.int IntKind.i64 ((prs l).2)), (9, Value.string (St ((prt M).1))), (10, Value.int IntKind.i64 ((prt M).2)), (11, Value.string (St ((prt M).1))), (12, Value.int IntKind.i64 ((prt M).2)), (20, Value.bool false)] ++ lr41) (pts' := []) (eqs := []) (by kernel_rfl) trivial (AllC_nil _) ?_
      have h42 : sat g w38 [Sl 3 1 p15 ((((prs l).1).length)) cap16 (fl eI ((prs l).1)), Sl 3 1 p24 ((((prs l).1).length)) cap25 (fl eI ((prs l).1)), Old wo, R] := sat_sel [2, 1, 0, 3] rfl h40
      refine plain_act (i := 2) (by kernel_rfl) ?_
      refine an_call (d := some 44) (f := 16) (args := [Value.slice p15 ((((prs l).1).length)) cap16, Value.slice p24 ((((prs l).1).length)) cap25]) (by kernel_rfl) Tryd.call16 (same_ht p15 p24 ((((prs l).1).length)) ((((prs l).1).length)) cap16 cap25 ((prs l).1) ((prs l).1) (Sl 3 1 p15 ((((prs l).1).length)) cap16 (fl eI ((prs l).1))) (Sl 3 1 p24 ((((prs l).1).length)) cap25 (fl eI ((prs l).1))) (gv_sl _ _ _) (gv_sl _ _ _) rfl rfl true (decide_eq_true rfl) (by omega)) (F := [Old wo, R]) h42 ?_
      rintro v K w43 (⟨rfl, rfl⟩) h44
      refine ⟨_, rfl, ?_⟩
      have h45 : sat g w43 [Sl 3 1 p15 ((((prs l).1).length)) cap16 (fl eI ((prs l).1)), Sl 3 1 p24 ((((prs l).1).length)) cap25 (fl eI ((prs l).1)), Old wo, R] := h44
      refine plain_batch (rest := [11, 12, 13, 14, 15, 16, 17, 18, 19, 20, 21]) [⟨3, [], none⟩, ⟨4, [], none⟩, ⟨5, [], none⟩, ⟨6, [], some (Value.bool true)⟩, ⟨7, [], none⟩, ⟨8, [], none⟩, ⟨9, [], none⟩, ⟨10, [], none⟩] (l' := [(52, Value.string (St ((prt M).1))), (51, Value.string (St ((prt M).1))), (50, Value.bool true), (49, Value.bool true), (48, Value.bool true), (47, Value.int IntKind.i64 ((prs l).2)), (46, Value.int IntKind.i64 ((prs l).2)), (45, Value.bool true), (44, Value.bool true), (43, Value.slice p24 ((((prs l).1).length)) cap25), (42, Value.slice p15 ((((prs l).1).length)) cap16), (0, Value.string (St l)), (1, Value.slice p0 n cp), (4, Value.bool false), (5, Value.slice p15 ((((prs l).1).length)) cap16), (6, Value.int IntKind.i64 ((prs l).2)), (7, Value.slice p24 ((((prs l).1).length)) cap25), (8, Value.int IntKind.i64 ((prs l).2)), (9, Value.string (St ((prt M).1))), (10, Value.int IntKind.i64 ((prt M).2)), (11, Value.string (St ((prt M).1))), (12, Value.int IntKind.i64 ((prt M).2)), (20, Value.bool false)] ++ lr41) (pts' := []) (eqs := [(Value.bool (((prs l).2) == ((prs l).2)), Value.bool true)]) (by kernel_rfl) ⟨(ov_et (by omega)), trivial⟩ (AllC_nil _) ?_
      refine plain_law (i := 11) 53 (Value.bool true) (by kernel_rfl) (law_eqStr (t := 9) (o := opA (RA Tryd.f3 [1, 1, 1, 1, 1, 1, 0]) 11) (x := (Operand.tmp 51)) (y := (Operand.tmp 52)) (a := (prt M).1) (b := (prt M).1) (by kernel_rfl) (by kernel_rfl) (by kernel_rfl) true (decide_eq_true rfl) _) ?_
      refine plain_batch (rest := [19, 20, 21]) [⟨12, [], none⟩, ⟨13, [], none⟩, ⟨14, [], none⟩, ⟨15, [], none⟩, ⟨16, [], some (Value.bool true)⟩, ⟨17, [], none⟩, ⟨18, [], none⟩] (l' := [(60, Value.bool true), (59, Value.bool true), (58, Value.bool true), (57, Value.int IntKind.i64 ((prt M).2)), (56, Value.int IntKind.i64 ((prt M).2)), (55, Value.bool true), (54, Value.bool true), (53, Value.bool true), (52, Value.string (St ((prt M).1))), (51, Value.string (St ((prt M).1))), (50, Value.bool true), (49, Value.bool true), (48, Value.bool true), (47, Value.int IntKind.i64 ((prs l).2)), (46, Value.int IntKind.i64 ((prs l).2)), (45, Value.bool true), (44, Value.bool true), (43, Value.slice p24 ((((prs l).1).length)) cap25), (42, Value.slice p15 ((((prs l).1).length)) cap16), (0, Value.string (St l)), (1, Value.slice p0 n cp), (4, Value.bool false), (5, Value.slice p15 ((((prs l).1).length)) cap16), (6, Value.int IntKind.i64 ((prs l).2)), (7, Value.slice p24 ((((prs l).1).length)) cap25), (8, Value.int IntKind.i64 ((prs l).2)), (9, Value.string (St ((prt M).1))), (10, Value.int IntKind.i64 ((prt M).2)), (11, Value.string (St ((prt M).1))), (12, Value.int IntKind.i64 ((prt M).2)), (20, Value.bool false)] ++ lr41) (pts' := []) (eqs := [(Value.bool (((prt M).2) == ((prt M).2)), Value.bool true)]) (by kernel_rfl) ⟨(ov_et (by omega)), trivial⟩ (AllC_nil _) ?_
      have h46 : sat g w43 [Old wo, Sl 3 1 p15 ((((prs l).1).length)) cap16 (fl eI ((prs l).1)), Sl 3 1 p24 ((((prs l).1).length)) cap25 (fl eI ((prs l).1)), R] := sat_sel [2, 0, 1, 3] rfl h45
      refine plain_act (i := 19) (by kernel_rfl) ?_
      refine an_call (d := some 61) (f := 11) (args := []) (by kernel_rfl) Tryd.call11 (works_ht wo hg) (F := [Sl 3 1 p15 ((((prs l).1).length)) cap16 (fl eI ((prs l).1)), Sl 3 1 p24 ((((prs l).1).length)) cap25 (fl eI ((prs l).1)), R]) h46 ?_
      rintro v K w47 (⟨rfl, rfl⟩) h48
      refine ⟨_, rfl, ?_⟩
      have h49 : sat g w47 [Old wo, Sl 3 1 p15 ((((prs l).1).length)) cap16 (fl eI ((prs l).1)), Sl 3 1 p24 ((((prs l).1).length)) cap25 (fl eI ((prs l).1)), R] := h48
      refine plain_batch (rest := []) [⟨20, [], none⟩, ⟨21, [], none⟩] (l' := [(4, Value.bool true), (62, Value.bool true), (61, Value.bool true), (60, Value.bool true), (59, Value.bool true), (58, Value.bool true), (57, Value.int IntKind.i64 ((prt M).2)), (56, Value.int IntKind.i64 ((prt M).2)), (55, Value.bool true), (54, Value.bool true), (53, Value.bool true), (52, Value.string (St ((prt M).1))), (51, Value.string (St ((prt M).1))), (50, Value.bool true), (49, Value.bool true), (48, Value.bool true), (47, Value.int IntKind.i64 ((prs l).2)), (46, Value.int IntKind.i64 ((prs l).2)), (45, Value.bool true), (44, Value.bool true), (43, Value.slice p24 ((((prs l).1).length)) cap25), (42, Value.slice p15 ((((prs l).1).length)) cap16), (0, Value.string (St l)), (1, Value.slice p0 n cp), (4, Value.bool false), (5, Value.slice p15 ((((prs l).1).length)) cap16), (6, Value.int IntKind.i64 ((prs l).2)), (7, Value.slice p24 ((((prs l).1).length)) cap25), (8, Value.int IntKind.i64 ((prs l).2)), (9, Value.string (St ((prt M).1))), (10, Value.int IntKind.i64 ((prt M).2)), (11, Value.string (St ((prt M).1))), (12, Value.int IntKind.i64 ((prt M).2)), (20, Value.bool false)] ++ lr41) (pts' := []) (eqs := []) (by kernel_rfl) trivial (AllC_nil _) ?_
      change WP _ _ (CA Tryd.f3 [1, 1, 1, 1, 1, 1, 1]) _ _ _
      refine fr_cut [(0, Value.string (St l)), (1, Value.slice p0 n cp), (4, Value.bool true), (5, Value.slice p15 ((((prs l).1).length)) cap16), (6, Value.int IntKind.i64 ((prs l).2)), (7, Value.slice p24 ((((prs l).1).length)) cap25), (8, Value.int IntKind.i64 ((prs l).2)), (9, Value.string (St ((prt M).1))), (10, Value.int IntKind.i64 ((prt M).2)), (11, Value.string (St ((prt M).1))), (12, Value.int IntKind.i64 ((prt M).2)), (20, Value.bool false)] ⟨rfl, rfl, rfl, rfl, rfl, rfl, rfl, rfl, rfl, rfl, rfl, rfl, trivial⟩ (fun a => WP _ _ _ _ a _) (fun lr50 => ?_)
      refine gi_rt (by kernel_rfl) ?_
      repeat (first | simp only [Exit.inBlock] | simp only [Exit.then])
      have h51 : sat g w47 [Old wo, R] := sat_sel [0, 3] rfl h49
      refine hi_out [] (Value.bool true) [] (by kernel_rfl) (by intro q hq; cases hq) ?_
      exact ⟨Value.bool true, [Old wo], rfl, ⟨rfl, rfl⟩, h51⟩

end Go.Proofs.YtjedglbadkbneaaDoor
