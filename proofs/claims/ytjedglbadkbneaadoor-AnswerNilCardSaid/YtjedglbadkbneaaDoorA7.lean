/- Walks, printed by my generator gen7.py. -/
import Derived.Test.YtjedglbadkbneaaDoorA5
namespace Go.Proofs.YtjedglbadkbneaaDoor
set_option maxHeartbeats 4000000 in
theorem nil_law (wo : World) (hg : Lett wo) (l : List UInt8) (z : Int) : HT Tryd.prog 9 [Value.string (St l), Value.int IntKind.i64 z] [Old wo] (fun v K => v = Value.bool true ∧ K = [Old wo]) := by
  refine hi_in 49 [(0, Value.string (St l)), (1, Value.int IntKind.i64 z)] Tryd.func9 (by kernel_rfl) Tryd.ntmps9 rfl rfl ?_
  intro g w0 R h0
  refine gi_seq (x := CA Tryd.f9 [0]) (y := CA Tryd.f9 [1]) (by kernel_rfl) ?_
  refine gi_pln (id := 0) (ops := RA Tryd.f9 [0]) [0] (by kernel_rfl) (by kernel_rfl) (by kernel_rfl) ?_
  refine plain_batch (rest := []) [⟨0, [], none⟩] (l' := [(4, Value.bool false), (0, Value.string (St l)), (1, Value.int IntKind.i64 z)]) (pts' := []) (eqs := []) (by kernel_rfl) trivial (AllC_nil _) ?_
  change WP _ _ (CA Tryd.f9 [1]) _ _ _
  refine fr_cut [(0, Value.string (St l)), (1, Value.int IntKind.i64 z), (4, Value.bool false)] ⟨rfl, rfl, rfl, trivial⟩ (fun a => WP _ _ _ _ a _) (fun lr1 => ?_)
  refine gi_seq (x := CA Tryd.f9 [1, 0]) (y := CA Tryd.f9 [1, 1]) (by kernel_rfl) ?_
  refine gi_seq (x := CA Tryd.f9 [1, 0, 0]) (y := CA Tryd.f9 [1, 0, 1]) (by kernel_rfl) ?_
  refine gi_pln (id := 1) (ops := RA Tryd.f9 [1, 0, 0]) [0, 1, 2] (by kernel_rfl) (by kernel_rfl) (by kernel_rfl) ?_
  refine plain_batch (rest := [2]) [⟨0, [], none⟩, ⟨1, [], some (Value.int IntKind.i64 (((l.length : Nat) : Int)))⟩] (l' := [(9, Value.int IntKind.i64 (((l.length : Nat) : Int))), (8, Value.string (St l)), (0, Value.string (St l)), (1, Value.int IntKind.i64 z), (4, Value.bool false)] ++ lr1) (pts' := []) (eqs := [(Value.int IntKind.i64 ((St l).size : Int), Value.int IntKind.i64 (((l.length : Nat) : Int)))]) (by kernel_rfl) ⟨(ov_int (st_len _)), trivial⟩ (AllC_nil _) ?_
  by_cases c2 : ((l.length : Nat) : Int) > 2500
  ·
    refine plain_batch (rest := []) [⟨2, [], some (Value.bool true)⟩] (l' := [(10, Value.bool true), (9, Value.int IntKind.i64 (((l.length : Nat) : Int))), (8, Value.string (St l)), (0, Value.string (St l)), (1, Value.int IntKind.i64 z), (4, Value.bool false)] ++ lr1) (pts' := []) (eqs := [(Value.bool (decide (((l.length : Nat) : Int) > 2500)), Value.bool true)]) (by kernel_rfl) ⟨(ov_t (by omega)), trivial⟩ (AllC_nil _) ?_
    change WP _ _ (CA Tryd.f9 [1, 0, 1]) _ _ _
    refine fr_cut [(0, Value.string (St l)), (1, Value.int IntKind.i64 z), (4, Value.bool false), (10, Value.bool true)] ⟨rfl, rfl, rfl, rfl, trivial⟩ (fun a => WP _ _ _ _ a _) (fun lr3 => ?_)
    refine gi_cnd (x := (Operand.tmp 10)) (s := CA Tryd.f9 [1, 0, 1, 0]) (t := CA Tryd.f9 [1, 0, 1, 1]) true (by kernel_rfl) (by kernel_rfl) ?_
    change WP _ _ (CA Tryd.f9 [1, 0, 1, 0]) _ _ _
    refine gi_seq (x := CA Tryd.f9 [1, 0, 1, 0, 0]) (y := CA Tryd.f9 [1, 0, 1, 0, 1]) (by kernel_rfl) ?_
    refine gi_pln (id := 2) (ops := RA Tryd.f9 [1, 0, 1, 0, 0]) [0, 1] (by kernel_rfl) (by kernel_rfl) (by kernel_rfl) ?_
    refine plain_act (i := 0) (by kernel_rfl) ?_
    refine an_call (d := some 11) (f := 11) (args := []) (by kernel_rfl) Tryd.call11 (works_ht wo hg) (F := [R]) h0 ?_
    rintro v K w4 (⟨rfl, rfl⟩) h5
    refine ⟨_, rfl, ?_⟩
    have h6 : sat g w4 [Old wo, R] := h5
    refine plain_batch (rest := []) [⟨1, [], none⟩] (l' := [(4, Value.bool true), (11, Value.bool true), (0, Value.string (St l)), (1, Value.int IntKind.i64 z), (4, Value.bool false), (10, Value.bool true)] ++ lr3) (pts' := []) (eqs := []) (by kernel_rfl) trivial (AllC_nil _) ?_
    change WP _ _ (CA Tryd.f9 [1, 0, 1, 0, 1]) _ _ _
    refine fr_cut [(0, Value.string (St l)), (1, Value.int IntKind.i64 z), (4, Value.bool true), (10, Value.bool true)] ⟨rfl, rfl, rfl, rfl, trivial⟩ (fun a => WP _ _ _ _ a _) (fun lr7 => ?_)
    refine gi_rt (by kernel_rfl) ?_
    repeat (first | simp only [Exit.inBlock] | simp only [Exit.then])
    refine hi_out [] (Value.bool true) [] (by kernel_rfl) (by intro q hq; cases hq) ?_
    exact ⟨Value.bool true, [Old wo], rfl, ⟨rfl, rfl⟩, h6⟩
  ·
    refine plain_batch (rest := []) [⟨2, [], some (Value.bool false)⟩] (l' := [(10, Value.bool false), (9, Value.int IntKind.i64 (((l.length : Nat) : Int))), (8, Value.string (St l)), (0, Value.string (St l)), (1, Value.int IntKind.i64 z), (4, Value.bool false)] ++ lr1) (pts' := []) (eqs := [(Value.bool (decide (((l.length : Nat) : Int) > 2500)), Value.bool false)]) (by kernel_rfl) ⟨(ov_f (by omega)), trivial⟩ (AllC_nil _) ?_
    change WP _ _ (CA Tryd.f9 [1, 0, 1]) _ _ _
    refine fr_cut [(0, Value.string (St l)), (1, Value.int IntKind.i64 z), (4, Value.bool false), (10, Value.bool false)] ⟨rfl, rfl, rfl, rfl, trivial⟩ (fun a => WP _ _ _ _ a _) (fun lr8 => ?_)
    refine gi_cnd (x := (Operand.tmp 10)) (s := CA Tryd.f9 [1, 0, 1, 0]) (t := CA Tryd.f9 [1, 0, 1, 1]) false (by kernel_rfl) (by kernel_rfl) ?_
    change WP _ _ (CA Tryd.f9 [1, 0, 1, 1]) _ _ _
    refine gi_skp (by kernel_rfl) ?_
    change WP _ _ (CA Tryd.f9 [1, 1]) _ _ _
    refine gi_seq (x := CA Tryd.f9 [1, 1, 0]) (y := CA Tryd.f9 [1, 1, 1]) (by kernel_rfl) ?_
    refine gi_pln (id := 3) (ops := RA Tryd.f9 [1, 1, 0]) [0] (by kernel_rfl) (by kernel_rfl) (by kernel_rfl) ?_
    refine plain_batch (rest := []) [⟨0, [], none⟩] (l' := [(5, Value.pointer none), (0, Value.string (St l)), (1, Value.int IntKind.i64 z), (4, Value.bool false), (10, Value.bool false)] ++ lr8) (pts' := []) (eqs := []) (by kernel_rfl) trivial (AllC_nil _) ?_
    change WP _ _ (CA Tryd.f9 [1, 1, 1]) _ _ _
    refine fr_cut [(0, Value.string (St l)), (1, Value.int IntKind.i64 z), (4, Value.bool false), (5, Value.pointer none), (10, Value.bool false)] ⟨rfl, rfl, rfl, rfl, rfl, trivial⟩ (fun a => WP _ _ _ _ a _) (fun lr9 => ?_)
    refine gi_seq (x := CA Tryd.f9 [1, 1, 1, 0]) (y := CA Tryd.f9 [1, 1, 1, 1]) (by kernel_rfl) ?_
    refine gi_seq (x := CA Tryd.f9 [1, 1, 1, 0, 0]) (y := CA Tryd.f9 [1, 1, 1, 0, 1]) (by kernel_rfl) ?_
    refine gi_pln (id := 4) (ops := RA Tryd.f9 [1, 1, 1, 0, 0]) [0, 1, 2, 3, 4, 5] (by kernel_rfl) (by kernel_rfl) (by kernel_rfl) ?_
    refine plain_batch (rest := [2, 3, 4, 5]) [⟨0, [], none⟩, ⟨1, [], none⟩] (l' := [(13, Value.agg #[Value.bool false, Value.slice none 0 0]), (12, Value.pointer none), (0, Value.string (St l)), (1, Value.int IntKind.i64 z), (4, Value.bool false), (5, Value.pointer none), (10, Value.bool false)] ++ lr9) (pts' := []) (eqs := []) (by kernel_rfl) trivial (AllC_nil _) ?_
    refine plain_act (i := 2) (by kernel_rfl) ?_
    refine an_new (d := 14) (fun xb_ => Value.pointer (some ⟨xb_, 0, none⟩)) (fun xb_ => Obj.cells [Value.bool false, Value.slice none 0 0].toArray 52 (0, 0)) (fun xb_ => by kernel_rfl) (by kernel_rfl) rfl h0 ?_
    intro r10 w11 (h12 : sat g w11 [Cl r10 [Value.bool false, Value.slice none 0 0] 52, Old wo, R])
    refine plain_act (i := 3) (by kernel_rfl) ?_
    refine an_new (d := 15) (fun xb_ => Value.slice (some ⟨xb_, 0, none⟩) 2 2) (fun xb_ => Obj.cells [Value.pointer none, Value.pointer (some ⟨r10, 0, none⟩)].toArray 32 (0, 0)) (fun xb_ => by kernel_rfl) (by kernel_rfl) rfl h12 ?_
    intro r13 w14 (h15 : sat g w14 [Cl r13 [Value.pointer none, Value.pointer (some ⟨r10, 0, none⟩)] 32, Cl r10 [Value.bool false, Value.slice none 0 0] 52, Old wo, R])
    refine plain_batch (rest := []) [⟨4, [], some (Value.int IntKind.i64 2)⟩, ⟨5, [], none⟩] (l' := [(17, Value.int IntKind.i64 0), (16, Value.int IntKind.i64 2), (15, Value.slice (some ⟨r13, 0, none⟩) 2 2), (14, Value.pointer (some ⟨r10, 0, none⟩)), (13, Value.agg #[Value.bool false, Value.slice none 0 0]), (12, Value.pointer none), (0, Value.string (St l)), (1, Value.int IntKind.i64 z), (4, Value.bool false), (5, Value.pointer none), (10, Value.bool false)] ++ lr9) (pts' := []) (eqs := [(Value.int IntKind.i64 ((2 : Nat) : Int), Value.int IntKind.i64 2)]) (by kernel_rfl) ⟨(ov_int (by omega)), trivial⟩ (AllC_nil _) ?_
    change WP _ _ (CA Tryd.f9 [1, 1, 1, 0, 1]) _ _ _
    refine fr_cut [(0, Value.string (St l)), (1, Value.int IntKind.i64 z), (4, Value.bool false), (5, Value.pointer none), (10, Value.bool false), (15, Value.slice (some ⟨r13, 0, none⟩) 2 2), (16, Value.int IntKind.i64 2), (17, Value.int IntKind.i64 0)] ⟨rfl, rfl, rfl, rfl, rfl, rfl, rfl, rfl, trivial⟩ (fun a => WP _ _ _ _ a _) (fun lr16 => ?_)
    refine gi_blk (id := 0) (x := CA Tryd.f9 [1, 1, 1, 0, 1, 0]) (by kernel_rfl) ?_
    refine gi_unr (x := CA Tryd.f9 [1, 1, 1, 0, 1, 0, 0]) 3 (by kernel_rfl) ?_
    change WP _ _ (CA Tryd.f9 [1, 1, 1, 0, 1, 0, 0]) _ _ _
    refine gi_seq (x := CA Tryd.f9 [1, 1, 1, 0, 1, 0, 0, 0]) (y := CA Tryd.f9 [1, 1, 1, 0, 1, 0, 0, 1]) (by kernel_rfl) ?_
    refine gi_pln (id := 5) (ops := RA Tryd.f9 [1, 1, 1, 0, 1, 0, 0, 0]) [0] (by kernel_rfl) (by kernel_rfl) (by kernel_rfl) ?_
    refine plain_batch (rest := []) [⟨0, [], none⟩] (l' := [(18, Value.bool true), (0, Value.string (St l)), (1, Value.int IntKind.i64 z), (4, Value.bool false), (5, Value.pointer none), (10, Value.bool false), (15, Value.slice (some ⟨r13, 0, none⟩) 2 2), (16, Value.int IntKind.i64 2), (17, Value.int IntKind.i64 0)] ++ lr16) (pts' := []) (eqs := []) (by kernel_rfl) trivial (AllC_nil _) ?_
    change WP _ _ (CA Tryd.f9 [1, 1, 1, 0, 1, 0, 0, 1]) _ _ _
    refine fr_cut [(0, Value.string (St l)), (1, Value.int IntKind.i64 z), (4, Value.bool false), (5, Value.pointer none), (10, Value.bool false), (15, Value.slice (some ⟨r13, 0, none⟩) 2 2), (16, Value.int IntKind.i64 2), (17, Value.int IntKind.i64 0), (18, Value.bool true)] ⟨rfl, rfl, rfl, rfl, rfl, rfl, rfl, rfl, rfl, trivial⟩ (fun a => WP _ _ _ _ a _) (fun lr17 => ?_)
    refine gi_seq (x := CA Tryd.f9 [1, 1, 1, 0, 1, 0, 0, 1, 0]) (y := CA Tryd.f9 [1, 1, 1, 0, 1, 0, 0, 1, 1]) (by kernel_rfl) ?_
    refine gi_cnd (x := (Operand.tmp 18)) (s := CA Tryd.f9 [1, 1, 1, 0, 1, 0, 0, 1, 0, 0]) (t := CA Tryd.f9 [1, 1, 1, 0, 1, 0, 0, 1, 0, 1]) true (by kernel_rfl) (by kernel_rfl) ?_
    change WP _ _ (CA Tryd.f9 [1, 1, 1, 0, 1, 0, 0, 1, 0, 0]) _ _ _
    refine gi_skp (by kernel_rfl) ?_
    change WP _ _ (CA Tryd.f9 [1, 1, 1, 0, 1, 0, 0, 1, 1]) _ _ _
    refine gi_seq (x := CA Tryd.f9 [1, 1, 1, 0, 1, 0, 0, 1, 1, 0]) (y := CA Tryd.f9 [1, 1, 1, 0, 1, 0, 0, 1, 1, 1]) (by kernel_rfl) ?_
    refine gi_blk (id := 1) (x := CA Tryd.f9 [1, 1, 1, 0, 1, 0, 0, 1, 1, 0, 0]) (by kernel_rfl) ?_
    refine gi_seq (x := CA Tryd.f9 [1, 1, 1, 0, 1, 0, 0, 1, 1, 0, 0, 0]) (y := CA Tryd.f9 [1, 1, 1, 0, 1, 0, 0, 1, 1, 0, 0, 1]) (by kernel_rfl) ?_
    refine gi_pln (id := 6) (ops := RA Tryd.f9 [1, 1, 1, 0, 1, 0, 0, 1, 1, 0, 0, 0]) [0, 1, 2] (by kernel_rfl) (by kernel_rfl) (by kernel_rfl) ?_
    refine plain_law (i := 0) 19 (Value.pointer (some ⟨r13, 0, none⟩)) (by kernel_rfl) (law_indexSl (o := opA (RA Tryd.f9 [1, 1, 1, 0, 1, 0, 0, 1, 1, 0, 0, 0]) 0) (x := (Operand.tmp 15)) (i := (Operand.tmp 17)) (b := r13) (off := 0) (z := 0) (len := 2) (cap := 2) (by kernel_rfl) Tryd.underlying53 1 (by kernel_rfl) 0 (by kernel_rfl) (by kernel_rfl) (by omega) (by omega) 0 (by omega) _) ?_
    refine plain_batch (rest := []) [⟨1, [Value.pointer none], none⟩, ⟨2, [], none⟩] (l' := [(7, Value.pointer none), (20, Value.pointer none), (19, Value.pointer (some ⟨r13, 0, none⟩)), (0, Value.string (St l)), (1, Value.int IntKind.i64 z), (4, Value.bool false), (5, Value.pointer none), (10, Value.bool false), (15, Value.slice (some ⟨r13, 0, none⟩) 2 2), (16, Value.int IntKind.i64 2), (17, Value.int IntKind.i64 0), (18, Value.bool true)] ++ lr17) (pts' := [(1, ⟨r13, 0, none⟩, Value.pointer none)]) (eqs := []) (by kernel_rfl) trivial (AllC_cons (sat_cell h15 0 rfl rfl) (AllC_nil _)) ?_
    change WP _ _ (CA Tryd.f9 [1, 1, 1, 0, 1, 0, 0, 1, 1, 0, 0, 1]) _ _ _
    refine fr_cut [(0, Value.string (St l)), (1, Value.int IntKind.i64 z), (4, Value.bool false), (5, Value.pointer none), (7, Value.pointer none), (10, Value.bool false), (15, Value.slice (some ⟨r13, 0, none⟩) 2 2), (16, Value.int IntKind.i64 2), (17, Value.int IntKind.i64 0), (18, Value.bool true)] ⟨rfl, rfl, rfl, rfl, rfl, rfl, rfl, rfl, rfl, rfl, trivial⟩ (fun a => WP _ _ _ _ a _) (fun lr18 => ?_)
    refine gi_seq (x := CA Tryd.f9 [1, 1, 1, 0, 1, 0, 0, 1, 1, 0, 0, 1, 0]) (y := CA Tryd.f9 [1, 1, 1, 0, 1, 0, 0, 1, 1, 0, 0, 1, 1]) (by kernel_rfl) ?_
    refine gi_pln (id := 7) (ops := RA Tryd.f9 [1, 1, 1, 0, 1, 0, 0, 1, 1, 0, 0, 1, 0]) [0, 1, 2, 3, 4, 5, 6, 7, 8, 9, 10, 11, 12, 13, 14, 15, 16, 17, 18, 19, 20, 21, 22, 23, 24, 25] (by kernel_rfl) (by kernel_rfl) (by kernel_rfl) ?_
    refine plain_batch (rest := [2, 3, 4, 5, 6, 7, 8, 9, 10, 11, 12, 13, 14, 15, 16, 17, 18, 19, 20, 21, 22, 23, 24, 25]) [⟨0, [], none⟩, ⟨1, [], none⟩] (l' := [(22, Value.string (St l)), (21, Value.pointer none), (0, Value.string (St l)), (1, Value.int IntKind.i64 z), (4, Value.bool false), (5, Value.pointer none), (7, Value.pointer none), (10, Value.bool false), (15, Value.slice (some ⟨r13, 0, none⟩) 2 2), (16, Value.int IntKind.i64 2), (17, Value.int IntKind.i64 0), (18, Value.bool true)] ++ lr18) (pts' := []) (eqs := []) (by kernel_rfl) trivial (AllC_nil _) ?_
    refine plain_act (i := 2) (by kernel_rfl) ?_
    refine an_call (d := some 23) (f := 18) (args := [Value.pointer none, Value.string (St l)]) (by kernel_rfl) Tryd.call18 (add_nil l) (F := [Cl r13 [Value.pointer none, Value.pointer (some ⟨r10, 0, none⟩)] 32, Cl r10 [Value.bool false, Value.slice none 0 0] 52, Old wo, R]) h15 ?_
    rintro v K w19 (⟨rfl, rfl⟩) h20
    refine ⟨_, rfl, ?_⟩
    have h21 : sat g w19 [Cl r13 [Value.pointer none, Value.pointer (some ⟨r10, 0, none⟩)] 32, Cl r10 [Value.bool false, Value.slice none 0 0] 52, Old wo, R] := h20
    refine plain_batch (rest := [6, 7, 8, 9, 10, 11, 12, 13, 14, 15, 16, 17, 18, 19, 20, 21, 22, 23, 24, 25]) [⟨3, [], none⟩, ⟨4, [], none⟩, ⟨5, [], none⟩] (l' := [(26, Value.pointer none), (25, Value.bool false), (24, Value.bool false), (23, Value.int IntKind.i64 1), (22, Value.string (St l)), (21, Value.pointer none), (0, Value.string (St l)), (1, Value.int IntKind.i64 z), (4, Value.bool false), (5, Value.pointer none), (7, Value.pointer none), (10, Value.bool false), (15, Value.slice (some ⟨r13, 0, none⟩) 2 2), (16, Value.int IntKind.i64 2), (17, Value.int IntKind.i64 0), (18, Value.bool true)] ++ lr18) (pts' := []) (eqs := []) (by kernel_rfl) trivial (AllC_nil _) ?_
    refine plain_act (i := 6) (by kernel_rfl) ?_
    refine an_call (d := some 27) (f := 22) (args := [Value.pointer none]) (by kernel_rfl) Tryd.call22 (next_nil ) (F := [Cl r13 [Value.pointer none, Value.pointer (some ⟨r10, 0, none⟩)] 32, Cl r10 [Value.bool false, Value.slice none 0 0] 52, Old wo, R]) h21 ?_
    rintro v K w22 (⟨rfl, rfl⟩) h23
    refine ⟨_, rfl, ?_⟩
    have h24 : sat g w22 [Cl r13 [Value.pointer none, Value.pointer (some ⟨r10, 0, none⟩)] 32, Cl r10 [Value.bool false, Value.slice none 0 0] 52, Old wo, R] := h23
    refine plain_batch (rest := [11, 12, 13, 14, 15, 16, 17, 18, 19, 20, 21, 22, 23, 24, 25]) [⟨7, [], none⟩, ⟨8, [], none⟩, ⟨9, [], none⟩, ⟨10, [], none⟩] (l' := [(31, Value.pointer none), (30, Value.bool false), (29, Value.bool false), (28, Value.bool false), (27, Value.int IntKind.i64 0), (26, Value.pointer none), (25, Value.bool false), (24, Value.bool false), (23, Value.int IntKind.i64 1), (22, Value.string (St l)), (21, Value.pointer none), (0, Value.string (St l)), (1, Value.int IntKind.i64 z), (4, Value.bool false), (5, Value.pointer none), (7, Value.pointer none), (10, Value.bool false), (15, Value.slice (some ⟨r13, 0, none⟩) 2 2), (16, Value.int IntKind.i64 2), (17, Value.int IntKind.i64 0), (18, Value.bool true)] ++ lr18) (pts' := []) (eqs := []) (by kernel_rfl) trivial (AllC_nil _) ?_
    refine plain_act (i := 11) (by kernel_rfl) ?_
    refine an_call (d := some 32) (f := 21) (args := [Value.pointer none]) (by kernel_rfl) Tryd.call21 (left_nil ) (F := [Cl r13 [Value.pointer none, Value.pointer (some ⟨r10, 0, none⟩)] 32, Cl r10 [Value.bool false, Value.slice none 0 0] 52, Old wo, R]) h24 ?_
    rintro v K w25 (⟨rfl, rfl⟩) h26
    refine ⟨_, rfl, ?_⟩
    have h27 : sat g w25 [Cl r13 [Value.pointer none, Value.pointer (some ⟨r10, 0, none⟩)] 32, Cl r10 [Value.bool false, Value.slice none 0 0] 52, Old wo, R] := h26
    refine plain_batch (rest := [17, 18, 19, 20, 21, 22, 23, 24, 25]) [⟨12, [], none⟩, ⟨13, [], none⟩, ⟨14, [], none⟩, ⟨15, [], none⟩, ⟨16, [], none⟩] (l' := [(37, Value.int IntKind.i64 z), (36, Value.pointer none), (35, Value.bool false), (34, Value.bool false), (33, Value.bool false), (32, Value.int IntKind.i64 0), (31, Value.pointer none), (30, Value.bool false), (29, Value.bool false), (28, Value.bool false), (27, Value.int IntKind.i64 0), (26, Value.pointer none), (25, Value.bool false), (24, Value.bool false), (23, Value.int IntKind.i64 1), (22, Value.string (St l)), (21, Value.pointer none), (0, Value.string (St l)), (1, Value.int IntKind.i64 z), (4, Value.bool false), (5, Value.pointer none), (7, Value.pointer none), (10, Value.bool false), (15, Value.slice (some ⟨r13, 0, none⟩) 2 2), (16, Value.int IntKind.i64 2), (17, Value.int IntKind.i64 0), (18, Value.bool true)] ++ lr18) (pts' := []) (eqs := []) (by kernel_rfl) trivial (AllC_nil _) ?_
    refine plain_act (i := 17) (by kernel_rfl) ?_
    refine an_call (d := some 38) (f := 20) (args := [Value.pointer none, Value.int IntKind.i64 z]) (by kernel_rfl) Tryd.call20 (peek_nil z) (F := [Cl r13 [Value.pointer none, Value.pointer (some ⟨r10, 0, none⟩)] 32, Cl r10 [Value.bool false, Value.slice none 0 0] 52, Old wo, R]) h27 ?_
    rintro v K w28 (⟨rfl, rfl⟩) h29
    refine ⟨_, rfl, ?_⟩
    have h30 : sat g w28 [Cl r13 [Value.pointer none, Value.pointer (some ⟨r10, 0, none⟩)] 32, Cl r10 [Value.bool false, Value.slice none 0 0] 52, Old wo, R] := h29
    refine plain_batch (rest := [23, 24, 25]) [⟨18, [], none⟩, ⟨19, [], none⟩, ⟨20, [], none⟩, ⟨21, [], none⟩, ⟨22, [], none⟩] (l' := [(43, Value.pointer none), (42, Value.bool false), (41, Value.bool false), (40, Value.bool false), (39, Value.int IntKind.i64 0), (38, Value.slice none 0 0), (37, Value.int IntKind.i64 z), (36, Value.pointer none), (35, Value.bool false), (34, Value.bool false), (33, Value.bool false), (32, Value.int IntKind.i64 0), (31, Value.pointer none), (30, Value.bool false), (29, Value.bool false), (28, Value.bool false), (27, Value.int IntKind.i64 0), (26, Value.pointer none), (25, Value.bool false), (24, Value.bool false), (23, Value.int IntKind.i64 1), (22, Value.string (St l)), (21, Value.pointer none), (0, Value.string (St l)), (1, Value.int IntKind.i64 z), (4, Value.bool false), (5, Value.pointer none), (7, Value.pointer none), (10, Value.bool false), (15, Value.slice (some ⟨r13, 0, none⟩) 2 2), (16, Value.int IntKind.i64 2), (17, Value.int IntKind.i64 0), (18, Value.bool true)] ++ lr18) (pts' := []) (eqs := []) (by kernel_rfl) trivial (AllC_nil _) ?_
    refine plain_act (i := 23) (by kernel_rfl) ?_
    refine an_call (d := some 44) (f := 28) (args := [Value.pointer none]) (by kernel_rfl) Tryd.call28 (copy_nil ) (F := [Cl r13 [Value.pointer none, Value.pointer (some ⟨r10, 0, none⟩)] 32, Cl r10 [Value.bool false, Value.slice none 0 0] 52, Old wo, R]) h30 ?_
    rintro v K w31 (⟨rfl, rfl⟩) h32
    refine ⟨_, rfl, ?_⟩
    have h33 : sat g w31 [Cl r13 [Value.pointer none, Value.pointer (some ⟨r10, 0, none⟩)] 32, Cl r10 [Value.bool false, Value.slice none 0 0] 52, Old wo, R] := h32
    refine plain_batch (rest := []) [⟨24, [], none⟩, ⟨25, [], none⟩] (l' := [(46, Value.bool false), (45, Value.bool false), (44, Value.pointer none), (43, Value.pointer none), (42, Value.bool false), (41, Value.bool false), (40, Value.bool false), (39, Value.int IntKind.i64 0), (38, Value.slice none 0 0), (37, Value.int IntKind.i64 z), (36, Value.pointer none), (35, Value.bool false), (34, Value.bool false), (33, Value.bool false), (32, Value.int IntKind.i64 0), (31, Value.pointer none), (30, Value.bool false), (29, Value.bool false), (28, Value.bool false), (27, Value.int IntKind.i64 0), (26, Value.pointer none), (25, Value.bool false), (24, Value.bool false), (23, Value.int IntKind.i64 1), (22, Value.string (St l)), (21, Value.pointer none), (0, Value.string (St l)), (1, Value.int IntKind.i64 z), (4, Value.bool false), (5, Value.pointer none), (7, Value.pointer none), (10, Value.bool false), (15, Value.slice (some ⟨r13, 0, none⟩) 2 2), (16, Value.int IntKind.i64 2), (17, Value.int IntKind.i64 0), (18, Value.bool true)] ++ lr18) (pts' := []) (eqs := []) (by kernel_rfl) trivial (AllC_nil _) ?_
    change WP _ _ (CA Tryd.f9 [1, 1, 1, 0, 1, 0, 0, 1, 1, 0, 0, 1, 1]) _ _ _
    refine fr_cut [(0, Value.string (St l)), (1, Value.int IntKind.i64 z), (4, Value.bool false), (5, Value.pointer none), (7, Value.pointer none), (10, Value.bool false), (15, Value.slice (some ⟨r13, 0, none⟩) 2 2), (16, Value.int IntKind.i64 2), (17, Value.int IntKind.i64 0), (18, Value.bool true), (46, Value.bool false)] ⟨rfl, rfl, rfl, rfl, rfl, rfl, rfl, rfl, rfl, rfl, rfl, trivial⟩ (fun a => WP _ _ _ _ a _) (fun lr34 => ?_)
    refine gi_cnd (x := (Operand.tmp 46)) (s := CA Tryd.f9 [1, 1, 1, 0, 1, 0, 0, 1, 1, 0, 0, 1, 1, 0]) (t := CA Tryd.f9 [1, 1, 1, 0, 1, 0, 0, 1, 1, 0, 0, 1, 1, 1]) false (by kernel_rfl) (by kernel_rfl) ?_
    change WP _ _ (CA Tryd.f9 [1, 1, 1, 0, 1, 0, 0, 1, 1, 0, 0, 1, 1, 1]) _ _ _
    refine gi_skp (by kernel_rfl) ?_
    change WP _ _ (CA Tryd.f9 [1, 1, 1, 0, 1, 0, 0, 1, 1, 1]) _ _ _
    refine gi_pln (id := 9) (ops := RA Tryd.f9 [1, 1, 1, 0, 1, 0, 0, 1, 1, 1]) [0, 1] (by kernel_rfl) (by kernel_rfl) (by kernel_rfl) ?_
    refine plain_batch (rest := []) [⟨0, [], none⟩, ⟨1, [], none⟩] (l' := [(17, Value.int IntKind.i64 1), (47, Value.int IntKind.i64 1), (0, Value.string (St l)), (1, Value.int IntKind.i64 z), (4, Value.bool false), (5, Value.pointer none), (7, Value.pointer none), (10, Value.bool false), (15, Value.slice (some ⟨r13, 0, none⟩) 2 2), (16, Value.int IntKind.i64 2), (17, Value.int IntKind.i64 0), (18, Value.bool true), (46, Value.bool false)] ++ lr34) (pts' := []) (eqs := []) (by kernel_rfl) trivial (AllC_nil _) ?_
    change WP _ _ (CA Tryd.f9 [1, 1, 1, 0, 1, 0, 0]) _ _ _
    refine fr_cut [(0, Value.string (St l)), (1, Value.int IntKind.i64 z), (4, Value.bool false), (5, Value.pointer none), (7, Value.pointer none), (10, Value.bool false), (15, Value.slice (some ⟨r13, 0, none⟩) 2 2), (16, Value.int IntKind.i64 2), (17, Value.int IntKind.i64 1), (18, Value.bool true), (46, Value.bool false)] ⟨rfl, rfl, rfl, rfl, rfl, rfl, rfl, rfl, rfl, rfl, rfl, trivial⟩ (fun a => WP _ _ _ _ a _) (fun lr35 => ?_)
    refine gi_seq (x := CA Tryd.f9 [1, 1, 1, 0, 1, 0, 0, 0]) (y := CA Tryd.f9 [1, 1, 1, 0, 1, 0, 0, 1]) (by kernel_rfl) ?_
    refine gi_pln (id := 5) (ops := RA Tryd.f9 [1, 1, 1, 0, 1, 0, 0, 0]) [0] (by kernel_rfl) (by kernel_rfl) (by kernel_rfl) ?_
    refine plain_batch (rest := []) [⟨0, [], none⟩] (l' := [(18, Value.bool true), (0, Value.string (St l)), (1, Value.int IntKind.i64 z), (4, Value.bool false), (5, Value.pointer none), (7, Value.pointer none), (10, Value.bool false), (15, Value.slice (some ⟨r13, 0, none⟩) 2 2), (16, Value.int IntKind.i64 2), (17, Value.int IntKind.i64 1), (18, Value.bool true), (46, Value.bool false)] ++ lr35) (pts' := []) (eqs := []) (by kernel_rfl) trivial (AllC_nil _) ?_
    change WP _ _ (CA Tryd.f9 [1, 1, 1, 0, 1, 0, 0, 1]) _ _ _
    refine fr_cut [(0, Value.string (St l)), (1, Value.int IntKind.i64 z), (4, Value.bool false), (5, Value.pointer none), (7, Value.pointer none), (10, Value.bool false), (15, Value.slice (some ⟨r13, 0, none⟩) 2 2), (16, Value.int IntKind.i64 2), (17, Value.int IntKind.i64 1), (18, Value.bool true), (46, Value.bool false)] ⟨rfl, rfl, rfl, rfl, rfl, rfl, rfl, rfl, rfl, rfl, rfl, trivial⟩ (fun a => WP _ _ _ _ a _) (fun lr36 => ?_)
    refine gi_seq (x := CA Tryd.f9 [1, 1, 1, 0, 1, 0, 0, 1, 0]) (y := CA Tryd.f9 [1, 1, 1, 0, 1, 0, 0, 1, 1]) (by kernel_rfl) ?_
    refine gi_cnd (x := (Operand.tmp 18)) (s := CA Tryd.f9 [1, 1, 1, 0, 1, 0, 0, 1, 0, 0]) (t := CA Tryd.f9 [1, 1, 1, 0, 1, 0, 0, 1, 0, 1]) true (by kernel_rfl) (by kernel_rfl) ?_
    change WP _ _ (CA Tryd.f9 [1, 1, 1, 0, 1, 0, 0, 1, 0, 0]) _ _ _
    refine gi_skp (by kernel_rfl) ?_
    change WP _ _ (CA Tryd.f9 [1, 1, 1, 0, 1, 0, 0, 1, 1]) _ _ _
    refine gi_seq (x := CA Tryd.f9 [1, 1, 1, 0, 1, 0, 0, 1, 1, 0]) (y := CA Tryd.f9 [1, 1, 1, 0, 1, 0, 0, 1, 1, 1]) (by kernel_rfl) ?_
    refine gi_blk (id := 1) (x := CA Tryd.f9 [1, 1, 1, 0, 1, 0, 0, 1, 1, 0, 0]) (by kernel_rfl) ?_
    refine gi_seq (x := CA Tryd.f9 [1, 1, 1, 0, 1, 0, 0, 1, 1, 0, 0, 0]) (y := CA Tryd.f9 [1, 1, 1, 0, 1, 0, 0, 1, 1, 0, 0, 1]) (by kernel_rfl) ?_
    refine gi_pln (id := 6) (ops := RA Tryd.f9 [1, 1, 1, 0, 1, 0, 0, 1, 1, 0, 0, 0]) [0, 1, 2] (by kernel_rfl) (by kernel_rfl) (by kernel_rfl) ?_
    refine plain_law (i := 0) 19 (Value.pointer (some ⟨r13, 1, none⟩)) (by kernel_rfl) (law_indexSl (o := opA (RA Tryd.f9 [1, 1, 1, 0, 1, 0, 0, 1, 1, 0, 0, 0]) 0) (x := (Operand.tmp 15)) (i := (Operand.tmp 17)) (b := r13) (off := 0) (z := 1) (len := 2) (cap := 2) (by kernel_rfl) Tryd.underlying53 1 (by kernel_rfl) 1 (by kernel_rfl) (by kernel_rfl) (by omega) (by omega) 1 (by omega) _) ?_
    refine plain_batch (rest := []) [⟨1, [Value.pointer (some ⟨r10, 0, none⟩)], none⟩, ⟨2, [], none⟩] (l' := [(7, Value.pointer (some ⟨r10, 0, none⟩)), (20, Value.pointer (some ⟨r10, 0, none⟩)), (19, Value.pointer (some ⟨r13, 1, none⟩)), (0, Value.string (St l)), (1, Value.int IntKind.i64 z), (4, Value.bool false), (5, Value.pointer none), (7, Value.pointer none), (10, Value.bool false), (15, Value.slice (some ⟨r13, 0, none⟩) 2 2), (16, Value.int IntKind.i64 2), (17, Value.int IntKind.i64 1), (18, Value.bool true), (46, Value.bool false)] ++ lr36) (pts' := [(1, ⟨r13, 1, none⟩, Value.pointer (some ⟨r10, 0, none⟩))]) (eqs := []) (by kernel_rfl) trivial (AllC_cons (sat_cell h33 0 rfl rfl) (AllC_nil _)) ?_
    change WP _ _ (CA Tryd.f9 [1, 1, 1, 0, 1, 0, 0, 1, 1, 0, 0, 1]) _ _ _
    refine fr_cut [(0, Value.string (St l)), (1, Value.int IntKind.i64 z), (4, Value.bool false), (5, Value.pointer none), (7, Value.pointer (some ⟨r10, 0, none⟩)), (10, Value.bool false), (15, Value.slice (some ⟨r13, 0, none⟩) 2 2), (16, Value.int IntKind.i64 2), (17, Value.int IntKind.i64 1), (18, Value.bool true), (46, Value.bool false)] ⟨rfl, rfl, rfl, rfl, rfl, rfl, rfl, rfl, rfl, rfl, rfl, trivial⟩ (fun a => WP _ _ _ _ a _) (fun lr37 => ?_)
    refine gi_seq (x := CA Tryd.f9 [1, 1, 1, 0, 1, 0, 0, 1, 1, 0, 0, 1, 0]) (y := CA Tryd.f9 [1, 1, 1, 0, 1, 0, 0, 1, 1, 0, 0, 1, 1]) (by kernel_rfl) ?_
    refine gi_pln (id := 7) (ops := RA Tryd.f9 [1, 1, 1, 0, 1, 0, 0, 1, 1, 0, 0, 1, 0]) [0, 1, 2, 3, 4, 5, 6, 7, 8, 9, 10, 11, 12, 13, 14, 15, 16, 17, 18, 19, 20, 21, 22, 23, 24, 25] (by kernel_rfl) (by kernel_rfl) (by kernel_rfl) ?_
    refine plain_batch (rest := [2, 3, 4, 5, 6, 7, 8, 9, 10, 11, 12, 13, 14, 15, 16, 17, 18, 19, 20, 21, 22, 23, 24, 25]) [⟨0, [], none⟩, ⟨1, [], none⟩] (l' := [(22, Value.string (St l)), (21, Value.pointer (some ⟨r10, 0, none⟩)), (0, Value.string (St l)), (1, Value.int IntKind.i64 z), (4, Value.bool false), (5, Value.pointer none), (7, Value.pointer (some ⟨r10, 0, none⟩)), (10, Value.bool false), (15, Value.slice (some ⟨r13, 0, none⟩) 2 2), (16, Value.int IntKind.i64 2), (17, Value.int IntKind.i64 1), (18, Value.bool true), (46, Value.bool false)] ++ lr37) (pts' := []) (eqs := []) (by kernel_rfl) trivial (AllC_nil _) ?_
    have h38 : sat g w31 [Cl r10 [Value.bool false, Value.slice none 0 0] 52, Cl r13 [Value.pointer none, Value.pointer (some ⟨r10, 0, none⟩)] 32, Old wo, R] := sat_sel [1, 0, 2, 3] rfl h33
    refine plain_act (i := 2) (by kernel_rfl) ?_
    refine an_call (d := some 23) (f := 18) (args := [Value.pointer (some ⟨r10, 0, none⟩), Value.string (St l)]) (by kernel_rfl) Tryd.call18 (add_un r10 l) (F := [Cl r13 [Value.pointer none, Value.pointer (some ⟨r10, 0, none⟩)] 32, Old wo, R]) h38 ?_
    rintro v K w39 (⟨rfl, rfl⟩) h40
    refine ⟨_, rfl, ?_⟩
    have h41 : sat g w39 [Cl r10 [Value.bool false, Value.slice none 0 0] 52, Cl r13 [Value.pointer none, Value.pointer (some ⟨r10, 0, none⟩)] 32, Old wo, R] := h40
    refine plain_batch (rest := [6, 7, 8, 9, 10, 11, 12, 13, 14, 15, 16, 17, 18, 19, 20, 21, 22, 23, 24, 25]) [⟨3, [], none⟩, ⟨4, [], none⟩, ⟨5, [], none⟩] (l' := [(26, Value.pointer (some ⟨r10, 0, none⟩)), (25, Value.bool false), (24, Value.bool false), (23, Value.int IntKind.i64 1), (22, Value.string (St l)), (21, Value.pointer (some ⟨r10, 0, none⟩)), (0, Value.string (St l)), (1, Value.int IntKind.i64 z), (4, Value.bool false), (5, Value.pointer none), (7, Value.pointer (some ⟨r10, 0, none⟩)), (10, Value.bool false), (15, Value.slice (some ⟨r13, 0, none⟩) 2 2), (16, Value.int IntKind.i64 2), (17, Value.int IntKind.i64 1), (18, Value.bool true), (46, Value.bool false)] ++ lr37) (pts' := []) (eqs := []) (by kernel_rfl) trivial (AllC_nil _) ?_
    refine plain_act (i := 6) (by kernel_rfl) ?_
    refine an_call (d := some 27) (f := 22) (args := [Value.pointer (some ⟨r10, 0, none⟩)]) (by kernel_rfl) Tryd.call22 (next_un r10 ) (F := [Cl r13 [Value.pointer none, Value.pointer (some ⟨r10, 0, none⟩)] 32, Old wo, R]) h41 ?_
    rintro v K w42 (⟨rfl, rfl⟩) h43
    refine ⟨_, rfl, ?_⟩
    have h44 : sat g w42 [Cl r10 [Value.bool false, Value.slice none 0 0] 52, Cl r13 [Value.pointer none, Value.pointer (some ⟨r10, 0, none⟩)] 32, Old wo, R] := h43
    refine plain_batch (rest := [11, 12, 13, 14, 15, 16, 17, 18, 19, 20, 21, 22, 23, 24, 25]) [⟨7, [], none⟩, ⟨8, [], none⟩, ⟨9, [], none⟩, ⟨10, [], none⟩] (l' := [(31, Value.pointer (some ⟨r10, 0, none⟩)), (30, Value.bool false), (29, Value.bool false), (28, Value.bool false), (27, Value.int IntKind.i64 0), (26, Value.pointer (some ⟨r10, 0, none⟩)), (25, Value.bool false), (24, Value.bool false), (23, Value.int IntKind.i64 1), (22, Value.string (St l)), (21, Value.pointer (some ⟨r10, 0, none⟩)), (0, Value.string (St l)), (1, Value.int IntKind.i64 z), (4, Value.bool false), (5, Value.pointer none), (7, Value.pointer (some ⟨r10, 0, none⟩)), (10, Value.bool false), (15, Value.slice (some ⟨r13, 0, none⟩) 2 2), (16, Value.int IntKind.i64 2), (17, Value.int IntKind.i64 1), (18, Value.bool true), (46, Value.bool false)] ++ lr37) (pts' := []) (eqs := []) (by kernel_rfl) trivial (AllC_nil _) ?_
    refine plain_act (i := 11) (by kernel_rfl) ?_
    refine an_call (d := some 32) (f := 21) (args := [Value.pointer (some ⟨r10, 0, none⟩)]) (by kernel_rfl) Tryd.call21 (left_un r10 ) (F := [Cl r13 [Value.pointer none, Value.pointer (some ⟨r10, 0, none⟩)] 32, Old wo, R]) h44 ?_
    rintro v K w45 (⟨rfl, rfl⟩) h46
    refine ⟨_, rfl, ?_⟩
    have h47 : sat g w45 [Cl r10 [Value.bool false, Value.slice none 0 0] 52, Cl r13 [Value.pointer none, Value.pointer (some ⟨r10, 0, none⟩)] 32, Old wo, R] := h46
    refine plain_batch (rest := [17, 18, 19, 20, 21, 22, 23, 24, 25]) [⟨12, [], none⟩, ⟨13, [], none⟩, ⟨14, [], none⟩, ⟨15, [], none⟩, ⟨16, [], none⟩] (l' := [(37, Value.int IntKind.i64 z), (36, Value.pointer (some ⟨r10, 0, none⟩)), (35, Value.bool false), (34, Value.bool false), (33, Value.bool false), (32, Value.int IntKind.i64 0), (31, Value.pointer (some ⟨r10, 0, none⟩)), (30, Value.bool false), (29, Value.bool false), (28, Value.bool false), (27, Value.int IntKind.i64 0), (26, Value.pointer (some ⟨r10, 0, none⟩)), (25, Value.bool false), (24, Value.bool false), (23, Value.int IntKind.i64 1), (22, Value.string (St l)), (21, Value.pointer (some ⟨r10, 0, none⟩)), (0, Value.string (St l)), (1, Value.int IntKind.i64 z), (4, Value.bool false), (5, Value.pointer none), (7, Value.pointer (some ⟨r10, 0, none⟩)), (10, Value.bool false), (15, Value.slice (some ⟨r13, 0, none⟩) 2 2), (16, Value.int IntKind.i64 2), (17, Value.int IntKind.i64 1), (18, Value.bool true), (46, Value.bool false)] ++ lr37) (pts' := []) (eqs := []) (by kernel_rfl) trivial (AllC_nil _) ?_
    refine plain_act (i := 17) (by kernel_rfl) ?_
    refine an_call (d := some 38) (f := 20) (args := [Value.pointer (some ⟨r10, 0, none⟩), Value.int IntKind.i64 z]) (by kernel_rfl) Tryd.call20 (peek_un r10 z) (F := [Cl r13 [Value.pointer none, Value.pointer (some ⟨r10, 0, none⟩)] 32, Old wo, R]) h47 ?_
    rintro v K w48 (⟨rfl, rfl⟩) h49
    refine ⟨_, rfl, ?_⟩
    have h50 : sat g w48 [Cl r10 [Value.bool false, Value.slice none 0 0] 52, Cl r13 [Value.pointer none, Value.pointer (some ⟨r10, 0, none⟩)] 32, Old wo, R] := h49
    refine plain_batch (rest := [23, 24, 25]) [⟨18, [], none⟩, ⟨19, [], none⟩, ⟨20, [], none⟩, ⟨21, [], none⟩, ⟨22, [], none⟩] (l' := [(43, Value.pointer (some ⟨r10, 0, none⟩)), (42, Value.bool false), (41, Value.bool false), (40, Value.bool false), (39, Value.int IntKind.i64 0), (38, Value.slice none 0 0), (37, Value.int IntKind.i64 z), (36, Value.pointer (some ⟨r10, 0, none⟩)), (35, Value.bool false), (34, Value.bool false), (33, Value.bool false), (32, Value.int IntKind.i64 0), (31, Value.pointer (some ⟨r10, 0, none⟩)), (30, Value.bool false), (29, Value.bool false), (28, Value.bool false), (27, Value.int IntKind.i64 0), (26, Value.pointer (some ⟨r10, 0, none⟩)), (25, Value.bool false), (24, Value.bool false), (23, Value.int IntKind.i64 1), (22, Value.string (St l)), (21, Value.pointer (some ⟨r10, 0, none⟩)), (0, Value.string (St l)), (1, Value.int IntKind.i64 z), (4, Value.bool false), (5, Value.pointer none), (7, Value.pointer (some ⟨r10, 0, none⟩)), (10, Value.bool false), (15, Value.slice (some ⟨r13, 0, none⟩) 2 2), (16, Value.int IntKind.i64 2), (17, Value.int IntKind.i64 1), (18, Value.bool true), (46, Value.bool false)] ++ lr37) (pts' := []) (eqs := []) (by kernel_rfl) trivial (AllC_nil _) ?_
    refine plain_act (i := 23) (by kernel_rfl) ?_
    refine an_call (d := some 44) (f := 28) (args := [Value.pointer (some ⟨r10, 0, none⟩)]) (by kernel_rfl) Tryd.call28 (copy_un r10 ) (F := [Cl r13 [Value.pointer none, Value.pointer (some ⟨r10, 0, none⟩)] 32, Old wo, R]) h50 ?_
    rintro v K w51 (⟨rfl, rfl⟩) h52
    refine ⟨_, rfl, ?_⟩
    have h53 : sat g w51 [Cl r10 [Value.bool false, Value.slice none 0 0] 52, Cl r13 [Value.pointer none, Value.pointer (some ⟨r10, 0, none⟩)] 32, Old wo, R] := h52
    refine plain_batch (rest := []) [⟨24, [], none⟩, ⟨25, [], none⟩] (l' := [(46, Value.bool false), (45, Value.bool false), (44, Value.pointer none), (43, Value.pointer (some ⟨r10, 0, none⟩)), (42, Value.bool false), (41, Value.bool false), (40, Value.bool false), (39, Value.int IntKind.i64 0), (38, Value.slice none 0 0), (37, Value.int IntKind.i64 z), (36, Value.pointer (some ⟨r10, 0, none⟩)), (35, Value.bool false), (34, Value.bool false), (33, Value.bool false), (32, Value.int IntKind.i64 0), (31, Value.pointer (some ⟨r10, 0, none⟩)), (30, Value.bool false), (29, Value.bool false), (28, Value.bool false), (27, Value.int IntKind.i64 0), (26, Value.pointer (some ⟨r10, 0, none⟩)), (25, Value.bool false), (24, Value.bool false), (23, Value.int IntKind.i64 1), (22, Value.string (St l)), (21, Value.pointer (some ⟨r10, 0, none⟩)), (0, Value.string (St l)), (1, Value.int IntKind.i64 z), (4, Value.bool false), (5, Value.pointer none), (7, Value.pointer (some ⟨r10, 0, none⟩)), (10, Value.bool false), (15, Value.slice (some ⟨r13, 0, none⟩) 2 2), (16, Value.int IntKind.i64 2), (17, Value.int IntKind.i64 1), (18, Value.bool true), (46, Value.bool false)] ++ lr37) (pts' := []) (eqs := []) (by kernel_rfl) trivial (AllC_nil _) ?_
    change WP _ _ (CA Tryd.f9 [1, 1, 1, 0, 1, 0, 0, 1, 1, 0, 0, 1, 1]) _ _ _
    refine fr_cut [(0, Value.string (St l)), (1, Value.int IntKind.i64 z), (4, Value.bool false), (5, Value.pointer none), (7, Value.pointer (some ⟨r10, 0, none⟩)), (10, Value.bool false), (15, Value.slice (some ⟨r13, 0, none⟩) 2 2), (16, Value.int IntKind.i64 2), (17, Value.int IntKind.i64 1), (18, Value.bool true), (46, Value.bool false)] ⟨rfl, rfl, rfl, rfl, rfl, rfl, rfl, rfl, rfl, rfl, rfl, trivial⟩ (fun a => WP _ _ _ _ a _) (fun lr54 => ?_)
    refine gi_cnd (x := (Operand.tmp 46)) (s := CA Tryd.f9 [1, 1, 1, 0, 1, 0, 0, 1, 1, 0, 0, 1, 1, 0]) (t := CA Tryd.f9 [1, 1, 1, 0, 1, 0, 0, 1, 1, 0, 0, 1, 1, 1]) false (by kernel_rfl) (by kernel_rfl) ?_
    change WP _ _ (CA Tryd.f9 [1, 1, 1, 0, 1, 0, 0, 1, 1, 0, 0, 1, 1, 1]) _ _ _
    refine gi_skp (by kernel_rfl) ?_
    change WP _ _ (CA Tryd.f9 [1, 1, 1, 0, 1, 0, 0, 1, 1, 1]) _ _ _
    refine gi_pln (id := 9) (ops := RA Tryd.f9 [1, 1, 1, 0, 1, 0, 0, 1, 1, 1]) [0, 1] (by kernel_rfl) (by kernel_rfl) (by kernel_rfl) ?_
    refine plain_batch (rest := []) [⟨0, [], none⟩, ⟨1, [], none⟩] (l' := [(17, Value.int IntKind.i64 2), (47, Value.int IntKind.i64 2), (0, Value.string (St l)), (1, Value.int IntKind.i64 z), (4, Value.bool false), (5, Value.pointer none), (7, Value.pointer (some ⟨r10, 0, none⟩)), (10, Value.bool false), (15, Value.slice (some ⟨r13, 0, none⟩) 2 2), (16, Value.int IntKind.i64 2), (17, Value.int IntKind.i64 1), (18, Value.bool true), (46, Value.bool false)] ++ lr54) (pts' := []) (eqs := []) (by kernel_rfl) trivial (AllC_nil _) ?_
    change WP _ _ (CA Tryd.f9 [1, 1, 1, 0, 1, 0, 0]) _ _ _
    refine fr_cut [(0, Value.string (St l)), (1, Value.int IntKind.i64 z), (4, Value.bool false), (5, Value.pointer none), (7, Value.pointer (some ⟨r10, 0, none⟩)), (10, Value.bool false), (15, Value.slice (some ⟨r13, 0, none⟩) 2 2), (16, Value.int IntKind.i64 2), (17, Value.int IntKind.i64 2), (18, Value.bool true), (46, Value.bool false)] ⟨rfl, rfl, rfl, rfl, rfl, rfl, rfl, rfl, rfl, rfl, rfl, trivial⟩ (fun a => WP _ _ _ _ a _) (fun lr55 => ?_)
    refine gi_seq (x := CA Tryd.f9 [1, 1, 1, 0, 1, 0, 0, 0]) (y := CA Tryd.f9 [1, 1, 1, 0, 1, 0, 0, 1]) (by kernel_rfl) ?_
    refine gi_pln (id := 5) (ops := RA Tryd.f9 [1, 1, 1, 0, 1, 0, 0, 0]) [0] (by kernel_rfl) (by kernel_rfl) (by kernel_rfl) ?_
    refine plain_batch (rest := []) [⟨0, [], none⟩] (l' := [(18, Value.bool false), (0, Value.string (St l)), (1, Value.int IntKind.i64 z), (4, Value.bool false), (5, Value.pointer none), (7, Value.pointer (some ⟨r10, 0, none⟩)), (10, Value.bool false), (15, Value.slice (some ⟨r13, 0, none⟩) 2 2), (16, Value.int IntKind.i64 2), (17, Value.int IntKind.i64 2), (18, Value.bool true), (46, Value.bool false)] ++ lr55) (pts' := []) (eqs := []) (by kernel_rfl) trivial (AllC_nil _) ?_
    change WP _ _ (CA Tryd.f9 [1, 1, 1, 0, 1, 0, 0, 1]) _ _ _
    refine fr_cut [(0, Value.string (St l)), (1, Value.int IntKind.i64 z), (4, Value.bool false), (5, Value.pointer none), (7, Value.pointer (some ⟨r10, 0, none⟩)), (10, Value.bool false), (15, Value.slice (some ⟨r13, 0, none⟩) 2 2), (16, Value.int IntKind.i64 2), (17, Value.int IntKind.i64 2), (18, Value.bool false), (46, Value.bool false)] ⟨rfl, rfl, rfl, rfl, rfl, rfl, rfl, rfl, rfl, rfl, rfl, trivial⟩ (fun a => WP _ _ _ _ a _) (fun lr56 => ?_)
    refine gi_seq (x := CA Tryd.f9 [1, 1, 1, 0, 1, 0, 0, 1, 0]) (y := CA Tryd.f9 [1, 1, 1, 0, 1, 0, 0, 1, 1]) (by kernel_rfl) ?_
    refine gi_cnd (x := (Operand.tmp 18)) (s := CA Tryd.f9 [1, 1, 1, 0, 1, 0, 0, 1, 0, 0]) (t := CA Tryd.f9 [1, 1, 1, 0, 1, 0, 0, 1, 0, 1]) false (by kernel_rfl) (by kernel_rfl) ?_
    change WP _ _ (CA Tryd.f9 [1, 1, 1, 0, 1, 0, 0, 1, 0, 1]) _ _ _
    refine gi_ext (id := 0) (by kernel_rfl) ?_
    change WP _ _ (CA Tryd.f9 [1, 1, 1, 1]) _ _ _
    refine gi_seq (x := CA Tryd.f9 [1, 1, 1, 1, 0]) (y := CA Tryd.f9 [1, 1, 1, 1, 1]) (by kernel_rfl) ?_
    refine gi_pln (id := 10) (ops := RA Tryd.f9 [1, 1, 1, 1, 0]) [0, 1] (by kernel_rfl) (by kernel_rfl) (by kernel_rfl) ?_
    have h57 : sat g w51 [Old wo, Cl r10 [Value.bool false, Value.slice none 0 0] 52, Cl r13 [Value.pointer none, Value.pointer (some ⟨r10, 0, none⟩)] 32, R] := sat_sel [2, 0, 1, 3] rfl h53
    refine plain_act (i := 0) (by kernel_rfl) ?_
    refine an_call (d := some 48) (f := 11) (args := []) (by kernel_rfl) Tryd.call11 (works_ht wo hg) (F := [Cl r10 [Value.bool false, Value.slice none 0 0] 52, Cl r13 [Value.pointer none, Value.pointer (some ⟨r10, 0, none⟩)] 32, R]) h57 ?_
    rintro v K w58 (⟨rfl, rfl⟩) h59
    refine ⟨_, rfl, ?_⟩
    have h60 : sat g w58 [Old wo, Cl r10 [Value.bool false, Value.slice none 0 0] 52, Cl r13 [Value.pointer none, Value.pointer (some ⟨r10, 0, none⟩)] 32, R] := h59
    refine plain_batch (rest := []) [⟨1, [], none⟩] (l' := [(4, Value.bool true), (48, Value.bool true), (0, Value.string (St l)), (1, Value.int IntKind.i64 z), (4, Value.bool false), (5, Value.pointer none), (7, Value.pointer (some ⟨r10, 0, none⟩)), (10, Value.bool false), (15, Value.slice (some ⟨r13, 0, none⟩) 2 2), (16, Value.int IntKind.i64 2), (17, Value.int IntKind.i64 2), (18, Value.bool false), (46, Value.bool false)] ++ lr56) (pts' := []) (eqs := []) (by kernel_rfl) trivial (AllC_nil _) ?_
    change WP _ _ (CA Tryd.f9 [1, 1, 1, 1, 1]) _ _ _
    refine fr_cut [(0, Value.string (St l)), (1, Value.int IntKind.i64 z), (4, Value.bool true), (5, Value.pointer none), (7, Value.pointer (some ⟨r10, 0, none⟩)), (10, Value.bool false), (15, Value.slice (some ⟨r13, 0, none⟩) 2 2), (16, Value.int IntKind.i64 2), (17, Value.int IntKind.i64 2), (18, Value.bool false), (46, Value.bool false)] ⟨rfl, rfl, rfl, rfl, rfl, rfl, rfl, rfl, rfl, rfl, rfl, trivial⟩ (fun a => WP _ _ _ _ a _) (fun lr61 => ?_)
    refine gi_rt (by kernel_rfl) ?_
    repeat (first | simp only [Exit.inBlock] | simp only [Exit.then])
    have h62 : sat g w58 [Old wo, R] := sat_sel [0, 3] rfl h60
    refine hi_out [] (Value.bool true) [] (by kernel_rfl) (by intro q hq; cases hq) ?_
    exact ⟨Value.bool true, [Old wo], rfl, ⟨rfl, rfl⟩, h62⟩

end Go.Proofs.YtjedglbadkbneaaDoor
