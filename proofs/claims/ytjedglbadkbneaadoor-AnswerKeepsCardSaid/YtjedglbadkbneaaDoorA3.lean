/- Walks, printed by my generator gen3.py. -/
import Derived.Test.YtjedglbadkbneaaDoorA2
namespace Go.Proofs.YtjedglbadkbneaaDoor
set_option maxHeartbeats 4000000 in
theorem new_ht  : HT Tryd.prog 17 [] [] (fun v K => ∃ b, v = Value.pointer (some ⟨b, 0, none⟩) ∧ K = [Sr 52 b []]) := by
  refine hi_in 3 ([] : Fr) Tryd.func17 (by kernel_rfl) Tryd.ntmps17 rfl rfl ?_
  intro g w0 R h0
  refine gi_seq (x := CA Tryd.f17 [0]) (y := CA Tryd.f17 [1]) (by kernel_rfl) ?_
  refine gi_pln (id := 0) (ops := RA Tryd.f17 [0]) [0] (by kernel_rfl) (by kernel_rfl) (by kernel_rfl) ?_
  refine plain_batch (rest := []) [⟨0, [], none⟩] (l' := ([(0, Value.pointer none)] : Fr)) (pts' := []) (eqs := []) (by kernel_rfl) trivial (AllC_nil _) ?_
  refine PO.mk ?_
  change WP _ _ (CA Tryd.f17 [1]) _ _ _
  refine fk_cut ([(0, Value.pointer none)] : Fr) (by kernel_rfl) (fun a => WP _ _ _ _ a _) (fun lr1 => ?_)
  refine gi_seq (x := CA Tryd.f17 [1, 0]) (y := CA Tryd.f17 [1, 1]) (by kernel_rfl) ?_
  refine gi_pln (id := 1) (ops := RA Tryd.f17 [1, 0]) [0, 1, 2] (by kernel_rfl) (by kernel_rfl) (by kernel_rfl) ?_
  refine plain_batch (rest := [1, 2]) [⟨0, [], none⟩] (l' := ([(1, Value.agg #[Value.bool true, Value.slice none 0 0]), (0, Value.pointer none)] : Fr) ++ lr1) (pts' := []) (eqs := []) (by kernel_rfl) trivial (AllC_nil _) ?_
  refine plain_act (i := 1) (by kernel_rfl) ?_
  refine an_new (d := 2) (fun xb_ => Value.pointer (some ⟨xb_, 0, none⟩)) (fun xb_ => Obj.cells [Value.bool true, Value.slice none 0 0].toArray 52 (0, 0)) (fun xb_ => by kernel_rfl) (by kernel_rfl) rfl h0 ?_
  intro r2 w3 (h4 : sat g w3 [Cl r2 [Value.bool true, Value.slice none 0 0] 52, R])
  refine plain_batch (rest := []) [⟨2, [], none⟩] (l' := ([(0, Value.pointer (some ⟨r2, 0, none⟩)), (2, Value.pointer (some ⟨r2, 0, none⟩)), (1, Value.agg #[Value.bool true, Value.slice none 0 0]), (0, Value.pointer none)] : Fr) ++ lr1) (pts' := []) (eqs := []) (by kernel_rfl) trivial (AllC_nil _) ?_
  refine PO.mk ?_
  change WP _ _ (CA Tryd.f17 [1, 1]) _ _ _
  refine fk_cut ([(0, Value.pointer (some ⟨r2, 0, none⟩))] : Fr) (by kernel_rfl) (fun a => WP _ _ _ _ a _) (fun lr5 => ?_)
  refine gi_rt (by kernel_rfl) ?_
  repeat (first | simp only [Exit.inBlock] | simp only [Exit.then])
  have h6 : sat g w3 [Vw 3 1 none 0 0 (fl eI []), Cl r2 [Value.bool true, Value.slice none 0 0] 52, R] := vw_nil 3 1 h4
  have h7 : sat g w3 [Cl r2 [Value.bool true, Value.slice none 0 0] 52, Vw 3 1 none 0 0 (fl eI []), R] := sat_sel [1, 0, 2] rfl h6
  have h8 : sat g w3 [Sr 52 r2 [], R] := sr_close (p := none) (c := 0) (by simp) h7
  refine hi_out [] (Value.pointer (some ⟨r2, 0, none⟩)) [] (by kernel_rfl) (by intro q hq; cases hq) ?_
  exact ⟨Value.pointer (some ⟨r2, 0, none⟩), [Sr 52 r2 []], rfl, ⟨r2, rfl, rfl⟩, h8⟩

set_option maxHeartbeats 4000000 in
theorem add_ht (wo : World) (hg : Lett wo) (b : Nat) (L : List Int) (l : List UInt8) (hl : l.length ≤ 1099511627776) : HT Tryd.prog 18 [Value.pointer (some ⟨b, 0, none⟩), Value.string (St l)] [Sr 52 b L, Old wo] (fun v K => v = Value.int .i64 (addE L l) ∧ K = [Sr 52 b (addL L l), Old wo]) := by
  refine hi_in 39 ([(0, Value.pointer (some ⟨b, 0, none⟩)), (1, Value.string (St l))] : Fr) Tryd.func18 (by kernel_rfl) Tryd.ntmps18 rfl rfl ?_
  intro g w0 R h0
  obtain ⟨hl4, p1, cap2, h3⟩ := sr_open h0
  have h5 : sat g w0 [Vw 3 1 p1 L.length cap2 (fl eI L), Cl b [Value.bool true, Value.slice p1 L.length cap2] 52, Old wo, R] := sat_sel [1, 0, 2, 3] rfl h3
  obtain ⟨hn6, hn7⟩ := vw_le h5
  refine gi_seq (x := CA Tryd.f18 [0]) (y := CA Tryd.f18 [1]) (by kernel_rfl) ?_
  refine gi_pln (id := 0) (ops := RA Tryd.f18 [0]) [0] (by kernel_rfl) (by kernel_rfl) (by kernel_rfl) ?_
  refine plain_batch (rest := []) [⟨0, [], none⟩] (l' := ([(4, Value.int IntKind.i64 0), (0, Value.pointer (some ⟨b, 0, none⟩)), (1, Value.string (St l))] : Fr)) (pts' := []) (eqs := []) (by kernel_rfl) trivial (AllC_nil _) ?_
  refine PO.mk ?_
  change WP _ _ (CA Tryd.f18 [1]) _ _ _
  refine fk_cut ([(0, Value.pointer (some ⟨b, 0, none⟩)), (1, Value.string (St l)), (4, Value.int IntKind.i64 0)] : Fr) (by kernel_rfl) (fun a => WP _ _ _ _ a _) (fun lr8 => ?_)
  refine gi_seq (x := CA Tryd.f18 [1, 0]) (y := CA Tryd.f18 [1, 1]) (by kernel_rfl) ?_
  refine gi_seq (x := CA Tryd.f18 [1, 0, 0]) (y := CA Tryd.f18 [1, 0, 1]) (by kernel_rfl) ?_
  refine gi_pln (id := 1) (ops := RA Tryd.f18 [1, 0, 0]) [0, 1, 2] (by kernel_rfl) (by kernel_rfl) (by kernel_rfl) ?_
  refine plain_batch (rest := [1, 2]) [⟨0, [], none⟩] (l' := ([(7, Value.pointer (some ⟨b, 0, none⟩)), (0, Value.pointer (some ⟨b, 0, none⟩)), (1, Value.string (St l)), (4, Value.int IntKind.i64 0)] : Fr) ++ lr8) (pts' := []) (eqs := []) (by kernel_rfl) trivial (AllC_nil _) ?_
  have h9 : sat g w0 [Cl b [Value.bool true, Value.slice p1 L.length cap2] 52, Vw 3 1 p1 L.length cap2 (fl eI L), Old wo, R] := sat_sel [1, 0, 2, 3] rfl h5
  refine plain_act (i := 1) (by kernel_rfl) ?_
  refine an_call (d := some 8) (f := 34) (args := [Value.pointer (some ⟨b, 0, none⟩)]) (by kernel_rfl) Tryd.call34 (valid_ht b _) (F := [Vw 3 1 p1 L.length cap2 (fl eI L), Old wo, R]) h9 ?_
  rintro v K w10 (⟨rfl, rfl⟩) h11
  refine ⟨_, rfl, ?_⟩
  have h12 : sat g w10 [Cl b [Value.bool true, Value.slice p1 L.length cap2] 52, Vw 3 1 p1 L.length cap2 (fl eI L), Old wo, R] := h11
  refine plain_batch (rest := []) [⟨2, [], none⟩] (l' := ([(9, Value.bool false), (8, Value.bool true), (7, Value.pointer (some ⟨b, 0, none⟩)), (0, Value.pointer (some ⟨b, 0, none⟩)), (1, Value.string (St l)), (4, Value.int IntKind.i64 0)] : Fr) ++ lr8) (pts' := []) (eqs := []) (by kernel_rfl) trivial (AllC_nil _) ?_
  refine PO.mk ?_
  change WP _ _ (CA Tryd.f18 [1, 0, 1]) _ _ _
  refine fk_cut ([(0, Value.pointer (some ⟨b, 0, none⟩)), (1, Value.string (St l)), (4, Value.int IntKind.i64 0), (9, Value.bool false)] : Fr) (by kernel_rfl) (fun a => WP _ _ _ _ a _) (fun lr13 => ?_)
  refine gi_cnd (x := (Operand.tmp 9)) (s := CA Tryd.f18 [1, 0, 1, 0]) (t := CA Tryd.f18 [1, 0, 1, 1]) false (by kernel_rfl) (by kernel_rfl) ?_
  change WP _ _ (CA Tryd.f18 [1, 0, 1, 1]) _ _ _
  refine gi_skp (by kernel_rfl) ?_
  change WP _ _ (CA Tryd.f18 [1, 1]) _ _ _
  refine gi_seq (x := CA Tryd.f18 [1, 1, 0]) (y := CA Tryd.f18 [1, 1, 1]) (by kernel_rfl) ?_
  refine gi_pln (id := 3) (ops := RA Tryd.f18 [1, 1, 0]) [0, 1, 2, 3, 4, 5, 6] (by kernel_rfl) (by kernel_rfl) (by kernel_rfl) ?_
  refine plain_batch (rest := [1, 2, 3, 4, 5, 6]) [⟨0, [], none⟩] (l' := ([(11, Value.string (St l)), (0, Value.pointer (some ⟨b, 0, none⟩)), (1, Value.string (St l)), (4, Value.int IntKind.i64 0), (9, Value.bool false)] : Fr) ++ lr13) (pts' := []) (eqs := []) (by kernel_rfl) trivial (AllC_nil _) ?_
  have h16 : sat g w10 [Old wo, Cl b [Value.bool true, Value.slice p1 L.length cap2] 52, Vw 3 1 p1 L.length cap2 (fl eI L), R] := sat_sel [2, 0, 1, 3] rfl h12
  refine plain_act (i := 1) (by kernel_rfl) ?_
  refine an_call (d := some 12) (f := 12) (args := [Value.string (St l)]) (by kernel_rfl) Tryd.call12 (parse_ht wo hg l (by omega)) (F := [Cl b [Value.bool true, Value.slice p1 L.length cap2] 52, Vw 3 1 p1 L.length cap2 (fl eI L), R]) h16 ?_
  rintro v K w17 (⟨p14, cap15, rfl, rfl⟩) h18
  refine ⟨_, rfl, ?_⟩
  have h19 : sat g w17 [Sl 3 1 p14 ((((prs l).1).length)) cap15 (fl eI ((prs l).1)), Old wo, Cl b [Value.bool true, Value.slice p1 L.length cap2] 52, Vw 3 1 p1 L.length cap2 (fl eI L), R] := h18
  obtain ⟨hn20, hn21⟩ := sl_le h19
  have hq22 := prs_len l
  refine plain_batch (rest := []) [⟨2, [], none⟩, ⟨3, [], none⟩, ⟨4, [], none⟩, ⟨5, [], none⟩, ⟨6, [], none⟩] (l' := ([(6, Value.int IntKind.i64 ((prs l).2)), (5, Value.slice p14 ((((prs l).1).length)) cap15), (14, Value.int IntKind.i64 ((prs l).2)), (13, Value.slice p14 ((((prs l).1).length)) cap15), (10, Value.tuple #[Value.slice p14 ((((prs l).1).length)) cap15, Value.int IntKind.i64 ((prs l).2)]), (12, Value.tuple #[Value.slice p14 ((((prs l).1).length)) cap15, Value.int IntKind.i64 ((prs l).2)]), (11, Value.string (St l)), (0, Value.pointer (some ⟨b, 0, none⟩)), (1, Value.string (St l)), (4, Value.int IntKind.i64 0), (9, Value.bool false)] : Fr) ++ lr13) (pts' := []) (eqs := []) (by kernel_rfl) trivial (AllC_nil _) ?_
  refine PO.mk ?_
  change WP _ _ (CA Tryd.f18 [1, 1, 1]) _ _ _
  refine fk_cut ([(0, Value.pointer (some ⟨b, 0, none⟩)), (1, Value.string (St l)), (4, Value.int IntKind.i64 0), (5, Value.slice p14 ((((prs l).1).length)) cap15), (6, Value.int IntKind.i64 ((prs l).2)), (9, Value.bool false)] : Fr) (by kernel_rfl) (fun a => WP _ _ _ _ a _) (fun lr23 => ?_)
  refine gi_seq (x := CA Tryd.f18 [1, 1, 1, 0]) (y := CA Tryd.f18 [1, 1, 1, 1]) (by kernel_rfl) ?_
  refine gi_blk (id := 0) (x := CA Tryd.f18 [1, 1, 1, 0, 0]) (by kernel_rfl) ?_
  refine gi_seq (x := CA Tryd.f18 [1, 1, 1, 0, 0, 0]) (y := CA Tryd.f18 [1, 1, 1, 0, 0, 1]) (by kernel_rfl) ?_
  refine gi_pln (id := 4) (ops := RA Tryd.f18 [1, 1, 1, 0, 0, 0]) [0, 1, 2] (by kernel_rfl) (by kernel_rfl) (by kernel_rfl) ?_
  refine plain_batch (rest := [1, 2]) [⟨0, [], none⟩] (l' := ([(16, Value.int IntKind.i64 ((prs l).2)), (0, Value.pointer (some ⟨b, 0, none⟩)), (1, Value.string (St l)), (4, Value.int IntKind.i64 0), (5, Value.slice p14 ((((prs l).1).length)) cap15), (6, Value.int IntKind.i64 ((prs l).2)), (9, Value.bool false)] : Fr) ++ lr23) (pts' := []) (eqs := []) (by kernel_rfl) trivial (AllC_nil _) ?_
  by_cases c24 : (prs l).2 = 0
  ·
    refine plain_batch (rest := []) [⟨1, [], some (Value.bool false)⟩, ⟨2, [], none⟩] (l' := ([(15, Value.bool false), (17, Value.bool false), (16, Value.int IntKind.i64 ((prs l).2)), (0, Value.pointer (some ⟨b, 0, none⟩)), (1, Value.string (St l)), (4, Value.int IntKind.i64 0), (5, Value.slice p14 ((((prs l).1).length)) cap15), (6, Value.int IntKind.i64 ((prs l).2)), (9, Value.bool false)] : Fr) ++ lr23) (pts' := []) (eqs := [(Value.bool (((prs l).2) != 0), Value.bool false)]) (by kernel_rfl) ⟨(ov_nf (by omega)), trivial⟩ (AllC_nil _) ?_
    refine PO.mk ?_
    change WP _ _ (CA Tryd.f18 [1, 1, 1, 0, 0, 1]) _ _ _
    refine fk_cut ([(0, Value.pointer (some ⟨b, 0, none⟩)), (1, Value.string (St l)), (4, Value.int IntKind.i64 0), (5, Value.slice p14 ((((prs l).1).length)) cap15), (6, Value.int IntKind.i64 ((prs l).2)), (9, Value.bool false), (15, Value.bool false)] : Fr) (by kernel_rfl) (fun a => WP _ _ _ _ a _) (fun lr25 => ?_)
    refine gi_cnd (x := (Operand.tmp 15)) (s := CA Tryd.f18 [1, 1, 1, 0, 0, 1, 0]) (t := CA Tryd.f18 [1, 1, 1, 0, 0, 1, 1]) false (by kernel_rfl) (by kernel_rfl) ?_
    change WP _ _ (CA Tryd.f18 [1, 1, 1, 0, 0, 1, 1]) _ _ _
    refine gi_seq (x := CA Tryd.f18 [1, 1, 1, 0, 0, 1, 1, 0]) (y := CA Tryd.f18 [1, 1, 1, 0, 0, 1, 1, 1]) (by kernel_rfl) ?_
    refine gi_pln (id := 6) (ops := RA Tryd.f18 [1, 1, 1, 0, 0, 1, 1, 0]) [0, 1, 2, 3, 4, 5, 6, 7, 8, 9] (by kernel_rfl) (by kernel_rfl) (by kernel_rfl) ?_
    refine plain_batch (rest := [8, 9]) [⟨0, [], none⟩, ⟨1, [], none⟩, ⟨2, [], none⟩, ⟨3, [Value.slice p1 L.length cap2], none⟩, ⟨4, [], none⟩, ⟨5, [], none⟩, ⟨6, [], none⟩, ⟨7, [], some (Value.int IntKind.i64 (((L.length : Nat) : Int) + ((((prs l).1).length : Nat) : Int)))⟩] (l' := ([(27, Value.int IntKind.i64 (((L.length : Nat) : Int) + ((((prs l).1).length : Nat) : Int))), (26, Value.int IntKind.i64 (((((prs l).1).length : Nat) : Int))), (25, Value.slice p14 ((((prs l).1).length)) cap15), (24, Value.int IntKind.i64 (((L.length : Nat) : Int))), (23, Value.slice p1 L.length cap2), (22, Value.pointer (some ⟨b, 1, none⟩)), (21, Value.pointer (some ⟨b, 0, none⟩)), (20, Value.pointer (some ⟨b, 0, none⟩)), (0, Value.pointer (some ⟨b, 0, none⟩)), (1, Value.string (St l)), (4, Value.int IntKind.i64 0), (5, Value.slice p14 ((((prs l).1).length)) cap15), (6, Value.int IntKind.i64 ((prs l).2)), (9, Value.bool false), (15, Value.bool false)] : Fr) ++ lr25) (pts' := [(3, ⟨b, 1, none⟩, Value.slice p1 L.length cap2)]) (eqs := [(Value.int IntKind.i64 (IntKind.wrap IntKind.i64 ((((L.length : Nat) : Int)) + (((((prs l).1).length : Nat) : Int)))), Value.int IntKind.i64 (((L.length : Nat) : Int) + ((((prs l).1).length : Nat) : Int)))]) (by kernel_rfl) ⟨(ov_i64 (by omega) (by omega) (by omega)), trivial⟩ (AllC_cons (sat_cell h19 2 rfl rfl) (AllC_nil _)) ?_
    by_cases c26 : ((L.length : Nat) : Int) + ((((prs l).1).length : Nat) : Int) > 2000
    ·
      refine plain_batch (rest := []) [⟨8, [], some (Value.bool true)⟩, ⟨9, [], none⟩] (l' := ([(19, Value.bool true), (28, Value.bool true), (27, Value.int IntKind.i64 (((L.length : Nat) : Int) + ((((prs l).1).length : Nat) : Int))), (26, Value.int IntKind.i64 (((((prs l).1).length : Nat) : Int))), (25, Value.slice p14 ((((prs l).1).length)) cap15), (24, Value.int IntKind.i64 (((L.length : Nat) : Int))), (23, Value.slice p1 L.length cap2), (22, Value.pointer (some ⟨b, 1, none⟩)), (21, Value.pointer (some ⟨b, 0, none⟩)), (20, Value.pointer (some ⟨b, 0, none⟩)), (0, Value.pointer (some ⟨b, 0, none⟩)), (1, Value.string (St l)), (4, Value.int IntKind.i64 0), (5, Value.slice p14 ((((prs l).1).length)) cap15), (6, Value.int IntKind.i64 ((prs l).2)), (9, Value.bool false), (15, Value.bool false)] : Fr) ++ lr25) (pts' := []) (eqs := [(Value.bool (decide (((L.length : Nat) : Int) + ((((prs l).1).length : Nat) : Int) > 2000)), Value.bool true)]) (by kernel_rfl) ⟨(ov_t (by omega)), trivial⟩ (AllC_nil _) ?_
      refine PO.mk ?_
      change WP _ _ (CA Tryd.f18 [1, 1, 1, 0, 0, 1, 1, 1]) _ _ _
      refine fk_cut ([(0, Value.pointer (some ⟨b, 0, none⟩)), (1, Value.string (St l)), (4, Value.int IntKind.i64 0), (5, Value.slice p14 ((((prs l).1).length)) cap15), (6, Value.int IntKind.i64 ((prs l).2)), (9, Value.bool false), (15, Value.bool false), (19, Value.bool true)] : Fr) (by kernel_rfl) (fun a => WP _ _ _ _ a _) (fun lr27 => ?_)
      refine gi_cnd (x := (Operand.tmp 19)) (s := CA Tryd.f18 [1, 1, 1, 0, 0, 1, 1, 1, 0]) (t := CA Tryd.f18 [1, 1, 1, 0, 0, 1, 1, 1, 1]) true (by kernel_rfl) (by kernel_rfl) ?_
      change WP _ _ (CA Tryd.f18 [1, 1, 1, 0, 0, 1, 1, 1, 0]) _ _ _
      refine gi_seq (x := CA Tryd.f18 [1, 1, 1, 0, 0, 1, 1, 1, 0, 0]) (y := CA Tryd.f18 [1, 1, 1, 0, 0, 1, 1, 1, 0, 1]) (by kernel_rfl) ?_
      refine gi_pln (id := 7) (ops := RA Tryd.f18 [1, 1, 1, 0, 0, 1, 1, 1, 0, 0]) [0] (by kernel_rfl) (by kernel_rfl) (by kernel_rfl) ?_
      refine plain_batch (rest := []) [⟨0, [], none⟩] (l' := ([(4, Value.int IntKind.i64 11), (0, Value.pointer (some ⟨b, 0, none⟩)), (1, Value.string (St l)), (4, Value.int IntKind.i64 0), (5, Value.slice p14 ((((prs l).1).length)) cap15), (6, Value.int IntKind.i64 ((prs l).2)), (9, Value.bool false), (15, Value.bool false), (19, Value.bool true)] : Fr) ++ lr27) (pts' := []) (eqs := []) (by kernel_rfl) trivial (AllC_nil _) ?_
      refine PO.mk ?_
      change WP _ _ (CA Tryd.f18 [1, 1, 1, 0, 0, 1, 1, 1, 0, 1]) _ _ _
      refine fk_cut ([(0, Value.pointer (some ⟨b, 0, none⟩)), (1, Value.string (St l)), (4, Value.int IntKind.i64 11), (5, Value.slice p14 ((((prs l).1).length)) cap15), (6, Value.int IntKind.i64 ((prs l).2)), (9, Value.bool false), (15, Value.bool false), (19, Value.bool true)] : Fr) (by kernel_rfl) (fun a => WP _ _ _ _ a _) (fun lr28 => ?_)
      refine gi_rt (by kernel_rfl) ?_
      repeat (first | simp only [Exit.inBlock] | simp only [Exit.then])
      have h29 : sat g w17 [Cl b [Value.bool true, Value.slice p1 L.length cap2] 52, Vw 3 1 p1 L.length cap2 (fl eI L), Sl 3 1 p14 ((((prs l).1).length)) cap15 (fl eI ((prs l).1)), Old wo, R] := sat_sel [2, 3, 0, 1, 4] rfl h19
      have h30 : sat g w17 [Sr 52 b L, Sl 3 1 p14 ((((prs l).1).length)) cap15 (fl eI ((prs l).1)), Old wo, R] := sr_close (p := p1) (c := cap2) (by omega) h29
      have h31 : sat g w17 [Sr 52 b L, Old wo, Sl 3 1 p14 ((((prs l).1).length)) cap15 (fl eI ((prs l).1)), R] := sat_sel [0, 2, 1, 3] rfl h30
      have h32 : sat g w17 [Sr 52 b L, Old wo, R] := sat_sel [0, 1, 3] rfl h31
      refine hi_out [] (Value.int IntKind.i64 11) [] (by kernel_rfl) (by intro q hq; cases hq) ?_
      exact ⟨Value.int IntKind.i64 11, [Sr 52 b L, Old wo], rfl, ⟨by rw [(add_many (by omega) (by omega)).1], by rw [(add_many (by omega) (by omega)).2]⟩, h32⟩
    ·
      refine plain_batch (rest := []) [⟨8, [], some (Value.bool false)⟩, ⟨9, [], none⟩] (l' := ([(19, Value.bool false), (28, Value.bool false), (27, Value.int IntKind.i64 (((L.length : Nat) : Int) + ((((prs l).1).length : Nat) : Int))), (26, Value.int IntKind.i64 (((((prs l).1).length : Nat) : Int))), (25, Value.slice p14 ((((prs l).1).length)) cap15), (24, Value.int IntKind.i64 (((L.length : Nat) : Int))), (23, Value.slice p1 L.length cap2), (22, Value.pointer (some ⟨b, 1, none⟩)), (21, Value.pointer (some ⟨b, 0, none⟩)), (20, Value.pointer (some ⟨b, 0, none⟩)), (0, Value.pointer (some ⟨b, 0, none⟩)), (1, Value.string (St l)), (4, Value.int IntKind.i64 0), (5, Value.slice p14 ((((prs l).1).length)) cap15), (6, Value.int IntKind.i64 ((prs l).2)), (9, Value.bool false), (15, Value.bool false)] : Fr) ++ lr25) (pts' := []) (eqs := [(Value.bool (decide (((L.length : Nat) : Int) + ((((prs l).1).length : Nat) : Int) > 2000)), Value.bool false)]) (by kernel_rfl) ⟨(ov_f (by omega)), trivial⟩ (AllC_nil _) ?_
      refine PO.mk ?_
      change WP _ _ (CA Tryd.f18 [1, 1, 1, 0, 0, 1, 1, 1]) _ _ _
      refine fk_cut ([(0, Value.pointer (some ⟨b, 0, none⟩)), (1, Value.string (St l)), (4, Value.int IntKind.i64 0), (5, Value.slice p14 ((((prs l).1).length)) cap15), (6, Value.int IntKind.i64 ((prs l).2)), (9, Value.bool false), (15, Value.bool false), (19, Value.bool false)] : Fr) (by kernel_rfl) (fun a => WP _ _ _ _ a _) (fun lr33 => ?_)
      refine gi_cnd (x := (Operand.tmp 19)) (s := CA Tryd.f18 [1, 1, 1, 0, 0, 1, 1, 1, 0]) (t := CA Tryd.f18 [1, 1, 1, 0, 0, 1, 1, 1, 1]) false (by kernel_rfl) (by kernel_rfl) ?_
      change WP _ _ (CA Tryd.f18 [1, 1, 1, 0, 0, 1, 1, 1, 1]) _ _ _
      refine gi_skp (by kernel_rfl) ?_
      change WP _ _ (CA Tryd.f18 [1, 1, 1, 1]) _ _ _
      refine gi_seq (x := CA Tryd.f18 [1, 1, 1, 1, 0]) (y := CA Tryd.f18 [1, 1, 1, 1, 1]) (by kernel_rfl) ?_
      refine gi_pln (id := 8) (ops := RA Tryd.f18 [1, 1, 1, 1, 0]) [0, 1, 2, 3, 4, 5, 6, 7, 8, 9, 10] (by kernel_rfl) (by kernel_rfl) (by kernel_rfl) ?_
      refine plain_batch (rest := [6, 7, 8, 9, 10]) [⟨0, [], none⟩, ⟨1, [], none⟩, ⟨2, [], none⟩, ⟨3, [], none⟩, ⟨4, [Value.slice p1 L.length cap2], none⟩, ⟨5, [], none⟩] (l' := ([(34, Value.slice p14 ((((prs l).1).length)) cap15), (33, Value.slice p1 L.length cap2), (32, Value.pointer (some ⟨b, 1, none⟩)), (31, Value.pointer (some ⟨b, 0, none⟩)), (30, Value.pointer (some ⟨b, 0, none⟩)), (29, Value.pointer (some ⟨b, 0, none⟩)), (0, Value.pointer (some ⟨b, 0, none⟩)), (1, Value.string (St l)), (4, Value.int IntKind.i64 0), (5, Value.slice p14 ((((prs l).1).length)) cap15), (6, Value.int IntKind.i64 ((prs l).2)), (9, Value.bool false), (15, Value.bool false), (19, Value.bool false)] : Fr) ++ lr33) (pts' := [(4, ⟨b, 1, none⟩, Value.slice p1 L.length cap2)]) (eqs := []) (by kernel_rfl) trivial (AllC_cons (sat_cell h19 2 rfl rfl) (AllC_nil _)) ?_
      refine plain_act (i := 6) (by kernel_rfl) ?_
      refine an_new (d := 35) (fun xb_ => Value.slice (some ⟨xb_, 0, none⟩) 2 2) (fun xb_ => Obj.cells [Value.slice p1 L.length cap2, Value.slice p14 ((((prs l).1).length)) cap15].toArray 22 (0, 0)) (fun xb_ => by kernel_rfl) (by kernel_rfl) rfl h19 ?_
      intro r34 w35 (h36 : sat g w35 [Cl r34 [Value.slice p1 L.length cap2, Value.slice p14 ((((prs l).1).length)) cap15] 22, Sl 3 1 p14 ((((prs l).1).length)) cap15 (fl eI ((prs l).1)), Old wo, Cl b [Value.bool true, Value.slice p1 L.length cap2] 52, Vw 3 1 p1 L.length cap2 (fl eI L), R])
      have h39 : sat g w35 [Cl r34 [Value.slice p1 L.length cap2, Value.slice p14 ((((prs l).1).length)) cap15] 22, Vw 3 1 p1 L.length cap2 (fl eI L), Sl 3 1 p14 ((((prs l).1).length)) cap15 (fl eI ((prs l).1)), Old wo, Cl b [Value.bool true, Value.slice p1 L.length cap2] 52, R] := sat_sel [0, 4, 1, 2, 3, 5] rfl h36
      refine plain_act (i := 7) (by kernel_rfl) ?_
      refine an_call (d := some 36) (f := 35) (args := [Value.slice (some ⟨r34, 0, none⟩) 2 2]) (by kernel_rfl) Tryd.call35 (concat_ht r34 p1 p14 L.length ((((prs l).1).length)) cap2 cap15 L ((prs l).1) (Vw 3 1 p1 L.length cap2 (fl eI L)) (Sl 3 1 p14 ((((prs l).1).length)) cap15 (fl eI ((prs l).1))) (gv_vw _ _ _) (gv_sl _ _ _) rfl rfl (by omega)) (F := [Old wo, Cl b [Value.bool true, Value.slice p1 L.length cap2] 52, R]) h39 ?_
      rintro v K w40 (⟨p37, cap38, rfl, rfl⟩) h41
      refine ⟨_, rfl, ?_⟩
      have h42 : sat g w40 [Sl 3 1 p37 (L.length + (((prs l).1).length)) cap38 (fl eI (L ++ ((prs l).1))), Cl r34 [Value.slice p1 L.length cap2, Value.slice p14 ((((prs l).1).length)) cap15] 22, Vw 3 1 p1 L.length cap2 (fl eI L), Sl 3 1 p14 ((((prs l).1).length)) cap15 (fl eI ((prs l).1)), Old wo, Cl b [Value.bool true, Value.slice p1 L.length cap2] 52, R] := h41
      obtain ⟨hn43, hn44⟩ := sl_le h42
      refine plain_batch (rest := [10]) [⟨8, [], none⟩, ⟨9, [], none⟩] (l' := ([(38, Value.pointer (some ⟨b, 1, none⟩)), (37, Value.pointer (some ⟨b, 0, none⟩)), (36, Value.slice p37 (L.length + (((prs l).1).length)) cap38), (35, Value.slice (some ⟨r34, 0, none⟩) 2 2), (34, Value.slice p14 ((((prs l).1).length)) cap15), (33, Value.slice p1 L.length cap2), (32, Value.pointer (some ⟨b, 1, none⟩)), (31, Value.pointer (some ⟨b, 0, none⟩)), (30, Value.pointer (some ⟨b, 0, none⟩)), (29, Value.pointer (some ⟨b, 0, none⟩)), (0, Value.pointer (some ⟨b, 0, none⟩)), (1, Value.string (St l)), (4, Value.int IntKind.i64 0), (5, Value.slice p14 ((((prs l).1).length)) cap15), (6, Value.int IntKind.i64 ((prs l).2)), (9, Value.bool false), (15, Value.bool false), (19, Value.bool false)] : Fr) ++ lr33) (pts' := []) (eqs := []) (by kernel_rfl) trivial (AllC_nil _) ?_
      have h45 : sat g w40 [Cl b [Value.bool true, Value.slice p1 L.length cap2] 52, Sl 3 1 p37 (L.length + (((prs l).1).length)) cap38 (fl eI (L ++ ((prs l).1))), Cl r34 [Value.slice p1 L.length cap2, Value.slice p14 ((((prs l).1).length)) cap15] 22, Vw 3 1 p1 L.length cap2 (fl eI L), Sl 3 1 p14 ((((prs l).1).length)) cap15 (fl eI ((prs l).1)), Old wo, R] := sat_sel [5, 0, 1, 2, 3, 4, 6] rfl h42
      refine plain_act (i := 10) (by kernel_rfl) ?_
      refine an_store [(1, Value.slice p37 (L.length + (((prs l).1).length)) cap38)] (cs' := [Value.bool true, Value.slice p37 (L.length + (((prs l).1).length)) cap38]) (by kernel_rfl) (by kernel_rfl) (allq ⟨⟨by simp, rfl⟩, trivial⟩) rfl h45 ?_
      intro w46 (h47 : sat g w46 [Cl b [Value.bool true, Value.slice p37 (L.length + (((prs l).1).length)) cap38] 52, Sl 3 1 p37 (L.length + (((prs l).1).length)) cap38 (fl eI (L ++ ((prs l).1))), Cl r34 [Value.slice p1 L.length cap2, Value.slice p14 ((((prs l).1).length)) cap15] 22, Vw 3 1 p1 L.length cap2 (fl eI L), Sl 3 1 p14 ((((prs l).1).length)) cap15 (fl eI ((prs l).1)), Old wo, R])
      refine PO.mk ?_
      change WP _ _ (CA Tryd.f18 [1, 1, 1, 1, 1]) _ _ _
      refine fk_cut ([(0, Value.pointer (some ⟨b, 0, none⟩)), (1, Value.string (St l)), (4, Value.int IntKind.i64 0), (5, Value.slice p14 ((((prs l).1).length)) cap15), (6, Value.int IntKind.i64 ((prs l).2)), (9, Value.bool false), (15, Value.bool false), (19, Value.bool false)] : Fr) (by kernel_rfl) (fun a => WP _ _ _ _ a _) (fun lr48 => ?_)
      refine gi_seq (x := CA Tryd.f18 [1, 1, 1, 1, 1, 0]) (y := CA Tryd.f18 [1, 1, 1, 1, 1, 1]) (by kernel_rfl) ?_
      refine gi_pln (id := 9) (ops := RA Tryd.f18 [1, 1, 1, 1, 1, 0]) [0] (by kernel_rfl) (by kernel_rfl) (by kernel_rfl) ?_
      refine plain_batch (rest := []) [⟨0, [], none⟩] (l' := ([(4, Value.int IntKind.i64 0), (0, Value.pointer (some ⟨b, 0, none⟩)), (1, Value.string (St l)), (4, Value.int IntKind.i64 0), (5, Value.slice p14 ((((prs l).1).length)) cap15), (6, Value.int IntKind.i64 ((prs l).2)), (9, Value.bool false), (15, Value.bool false), (19, Value.bool false)] : Fr) ++ lr48) (pts' := []) (eqs := []) (by kernel_rfl) trivial (AllC_nil _) ?_
      refine PO.mk ?_
      change WP _ _ (CA Tryd.f18 [1, 1, 1, 1, 1, 1]) _ _ _
      refine fk_cut ([(0, Value.pointer (some ⟨b, 0, none⟩)), (1, Value.string (St l)), (4, Value.int IntKind.i64 0), (5, Value.slice p14 ((((prs l).1).length)) cap15), (6, Value.int IntKind.i64 ((prs l).2)), (9, Value.bool false), (15, Value.bool false), (19, Value.bool false)] : Fr) (by kernel_rfl) (fun a => WP _ _ _ _ a _) (fun lr49 => ?_)
      refine gi_rt (by kernel_rfl) ?_
      repeat (first | simp only [Exit.inBlock] | simp only [Exit.then])
      have h50 : sat g w46 [Cl b [Value.bool true, Value.slice p37 (((L ++ (prs l).1).length)) cap38] 52, Sl 3 1 p37 (((L ++ (prs l).1).length)) cap38 (fl eI (L ++ ((prs l).1))), Cl r34 [Value.slice p1 L.length cap2, Value.slice p14 ((((prs l).1).length)) cap15] 22, Vw 3 1 p1 L.length cap2 (fl eI L), Sl 3 1 p14 ((((prs l).1).length)) cap15 (fl eI ((prs l).1)), Old wo, R] := (show L.length + (((prs l).1).length) = ((L ++ (prs l).1).length) from by rw [List.length_append]) ▸ h47
      have h51 : sat g w46 [Sl 3 1 p37 (((L ++ (prs l).1).length)) cap38 (fl eI (L ++ ((prs l).1))), Cl b [Value.bool true, Value.slice p37 (((L ++ (prs l).1).length)) cap38] 52, Cl r34 [Value.slice p1 L.length cap2, Value.slice p14 ((((prs l).1).length)) cap15] 22, Vw 3 1 p1 L.length cap2 (fl eI L), Sl 3 1 p14 ((((prs l).1).length)) cap15 (fl eI ((prs l).1)), Old wo, R] := sat_sel [1, 0, 2, 3, 4, 5, 6] rfl h50
      have h52 : sat g w46 [Vw 3 1 p37 (((L ++ (prs l).1).length)) cap38 (fl eI (L ++ ((prs l).1))), Cl b [Value.bool true, Value.slice p37 (((L ++ (prs l).1).length)) cap38] 52, Cl r34 [Value.slice p1 L.length cap2, Value.slice p14 ((((prs l).1).length)) cap15] 22, Vw 3 1 p1 L.length cap2 (fl eI L), Sl 3 1 p14 ((((prs l).1).length)) cap15 (fl eI ((prs l).1)), Old wo, R] := vw_sl h51
      have h53 : sat g w46 [Cl b [Value.bool true, Value.slice p37 (((L ++ (prs l).1).length)) cap38] 52, Vw 3 1 p37 (((L ++ (prs l).1).length)) cap38 (fl eI (L ++ ((prs l).1))), Cl r34 [Value.slice p1 L.length cap2, Value.slice p14 ((((prs l).1).length)) cap15] 22, Vw 3 1 p1 L.length cap2 (fl eI L), Sl 3 1 p14 ((((prs l).1).length)) cap15 (fl eI ((prs l).1)), Old wo, R] := sat_sel [1, 0, 2, 3, 4, 5, 6] rfl h52
      have h54 : sat g w46 [Sr 52 b (L ++ ((prs l).1)), Cl r34 [Value.slice p1 L.length cap2, Value.slice p14 ((((prs l).1).length)) cap15] 22, Vw 3 1 p1 L.length cap2 (fl eI L), Sl 3 1 p14 ((((prs l).1).length)) cap15 (fl eI ((prs l).1)), Old wo, R] := sr_close (p := p37) (c := cap38) (by rw [List.length_append]; omega) h53
      have h55 : sat g w46 [Sr 52 b (L ++ ((prs l).1)), Old wo, Cl r34 [Value.slice p1 L.length cap2, Value.slice p14 ((((prs l).1).length)) cap15] 22, Vw 3 1 p1 L.length cap2 (fl eI L), Sl 3 1 p14 ((((prs l).1).length)) cap15 (fl eI ((prs l).1)), R] := sat_sel [0, 4, 1, 2, 3, 5] rfl h54
      have h56 : sat g w46 [Sr 52 b (L ++ ((prs l).1)), Old wo, R] := sat_sel [0, 1, 5] rfl h55
      refine hi_out [] (Value.int IntKind.i64 0) [] (by kernel_rfl) (by intro q hq; cases hq) ?_
      exact ⟨Value.int IntKind.i64 0, [Sr 52 b (L ++ ((prs l).1)), Old wo], rfl, ⟨by rw [(add_ok (by omega) (by omega)).1], by rw [(add_ok (by omega) (by omega)).2]⟩, h56⟩
  ·
    refine plain_batch (rest := []) [⟨1, [], some (Value.bool true)⟩, ⟨2, [], none⟩] (l' := ([(15, Value.bool true), (17, Value.bool true), (16, Value.int IntKind.i64 ((prs l).2)), (0, Value.pointer (some ⟨b, 0, none⟩)), (1, Value.string (St l)), (4, Value.int IntKind.i64 0), (5, Value.slice p14 ((((prs l).1).length)) cap15), (6, Value.int IntKind.i64 ((prs l).2)), (9, Value.bool false)] : Fr) ++ lr23) (pts' := []) (eqs := [(Value.bool (((prs l).2) != 0), Value.bool true)]) (by kernel_rfl) ⟨(ov_nt (by omega)), trivial⟩ (AllC_nil _) ?_
    refine PO.mk ?_
    change WP _ _ (CA Tryd.f18 [1, 1, 1, 0, 0, 1]) _ _ _
    refine fk_cut ([(0, Value.pointer (some ⟨b, 0, none⟩)), (1, Value.string (St l)), (4, Value.int IntKind.i64 0), (5, Value.slice p14 ((((prs l).1).length)) cap15), (6, Value.int IntKind.i64 ((prs l).2)), (9, Value.bool false), (15, Value.bool true)] : Fr) (by kernel_rfl) (fun a => WP _ _ _ _ a _) (fun lr57 => ?_)
    refine gi_cnd (x := (Operand.tmp 15)) (s := CA Tryd.f18 [1, 1, 1, 0, 0, 1, 0]) (t := CA Tryd.f18 [1, 1, 1, 0, 0, 1, 1]) true (by kernel_rfl) (by kernel_rfl) ?_
    change WP _ _ (CA Tryd.f18 [1, 1, 1, 0, 0, 1, 0]) _ _ _
    refine gi_seq (x := CA Tryd.f18 [1, 1, 1, 0, 0, 1, 0, 0]) (y := CA Tryd.f18 [1, 1, 1, 0, 0, 1, 0, 1]) (by kernel_rfl) ?_
    refine gi_pln (id := 5) (ops := RA Tryd.f18 [1, 1, 1, 0, 0, 1, 0, 0]) [0, 1] (by kernel_rfl) (by kernel_rfl) (by kernel_rfl) ?_
    refine plain_batch (rest := []) [⟨0, [], none⟩, ⟨1, [], none⟩] (l' := ([(4, Value.int IntKind.i64 ((prs l).2)), (18, Value.int IntKind.i64 ((prs l).2)), (0, Value.pointer (some ⟨b, 0, none⟩)), (1, Value.string (St l)), (4, Value.int IntKind.i64 0), (5, Value.slice p14 ((((prs l).1).length)) cap15), (6, Value.int IntKind.i64 ((prs l).2)), (9, Value.bool false), (15, Value.bool true)] : Fr) ++ lr57) (pts' := []) (eqs := []) (by kernel_rfl) trivial (AllC_nil _) ?_
    refine PO.mk ?_
    change WP _ _ (CA Tryd.f18 [1, 1, 1, 0, 0, 1, 0, 1]) _ _ _
    refine fk_cut ([(0, Value.pointer (some ⟨b, 0, none⟩)), (1, Value.string (St l)), (4, Value.int IntKind.i64 ((prs l).2)), (5, Value.slice p14 ((((prs l).1).length)) cap15), (6, Value.int IntKind.i64 ((prs l).2)), (9, Value.bool false), (15, Value.bool true)] : Fr) (by kernel_rfl) (fun a => WP _ _ _ _ a _) (fun lr58 => ?_)
    refine gi_rt (by kernel_rfl) ?_
    repeat (first | simp only [Exit.inBlock] | simp only [Exit.then])
    have h59 : sat g w17 [Cl b [Value.bool true, Value.slice p1 L.length cap2] 52, Vw 3 1 p1 L.length cap2 (fl eI L), Sl 3 1 p14 ((((prs l).1).length)) cap15 (fl eI ((prs l).1)), Old wo, R] := sat_sel [2, 3, 0, 1, 4] rfl h19
    have h60 : sat g w17 [Sr 52 b L, Sl 3 1 p14 ((((prs l).1).length)) cap15 (fl eI ((prs l).1)), Old wo, R] := sr_close (p := p1) (c := cap2) (by omega) h59
    have h61 : sat g w17 [Sr 52 b L, Old wo, Sl 3 1 p14 ((((prs l).1).length)) cap15 (fl eI ((prs l).1)), R] := sat_sel [0, 2, 1, 3] rfl h60
    have h62 : sat g w17 [Sr 52 b L, Old wo, R] := sat_sel [0, 1, 3] rfl h61
    refine hi_out [] (Value.int IntKind.i64 ((prs l).2)) [] (by kernel_rfl) (by intro q hq; cases hq) ?_
    exact ⟨Value.int IntKind.i64 ((prs l).2), [Sr 52 b L, Old wo], rfl, ⟨by rw [(add_err (by omega)).1], by rw [(add_err (by omega)).2]⟩, h62⟩

set_option maxHeartbeats 4000000 in
theorem next_ht (b : Nat) (L : List Int) : HT Tryd.prog 22 [Value.pointer (some ⟨b, 0, none⟩)] [Sr 52 b L] (fun v K => v = Value.int .i64 (L.headD 1) ∧ K = [Sr 52 b L.tail]) := by
  refine hi_in 30 ([(0, Value.pointer (some ⟨b, 0, none⟩))] : Fr) Tryd.func22 (by kernel_rfl) Tryd.ntmps22 rfl rfl ?_
  intro g w0 R h0
  obtain ⟨hl4, p1, cap2, h3⟩ := sr_open h0
  have h5 : sat g w0 [Vw 3 1 p1 L.length cap2 (fl eI L), Cl b [Value.bool true, Value.slice p1 L.length cap2] 52, R] := sat_sel [1, 0, 2] rfl h3
  obtain ⟨hn6, hn7⟩ := vw_le h5
  refine gi_seq (x := CA Tryd.f22 [0]) (y := CA Tryd.f22 [1]) (by kernel_rfl) ?_
  refine gi_pln (id := 0) (ops := RA Tryd.f22 [0]) [0] (by kernel_rfl) (by kernel_rfl) (by kernel_rfl) ?_
  refine plain_batch (rest := []) [⟨0, [], none⟩] (l' := ([(2, Value.int IntKind.i64 0), (0, Value.pointer (some ⟨b, 0, none⟩))] : Fr)) (pts' := []) (eqs := []) (by kernel_rfl) trivial (AllC_nil _) ?_
  refine PO.mk ?_
  change WP _ _ (CA Tryd.f22 [1]) _ _ _
  refine fk_cut ([(0, Value.pointer (some ⟨b, 0, none⟩)), (2, Value.int IntKind.i64 0)] : Fr) (by kernel_rfl) (fun a => WP _ _ _ _ a _) (fun lr8 => ?_)
  refine gi_seq (x := CA Tryd.f22 [1, 0]) (y := CA Tryd.f22 [1, 1]) (by kernel_rfl) ?_
  refine gi_blk (id := 0) (x := CA Tryd.f22 [1, 0, 0]) (by kernel_rfl) ?_
  refine gi_seq (x := CA Tryd.f22 [1, 0, 0, 0]) (y := CA Tryd.f22 [1, 0, 0, 1]) (by kernel_rfl) ?_
  refine gi_pln (id := 1) (ops := RA Tryd.f22 [1, 0, 0, 0]) [0, 1, 2, 3] (by kernel_rfl) (by kernel_rfl) (by kernel_rfl) ?_
  refine plain_batch (rest := [1, 2, 3]) [⟨0, [], none⟩] (l' := ([(5, Value.pointer (some ⟨b, 0, none⟩)), (0, Value.pointer (some ⟨b, 0, none⟩)), (2, Value.int IntKind.i64 0)] : Fr) ++ lr8) (pts' := []) (eqs := []) (by kernel_rfl) trivial (AllC_nil _) ?_
  have h9 : sat g w0 [Cl b [Value.bool true, Value.slice p1 L.length cap2] 52, Vw 3 1 p1 L.length cap2 (fl eI L), R] := sat_sel [1, 0, 2] rfl h5
  refine plain_act (i := 1) (by kernel_rfl) ?_
  refine an_call (d := some 6) (f := 34) (args := [Value.pointer (some ⟨b, 0, none⟩)]) (by kernel_rfl) Tryd.call34 (valid_ht b _) (F := [Vw 3 1 p1 L.length cap2 (fl eI L), R]) h9 ?_
  rintro v K w10 (⟨rfl, rfl⟩) h11
  refine ⟨_, rfl, ?_⟩
  have h12 : sat g w10 [Cl b [Value.bool true, Value.slice p1 L.length cap2] 52, Vw 3 1 p1 L.length cap2 (fl eI L), R] := h11
  refine plain_batch (rest := []) [⟨2, [], none⟩, ⟨3, [], none⟩] (l' := ([(4, Value.bool false), (7, Value.bool false), (6, Value.bool true), (5, Value.pointer (some ⟨b, 0, none⟩)), (0, Value.pointer (some ⟨b, 0, none⟩)), (2, Value.int IntKind.i64 0)] : Fr) ++ lr8) (pts' := []) (eqs := []) (by kernel_rfl) trivial (AllC_nil _) ?_
  refine PO.mk ?_
  change WP _ _ (CA Tryd.f22 [1, 0, 0, 1]) _ _ _
  refine fk_cut ([(0, Value.pointer (some ⟨b, 0, none⟩)), (2, Value.int IntKind.i64 0), (4, Value.bool false)] : Fr) (by kernel_rfl) (fun a => WP _ _ _ _ a _) (fun lr13 => ?_)
  refine gi_cnd (x := (Operand.tmp 4)) (s := CA Tryd.f22 [1, 0, 0, 1, 0]) (t := CA Tryd.f22 [1, 0, 0, 1, 1]) false (by kernel_rfl) (by kernel_rfl) ?_
  change WP _ _ (CA Tryd.f22 [1, 0, 0, 1, 1]) _ _ _
  refine gi_seq (x := CA Tryd.f22 [1, 0, 0, 1, 1, 0]) (y := CA Tryd.f22 [1, 0, 0, 1, 1, 1]) (by kernel_rfl) ?_
  refine gi_pln (id := 3) (ops := RA Tryd.f22 [1, 0, 0, 1, 1, 0]) [0, 1, 2, 3, 4, 5, 6] (by kernel_rfl) (by kernel_rfl) (by kernel_rfl) ?_
  refine plain_batch (rest := [5, 6]) [⟨0, [], none⟩, ⟨1, [], none⟩, ⟨2, [], none⟩, ⟨3, [Value.slice p1 L.length cap2], none⟩, ⟨4, [], none⟩] (l' := ([(13, Value.int IntKind.i64 (((L.length : Nat) : Int))), (12, Value.slice p1 L.length cap2), (11, Value.pointer (some ⟨b, 1, none⟩)), (10, Value.pointer (some ⟨b, 0, none⟩)), (9, Value.pointer (some ⟨b, 0, none⟩)), (0, Value.pointer (some ⟨b, 0, none⟩)), (2, Value.int IntKind.i64 0), (4, Value.bool false)] : Fr) ++ lr13) (pts' := [(3, ⟨b, 1, none⟩, Value.slice p1 L.length cap2)]) (eqs := []) (by kernel_rfl) trivial (AllC_cons (sat_cell h12 0 rfl rfl) (AllC_nil _)) ?_
  by_cases c14 : ((L.length : Nat) : Int) = 0
  ·
    refine plain_batch (rest := []) [⟨5, [], some (Value.bool true)⟩, ⟨6, [], none⟩] (l' := ([(8, Value.bool true), (14, Value.bool true), (13, Value.int IntKind.i64 (((L.length : Nat) : Int))), (12, Value.slice p1 L.length cap2), (11, Value.pointer (some ⟨b, 1, none⟩)), (10, Value.pointer (some ⟨b, 0, none⟩)), (9, Value.pointer (some ⟨b, 0, none⟩)), (0, Value.pointer (some ⟨b, 0, none⟩)), (2, Value.int IntKind.i64 0), (4, Value.bool false)] : Fr) ++ lr13) (pts' := []) (eqs := [(Value.bool ((((L.length : Nat) : Int)) == 0), Value.bool true)]) (by kernel_rfl) ⟨(ov_et (by omega)), trivial⟩ (AllC_nil _) ?_
    refine PO.mk ?_
    change WP _ _ (CA Tryd.f22 [1, 0, 0, 1, 1, 1]) _ _ _
    refine fk_cut ([(0, Value.pointer (some ⟨b, 0, none⟩)), (2, Value.int IntKind.i64 0), (4, Value.bool false), (8, Value.bool true)] : Fr) (by kernel_rfl) (fun a => WP _ _ _ _ a _) (fun lr15 => ?_)
    refine gi_cnd (x := (Operand.tmp 8)) (s := CA Tryd.f22 [1, 0, 0, 1, 1, 1, 0]) (t := CA Tryd.f22 [1, 0, 0, 1, 1, 1, 1]) true (by kernel_rfl) (by kernel_rfl) ?_
    change WP _ _ (CA Tryd.f22 [1, 0, 0, 1, 1, 1, 0]) _ _ _
    refine gi_seq (x := CA Tryd.f22 [1, 0, 0, 1, 1, 1, 0, 0]) (y := CA Tryd.f22 [1, 0, 0, 1, 1, 1, 0, 1]) (by kernel_rfl) ?_
    refine gi_pln (id := 4) (ops := RA Tryd.f22 [1, 0, 0, 1, 1, 1, 0, 0]) [0] (by kernel_rfl) (by kernel_rfl) (by kernel_rfl) ?_
    refine plain_batch (rest := []) [⟨0, [], none⟩] (l' := ([(2, Value.int IntKind.i64 1), (0, Value.pointer (some ⟨b, 0, none⟩)), (2, Value.int IntKind.i64 0), (4, Value.bool false), (8, Value.bool true)] : Fr) ++ lr15) (pts' := []) (eqs := []) (by kernel_rfl) trivial (AllC_nil _) ?_
    refine PO.mk ?_
    change WP _ _ (CA Tryd.f22 [1, 0, 0, 1, 1, 1, 0, 1]) _ _ _
    refine fk_cut ([(0, Value.pointer (some ⟨b, 0, none⟩)), (2, Value.int IntKind.i64 1), (4, Value.bool false), (8, Value.bool true)] : Fr) (by kernel_rfl) (fun a => WP _ _ _ _ a _) (fun lr16 => ?_)
    refine gi_rt (by kernel_rfl) ?_
    repeat (first | simp only [Exit.inBlock] | simp only [Exit.then])
    have hnil_ : L = [] := List.eq_nil_of_length_eq_zero (by omega)
    have h17 : sat g w10 [Sr 52 b L, R] := sr_close (p := p1) (c := cap2) (by omega) h12
    refine hi_out [] (Value.int IntKind.i64 1) [] (by kernel_rfl) (by intro q hq; cases hq) ?_
    exact ⟨Value.int IntKind.i64 1, [Sr 52 b L], rfl, ⟨by rw [hnil_]; rfl, by rw [hnil_]; rfl⟩, h17⟩
  ·
    refine plain_batch (rest := []) [⟨5, [], some (Value.bool false)⟩, ⟨6, [], none⟩] (l' := ([(8, Value.bool false), (14, Value.bool false), (13, Value.int IntKind.i64 (((L.length : Nat) : Int))), (12, Value.slice p1 L.length cap2), (11, Value.pointer (some ⟨b, 1, none⟩)), (10, Value.pointer (some ⟨b, 0, none⟩)), (9, Value.pointer (some ⟨b, 0, none⟩)), (0, Value.pointer (some ⟨b, 0, none⟩)), (2, Value.int IntKind.i64 0), (4, Value.bool false)] : Fr) ++ lr13) (pts' := []) (eqs := [(Value.bool ((((L.length : Nat) : Int)) == 0), Value.bool false)]) (by kernel_rfl) ⟨(ov_ef (by omega)), trivial⟩ (AllC_nil _) ?_
    refine PO.mk ?_
    change WP _ _ (CA Tryd.f22 [1, 0, 0, 1, 1, 1]) _ _ _
    refine fk_cut ([(0, Value.pointer (some ⟨b, 0, none⟩)), (2, Value.int IntKind.i64 0), (4, Value.bool false), (8, Value.bool false)] : Fr) (by kernel_rfl) (fun a => WP _ _ _ _ a _) (fun lr18 => ?_)
    refine gi_cnd (x := (Operand.tmp 8)) (s := CA Tryd.f22 [1, 0, 0, 1, 1, 1, 0]) (t := CA Tryd.f22 [1, 0, 0, 1, 1, 1, 1]) false (by kernel_rfl) (by kernel_rfl) ?_
    change WP _ _ (CA Tryd.f22 [1, 0, 0, 1, 1, 1, 1]) _ _ _
    refine gi_skp (by kernel_rfl) ?_
    change WP _ _ (CA Tryd.f22 [1, 1]) _ _ _
    refine gi_seq (x := CA Tryd.f22 [1, 1, 0]) (y := CA Tryd.f22 [1, 1, 1]) (by kernel_rfl) ?_
    refine gi_pln (id := 5) (ops := RA Tryd.f22 [1, 1, 0]) [0, 1, 2, 3, 4, 5, 6] (by kernel_rfl) (by kernel_rfl) (by kernel_rfl) ?_
    obtain ⟨b19, off21, hp20⟩ := gv_ptr (j := 1) h12 rfl (gv_vw _ _ _) (by omega)
    refine plain_batch (rest := [4, 5, 6]) [⟨0, [], none⟩, ⟨1, [], none⟩, ⟨2, [], none⟩, ⟨3, [Value.slice p1 L.length cap2], none⟩] (l' := ([(18, Value.slice p1 L.length cap2), (17, Value.pointer (some ⟨b, 1, none⟩)), (16, Value.pointer (some ⟨b, 0, none⟩)), (15, Value.pointer (some ⟨b, 0, none⟩)), (0, Value.pointer (some ⟨b, 0, none⟩)), (2, Value.int IntKind.i64 0), (4, Value.bool false), (8, Value.bool false)] : Fr) ++ lr18) (pts' := [(3, ⟨b, 1, none⟩, Value.slice p1 L.length cap2)]) (eqs := []) (by kernel_rfl) trivial (AllC_cons (sat_cell h12 0 rfl rfl) (AllC_nil _)) ?_
    refine plain_law (i := 4) 19 (Value.pointer (some ⟨b19, off21, none⟩)) (by kernel_rfl) (law_indexSlP (o := opA (RA Tryd.f22 [1, 1, 0]) 4) (x := (Operand.tmp 18)) (i := (Operand.const (Value.int IntKind.i64 0))) (p := p1) (b := b19) (off := off21) (z := 0) (len := L.length) (cap := cap2) (by kernel_rfl) Tryd.underlying22 1 (by kernel_rfl) 0 (by kernel_rfl) hp20 (by kernel_rfl) (by omega) (by omega) off21 (by omega) _) ?_
    obtain ⟨x22, hx23⟩ : ∃ x, L[0]? = some x := ⟨_, List.getElem?_eq_getElem (by omega)⟩
    refine plain_batch (rest := []) [⟨5, [Value.int IntKind.i64 x22], none⟩, ⟨6, [], none⟩] (l' := ([(3, Value.int IntKind.i64 x22), (20, Value.int IntKind.i64 x22), (19, Value.pointer (some ⟨b19, off21, none⟩)), (18, Value.slice p1 L.length cap2), (17, Value.pointer (some ⟨b, 1, none⟩)), (16, Value.pointer (some ⟨b, 0, none⟩)), (15, Value.pointer (some ⟨b, 0, none⟩)), (0, Value.pointer (some ⟨b, 0, none⟩)), (2, Value.int IntKind.i64 0), (4, Value.bool false), (8, Value.bool false)] : Fr) ++ lr18) (pts' := [(5, ⟨b19, off21, none⟩, Value.int IntKind.i64 x22)]) (eqs := []) (by kernel_rfl) trivial (AllC_cons (gv_cell (j := 1) h12 rfl (gv_vw _ _ _) hp20 (fl_get eI_ok (j := 0) (v := Value.int IntKind.i64 x22) hx23 rfl) off21 (by omega)) (AllC_nil _)) ?_
    refine PO.mk ?_
    change WP _ _ (CA Tryd.f22 [1, 1, 1]) _ _ _
    refine fk_cut ([(0, Value.pointer (some ⟨b, 0, none⟩)), (2, Value.int IntKind.i64 0), (3, Value.int IntKind.i64 x22), (4, Value.bool false), (8, Value.bool false)] : Fr) (by kernel_rfl) (fun a => WP _ _ _ _ a _) (fun lr24 => ?_)
    refine gi_seq (x := CA Tryd.f22 [1, 1, 1, 0]) (y := CA Tryd.f22 [1, 1, 1, 1]) (by kernel_rfl) ?_
    refine gi_pln (id := 6) (ops := RA Tryd.f22 [1, 1, 1, 0]) [0, 1, 2, 3, 4, 5, 6, 7, 8] (by kernel_rfl) (by kernel_rfl) (by kernel_rfl) ?_
    refine plain_batch (rest := [5, 6, 7, 8]) [⟨0, [], none⟩, ⟨1, [], none⟩, ⟨2, [], none⟩, ⟨3, [], none⟩, ⟨4, [Value.slice p1 L.length cap2], none⟩] (l' := ([(25, Value.slice p1 L.length cap2), (24, Value.pointer (some ⟨b, 1, none⟩)), (23, Value.pointer (some ⟨b, 0, none⟩)), (22, Value.pointer (some ⟨b, 0, none⟩)), (21, Value.pointer (some ⟨b, 0, none⟩)), (0, Value.pointer (some ⟨b, 0, none⟩)), (2, Value.int IntKind.i64 0), (3, Value.int IntKind.i64 x22), (4, Value.bool false), (8, Value.bool false)] : Fr) ++ lr24) (pts' := [(4, ⟨b, 1, none⟩, Value.slice p1 L.length cap2)]) (eqs := []) (by kernel_rfl) trivial (AllC_cons (sat_cell h12 0 rfl rfl) (AllC_nil _)) ?_
    refine plain_law (i := 5) 26 (Value.slice (some ⟨b19, (if cap2 = 1 then off21 else off21 + 1), none⟩) (L.length - 1) (cap2 - 1)) (by kernel_rfl) (law_sliceSlP (p := p1) (o := opA (RA Tryd.f22 [1, 1, 1, 0]) 5) (x := (Operand.tmp 25)) (lo := (some (Operand.const (Value.int IntKind.i64 1)))) (hi := none) (b := b19) (off := off21) (m := L.length) (c := cap2) (by kernel_rfl) Tryd.underlying22 1 (by kernel_rfl) 1 (((L.length : Nat) : Int)) 1 L.length (by kernel_rfl) hp20 (show fe _ _ (Operand.const (Value.int IntKind.i64 1)) = _ from by kernel_rfl) rfl (by omega) (by omega) (by omega) (by omega) ((if cap2 = 1 then off21 else off21 + 1)) (ite_r (by omega)) (L.length - 1) (cap2 - 1) (by omega) (by omega) _) ?_
    refine plain_batch (rest := [8]) [⟨6, [], none⟩, ⟨7, [], none⟩] (l' := ([(28, Value.pointer (some ⟨b, 1, none⟩)), (27, Value.pointer (some ⟨b, 0, none⟩)), (26, Value.slice (some ⟨b19, (if cap2 = 1 then off21 else off21 + 1), none⟩) (L.length - 1) (cap2 - 1)), (25, Value.slice p1 L.length cap2), (24, Value.pointer (some ⟨b, 1, none⟩)), (23, Value.pointer (some ⟨b, 0, none⟩)), (22, Value.pointer (some ⟨b, 0, none⟩)), (21, Value.pointer (some ⟨b, 0, none⟩)), (0, Value.pointer (some ⟨b, 0, none⟩)), (2, Value.int IntKind.i64 0), (3, Value.int IntKind.i64 x22), (4, Value.bool false), (8, Value.bool false)] : Fr) ++ lr24) (pts' := []) (eqs := []) (by kernel_rfl) trivial (AllC_nil _) ?_
    refine plain_act (i := 8) (by kernel_rfl) ?_
    refine an_store [(1, Value.slice (some ⟨b19, (if cap2 = 1 then off21 else off21 + 1), none⟩) (L.length - 1) (cap2 - 1))] (cs' := [Value.bool true, Value.slice (some ⟨b19, (if cap2 = 1 then off21 else off21 + 1), none⟩) (L.length - 1) (cap2 - 1)]) (by kernel_rfl) (by kernel_rfl) (allq ⟨⟨by simp, rfl⟩, trivial⟩) rfl h12 ?_
    intro w25 (h26 : sat g w25 [Cl b [Value.bool true, Value.slice (some ⟨b19, (if cap2 = 1 then off21 else off21 + 1), none⟩) (L.length - 1) (cap2 - 1)] 52, Vw 3 1 p1 L.length cap2 (fl eI L), R])
    refine PO.mk ?_
    change WP _ _ (CA Tryd.f22 [1, 1, 1, 1]) _ _ _
    refine fk_cut ([(0, Value.pointer (some ⟨b, 0, none⟩)), (2, Value.int IntKind.i64 0), (3, Value.int IntKind.i64 x22), (4, Value.bool false), (8, Value.bool false)] : Fr) (by kernel_rfl) (fun a => WP _ _ _ _ a _) (fun lr27 => ?_)
    refine gi_seq (x := CA Tryd.f22 [1, 1, 1, 1, 0]) (y := CA Tryd.f22 [1, 1, 1, 1, 1]) (by kernel_rfl) ?_
    refine gi_pln (id := 7) (ops := RA Tryd.f22 [1, 1, 1, 1, 0]) [0, 1] (by kernel_rfl) (by kernel_rfl) (by kernel_rfl) ?_
    refine plain_batch (rest := []) [⟨0, [], none⟩, ⟨1, [], none⟩] (l' := ([(2, Value.int IntKind.i64 x22), (29, Value.int IntKind.i64 x22), (0, Value.pointer (some ⟨b, 0, none⟩)), (2, Value.int IntKind.i64 0), (3, Value.int IntKind.i64 x22), (4, Value.bool false), (8, Value.bool false)] : Fr) ++ lr27) (pts' := []) (eqs := []) (by kernel_rfl) trivial (AllC_nil _) ?_
    refine PO.mk ?_
    change WP _ _ (CA Tryd.f22 [1, 1, 1, 1, 1]) _ _ _
    refine fk_cut ([(0, Value.pointer (some ⟨b, 0, none⟩)), (2, Value.int IntKind.i64 x22), (3, Value.int IntKind.i64 x22), (4, Value.bool false), (8, Value.bool false)] : Fr) (by kernel_rfl) (fun a => WP _ _ _ _ a _) (fun lr28 => ?_)
    refine gi_rt (by kernel_rfl) ?_
    repeat (first | simp only [Exit.inBlock] | simp only [Exit.then])
    have h29 : sat g w25 [Vw 3 1 p1 L.length cap2 (fl eI L), Cl b [Value.bool true, Value.slice (some ⟨b19, (if cap2 = 1 then off21 else off21 + 1), none⟩) (L.length - 1) (cap2 - 1)] 52, R] := sat_sel [1, 0, 2] rfl h26
    obtain ⟨q30, hq31⟩ : ∃ q : Option Addr, q = some ⟨b19, (if cap2 = 1 then off21 else off21 + 1), none⟩ := ⟨_, rfl⟩
    have h32 : sat g w25 [Vw 3 1 q30 L.tail.length (cap2 - 1) (fl eI L.tail), Cl b [Value.bool true, Value.slice q30 L.tail.length (cap2 - 1)] 52, R] := by
      have h_ := sr_next hp20 hq31 (by omega) (by first | rfl | (split <;> omega)) h29
      rw [← hq31, ← List.length_tail] at h_
      exact h_
    have h33 : sat g w25 [Cl b [Value.bool true, Value.slice q30 L.tail.length (cap2 - 1)] 52, Vw 3 1 q30 L.tail.length (cap2 - 1) (fl eI L.tail), R] := sat_sel [1, 0, 2] rfl h32
    have h34 : sat g w25 [Sr 52 b L.tail, R] := sr_close (p := q30) (c := (cap2 - 1)) (by rw [List.length_tail]; omega) h33
    refine hi_out [] (Value.int IntKind.i64 x22) [] (by kernel_rfl) (by intro q hq; cases hq) ?_
    exact ⟨Value.int IntKind.i64 x22, [Sr 52 b L.tail], rfl, ⟨congrArg (Value.int .i64) (hd_tl hx23).symm, rfl⟩, h34⟩

set_option maxHeartbeats 4000000 in
theorem left_ht (b : Nat) (L : List Int) : HT Tryd.prog 21 [Value.pointer (some ⟨b, 0, none⟩)] [Sr 52 b L] (fun v K => v = Value.int .i64 (L.length : Int) ∧ K = [Sr 52 b L]) := by
  refine hi_in 11 ([(0, Value.pointer (some ⟨b, 0, none⟩))] : Fr) Tryd.func21 (by kernel_rfl) Tryd.ntmps21 rfl rfl ?_
  intro g w0 R h0
  obtain ⟨hl4, p1, cap2, h3⟩ := sr_open h0
  have h5 : sat g w0 [Vw 3 1 p1 L.length cap2 (fl eI L), Cl b [Value.bool true, Value.slice p1 L.length cap2] 52, R] := sat_sel [1, 0, 2] rfl h3
  obtain ⟨hn6, hn7⟩ := vw_le h5
  refine gi_seq (x := CA Tryd.f21 [0]) (y := CA Tryd.f21 [1]) (by kernel_rfl) ?_
  refine gi_pln (id := 0) (ops := RA Tryd.f21 [0]) [0] (by kernel_rfl) (by kernel_rfl) (by kernel_rfl) ?_
  refine plain_batch (rest := []) [⟨0, [], none⟩] (l' := ([(2, Value.int IntKind.i64 0), (0, Value.pointer (some ⟨b, 0, none⟩))] : Fr)) (pts' := []) (eqs := []) (by kernel_rfl) trivial (AllC_nil _) ?_
  refine PO.mk ?_
  change WP _ _ (CA Tryd.f21 [1]) _ _ _
  refine fk_cut ([(0, Value.pointer (some ⟨b, 0, none⟩)), (2, Value.int IntKind.i64 0)] : Fr) (by kernel_rfl) (fun a => WP _ _ _ _ a _) (fun lr8 => ?_)
  refine gi_seq (x := CA Tryd.f21 [1, 0]) (y := CA Tryd.f21 [1, 1]) (by kernel_rfl) ?_
  refine gi_seq (x := CA Tryd.f21 [1, 0, 0]) (y := CA Tryd.f21 [1, 0, 1]) (by kernel_rfl) ?_
  refine gi_pln (id := 1) (ops := RA Tryd.f21 [1, 0, 0]) [0, 1, 2] (by kernel_rfl) (by kernel_rfl) (by kernel_rfl) ?_
  refine plain_batch (rest := [1, 2]) [⟨0, [], none⟩] (l' := ([(3, Value.pointer (some ⟨b, 0, none⟩)), (0, Value.pointer (some ⟨b, 0, none⟩)), (2, Value.int IntKind.i64 0)] : Fr) ++ lr8) (pts' := []) (eqs := []) (by kernel_rfl) trivial (AllC_nil _) ?_
  have h9 : sat g w0 [Cl b [Value.bool true, Value.slice p1 L.length cap2] 52, Vw 3 1 p1 L.length cap2 (fl eI L), R] := sat_sel [1, 0, 2] rfl h5
  refine plain_act (i := 1) (by kernel_rfl) ?_
  refine an_call (d := some 4) (f := 34) (args := [Value.pointer (some ⟨b, 0, none⟩)]) (by kernel_rfl) Tryd.call34 (valid_ht b _) (F := [Vw 3 1 p1 L.length cap2 (fl eI L), R]) h9 ?_
  rintro v K w10 (⟨rfl, rfl⟩) h11
  refine ⟨_, rfl, ?_⟩
  have h12 : sat g w10 [Cl b [Value.bool true, Value.slice p1 L.length cap2] 52, Vw 3 1 p1 L.length cap2 (fl eI L), R] := h11
  refine plain_batch (rest := []) [⟨2, [], none⟩] (l' := ([(5, Value.bool false), (4, Value.bool true), (3, Value.pointer (some ⟨b, 0, none⟩)), (0, Value.pointer (some ⟨b, 0, none⟩)), (2, Value.int IntKind.i64 0)] : Fr) ++ lr8) (pts' := []) (eqs := []) (by kernel_rfl) trivial (AllC_nil _) ?_
  refine PO.mk ?_
  change WP _ _ (CA Tryd.f21 [1, 0, 1]) _ _ _
  refine fk_cut ([(0, Value.pointer (some ⟨b, 0, none⟩)), (2, Value.int IntKind.i64 0), (5, Value.bool false)] : Fr) (by kernel_rfl) (fun a => WP _ _ _ _ a _) (fun lr13 => ?_)
  refine gi_cnd (x := (Operand.tmp 5)) (s := CA Tryd.f21 [1, 0, 1, 0]) (t := CA Tryd.f21 [1, 0, 1, 1]) false (by kernel_rfl) (by kernel_rfl) ?_
  change WP _ _ (CA Tryd.f21 [1, 0, 1, 1]) _ _ _
  refine gi_skp (by kernel_rfl) ?_
  change WP _ _ (CA Tryd.f21 [1, 1]) _ _ _
  refine gi_seq (x := CA Tryd.f21 [1, 1, 0]) (y := CA Tryd.f21 [1, 1, 1]) (by kernel_rfl) ?_
  refine gi_pln (id := 3) (ops := RA Tryd.f21 [1, 1, 0]) [0, 1, 2, 3, 4, 5] (by kernel_rfl) (by kernel_rfl) (by kernel_rfl) ?_
  refine plain_batch (rest := []) [⟨0, [], none⟩, ⟨1, [], none⟩, ⟨2, [], none⟩, ⟨3, [Value.slice p1 L.length cap2], none⟩, ⟨4, [], none⟩, ⟨5, [], none⟩] (l' := ([(2, Value.int IntKind.i64 (((L.length : Nat) : Int))), (10, Value.int IntKind.i64 (((L.length : Nat) : Int))), (9, Value.slice p1 L.length cap2), (8, Value.pointer (some ⟨b, 1, none⟩)), (7, Value.pointer (some ⟨b, 0, none⟩)), (6, Value.pointer (some ⟨b, 0, none⟩)), (0, Value.pointer (some ⟨b, 0, none⟩)), (2, Value.int IntKind.i64 0), (5, Value.bool false)] : Fr) ++ lr13) (pts' := [(3, ⟨b, 1, none⟩, Value.slice p1 L.length cap2)]) (eqs := []) (by kernel_rfl) trivial (AllC_cons (sat_cell h12 0 rfl rfl) (AllC_nil _)) ?_
  refine PO.mk ?_
  change WP _ _ (CA Tryd.f21 [1, 1, 1]) _ _ _
  refine fk_cut ([(0, Value.pointer (some ⟨b, 0, none⟩)), (2, Value.int IntKind.i64 (((L.length : Nat) : Int))), (5, Value.bool false)] : Fr) (by kernel_rfl) (fun a => WP _ _ _ _ a _) (fun lr14 => ?_)
  refine gi_rt (by kernel_rfl) ?_
  repeat (first | simp only [Exit.inBlock] | simp only [Exit.then])
  have h15 : sat g w10 [Sr 52 b L, R] := sr_close (p := p1) (c := cap2) (by omega) h12
  refine hi_out [] (Value.int IntKind.i64 (((L.length : Nat) : Int))) [] (by kernel_rfl) (by intro q hq; cases hq) ?_
  exact ⟨Value.int IntKind.i64 (((L.length : Nat) : Int)), [Sr 52 b L], rfl, ⟨rfl, rfl⟩, h15⟩

theorem left_n (b : Nat) (L : List Int) (n : Nat) (h : L.length = n) : HT Tryd.prog 21 [Value.pointer (some ⟨b, 0, none⟩)] [Sr 52 b L] (fun v K => v = Value.int .i64 (n : Int) ∧ K = [Sr 52 b L]) := h ▸ left_ht b L

set_option maxHeartbeats 4000000 in
theorem peek_ht (b : Nat) (L : List Int) (z : Int) : HT Tryd.prog 20 [Value.pointer (some ⟨b, 0, none⟩), Value.int IntKind.i64 z] [Sr 52 b L] (fun v K => ∃ p c, v = Value.slice p (pk L z).length c ∧ K = [Sl 3 1 p (pk L z).length c (fl eI (pk L z)), Sr 52 b L]) := by
  refine hi_in 22 ([(0, Value.pointer (some ⟨b, 0, none⟩)), (1, Value.int IntKind.i64 z)] : Fr) Tryd.func20 (by kernel_rfl) Tryd.ntmps20 rfl rfl ?_
  intro g w0 R h0
  obtain ⟨hl4, p1, cap2, h3⟩ := sr_open h0
  have h5 : sat g w0 [Vw 3 1 p1 L.length cap2 (fl eI L), Cl b [Value.bool true, Value.slice p1 L.length cap2] 52, R] := sat_sel [1, 0, 2] rfl h3
  obtain ⟨hn6, hn7⟩ := vw_le h5
  refine gi_seq (x := CA Tryd.f20 [0]) (y := CA Tryd.f20 [1]) (by kernel_rfl) ?_
  refine gi_pln (id := 0) (ops := RA Tryd.f20 [0]) [0] (by kernel_rfl) (by kernel_rfl) (by kernel_rfl) ?_
  refine plain_batch (rest := []) [⟨0, [], none⟩] (l' := ([(4, Value.slice none 0 0), (0, Value.pointer (some ⟨b, 0, none⟩)), (1, Value.int IntKind.i64 z)] : Fr)) (pts' := []) (eqs := []) (by kernel_rfl) trivial (AllC_nil _) ?_
  refine PO.mk ?_
  change WP _ _ (CA Tryd.f20 [1]) _ _ _
  refine fk_cut ([(0, Value.pointer (some ⟨b, 0, none⟩)), (1, Value.int IntKind.i64 z), (4, Value.slice none 0 0)] : Fr) (by kernel_rfl) (fun a => WP _ _ _ _ a _) (fun lr8 => ?_)
  refine gi_seq (x := CA Tryd.f20 [1, 0]) (y := CA Tryd.f20 [1, 1]) (by kernel_rfl) ?_
  refine gi_seq (x := CA Tryd.f20 [1, 0, 0]) (y := CA Tryd.f20 [1, 0, 1]) (by kernel_rfl) ?_
  refine gi_pln (id := 1) (ops := RA Tryd.f20 [1, 0, 0]) [0, 1, 2] (by kernel_rfl) (by kernel_rfl) (by kernel_rfl) ?_
  refine plain_batch (rest := [1, 2]) [⟨0, [], none⟩] (l' := ([(5, Value.pointer (some ⟨b, 0, none⟩)), (0, Value.pointer (some ⟨b, 0, none⟩)), (1, Value.int IntKind.i64 z), (4, Value.slice none 0 0)] : Fr) ++ lr8) (pts' := []) (eqs := []) (by kernel_rfl) trivial (AllC_nil _) ?_
  have h9 : sat g w0 [Cl b [Value.bool true, Value.slice p1 L.length cap2] 52, Vw 3 1 p1 L.length cap2 (fl eI L), R] := sat_sel [1, 0, 2] rfl h5
  refine plain_act (i := 1) (by kernel_rfl) ?_
  refine an_call (d := some 6) (f := 34) (args := [Value.pointer (some ⟨b, 0, none⟩)]) (by kernel_rfl) Tryd.call34 (valid_ht b _) (F := [Vw 3 1 p1 L.length cap2 (fl eI L), R]) h9 ?_
  rintro v K w10 (⟨rfl, rfl⟩) h11
  refine ⟨_, rfl, ?_⟩
  have h12 : sat g w10 [Cl b [Value.bool true, Value.slice p1 L.length cap2] 52, Vw 3 1 p1 L.length cap2 (fl eI L), R] := h11
  refine plain_batch (rest := []) [⟨2, [], none⟩] (l' := ([(7, Value.bool false), (6, Value.bool true), (5, Value.pointer (some ⟨b, 0, none⟩)), (0, Value.pointer (some ⟨b, 0, none⟩)), (1, Value.int IntKind.i64 z), (4, Value.slice none 0 0)] : Fr) ++ lr8) (pts' := []) (eqs := []) (by kernel_rfl) trivial (AllC_nil _) ?_
  refine PO.mk ?_
  change WP _ _ (CA Tryd.f20 [1, 0, 1]) _ _ _
  refine fk_cut ([(0, Value.pointer (some ⟨b, 0, none⟩)), (1, Value.int IntKind.i64 z), (4, Value.slice none 0 0), (7, Value.bool false)] : Fr) (by kernel_rfl) (fun a => WP _ _ _ _ a _) (fun lr13 => ?_)
  refine gi_cnd (x := (Operand.tmp 7)) (s := CA Tryd.f20 [1, 0, 1, 0]) (t := CA Tryd.f20 [1, 0, 1, 1]) false (by kernel_rfl) (by kernel_rfl) ?_
  change WP _ _ (CA Tryd.f20 [1, 0, 1, 1]) _ _ _
  refine gi_skp (by kernel_rfl) ?_
  change WP _ _ (CA Tryd.f20 [1, 1]) _ _ _
  refine gi_seq (x := CA Tryd.f20 [1, 1, 0]) (y := CA Tryd.f20 [1, 1, 1]) (by kernel_rfl) ?_
  refine gi_drw (id := 3) (ops := RA Tryd.f20 [1, 1, 0]) (Tr.fl 0 (Tr.fl 1 (Tr.fl 2 (Tr.fl 3 (Tr.fl 4 (Tr.fl 5 (Tr.fl 6 (Tr.fl 7 (Tr.fl 8 (Tr.fl 9 (Tr.fl 10 (Tr.fl 11 (Tr.fl 12 (Tr.an 13 (Tr.fl 14 Tr.nil))))))))))))))) (by kernel_rfl) (by kernel_rfl) (by kernel_rfl) (by kernel_rfl) (by kernel_rfl) (fun _ _ d _ _ h => by cases d <;> exact h) h12 ?_
  intro w14 h15
  refine draw_batch (t := (Tr.fl 10 (Tr.fl 11 (Tr.fl 12 (Tr.an 13 (Tr.fl 14 Tr.nil)))))) [⟨0, [], none⟩, ⟨1, [], none⟩, ⟨2, [], none⟩, ⟨3, [Value.slice p1 L.length cap2], none⟩, ⟨4, [], none⟩, ⟨5, [], none⟩, ⟨6, [], none⟩, ⟨7, [], none⟩, ⟨8, [Value.slice p1 L.length cap2], none⟩, ⟨9, [], none⟩] (l' := ([(17, Value.int IntKind.i64 (((L.length : Nat) : Int))), (16, Value.slice p1 L.length cap2), (15, Value.pointer (some ⟨b, 1, none⟩)), (14, Value.pointer (some ⟨b, 0, none⟩)), (13, Value.pointer (some ⟨b, 0, none⟩)), (12, Value.int IntKind.i64 z), (11, Value.slice p1 L.length cap2), (10, Value.pointer (some ⟨b, 1, none⟩)), (9, Value.pointer (some ⟨b, 0, none⟩)), (8, Value.pointer (some ⟨b, 0, none⟩)), (0, Value.pointer (some ⟨b, 0, none⟩)), (1, Value.int IntKind.i64 z), (4, Value.slice none 0 0), (7, Value.bool false)] : Fr) ++ lr13) (pts' := [(8, ⟨b, 1, none⟩, Value.slice p1 L.length cap2), (3, ⟨b, 1, none⟩, Value.slice p1 L.length cap2)]) (eqs := []) (by kernel_rfl) trivial (AllC_cons (sat_cell h15 0 rfl rfl) (AllC_cons (sat_cell h15 0 rfl rfl) (AllC_nil _))) ?_
  by_cases c16 : ((L.length : Nat) : Int) < z
  ·
    refine draw_batch (t := (Tr.fl 11 (Tr.fl 12 (Tr.an 13 (Tr.fl 14 Tr.nil))))) [⟨10, [], some (Value.int IntKind.i64 (((L.length : Nat) : Int)))⟩] (l' := ([(18, Value.int IntKind.i64 (((L.length : Nat) : Int))), (17, Value.int IntKind.i64 (((L.length : Nat) : Int))), (16, Value.slice p1 L.length cap2), (15, Value.pointer (some ⟨b, 1, none⟩)), (14, Value.pointer (some ⟨b, 0, none⟩)), (13, Value.pointer (some ⟨b, 0, none⟩)), (12, Value.int IntKind.i64 z), (11, Value.slice p1 L.length cap2), (10, Value.pointer (some ⟨b, 1, none⟩)), (9, Value.pointer (some ⟨b, 0, none⟩)), (8, Value.pointer (some ⟨b, 0, none⟩)), (0, Value.pointer (some ⟨b, 0, none⟩)), (1, Value.int IntKind.i64 z), (4, Value.slice none 0 0), (7, Value.bool false)] : Fr) ++ lr13) (pts' := []) (eqs := [(Value.int IntKind.i64 (if ((L.length : Nat) : Int) < z then ((L.length : Nat) : Int) else z), Value.int IntKind.i64 (((L.length : Nat) : Int)))]) (by kernel_rfl) ⟨(ov_int (if_pos (by omega))), trivial⟩ (AllC_nil _) ?_
    by_cases c17 : 0 < ((L.length : Nat) : Int)
    ·
      refine draw_batch (t := (Tr.fl 12 (Tr.an 13 (Tr.fl 14 Tr.nil)))) [⟨11, [], some (Value.int IntKind.i64 (((L.length : Nat) : Int)))⟩] (l' := ([(19, Value.int IntKind.i64 (((L.length : Nat) : Int))), (18, Value.int IntKind.i64 (((L.length : Nat) : Int))), (17, Value.int IntKind.i64 (((L.length : Nat) : Int))), (16, Value.slice p1 L.length cap2), (15, Value.pointer (some ⟨b, 1, none⟩)), (14, Value.pointer (some ⟨b, 0, none⟩)), (13, Value.pointer (some ⟨b, 0, none⟩)), (12, Value.int IntKind.i64 z), (11, Value.slice p1 L.length cap2), (10, Value.pointer (some ⟨b, 1, none⟩)), (9, Value.pointer (some ⟨b, 0, none⟩)), (8, Value.pointer (some ⟨b, 0, none⟩)), (0, Value.pointer (some ⟨b, 0, none⟩)), (1, Value.int IntKind.i64 z), (4, Value.slice none 0 0), (7, Value.bool false)] : Fr) ++ lr13) (pts' := []) (eqs := [(Value.int IntKind.i64 (if 0 < ((L.length : Nat) : Int) then ((L.length : Nat) : Int) else 0), Value.int IntKind.i64 (((L.length : Nat) : Int)))]) (by kernel_rfl) ⟨(ov_int (if_pos (by omega))), trivial⟩ (AllC_nil _) ?_
      refine draw_law (i := 12) 20 (Value.slice p1 L.length cap2) [] (by kernel_rfl) (fun _ _ => law_sliceTo (o := opA (RA Tryd.f20 [1, 1, 0]) 12) (x := (Operand.tmp 11)) (y := (Operand.tmp 19)) (p := p1) (m := L.length) (c := cap2) (z := (((L.length : Nat) : Int))) (by kernel_rfl) Tryd.underlying22 (by kernel_rfl) (by kernel_rfl) (by kernel_rfl) L.length (by omega) (by omega) _) (by intro q hq; cases hq) ?_
      have h20 : sat g w14 [Vw 3 1 p1 L.length cap2 (fl eI L), Cl b [Value.bool true, Value.slice p1 L.length cap2] 52, R] := sat_sel [1, 0, 2] rfl h15
      refine draw_act (i := 13) [(8, ⟨b, 1, none⟩, Value.slice p1 L.length cap2), (3, ⟨b, 1, none⟩, Value.slice p1 L.length cap2)] (by kernel_rfl) (by kernel_rfl) ?_
      refine an_call (d := some 21) (f := 36) (args := [Value.slice p1 L.length cap2]) (by kernel_rfl) Tryd.call36 (clone_ht p1 L.length cap2 L (Vw 3 1 p1 L.length cap2 (fl eI L)) (gv_vw _ _ _) rfl (by omega)) (F := [Cl b [Value.bool true, Value.slice p1 L.length cap2] 52, R]) h20 ?_
      rintro v K w21 (⟨p18, cap19, rfl, rfl⟩) h22
      refine ⟨_, rfl, ?_⟩
      have h23 : sat g w21 [Sl 3 1 p18 L.length cap19 (fl eI L), Vw 3 1 p1 L.length cap2 (fl eI L), Cl b [Value.bool true, Value.slice p1 L.length cap2] 52, R] := h22
      obtain ⟨hn24, hn25⟩ := sl_le h23
      refine ⟨(AllC_cons (sat_cell h23 2 rfl rfl) (AllC_cons (sat_cell h23 2 rfl rfl) (AllC_nil _))), ?_⟩
      refine draw_batch (t := Tr.nil) [⟨14, [], none⟩] (l' := ([(4, Value.slice p18 L.length cap19), (21, Value.slice p18 L.length cap19), (20, Value.slice p1 L.length cap2), (19, Value.int IntKind.i64 (((L.length : Nat) : Int))), (18, Value.int IntKind.i64 (((L.length : Nat) : Int))), (17, Value.int IntKind.i64 (((L.length : Nat) : Int))), (16, Value.slice p1 L.length cap2), (15, Value.pointer (some ⟨b, 1, none⟩)), (14, Value.pointer (some ⟨b, 0, none⟩)), (13, Value.pointer (some ⟨b, 0, none⟩)), (12, Value.int IntKind.i64 z), (11, Value.slice p1 L.length cap2), (10, Value.pointer (some ⟨b, 1, none⟩)), (9, Value.pointer (some ⟨b, 0, none⟩)), (8, Value.pointer (some ⟨b, 0, none⟩)), (0, Value.pointer (some ⟨b, 0, none⟩)), (1, Value.int IntKind.i64 z), (4, Value.slice none 0 0), (7, Value.bool false)] : Fr) ++ lr13) (pts' := []) (eqs := []) (by kernel_rfl) trivial (AllC_nil _) ?_
      change WP _ _ (CA Tryd.f20 [1, 1, 1]) _ _ _
      refine fk_cut ([(0, Value.pointer (some ⟨b, 0, none⟩)), (1, Value.int IntKind.i64 z), (4, Value.slice p18 L.length cap19), (7, Value.bool false)] : Fr) (by kernel_rfl) (fun a => WP _ _ _ _ a _) (fun lr26 => ?_)
      refine gi_rt (by kernel_rfl) ?_
      repeat (first | simp only [Exit.inBlock] | simp only [Exit.then])
      have h27 : sat g w21 [Sl 3 1 p18 L.length cap19 (fl eI (pk L z)), Vw 3 1 p1 L.length cap2 (fl eI L), Cl b [Value.bool true, Value.slice p1 L.length cap2] 52, R] := (show L = (pk L z) from (pk_hi (by omega)).symm) ▸ h23
      have hn28 : (pk L z).length = L.length := fl_n eI_ok (by decide) h27
      have h29 : sat g w21 [Sl 3 1 p18 (((pk L z).length)) cap19 (fl eI (pk L z)), Vw 3 1 p1 L.length cap2 (fl eI L), Cl b [Value.bool true, Value.slice p1 L.length cap2] 52, R] := (show L.length = ((pk L z).length) from hn28.symm) ▸ h27
      have h30 : sat g w21 [Cl b [Value.bool true, Value.slice p1 L.length cap2] 52, Vw 3 1 p1 L.length cap2 (fl eI L), Sl 3 1 p18 (((pk L z).length)) cap19 (fl eI (pk L z)), R] := sat_sel [2, 1, 0, 3] rfl h29
      have h31 : sat g w21 [Sr 52 b L, Sl 3 1 p18 (((pk L z).length)) cap19 (fl eI (pk L z)), R] := sr_close (p := p1) (c := cap2) (by omega) h30
      have h32 : sat g w21 [Sl 3 1 p18 (((pk L z).length)) cap19 (fl eI (pk L z)), Sr 52 b L, R] := sat_sel [1, 0, 2] rfl h31
      refine hi_out [] (Value.slice p18 L.length cap19) [] (by kernel_rfl) (by intro q hq; cases hq) ?_
      exact ⟨Value.slice p18 L.length cap19, [Sl 3 1 p18 (((pk L z).length)) cap19 (fl eI (pk L z)), Sr 52 b L], rfl, ⟨p18, cap19, (by rw [hn28]), rfl⟩, h32⟩
    ·
      refine draw_batch (t := (Tr.fl 12 (Tr.an 13 (Tr.fl 14 Tr.nil)))) [⟨11, [], some (Value.int IntKind.i64 0)⟩] (l' := ([(19, Value.int IntKind.i64 0), (18, Value.int IntKind.i64 (((L.length : Nat) : Int))), (17, Value.int IntKind.i64 (((L.length : Nat) : Int))), (16, Value.slice p1 L.length cap2), (15, Value.pointer (some ⟨b, 1, none⟩)), (14, Value.pointer (some ⟨b, 0, none⟩)), (13, Value.pointer (some ⟨b, 0, none⟩)), (12, Value.int IntKind.i64 z), (11, Value.slice p1 L.length cap2), (10, Value.pointer (some ⟨b, 1, none⟩)), (9, Value.pointer (some ⟨b, 0, none⟩)), (8, Value.pointer (some ⟨b, 0, none⟩)), (0, Value.pointer (some ⟨b, 0, none⟩)), (1, Value.int IntKind.i64 z), (4, Value.slice none 0 0), (7, Value.bool false)] : Fr) ++ lr13) (pts' := []) (eqs := [(Value.int IntKind.i64 (if 0 < ((L.length : Nat) : Int) then ((L.length : Nat) : Int) else 0), Value.int IntKind.i64 0)]) (by kernel_rfl) ⟨(ov_int (if_neg (by omega))), trivial⟩ (AllC_nil _) ?_
      refine draw_law (i := 12) 20 (Value.slice p1 0 cap2) [] (by kernel_rfl) (fun _ _ => law_sliceTo (o := opA (RA Tryd.f20 [1, 1, 0]) 12) (x := (Operand.tmp 11)) (y := (Operand.tmp 19)) (p := p1) (m := L.length) (c := cap2) (z := 0) (by kernel_rfl) Tryd.underlying22 (by kernel_rfl) (by kernel_rfl) (by kernel_rfl) 0 (by omega) (by omega) _) (by intro q hq; cases hq) ?_
      have h35 : sat g w14 [Vw 3 1 p1 L.length cap2 (fl eI L), Cl b [Value.bool true, Value.slice p1 L.length cap2] 52, R] := sat_sel [1, 0, 2] rfl h15
      refine draw_act (i := 13) [(8, ⟨b, 1, none⟩, Value.slice p1 L.length cap2), (3, ⟨b, 1, none⟩, Value.slice p1 L.length cap2)] (by kernel_rfl) (by kernel_rfl) ?_
      refine an_call (d := some 21) (f := 36) (args := [Value.slice p1 0 cap2]) (by kernel_rfl) Tryd.call36 (clone_ht p1 0 cap2 (L.take 0) (Vw 3 1 p1 L.length cap2 (fl eI L)) (gv_list eI_ok (gv_vw _ _ _) (by omega)) (by rw [List.length_take]; omega) (by omega)) (F := [Cl b [Value.bool true, Value.slice p1 L.length cap2] 52, R]) h35 ?_
      rintro v K w36 (⟨p33, cap34, rfl, rfl⟩) h37
      refine ⟨_, rfl, ?_⟩
      have h38 : sat g w36 [Sl 3 1 p33 0 cap34 (fl eI (L.take 0)), Vw 3 1 p1 L.length cap2 (fl eI L), Cl b [Value.bool true, Value.slice p1 L.length cap2] 52, R] := h37
      obtain ⟨hn39, hn40⟩ := sl_le h38
      refine ⟨(AllC_cons (sat_cell h38 2 rfl rfl) (AllC_cons (sat_cell h38 2 rfl rfl) (AllC_nil _))), ?_⟩
      refine draw_batch (t := Tr.nil) [⟨14, [], none⟩] (l' := ([(4, Value.slice p33 0 cap34), (21, Value.slice p33 0 cap34), (20, Value.slice p1 0 cap2), (19, Value.int IntKind.i64 0), (18, Value.int IntKind.i64 (((L.length : Nat) : Int))), (17, Value.int IntKind.i64 (((L.length : Nat) : Int))), (16, Value.slice p1 L.length cap2), (15, Value.pointer (some ⟨b, 1, none⟩)), (14, Value.pointer (some ⟨b, 0, none⟩)), (13, Value.pointer (some ⟨b, 0, none⟩)), (12, Value.int IntKind.i64 z), (11, Value.slice p1 L.length cap2), (10, Value.pointer (some ⟨b, 1, none⟩)), (9, Value.pointer (some ⟨b, 0, none⟩)), (8, Value.pointer (some ⟨b, 0, none⟩)), (0, Value.pointer (some ⟨b, 0, none⟩)), (1, Value.int IntKind.i64 z), (4, Value.slice none 0 0), (7, Value.bool false)] : Fr) ++ lr13) (pts' := []) (eqs := []) (by kernel_rfl) trivial (AllC_nil _) ?_
      change WP _ _ (CA Tryd.f20 [1, 1, 1]) _ _ _
      refine fk_cut ([(0, Value.pointer (some ⟨b, 0, none⟩)), (1, Value.int IntKind.i64 z), (4, Value.slice p33 0 cap34), (7, Value.bool false)] : Fr) (by kernel_rfl) (fun a => WP _ _ _ _ a _) (fun lr41 => ?_)
      refine gi_rt (by kernel_rfl) ?_
      repeat (first | simp only [Exit.inBlock] | simp only [Exit.then])
      have h42 : sat g w36 [Sl 3 1 p33 0 cap34 (fl eI (pk L z)), Vw 3 1 p1 L.length cap2 (fl eI L), Cl b [Value.bool true, Value.slice p1 L.length cap2] 52, R] := (show (L.take 0) = (pk L z) from (pk_0 (by omega))) ▸ h38
      have hn43 : (pk L z).length = 0 := fl_n eI_ok (by decide) h42
      have h44 : sat g w36 [Sl 3 1 p33 (((pk L z).length)) cap34 (fl eI (pk L z)), Vw 3 1 p1 L.length cap2 (fl eI L), Cl b [Value.bool true, Value.slice p1 L.length cap2] 52, R] := (show 0 = ((pk L z).length) from hn43.symm) ▸ h42
      have h45 : sat g w36 [Cl b [Value.bool true, Value.slice p1 L.length cap2] 52, Vw 3 1 p1 L.length cap2 (fl eI L), Sl 3 1 p33 (((pk L z).length)) cap34 (fl eI (pk L z)), R] := sat_sel [2, 1, 0, 3] rfl h44
      have h46 : sat g w36 [Sr 52 b L, Sl 3 1 p33 (((pk L z).length)) cap34 (fl eI (pk L z)), R] := sr_close (p := p1) (c := cap2) (by omega) h45
      have h47 : sat g w36 [Sl 3 1 p33 (((pk L z).length)) cap34 (fl eI (pk L z)), Sr 52 b L, R] := sat_sel [1, 0, 2] rfl h46
      refine hi_out [] (Value.slice p33 0 cap34) [] (by kernel_rfl) (by intro q hq; cases hq) ?_
      exact ⟨Value.slice p33 0 cap34, [Sl 3 1 p33 (((pk L z).length)) cap34 (fl eI (pk L z)), Sr 52 b L], rfl, ⟨p33, cap34, (by rw [hn43]), rfl⟩, h47⟩
  ·
    refine draw_batch (t := (Tr.fl 11 (Tr.fl 12 (Tr.an 13 (Tr.fl 14 Tr.nil))))) [⟨10, [], some (Value.int IntKind.i64 z)⟩] (l' := ([(18, Value.int IntKind.i64 z), (17, Value.int IntKind.i64 (((L.length : Nat) : Int))), (16, Value.slice p1 L.length cap2), (15, Value.pointer (some ⟨b, 1, none⟩)), (14, Value.pointer (some ⟨b, 0, none⟩)), (13, Value.pointer (some ⟨b, 0, none⟩)), (12, Value.int IntKind.i64 z), (11, Value.slice p1 L.length cap2), (10, Value.pointer (some ⟨b, 1, none⟩)), (9, Value.pointer (some ⟨b, 0, none⟩)), (8, Value.pointer (some ⟨b, 0, none⟩)), (0, Value.pointer (some ⟨b, 0, none⟩)), (1, Value.int IntKind.i64 z), (4, Value.slice none 0 0), (7, Value.bool false)] : Fr) ++ lr13) (pts' := []) (eqs := [(Value.int IntKind.i64 (if ((L.length : Nat) : Int) < z then ((L.length : Nat) : Int) else z), Value.int IntKind.i64 z)]) (by kernel_rfl) ⟨(ov_int (if_neg (by omega))), trivial⟩ (AllC_nil _) ?_
    by_cases c48 : 0 < z
    ·
      obtain ⟨kk49, hk50⟩ : ∃ z_ : Nat, z = (z_ : Int) := ⟨(z).toNat, by omega⟩
      refine draw_batch (t := (Tr.fl 12 (Tr.an 13 (Tr.fl 14 Tr.nil)))) [⟨11, [], some (Value.int IntKind.i64 z)⟩] (l' := ([(19, Value.int IntKind.i64 z), (18, Value.int IntKind.i64 z), (17, Value.int IntKind.i64 (((L.length : Nat) : Int))), (16, Value.slice p1 L.length cap2), (15, Value.pointer (some ⟨b, 1, none⟩)), (14, Value.pointer (some ⟨b, 0, none⟩)), (13, Value.pointer (some ⟨b, 0, none⟩)), (12, Value.int IntKind.i64 z), (11, Value.slice p1 L.length cap2), (10, Value.pointer (some ⟨b, 1, none⟩)), (9, Value.pointer (some ⟨b, 0, none⟩)), (8, Value.pointer (some ⟨b, 0, none⟩)), (0, Value.pointer (some ⟨b, 0, none⟩)), (1, Value.int IntKind.i64 z), (4, Value.slice none 0 0), (7, Value.bool false)] : Fr) ++ lr13) (pts' := []) (eqs := [(Value.int IntKind.i64 (if 0 < z then z else 0), Value.int IntKind.i64 z)]) (by kernel_rfl) ⟨(ov_int (if_pos (by omega))), trivial⟩ (AllC_nil _) ?_
      refine draw_law (i := 12) 20 (Value.slice p1 kk49 cap2) [] (by kernel_rfl) (fun _ _ => law_sliceTo (o := opA (RA Tryd.f20 [1, 1, 0]) 12) (x := (Operand.tmp 11)) (y := (Operand.tmp 19)) (p := p1) (m := L.length) (c := cap2) (z := z) (by kernel_rfl) Tryd.underlying22 (by kernel_rfl) (by kernel_rfl) (by kernel_rfl) kk49 (by omega) (by omega) _) (by intro q hq; cases hq) ?_
      have h53 : sat g w14 [Vw 3 1 p1 L.length cap2 (fl eI L), Cl b [Value.bool true, Value.slice p1 L.length cap2] 52, R] := sat_sel [1, 0, 2] rfl h15
      refine draw_act (i := 13) [(8, ⟨b, 1, none⟩, Value.slice p1 L.length cap2), (3, ⟨b, 1, none⟩, Value.slice p1 L.length cap2)] (by kernel_rfl) (by kernel_rfl) ?_
      refine an_call (d := some 21) (f := 36) (args := [Value.slice p1 kk49 cap2]) (by kernel_rfl) Tryd.call36 (clone_ht p1 kk49 cap2 (L.take kk49) (Vw 3 1 p1 L.length cap2 (fl eI L)) (gv_list eI_ok (gv_vw _ _ _) (by omega)) (by rw [List.length_take]; omega) (by omega)) (F := [Cl b [Value.bool true, Value.slice p1 L.length cap2] 52, R]) h53 ?_
      rintro v K w54 (⟨p51, cap52, rfl, rfl⟩) h55
      refine ⟨_, rfl, ?_⟩
      have h56 : sat g w54 [Sl 3 1 p51 kk49 cap52 (fl eI (L.take kk49)), Vw 3 1 p1 L.length cap2 (fl eI L), Cl b [Value.bool true, Value.slice p1 L.length cap2] 52, R] := h55
      obtain ⟨hn57, hn58⟩ := sl_le h56
      refine ⟨(AllC_cons (sat_cell h56 2 rfl rfl) (AllC_cons (sat_cell h56 2 rfl rfl) (AllC_nil _))), ?_⟩
      refine draw_batch (t := Tr.nil) [⟨14, [], none⟩] (l' := ([(4, Value.slice p51 kk49 cap52), (21, Value.slice p51 kk49 cap52), (20, Value.slice p1 kk49 cap2), (19, Value.int IntKind.i64 z), (18, Value.int IntKind.i64 z), (17, Value.int IntKind.i64 (((L.length : Nat) : Int))), (16, Value.slice p1 L.length cap2), (15, Value.pointer (some ⟨b, 1, none⟩)), (14, Value.pointer (some ⟨b, 0, none⟩)), (13, Value.pointer (some ⟨b, 0, none⟩)), (12, Value.int IntKind.i64 z), (11, Value.slice p1 L.length cap2), (10, Value.pointer (some ⟨b, 1, none⟩)), (9, Value.pointer (some ⟨b, 0, none⟩)), (8, Value.pointer (some ⟨b, 0, none⟩)), (0, Value.pointer (some ⟨b, 0, none⟩)), (1, Value.int IntKind.i64 z), (4, Value.slice none 0 0), (7, Value.bool false)] : Fr) ++ lr13) (pts' := []) (eqs := []) (by kernel_rfl) trivial (AllC_nil _) ?_
      change WP _ _ (CA Tryd.f20 [1, 1, 1]) _ _ _
      refine fk_cut ([(0, Value.pointer (some ⟨b, 0, none⟩)), (1, Value.int IntKind.i64 z), (4, Value.slice p51 kk49 cap52), (7, Value.bool false)] : Fr) (by kernel_rfl) (fun a => WP _ _ _ _ a _) (fun lr59 => ?_)
      refine gi_rt (by kernel_rfl) ?_
      repeat (first | simp only [Exit.inBlock] | simp only [Exit.then])
      have h60 : sat g w54 [Sl 3 1 p51 kk49 cap52 (fl eI (pk L z)), Vw 3 1 p1 L.length cap2 (fl eI L), Cl b [Value.bool true, Value.slice p1 L.length cap2] 52, R] := (show (L.take kk49) = (pk L z) from (pk_mid (by omega))) ▸ h56
      have hn61 : (pk L z).length = kk49 := fl_n eI_ok (by decide) h60
      have h62 : sat g w54 [Sl 3 1 p51 (((pk L z).length)) cap52 (fl eI (pk L z)), Vw 3 1 p1 L.length cap2 (fl eI L), Cl b [Value.bool true, Value.slice p1 L.length cap2] 52, R] := (show kk49 = ((pk L z).length) from hn61.symm) ▸ h60
      have h63 : sat g w54 [Cl b [Value.bool true, Value.slice p1 L.length cap2] 52, Vw 3 1 p1 L.length cap2 (fl eI L), Sl 3 1 p51 (((pk L z).length)) cap52 (fl eI (pk L z)), R] := sat_sel [2, 1, 0, 3] rfl h62
      have h64 : sat g w54 [Sr 52 b L, Sl 3 1 p51 (((pk L z).length)) cap52 (fl eI (pk L z)), R] := sr_close (p := p1) (c := cap2) (by omega) h63
      have h65 : sat g w54 [Sl 3 1 p51 (((pk L z).length)) cap52 (fl eI (pk L z)), Sr 52 b L, R] := sat_sel [1, 0, 2] rfl h64
      refine hi_out [] (Value.slice p51 kk49 cap52) [] (by kernel_rfl) (by intro q hq; cases hq) ?_
      exact ⟨Value.slice p51 kk49 cap52, [Sl 3 1 p51 (((pk L z).length)) cap52 (fl eI (pk L z)), Sr 52 b L], rfl, ⟨p51, cap52, (by rw [hn61]), rfl⟩, h65⟩
    ·
      refine draw_batch (t := (Tr.fl 12 (Tr.an 13 (Tr.fl 14 Tr.nil)))) [⟨11, [], some (Value.int IntKind.i64 0)⟩] (l' := ([(19, Value.int IntKind.i64 0), (18, Value.int IntKind.i64 z), (17, Value.int IntKind.i64 (((L.length : Nat) : Int))), (16, Value.slice p1 L.length cap2), (15, Value.pointer (some ⟨b, 1, none⟩)), (14, Value.pointer (some ⟨b, 0, none⟩)), (13, Value.pointer (some ⟨b, 0, none⟩)), (12, Value.int IntKind.i64 z), (11, Value.slice p1 L.length cap2), (10, Value.pointer (some ⟨b, 1, none⟩)), (9, Value.pointer (some ⟨b, 0, none⟩)), (8, Value.pointer (some ⟨b, 0, none⟩)), (0, Value.pointer (some ⟨b, 0, none⟩)), (1, Value.int IntKind.i64 z), (4, Value.slice none 0 0), (7, Value.bool false)] : Fr) ++ lr13) (pts' := []) (eqs := [(Value.int IntKind.i64 (if 0 < z then z else 0), Value.int IntKind.i64 0)]) (by kernel_rfl) ⟨(ov_int (if_neg (by omega))), trivial⟩ (AllC_nil _) ?_
      refine draw_law (i := 12) 20 (Value.slice p1 0 cap2) [] (by kernel_rfl) (fun _ _ => law_sliceTo (o := opA (RA Tryd.f20 [1, 1, 0]) 12) (x := (Operand.tmp 11)) (y := (Operand.tmp 19)) (p := p1) (m := L.length) (c := cap2) (z := 0) (by kernel_rfl) Tryd.underlying22 (by kernel_rfl) (by kernel_rfl) (by kernel_rfl) 0 (by omega) (by omega) _) (by intro q hq; cases hq) ?_
      have h68 : sat g w14 [Vw 3 1 p1 L.length cap2 (fl eI L), Cl b [Value.bool true, Value.slice p1 L.length cap2] 52, R] := sat_sel [1, 0, 2] rfl h15
      refine draw_act (i := 13) [(8, ⟨b, 1, none⟩, Value.slice p1 L.length cap2), (3, ⟨b, 1, none⟩, Value.slice p1 L.length cap2)] (by kernel_rfl) (by kernel_rfl) ?_
      refine an_call (d := some 21) (f := 36) (args := [Value.slice p1 0 cap2]) (by kernel_rfl) Tryd.call36 (clone_ht p1 0 cap2 (L.take 0) (Vw 3 1 p1 L.length cap2 (fl eI L)) (gv_list eI_ok (gv_vw _ _ _) (by omega)) (by rw [List.length_take]; omega) (by omega)) (F := [Cl b [Value.bool true, Value.slice p1 L.length cap2] 52, R]) h68 ?_
      rintro v K w69 (⟨p66, cap67, rfl, rfl⟩) h70
      refine ⟨_, rfl, ?_⟩
      have h71 : sat g w69 [Sl 3 1 p66 0 cap67 (fl eI (L.take 0)), Vw 3 1 p1 L.length cap2 (fl eI L), Cl b [Value.bool true, Value.slice p1 L.length cap2] 52, R] := h70
      obtain ⟨hn72, hn73⟩ := sl_le h71
      refine ⟨(AllC_cons (sat_cell h71 2 rfl rfl) (AllC_cons (sat_cell h71 2 rfl rfl) (AllC_nil _))), ?_⟩
      refine draw_batch (t := Tr.nil) [⟨14, [], none⟩] (l' := ([(4, Value.slice p66 0 cap67), (21, Value.slice p66 0 cap67), (20, Value.slice p1 0 cap2), (19, Value.int IntKind.i64 0), (18, Value.int IntKind.i64 z), (17, Value.int IntKind.i64 (((L.length : Nat) : Int))), (16, Value.slice p1 L.length cap2), (15, Value.pointer (some ⟨b, 1, none⟩)), (14, Value.pointer (some ⟨b, 0, none⟩)), (13, Value.pointer (some ⟨b, 0, none⟩)), (12, Value.int IntKind.i64 z), (11, Value.slice p1 L.length cap2), (10, Value.pointer (some ⟨b, 1, none⟩)), (9, Value.pointer (some ⟨b, 0, none⟩)), (8, Value.pointer (some ⟨b, 0, none⟩)), (0, Value.pointer (some ⟨b, 0, none⟩)), (1, Value.int IntKind.i64 z), (4, Value.slice none 0 0), (7, Value.bool false)] : Fr) ++ lr13) (pts' := []) (eqs := []) (by kernel_rfl) trivial (AllC_nil _) ?_
      change WP _ _ (CA Tryd.f20 [1, 1, 1]) _ _ _
      refine fk_cut ([(0, Value.pointer (some ⟨b, 0, none⟩)), (1, Value.int IntKind.i64 z), (4, Value.slice p66 0 cap67), (7, Value.bool false)] : Fr) (by kernel_rfl) (fun a => WP _ _ _ _ a _) (fun lr74 => ?_)
      refine gi_rt (by kernel_rfl) ?_
      repeat (first | simp only [Exit.inBlock] | simp only [Exit.then])
      have h75 : sat g w69 [Sl 3 1 p66 0 cap67 (fl eI (pk L z)), Vw 3 1 p1 L.length cap2 (fl eI L), Cl b [Value.bool true, Value.slice p1 L.length cap2] 52, R] := (show (L.take 0) = (pk L z) from (pk_0 (by omega))) ▸ h71
      have hn76 : (pk L z).length = 0 := fl_n eI_ok (by decide) h75
      have h77 : sat g w69 [Sl 3 1 p66 (((pk L z).length)) cap67 (fl eI (pk L z)), Vw 3 1 p1 L.length cap2 (fl eI L), Cl b [Value.bool true, Value.slice p1 L.length cap2] 52, R] := (show 0 = ((pk L z).length) from hn76.symm) ▸ h75
      have h78 : sat g w69 [Cl b [Value.bool true, Value.slice p1 L.length cap2] 52, Vw 3 1 p1 L.length cap2 (fl eI L), Sl 3 1 p66 (((pk L z).length)) cap67 (fl eI (pk L z)), R] := sat_sel [2, 1, 0, 3] rfl h77
      have h79 : sat g w69 [Sr 52 b L, Sl 3 1 p66 (((pk L z).length)) cap67 (fl eI (pk L z)), R] := sr_close (p := p1) (c := cap2) (by omega) h78
      have h80 : sat g w69 [Sl 3 1 p66 (((pk L z).length)) cap67 (fl eI (pk L z)), Sr 52 b L, R] := sat_sel [1, 0, 2] rfl h79
      refine hi_out [] (Value.slice p66 0 cap67) [] (by kernel_rfl) (by intro q hq; cases hq) ?_
      exact ⟨Value.slice p66 0 cap67, [Sl 3 1 p66 (((pk L z).length)) cap67 (fl eI (pk L z)), Sr 52 b L], rfl, ⟨p66, cap67, (by rw [hn76]), rfl⟩, h80⟩

set_option maxHeartbeats 4000000 in
theorem copy_ht (b : Nat) (L : List Int) : HT Tryd.prog 28 [Value.pointer (some ⟨b, 0, none⟩)] [Sr 52 b L] (fun v K => ∃ b2, v = Value.pointer (some ⟨b2, 0, none⟩) ∧ K = [Sr 52 b2 L, Sr 52 b L]) := by
  refine hi_in 13 ([(0, Value.pointer (some ⟨b, 0, none⟩))] : Fr) Tryd.func28 (by kernel_rfl) Tryd.ntmps28 rfl rfl ?_
  intro g w0 R h0
  obtain ⟨hl4, p1, cap2, h3⟩ := sr_open h0
  have h5 : sat g w0 [Vw 3 1 p1 L.length cap2 (fl eI L), Cl b [Value.bool true, Value.slice p1 L.length cap2] 52, R] := sat_sel [1, 0, 2] rfl h3
  obtain ⟨hn6, hn7⟩ := vw_le h5
  refine gi_seq (x := CA Tryd.f28 [0]) (y := CA Tryd.f28 [1]) (by kernel_rfl) ?_
  refine gi_pln (id := 0) (ops := RA Tryd.f28 [0]) [0] (by kernel_rfl) (by kernel_rfl) (by kernel_rfl) ?_
  refine plain_batch (rest := []) [⟨0, [], none⟩] (l' := ([(2, Value.pointer none), (0, Value.pointer (some ⟨b, 0, none⟩))] : Fr)) (pts' := []) (eqs := []) (by kernel_rfl) trivial (AllC_nil _) ?_
  refine PO.mk ?_
  change WP _ _ (CA Tryd.f28 [1]) _ _ _
  refine fk_cut ([(0, Value.pointer (some ⟨b, 0, none⟩)), (2, Value.pointer none)] : Fr) (by kernel_rfl) (fun a => WP _ _ _ _ a _) (fun lr8 => ?_)
  refine gi_seq (x := CA Tryd.f28 [1, 0]) (y := CA Tryd.f28 [1, 1]) (by kernel_rfl) ?_
  refine gi_seq (x := CA Tryd.f28 [1, 0, 0]) (y := CA Tryd.f28 [1, 0, 1]) (by kernel_rfl) ?_
  refine gi_pln (id := 1) (ops := RA Tryd.f28 [1, 0, 0]) [0, 1, 2] (by kernel_rfl) (by kernel_rfl) (by kernel_rfl) ?_
  refine plain_batch (rest := [1, 2]) [⟨0, [], none⟩] (l' := ([(3, Value.pointer (some ⟨b, 0, none⟩)), (0, Value.pointer (some ⟨b, 0, none⟩)), (2, Value.pointer none)] : Fr) ++ lr8) (pts' := []) (eqs := []) (by kernel_rfl) trivial (AllC_nil _) ?_
  have h9 : sat g w0 [Cl b [Value.bool true, Value.slice p1 L.length cap2] 52, Vw 3 1 p1 L.length cap2 (fl eI L), R] := sat_sel [1, 0, 2] rfl h5
  refine plain_act (i := 1) (by kernel_rfl) ?_
  refine an_call (d := some 4) (f := 34) (args := [Value.pointer (some ⟨b, 0, none⟩)]) (by kernel_rfl) Tryd.call34 (valid_ht b _) (F := [Vw 3 1 p1 L.length cap2 (fl eI L), R]) h9 ?_
  rintro v K w10 (⟨rfl, rfl⟩) h11
  refine ⟨_, rfl, ?_⟩
  have h12 : sat g w10 [Cl b [Value.bool true, Value.slice p1 L.length cap2] 52, Vw 3 1 p1 L.length cap2 (fl eI L), R] := h11
  refine plain_batch (rest := []) [⟨2, [], none⟩] (l' := ([(5, Value.bool false), (4, Value.bool true), (3, Value.pointer (some ⟨b, 0, none⟩)), (0, Value.pointer (some ⟨b, 0, none⟩)), (2, Value.pointer none)] : Fr) ++ lr8) (pts' := []) (eqs := []) (by kernel_rfl) trivial (AllC_nil _) ?_
  refine PO.mk ?_
  change WP _ _ (CA Tryd.f28 [1, 0, 1]) _ _ _
  refine fk_cut ([(0, Value.pointer (some ⟨b, 0, none⟩)), (2, Value.pointer none), (5, Value.bool false)] : Fr) (by kernel_rfl) (fun a => WP _ _ _ _ a _) (fun lr13 => ?_)
  refine gi_cnd (x := (Operand.tmp 5)) (s := CA Tryd.f28 [1, 0, 1, 0]) (t := CA Tryd.f28 [1, 0, 1, 1]) false (by kernel_rfl) (by kernel_rfl) ?_
  change WP _ _ (CA Tryd.f28 [1, 0, 1, 1]) _ _ _
  refine gi_skp (by kernel_rfl) ?_
  change WP _ _ (CA Tryd.f28 [1, 1]) _ _ _
  refine gi_seq (x := CA Tryd.f28 [1, 1, 0]) (y := CA Tryd.f28 [1, 1, 1]) (by kernel_rfl) ?_
  refine gi_pln (id := 3) (ops := RA Tryd.f28 [1, 1, 0]) [0, 1, 2, 3, 4, 5, 6, 7] (by kernel_rfl) (by kernel_rfl) (by kernel_rfl) ?_
  refine plain_batch (rest := [4, 5, 6, 7]) [⟨0, [], none⟩, ⟨1, [], none⟩, ⟨2, [], none⟩, ⟨3, [Value.slice p1 L.length cap2], none⟩] (l' := ([(9, Value.slice p1 L.length cap2), (8, Value.pointer (some ⟨b, 1, none⟩)), (7, Value.pointer (some ⟨b, 0, none⟩)), (6, Value.pointer (some ⟨b, 0, none⟩)), (0, Value.pointer (some ⟨b, 0, none⟩)), (2, Value.pointer none), (5, Value.bool false)] : Fr) ++ lr13) (pts' := [(3, ⟨b, 1, none⟩, Value.slice p1 L.length cap2)]) (eqs := []) (by kernel_rfl) trivial (AllC_cons (sat_cell h12 0 rfl rfl) (AllC_nil _)) ?_
  have h16 : sat g w10 [Vw 3 1 p1 L.length cap2 (fl eI L), Cl b [Value.bool true, Value.slice p1 L.length cap2] 52, R] := sat_sel [1, 0, 2] rfl h12
  refine plain_act (i := 4) (by kernel_rfl) ?_
  refine an_call (d := some 10) (f := 36) (args := [Value.slice p1 L.length cap2]) (by kernel_rfl) Tryd.call36 (clone_ht p1 L.length cap2 L (Vw 3 1 p1 L.length cap2 (fl eI L)) (gv_vw _ _ _) rfl (by omega)) (F := [Cl b [Value.bool true, Value.slice p1 L.length cap2] 52, R]) h16 ?_
  rintro v K w17 (⟨p14, cap15, rfl, rfl⟩) h18
  refine ⟨_, rfl, ?_⟩
  have h19 : sat g w17 [Sl 3 1 p14 L.length cap15 (fl eI L), Vw 3 1 p1 L.length cap2 (fl eI L), Cl b [Value.bool true, Value.slice p1 L.length cap2] 52, R] := h18
  obtain ⟨hn20, hn21⟩ := sl_le h19
  refine plain_batch (rest := [6, 7]) [⟨5, [], none⟩] (l' := ([(11, Value.agg #[Value.bool true, Value.slice p14 L.length cap15]), (10, Value.slice p14 L.length cap15), (9, Value.slice p1 L.length cap2), (8, Value.pointer (some ⟨b, 1, none⟩)), (7, Value.pointer (some ⟨b, 0, none⟩)), (6, Value.pointer (some ⟨b, 0, none⟩)), (0, Value.pointer (some ⟨b, 0, none⟩)), (2, Value.pointer none), (5, Value.bool false)] : Fr) ++ lr13) (pts' := []) (eqs := []) (by kernel_rfl) trivial (AllC_nil _) ?_
  refine plain_act (i := 6) (by kernel_rfl) ?_
  refine an_new (d := 12) (fun xb_ => Value.pointer (some ⟨xb_, 0, none⟩)) (fun xb_ => Obj.cells [Value.bool true, Value.slice p14 L.length cap15].toArray 52 (0, 0)) (fun xb_ => by kernel_rfl) (by kernel_rfl) rfl h19 ?_
  intro r22 w23 (h24 : sat g w23 [Cl r22 [Value.bool true, Value.slice p14 L.length cap15] 52, Sl 3 1 p14 L.length cap15 (fl eI L), Vw 3 1 p1 L.length cap2 (fl eI L), Cl b [Value.bool true, Value.slice p1 L.length cap2] 52, R])
  refine plain_batch (rest := []) [⟨7, [], none⟩] (l' := ([(2, Value.pointer (some ⟨r22, 0, none⟩)), (12, Value.pointer (some ⟨r22, 0, none⟩)), (11, Value.agg #[Value.bool true, Value.slice p14 L.length cap15]), (10, Value.slice p14 L.length cap15), (9, Value.slice p1 L.length cap2), (8, Value.pointer (some ⟨b, 1, none⟩)), (7, Value.pointer (some ⟨b, 0, none⟩)), (6, Value.pointer (some ⟨b, 0, none⟩)), (0, Value.pointer (some ⟨b, 0, none⟩)), (2, Value.pointer none), (5, Value.bool false)] : Fr) ++ lr13) (pts' := []) (eqs := []) (by kernel_rfl) trivial (AllC_nil _) ?_
  refine PO.mk ?_
  change WP _ _ (CA Tryd.f28 [1, 1, 1]) _ _ _
  refine fk_cut ([(0, Value.pointer (some ⟨b, 0, none⟩)), (2, Value.pointer (some ⟨r22, 0, none⟩)), (5, Value.bool false)] : Fr) (by kernel_rfl) (fun a => WP _ _ _ _ a _) (fun lr25 => ?_)
  refine gi_rt (by kernel_rfl) ?_
  repeat (first | simp only [Exit.inBlock] | simp only [Exit.then])
  have h26 : sat g w23 [Cl b [Value.bool true, Value.slice p1 L.length cap2] 52, Vw 3 1 p1 L.length cap2 (fl eI L), Cl r22 [Value.bool true, Value.slice p14 L.length cap15] 52, Sl 3 1 p14 L.length cap15 (fl eI L), R] := sat_sel [3, 2, 0, 1, 4] rfl h24
  have h27 : sat g w23 [Sr 52 b L, Cl r22 [Value.bool true, Value.slice p14 L.length cap15] 52, Sl 3 1 p14 L.length cap15 (fl eI L), R] := sr_close (p := p1) (c := cap2) (by omega) h26
  have h28 : sat g w23 [Sl 3 1 p14 L.length cap15 (fl eI L), Sr 52 b L, Cl r22 [Value.bool true, Value.slice p14 L.length cap15] 52, R] := sat_sel [2, 0, 1, 3] rfl h27
  have h29 : sat g w23 [Vw 3 1 p14 L.length cap15 (fl eI L), Sr 52 b L, Cl r22 [Value.bool true, Value.slice p14 L.length cap15] 52, R] := vw_sl h28
  have h30 : sat g w23 [Cl r22 [Value.bool true, Value.slice p14 L.length cap15] 52, Vw 3 1 p14 L.length cap15 (fl eI L), Sr 52 b L, R] := sat_sel [2, 0, 1, 3] rfl h29
  have h31 : sat g w23 [Sr 52 r22 L, Sr 52 b L, R] := sr_close (p := p14) (c := cap15) (by omega) h30
  refine hi_out [] (Value.pointer (some ⟨r22, 0, none⟩)) [] (by kernel_rfl) (by intro q hq; cases hq) ?_
  exact ⟨Value.pointer (some ⟨r22, 0, none⟩), [Sr 52 r22 L, Sr 52 b L], rfl, ⟨r22, rfl, rfl⟩, h31⟩

set_option maxHeartbeats 4000000 in
theorem add_nil (l : List UInt8) : HT Tryd.prog 18 [Value.pointer none, Value.string (St l)] [] (fun v K => v = Value.int .i64 1 ∧ K = []) := by
  refine hi_in 39 ([(0, Value.pointer none), (1, Value.string (St l))] : Fr) Tryd.func18 (by kernel_rfl) Tryd.ntmps18 rfl rfl ?_
  intro g w0 R h0
  refine gi_seq (x := CA Tryd.f18 [0]) (y := CA Tryd.f18 [1]) (by kernel_rfl) ?_
  refine gi_pln (id := 0) (ops := RA Tryd.f18 [0]) [0] (by kernel_rfl) (by kernel_rfl) (by kernel_rfl) ?_
  refine plain_batch (rest := []) [⟨0, [], none⟩] (l' := ([(4, Value.int IntKind.i64 0), (0, Value.pointer none), (1, Value.string (St l))] : Fr)) (pts' := []) (eqs := []) (by kernel_rfl) trivial (AllC_nil _) ?_
  refine PO.mk ?_
  change WP _ _ (CA Tryd.f18 [1]) _ _ _
  refine fk_cut ([(0, Value.pointer none), (1, Value.string (St l)), (4, Value.int IntKind.i64 0)] : Fr) (by kernel_rfl) (fun a => WP _ _ _ _ a _) (fun lr1 => ?_)
  refine gi_seq (x := CA Tryd.f18 [1, 0]) (y := CA Tryd.f18 [1, 1]) (by kernel_rfl) ?_
  refine gi_seq (x := CA Tryd.f18 [1, 0, 0]) (y := CA Tryd.f18 [1, 0, 1]) (by kernel_rfl) ?_
  refine gi_pln (id := 1) (ops := RA Tryd.f18 [1, 0, 0]) [0, 1, 2] (by kernel_rfl) (by kernel_rfl) (by kernel_rfl) ?_
  refine plain_batch (rest := [1, 2]) [⟨0, [], none⟩] (l' := ([(7, Value.pointer none), (0, Value.pointer none), (1, Value.string (St l)), (4, Value.int IntKind.i64 0)] : Fr) ++ lr1) (pts' := []) (eqs := []) (by kernel_rfl) trivial (AllC_nil _) ?_
  refine plain_act (i := 1) (by kernel_rfl) ?_
  refine an_call (d := some 8) (f := 34) (args := [Value.pointer none]) (by kernel_rfl) Tryd.call34 (valid_nil) (F := [R]) h0 ?_
  rintro v K w2 (⟨rfl, rfl⟩) h3
  refine ⟨_, rfl, ?_⟩
  have h4 : sat g w2 [R] := h3
  refine plain_batch (rest := []) [⟨2, [], none⟩] (l' := ([(9, Value.bool true), (8, Value.bool false), (7, Value.pointer none), (0, Value.pointer none), (1, Value.string (St l)), (4, Value.int IntKind.i64 0)] : Fr) ++ lr1) (pts' := []) (eqs := []) (by kernel_rfl) trivial (AllC_nil _) ?_
  refine PO.mk ?_
  change WP _ _ (CA Tryd.f18 [1, 0, 1]) _ _ _
  refine fk_cut ([(0, Value.pointer none), (1, Value.string (St l)), (4, Value.int IntKind.i64 0), (9, Value.bool true)] : Fr) (by kernel_rfl) (fun a => WP _ _ _ _ a _) (fun lr5 => ?_)
  refine gi_cnd (x := (Operand.tmp 9)) (s := CA Tryd.f18 [1, 0, 1, 0]) (t := CA Tryd.f18 [1, 0, 1, 1]) true (by kernel_rfl) (by kernel_rfl) ?_
  change WP _ _ (CA Tryd.f18 [1, 0, 1, 0]) _ _ _
  refine gi_seq (x := CA Tryd.f18 [1, 0, 1, 0, 0]) (y := CA Tryd.f18 [1, 0, 1, 0, 1]) (by kernel_rfl) ?_
  refine gi_pln (id := 2) (ops := RA Tryd.f18 [1, 0, 1, 0, 0]) [0] (by kernel_rfl) (by kernel_rfl) (by kernel_rfl) ?_
  refine plain_batch (rest := []) [⟨0, [], none⟩] (l' := ([(4, Value.int IntKind.i64 1), (0, Value.pointer none), (1, Value.string (St l)), (4, Value.int IntKind.i64 0), (9, Value.bool true)] : Fr) ++ lr5) (pts' := []) (eqs := []) (by kernel_rfl) trivial (AllC_nil _) ?_
  refine PO.mk ?_
  change WP _ _ (CA Tryd.f18 [1, 0, 1, 0, 1]) _ _ _
  refine fk_cut ([(0, Value.pointer none), (1, Value.string (St l)), (4, Value.int IntKind.i64 1), (9, Value.bool true)] : Fr) (by kernel_rfl) (fun a => WP _ _ _ _ a _) (fun lr6 => ?_)
  refine gi_rt (by kernel_rfl) ?_
  repeat (first | simp only [Exit.inBlock] | simp only [Exit.then])
  refine hi_out [] (Value.int IntKind.i64 1) [] (by kernel_rfl) (by intro q hq; cases hq) ?_
  exact ⟨Value.int IntKind.i64 1, [], rfl, ⟨rfl, rfl⟩, h4⟩

set_option maxHeartbeats 4000000 in
theorem add_un (b : Nat) (l : List UInt8) : HT Tryd.prog 18 [Value.pointer (some ⟨b, 0, none⟩), Value.string (St l)] [Cl b [Value.bool false, Value.slice none 0 0] 52] (fun v K => v = Value.int .i64 1 ∧ K = [Cl b [Value.bool false, Value.slice none 0 0] 52]) := by
  refine hi_in 39 ([(0, Value.pointer (some ⟨b, 0, none⟩)), (1, Value.string (St l))] : Fr) Tryd.func18 (by kernel_rfl) Tryd.ntmps18 rfl rfl ?_
  intro g w0 R h0
  refine gi_seq (x := CA Tryd.f18 [0]) (y := CA Tryd.f18 [1]) (by kernel_rfl) ?_
  refine gi_pln (id := 0) (ops := RA Tryd.f18 [0]) [0] (by kernel_rfl) (by kernel_rfl) (by kernel_rfl) ?_
  refine plain_batch (rest := []) [⟨0, [], none⟩] (l' := ([(4, Value.int IntKind.i64 0), (0, Value.pointer (some ⟨b, 0, none⟩)), (1, Value.string (St l))] : Fr)) (pts' := []) (eqs := []) (by kernel_rfl) trivial (AllC_nil _) ?_
  refine PO.mk ?_
  change WP _ _ (CA Tryd.f18 [1]) _ _ _
  refine fk_cut ([(0, Value.pointer (some ⟨b, 0, none⟩)), (1, Value.string (St l)), (4, Value.int IntKind.i64 0)] : Fr) (by kernel_rfl) (fun a => WP _ _ _ _ a _) (fun lr1 => ?_)
  refine gi_seq (x := CA Tryd.f18 [1, 0]) (y := CA Tryd.f18 [1, 1]) (by kernel_rfl) ?_
  refine gi_seq (x := CA Tryd.f18 [1, 0, 0]) (y := CA Tryd.f18 [1, 0, 1]) (by kernel_rfl) ?_
  refine gi_pln (id := 1) (ops := RA Tryd.f18 [1, 0, 0]) [0, 1, 2] (by kernel_rfl) (by kernel_rfl) (by kernel_rfl) ?_
  refine plain_batch (rest := [1, 2]) [⟨0, [], none⟩] (l' := ([(7, Value.pointer (some ⟨b, 0, none⟩)), (0, Value.pointer (some ⟨b, 0, none⟩)), (1, Value.string (St l)), (4, Value.int IntKind.i64 0)] : Fr) ++ lr1) (pts' := []) (eqs := []) (by kernel_rfl) trivial (AllC_nil _) ?_
  refine plain_act (i := 1) (by kernel_rfl) ?_
  refine an_call (d := some 8) (f := 34) (args := [Value.pointer (some ⟨b, 0, none⟩)]) (by kernel_rfl) Tryd.call34 (valid_un b _) (F := [R]) h0 ?_
  rintro v K w2 (⟨rfl, rfl⟩) h3
  refine ⟨_, rfl, ?_⟩
  have h4 : sat g w2 [Cl b [Value.bool false, Value.slice none 0 0] 52, R] := h3
  refine plain_batch (rest := []) [⟨2, [], none⟩] (l' := ([(9, Value.bool true), (8, Value.bool false), (7, Value.pointer (some ⟨b, 0, none⟩)), (0, Value.pointer (some ⟨b, 0, none⟩)), (1, Value.string (St l)), (4, Value.int IntKind.i64 0)] : Fr) ++ lr1) (pts' := []) (eqs := []) (by kernel_rfl) trivial (AllC_nil _) ?_
  refine PO.mk ?_
  change WP _ _ (CA Tryd.f18 [1, 0, 1]) _ _ _
  refine fk_cut ([(0, Value.pointer (some ⟨b, 0, none⟩)), (1, Value.string (St l)), (4, Value.int IntKind.i64 0), (9, Value.bool true)] : Fr) (by kernel_rfl) (fun a => WP _ _ _ _ a _) (fun lr5 => ?_)
  refine gi_cnd (x := (Operand.tmp 9)) (s := CA Tryd.f18 [1, 0, 1, 0]) (t := CA Tryd.f18 [1, 0, 1, 1]) true (by kernel_rfl) (by kernel_rfl) ?_
  change WP _ _ (CA Tryd.f18 [1, 0, 1, 0]) _ _ _
  refine gi_seq (x := CA Tryd.f18 [1, 0, 1, 0, 0]) (y := CA Tryd.f18 [1, 0, 1, 0, 1]) (by kernel_rfl) ?_
  refine gi_pln (id := 2) (ops := RA Tryd.f18 [1, 0, 1, 0, 0]) [0] (by kernel_rfl) (by kernel_rfl) (by kernel_rfl) ?_
  refine plain_batch (rest := []) [⟨0, [], none⟩] (l' := ([(4, Value.int IntKind.i64 1), (0, Value.pointer (some ⟨b, 0, none⟩)), (1, Value.string (St l)), (4, Value.int IntKind.i64 0), (9, Value.bool true)] : Fr) ++ lr5) (pts' := []) (eqs := []) (by kernel_rfl) trivial (AllC_nil _) ?_
  refine PO.mk ?_
  change WP _ _ (CA Tryd.f18 [1, 0, 1, 0, 1]) _ _ _
  refine fk_cut ([(0, Value.pointer (some ⟨b, 0, none⟩)), (1, Value.string (St l)), (4, Value.int IntKind.i64 1), (9, Value.bool true)] : Fr) (by kernel_rfl) (fun a => WP _ _ _ _ a _) (fun lr6 => ?_)
  refine gi_rt (by kernel_rfl) ?_
  repeat (first | simp only [Exit.inBlock] | simp only [Exit.then])
  refine hi_out [] (Value.int IntKind.i64 1) [] (by kernel_rfl) (by intro q hq; cases hq) ?_
  exact ⟨Value.int IntKind.i64 1, [Cl b [Value.bool false, Value.slice none 0 0] 52], rfl, ⟨rfl, rfl⟩, h4⟩

set_option maxHeartbeats 4000000 in
theorem next_nil  : HT Tryd.prog 22 [Value.pointer none] [] (fun v K => v = Value.int .i64 0 ∧ K = []) := by
  refine hi_in 30 ([(0, Value.pointer none)] : Fr) Tryd.func22 (by kernel_rfl) Tryd.ntmps22 rfl rfl ?_
  intro g w0 R h0
  refine gi_seq (x := CA Tryd.f22 [0]) (y := CA Tryd.f22 [1]) (by kernel_rfl) ?_
  refine gi_pln (id := 0) (ops := RA Tryd.f22 [0]) [0] (by kernel_rfl) (by kernel_rfl) (by kernel_rfl) ?_
  refine plain_batch (rest := []) [⟨0, [], none⟩] (l' := ([(2, Value.int IntKind.i64 0), (0, Value.pointer none)] : Fr)) (pts' := []) (eqs := []) (by kernel_rfl) trivial (AllC_nil _) ?_
  refine PO.mk ?_
  change WP _ _ (CA Tryd.f22 [1]) _ _ _
  refine fk_cut ([(0, Value.pointer none), (2, Value.int IntKind.i64 0)] : Fr) (by kernel_rfl) (fun a => WP _ _ _ _ a _) (fun lr1 => ?_)
  refine gi_seq (x := CA Tryd.f22 [1, 0]) (y := CA Tryd.f22 [1, 1]) (by kernel_rfl) ?_
  refine gi_blk (id := 0) (x := CA Tryd.f22 [1, 0, 0]) (by kernel_rfl) ?_
  refine gi_seq (x := CA Tryd.f22 [1, 0, 0, 0]) (y := CA Tryd.f22 [1, 0, 0, 1]) (by kernel_rfl) ?_
  refine gi_pln (id := 1) (ops := RA Tryd.f22 [1, 0, 0, 0]) [0, 1, 2, 3] (by kernel_rfl) (by kernel_rfl) (by kernel_rfl) ?_
  refine plain_batch (rest := [1, 2, 3]) [⟨0, [], none⟩] (l' := ([(5, Value.pointer none), (0, Value.pointer none), (2, Value.int IntKind.i64 0)] : Fr) ++ lr1) (pts' := []) (eqs := []) (by kernel_rfl) trivial (AllC_nil _) ?_
  refine plain_act (i := 1) (by kernel_rfl) ?_
  refine an_call (d := some 6) (f := 34) (args := [Value.pointer none]) (by kernel_rfl) Tryd.call34 (valid_nil) (F := [R]) h0 ?_
  rintro v K w2 (⟨rfl, rfl⟩) h3
  refine ⟨_, rfl, ?_⟩
  have h4 : sat g w2 [R] := h3
  refine plain_batch (rest := []) [⟨2, [], none⟩, ⟨3, [], none⟩] (l' := ([(4, Value.bool true), (7, Value.bool true), (6, Value.bool false), (5, Value.pointer none), (0, Value.pointer none), (2, Value.int IntKind.i64 0)] : Fr) ++ lr1) (pts' := []) (eqs := []) (by kernel_rfl) trivial (AllC_nil _) ?_
  refine PO.mk ?_
  change WP _ _ (CA Tryd.f22 [1, 0, 0, 1]) _ _ _
  refine fk_cut ([(0, Value.pointer none), (2, Value.int IntKind.i64 0), (4, Value.bool true)] : Fr) (by kernel_rfl) (fun a => WP _ _ _ _ a _) (fun lr5 => ?_)
  refine gi_cnd (x := (Operand.tmp 4)) (s := CA Tryd.f22 [1, 0, 0, 1, 0]) (t := CA Tryd.f22 [1, 0, 0, 1, 1]) true (by kernel_rfl) (by kernel_rfl) ?_
  change WP _ _ (CA Tryd.f22 [1, 0, 0, 1, 0]) _ _ _
  refine gi_seq (x := CA Tryd.f22 [1, 0, 0, 1, 0, 0]) (y := CA Tryd.f22 [1, 0, 0, 1, 0, 1]) (by kernel_rfl) ?_
  refine gi_pln (id := 2) (ops := RA Tryd.f22 [1, 0, 0, 1, 0, 0]) [0] (by kernel_rfl) (by kernel_rfl) (by kernel_rfl) ?_
  refine plain_batch (rest := []) [⟨0, [], none⟩] (l' := ([(2, Value.int IntKind.i64 0), (0, Value.pointer none), (2, Value.int IntKind.i64 0), (4, Value.bool true)] : Fr) ++ lr5) (pts' := []) (eqs := []) (by kernel_rfl) trivial (AllC_nil _) ?_
  refine PO.mk ?_
  change WP _ _ (CA Tryd.f22 [1, 0, 0, 1, 0, 1]) _ _ _
  refine fk_cut ([(0, Value.pointer none), (2, Value.int IntKind.i64 0), (4, Value.bool true)] : Fr) (by kernel_rfl) (fun a => WP _ _ _ _ a _) (fun lr6 => ?_)
  refine gi_rt (by kernel_rfl) ?_
  repeat (first | simp only [Exit.inBlock] | simp only [Exit.then])
  refine hi_out [] (Value.int IntKind.i64 0) [] (by kernel_rfl) (by intro q hq; cases hq) ?_
  exact ⟨Value.int IntKind.i64 0, [], rfl, ⟨rfl, rfl⟩, h4⟩

set_option maxHeartbeats 4000000 in
theorem next_un (b : Nat) : HT Tryd.prog 22 [Value.pointer (some ⟨b, 0, none⟩)] [Cl b [Value.bool false, Value.slice none 0 0] 52] (fun v K => v = Value.int .i64 0 ∧ K = [Cl b [Value.bool false, Value.slice none 0 0] 52]) := by
  refine hi_in 30 ([(0, Value.pointer (some ⟨b, 0, none⟩))] : Fr) Tryd.func22 (by kernel_rfl) Tryd.ntmps22 rfl rfl ?_
  intro g w0 R h0
  refine gi_seq (x := CA Tryd.f22 [0]) (y := CA Tryd.f22 [1]) (by kernel_rfl) ?_
  refine gi_pln (id := 0) (ops := RA Tryd.f22 [0]) [0] (by kernel_rfl) (by kernel_rfl) (by kernel_rfl) ?_
  refine plain_batch (rest := []) [⟨0, [], none⟩] (l' := ([(2, Value.int IntKind.i64 0), (0, Value.pointer (some ⟨b, 0, none⟩))] : Fr)) (pts' := []) (eqs := []) (by kernel_rfl) trivial (AllC_nil _) ?_
  refine PO.mk ?_
  change WP _ _ (CA Tryd.f22 [1]) _ _ _
  refine fk_cut ([(0, Value.pointer (some ⟨b, 0, none⟩)), (2, Value.int IntKind.i64 0)] : Fr) (by kernel_rfl) (fun a => WP _ _ _ _ a _) (fun lr1 => ?_)
  refine gi_seq (x := CA Tryd.f22 [1, 0]) (y := CA Tryd.f22 [1, 1]) (by kernel_rfl) ?_
  refine gi_blk (id := 0) (x := CA Tryd.f22 [1, 0, 0]) (by kernel_rfl) ?_
  refine gi_seq (x := CA Tryd.f22 [1, 0, 0, 0]) (y := CA Tryd.f22 [1, 0, 0, 1]) (by kernel_rfl) ?_
  refine gi_pln (id := 1) (ops := RA Tryd.f22 [1, 0, 0, 0]) [0, 1, 2, 3] (by kernel_rfl) (by kernel_rfl) (by kernel_rfl) ?_
  refine plain_batch (rest := [1, 2, 3]) [⟨0, [], none⟩] (l' := ([(5, Value.pointer (some ⟨b, 0, none⟩)), (0, Value.pointer (some ⟨b, 0, none⟩)), (2, Value.int IntKind.i64 0)] : Fr) ++ lr1) (pts' := []) (eqs := []) (by kernel_rfl) trivial (AllC_nil _) ?_
  refine plain_act (i := 1) (by kernel_rfl) ?_
  refine an_call (d := some 6) (f := 34) (args := [Value.pointer (some ⟨b, 0, none⟩)]) (by kernel_rfl) Tryd.call34 (valid_un b _) (F := [R]) h0 ?_
  rintro v K w2 (⟨rfl, rfl⟩) h3
  refine ⟨_, rfl, ?_⟩
  have h4 : sat g w2 [Cl b [Value.bool false, Value.slice none 0 0] 52, R] := h3
  refine plain_batch (rest := []) [⟨2, [], none⟩, ⟨3, [], none⟩] (l' := ([(4, Value.bool true), (7, Value.bool true), (6, Value.bool false), (5, Value.pointer (some ⟨b, 0, none⟩)), (0, Value.pointer (some ⟨b, 0, none⟩)), (2, Value.int IntKind.i64 0)] : Fr) ++ lr1) (pts' := []) (eqs := []) (by kernel_rfl) trivial (AllC_nil _) ?_
  refine PO.mk ?_
  change WP _ _ (CA Tryd.f22 [1, 0, 0, 1]) _ _ _
  refine fk_cut ([(0, Value.pointer (some ⟨b, 0, none⟩)), (2, Value.int IntKind.i64 0), (4, Value.bool true)] : Fr) (by kernel_rfl) (fun a => WP _ _ _ _ a _) (fun lr5 => ?_)
  refine gi_cnd (x := (Operand.tmp 4)) (s := CA Tryd.f22 [1, 0, 0, 1, 0]) (t := CA Tryd.f22 [1, 0, 0, 1, 1]) true (by kernel_rfl) (by kernel_rfl) ?_
  change WP _ _ (CA Tryd.f22 [1, 0, 0, 1, 0]) _ _ _
  refine gi_seq (x := CA Tryd.f22 [1, 0, 0, 1, 0, 0]) (y := CA Tryd.f22 [1, 0, 0, 1, 0, 1]) (by kernel_rfl) ?_
  refine gi_pln (id := 2) (ops := RA Tryd.f22 [1, 0, 0, 1, 0, 0]) [0] (by kernel_rfl) (by kernel_rfl) (by kernel_rfl) ?_
  refine plain_batch (rest := []) [⟨0, [], none⟩] (l' := ([(2, Value.int IntKind.i64 0), (0, Value.pointer (some ⟨b, 0, none⟩)), (2, Value.int IntKind.i64 0), (4, Value.bool true)] : Fr) ++ lr5) (pts' := []) (eqs := []) (by kernel_rfl) trivial (AllC_nil _) ?_
  refine PO.mk ?_
  change WP _ _ (CA Tryd.f22 [1, 0, 0, 1, 0, 1]) _ _ _
  refine fk_cut ([(0, Value.pointer (some ⟨b, 0, none⟩)), (2, Value.int IntKind.i64 0), (4, Value.bool true)] : Fr) (by kernel_rfl) (fun a => WP _ _ _ _ a _) (fun lr6 => ?_)
  refine gi_rt (by kernel_rfl) ?_
  repeat (first | simp only [Exit.inBlock] | simp only [Exit.then])
  refine hi_out [] (Value.int IntKind.i64 0) [] (by kernel_rfl) (by intro q hq; cases hq) ?_
  exact ⟨Value.int IntKind.i64 0, [Cl b [Value.bool false, Value.slice none 0 0] 52], rfl, ⟨rfl, rfl⟩, h4⟩

set_option maxHeartbeats 4000000 in
theorem left_nil  : HT Tryd.prog 21 [Value.pointer none] [] (fun v K => v = Value.int .i64 0 ∧ K = []) := by
  refine hi_in 11 ([(0, Value.pointer none)] : Fr) Tryd.func21 (by kernel_rfl) Tryd.ntmps21 rfl rfl ?_
  intro g w0 R h0
  refine gi_seq (x := CA Tryd.f21 [0]) (y := CA Tryd.f21 [1]) (by kernel_rfl) ?_
  refine gi_pln (id := 0) (ops := RA Tryd.f21 [0]) [0] (by kernel_rfl) (by kernel_rfl) (by kernel_rfl) ?_
  refine plain_batch (rest := []) [⟨0, [], none⟩] (l' := ([(2, Value.int IntKind.i64 0), (0, Value.pointer none)] : Fr)) (pts' := []) (eqs := []) (by kernel_rfl) trivial (AllC_nil _) ?_
  refine PO.mk ?_
  change WP _ _ (CA Tryd.f21 [1]) _ _ _
  refine fk_cut ([(0, Value.pointer none), (2, Value.int IntKind.i64 0)] : Fr) (by kernel_rfl) (fun a => WP _ _ _ _ a _) (fun lr1 => ?_)
  refine gi_seq (x := CA Tryd.f21 [1, 0]) (y := CA Tryd.f21 [1, 1]) (by kernel_rfl) ?_
  refine gi_seq (x := CA Tryd.f21 [1, 0, 0]) (y := CA Tryd.f21 [1, 0, 1]) (by kernel_rfl) ?_
  refine gi_pln (id := 1) (ops := RA Tryd.f21 [1, 0, 0]) [0, 1, 2] (by kernel_rfl) (by kernel_rfl) (by kernel_rfl) ?_
  refine plain_batch (rest := [1, 2]) [⟨0, [], none⟩] (l' := ([(3, Value.pointer none), (0, Value.pointer none), (2, Value.int IntKind.i64 0)] : Fr) ++ lr1) (pts' := []) (eqs := []) (by kernel_rfl) trivial (AllC_nil _) ?_
  refine plain_act (i := 1) (by kernel_rfl) ?_
  refine an_call (d := some 4) (f := 34) (args := [Value.pointer none]) (by kernel_rfl) Tryd.call34 (valid_nil) (F := [R]) h0 ?_
  rintro v K w2 (⟨rfl, rfl⟩) h3
  refine ⟨_, rfl, ?_⟩
  have h4 : sat g w2 [R] := h3
  refine plain_batch (rest := []) [⟨2, [], none⟩] (l' := ([(5, Value.bool true), (4, Value.bool false), (3, Value.pointer none), (0, Value.pointer none), (2, Value.int IntKind.i64 0)] : Fr) ++ lr1) (pts' := []) (eqs := []) (by kernel_rfl) trivial (AllC_nil _) ?_
  refine PO.mk ?_
  change WP _ _ (CA Tryd.f21 [1, 0, 1]) _ _ _
  refine fk_cut ([(0, Value.pointer none), (2, Value.int IntKind.i64 0), (5, Value.bool true)] : Fr) (by kernel_rfl) (fun a => WP _ _ _ _ a _) (fun lr5 => ?_)
  refine gi_cnd (x := (Operand.tmp 5)) (s := CA Tryd.f21 [1, 0, 1, 0]) (t := CA Tryd.f21 [1, 0, 1, 1]) true (by kernel_rfl) (by kernel_rfl) ?_
  change WP _ _ (CA Tryd.f21 [1, 0, 1, 0]) _ _ _
  refine gi_seq (x := CA Tryd.f21 [1, 0, 1, 0, 0]) (y := CA Tryd.f21 [1, 0, 1, 0, 1]) (by kernel_rfl) ?_
  refine gi_pln (id := 2) (ops := RA Tryd.f21 [1, 0, 1, 0, 0]) [0] (by kernel_rfl) (by kernel_rfl) (by kernel_rfl) ?_
  refine plain_batch (rest := []) [⟨0, [], none⟩] (l' := ([(2, Value.int IntKind.i64 0), (0, Value.pointer none), (2, Value.int IntKind.i64 0), (5, Value.bool true)] : Fr) ++ lr5) (pts' := []) (eqs := []) (by kernel_rfl) trivial (AllC_nil _) ?_
  refine PO.mk ?_
  change WP _ _ (CA Tryd.f21 [1, 0, 1, 0, 1]) _ _ _
  refine fk_cut ([(0, Value.pointer none), (2, Value.int IntKind.i64 0), (5, Value.bool true)] : Fr) (by kernel_rfl) (fun a => WP _ _ _ _ a _) (fun lr6 => ?_)
  refine gi_rt (by kernel_rfl) ?_
  repeat (first | simp only [Exit.inBlock] | simp only [Exit.then])
  refine hi_out [] (Value.int IntKind.i64 0) [] (by kernel_rfl) (by intro q hq; cases hq) ?_
  exact ⟨Value.int IntKind.i64 0, [], rfl, ⟨rfl, rfl⟩, h4⟩

set_option maxHeartbeats 4000000 in
theorem left_un (b : Nat) : HT Tryd.prog 21 [Value.pointer (some ⟨b, 0, none⟩)] [Cl b [Value.bool false, Value.slice none 0 0] 52] (fun v K => v = Value.int .i64 0 ∧ K = [Cl b [Value.bool false, Value.slice none 0 0] 52]) := by
  refine hi_in 11 ([(0, Value.pointer (some ⟨b, 0, none⟩))] : Fr) Tryd.func21 (by kernel_rfl) Tryd.ntmps21 rfl rfl ?_
  intro g w0 R h0
  refine gi_seq (x := CA Tryd.f21 [0]) (y := CA Tryd.f21 [1]) (by kernel_rfl) ?_
  refine gi_pln (id := 0) (ops := RA Tryd.f21 [0]) [0] (by kernel_rfl) (by kernel_rfl) (by kernel_rfl) ?_
  refine plain_batch (rest := []) [⟨0, [], none⟩] (l' := ([(2, Value.int IntKind.i64 0), (0, Value.pointer (some ⟨b, 0, none⟩))] : Fr)) (pts' := []) (eqs := []) (by kernel_rfl) trivial (AllC_nil _) ?_
  refine PO.mk ?_
  change WP _ _ (CA Tryd.f21 [1]) _ _ _
  refine fk_cut ([(0, Value.pointer (some ⟨b, 0, none⟩)), (2, Value.int IntKind.i64 0)] : Fr) (by kernel_rfl) (fun a => WP _ _ _ _ a _) (fun lr1 => ?_)
  refine gi_seq (x := CA Tryd.f21 [1, 0]) (y := CA Tryd.f21 [1, 1]) (by kernel_rfl) ?_
  refine gi_seq (x := CA Tryd.f21 [1, 0, 0]) (y := CA Tryd.f21 [1, 0, 1]) (by kernel_rfl) ?_
  refine gi_pln (id := 1) (ops := RA Tryd.f21 [1, 0, 0]) [0, 1, 2] (by kernel_rfl) (by kernel_rfl) (by kernel_rfl) ?_
  refine plain_batch (rest := [1, 2]) [⟨0, [], none⟩] (l' := ([(3, Value.pointer (some ⟨b, 0, none⟩)), (0, Value.pointer (some ⟨b, 0, none⟩)), (2, Value.int IntKind.i64 0)] : Fr) ++ lr1) (pts' := []) (eqs := []) (by kernel_rfl) trivial (AllC_nil _) ?_
  refine plain_act (i := 1) (by kernel_rfl) ?_
  refine an_call (d := some 4) (f := 34) (args := [Value.pointer (some ⟨b, 0, none⟩)]) (by kernel_rfl) Tryd.call34 (valid_un b _) (F := [R]) h0 ?_
  rintro v K w2 (⟨rfl, rfl⟩) h3
  refine ⟨_, rfl, ?_⟩
  have h4 : sat g w2 [Cl b [Value.bool false, Value.slice none 0 0] 52, R] := h3
  refine plain_batch (rest := []) [⟨2, [], none⟩] (l' := ([(5, Value.bool true), (4, Value.bool false), (3, Value.pointer (some ⟨b, 0, none⟩)), (0, Value.pointer (some ⟨b, 0, none⟩)), (2, Value.int IntKind.i64 0)] : Fr) ++ lr1) (pts' := []) (eqs := []) (by kernel_rfl) trivial (AllC_nil _) ?_
  refine PO.mk ?_
  change WP _ _ (CA Tryd.f21 [1, 0, 1]) _ _ _
  refine fk_cut ([(0, Value.pointer (some ⟨b, 0, none⟩)), (2, Value.int IntKind.i64 0), (5, Value.bool true)] : Fr) (by kernel_rfl) (fun a => WP _ _ _ _ a _) (fun lr5 => ?_)
  refine gi_cnd (x := (Operand.tmp 5)) (s := CA Tryd.f21 [1, 0, 1, 0]) (t := CA Tryd.f21 [1, 0, 1, 1]) true (by kernel_rfl) (by kernel_rfl) ?_
  change WP _ _ (CA Tryd.f21 [1, 0, 1, 0]) _ _ _
  refine gi_seq (x := CA Tryd.f21 [1, 0, 1, 0, 0]) (y := CA Tryd.f21 [1, 0, 1, 0, 1]) (by kernel_rfl) ?_
  refine gi_pln (id := 2) (ops := RA Tryd.f21 [1, 0, 1, 0, 0]) [0] (by kernel_rfl) (by kernel_rfl) (by kernel_rfl) ?_
  refine plain_batch (rest := []) [⟨0, [], none⟩] (l' := ([(2, Value.int IntKind.i64 0), (0, Value.pointer (some ⟨b, 0, none⟩)), (2, Value.int IntKind.i64 0), (5, Value.bool true)] : Fr) ++ lr5) (pts' := []) (eqs := []) (by kernel_rfl) trivial (AllC_nil _) ?_
  refine PO.mk ?_
  change WP _ _ (CA Tryd.f21 [1, 0, 1, 0, 1]) _ _ _
  refine fk_cut ([(0, Value.pointer (some ⟨b, 0, none⟩)), (2, Value.int IntKind.i64 0), (5, Value.bool true)] : Fr) (by kernel_rfl) (fun a => WP _ _ _ _ a _) (fun lr6 => ?_)
  refine gi_rt (by kernel_rfl) ?_
  repeat (first | simp only [Exit.inBlock] | simp only [Exit.then])
  refine hi_out [] (Value.int IntKind.i64 0) [] (by kernel_rfl) (by intro q hq; cases hq) ?_
  exact ⟨Value.int IntKind.i64 0, [Cl b [Value.bool false, Value.slice none 0 0] 52], rfl, ⟨rfl, rfl⟩, h4⟩

set_option maxHeartbeats 4000000 in
theorem peek_nil (z : Int) : HT Tryd.prog 20 [Value.pointer none, Value.int IntKind.i64 z] [] (fun v K => v = Value.slice none 0 0 ∧ K = []) := by
  refine hi_in 22 ([(0, Value.pointer none), (1, Value.int IntKind.i64 z)] : Fr) Tryd.func20 (by kernel_rfl) Tryd.ntmps20 rfl rfl ?_
  intro g w0 R h0
  refine gi_seq (x := CA Tryd.f20 [0]) (y := CA Tryd.f20 [1]) (by kernel_rfl) ?_
  refine gi_pln (id := 0) (ops := RA Tryd.f20 [0]) [0] (by kernel_rfl) (by kernel_rfl) (by kernel_rfl) ?_
  refine plain_batch (rest := []) [⟨0, [], none⟩] (l' := ([(4, Value.slice none 0 0), (0, Value.pointer none), (1, Value.int IntKind.i64 z)] : Fr)) (pts' := []) (eqs := []) (by kernel_rfl) trivial (AllC_nil _) ?_
  refine PO.mk ?_
  change WP _ _ (CA Tryd.f20 [1]) _ _ _
  refine fk_cut ([(0, Value.pointer none), (1, Value.int IntKind.i64 z), (4, Value.slice none 0 0)] : Fr) (by kernel_rfl) (fun a => WP _ _ _ _ a _) (fun lr1 => ?_)
  refine gi_seq (x := CA Tryd.f20 [1, 0]) (y := CA Tryd.f20 [1, 1]) (by kernel_rfl) ?_
  refine gi_seq (x := CA Tryd.f20 [1, 0, 0]) (y := CA Tryd.f20 [1, 0, 1]) (by kernel_rfl) ?_
  refine gi_pln (id := 1) (ops := RA Tryd.f20 [1, 0, 0]) [0, 1, 2] (by kernel_rfl) (by kernel_rfl) (by kernel_rfl) ?_
  refine plain_batch (rest := [1, 2]) [⟨0, [], none⟩] (l' := ([(5, Value.pointer none), (0, Value.pointer none), (1, Value.int IntKind.i64 z), (4, Value.slice none 0 0)] : Fr) ++ lr1) (pts' := []) (eqs := []) (by kernel_rfl) trivial (AllC_nil _) ?_
  refine plain_act (i := 1) (by kernel_rfl) ?_
  refine an_call (d := some 6) (f := 34) (args := [Value.pointer none]) (by kernel_rfl) Tryd.call34 (valid_nil) (F := [R]) h0 ?_
  rintro v K w2 (⟨rfl, rfl⟩) h3
  refine ⟨_, rfl, ?_⟩
  have h4 : sat g w2 [R] := h3
  refine plain_batch (rest := []) [⟨2, [], none⟩] (l' := ([(7, Value.bool true), (6, Value.bool false), (5, Value.pointer none), (0, Value.pointer none), (1, Value.int IntKind.i64 z), (4, Value.slice none 0 0)] : Fr) ++ lr1) (pts' := []) (eqs := []) (by kernel_rfl) trivial (AllC_nil _) ?_
  refine PO.mk ?_
  change WP _ _ (CA Tryd.f20 [1, 0, 1]) _ _ _
  refine fk_cut ([(0, Value.pointer none), (1, Value.int IntKind.i64 z), (4, Value.slice none 0 0), (7, Value.bool true)] : Fr) (by kernel_rfl) (fun a => WP _ _ _ _ a _) (fun lr5 => ?_)
  refine gi_cnd (x := (Operand.tmp 7)) (s := CA Tryd.f20 [1, 0, 1, 0]) (t := CA Tryd.f20 [1, 0, 1, 1]) true (by kernel_rfl) (by kernel_rfl) ?_
  change WP _ _ (CA Tryd.f20 [1, 0, 1, 0]) _ _ _
  refine gi_seq (x := CA Tryd.f20 [1, 0, 1, 0, 0]) (y := CA Tryd.f20 [1, 0, 1, 0, 1]) (by kernel_rfl) ?_
  refine gi_pln (id := 2) (ops := RA Tryd.f20 [1, 0, 1, 0, 0]) [0] (by kernel_rfl) (by kernel_rfl) (by kernel_rfl) ?_
  refine plain_batch (rest := []) [⟨0, [], none⟩] (l' := ([(4, Value.slice none 0 0), (0, Value.pointer none), (1, Value.int IntKind.i64 z), (4, Value.slice none 0 0), (7, Value.bool true)] : Fr) ++ lr5) (pts' := []) (eqs := []) (by kernel_rfl) trivial (AllC_nil _) ?_
  refine PO.mk ?_
  change WP _ _ (CA Tryd.f20 [1, 0, 1, 0, 1]) _ _ _
  refine fk_cut ([(0, Value.pointer none), (1, Value.int IntKind.i64 z), (4, Value.slice none 0 0), (7, Value.bool true)] : Fr) (by kernel_rfl) (fun a => WP _ _ _ _ a _) (fun lr6 => ?_)
  refine gi_rt (by kernel_rfl) ?_
  repeat (first | simp only [Exit.inBlock] | simp only [Exit.then])
  refine hi_out [] (Value.slice none 0 0) [] (by kernel_rfl) (by intro q hq; cases hq) ?_
  exact ⟨Value.slice none 0 0, [], rfl, ⟨rfl, rfl⟩, h4⟩

set_option maxHeartbeats 4000000 in
theorem peek_un (b : Nat) (z : Int) : HT Tryd.prog 20 [Value.pointer (some ⟨b, 0, none⟩), Value.int IntKind.i64 z] [Cl b [Value.bool false, Value.slice none 0 0] 52] (fun v K => v = Value.slice none 0 0 ∧ K = [Cl b [Value.bool false, Value.slice none 0 0] 52]) := by
  refine hi_in 22 ([(0, Value.pointer (some ⟨b, 0, none⟩)), (1, Value.int IntKind.i64 z)] : Fr) Tryd.func20 (by kernel_rfl) Tryd.ntmps20 rfl rfl ?_
  intro g w0 R h0
  refine gi_seq (x := CA Tryd.f20 [0]) (y := CA Tryd.f20 [1]) (by kernel_rfl) ?_
  refine gi_pln (id := 0) (ops := RA Tryd.f20 [0]) [0] (by kernel_rfl) (by kernel_rfl) (by kernel_rfl) ?_
  refine plain_batch (rest := []) [⟨0, [], none⟩] (l' := ([(4, Value.slice none 0 0), (0, Value.pointer (some ⟨b, 0, none⟩)), (1, Value.int IntKind.i64 z)] : Fr)) (pts' := []) (eqs := []) (by kernel_rfl) trivial (AllC_nil _) ?_
  refine PO.mk ?_
  change WP _ _ (CA Tryd.f20 [1]) _ _ _
  refine fk_cut ([(0, Value.pointer (some ⟨b, 0, none⟩)), (1, Value.int IntKind.i64 z), (4, Value.slice none 0 0)] : Fr) (by kernel_rfl) (fun a => WP _ _ _ _ a _) (fun lr1 => ?_)
  refine gi_seq (x := CA Tryd.f20 [1, 0]) (y := CA Tryd.f20 [1, 1]) (by kernel_rfl) ?_
  refine gi_seq (x := CA Tryd.f20 [1, 0, 0]) (y := CA Tryd.f20 [1, 0, 1]) (by kernel_rfl) ?_
  refine gi_pln (id := 1) (ops := RA Tryd.f20 [1, 0, 0]) [0, 1, 2] (by kernel_rfl) (by kernel_rfl) (by kernel_rfl) ?_
  refine plain_batch (rest := [1, 2]) [⟨0, [], none⟩] (l' := ([(5, Value.pointer (some ⟨b, 0, none⟩)), (0, Value.pointer (some ⟨b, 0, none⟩)), (1, Value.int IntKind.i64 z), (4, Value.slice none 0 0)] : Fr) ++ lr1) (pts' := []) (eqs := []) (by kernel_rfl) trivial (AllC_nil _) ?_
  refine plain_act (i := 1) (by kernel_rfl) ?_
  refine an_call (d := some 6) (f := 34) (args := [Value.pointer (some ⟨b, 0, none⟩)]) (by kernel_rfl) Tryd.call34 (valid_un b _) (F := [R]) h0 ?_
  rintro v K w2 (⟨rfl, rfl⟩) h3
  refine ⟨_, rfl, ?_⟩
  have h4 : sat g w2 [Cl b [Value.bool false, Value.slice none 0 0] 52, R] := h3
  refine plain_batch (rest := []) [⟨2, [], none⟩] (l' := ([(7, Value.bool true), (6, Value.bool false), (5, Value.pointer (some ⟨b, 0, none⟩)), (0, Value.pointer (some ⟨b, 0, none⟩)), (1, Value.int IntKind.i64 z), (4, Value.slice none 0 0)] : Fr) ++ lr1) (pts' := []) (eqs := []) (by kernel_rfl) trivial (AllC_nil _) ?_
  refine PO.mk ?_
  change WP _ _ (CA Tryd.f20 [1, 0, 1]) _ _ _
  refine fk_cut ([(0, Value.pointer (some ⟨b, 0, none⟩)), (1, Value.int IntKind.i64 z), (4, Value.slice none 0 0), (7, Value.bool true)] : Fr) (by kernel_rfl) (fun a => WP _ _ _ _ a _) (fun lr5 => ?_)
  refine gi_cnd (x := (Operand.tmp 7)) (s := CA Tryd.f20 [1, 0, 1, 0]) (t := CA Tryd.f20 [1, 0, 1, 1]) true (by kernel_rfl) (by kernel_rfl) ?_
  change WP _ _ (CA Tryd.f20 [1, 0, 1, 0]) _ _ _
  refine gi_seq (x := CA Tryd.f20 [1, 0, 1, 0, 0]) (y := CA Tryd.f20 [1, 0, 1, 0, 1]) (by kernel_rfl) ?_
  refine gi_pln (id := 2) (ops := RA Tryd.f20 [1, 0, 1, 0, 0]) [0] (by kernel_rfl) (by kernel_rfl) (by kernel_rfl) ?_
  refine plain_batch (rest := []) [⟨0, [], none⟩] (l' := ([(4, Value.slice none 0 0), (0, Value.pointer (some ⟨b, 0, none⟩)), (1, Value.int IntKind.i64 z), (4, Value.slice none 0 0), (7, Value.bool true)] : Fr) ++ lr5) (pts' := []) (eqs := []) (by kernel_rfl) trivial (AllC_nil _) ?_
  refine PO.mk ?_
  change WP _ _ (CA Tryd.f20 [1, 0, 1, 0, 1]) _ _ _
  refine fk_cut ([(0, Value.pointer (some ⟨b, 0, none⟩)), (1, Value.int IntKind.i64 z), (4, Value.slice none 0 0), (7, Value.bool true)] : Fr) (by kernel_rfl) (fun a => WP _ _ _ _ a _) (fun lr6 => ?_)
  refine gi_rt (by kernel_rfl) ?_
  repeat (first | simp only [Exit.inBlock] | simp only [Exit.then])
  refine hi_out [] (Value.slice none 0 0) [] (by kernel_rfl) (by intro q hq; cases hq) ?_
  exact ⟨Value.slice none 0 0, [Cl b [Value.bool false, Value.slice none 0 0] 52], rfl, ⟨rfl, rfl⟩, h4⟩

set_option maxHeartbeats 4000000 in
theorem copy_nil  : HT Tryd.prog 28 [Value.pointer none] [] (fun v K => v = Value.pointer none ∧ K = []) := by
  refine hi_in 13 ([(0, Value.pointer none)] : Fr) Tryd.func28 (by kernel_rfl) Tryd.ntmps28 rfl rfl ?_
  intro g w0 R h0
  refine gi_seq (x := CA Tryd.f28 [0]) (y := CA Tryd.f28 [1]) (by kernel_rfl) ?_
  refine gi_pln (id := 0) (ops := RA Tryd.f28 [0]) [0] (by kernel_rfl) (by kernel_rfl) (by kernel_rfl) ?_
  refine plain_batch (rest := []) [⟨0, [], none⟩] (l' := ([(2, Value.pointer none), (0, Value.pointer none)] : Fr)) (pts' := []) (eqs := []) (by kernel_rfl) trivial (AllC_nil _) ?_
  refine PO.mk ?_
  change WP _ _ (CA Tryd.f28 [1]) _ _ _
  refine fk_cut ([(0, Value.pointer none), (2, Value.pointer none)] : Fr) (by kernel_rfl) (fun a => WP _ _ _ _ a _) (fun lr1 => ?_)
  refine gi_seq (x := CA Tryd.f28 [1, 0]) (y := CA Tryd.f28 [1, 1]) (by kernel_rfl) ?_
  refine gi_seq (x := CA Tryd.f28 [1, 0, 0]) (y := CA Tryd.f28 [1, 0, 1]) (by kernel_rfl) ?_
  refine gi_pln (id := 1) (ops := RA Tryd.f28 [1, 0, 0]) [0, 1, 2] (by kernel_rfl) (by kernel_rfl) (by kernel_rfl) ?_
  refine plain_batch (rest := [1, 2]) [⟨0, [], none⟩] (l' := ([(3, Value.pointer none), (0, Value.pointer none), (2, Value.pointer none)] : Fr) ++ lr1) (pts' := []) (eqs := []) (by kernel_rfl) trivial (AllC_nil _) ?_
  refine plain_act (i := 1) (by kernel_rfl) ?_
  refine an_call (d := some 4) (f := 34) (args := [Value.pointer none]) (by kernel_rfl) Tryd.call34 (valid_nil) (F := [R]) h0 ?_
  rintro v K w2 (⟨rfl, rfl⟩) h3
  refine ⟨_, rfl, ?_⟩
  have h4 : sat g w2 [R] := h3
  refine plain_batch (rest := []) [⟨2, [], none⟩] (l' := ([(5, Value.bool true), (4, Value.bool false), (3, Value.pointer none), (0, Value.pointer none), (2, Value.pointer none)] : Fr) ++ lr1) (pts' := []) (eqs := []) (by kernel_rfl) trivial (AllC_nil _) ?_
  refine PO.mk ?_
  change WP _ _ (CA Tryd.f28 [1, 0, 1]) _ _ _
  refine fk_cut ([(0, Value.pointer none), (2, Value.pointer none), (5, Value.bool true)] : Fr) (by kernel_rfl) (fun a => WP _ _ _ _ a _) (fun lr5 => ?_)
  refine gi_cnd (x := (Operand.tmp 5)) (s := CA Tryd.f28 [1, 0, 1, 0]) (t := CA Tryd.f28 [1, 0, 1, 1]) true (by kernel_rfl) (by kernel_rfl) ?_
  change WP _ _ (CA Tryd.f28 [1, 0, 1, 0]) _ _ _
  refine gi_seq (x := CA Tryd.f28 [1, 0, 1, 0, 0]) (y := CA Tryd.f28 [1, 0, 1, 0, 1]) (by kernel_rfl) ?_
  refine gi_pln (id := 2) (ops := RA Tryd.f28 [1, 0, 1, 0, 0]) [0] (by kernel_rfl) (by kernel_rfl) (by kernel_rfl) ?_
  refine plain_batch (rest := []) [⟨0, [], none⟩] (l' := ([(2, Value.pointer none), (0, Value.pointer none), (2, Value.pointer none), (5, Value.bool true)] : Fr) ++ lr5) (pts' := []) (eqs := []) (by kernel_rfl) trivial (AllC_nil _) ?_
  refine PO.mk ?_
  change WP _ _ (CA Tryd.f28 [1, 0, 1, 0, 1]) _ _ _
  refine fk_cut ([(0, Value.pointer none), (2, Value.pointer none), (5, Value.bool true)] : Fr) (by kernel_rfl) (fun a => WP _ _ _ _ a _) (fun lr6 => ?_)
  refine gi_rt (by kernel_rfl) ?_
  repeat (first | simp only [Exit.inBlock] | simp only [Exit.then])
  refine hi_out [] (Value.pointer none) [] (by kernel_rfl) (by intro q hq; cases hq) ?_
  exact ⟨Value.pointer none, [], rfl, ⟨rfl, rfl⟩, h4⟩

set_option maxHeartbeats 4000000 in
theorem copy_un (b : Nat) : HT Tryd.prog 28 [Value.pointer (some ⟨b, 0, none⟩)] [Cl b [Value.bool false, Value.slice none 0 0] 52] (fun v K => v = Value.pointer none ∧ K = [Cl b [Value.bool false, Value.slice none 0 0] 52]) := by
  refine hi_in 13 ([(0, Value.pointer (some ⟨b, 0, none⟩))] : Fr) Tryd.func28 (by kernel_rfl) Tryd.ntmps28 rfl rfl ?_
  intro g w0 R h0
  refine gi_seq (x := CA Tryd.f28 [0]) (y := CA Tryd.f28 [1]) (by kernel_rfl) ?_
  refine gi_pln (id := 0) (ops := RA Tryd.f28 [0]) [0] (by kernel_rfl) (by kernel_rfl) (by kernel_rfl) ?_
  refine plain_batch (rest := []) [⟨0, [], none⟩] (l' := ([(2, Value.pointer none), (0, Value.pointer (some ⟨b, 0, none⟩))] : Fr)) (pts' := []) (eqs := []) (by kernel_rfl) trivial (AllC_nil _) ?_
  refine PO.mk ?_
  change WP _ _ (CA Tryd.f28 [1]) _ _ _
  refine fk_cut ([(0, Value.pointer (some ⟨b, 0, none⟩)), (2, Value.pointer none)] : Fr) (by kernel_rfl) (fun a => WP _ _ _ _ a _) (fun lr1 => ?_)
  refine gi_seq (x := CA Tryd.f28 [1, 0]) (y := CA Tryd.f28 [1, 1]) (by kernel_rfl) ?_
  refine gi_seq (x := CA Tryd.f28 [1, 0, 0]) (y := CA Tryd.f28 [1, 0, 1]) (by kernel_rfl) ?_
  refine gi_pln (id := 1) (ops := RA Tryd.f28 [1, 0, 0]) [0, 1, 2] (by kernel_rfl) (by kernel_rfl) (by kernel_rfl) ?_
  refine plain_batch (rest := [1, 2]) [⟨0, [], none⟩] (l' := ([(3, Value.pointer (some ⟨b, 0, none⟩)), (0, Value.pointer (some ⟨b, 0, none⟩)), (2, Value.pointer none)] : Fr) ++ lr1) (pts' := []) (eqs := []) (by kernel_rfl) trivial (AllC_nil _) ?_
  refine plain_act (i := 1) (by kernel_rfl) ?_
  refine an_call (d := some 4) (f := 34) (args := [Value.pointer (some ⟨b, 0, none⟩)]) (by kernel_rfl) Tryd.call34 (valid_un b _) (F := [R]) h0 ?_
  rintro v K w2 (⟨rfl, rfl⟩) h3
  refine ⟨_, rfl, ?_⟩
  have h4 : sat g w2 [Cl b [Value.bool false, Value.slice none 0 0] 52, R] := h3
  refine plain_batch (rest := []) [⟨2, [], none⟩] (l' := ([(5, Value.bool true), (4, Value.bool false), (3, Value.pointer (some ⟨b, 0, none⟩)), (0, Value.pointer (some ⟨b, 0, none⟩)), (2, Value.pointer none)] : Fr) ++ lr1) (pts' := []) (eqs := []) (by kernel_rfl) trivial (AllC_nil _) ?_
  refine PO.mk ?_
  change WP _ _ (CA Tryd.f28 [1, 0, 1]) _ _ _
  refine fk_cut ([(0, Value.pointer (some ⟨b, 0, none⟩)), (2, Value.pointer none), (5, Value.bool true)] : Fr) (by kernel_rfl) (fun a => WP _ _ _ _ a _) (fun lr5 => ?_)
  refine gi_cnd (x := (Operand.tmp 5)) (s := CA Tryd.f28 [1, 0, 1, 0]) (t := CA Tryd.f28 [1, 0, 1, 1]) true (by kernel_rfl) (by kernel_rfl) ?_
  change WP _ _ (CA Tryd.f28 [1, 0, 1, 0]) _ _ _
  refine gi_seq (x := CA Tryd.f28 [1, 0, 1, 0, 0]) (y := CA Tryd.f28 [1, 0, 1, 0, 1]) (by kernel_rfl) ?_
  refine gi_pln (id := 2) (ops := RA Tryd.f28 [1, 0, 1, 0, 0]) [0] (by kernel_rfl) (by kernel_rfl) (by kernel_rfl) ?_
  refine plain_batch (rest := []) [⟨0, [], none⟩] (l' := ([(2, Value.pointer none), (0, Value.pointer (some ⟨b, 0, none⟩)), (2, Value.pointer none), (5, Value.bool true)] : Fr) ++ lr5) (pts' := []) (eqs := []) (by kernel_rfl) trivial (AllC_nil _) ?_
  refine PO.mk ?_
  change WP _ _ (CA Tryd.f28 [1, 0, 1, 0, 1]) _ _ _
  refine fk_cut ([(0, Value.pointer (some ⟨b, 0, none⟩)), (2, Value.pointer none), (5, Value.bool true)] : Fr) (by kernel_rfl) (fun a => WP _ _ _ _ a _) (fun lr6 => ?_)
  refine gi_rt (by kernel_rfl) ?_
  repeat (first | simp only [Exit.inBlock] | simp only [Exit.then])
  refine hi_out [] (Value.pointer none) [] (by kernel_rfl) (by intro q hq; cases hq) ?_
  exact ⟨Value.pointer none, [Cl b [Value.bool false, Value.slice none 0 0] 52], rfl, ⟨rfl, rfl⟩, h4⟩

set_option maxHeartbeats 4000000 in
theorem rnew_ht  : HT Tryd.prog 24 [] [] (fun v K => ∃ b, v = Value.pointer (some ⟨b, 0, none⟩) ∧ K = [Sr 70 b []]) := by
  refine hi_in 3 ([] : Fr) Tryd.func24 (by kernel_rfl) Tryd.ntmps24 rfl rfl ?_
  intro g w0 R h0
  refine gi_seq (x := CA Tryd.f24 [0]) (y := CA Tryd.f24 [1]) (by kernel_rfl) ?_
  refine gi_pln (id := 0) (ops := RA Tryd.f24 [0]) [0] (by kernel_rfl) (by kernel_rfl) (by kernel_rfl) ?_
  refine plain_batch (rest := []) [⟨0, [], none⟩] (l' := ([(0, Value.pointer none)] : Fr)) (pts' := []) (eqs := []) (by kernel_rfl) trivial (AllC_nil _) ?_
  refine PO.mk ?_
  change WP _ _ (CA Tryd.f24 [1]) _ _ _
  refine fk_cut ([(0, Value.pointer none)] : Fr) (by kernel_rfl) (fun a => WP _ _ _ _ a _) (fun lr1 => ?_)
  refine gi_seq (x := CA Tryd.f24 [1, 0]) (y := CA Tryd.f24 [1, 1]) (by kernel_rfl) ?_
  refine gi_pln (id := 1) (ops := RA Tryd.f24 [1, 0]) [0, 1, 2] (by kernel_rfl) (by kernel_rfl) (by kernel_rfl) ?_
  refine plain_batch (rest := [1, 2]) [⟨0, [], none⟩] (l' := ([(1, Value.agg #[Value.bool true, Value.slice none 0 0]), (0, Value.pointer none)] : Fr) ++ lr1) (pts' := []) (eqs := []) (by kernel_rfl) trivial (AllC_nil _) ?_
  refine plain_act (i := 1) (by kernel_rfl) ?_
  refine an_new (d := 2) (fun xb_ => Value.pointer (some ⟨xb_, 0, none⟩)) (fun xb_ => Obj.cells [Value.bool true, Value.slice none 0 0].toArray 70 (0, 0)) (fun xb_ => by kernel_rfl) (by kernel_rfl) rfl h0 ?_
  intro r2 w3 (h4 : sat g w3 [Cl r2 [Value.bool true, Value.slice none 0 0] 70, R])
  refine plain_batch (rest := []) [⟨2, [], none⟩] (l' := ([(0, Value.pointer (some ⟨r2, 0, none⟩)), (2, Value.pointer (some ⟨r2, 0, none⟩)), (1, Value.agg #[Value.bool true, Value.slice none 0 0]), (0, Value.pointer none)] : Fr) ++ lr1) (pts' := []) (eqs := []) (by kernel_rfl) trivial (AllC_nil _) ?_
  refine PO.mk ?_
  change WP _ _ (CA Tryd.f24 [1, 1]) _ _ _
  refine fk_cut ([(0, Value.pointer (some ⟨r2, 0, none⟩))] : Fr) (by kernel_rfl) (fun a => WP _ _ _ _ a _) (fun lr5 => ?_)
  refine gi_rt (by kernel_rfl) ?_
  repeat (first | simp only [Exit.inBlock] | simp only [Exit.then])
  have h6 : sat g w3 [Vw 3 1 none 0 0 (fl eI []), Cl r2 [Value.bool true, Value.slice none 0 0] 70, R] := vw_nil 3 1 h4
  have h7 : sat g w3 [Cl r2 [Value.bool true, Value.slice none 0 0] 70, Vw 3 1 none 0 0 (fl eI []), R] := sat_sel [1, 0, 2] rfl h6
  have h8 : sat g w3 [Sr 70 r2 [], R] := sr_close (p := none) (c := 0) (by simp) h7
  refine hi_out [] (Value.pointer (some ⟨r2, 0, none⟩)) [] (by kernel_rfl) (by intro q hq; cases hq) ?_
  exact ⟨Value.pointer (some ⟨r2, 0, none⟩), [Sr 70 r2 []], rfl, ⟨r2, rfl, rfl⟩, h8⟩

set_option maxHeartbeats 4000000 in
theorem radd_ht (b : Nat) (L : List Int) (l : List UInt8) (hl : l.length ≤ 1099511627776) : HT Tryd.prog 25 [Value.pointer (some ⟨b, 0, none⟩), Value.string (St l)] [Sr 70 b L] (fun v K => v = Value.int .i64 (addE L l) ∧ K = [Sr 70 b (addL L l)]) := by
  refine hi_in 38 ([(0, Value.pointer (some ⟨b, 0, none⟩)), (1, Value.string (St l))] : Fr) Tryd.func25 (by kernel_rfl) Tryd.ntmps25 rfl rfl ?_
  intro g w0 R h0
  obtain ⟨hl4, p1, cap2, h3⟩ := sr_open h0
  have h5 : sat g w0 [Vw 3 1 p1 L.length cap2 (fl eI L), Cl b [Value.bool true, Value.slice p1 L.length cap2] 70, R] := sat_sel [1, 0, 2] rfl h3
  obtain ⟨hn6, hn7⟩ := vw_le h5
  refine gi_seq (x := CA Tryd.f25 [0]) (y := CA Tryd.f25 [1]) (by kernel_rfl) ?_
  refine gi_pln (id := 0) (ops := RA Tryd.f25 [0]) [0] (by kernel_rfl) (by kernel_rfl) (by kernel_rfl) ?_
  refine plain_batch (rest := []) [⟨0, [], none⟩] (l' := ([(4, Value.int IntKind.i64 0), (0, Value.pointer (some ⟨b, 0, none⟩)), (1, Value.string (St l))] : Fr)) (pts' := []) (eqs := []) (by kernel_rfl) trivial (AllC_nil _) ?_
  refine PO.mk ?_
  change WP _ _ (CA Tryd.f25 [1]) _ _ _
  refine fk_cut ([(0, Value.pointer (some ⟨b, 0, none⟩)), (1, Value.string (St l)), (4, Value.int IntKind.i64 0)] : Fr) (by kernel_rfl) (fun a => WP _ _ _ _ a _) (fun lr8 => ?_)
  refine gi_seq (x := CA Tryd.f25 [1, 0]) (y := CA Tryd.f25 [1, 1]) (by kernel_rfl) ?_
  refine gi_seq (x := CA Tryd.f25 [1, 0, 0]) (y := CA Tryd.f25 [1, 0, 1]) (by kernel_rfl) ?_
  refine gi_pln (id := 1) (ops := RA Tryd.f25 [1, 0, 0]) [0, 1, 2] (by kernel_rfl) (by kernel_rfl) (by kernel_rfl) ?_
  refine plain_batch (rest := [1, 2]) [⟨0, [], none⟩] (l' := ([(7, Value.pointer (some ⟨b, 0, none⟩)), (0, Value.pointer (some ⟨b, 0, none⟩)), (1, Value.string (St l)), (4, Value.int IntKind.i64 0)] : Fr) ++ lr8) (pts' := []) (eqs := []) (by kernel_rfl) trivial (AllC_nil _) ?_
  have h9 : sat g w0 [Cl b [Value.bool true, Value.slice p1 L.length cap2] 70, Vw 3 1 p1 L.length cap2 (fl eI L), R] := sat_sel [1, 0, 2] rfl h5
  refine plain_act (i := 1) (by kernel_rfl) ?_
  refine an_call (d := some 8) (f := 37) (args := [Value.pointer (some ⟨b, 0, none⟩)]) (by kernel_rfl) Tryd.call37 (rvalid_ht b _) (F := [Vw 3 1 p1 L.length cap2 (fl eI L), R]) h9 ?_
  rintro v K w10 (⟨rfl, rfl⟩) h11
  refine ⟨_, rfl, ?_⟩
  have h12 : sat g w10 [Cl b [Value.bool true, Value.slice p1 L.length cap2] 70, Vw 3 1 p1 L.length cap2 (fl eI L), R] := h11
  refine plain_batch (rest := []) [⟨2, [], none⟩] (l' := ([(9, Value.bool false), (8, Value.bool true), (7, Value.pointer (some ⟨b, 0, none⟩)), (0, Value.pointer (some ⟨b, 0, none⟩)), (1, Value.string (St l)), (4, Value.int IntKind.i64 0)] : Fr) ++ lr8) (pts' := []) (eqs := []) (by kernel_rfl) trivial (AllC_nil _) ?_
  refine PO.mk ?_
  change WP _ _ (CA Tryd.f25 [1, 0, 1]) _ _ _
  refine fk_cut ([(0, Value.pointer (some ⟨b, 0, none⟩)), (1, Value.string (St l)), (4, Value.int IntKind.i64 0), (9, Value.bool false)] : Fr) (by kernel_rfl) (fun a => WP _ _ _ _ a _) (fun lr13 => ?_)
  refine gi_cnd (x := (Operand.tmp 9)) (s := CA Tryd.f25 [1, 0, 1, 0]) (t := CA Tryd.f25 [1, 0, 1, 1]) false (by kernel_rfl) (by kernel_rfl) ?_
  change WP _ _ (CA Tryd.f25 [1, 0, 1, 1]) _ _ _
  refine gi_skp (by kernel_rfl) ?_
  change WP _ _ (CA Tryd.f25 [1, 1]) _ _ _
  refine gi_seq (x := CA Tryd.f25 [1, 1, 0]) (y := CA Tryd.f25 [1, 1, 1]) (by kernel_rfl) ?_
  refine gi_pln (id := 3) (ops := RA Tryd.f25 [1, 1, 0]) [0, 1, 2, 3, 4, 5, 6] (by kernel_rfl) (by kernel_rfl) (by kernel_rfl) ?_
  refine plain_batch (rest := [1, 2, 3, 4, 5, 6]) [⟨0, [], none⟩] (l' := ([(11, Value.string (St l)), (0, Value.pointer (some ⟨b, 0, none⟩)), (1, Value.string (St l)), (4, Value.int IntKind.i64 0), (9, Value.bool false)] : Fr) ++ lr13) (pts' := []) (eqs := []) (by kernel_rfl) trivial (AllC_nil _) ?_
  refine plain_act (i := 1) (by kernel_rfl) ?_
  refine an_call (d := some 12) (f := 13) (args := [Value.string (St l)]) (by kernel_rfl) Tryd.call13 (rparse_ht l (by omega)) (F := [Cl b [Value.bool true, Value.slice p1 L.length cap2] 70, Vw 3 1 p1 L.length cap2 (fl eI L), R]) h12 ?_
  rintro v K w16 (⟨p14, cap15, rfl, rfl⟩) h17
  refine ⟨_, rfl, ?_⟩
  have h18 : sat g w16 [Sl 3 1 p14 ((((prs l).1).length)) cap15 (fl eI ((prs l).1)), Cl b [Value.bool true, Value.slice p1 L.length cap2] 70, Vw 3 1 p1 L.length cap2 (fl eI L), R] := h17
  obtain ⟨hn19, hn20⟩ := sl_le h18
  have hq21 := prs_len l
  refine plain_batch (rest := []) [⟨2, [], none⟩, ⟨3, [], none⟩, ⟨4, [], none⟩, ⟨5, [], none⟩, ⟨6, [], none⟩] (l' := ([(6, Value.int IntKind.i64 ((prs l).2)), (5, Value.slice p14 ((((prs l).1).length)) cap15), (14, Value.int IntKind.i64 ((prs l).2)), (13, Value.slice p14 ((((prs l).1).length)) cap15), (10, Value.tuple #[Value.slice p14 ((((prs l).1).length)) cap15, Value.int IntKind.i64 ((prs l).2)]), (12, Value.tuple #[Value.slice p14 ((((prs l).1).length)) cap15, Value.int IntKind.i64 ((prs l).2)]), (11, Value.string (St l)), (0, Value.pointer (some ⟨b, 0, none⟩)), (1, Value.string (St l)), (4, Value.int IntKind.i64 0), (9, Value.bool false)] : Fr) ++ lr13) (pts' := []) (eqs := []) (by kernel_rfl) trivial (AllC_nil _) ?_
  refine PO.mk ?_
  change WP _ _ (CA Tryd.f25 [1, 1, 1]) _ _ _
  refine fk_cut ([(0, Value.pointer (some ⟨b, 0, none⟩)), (1, Value.string (St l)), (4, Value.int IntKind.i64 0), (5, Value.slice p14 ((((prs l).1).length)) cap15), (6, Value.int IntKind.i64 ((prs l).2)), (9, Value.bool false)] : Fr) (by kernel_rfl) (fun a => WP _ _ _ _ a _) (fun lr22 => ?_)
  refine gi_seq (x := CA Tryd.f25 [1, 1, 1, 0]) (y := CA Tryd.f25 [1, 1, 1, 1]) (by kernel_rfl) ?_
  refine gi_seq (x := CA Tryd.f25 [1, 1, 1, 0, 0]) (y := CA Tryd.f25 [1, 1, 1, 0, 1]) (by kernel_rfl) ?_
  refine gi_pln (id := 4) (ops := RA Tryd.f25 [1, 1, 1, 0, 0]) [0, 1] (by kernel_rfl) (by kernel_rfl) (by kernel_rfl) ?_
  refine plain_batch (rest := [1]) [⟨0, [], none⟩] (l' := ([(15, Value.int IntKind.i64 ((prs l).2)), (0, Value.pointer (some ⟨b, 0, none⟩)), (1, Value.string (St l)), (4, Value.int IntKind.i64 0), (5, Value.slice p14 ((((prs l).1).length)) cap15), (6, Value.int IntKind.i64 ((prs l).2)), (9, Value.bool false)] : Fr) ++ lr22) (pts' := []) (eqs := []) (by kernel_rfl) trivial (AllC_nil _) ?_
  by_cases c23 : (prs l).2 = 0
  ·
    refine plain_batch (rest := []) [⟨1, [], some (Value.bool false)⟩] (l' := ([(16, Value.bool false), (15, Value.int IntKind.i64 ((prs l).2)), (0, Value.pointer (some ⟨b, 0, none⟩)), (1, Value.string (St l)), (4, Value.int IntKind.i64 0), (5, Value.slice p14 ((((prs l).1).length)) cap15), (6, Value.int IntKind.i64 ((prs l).2)), (9, Value.bool false)] : Fr) ++ lr22) (pts' := []) (eqs := [(Value.bool (((prs l).2) != 0), Value.bool false)]) (by kernel_rfl) ⟨(ov_nf (by omega)), trivial⟩ (AllC_nil _) ?_
    refine PO.mk ?_
    change WP _ _ (CA Tryd.f25 [1, 1, 1, 0, 1]) _ _ _
    refine fk_cut ([(0, Value.pointer (some ⟨b, 0, none⟩)), (1, Value.string (St l)), (4, Value.int IntKind.i64 0), (5, Value.slice p14 ((((prs l).1).length)) cap15), (6, Value.int IntKind.i64 ((prs l).2)), (9, Value.bool false), (16, Value.bool false)] : Fr) (by kernel_rfl) (fun a => WP _ _ _ _ a _) (fun lr24 => ?_)
    refine gi_cnd (x := (Operand.tmp 16)) (s := CA Tryd.f25 [1, 1, 1, 0, 1, 0]) (t := CA Tryd.f25 [1, 1, 1, 0, 1, 1]) false (by kernel_rfl) (by kernel_rfl) ?_
    change WP _ _ (CA Tryd.f25 [1, 1, 1, 0, 1, 1]) _ _ _
    refine gi_skp (by kernel_rfl) ?_
    change WP _ _ (CA Tryd.f25 [1, 1, 1, 1]) _ _ _
    refine gi_seq (x := CA Tryd.f25 [1, 1, 1, 1, 0]) (y := CA Tryd.f25 [1, 1, 1, 1, 1]) (by kernel_rfl) ?_
    refine gi_seq (x := CA Tryd.f25 [1, 1, 1, 1, 0, 0]) (y := CA Tryd.f25 [1, 1, 1, 1, 0, 1]) (by kernel_rfl) ?_
    refine gi_pln (id := 6) (ops := RA Tryd.f25 [1, 1, 1, 1, 0, 0]) [0, 1, 2, 3, 4, 5, 6, 7, 8] (by kernel_rfl) (by kernel_rfl) (by kernel_rfl) ?_
    refine plain_batch (rest := [8]) [⟨0, [], none⟩, ⟨1, [], none⟩, ⟨2, [], none⟩, ⟨3, [Value.slice p1 L.length cap2], none⟩, ⟨4, [], none⟩, ⟨5, [], none⟩, ⟨6, [], none⟩, ⟨7, [], some (Value.int IntKind.i64 (((L.length : Nat) : Int) + ((((prs l).1).length : Nat) : Int)))⟩] (l' := ([(25, Value.int IntKind.i64 (((L.length : Nat) : Int) + ((((prs l).1).length : Nat) : Int))), (24, Value.int IntKind.i64 (((((prs l).1).length : Nat) : Int))), (23, Value.slice p14 ((((prs l).1).length)) cap15), (22, Value.int IntKind.i64 (((L.length : Nat) : Int))), (21, Value.slice p1 L.length cap2), (20, Value.pointer (some ⟨b, 1, none⟩)), (19, Value.pointer (some ⟨b, 0, none⟩)), (18, Value.pointer (some ⟨b, 0, none⟩)), (0, Value.pointer (some ⟨b, 0, none⟩)), (1, Value.string (St l)), (4, Value.int IntKind.i64 0), (5, Value.slice p14 ((((prs l).1).length)) cap15), (6, Value.int IntKind.i64 ((prs l).2)), (9, Value.bool false), (16, Value.bool false)] : Fr) ++ lr24) (pts' := [(3, ⟨b, 1, none⟩, Value.slice p1 L.length cap2)]) (eqs := [(Value.int IntKind.i64 (IntKind.wrap IntKind.i64 ((((L.length : Nat) : Int)) + (((((prs l).1).length : Nat) : Int)))), Value.int IntKind.i64 (((L.length : Nat) : Int) + ((((prs l).1).length : Nat) : Int)))]) (by kernel_rfl) ⟨(ov_i64 (by omega) (by omega) (by omega)), trivial⟩ (AllC_cons (sat_cell h18 1 rfl rfl) (AllC_nil _)) ?_
    by_cases c25 : ((L.length : Nat) : Int) + ((((prs l).1).length : Nat) : Int) > 2000
    ·
      refine plain_batch (rest := []) [⟨8, [], some (Value.bool true)⟩] (l' := ([(26, Value.bool true), (25, Value.int IntKind.i64 (((L.length : Nat) : Int) + ((((prs l).1).length : Nat) : Int))), (24, Value.int IntKind.i64 (((((prs l).1).length : Nat) : Int))), (23, Value.slice p14 ((((prs l).1).length)) cap15), (22, Value.int IntKind.i64 (((L.length : Nat) : Int))), (21, Value.slice p1 L.length cap2), (20, Value.pointer (some ⟨b, 1, none⟩)), (19, Value.pointer (some ⟨b, 0, none⟩)), (18, Value.pointer (some ⟨b, 0, none⟩)), (0, Value.pointer (some ⟨b, 0, none⟩)), (1, Value.string (St l)), (4, Value.int IntKind.i64 0), (5, Value.slice p14 ((((prs l).1).length)) cap15), (6, Value.int IntKind.i64 ((prs l).2)), (9, Value.bool false), (16, Value.bool false)] : Fr) ++ lr24) (pts' := []) (eqs := [(Value.bool (decide (((L.length : Nat) : Int) + ((((prs l).1).length : Nat) : Int) > 2000)), Value.bool true)]) (by kernel_rfl) ⟨(ov_t (by omega)), trivial⟩ (AllC_nil _) ?_
      refine PO.mk ?_
      change WP _ _ (CA Tryd.f25 [1, 1, 1, 1, 0, 1]) _ _ _
      refine fk_cut ([(0, Value.pointer (some ⟨b, 0, none⟩)), (1, Value.string (St l)), (4, Value.int IntKind.i64 0), (5, Value.slice p14 ((((prs l).1).length)) cap15), (6, Value.int IntKind.i64 ((prs l).2)), (9, Value.bool false), (16, Value.bool false), (26, Value.bool true)] : Fr) (by kernel_rfl) (fun a => WP _ _ _ _ a _) (fun lr26 => ?_)
      refine gi_cnd (x := (Operand.tmp 26)) (s := CA Tryd.f25 [1, 1, 1, 1, 0, 1, 0]) (t := CA Tryd.f25 [1, 1, 1, 1, 0, 1, 1]) true (by kernel_rfl) (by kernel_rfl) ?_
      change WP _ _ (CA Tryd.f25 [1, 1, 1, 1, 0, 1, 0]) _ _ _
      refine gi_seq (x := CA Tryd.f25 [1, 1, 1, 1, 0, 1, 0, 0]) (y := CA Tryd.f25 [1, 1, 1, 1, 0, 1, 0, 1]) (by kernel_rfl) ?_
      refine gi_pln (id := 7) (ops := RA Tryd.f25 [1, 1, 1, 1, 0, 1, 0, 0]) [0] (by kernel_rfl) (by kernel_rfl) (by kernel_rfl) ?_
      refine plain_batch (rest := []) [⟨0, [], none⟩] (l' := ([(4, Value.int IntKind.i64 11), (0, Value.pointer (some ⟨b, 0, none⟩)), (1, Value.string (St l)), (4, Value.int IntKind.i64 0), (5, Value.slice p14 ((((prs l).1).length)) cap15), (6, Value.int IntKind.i64 ((prs l).2)), (9, Value.bool false), (16, Value.bool false), (26, Value.bool true)] : Fr) ++ lr26) (pts' := []) (eqs := []) (by kernel_rfl) trivial (AllC_nil _) ?_
      refine PO.mk ?_
      change WP _ _ (CA Tryd.f25 [1, 1, 1, 1, 0, 1, 0, 1]) _ _ _
      refine fk_cut ([(0, Value.pointer (some ⟨b, 0, none⟩)), (1, Value.string (St l)), (4, Value.int IntKind.i64 11), (5, Value.slice p14 ((((prs l).1).length)) cap15), (6, Value.int IntKind.i64 ((prs l).2)), (9, Value.bool false), (16, Value.bool false), (26, Value.bool true)] : Fr) (by kernel_rfl) (fun a => WP _ _ _ _ a _) (fun lr27 => ?_)
      refine gi_rt (by kernel_rfl) ?_
      repeat (first | simp only [Exit.inBlock] | simp only [Exit.then])
      have h28 : sat g w16 [Cl b [Value.bool true, Value.slice p1 L.length cap2] 70, Vw 3 1 p1 L.length cap2 (fl eI L), Sl 3 1 p14 ((((prs l).1).length)) cap15 (fl eI ((prs l).1)), R] := sat_sel [1, 2, 0, 3] rfl h18
      have h29 : sat g w16 [Sr 70 b L, Sl 3 1 p14 ((((prs l).1).length)) cap15 (fl eI ((prs l).1)), R] := sr_close (p := p1) (c := cap2) (by omega) h28
      have h30 : sat g w16 [Sr 70 b L, R] := sat_sel [0, 2] rfl h29
      refine hi_out [] (Value.int IntKind.i64 11) [] (by kernel_rfl) (by intro q hq; cases hq) ?_
      exact ⟨Value.int IntKind.i64 11, [Sr 70 b L], rfl, ⟨by rw [(add_many (by omega) (by omega)).1], by rw [(add_many (by omega) (by omega)).2]⟩, h30⟩
    ·
      refine plain_batch (rest := []) [⟨8, [], some (Value.bool false)⟩] (l' := ([(26, Value.bool false), (25, Value.int IntKind.i64 (((L.length : Nat) : Int) + ((((prs l).1).length : Nat) : Int))), (24, Value.int IntKind.i64 (((((prs l).1).length : Nat) : Int))), (23, Value.slice p14 ((((prs l).1).length)) cap15), (22, Value.int IntKind.i64 (((L.length : Nat) : Int))), (21, Value.slice p1 L.length cap2), (20, Value.pointer (some ⟨b, 1, none⟩)), (19, Value.pointer (some ⟨b, 0, none⟩)), (18, Value.pointer (some ⟨b, 0, none⟩)), (0, Value.pointer (some ⟨b, 0, none⟩)), (1, Value.string (St l)), (4, Value.int IntKind.i64 0), (5, Value.slice p14 ((((prs l).1).length)) cap15), (6, Value.int IntKind.i64 ((prs l).2)), (9, Value.bool false), (16, Value.bool false)] : Fr) ++ lr24) (pts' := []) (eqs := [(Value.bool (decide (((L.length : Nat) : Int) + ((((prs l).1).length : Nat) : Int) > 2000)), Value.bool false)]) (by kernel_rfl) ⟨(ov_f (by omega)), trivial⟩ (AllC_nil _) ?_
      refine PO.mk ?_
      change WP _ _ (CA Tryd.f25 [1, 1, 1, 1, 0, 1]) _ _ _
      refine fk_cut ([(0, Value.pointer (some ⟨b, 0, none⟩)), (1, Value.string (St l)), (4, Value.int IntKind.i64 0), (5, Value.slice p14 ((((prs l).1).length)) cap15), (6, Value.int IntKind.i64 ((prs l).2)), (9, Value.bool false), (16, Value.bool false), (26, Value.bool false)] : Fr) (by kernel_rfl) (fun a => WP _ _ _ _ a _) (fun lr31 => ?_)
      refine gi_cnd (x := (Operand.tmp 26)) (s := CA Tryd.f25 [1, 1, 1, 1, 0, 1, 0]) (t := CA Tryd.f25 [1, 1, 1, 1, 0, 1, 1]) false (by kernel_rfl) (by kernel_rfl) ?_
      change WP _ _ (CA Tryd.f25 [1, 1, 1, 1, 0, 1, 1]) _ _ _
      refine gi_skp (by kernel_rfl) ?_
      change WP _ _ (CA Tryd.f25 [1, 1, 1, 1, 1]) _ _ _
      refine gi_seq (x := CA Tryd.f25 [1, 1, 1, 1, 1, 0]) (y := CA Tryd.f25 [1, 1, 1, 1, 1, 1]) (by kernel_rfl) ?_
      refine gi_pln (id := 8) (ops := RA Tryd.f25 [1, 1, 1, 1, 1, 0]) [0, 1, 2, 3, 4, 5, 6, 7, 8, 9, 10, 11] (by kernel_rfl) (by kernel_rfl) (by kernel_rfl) ?_
      refine plain_batch (rest := [1, 2, 3, 4, 5, 6, 7, 8, 9, 10, 11]) [⟨0, [], none⟩] (l' := ([(27, Value.pointer (some ⟨b, 0, none⟩)), (0, Value.pointer (some ⟨b, 0, none⟩)), (1, Value.string (St l)), (4, Value.int IntKind.i64 0), (5, Value.slice p14 ((((prs l).1).length)) cap15), (6, Value.int IntKind.i64 ((prs l).2)), (9, Value.bool false), (16, Value.bool false), (26, Value.bool false)] : Fr) ++ lr31) (pts' := []) (eqs := []) (by kernel_rfl) trivial (AllC_nil _) ?_
      refine plain_act (i := 1) (by kernel_rfl) ?_
      refine an_new (d := 28) (fun xb_ => Value.slice (some ⟨xb_, 0, none⟩) 0 0) (fun xb_ => Obj.cells [].toArray 3 (0, 0)) (fun xb_ => by kernel_rfl) (by kernel_rfl) rfl h18 ?_
      intro r32 w33 (h34 : sat g w33 [Cl r32 [] 3, Sl 3 1 p14 ((((prs l).1).length)) cap15 (fl eI ((prs l).1)), Cl b [Value.bool true, Value.slice p1 L.length cap2] 70, Vw 3 1 p1 L.length cap2 (fl eI L), R])
      refine plain_batch (rest := [6, 7, 8, 9, 10, 11]) [⟨2, [], none⟩, ⟨3, [], none⟩, ⟨4, [], none⟩, ⟨5, [Value.slice p1 L.length cap2], none⟩] (l' := ([(32, Value.slice p1 L.length cap2), (31, Value.pointer (some ⟨b, 1, none⟩)), (30, Value.pointer (some ⟨b, 0, none⟩)), (29, Value.pointer (some ⟨b, 0, none⟩)), (28, Value.slice (some ⟨r32, 0, none⟩) 0 0), (27, Value.pointer (some ⟨b, 0, none⟩)), (0, Value.pointer (some ⟨b, 0, none⟩)), (1, Value.string (St l)), (4, Value.int IntKind.i64 0), (5, Value.slice p14 ((((prs l).1).length)) cap15), (6, Value.int IntKind.i64 ((prs l).2)), (9, Value.bool false), (16, Value.bool false), (26, Value.bool false)] : Fr) ++ lr31) (pts' := [(5, ⟨b, 1, none⟩, Value.slice p1 L.length cap2)]) (eqs := []) (by kernel_rfl) trivial (AllC_cons (sat_cell h34 2 rfl rfl) (AllC_nil _)) ?_
      have h35 : sat g w33 [Sl 3 1 (some ⟨r32, 0, none⟩) 0 0 (fl eI []), Sl 3 1 p14 ((((prs l).1).length)) cap15 (fl eI ((prs l).1)), Cl b [Value.bool true, Value.slice p1 L.length cap2] 70, Vw 3 1 p1 L.length cap2 (fl eI L), R] := sl_of_cl h34 rfl (by omega)
      refine plain_act (i := 6) (by kernel_rfl) ?_
      refine an_append_gv (d := 33) (sz := 1) (s := (Operand.tmp 28)) (x := (Operand.tmp 32)) (z := Value.int IntKind.i64 0) (p := (some ⟨r32, 0, none⟩)) (p2 := p1) (m := 0) (c := 0) (k := L.length) (c2 := cap2) (by_ := 8) (by kernel_rfl) (by kernel_rfl) rfl Tryd.underlying22 (by kernel_rfl) rfl (by decide) (by kernel_rfl) (by kernel_rfl) h35 3 rfl (fl eI L) (gv_vw _ _ _) (fl_len eI_ok _) (fl_one eI_ok _) (by omega) (by omega) L.length (by omega) ?_
      intro p36 cap37 w38 (h39 : sat g w38 [Sl 3 1 p36 L.length cap37 ((fl eI []) ++ (fl eI L)), Sl 3 1 p14 ((((prs l).1).length)) cap15 (fl eI ((prs l).1)), Cl b [Value.bool true, Value.slice p1 L.length cap2] 70, Vw 3 1 p1 L.length cap2 (fl eI L), R])
      have h40 : sat g w38 [Sl 3 1 p36 L.length cap37 (fl eI L), Sl 3 1 p14 ((((prs l).1).length)) cap15 (fl eI ((prs l).1)), Cl b [Value.bool true, Value.slice p1 L.length cap2] 70, Vw 3 1 p1 L.length cap2 (fl eI L), R] := sat_imp h39 (fun _ hh => by exact hh)
      obtain ⟨hn41, hn42⟩ := sl_le h40
      refine plain_batch (rest := [8, 9, 10, 11]) [⟨7, [], none⟩] (l' := ([(34, Value.slice p14 ((((prs l).1).length)) cap15), (33, Value.slice p36 L.length cap37), (32, Value.slice p1 L.length cap2), (31, Value.pointer (some ⟨b, 1, none⟩)), (30, Value.pointer (some ⟨b, 0, none⟩)), (29, Value.pointer (some ⟨b, 0, none⟩)), (28, Value.slice (some ⟨r32, 0, none⟩) 0 0), (27, Value.pointer (some ⟨b, 0, none⟩)), (0, Value.pointer (some ⟨b, 0, none⟩)), (1, Value.string (St l)), (4, Value.int IntKind.i64 0), (5, Value.slice p14 ((((prs l).1).length)) cap15), (6, Value.int IntKind.i64 ((prs l).2)), (9, Value.bool false), (16, Value.bool false), (26, Value.bool false)] : Fr) ++ lr31) (pts' := []) (eqs := []) (by kernel_rfl) trivial (AllC_nil _) ?_
      refine plain_act (i := 8) (by kernel_rfl) ?_
      refine an_append_gv (d := 35) (sz := 1) (s := (Operand.tmp 33)) (x := (Operand.tmp 34)) (z := Value.int IntKind.i64 0) (p := p36) (p2 := p14) (m := L.length) (c := cap37) (k := ((((prs l).1).length))) (c2 := cap15) (by_ := 8) (by kernel_rfl) (by kernel_rfl) rfl Tryd.underlying22 (by kernel_rfl) rfl (by decide) (by kernel_rfl) (by kernel_rfl) h40 1 rfl (fl eI ((prs l).1)) (gv_sl _ _ _) (fl_len eI_ok _) (fl_one eI_ok _) (by omega) (by omega) (L.length + (((prs l).1).length)) (by omega) ?_
      intro p43 cap44 w45 (h46 : sat g w45 [Sl 3 1 p43 (L.length + (((prs l).1).length)) cap44 ((fl eI L) ++ (fl eI ((prs l).1))), Sl 3 1 p14 ((((prs l).1).length)) cap15 (fl eI ((prs l).1)), Cl b [Value.bool true, Value.slice p1 L.length cap2] 70, Vw 3 1 p1 L.length cap2 (fl eI L), R])
      have h47 : sat g w45 [Sl 3 1 p43 (L.length + (((prs l).1).length)) cap44 (fl eI (L ++ ((prs l).1))), Sl 3 1 p14 ((((prs l).1).length)) cap15 (fl eI ((prs l).1)), Cl b [Value.bool true, Value.slice p1 L.length cap2] 70, Vw 3 1 p1 L.length cap2 (fl eI L), R] := sat_imp h46 (fun _ hh => by rw [fl_app]; exact hh)
      obtain ⟨hn48, hn49⟩ := sl_le h47
      refine plain_batch (rest := [11]) [⟨9, [], none⟩, ⟨10, [], none⟩] (l' := ([(37, Value.pointer (some ⟨b, 1, none⟩)), (36, Value.pointer (some ⟨b, 0, none⟩)), (35, Value.slice p43 (L.length + (((prs l).1).length)) cap44), (34, Value.slice p14 ((((prs l).1).length)) cap15), (33, Value.slice p36 L.length cap37), (32, Value.slice p1 L.length cap2), (31, Value.pointer (some ⟨b, 1, none⟩)), (30, Value.pointer (some ⟨b, 0, none⟩)), (29, Value.pointer (some ⟨b, 0, none⟩)), (28, Value.slice (some ⟨r32, 0, none⟩) 0 0), (27, Value.pointer (some ⟨b, 0, none⟩)), (0, Value.pointer (some ⟨b, 0, none⟩)), (1, Value.string (St l)), (4, Value.int IntKind.i64 0), (5, Value.slice p14 ((((prs l).1).length)) cap15), (6, Value.int IntKind.i64 ((prs l).2)), (9, Value.bool false), (16, Value.bool false), (26, Value.bool false)] : Fr) ++ lr31) (pts' := []) (eqs := []) (by kernel_rfl) trivial (AllC_nil _) ?_
      have h50 : sat g w45 [Cl b [Value.bool true, Value.slice p1 L.length cap2] 70, Sl 3 1 p43 (L.length + (((prs l).1).length)) cap44 (fl eI (L ++ ((prs l).1))), Sl 3 1 p14 ((((prs l).1).length)) cap15 (fl eI ((prs l).1)), Vw 3 1 p1 L.length cap2 (fl eI L), R] := sat_sel [2, 0, 1, 3, 4] rfl h47
      refine plain_act (i := 11) (by kernel_rfl) ?_
      refine an_store [(1, Value.slice p43 (L.length + (((prs l).1).length)) cap44)] (cs' := [Value.bool true, Value.slice p43 (L.length + (((prs l).1).length)) cap44]) (by kernel_rfl) (by kernel_rfl) (allq ⟨⟨by simp, rfl⟩, trivial⟩) rfl h50 ?_
      intro w51 (h52 : sat g w51 [Cl b [Value.bool true, Value.slice p43 (L.length + (((prs l).1).length)) cap44] 70, Sl 3 1 p43 (L.length + (((prs l).1).length)) cap44 (fl eI (L ++ ((prs l).1))), Sl 3 1 p14 ((((prs l).1).length)) cap15 (fl eI ((prs l).1)), Vw 3 1 p1 L.length cap2 (fl eI L), R])
      refine PO.mk ?_
      change WP _ _ (CA Tryd.f25 [1, 1, 1, 1, 1, 1]) _ _ _
      refine fk_cut ([(0, Value.pointer (some ⟨b, 0, none⟩)), (1, Value.string (St l)), (4, Value.int IntKind.i64 0), (5, Value.slice p14 ((((prs l).1).length)) cap15), (6, Value.int IntKind.i64 ((prs l).2)), (9, Value.bool false), (16, Value.bool false), (26, Value.bool false)] : Fr) (by kernel_rfl) (fun a => WP _ _ _ _ a _) (fun lr53 => ?_)
      refine gi_seq (x := CA Tryd.f25 [1, 1, 1, 1, 1, 1, 0]) (y := CA Tryd.f25 [1, 1, 1, 1, 1, 1, 1]) (by kernel_rfl) ?_
      refine gi_pln (id := 9) (ops := RA Tryd.f25 [1, 1, 1, 1, 1, 1, 0]) [0] (by kernel_rfl) (by kernel_rfl) (by kernel_rfl) ?_
      refine plain_batch (rest := []) [⟨0, [], none⟩] (l' := ([(4, Value.int IntKind.i64 0), (0, Value.pointer (some ⟨b, 0, none⟩)), (1, Value.string (St l)), (4, Value.int IntKind.i64 0), (5, Value.slice p14 ((((prs l).1).length)) cap15), (6, Value.int IntKind.i64 ((prs l).2)), (9, Value.bool false), (16, Value.bool false), (26, Value.bool false)] : Fr) ++ lr53) (pts' := []) (eqs := []) (by kernel_rfl) trivial (AllC_nil _) ?_
      refine PO.mk ?_
      change WP _ _ (CA Tryd.f25 [1, 1, 1, 1, 1, 1, 1]) _ _ _
      refine fk_cut ([(0, Value.pointer (some ⟨b, 0, none⟩)), (1, Value.string (St l)), (4, Value.int IntKind.i64 0), (5, Value.slice p14 ((((prs l).1).length)) cap15), (6, Value.int IntKind.i64 ((prs l).2)), (9, Value.bool false), (16, Value.bool false), (26, Value.bool false)] : Fr) (by kernel_rfl) (fun a => WP _ _ _ _ a _) (fun lr54 => ?_)
      refine gi_rt (by kernel_rfl) ?_
      repeat (first | simp only [Exit.inBlock] | simp only [Exit.then])
      have h55 : sat g w51 [Cl b [Value.bool true, Value.slice p43 (((L ++ (prs l).1).length)) cap44] 70, Sl 3 1 p43 (((L ++ (prs l).1).length)) cap44 (fl eI (L ++ ((prs l).1))), Sl 3 1 p14 ((((prs l).1).length)) cap15 (fl eI ((prs l).1)), Vw 3 1 p1 L.length cap2 (fl eI L), R] := (show L.length + (((prs l).1).length) = ((L ++ (prs l).1).length) from by rw [List.length_append]) ▸ h52
      have h56 : sat g w51 [Sl 3 1 p43 (((L ++ (prs l).1).length)) cap44 (fl eI (L ++ ((prs l).1))), Cl b [Value.bool true, Value.slice p43 (((L ++ (prs l).1).length)) cap44] 70, Sl 3 1 p14 ((((prs l).1).length)) cap15 (fl eI ((prs l).1)), Vw 3 1 p1 L.length cap2 (fl eI L), R] := sat_sel [1, 0, 2, 3, 4] rfl h55
      have h57 : sat g w51 [Vw 3 1 p43 (((L ++ (prs l).1).length)) cap44 (fl eI (L ++ ((prs l).1))), Cl b [Value.bool true, Value.slice p43 (((L ++ (prs l).1).length)) cap44] 70, Sl 3 1 p14 ((((prs l).1).length)) cap15 (fl eI ((prs l).1)), Vw 3 1 p1 L.length cap2 (fl eI L), R] := vw_sl h56
      have h58 : sat g w51 [Cl b [Value.bool true, Value.slice p43 (((L ++ (prs l).1).length)) cap44] 70, Vw 3 1 p43 (((L ++ (prs l).1).length)) cap44 (fl eI (L ++ ((prs l).1))), Sl 3 1 p14 ((((prs l).1).length)) cap15 (fl eI ((prs l).1)), Vw 3 1 p1 L.length cap2 (fl eI L), R] := sat_sel [1, 0, 2, 3, 4] rfl h57
      have h59 : sat g w51 [Sr 70 b (L ++ ((prs l).1)), Sl 3 1 p14 ((((prs l).1).length)) cap15 (fl eI ((prs l).1)), Vw 3 1 p1 L.length cap2 (fl eI L), R] := sr_close (p := p43) (c := cap44) (by rw [List.length_append]; omega) h58
      have h60 : sat g w51 [Sr 70 b (L ++ ((prs l).1)), R] := sat_sel [0, 3] rfl h59
      refine hi_out [] (Value.int IntKind.i64 0) [] (by kernel_rfl) (by intro q hq; cases hq) ?_
      exact ⟨Value.int IntKind.i64 0, [Sr 70 b (L ++ ((prs l).1))], rfl, ⟨by rw [(add_ok (by omega) (by omega)).1], by rw [(add_ok (by omega) (by omega)).2]⟩, h60⟩
  ·
    refine plain_batch (rest := []) [⟨1, [], some (Value.bool true)⟩] (l' := ([(16, Value.bool true), (15, Value.int IntKind.i64 ((prs l).2)), (0, Value.pointer (some ⟨b, 0, none⟩)), (1, Value.string (St l)), (4, Value.int IntKind.i64 0), (5, Value.slice p14 ((((prs l).1).length)) cap15), (6, Value.int IntKind.i64 ((prs l).2)), (9, Value.bool false)] : Fr) ++ lr22) (pts' := []) (eqs := [(Value.bool (((prs l).2) != 0), Value.bool true)]) (by kernel_rfl) ⟨(ov_nt (by omega)), trivial⟩ (AllC_nil _) ?_
    refine PO.mk ?_
    change WP _ _ (CA Tryd.f25 [1, 1, 1, 0, 1]) _ _ _
    refine fk_cut ([(0, Value.pointer (some ⟨b, 0, none⟩)), (1, Value.string (St l)), (4, Value.int IntKind.i64 0), (5, Value.slice p14 ((((prs l).1).length)) cap15), (6, Value.int IntKind.i64 ((prs l).2)), (9, Value.bool false), (16, Value.bool true)] : Fr) (by kernel_rfl) (fun a => WP _ _ _ _ a _) (fun lr61 => ?_)
    refine gi_cnd (x := (Operand.tmp 16)) (s := CA Tryd.f25 [1, 1, 1, 0, 1, 0]) (t := CA Tryd.f25 [1, 1, 1, 0, 1, 1]) true (by kernel_rfl) (by kernel_rfl) ?_
    change WP _ _ (CA Tryd.f25 [1, 1, 1, 0, 1, 0]) _ _ _
    refine gi_seq (x := CA Tryd.f25 [1, 1, 1, 0, 1, 0, 0]) (y := CA Tryd.f25 [1, 1, 1, 0, 1, 0, 1]) (by kernel_rfl) ?_
    refine gi_pln (id := 5) (ops := RA Tryd.f25 [1, 1, 1, 0, 1, 0, 0]) [0, 1] (by kernel_rfl) (by kernel_rfl) (by kernel_rfl) ?_
    refine plain_batch (rest := []) [⟨0, [], none⟩, ⟨1, [], none⟩] (l' := ([(4, Value.int IntKind.i64 ((prs l).2)), (17, Value.int IntKind.i64 ((prs l).2)), (0, Value.pointer (some ⟨b, 0, none⟩)), (1, Value.string (St l)), (4, Value.int IntKind.i64 0), (5, Value.slice p14 ((((prs l).1).length)) cap15), (6, Value.int IntKind.i64 ((prs l).2)), (9, Value.bool false), (16, Value.bool true)] : Fr) ++ lr61) (pts' := []) (eqs := []) (by kernel_rfl) trivial (AllC_nil _) ?_
    refine PO.mk ?_
    change WP _ _ (CA Tryd.f25 [1, 1, 1, 0, 1, 0, 1]) _ _ _
    refine fk_cut ([(0, Value.pointer (some ⟨b, 0, none⟩)), (1, Value.string (St l)), (4, Value.int IntKind.i64 ((prs l).2)), (5, Value.slice p14 ((((prs l).1).length)) cap15), (6, Value.int IntKind.i64 ((prs l).2)), (9, Value.bool false), (16, Value.bool true)] : Fr) (by kernel_rfl) (fun a => WP _ _ _ _ a _) (fun lr62 => ?_)
    refine gi_rt (by kernel_rfl) ?_
    repeat (first | simp only [Exit.inBlock] | simp only [Exit.then])
    have h63 : sat g w16 [Cl b [Value.bool true, Value.slice p1 L.length cap2] 70, Vw 3 1 p1 L.length cap2 (fl eI L), Sl 3 1 p14 ((((prs l).1).length)) cap15 (fl eI ((prs l).1)), R] := sat_sel [1, 2, 0, 3] rfl h18
    have h64 : sat g w16 [Sr 70 b L, Sl 3 1 p14 ((((prs l).1).length)) cap15 (fl eI ((prs l).1)), R] := sr_close (p := p1) (c := cap2) (by omega) h63
    have h65 : sat g w16 [Sr 70 b L, R] := sat_sel [0, 2] rfl h64
    refine hi_out [] (Value.int IntKind.i64 ((prs l).2)) [] (by kernel_rfl) (by intro q hq; cases hq) ?_
    exact ⟨Value.int IntKind.i64 ((prs l).2), [Sr 70 b L], rfl, ⟨by rw [(add_err (by omega)).1], by rw [(add_err (by omega)).2]⟩, h65⟩

set_option maxHeartbeats 4000000 in
theorem rnext_ht (b : Nat) (L : List Int) : HT Tryd.prog 26 [Value.pointer (some ⟨b, 0, none⟩)] [Sr 70 b L] (fun v K => v = Value.int .i64 (L.headD 1) ∧ K = [Sr 70 b L.tail]) := by
  refine hi_in 28 ([(0, Value.pointer (some ⟨b, 0, none⟩))] : Fr) Tryd.func26 (by kernel_rfl) Tryd.ntmps26 rfl rfl ?_
  intro g w0 R h0
  obtain ⟨hl4, p1, cap2, h3⟩ := sr_open h0
  have h5 : sat g w0 [Vw 3 1 p1 L.length cap2 (fl eI L), Cl b [Value.bool true, Value.slice p1 L.length cap2] 70, R] := sat_sel [1, 0, 2] rfl h3
  obtain ⟨hn6, hn7⟩ := vw_le h5
  refine gi_seq (x := CA Tryd.f26 [0]) (y := CA Tryd.f26 [1]) (by kernel_rfl) ?_
  refine gi_pln (id := 0) (ops := RA Tryd.f26 [0]) [0] (by kernel_rfl) (by kernel_rfl) (by kernel_rfl) ?_
  refine plain_batch (rest := []) [⟨0, [], none⟩] (l' := ([(2, Value.int IntKind.i64 0), (0, Value.pointer (some ⟨b, 0, none⟩))] : Fr)) (pts' := []) (eqs := []) (by kernel_rfl) trivial (AllC_nil _) ?_
  refine PO.mk ?_
  change WP _ _ (CA Tryd.f26 [1]) _ _ _
  refine fk_cut ([(0, Value.pointer (some ⟨b, 0, none⟩)), (2, Value.int IntKind.i64 0)] : Fr) (by kernel_rfl) (fun a => WP _ _ _ _ a _) (fun lr8 => ?_)
  refine gi_seq (x := CA Tryd.f26 [1, 0]) (y := CA Tryd.f26 [1, 1]) (by kernel_rfl) ?_
  refine gi_seq (x := CA Tryd.f26 [1, 0, 0]) (y := CA Tryd.f26 [1, 0, 1]) (by kernel_rfl) ?_
  refine gi_pln (id := 1) (ops := RA Tryd.f26 [1, 0, 0]) [0, 1, 2] (by kernel_rfl) (by kernel_rfl) (by kernel_rfl) ?_
  refine plain_batch (rest := [1, 2]) [⟨0, [], none⟩] (l' := ([(4, Value.pointer (some ⟨b, 0, none⟩)), (0, Value.pointer (some ⟨b, 0, none⟩)), (2, Value.int IntKind.i64 0)] : Fr) ++ lr8) (pts' := []) (eqs := []) (by kernel_rfl) trivial (AllC_nil _) ?_
  have h9 : sat g w0 [Cl b [Value.bool true, Value.slice p1 L.length cap2] 70, Vw 3 1 p1 L.length cap2 (fl eI L), R] := sat_sel [1, 0, 2] rfl h5
  refine plain_act (i := 1) (by kernel_rfl) ?_
  refine an_call (d := some 5) (f := 37) (args := [Value.pointer (some ⟨b, 0, none⟩)]) (by kernel_rfl) Tryd.call37 (rvalid_ht b _) (F := [Vw 3 1 p1 L.length cap2 (fl eI L), R]) h9 ?_
  rintro v K w10 (⟨rfl, rfl⟩) h11
  refine ⟨_, rfl, ?_⟩
  have h12 : sat g w10 [Cl b [Value.bool true, Value.slice p1 L.length cap2] 70, Vw 3 1 p1 L.length cap2 (fl eI L), R] := h11
  refine plain_batch (rest := []) [⟨2, [], none⟩] (l' := ([(6, Value.bool false), (5, Value.bool true), (4, Value.pointer (some ⟨b, 0, none⟩)), (0, Value.pointer (some ⟨b, 0, none⟩)), (2, Value.int IntKind.i64 0)] : Fr) ++ lr8) (pts' := []) (eqs := []) (by kernel_rfl) trivial (AllC_nil _) ?_
  refine PO.mk ?_
  change WP _ _ (CA Tryd.f26 [1, 0, 1]) _ _ _
  refine fk_cut ([(0, Value.pointer (some ⟨b, 0, none⟩)), (2, Value.int IntKind.i64 0), (6, Value.bool false)] : Fr) (by kernel_rfl) (fun a => WP _ _ _ _ a _) (fun lr13 => ?_)
  refine gi_cnd (x := (Operand.tmp 6)) (s := CA Tryd.f26 [1, 0, 1, 0]) (t := CA Tryd.f26 [1, 0, 1, 1]) false (by kernel_rfl) (by kernel_rfl) ?_
  change WP _ _ (CA Tryd.f26 [1, 0, 1, 1]) _ _ _
  refine gi_skp (by kernel_rfl) ?_
  change WP _ _ (CA Tryd.f26 [1, 1]) _ _ _
  refine gi_seq (x := CA Tryd.f26 [1, 1, 0]) (y := CA Tryd.f26 [1, 1, 1]) (by kernel_rfl) ?_
  refine gi_seq (x := CA Tryd.f26 [1, 1, 0, 0]) (y := CA Tryd.f26 [1, 1, 0, 1]) (by kernel_rfl) ?_
  refine gi_pln (id := 3) (ops := RA Tryd.f26 [1, 1, 0, 0]) [0, 1, 2, 3, 4, 5] (by kernel_rfl) (by kernel_rfl) (by kernel_rfl) ?_
  refine plain_batch (rest := [5]) [⟨0, [], none⟩, ⟨1, [], none⟩, ⟨2, [], none⟩, ⟨3, [Value.slice p1 L.length cap2], none⟩, ⟨4, [], none⟩] (l' := ([(11, Value.int IntKind.i64 (((L.length : Nat) : Int))), (10, Value.slice p1 L.length cap2), (9, Value.pointer (some ⟨b, 1, none⟩)), (8, Value.pointer (some ⟨b, 0, none⟩)), (7, Value.pointer (some ⟨b, 0, none⟩)), (0, Value.pointer (some ⟨b, 0, none⟩)), (2, Value.int IntKind.i64 0), (6, Value.bool false)] : Fr) ++ lr13) (pts' := [(3, ⟨b, 1, none⟩, Value.slice p1 L.length cap2)]) (eqs := []) (by kernel_rfl) trivial (AllC_cons (sat_cell h12 0 rfl rfl) (AllC_nil _)) ?_
  by_cases c14 : ((L.length : Nat) : Int) = 0
  ·
    refine plain_batch (rest := []) [⟨5, [], some (Value.bool true)⟩] (l' := ([(12, Value.bool true), (11, Value.int IntKind.i64 (((L.length : Nat) : Int))), (10, Value.slice p1 L.length cap2), (9, Value.pointer (some ⟨b, 1, none⟩)), (8, Value.pointer (some ⟨b, 0, none⟩)), (7, Value.pointer (some ⟨b, 0, none⟩)), (0, Value.pointer (some ⟨b, 0, none⟩)), (2, Value.int IntKind.i64 0), (6, Value.bool false)] : Fr) ++ lr13) (pts' := []) (eqs := [(Value.bool ((((L.length : Nat) : Int)) == 0), Value.bool true)]) (by kernel_rfl) ⟨(ov_et (by omega)), trivial⟩ (AllC_nil _) ?_
    refine PO.mk ?_
    change WP _ _ (CA Tryd.f26 [1, 1, 0, 1]) _ _ _
    refine fk_cut ([(0, Value.pointer (some ⟨b, 0, none⟩)), (2, Value.int IntKind.i64 0), (6, Value.bool false), (12, Value.bool true)] : Fr) (by kernel_rfl) (fun a => WP _ _ _ _ a _) (fun lr15 => ?_)
    refine gi_cnd (x := (Operand.tmp 12)) (s := CA Tryd.f26 [1, 1, 0, 1, 0]) (t := CA Tryd.f26 [1, 1, 0, 1, 1]) true (by kernel_rfl) (by kernel_rfl) ?_
    change WP _ _ (CA Tryd.f26 [1, 1, 0, 1, 0]) _ _ _
    refine gi_seq (x := CA Tryd.f26 [1, 1, 0, 1, 0, 0]) (y := CA Tryd.f26 [1, 1, 0, 1, 0, 1]) (by kernel_rfl) ?_
    refine gi_pln (id := 4) (ops := RA Tryd.f26 [1, 1, 0, 1, 0, 0]) [0] (by kernel_rfl) (by kernel_rfl) (by kernel_rfl) ?_
    refine plain_batch (rest := []) [⟨0, [], none⟩] (l' := ([(2, Value.int IntKind.i64 1), (0, Value.pointer (some ⟨b, 0, none⟩)), (2, Value.int IntKind.i64 0), (6, Value.bool false), (12, Value.bool true)] : Fr) ++ lr15) (pts' := []) (eqs := []) (by kernel_rfl) trivial (AllC_nil _) ?_
    refine PO.mk ?_
    change WP _ _ (CA Tryd.f26 [1, 1, 0, 1, 0, 1]) _ _ _
    refine fk_cut ([(0, Value.pointer (some ⟨b, 0, none⟩)), (2, Value.int IntKind.i64 1), (6, Value.bool false), (12, Value.bool true)] : Fr) (by kernel_rfl) (fun a => WP _ _ _ _ a _) (fun lr16 => ?_)
    refine gi_rt (by kernel_rfl) ?_
    repeat (first | simp only [Exit.inBlock] | simp only [Exit.then])
    have hnil_ : L = [] := List.eq_nil_of_length_eq_zero (by omega)
    have h17 : sat g w10 [Sr 70 b L, R] := sr_close (p := p1) (c := cap2) (by omega) h12
    refine hi_out [] (Value.int IntKind.i64 1) [] (by kernel_rfl) (by intro q hq; cases hq) ?_
    exact ⟨Value.int IntKind.i64 1, [Sr 70 b L], rfl, ⟨by rw [hnil_]; rfl, by rw [hnil_]; rfl⟩, h17⟩
  ·
    refine plain_batch (rest := []) [⟨5, [], some (Value.bool false)⟩] (l' := ([(12, Value.bool false), (11, Value.int IntKind.i64 (((L.length : Nat) : Int))), (10, Value.slice p1 L.length cap2), (9, Value.pointer (some ⟨b, 1, none⟩)), (8, Value.pointer (some ⟨b, 0, none⟩)), (7, Value.pointer (some ⟨b, 0, none⟩)), (0, Value.pointer (some ⟨b, 0, none⟩)), (2, Value.int IntKind.i64 0), (6, Value.bool false)] : Fr) ++ lr13) (pts' := []) (eqs := [(Value.bool ((((L.length : Nat) : Int)) == 0), Value.bool false)]) (by kernel_rfl) ⟨(ov_ef (by omega)), trivial⟩ (AllC_nil _) ?_
    refine PO.mk ?_
    change WP _ _ (CA Tryd.f26 [1, 1, 0, 1]) _ _ _
    refine fk_cut ([(0, Value.pointer (some ⟨b, 0, none⟩)), (2, Value.int IntKind.i64 0), (6, Value.bool false), (12, Value.bool false)] : Fr) (by kernel_rfl) (fun a => WP _ _ _ _ a _) (fun lr18 => ?_)
    refine gi_cnd (x := (Operand.tmp 12)) (s := CA Tryd.f26 [1, 1, 0, 1, 0]) (t := CA Tryd.f26 [1, 1, 0, 1, 1]) false (by kernel_rfl) (by kernel_rfl) ?_
    change WP _ _ (CA Tryd.f26 [1, 1, 0, 1, 1]) _ _ _
    refine gi_skp (by kernel_rfl) ?_
    change WP _ _ (CA Tryd.f26 [1, 1, 1]) _ _ _
    refine gi_seq (x := CA Tryd.f26 [1, 1, 1, 0]) (y := CA Tryd.f26 [1, 1, 1, 1]) (by kernel_rfl) ?_
    refine gi_pln (id := 5) (ops := RA Tryd.f26 [1, 1, 1, 0]) [0, 1, 2, 3, 4, 5, 6] (by kernel_rfl) (by kernel_rfl) (by kernel_rfl) ?_
    obtain ⟨b19, off21, hp20⟩ := gv_ptr (j := 1) h12 rfl (gv_vw _ _ _) (by omega)
    refine plain_batch (rest := [4, 5, 6]) [⟨0, [], none⟩, ⟨1, [], none⟩, ⟨2, [], none⟩, ⟨3, [Value.slice p1 L.length cap2], none⟩] (l' := ([(16, Value.slice p1 L.length cap2), (15, Value.pointer (some ⟨b, 1, none⟩)), (14, Value.pointer (some ⟨b, 0, none⟩)), (13, Value.pointer (some ⟨b, 0, none⟩)), (0, Value.pointer (some ⟨b, 0, none⟩)), (2, Value.int IntKind.i64 0), (6, Value.bool false), (12, Value.bool false)] : Fr) ++ lr18) (pts' := [(3, ⟨b, 1, none⟩, Value.slice p1 L.length cap2)]) (eqs := []) (by kernel_rfl) trivial (AllC_cons (sat_cell h12 0 rfl rfl) (AllC_nil _)) ?_
    refine plain_law (i := 4) 17 (Value.pointer (some ⟨b19, off21, none⟩)) (by kernel_rfl) (law_indexSlP (o := opA (RA Tryd.f26 [1, 1, 1, 0]) 4) (x := (Operand.tmp 16)) (i := (Operand.const (Value.int IntKind.i64 0))) (p := p1) (b := b19) (off := off21) (z := 0) (len := L.length) (cap := cap2) (by kernel_rfl) Tryd.underlying22 1 (by kernel_rfl) 0 (by kernel_rfl) hp20 (by kernel_rfl) (by omega) (by omega) off21 (by omega) _) ?_
    obtain ⟨x22, hx23⟩ : ∃ x, L[0]? = some x := ⟨_, List.getElem?_eq_getElem (by omega)⟩
    refine plain_batch (rest := []) [⟨5, [Value.int IntKind.i64 x22], none⟩, ⟨6, [], none⟩] (l' := ([(3, Value.int IntKind.i64 x22), (18, Value.int IntKind.i64 x22), (17, Value.pointer (some ⟨b19, off21, none⟩)), (16, Value.slice p1 L.length cap2), (15, Value.pointer (some ⟨b, 1, none⟩)), (14, Value.pointer (some ⟨b, 0, none⟩)), (13, Value.pointer (some ⟨b, 0, none⟩)), (0, Value.pointer (some ⟨b, 0, none⟩)), (2, Value.int IntKind.i64 0), (6, Value.bool false), (12, Value.bool false)] : Fr) ++ lr18) (pts' := [(5, ⟨b19, off21, none⟩, Value.int IntKind.i64 x22)]) (eqs := []) (by kernel_rfl) trivial (AllC_cons (gv_cell (j := 1) h12 rfl (gv_vw _ _ _) hp20 (fl_get eI_ok (j := 0) (v := Value.int IntKind.i64 x22) hx23 rfl) off21 (by omega)) (AllC_nil _)) ?_
    refine PO.mk ?_
    change WP _ _ (CA Tryd.f26 [1, 1, 1, 1]) _ _ _
    refine fk_cut ([(0, Value.pointer (some ⟨b, 0, none⟩)), (2, Value.int IntKind.i64 0), (3, Value.int IntKind.i64 x22), (6, Value.bool false), (12, Value.bool false)] : Fr) (by kernel_rfl) (fun a => WP _ _ _ _ a _) (fun lr24 => ?_)
    refine gi_seq (x := CA Tryd.f26 [1, 1, 1, 1, 0]) (y := CA Tryd.f26 [1, 1, 1, 1, 1]) (by kernel_rfl) ?_
    refine gi_pln (id := 6) (ops := RA Tryd.f26 [1, 1, 1, 1, 0]) [0, 1, 2, 3, 4, 5, 6, 7, 8] (by kernel_rfl) (by kernel_rfl) (by kernel_rfl) ?_
    refine plain_batch (rest := [5, 6, 7, 8]) [⟨0, [], none⟩, ⟨1, [], none⟩, ⟨2, [], none⟩, ⟨3, [], none⟩, ⟨4, [Value.slice p1 L.length cap2], none⟩] (l' := ([(23, Value.slice p1 L.length cap2), (22, Value.pointer (some ⟨b, 1, none⟩)), (21, Value.pointer (some ⟨b, 0, none⟩)), (20, Value.pointer (some ⟨b, 0, none⟩)), (19, Value.pointer (some ⟨b, 0, none⟩)), (0, Value.pointer (some ⟨b, 0, none⟩)), (2, Value.int IntKind.i64 0), (3, Value.int IntKind.i64 x22), (6, Value.bool false), (12, Value.bool false)] : Fr) ++ lr24) (pts' := [(4, ⟨b, 1, none⟩, Value.slice p1 L.length cap2)]) (eqs := []) (by kernel_rfl) trivial (AllC_cons (sat_cell h12 0 rfl rfl) (AllC_nil _)) ?_
    refine plain_law (i := 5) 24 (Value.slice (some ⟨b19, (if cap2 = 1 then off21 else off21 + 1), none⟩) (L.length - 1) (cap2 - 1)) (by kernel_rfl) (law_sliceSlP (p := p1) (o := opA (RA Tryd.f26 [1, 1, 1, 1, 0]) 5) (x := (Operand.tmp 23)) (lo := (some (Operand.const (Value.int IntKind.i64 1)))) (hi := none) (b := b19) (off := off21) (m := L.length) (c := cap2) (by kernel_rfl) Tryd.underlying22 1 (by kernel_rfl) 1 (((L.length : Nat) : Int)) 1 L.length (by kernel_rfl) hp20 (show fe _ _ (Operand.const (Value.int IntKind.i64 1)) = _ from by kernel_rfl) rfl (by omega) (by omega) (by omega) (by omega) ((if cap2 = 1 then off21 else off21 + 1)) (ite_r (by omega)) (L.length - 1) (cap2 - 1) (by omega) (by omega) _) ?_
    refine plain_batch (rest := [8]) [⟨6, [], none⟩, ⟨7, [], none⟩] (l' := ([(26, Value.pointer (some ⟨b, 1, none⟩)), (25, Value.pointer (some ⟨b, 0, none⟩)), (24, Value.slice (some ⟨b19, (if cap2 = 1 then off21 else off21 + 1), none⟩) (L.length - 1) (cap2 - 1)), (23, Value.slice p1 L.length cap2), (22, Value.pointer (some ⟨b, 1, none⟩)), (21, Value.pointer (some ⟨b, 0, none⟩)), (20, Value.pointer (some ⟨b, 0, none⟩)), (19, Value.pointer (some ⟨b, 0, none⟩)), (0, Value.pointer (some ⟨b, 0, none⟩)), (2, Value.int IntKind.i64 0), (3, Value.int IntKind.i64 x22), (6, Value.bool false), (12, Value.bool false)] : Fr) ++ lr24) (pts' := []) (eqs := []) (by kernel_rfl) trivial (AllC_nil _) ?_
    refine plain_act (i := 8) (by kernel_rfl) ?_
    refine an_store [(1, Value.slice (some ⟨b19, (if cap2 = 1 then off21 else off21 + 1), none⟩) (L.length - 1) (cap2 - 1))] (cs' := [Value.bool true, Value.slice (some ⟨b19, (if cap2 = 1 then off21 else off21 + 1), none⟩) (L.length - 1) (cap2 - 1)]) (by kernel_rfl) (by kernel_rfl) (allq ⟨⟨by simp, rfl⟩, trivial⟩) rfl h12 ?_
    intro w25 (h26 : sat g w25 [Cl b [Value.bool true, Value.slice (some ⟨b19, (if cap2 = 1 then off21 else off21 + 1), none⟩) (L.length - 1) (cap2 - 1)] 70, Vw 3 1 p1 L.length cap2 (fl eI L), R])
    refine PO.mk ?_
    change WP _ _ (CA Tryd.f26 [1, 1, 1, 1, 1]) _ _ _
    refine fk_cut ([(0, Value.pointer (some ⟨b, 0, none⟩)), (2, Value.int IntKind.i64 0), (3, Value.int IntKind.i64 x22), (6, Value.bool false), (12, Value.bool false)] : Fr) (by kernel_rfl) (fun a => WP _ _ _ _ a _) (fun lr27 => ?_)
    refine gi_seq (x := CA Tryd.f26 [1, 1, 1, 1, 1, 0]) (y := CA Tryd.f26 [1, 1, 1, 1, 1, 1]) (by kernel_rfl) ?_
    refine gi_pln (id := 7) (ops := RA Tryd.f26 [1, 1, 1, 1, 1, 0]) [0, 1] (by kernel_rfl) (by kernel_rfl) (by kernel_rfl) ?_
    refine plain_batch (rest := []) [⟨0, [], none⟩, ⟨1, [], none⟩] (l' := ([(2, Value.int IntKind.i64 x22), (27, Value.int IntKind.i64 x22), (0, Value.pointer (some ⟨b, 0, none⟩)), (2, Value.int IntKind.i64 0), (3, Value.int IntKind.i64 x22), (6, Value.bool false), (12, Value.bool false)] : Fr) ++ lr27) (pts' := []) (eqs := []) (by kernel_rfl) trivial (AllC_nil _) ?_
    refine PO.mk ?_
    change WP _ _ (CA Tryd.f26 [1, 1, 1, 1, 1, 1]) _ _ _
    refine fk_cut ([(0, Value.pointer (some ⟨b, 0, none⟩)), (2, Value.int IntKind.i64 x22), (3, Value.int IntKind.i64 x22), (6, Value.bool false), (12, Value.bool false)] : Fr) (by kernel_rfl) (fun a => WP _ _ _ _ a _) (fun lr28 => ?_)
    refine gi_rt (by kernel_rfl) ?_
    repeat (first | simp only [Exit.inBlock] | simp only [Exit.then])
    have h29 : sat g w25 [Vw 3 1 p1 L.length cap2 (fl eI L), Cl b [Value.bool true, Value.slice (some ⟨b19, (if cap2 = 1 then off21 else off21 + 1), none⟩) (L.length - 1) (cap2 - 1)] 70, R] := sat_sel [1, 0, 2] rfl h26
    obtain ⟨q30, hq31⟩ : ∃ q : Option Addr, q = some ⟨b19, (if cap2 = 1 then off21 else off21 + 1), none⟩ := ⟨_, rfl⟩
    have h32 : sat g w25 [Vw 3 1 q30 L.tail.length (cap2 - 1) (fl eI L.tail), Cl b [Value.bool true, Value.slice q30 L.tail.length (cap2 - 1)] 70, R] := by
      have h_ := sr_next hp20 hq31 (by omega) (by first | rfl | (split <;> omega)) h29
      rw [← hq31, ← List.length_tail] at h_
      exact h_
    have h33 : sat g w25 [Cl b [Value.bool true, Value.slice q30 L.tail.length (cap2 - 1)] 70, Vw 3 1 q30 L.tail.length (cap2 - 1) (fl eI L.tail), R] := sat_sel [1, 0, 2] rfl h32
    have h34 : sat g w25 [Sr 70 b L.tail, R] := sr_close (p := q30) (c := (cap2 - 1)) (by rw [List.length_tail]; omega) h33
    refine hi_out [] (Value.int IntKind.i64 x22) [] (by kernel_rfl) (by intro q hq; cases hq) ?_
    exact ⟨Value.int IntKind.i64 x22, [Sr 70 b L.tail], rfl, ⟨congrArg (Value.int .i64) (hd_tl hx23).symm, rfl⟩, h34⟩

set_option maxHeartbeats 4000000 in
theorem rleft_ht (b : Nat) (L : List Int) : HT Tryd.prog 30 [Value.pointer (some ⟨b, 0, none⟩)] [Sr 70 b L] (fun v K => v = Value.int .i64 (L.length : Int) ∧ K = [Sr 70 b L]) := by
  refine hi_in 11 ([(0, Value.pointer (some ⟨b, 0, none⟩))] : Fr) Tryd.func30 (by kernel_rfl) Tryd.ntmps30 rfl rfl ?_
  intro g w0 R h0
  obtain ⟨hl4, p1, cap2, h3⟩ := sr_open h0
  have h5 : sat g w0 [Vw 3 1 p1 L.length cap2 (fl eI L), Cl b [Value.bool true, Value.slice p1 L.length cap2] 70, R] := sat_sel [1, 0, 2] rfl h3
  obtain ⟨hn6, hn7⟩ := vw_le h5
  refine gi_seq (x := CA Tryd.f30 [0]) (y := CA Tryd.f30 [1]) (by kernel_rfl) ?_
  refine gi_pln (id := 0) (ops := RA Tryd.f30 [0]) [0] (by kernel_rfl) (by kernel_rfl) (by kernel_rfl) ?_
  refine plain_batch (rest := []) [⟨0, [], none⟩] (l' := ([(2, Value.int IntKind.i64 0), (0, Value.pointer (some ⟨b, 0, none⟩))] : Fr)) (pts' := []) (eqs := []) (by kernel_rfl) trivial (AllC_nil _) ?_
  refine PO.mk ?_
  change WP _ _ (CA Tryd.f30 [1]) _ _ _
  refine fk_cut ([(0, Value.pointer (some ⟨b, 0, none⟩)), (2, Value.int IntKind.i64 0)] : Fr) (by kernel_rfl) (fun a => WP _ _ _ _ a _) (fun lr8 => ?_)
  refine gi_seq (x := CA Tryd.f30 [1, 0]) (y := CA Tryd.f30 [1, 1]) (by kernel_rfl) ?_
  refine gi_seq (x := CA Tryd.f30 [1, 0, 0]) (y := CA Tryd.f30 [1, 0, 1]) (by kernel_rfl) ?_
  refine gi_pln (id := 1) (ops := RA Tryd.f30 [1, 0, 0]) [0, 1, 2] (by kernel_rfl) (by kernel_rfl) (by kernel_rfl) ?_
  refine plain_batch (rest := [1, 2]) [⟨0, [], none⟩] (l' := ([(3, Value.pointer (some ⟨b, 0, none⟩)), (0, Value.pointer (some ⟨b, 0, none⟩)), (2, Value.int IntKind.i64 0)] : Fr) ++ lr8) (pts' := []) (eqs := []) (by kernel_rfl) trivial (AllC_nil _) ?_
  have h9 : sat g w0 [Cl b [Value.bool true, Value.slice p1 L.length cap2] 70, Vw 3 1 p1 L.length cap2 (fl eI L), R] := sat_sel [1, 0, 2] rfl h5
  refine plain_act (i := 1) (by kernel_rfl) ?_
  refine an_call (d := some 4) (f := 37) (args := [Value.pointer (some ⟨b, 0, none⟩)]) (by kernel_rfl) Tryd.call37 (rvalid_ht b _) (F := [Vw 3 1 p1 L.length cap2 (fl eI L), R]) h9 ?_
  rintro v K w10 (⟨rfl, rfl⟩) h11
  refine ⟨_, rfl, ?_⟩
  have h12 : sat g w10 [Cl b [Value.bool true, Value.slice p1 L.length cap2] 70, Vw 3 1 p1 L.length cap2 (fl eI L), R] := h11
  refine plain_batch (rest := []) [⟨2, [], none⟩] (l' := ([(5, Value.bool false), (4, Value.bool true), (3, Value.pointer (some ⟨b, 0, none⟩)), (0, Value.pointer (some ⟨b, 0, none⟩)), (2, Value.int IntKind.i64 0)] : Fr) ++ lr8) (pts' := []) (eqs := []) (by kernel_rfl) trivial (AllC_nil _) ?_
  refine PO.mk ?_
  change WP _ _ (CA Tryd.f30 [1, 0, 1]) _ _ _
  refine fk_cut ([(0, Value.pointer (some ⟨b, 0, none⟩)), (2, Value.int IntKind.i64 0), (5, Value.bool false)] : Fr) (by kernel_rfl) (fun a => WP _ _ _ _ a _) (fun lr13 => ?_)
  refine gi_cnd (x := (Operand.tmp 5)) (s := CA Tryd.f30 [1, 0, 1, 0]) (t := CA Tryd.f30 [1, 0, 1, 1]) false (by kernel_rfl) (by kernel_rfl) ?_
  change WP _ _ (CA Tryd.f30 [1, 0, 1, 1]) _ _ _
  refine gi_skp (by kernel_rfl) ?_
  change WP _ _ (CA Tryd.f30 [1, 1]) _ _ _
  refine gi_seq (x := CA Tryd.f30 [1, 1, 0]) (y := CA Tryd.f30 [1, 1, 1]) (by kernel_rfl) ?_
  refine gi_pln (id := 3) (ops := RA Tryd.f30 [1, 1, 0]) [0, 1, 2, 3, 4, 5] (by kernel_rfl) (by kernel_rfl) (by kernel_rfl) ?_
  refine plain_batch (rest := []) [⟨0, [], none⟩, ⟨1, [], none⟩, ⟨2, [], none⟩, ⟨3, [Value.slice p1 L.length cap2], none⟩, ⟨4, [], none⟩, ⟨5, [], none⟩] (l' := ([(2, Value.int IntKind.i64 (((L.length : Nat) : Int))), (10, Value.int IntKind.i64 (((L.length : Nat) : Int))), (9, Value.slice p1 L.length cap2), (8, Value.pointer (some ⟨b, 1, none⟩)), (7, Value.pointer (some ⟨b, 0, none⟩)), (6, Value.pointer (some ⟨b, 0, none⟩)), (0, Value.pointer (some ⟨b, 0, none⟩)), (2, Value.int IntKind.i64 0), (5, Value.bool false)] : Fr) ++ lr13) (pts' := [(3, ⟨b, 1, none⟩, Value.slice p1 L.length cap2)]) (eqs := []) (by kernel_rfl) trivial (AllC_cons (sat_cell h12 0 rfl rfl) (AllC_nil _)) ?_
  refine PO.mk ?_
  change WP _ _ (CA Tryd.f30 [1, 1, 1]) _ _ _
  refine fk_cut ([(0, Value.pointer (some ⟨b, 0, none⟩)), (2, Value.int IntKind.i64 (((L.length : Nat) : Int))), (5, Value.bool false)] : Fr) (by kernel_rfl) (fun a => WP _ _ _ _ a _) (fun lr14 => ?_)
  refine gi_rt (by kernel_rfl) ?_
  repeat (first | simp only [Exit.inBlock] | simp only [Exit.then])
  have h15 : sat g w10 [Sr 70 b L, R] := sr_close (p := p1) (c := cap2) (by omega) h12
  refine hi_out [] (Value.int IntKind.i64 (((L.length : Nat) : Int))) [] (by kernel_rfl) (by intro q hq; cases hq) ?_
  exact ⟨Value.int IntKind.i64 (((L.length : Nat) : Int)), [Sr 70 b L], rfl, ⟨rfl, rfl⟩, h15⟩

theorem rleft_n (b : Nat) (L : List Int) (n : Nat) (h : L.length = n) : HT Tryd.prog 30 [Value.pointer (some ⟨b, 0, none⟩)] [Sr 70 b L] (fun v K => v = Value.int .i64 (n : Int) ∧ K = [Sr 70 b L]) := h ▸ rleft_ht b L

set_option maxHeartbeats 4000000 in
theorem rpeek_ht (b : Nat) (L : List Int) (z : Int) : HT Tryd.prog 27 [Value.pointer (some ⟨b, 0, none⟩), Value.int IntKind.i64 z] [Sr 70 b L] (fun v K => ∃ p c, v = Value.slice p (pk L z).length c ∧ K = [Sl 3 1 p (pk L z).length c (fl eI (pk L z)), Sr 70 b L]) := by
  refine hi_in 26 ([(0, Value.pointer (some ⟨b, 0, none⟩)), (1, Value.int IntKind.i64 z)] : Fr) Tryd.func27 (by kernel_rfl) Tryd.ntmps27 rfl rfl ?_
  intro g w0 R h0
  obtain ⟨hl4, p1, cap2, h3⟩ := sr_open h0
  have h5 : sat g w0 [Vw 3 1 p1 L.length cap2 (fl eI L), Cl b [Value.bool true, Value.slice p1 L.length cap2] 70, R] := sat_sel [1, 0, 2] rfl h3
  obtain ⟨hn6, hn7⟩ := vw_le h5
  refine gi_seq (x := CA Tryd.f27 [0]) (y := CA Tryd.f27 [1]) (by kernel_rfl) ?_
  refine gi_pln (id := 0) (ops := RA Tryd.f27 [0]) [0] (by kernel_rfl) (by kernel_rfl) (by kernel_rfl) ?_
  refine plain_batch (rest := []) [⟨0, [], none⟩] (l' := ([(4, Value.slice none 0 0), (0, Value.pointer (some ⟨b, 0, none⟩)), (1, Value.int IntKind.i64 z)] : Fr)) (pts' := []) (eqs := []) (by kernel_rfl) trivial (AllC_nil _) ?_
  refine PO.mk ?_
  change WP _ _ (CA Tryd.f27 [1]) _ _ _
  refine fk_cut ([(0, Value.pointer (some ⟨b, 0, none⟩)), (1, Value.int IntKind.i64 z), (4, Value.slice none 0 0)] : Fr) (by kernel_rfl) (fun a => WP _ _ _ _ a _) (fun lr8 => ?_)
  refine gi_seq (x := CA Tryd.f27 [1, 0]) (y := CA Tryd.f27 [1, 1]) (by kernel_rfl) ?_
  refine gi_seq (x := CA Tryd.f27 [1, 0, 0]) (y := CA Tryd.f27 [1, 0, 1]) (by kernel_rfl) ?_
  refine gi_pln (id := 1) (ops := RA Tryd.f27 [1, 0, 0]) [0, 1, 2, 3, 4, 5, 6] (by kernel_rfl) (by kernel_rfl) (by kernel_rfl) ?_
  refine plain_batch (rest := [1, 2, 3, 4, 5, 6]) [⟨0, [], none⟩] (l' := ([(5, Value.pointer (some ⟨b, 0, none⟩)), (0, Value.pointer (some ⟨b, 0, none⟩)), (1, Value.int IntKind.i64 z), (4, Value.slice none 0 0)] : Fr) ++ lr8) (pts' := []) (eqs := []) (by kernel_rfl) trivial (AllC_nil _) ?_
  have h9 : sat g w0 [Cl b [Value.bool true, Value.slice p1 L.length cap2] 70, Vw 3 1 p1 L.length cap2 (fl eI L), R] := sat_sel [1, 0, 2] rfl h5
  refine plain_act (i := 1) (by kernel_rfl) ?_
  refine an_call (d := some 6) (f := 37) (args := [Value.pointer (some ⟨b, 0, none⟩)]) (by kernel_rfl) Tryd.call37 (rvalid_ht b _) (F := [Vw 3 1 p1 L.length cap2 (fl eI L), R]) h9 ?_
  rintro v K w10 (⟨rfl, rfl⟩) h11
  refine ⟨_, rfl, ?_⟩
  have h12 : sat g w10 [Cl b [Value.bool true, Value.slice p1 L.length cap2] 70, Vw 3 1 p1 L.length cap2 (fl eI L), R] := h11
  refine plain_batch (rest := [5, 6]) [⟨2, [], none⟩, ⟨3, [], none⟩, ⟨4, [], none⟩] (l' := ([(9, Value.int IntKind.i64 z), (8, Value.bool false), (7, Value.bool false), (6, Value.bool true), (5, Value.pointer (some ⟨b, 0, none⟩)), (0, Value.pointer (some ⟨b, 0, none⟩)), (1, Value.int IntKind.i64 z), (4, Value.slice none 0 0)] : Fr) ++ lr8) (pts' := []) (eqs := []) (by kernel_rfl) trivial (AllC_nil _) ?_
  by_cases c13 : z < 1
  ·
    refine plain_batch (rest := []) [⟨5, [], some (Value.bool true)⟩, ⟨6, [], none⟩] (l' := ([(11, Value.bool true), (10, Value.bool true), (9, Value.int IntKind.i64 z), (8, Value.bool false), (7, Value.bool false), (6, Value.bool true), (5, Value.pointer (some ⟨b, 0, none⟩)), (0, Value.pointer (some ⟨b, 0, none⟩)), (1, Value.int IntKind.i64 z), (4, Value.slice none 0 0)] : Fr) ++ lr8) (pts' := []) (eqs := [(Value.bool (decide (z < 1)), Value.bool true)]) (by kernel_rfl) ⟨(ov_t (by omega)), trivial⟩ (AllC_nil _) ?_
    refine PO.mk ?_
    change WP _ _ (CA Tryd.f27 [1, 0, 1]) _ _ _
    refine fk_cut ([(0, Value.pointer (some ⟨b, 0, none⟩)), (1, Value.int IntKind.i64 z), (4, Value.slice none 0 0), (11, Value.bool true)] : Fr) (by kernel_rfl) (fun a => WP _ _ _ _ a _) (fun lr14 => ?_)
    refine gi_cnd (x := (Operand.tmp 11)) (s := CA Tryd.f27 [1, 0, 1, 0]) (t := CA Tryd.f27 [1, 0, 1, 1]) true (by kernel_rfl) (by kernel_rfl) ?_
    change WP _ _ (CA Tryd.f27 [1, 0, 1, 0]) _ _ _
    refine gi_seq (x := CA Tryd.f27 [1, 0, 1, 0, 0]) (y := CA Tryd.f27 [1, 0, 1, 0, 1]) (by kernel_rfl) ?_
    refine gi_pln (id := 2) (ops := RA Tryd.f27 [1, 0, 1, 0, 0]) [0] (by kernel_rfl) (by kernel_rfl) (by kernel_rfl) ?_
    refine plain_batch (rest := []) [⟨0, [], none⟩] (l' := ([(4, Value.slice none 0 0), (0, Value.pointer (some ⟨b, 0, none⟩)), (1, Value.int IntKind.i64 z), (4, Value.slice none 0 0), (11, Value.bool true)] : Fr) ++ lr14) (pts' := []) (eqs := []) (by kernel_rfl) trivial (AllC_nil _) ?_
    refine PO.mk ?_
    change WP _ _ (CA Tryd.f27 [1, 0, 1, 0, 1]) _ _ _
    refine fk_cut ([(0, Value.pointer (some ⟨b, 0, none⟩)), (1, Value.int IntKind.i64 z), (4, Value.slice none 0 0), (11, Value.bool true)] : Fr) (by kernel_rfl) (fun a => WP _ _ _ _ a _) (fun lr15 => ?_)
    refine gi_rt (by kernel_rfl) ?_
    repeat (first | simp only [Exit.inBlock] | simp only [Exit.then])
    have h16 : sat g w10 [Sl 3 1 none 0 0 (fl eI []), Cl b [Value.bool true, Value.slice p1 L.length cap2] 70, Vw 3 1 p1 L.length cap2 (fl eI L), R] := sl_nil 3 1 h12
    have h17 : sat g w10 [Sl 3 1 none 0 0 (fl eI (pk L z)), Cl b [Value.bool true, Value.slice p1 L.length cap2] 70, Vw 3 1 p1 L.length cap2 (fl eI L), R] := (show [] = (pk L z) from (pk_lo (by omega)).symm) ▸ h16
    have hn18 : (pk L z).length = 0 := fl_n eI_ok (by decide) h17
    have h19 : sat g w10 [Sl 3 1 none (((pk L z).length)) 0 (fl eI (pk L z)), Cl b [Value.bool true, Value.slice p1 L.length cap2] 70, Vw 3 1 p1 L.length cap2 (fl eI L), R] := (show 0 = ((pk L z).length) from hn18.symm) ▸ h17
    have h20 : sat g w10 [Cl b [Value.bool true, Value.slice p1 L.length cap2] 70, Vw 3 1 p1 L.length cap2 (fl eI L), Sl 3 1 none (((pk L z).length)) 0 (fl eI (pk L z)), R] := sat_sel [1, 2, 0, 3] rfl h19
    have h21 : sat g w10 [Sr 70 b L, Sl 3 1 none (((pk L z).length)) 0 (fl eI (pk L z)), R] := sr_close (p := p1) (c := cap2) (by omega) h20
    have h22 : sat g w10 [Sl 3 1 none (((pk L z).length)) 0 (fl eI (pk L z)), Sr 70 b L, R] := sat_sel [1, 0, 2] rfl h21
    refine hi_out [] (Value.slice none 0 0) [] (by kernel_rfl) (by intro q hq; cases hq) ?_
    exact ⟨Value.slice none 0 0, [Sl 3 1 none (((pk L z).length)) 0 (fl eI (pk L z)), Sr 70 b L], rfl, ⟨none, 0, (by rw [hn18]), rfl⟩, h22⟩
  ·
    refine plain_batch (rest := []) [⟨5, [], some (Value.bool false)⟩, ⟨6, [], none⟩] (l' := ([(11, Value.bool false), (10, Value.bool false), (9, Value.int IntKind.i64 z), (8, Value.bool false), (7, Value.bool false), (6, Value.bool true), (5, Value.pointer (some ⟨b, 0, none⟩)), (0, Value.pointer (some ⟨b, 0, none⟩)), (1, Value.int IntKind.i64 z), (4, Value.slice none 0 0)] : Fr) ++ lr8) (pts' := []) (eqs := [(Value.bool (decide (z < 1)), Value.bool false)]) (by kernel_rfl) ⟨(ov_f (by omega)), trivial⟩ (AllC_nil _) ?_
    refine PO.mk ?_
    change WP _ _ (CA Tryd.f27 [1, 0, 1]) _ _ _
    refine fk_cut ([(0, Value.pointer (some ⟨b, 0, none⟩)), (1, Value.int IntKind.i64 z), (4, Value.slice none 0 0), (11, Value.bool false)] : Fr) (by kernel_rfl) (fun a => WP _ _ _ _ a _) (fun lr23 => ?_)
    refine gi_cnd (x := (Operand.tmp 11)) (s := CA Tryd.f27 [1, 0, 1, 0]) (t := CA Tryd.f27 [1, 0, 1, 1]) false (by kernel_rfl) (by kernel_rfl) ?_
    change WP _ _ (CA Tryd.f27 [1, 0, 1, 1]) _ _ _
    refine gi_skp (by kernel_rfl) ?_
    change WP _ _ (CA Tryd.f27 [1, 1]) _ _ _
    refine gi_seq (x := CA Tryd.f27 [1, 1, 0]) (y := CA Tryd.f27 [1, 1, 1]) (by kernel_rfl) ?_
    refine gi_drw (id := 3) (ops := RA Tryd.f27 [1, 1, 0]) (Tr.fl 1 (Tr.fl 2 (Tr.fl 3 (Tr.fl 4 (Tr.fl 5 (Tr.fl 6 (Tr.fl 7 (Tr.fl 8 (Tr.fl 9 (Tr.fl 10 (Tr.fl 11 (Tr.fl 12 (Tr.an 0 (Tr.an 13 (Tr.fl 14 Tr.nil))))))))))))))) (by kernel_rfl) (by kernel_rfl) (by kernel_rfl) (by kernel_rfl) (by kernel_rfl) (fun _ _ d _ _ h => by cases d <;> exact h) h12 ?_
    intro w24 h25
    refine draw_batch (t := (Tr.fl 11 (Tr.fl 12 (Tr.an 0 (Tr.an 13 (Tr.fl 14 Tr.nil)))))) [⟨1, [], none⟩, ⟨2, [], none⟩, ⟨3, [], none⟩, ⟨4, [Value.slice p1 L.length cap2], none⟩, ⟨5, [], none⟩, ⟨6, [], none⟩, ⟨7, [], none⟩, ⟨8, [], none⟩, ⟨9, [Value.slice p1 L.length cap2], none⟩, ⟨10, [], none⟩] (l' := ([(22, Value.int IntKind.i64 (((L.length : Nat) : Int))), (21, Value.slice p1 L.length cap2), (20, Value.pointer (some ⟨b, 1, none⟩)), (19, Value.pointer (some ⟨b, 0, none⟩)), (18, Value.pointer (some ⟨b, 0, none⟩)), (17, Value.int IntKind.i64 z), (16, Value.slice p1 L.length cap2), (15, Value.pointer (some ⟨b, 1, none⟩)), (14, Value.pointer (some ⟨b, 0, none⟩)), (13, Value.pointer (some ⟨b, 0, none⟩)), (0, Value.pointer (some ⟨b, 0, none⟩)), (1, Value.int IntKind.i64 z), (4, Value.slice none 0 0), (11, Value.bool false)] : Fr) ++ lr23) (pts' := [(9, ⟨b, 1, none⟩, Value.slice p1 L.length cap2), (4, ⟨b, 1, none⟩, Value.slice p1 L.length cap2)]) (eqs := []) (by kernel_rfl) trivial (AllC_cons (sat_cell h25 0 rfl rfl) (AllC_cons (sat_cell h25 0 rfl rfl) (AllC_nil _))) ?_
    by_cases c26 : ((L.length : Nat) : Int) < z
    ·
      refine draw_batch (t := (Tr.fl 12 (Tr.an 0 (Tr.an 13 (Tr.fl 14 Tr.nil))))) [⟨11, [], some (Value.int IntKind.i64 (((L.length : Nat) : Int)))⟩] (l' := ([(23, Value.int IntKind.i64 (((L.length : Nat) : Int))), (22, Value.int IntKind.i64 (((L.length : Nat) : Int))), (21, Value.slice p1 L.length cap2), (20, Value.pointer (some ⟨b, 1, none⟩)), (19, Value.pointer (some ⟨b, 0, none⟩)), (18, Value.pointer (some ⟨b, 0, none⟩)), (17, Value.int IntKind.i64 z), (16, Value.slice p1 L.length cap2), (15, Value.pointer (some ⟨b, 1, none⟩)), (14, Value.pointer (some ⟨b, 0, none⟩)), (13, Value.pointer (some ⟨b, 0, none⟩)), (0, Value.pointer (some ⟨b, 0, none⟩)), (1, Value.int IntKind.i64 z), (4, Value.slice none 0 0), (11, Value.bool false)] : Fr) ++ lr23) (pts' := []) (eqs := [(Value.int IntKind.i64 (if ((L.length : Nat) : Int) < z then ((L.length : Nat) : Int) else z), Value.int IntKind.i64 (((L.length : Nat) : Int)))]) (by kernel_rfl) ⟨(ov_int (if_pos (by omega))), trivial⟩ (AllC_nil _) ?_
      refine draw_law (i := 12) 24 (Value.slice p1 L.length cap2) [] (by kernel_rfl) (fun _ _ => law_sliceTo (o := opA (RA Tryd.f27 [1, 1, 0]) 12) (x := (Operand.tmp 16)) (y := (Operand.tmp 23)) (p := p1) (m := L.length) (c := cap2) (z := (((L.length : Nat) : Int))) (by kernel_rfl) Tryd.underlying22 (by kernel_rfl) (by kernel_rfl) (by kernel_rfl) L.length (by omega) (by omega) _) (by intro q hq; cases hq) ?_
      refine draw_act (i := 0) [(9, ⟨b, 1, none⟩, Value.slice p1 L.length cap2), (4, ⟨b, 1, none⟩, Value.slice p1 L.length cap2)] (by kernel_rfl) (by kernel_rfl) ?_
      refine an_new (d := 12) (fun xb_ => Value.slice (some ⟨xb_, 0, none⟩) 0 0) (fun xb_ => Obj.cells [].toArray 3 (0, 0)) (fun xb_ => by kernel_rfl) (by kernel_rfl) rfl h25 ?_
      intro r27 w28 (h29 : sat g w28 [Cl r27 [] 3, Cl b [Value.bool true, Value.slice p1 L.length cap2] 70, Vw 3 1 p1 L.length cap2 (fl eI L), R])
      refine ⟨(AllC_cons (sat_cell h29 1 rfl rfl) (AllC_cons (sat_cell h29 1 rfl rfl) (AllC_nil _))), ?_⟩
      have h30 : sat g w28 [Sl 3 1 (some ⟨r27, 0, none⟩) 0 0 (fl eI []), Cl b [Value.bool true, Value.slice p1 L.length cap2] 70, Vw 3 1 p1 L.length cap2 (fl eI L), R] := sl_of_cl h29 rfl (by omega)
      refine draw_act (i := 13) [(9, ⟨b, 1, none⟩, Value.slice p1 L.length cap2), (4, ⟨b, 1, none⟩, Value.slice p1 L.length cap2)] (by kernel_rfl) (by kernel_rfl) ?_
      refine an_append_gv (d := 25) (sz := 1) (s := (Operand.tmp 12)) (x := (Operand.tmp 24)) (z := Value.int IntKind.i64 0) (p := (some ⟨r27, 0, none⟩)) (p2 := p1) (m := 0) (c := 0) (k := L.length) (c2 := cap2) (by_ := 8) (by kernel_rfl) (by kernel_rfl) rfl Tryd.underlying22 (by kernel_rfl) rfl (by decide) (by kernel_rfl) (by kernel_rfl) h30 2 rfl (fl eI L) (gv_vw _ _ _) (fl_len eI_ok _) (fl_one eI_ok _) (by omega) (by omega) L.length (by omega) ?_
      intro p31 cap32 w33 (h34 : sat g w33 [Sl 3 1 p31 L.length cap32 ((fl eI []) ++ (fl eI L)), Cl b [Value.bool true, Value.slice p1 L.length cap2] 70, Vw 3 1 p1 L.length cap2 (fl eI L), R])
      have h35 : sat g w33 [Sl 3 1 p31 L.length cap32 (fl eI L), Cl b [Value.bool true, Value.slice p1 L.length cap2] 70, Vw 3 1 p1 L.length cap2 (fl eI L), R] := sat_imp h34 (fun _ hh => by exact hh)
      obtain ⟨hn36, hn37⟩ := sl_le h35
      refine ⟨(AllC_cons (sat_cell h35 1 rfl rfl) (AllC_cons (sat_cell h35 1 rfl rfl) (AllC_nil _))), ?_⟩
      refine draw_batch (t := Tr.nil) [⟨14, [], none⟩] (l' := ([(4, Value.slice p31 L.length cap32), (25, Value.slice p31 L.length cap32), (12, Value.slice (some ⟨r27, 0, none⟩) 0 0), (24, Value.slice p1 L.length cap2), (23, Value.int IntKind.i64 (((L.length : Nat) : Int))), (22, Value.int IntKind.i64 (((L.length : Nat) : Int))), (21, Value.slice p1 L.length cap2), (20, Value.pointer (some ⟨b, 1, none⟩)), (19, Value.pointer (some ⟨b, 0, none⟩)), (18, Value.pointer (some ⟨b, 0, none⟩)), (17, Value.int IntKind.i64 z), (16, Value.slice p1 L.length cap2), (15, Value.pointer (some ⟨b, 1, none⟩)), (14, Value.pointer (some ⟨b, 0, none⟩)), (13, Value.pointer (some ⟨b, 0, none⟩)), (0, Value.pointer (some ⟨b, 0, none⟩)), (1, Value.int IntKind.i64 z), (4, Value.slice none 0 0), (11, Value.bool false)] : Fr) ++ lr23) (pts' := []) (eqs := []) (by kernel_rfl) trivial (AllC_nil _) ?_
      change WP _ _ (CA Tryd.f27 [1, 1, 1]) _ _ _
      refine fk_cut ([(0, Value.pointer (some ⟨b, 0, none⟩)), (1, Value.int IntKind.i64 z), (4, Value.slice p31 L.length cap32), (11, Value.bool false)] : Fr) (by kernel_rfl) (fun a => WP _ _ _ _ a _) (fun lr38 => ?_)
      refine gi_rt (by kernel_rfl) ?_
      repeat (first | simp only [Exit.inBlock] | simp only [Exit.then])
      have h39 : sat g w33 [Sl 3 1 p31 L.length cap32 (fl eI (pk L z)), Cl b [Value.bool true, Value.slice p1 L.length cap2] 70, Vw 3 1 p1 L.length cap2 (fl eI L), R] := (show L = (pk L z) from (pk_hi (by omega)).symm) ▸ h35
      have hn40 : (pk L z).length = L.length := fl_n eI_ok (by decide) h39
      have h41 : sat g w33 [Sl 3 1 p31 (((pk L z).length)) cap32 (fl eI (pk L z)), Cl b [Value.bool true, Value.slice p1 L.length cap2] 70, Vw 3 1 p1 L.length cap2 (fl eI L), R] := (show L.length = ((pk L z).length) from hn40.symm) ▸ h39
      have h42 : sat g w33 [Cl b [Value.bool true, Value.slice p1 L.length cap2] 70, Vw 3 1 p1 L.length cap2 (fl eI L), Sl 3 1 p31 (((pk L z).length)) cap32 (fl eI (pk L z)), R] := sat_sel [1, 2, 0, 3] rfl h41
      have h43 : sat g w33 [Sr 70 b L, Sl 3 1 p31 (((pk L z).length)) cap32 (fl eI (pk L z)), R] := sr_close (p := p1) (c := cap2) (by omega) h42
      have h44 : sat g w33 [Sl 3 1 p31 (((pk L z).length)) cap32 (fl eI (pk L z)), Sr 70 b L, R] := sat_sel [1, 0, 2] rfl h43
      refine hi_out [] (Value.slice p31 L.length cap32) [] (by kernel_rfl) (by intro q hq; cases hq) ?_
      exact ⟨Value.slice p31 L.length cap32, [Sl 3 1 p31 (((pk L z).length)) cap32 (fl eI (pk L z)), Sr 70 b L], rfl, ⟨p31, cap32, (by rw [hn40]), rfl⟩, h44⟩
    ·
      obtain ⟨kk45, hk46⟩ : ∃ z_ : Nat, z = (z_ : Int) := ⟨(z).toNat, by omega⟩
      refine draw_batch (t := (Tr.fl 12 (Tr.an 0 (Tr.an 13 (Tr.fl 14 Tr.nil))))) [⟨11, [], some (Value.int IntKind.i64 z)⟩] (l' := ([(23, Value.int IntKind.i64 z), (22, Value.int IntKind.i64 (((L.length : Nat) : Int))), (21, Value.slice p1 L.length cap2), (20, Value.pointer (some ⟨b, 1, none⟩)), (19, Value.pointer (some ⟨b, 0, none⟩)), (18, Value.pointer (some ⟨b, 0, none⟩)), (17, Value.int IntKind.i64 z), (16, Value.slice p1 L.length cap2), (15, Value.pointer (some ⟨b, 1, none⟩)), (14, Value.pointer (some ⟨b, 0, none⟩)), (13, Value.pointer (some ⟨b, 0, none⟩)), (0, Value.pointer (some ⟨b, 0, none⟩)), (1, Value.int IntKind.i64 z), (4, Value.slice none 0 0), (11, Value.bool false)] : Fr) ++ lr23) (pts' := []) (eqs := [(Value.int IntKind.i64 (if ((L.length : Nat) : Int) < z then ((L.length : Nat) : Int) else z), Value.int IntKind.i64 z)]) (by kernel_rfl) ⟨(ov_int (if_neg (by omega))), trivial⟩ (AllC_nil _) ?_
      refine draw_law (i := 12) 24 (Value.slice p1 kk45 cap2) [] (by kernel_rfl) (fun _ _ => law_sliceTo (o := opA (RA Tryd.f27 [1, 1, 0]) 12) (x := (Operand.tmp 16)) (y := (Operand.tmp 23)) (p := p1) (m := L.length) (c := cap2) (z := z) (by kernel_rfl) Tryd.underlying22 (by kernel_rfl) (by kernel_rfl) (by kernel_rfl) kk45 (by omega) (by omega) _) (by intro q hq; cases hq) ?_
      refine draw_act (i := 0) [(9, ⟨b, 1, none⟩, Value.slice p1 L.length cap2), (4, ⟨b, 1, none⟩, Value.slice p1 L.length cap2)] (by kernel_rfl) (by kernel_rfl) ?_
      refine an_new (d := 12) (fun xb_ => Value.slice (some ⟨xb_, 0, none⟩) 0 0) (fun xb_ => Obj.cells [].toArray 3 (0, 0)) (fun xb_ => by kernel_rfl) (by kernel_rfl) rfl h25 ?_
      intro r47 w48 (h49 : sat g w48 [Cl r47 [] 3, Cl b [Value.bool true, Value.slice p1 L.length cap2] 70, Vw 3 1 p1 L.length cap2 (fl eI L), R])
      refine ⟨(AllC_cons (sat_cell h49 1 rfl rfl) (AllC_cons (sat_cell h49 1 rfl rfl) (AllC_nil _))), ?_⟩
      have h50 : sat g w48 [Sl 3 1 (some ⟨r47, 0, none⟩) 0 0 (fl eI []), Cl b [Value.bool true, Value.slice p1 L.length cap2] 70, Vw 3 1 p1 L.length cap2 (fl eI L), R] := sl_of_cl h49 rfl (by omega)
      refine draw_act (i := 13) [(9, ⟨b, 1, none⟩, Value.slice p1 L.length cap2), (4, ⟨b, 1, none⟩, Value.slice p1 L.length cap2)] (by kernel_rfl) (by kernel_rfl) ?_
      refine an_append_gv (d := 25) (sz := 1) (s := (Operand.tmp 12)) (x := (Operand.tmp 24)) (z := Value.int IntKind.i64 0) (p := (some ⟨r47, 0, none⟩)) (p2 := p1) (m := 0) (c := 0) (k := kk45) (c2 := cap2) (by_ := 8) (by kernel_rfl) (by kernel_rfl) rfl Tryd.underlying22 (by kernel_rfl) rfl (by decide) (by kernel_rfl) (by kernel_rfl) h50 2 rfl (fl eI (L.take kk45)) (gv_list eI_ok (gv_vw _ _ _) (by omega)) (by rw [fl_len eI_ok, show ((L.take kk45)).length = kk45 from (by rw [List.length_take]; omega)]) (fl_one eI_ok _) (by omega) (by omega) kk45 (by omega) ?_
      intro p51 cap52 w53 (h54 : sat g w53 [Sl 3 1 p51 kk45 cap52 ((fl eI []) ++ (fl eI (L.take kk45))), Cl b [Value.bool true, Value.slice p1 L.length cap2] 70, Vw 3 1 p1 L.length cap2 (fl eI L), R])
      have h55 : sat g w53 [Sl 3 1 p51 kk45 cap52 (fl eI (L.take kk45)), Cl b [Value.bool true, Value.slice p1 L.length cap2] 70, Vw 3 1 p1 L.length cap2 (fl eI L), R] := sat_imp h54 (fun _ hh => by exact hh)
      obtain ⟨hn56, hn57⟩ := sl_le h55
      refine ⟨(AllC_cons (sat_cell h55 1 rfl rfl) (AllC_cons (sat_cell h55 1 rfl rfl) (AllC_nil _))), ?_⟩
      refine draw_batch (t := Tr.nil) [⟨14, [], none⟩] (l' := ([(4, Value.slice p51 kk45 cap52), (25, Value.slice p51 kk45 cap52), (12, Value.slice (some ⟨r47, 0, none⟩) 0 0), (24, Value.slice p1 kk45 cap2), (23, Value.int IntKind.i64 z), (22, Value.int IntKind.i64 (((L.length : Nat) : Int))), (21, Value.slice p1 L.length cap2), (20, Value.pointer (some ⟨b, 1, none⟩)), (19, Value.pointer (some ⟨b, 0, none⟩)), (18, Value.pointer (some ⟨b, 0, none⟩)), (17, Value.int IntKind.i64 z), (16, Value.slice p1 L.length cap2), (15, Value.pointer (some ⟨b, 1, none⟩)), (14, Value.pointer (some ⟨b, 0, none⟩)), (13, Value.pointer (some ⟨b, 0, none⟩)), (0, Value.pointer (some ⟨b, 0, none⟩)), (1, Value.int IntKind.i64 z), (4, Value.slice none 0 0), (11, Value.bool false)] : Fr) ++ lr23) (pts' := []) (eqs := []) (by kernel_rfl) trivial (AllC_nil _) ?_
      change WP _ _ (CA Tryd.f27 [1, 1, 1]) _ _ _
      refine fk_cut ([(0, Value.pointer (some ⟨b, 0, none⟩)), (1, Value.int IntKind.i64 z), (4, Value.slice p51 kk45 cap52), (11, Value.bool false)] : Fr) (by kernel_rfl) (fun a => WP _ _ _ _ a _) (fun lr58 => ?_)
      refine gi_rt (by kernel_rfl) ?_
      repeat (first | simp only [Exit.inBlock] | simp only [Exit.then])
      have h59 : sat g w53 [Sl 3 1 p51 kk45 cap52 (fl eI (pk L z)), Cl b [Value.bool true, Value.slice p1 L.length cap2] 70, Vw 3 1 p1 L.length cap2 (fl eI L), R] := (show (L.take kk45) = (pk L z) from (pk_mid (by omega))) ▸ h55
      have hn60 : (pk L z).length = kk45 := fl_n eI_ok (by decide) h59
      have h61 : sat g w53 [Sl 3 1 p51 (((pk L z).length)) cap52 (fl eI (pk L z)), Cl b [Value.bool true, Value.slice p1 L.length cap2] 70, Vw 3 1 p1 L.length cap2 (fl eI L), R] := (show kk45 = ((pk L z).length) from hn60.symm) ▸ h59
      have h62 : sat g w53 [Cl b [Value.bool true, Value.slice p1 L.length cap2] 70, Vw 3 1 p1 L.length cap2 (fl eI L), Sl 3 1 p51 (((pk L z).length)) cap52 (fl eI (pk L z)), R] := sat_sel [1, 2, 0, 3] rfl h61
      have h63 : sat g w53 [Sr 70 b L, Sl 3 1 p51 (((pk L z).length)) cap52 (fl eI (pk L z)), R] := sr_close (p := p1) (c := cap2) (by omega) h62
      have h64 : sat g w53 [Sl 3 1 p51 (((pk L z).length)) cap52 (fl eI (pk L z)), Sr 70 b L, R] := sat_sel [1, 0, 2] rfl h63
      refine hi_out [] (Value.slice p51 kk45 cap52) [] (by kernel_rfl) (by intro q hq; cases hq) ?_
      exact ⟨Value.slice p51 kk45 cap52, [Sl 3 1 p51 (((pk L z).length)) cap52 (fl eI (pk L z)), Sr 70 b L], rfl, ⟨p51, cap52, (by rw [hn60]), rfl⟩, h64⟩

set_option maxHeartbeats 4000000 in
theorem rcopy_ht (b : Nat) (L : List Int) : HT Tryd.prog 29 [Value.pointer (some ⟨b, 0, none⟩)] [Sr 70 b L] (fun v K => ∃ b2, v = Value.pointer (some ⟨b2, 0, none⟩) ∧ K = [Sr 70 b2 L, Sr 70 b L]) := by
  refine hi_in 14 ([(0, Value.pointer (some ⟨b, 0, none⟩))] : Fr) Tryd.func29 (by kernel_rfl) Tryd.ntmps29 rfl rfl ?_
  intro g w0 R h0
  obtain ⟨hl4, p1, cap2, h3⟩ := sr_open h0
  have h5 : sat g w0 [Vw 3 1 p1 L.length cap2 (fl eI L), Cl b [Value.bool true, Value.slice p1 L.length cap2] 70, R] := sat_sel [1, 0, 2] rfl h3
  obtain ⟨hn6, hn7⟩ := vw_le h5
  refine gi_seq (x := CA Tryd.f29 [0]) (y := CA Tryd.f29 [1]) (by kernel_rfl) ?_
  refine gi_pln (id := 0) (ops := RA Tryd.f29 [0]) [0] (by kernel_rfl) (by kernel_rfl) (by kernel_rfl) ?_
  refine plain_batch (rest := []) [⟨0, [], none⟩] (l' := ([(2, Value.pointer none), (0, Value.pointer (some ⟨b, 0, none⟩))] : Fr)) (pts' := []) (eqs := []) (by kernel_rfl) trivial (AllC_nil _) ?_
  refine PO.mk ?_
  change WP _ _ (CA Tryd.f29 [1]) _ _ _
  refine fk_cut ([(0, Value.pointer (some ⟨b, 0, none⟩)), (2, Value.pointer none)] : Fr) (by kernel_rfl) (fun a => WP _ _ _ _ a _) (fun lr8 => ?_)
  refine gi_seq (x := CA Tryd.f29 [1, 0]) (y := CA Tryd.f29 [1, 1]) (by kernel_rfl) ?_
  refine gi_seq (x := CA Tryd.f29 [1, 0, 0]) (y := CA Tryd.f29 [1, 0, 1]) (by kernel_rfl) ?_
  refine gi_pln (id := 1) (ops := RA Tryd.f29 [1, 0, 0]) [0, 1, 2] (by kernel_rfl) (by kernel_rfl) (by kernel_rfl) ?_
  refine plain_batch (rest := [1, 2]) [⟨0, [], none⟩] (l' := ([(3, Value.pointer (some ⟨b, 0, none⟩)), (0, Value.pointer (some ⟨b, 0, none⟩)), (2, Value.pointer none)] : Fr) ++ lr8) (pts' := []) (eqs := []) (by kernel_rfl) trivial (AllC_nil _) ?_
  have h9 : sat g w0 [Cl b [Value.bool true, Value.slice p1 L.length cap2] 70, Vw 3 1 p1 L.length cap2 (fl eI L), R] := sat_sel [1, 0, 2] rfl h5
  refine plain_act (i := 1) (by kernel_rfl) ?_
  refine an_call (d := some 4) (f := 37) (args := [Value.pointer (some ⟨b, 0, none⟩)]) (by kernel_rfl) Tryd.call37 (rvalid_ht b _) (F := [Vw 3 1 p1 L.length cap2 (fl eI L), R]) h9 ?_
  rintro v K w10 (⟨rfl, rfl⟩) h11
  refine ⟨_, rfl, ?_⟩
  have h12 : sat g w10 [Cl b [Value.bool true, Value.slice p1 L.length cap2] 70, Vw 3 1 p1 L.length cap2 (fl eI L), R] := h11
  refine plain_batch (rest := []) [⟨2, [], none⟩] (l' := ([(5, Value.bool false), (4, Value.bool true), (3, Value.pointer (some ⟨b, 0, none⟩)), (0, Value.pointer (some ⟨b, 0, none⟩)), (2, Value.pointer none)] : Fr) ++ lr8) (pts' := []) (eqs := []) (by kernel_rfl) trivial (AllC_nil _) ?_
  refine PO.mk ?_
  change WP _ _ (CA Tryd.f29 [1, 0, 1]) _ _ _
  refine fk_cut ([(0, Value.pointer (some ⟨b, 0, none⟩)), (2, Value.pointer none), (5, Value.bool false)] : Fr) (by kernel_rfl) (fun a => WP _ _ _ _ a _) (fun lr13 => ?_)
  refine gi_cnd (x := (Operand.tmp 5)) (s := CA Tryd.f29 [1, 0, 1, 0]) (t := CA Tryd.f29 [1, 0, 1, 1]) false (by kernel_rfl) (by kernel_rfl) ?_
  change WP _ _ (CA Tryd.f29 [1, 0, 1, 1]) _ _ _
  refine gi_skp (by kernel_rfl) ?_
  change WP _ _ (CA Tryd.f29 [1, 1]) _ _ _
  refine gi_seq (x := CA Tryd.f29 [1, 1, 0]) (y := CA Tryd.f29 [1, 1, 1]) (by kernel_rfl) ?_
  refine gi_pln (id := 3) (ops := RA Tryd.f29 [1, 1, 0]) [0, 1, 2, 3, 4, 5, 6, 7, 8] (by kernel_rfl) (by kernel_rfl) (by kernel_rfl) ?_
  refine plain_act (i := 0) (by kernel_rfl) ?_
  refine an_new (d := 6) (fun xb_ => Value.slice (some ⟨xb_, 0, none⟩) 0 0) (fun xb_ => Obj.cells [].toArray 3 (0, 0)) (fun xb_ => by kernel_rfl) (by kernel_rfl) rfl h12 ?_
  intro r14 w15 (h16 : sat g w15 [Cl r14 [] 3, Cl b [Value.bool true, Value.slice p1 L.length cap2] 70, Vw 3 1 p1 L.length cap2 (fl eI L), R])
  refine plain_batch (rest := [5, 6, 7, 8]) [⟨1, [], none⟩, ⟨2, [], none⟩, ⟨3, [], none⟩, ⟨4, [Value.slice p1 L.length cap2], none⟩] (l' := ([(10, Value.slice p1 L.length cap2), (9, Value.pointer (some ⟨b, 1, none⟩)), (8, Value.pointer (some ⟨b, 0, none⟩)), (7, Value.pointer (some ⟨b, 0, none⟩)), (6, Value.slice (some ⟨r14, 0, none⟩) 0 0), (0, Value.pointer (some ⟨b, 0, none⟩)), (2, Value.pointer none), (5, Value.bool false)] : Fr) ++ lr13) (pts' := [(4, ⟨b, 1, none⟩, Value.slice p1 L.length cap2)]) (eqs := []) (by kernel_rfl) trivial (AllC_cons (sat_cell h16 1 rfl rfl) (AllC_nil _)) ?_
  have h17 : sat g w15 [Sl 3 1 (some ⟨r14, 0, none⟩) 0 0 (fl eI []), Cl b [Value.bool true, Value.slice p1 L.length cap2] 70, Vw 3 1 p1 L.length cap2 (fl eI L), R] := sl_of_cl h16 rfl (by omega)
  refine plain_act (i := 5) (by kernel_rfl) ?_
  refine an_append_gv (d := 11) (sz := 1) (s := (Operand.tmp 6)) (x := (Operand.tmp 10)) (z := Value.int IntKind.i64 0) (p := (some ⟨r14, 0, none⟩)) (p2 := p1) (m := 0) (c := 0) (k := L.length) (c2 := cap2) (by_ := 8) (by kernel_rfl) (by kernel_rfl) rfl Tryd.underlying22 (by kernel_rfl) rfl (by decide) (by kernel_rfl) (by kernel_rfl) h17 2 rfl (fl eI L) (gv_vw _ _ _) (fl_len eI_ok _) (fl_one eI_ok _) (by omega) (by omega) L.length (by omega) ?_
  intro p18 cap19 w20 (h21 : sat g w20 [Sl 3 1 p18 L.length cap19 ((fl eI []) ++ (fl eI L)), Cl b [Value.bool true, Value.slice p1 L.length cap2] 70, Vw 3 1 p1 L.length cap2 (fl eI L), R])
  have h22 : sat g w20 [Sl 3 1 p18 L.length cap19 (fl eI L), Cl b [Value.bool true, Value.slice p1 L.length cap2] 70, Vw 3 1 p1 L.length cap2 (fl eI L), R] := sat_imp h21 (fun _ hh => by exact hh)
  obtain ⟨hn23, hn24⟩ := sl_le h22
  refine plain_batch (rest := [7, 8]) [⟨6, [], none⟩] (l' := ([(12, Value.agg #[Value.bool true, Value.slice p18 L.length cap19]), (11, Value.slice p18 L.length cap19), (10, Value.slice p1 L.length cap2), (9, Value.pointer (some ⟨b, 1, none⟩)), (8, Value.pointer (some ⟨b, 0, none⟩)), (7, Value.pointer (some ⟨b, 0, none⟩)), (6, Value.slice (some ⟨r14, 0, none⟩) 0 0), (0, Value.pointer (some ⟨b, 0, none⟩)), (2, Value.pointer none), (5, Value.bool false)] : Fr) ++ lr13) (pts' := []) (eqs := []) (by kernel_rfl) trivial (AllC_nil _) ?_
  refine plain_act (i := 7) (by kernel_rfl) ?_
  refine an_new (d := 13) (fun xb_ => Value.pointer (some ⟨xb_, 0, none⟩)) (fun xb_ => Obj.cells [Value.bool true, Value.slice p18 L.length cap19].toArray 70 (0, 0)) (fun xb_ => by kernel_rfl) (by kernel_rfl) rfl h22 ?_
  intro r25 w26 (h27 : sat g w26 [Cl r25 [Value.bool true, Value.slice p18 L.length cap19] 70, Sl 3 1 p18 L.length cap19 (fl eI L), Cl b [Value.bool true, Value.slice p1 L.length cap2] 70, Vw 3 1 p1 L.length cap2 (fl eI L), R])
  refine plain_batch (rest := []) [⟨8, [], none⟩] (l' := ([(2, Value.pointer (some ⟨r25, 0, none⟩)), (13, Value.pointer (some ⟨r25, 0, none⟩)), (12, Value.agg #[Value.bool true, Value.slice p18 L.length cap19]), (11, Value.slice p18 L.length cap19), (10, Value.slice p1 L.length cap2), (9, Value.pointer (some ⟨b, 1, none⟩)), (8, Value.pointer (some ⟨b, 0, none⟩)), (7, Value.pointer (some ⟨b, 0, none⟩)), (6, Value.slice (some ⟨r14, 0, none⟩) 0 0), (0, Value.pointer (some ⟨b, 0, none⟩)), (2, Value.pointer none), (5, Value.bool false)] : Fr) ++ lr13) (pts' := []) (eqs := []) (by kernel_rfl) trivial (AllC_nil _) ?_
  refine PO.mk ?_
  change WP _ _ (CA Tryd.f29 [1, 1, 1]) _ _ _
  refine fk_cut ([(0, Value.pointer (some ⟨b, 0, none⟩)), (2, Value.pointer (some ⟨r25, 0, none⟩)), (5, Value.bool false)] : Fr) (by kernel_rfl) (fun a => WP _ _ _ _ a _) (fun lr28 => ?_)
  refine gi_rt (by kernel_rfl) ?_
  repeat (first | simp only [Exit.inBlock] | simp only [Exit.then])
  have h29 : sat g w26 [Cl b [Value.bool true, Value.slice p1 L.length cap2] 70, Vw 3 1 p1 L.length cap2 (fl eI L), Cl r25 [Value.bool true, Value.slice p18 L.length cap19] 70, Sl 3 1 p18 L.length cap19 (fl eI L), R] := sat_sel [2, 3, 0, 1, 4] rfl h27
  have h30 : sat g w26 [Sr 70 b L, Cl r25 [Value.bool true, Value.slice p18 L.length cap19] 70, Sl 3 1 p18 L.length cap19 (fl eI L), R] := sr_close (p := p1) (c := cap2) (by omega) h29
  have h31 : sat g w26 [Sl 3 1 p18 L.length cap19 (fl eI L), Sr 70 b L, Cl r25 [Value.bool true, Value.slice p18 L.length cap19] 70, R] := sat_sel [2, 0, 1, 3] rfl h30
  have h32 : sat g w26 [Vw 3 1 p18 L.length cap19 (fl eI L), Sr 70 b L, Cl r25 [Value.bool true, Value.slice p18 L.length cap19] 70, R] := vw_sl h31
  have h33 : sat g w26 [Cl r25 [Value.bool true, Value.slice p18 L.length cap19] 70, Vw 3 1 p18 L.length cap19 (fl eI L), Sr 70 b L, R] := sat_sel [2, 0, 1, 3] rfl h32
  have h34 : sat g w26 [Sr 70 r25 L, Sr 70 b L, R] := sr_close (p := p18) (c := cap19) (by omega) h33
  refine hi_out [] (Value.pointer (some ⟨r25, 0, none⟩)) [] (by kernel_rfl) (by intro q hq; cases hq) ?_
  exact ⟨Value.pointer (some ⟨r25, 0, none⟩), [Sr 70 r25 L, Sr 70 b L], rfl, ⟨r25, rfl, rfl⟩, h34⟩

end Go.Proofs.YtjedglbadkbneaaDoor
