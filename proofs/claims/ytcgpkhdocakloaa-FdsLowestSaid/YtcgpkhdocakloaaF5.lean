/- Walks, printed by my generator gen5.py. -/
import Derived.Test.YtcgpkhdocakloaaF4
namespace Go.Proofs.Ytcgpkhdocakloaa
set_option maxHeartbeats 4000000 in
theorem snew_ok (n : Nat) (hn : 1 ≤ n ∧ n ≤ 256) (gn : Int) (hgn : 1 ≤ gn ∧ gn ≤ 4294967295) : HT Try.prog 40 [Value.int IntKind.i64 (((n : Nat) : Int)), Value.int IntKind.u32 gn] [] (fun v K => ∃ b : Nat, v = Value.tuple #[Value.pointer (some ⟨b, 0, none⟩), Value.int .i64 0] ∧ K = [Tb b n (List.replicate n (0, gn))]) := by
  refine hi_in 35 ([(0, .int .i64 (((n : Nat) : Int))), (1, .int .u32 gn)] : Fr) Try.func40 (by kernel_rfl) Try.ntmps40 rfl rfl ?_
  intro g w0 R h0
  refine gi_seq (x := CA Try.f40 [0]) (y := CA Try.f40 [1]) (by kernel_rfl) ?_
  refine gi_pln (id := 0) (ops := RA Try.f40 [0]) [0, 1] (by kernel_rfl) (by kernel_rfl) (by kernel_rfl) ?_
  refine plain_batch (rest := []) [⟨0, [], none⟩, ⟨1, [], none⟩] (l' := ([(5, .int .i64 0), (4, .pointer none), (0, .int .i64 (((n : Nat) : Int))), (1, .int .u32 gn)] : Fr)) (pts' := []) (eqs := []) (by kernel_rfl) trivial (AllC_nil _) ?_
  refine PO.mk ?_
  change WP _ _ (CA Try.f40 [1]) _ _ _
  refine fk_cut ([(0, .int .i64 (((n : Nat) : Int))), (1, .int .u32 gn), (4, .pointer none), (5, .int .i64 0)] : Fr) (by kernel_rfl) (fun a => WP _ _ _ _ a _) (fun lr1 => ?_)
  refine gi_seq (x := CA Try.f40 [1, 0]) (y := CA Try.f40 [1, 1]) (by kernel_rfl) ?_
  refine gi_seq (x := CA Try.f40 [1, 0, 0]) (y := CA Try.f40 [1, 0, 1]) (by kernel_rfl) ?_
  refine gi_pln (id := 1) (ops := RA Try.f40 [1, 0, 0]) [0, 1, 2, 3, 4, 5, 6, 7, 8, 9, 10] (by kernel_rfl) (by kernel_rfl) (by kernel_rfl) ?_
  refine plain_batch (rest := [8, 9, 10]) [⟨0, [], none⟩, ⟨1, [], some (.bool false)⟩, ⟨2, [], none⟩, ⟨3, [], none⟩, ⟨4, [], some (.bool false)⟩, ⟨5, [], none⟩, ⟨6, [], none⟩, ⟨7, [], none⟩] (l' := ([(15, .int .u32 gn), (14, .bool false), (13, .bool false), (12, .bool false), (11, .int .i64 (((n : Nat) : Int))), (10, .bool false), (9, .bool false), (8, .int .i64 (((n : Nat) : Int))), (0, .int .i64 (((n : Nat) : Int))), (1, .int .u32 gn), (4, .pointer none), (5, .int .i64 0)] : Fr) ++ lr1) (pts' := []) (eqs := [(.bool (decide (((n : Nat) : Int) < 1)), .bool false), (.bool (decide (((n : Nat) : Int) > 256)), .bool false)]) (by kernel_rfl) ⟨(ov_f (by omega)), (ov_f (by omega)), trivial⟩ (AllC_nil _) ?_
  refine plain_act (i := 8) (by kernel_rfl) ?_
  refine an_call (d := some 16) (f := 56) (args := [.int .u32 gn]) (by kernel_rfl) Try.call56 (gcheck_ok gn (by omega) (by omega)) (F := [R]) h0 ?_
  rintro v K w2 (⟨rfl, rfl⟩) h3
  refine ⟨_, rfl, ?_⟩
  have h4 : sat g w2 [R] := h3
  refine plain_batch (rest := []) [⟨9, [], none⟩, ⟨10, [], none⟩] (l' := ([(18, .bool false), (17, .bool false), (16, .int .i64 0), (15, .int .u32 gn), (14, .bool false), (13, .bool false), (12, .bool false), (11, .int .i64 (((n : Nat) : Int))), (10, .bool false), (9, .bool false), (8, .int .i64 (((n : Nat) : Int))), (0, .int .i64 (((n : Nat) : Int))), (1, .int .u32 gn), (4, .pointer none), (5, .int .i64 0)] : Fr) ++ lr1) (pts' := []) (eqs := []) (by kernel_rfl) trivial (AllC_nil _) ?_
  refine PO.mk ?_
  change WP _ _ (CA Try.f40 [1, 0, 1]) _ _ _
  refine fk_cut ([(0, .int .i64 (((n : Nat) : Int))), (1, .int .u32 gn), (4, .pointer none), (5, .int .i64 0), (18, .bool false)] : Fr) (by kernel_rfl) (fun a => WP _ _ _ _ a _) (fun lr5 => ?_)
  refine gi_cnd (x := (Operand.tmp 18)) (s := CA Try.f40 [1, 0, 1, 0]) (t := CA Try.f40 [1, 0, 1, 1]) false (by kernel_rfl) (by kernel_rfl) ?_
  change WP _ _ (CA Try.f40 [1, 0, 1, 1]) _ _ _
  refine gi_skp (by kernel_rfl) ?_
  change WP _ _ (CA Try.f40 [1, 1]) _ _ _
  refine gi_seq (x := CA Try.f40 [1, 1, 0]) (y := CA Try.f40 [1, 1, 1]) (by kernel_rfl) ?_
  refine gi_pln (id := 3) (ops := RA Try.f40 [1, 1, 0]) [0, 1, 2, 3] (by kernel_rfl) (by kernel_rfl) (by kernel_rfl) ?_
  refine plain_batch (rest := [2, 3]) [⟨0, [], none⟩, ⟨1, [], none⟩] (l' := ([(20, .agg (tbl n (List.replicate 256 (0, 0))).toArray), (19, .int .i64 (((n : Nat) : Int))), (0, .int .i64 (((n : Nat) : Int))), (1, .int .u32 gn), (4, .pointer none), (5, .int .i64 0), (18, .bool false)] : Fr) ++ lr5) (pts' := []) (eqs := []) (by kernel_rfl) trivial (AllC_nil _) ?_
  refine plain_act (i := 2) (by kernel_rfl) ?_
  refine an_new (d := 21) (fun xb_ => .pointer (some ⟨xb_, 0, none⟩)) (fun xb_ => Obj.cells (tbl n (List.replicate 256 (0, 0))).toArray 107 (0, 0)) (fun xb_ => by kernel_rfl) (by kernel_rfl) rfl h4 ?_
  intro r6 w7 (h8 : sat g w7 [Cl r6 (tbl n (List.replicate 0 (0, gn) ++ List.replicate (256 - 0) (0, 0))) 107, R])
  refine plain_batch (rest := []) [⟨3, [], none⟩] (l' := ([(6, .pointer (some ⟨r6, 0, none⟩)), (21, .pointer (some ⟨r6, 0, none⟩)), (20, .agg (tbl n (List.replicate 256 (0, 0))).toArray), (19, .int .i64 (((n : Nat) : Int))), (0, .int .i64 (((n : Nat) : Int))), (1, .int .u32 gn), (4, .pointer none), (5, .int .i64 0), (18, .bool false)] : Fr) ++ lr5) (pts' := []) (eqs := []) (by kernel_rfl) trivial (AllC_nil _) ?_
  refine PO.mk ?_
  change WP _ _ (CA Try.f40 [1, 1, 1]) _ _ _
  refine fk_cut ([(0, .int .i64 (((n : Nat) : Int))), (1, .int .u32 gn), (4, .pointer none), (5, .int .i64 0), (6, .pointer (some ⟨r6, 0, none⟩)), (18, .bool false)] : Fr) (by kernel_rfl) (fun a => WP _ _ _ _ a _) (fun lr9 => ?_)
  refine gi_seq (x := CA Try.f40 [1, 1, 1, 0]) (y := CA Try.f40 [1, 1, 1, 1]) (by kernel_rfl) ?_
  refine gi_seq (x := CA Try.f40 [1, 1, 1, 0, 0]) (y := CA Try.f40 [1, 1, 1, 0, 1]) (by kernel_rfl) ?_
  refine gi_pln (id := 4) (ops := RA Try.f40 [1, 1, 1, 0, 0]) [0, 1] (by kernel_rfl) (by kernel_rfl) (by kernel_rfl) ?_
  refine plain_batch (rest := []) [⟨0, [], none⟩, ⟨1, [], none⟩] (l' := ([(23, .int .i64 0), (22, .int .i64 (((n : Nat) : Int))), (0, .int .i64 (((n : Nat) : Int))), (1, .int .u32 gn), (4, .pointer none), (5, .int .i64 0), (6, .pointer (some ⟨r6, 0, none⟩)), (18, .bool false)] : Fr) ++ lr9) (pts' := []) (eqs := []) (by kernel_rfl) trivial (AllC_nil _) ?_
  refine PO.mk ?_
  change WP _ _ (CA Try.f40 [1, 1, 1, 0, 1]) _ _ _
  refine fk_cut ([(0, .int .i64 (((n : Nat) : Int))), (1, .int .u32 gn), (4, .pointer none), (5, .int .i64 0), (6, .pointer (some ⟨r6, 0, none⟩)), (18, .bool false), (22, .int .i64 (((n : Nat) : Int))), (23, .int .i64 0)] : Fr) (by kernel_rfl) (fun a => WP _ _ _ _ a _) (fun lr10 => ?_)
  refine gi_blk (id := 0) (x := CA Try.f40 [1, 1, 1, 0, 1, 0]) (by kernel_rfl) ?_
  refine gi_lp (x := CA Try.f40 [1, 1, 1, 0, 1, 0, 0]) (by kernel_rfl) (fun mz_ a w => ∃ i : Nat, ∃ lr : Fr, mz_ = n - i ∧ (i ≤ n) ∧ a = mk 35 (([(1, .int .u32 gn), (6, .pointer (some ⟨r6, 0, none⟩)), (22, .int .i64 (((n : Nat) : Int))), (23, .int .i64 (((i : Nat) : Int)))] : Fr) ++ lr) ∧ sat g w [Cl r6 (tbl n (List.replicate i (0, gn) ++ List.replicate (256 - i) (0, 0))) 107, R]) (n - 0) ⟨0, _, rfl, (Nat.zero_le _), (mk_live [(1, .int .u32 gn), (6, .pointer (some ⟨r6, 0, none⟩)), (22, .int .i64 (((n : Nat) : Int))), (23, .int .i64 (((0 : Nat) : Int)))] ⟨rfl, rfl, rfl, (ov_int (by omega)), trivial⟩), h8⟩ ?_
  rintro m12 a13 w14 ⟨i, lr11, rfl, hi, rfl, h15⟩
  change WP _ _ (CA Try.f40 [1, 1, 1, 0, 1, 0, 0]) _ _ _
  refine gi_seq (x := CA Try.f40 [1, 1, 1, 0, 1, 0, 0, 0]) (y := CA Try.f40 [1, 1, 1, 0, 1, 0, 0, 1]) (by kernel_rfl) ?_
  refine gi_pln (id := 5) (ops := RA Try.f40 [1, 1, 1, 0, 1, 0, 0, 0]) [0] (by kernel_rfl) (by kernel_rfl) (by kernel_rfl) ?_
  by_cases c16 : ((i : Nat) : Int) < ((n : Nat) : Int)
  ·
    refine plain_batch (rest := []) [⟨0, [], some (.bool true)⟩] (l' := ([(24, .bool true), (1, .int .u32 gn), (6, .pointer (some ⟨r6, 0, none⟩)), (22, .int .i64 (((n : Nat) : Int))), (23, .int .i64 (((i : Nat) : Int)))] : Fr) ++ lr11) (pts' := []) (eqs := [(.bool (decide (((i : Nat) : Int) < ((n : Nat) : Int))), .bool true)]) (by kernel_rfl) ⟨(ov_t (by omega)), trivial⟩ (AllC_nil _) ?_
    refine PO.mk ?_
    change WP _ _ (CA Try.f40 [1, 1, 1, 0, 1, 0, 0, 1]) _ _ _
    refine fk_cut ([(1, .int .u32 gn), (6, .pointer (some ⟨r6, 0, none⟩)), (22, .int .i64 (((n : Nat) : Int))), (23, .int .i64 (((i : Nat) : Int))), (24, .bool true)] : Fr) (by kernel_rfl) (fun a => WP _ _ _ _ a _) (fun lr17 => ?_)
    refine gi_seq (x := CA Try.f40 [1, 1, 1, 0, 1, 0, 0, 1, 0]) (y := CA Try.f40 [1, 1, 1, 0, 1, 0, 0, 1, 1]) (by kernel_rfl) ?_
    refine gi_cnd (x := (Operand.tmp 24)) (s := CA Try.f40 [1, 1, 1, 0, 1, 0, 0, 1, 0, 0]) (t := CA Try.f40 [1, 1, 1, 0, 1, 0, 0, 1, 0, 1]) true (by kernel_rfl) (by kernel_rfl) ?_
    change WP _ _ (CA Try.f40 [1, 1, 1, 0, 1, 0, 0, 1, 0, 0]) _ _ _
    refine gi_skp (by kernel_rfl) ?_
    change WP _ _ (CA Try.f40 [1, 1, 1, 0, 1, 0, 0, 1, 1]) _ _ _
    refine gi_seq (x := CA Try.f40 [1, 1, 1, 0, 1, 0, 0, 1, 1, 0]) (y := CA Try.f40 [1, 1, 1, 0, 1, 0, 0, 1, 1, 1]) (by kernel_rfl) ?_
    refine gi_blk (id := 1) (x := CA Try.f40 [1, 1, 1, 0, 1, 0, 0, 1, 1, 0, 0]) (by kernel_rfl) ?_
    refine gi_seq (x := CA Try.f40 [1, 1, 1, 0, 1, 0, 0, 1, 1, 0, 0, 0]) (y := CA Try.f40 [1, 1, 1, 0, 1, 0, 0, 1, 1, 0, 0, 1]) (by kernel_rfl) ?_
    refine gi_pln (id := 6) (ops := RA Try.f40 [1, 1, 1, 0, 1, 0, 0, 1, 1, 0, 0, 0]) [0, 1] (by kernel_rfl) (by kernel_rfl) (by kernel_rfl) ?_
    refine plain_batch (rest := []) [⟨0, [], none⟩, ⟨1, [], none⟩] (l' := ([(7, .int .i64 (((i : Nat) : Int))), (25, .int .i64 (((i : Nat) : Int))), (1, .int .u32 gn), (6, .pointer (some ⟨r6, 0, none⟩)), (22, .int .i64 (((n : Nat) : Int))), (23, .int .i64 (((i : Nat) : Int))), (24, .bool true)] : Fr) ++ lr17) (pts' := []) (eqs := []) (by kernel_rfl) trivial (AllC_nil _) ?_
    refine PO.mk ?_
    change WP _ _ (CA Try.f40 [1, 1, 1, 0, 1, 0, 0, 1, 1, 0, 0, 1]) _ _ _
    refine fk_cut ([(1, .int .u32 gn), (6, .pointer (some ⟨r6, 0, none⟩)), (7, .int .i64 (((i : Nat) : Int))), (22, .int .i64 (((n : Nat) : Int))), (23, .int .i64 (((i : Nat) : Int))), (24, .bool true)] : Fr) (by kernel_rfl) (fun a => WP _ _ _ _ a _) (fun lr18 => ?_)
    refine gi_pln (id := 7) (ops := RA Try.f40 [1, 1, 1, 0, 1, 0, 0, 1, 1, 0, 0, 1]) [0, 1, 2, 3, 4, 5, 6, 7] (by kernel_rfl) (by kernel_rfl) (by kernel_rfl) ?_
    refine plain_batch (rest := [5, 6, 7]) [⟨0, [], none⟩, ⟨1, [], none⟩, ⟨2, [], none⟩, ⟨3, [], none⟩, ⟨4, [], none⟩] (l' := ([(30, .pointer (some ⟨r6, 1, none⟩)), (29, .pointer (some ⟨r6, 0, none⟩)), (28, .int .u32 gn), (27, .int .i64 (((i : Nat) : Int))), (26, .pointer (some ⟨r6, 0, none⟩)), (1, .int .u32 gn), (6, .pointer (some ⟨r6, 0, none⟩)), (7, .int .i64 (((i : Nat) : Int))), (22, .int .i64 (((n : Nat) : Int))), (23, .int .i64 (((i : Nat) : Int))), (24, .bool true)] : Fr) ++ lr18) (pts' := []) (eqs := []) (by kernel_rfl) trivial (AllC_nil _) ?_
    refine plain_law (i := 5) 31 (.pointer (some ⟨r6, i * 2 + 1, none⟩)) (by kernel_rfl) (law_indexArr (o := opA (RA Try.f40 [1, 1, 1, 0, 1, 0, 0, 1, 1, 0, 0, 1]) 5) (x := (Operand.tmp 30)) (i := (Operand.tmp 27)) (b := r6) (off := 1) (z := (((i : Nat) : Int))) (by kernel_rfl) Try.underlying105 2 (by kernel_rfl) i (by kernel_rfl) (by kernel_rfl) (by omega) (by omega) (i * 2 + 1) (by omega) _) ?_
    refine plain_batch (rest := [7]) [⟨6, [], none⟩] (l' := ([(32, .pointer (some ⟨r6, i * 2 + 2, none⟩)), (31, .pointer (some ⟨r6, i * 2 + 1, none⟩)), (30, .pointer (some ⟨r6, 1, none⟩)), (29, .pointer (some ⟨r6, 0, none⟩)), (28, .int .u32 gn), (27, .int .i64 (((i : Nat) : Int))), (26, .pointer (some ⟨r6, 0, none⟩)), (1, .int .u32 gn), (6, .pointer (some ⟨r6, 0, none⟩)), (7, .int .i64 (((i : Nat) : Int))), (22, .int .i64 (((n : Nat) : Int))), (23, .int .i64 (((i : Nat) : Int))), (24, .bool true)] : Fr) ++ lr18) (pts' := []) (eqs := []) (by kernel_rfl) trivial (AllC_nil _) ?_
    refine plain_act (i := 7) (by kernel_rfl) ?_
    refine an_store [(i * 2 + 2, .int .u32 gn)] (cs' := (tbl n (List.replicate (i + 1) (0, gn) ++ List.replicate (256 - (i + 1)) (0, 0)))) (by kernel_rfl) (by kernel_rfl) (allq ⟨⟨by rw [tbl_len, List.length_append, List.length_replicate, List.length_replicate]; omega, rfl⟩, trivial⟩) (new_put (i := i) (by omega) (by omega)) h15 ?_
    intro w19 (h20 : sat g w19 [Cl r6 (tbl n (List.replicate (i + 1) (0, gn) ++ List.replicate (256 - (i + 1)) (0, 0))) 107, R])
    refine PO.mk ?_
    change WP _ _ (CA Try.f40 [1, 1, 1, 0, 1, 0, 0, 1, 1, 1]) _ _ _
    refine fk_cut ([(1, .int .u32 gn), (6, .pointer (some ⟨r6, 0, none⟩)), (7, .int .i64 (((i : Nat) : Int))), (22, .int .i64 (((n : Nat) : Int))), (23, .int .i64 (((i : Nat) : Int))), (24, .bool true)] : Fr) (by kernel_rfl) (fun a => WP _ _ _ _ a _) (fun lr21 => ?_)
    refine gi_pln (id := 8) (ops := RA Try.f40 [1, 1, 1, 0, 1, 0, 0, 1, 1, 1]) [0, 1] (by kernel_rfl) (by kernel_rfl) (by kernel_rfl) ?_
    refine plain_batch (rest := []) [⟨0, [], some (.int .i64 (((i : Nat) : Int) + 1))⟩, ⟨1, [], none⟩] (l' := ([(23, .int .i64 (((i : Nat) : Int) + 1)), (33, .int .i64 (((i : Nat) : Int) + 1)), (1, .int .u32 gn), (6, .pointer (some ⟨r6, 0, none⟩)), (7, .int .i64 (((i : Nat) : Int))), (22, .int .i64 (((n : Nat) : Int))), (23, .int .i64 (((i : Nat) : Int))), (24, .bool true)] : Fr) ++ lr21) (pts' := []) (eqs := [(.int .i64 (IntKind.wrap .i64 ((((i : Nat) : Int)) + 1)), .int .i64 (((i : Nat) : Int) + 1))]) (by kernel_rfl) ⟨(ov_i64 (by omega) (by omega) (by omega)), trivial⟩ (AllC_nil _) ?_
    refine PO.mk ?_
    change ∃ n', n' < _ ∧ _
    refine ⟨(n - (i + 1)), by omega, (i + 1), _, rfl, (by omega), (mk_live [(1, .int .u32 gn), (6, .pointer (some ⟨r6, 0, none⟩)), (22, .int .i64 (((n : Nat) : Int))), (23, .int .i64 ((((i + 1) : Nat) : Int)))] ⟨rfl, rfl, rfl, (ov_int (by omega)), trivial⟩), h20⟩
  ·
    refine plain_batch (rest := []) [⟨0, [], some (.bool false)⟩] (l' := ([(24, .bool false), (1, .int .u32 gn), (6, .pointer (some ⟨r6, 0, none⟩)), (22, .int .i64 (((n : Nat) : Int))), (23, .int .i64 (((i : Nat) : Int)))] : Fr) ++ lr11) (pts' := []) (eqs := [(.bool (decide (((i : Nat) : Int) < ((n : Nat) : Int))), .bool false)]) (by kernel_rfl) ⟨(ov_f (by omega)), trivial⟩ (AllC_nil _) ?_
    refine PO.mk ?_
    change WP _ _ (CA Try.f40 [1, 1, 1, 0, 1, 0, 0, 1]) _ _ _
    refine fk_cut ([(1, .int .u32 gn), (6, .pointer (some ⟨r6, 0, none⟩)), (22, .int .i64 (((n : Nat) : Int))), (23, .int .i64 (((i : Nat) : Int))), (24, .bool false)] : Fr) (by kernel_rfl) (fun a => WP _ _ _ _ a _) (fun lr22 => ?_)
    refine gi_seq (x := CA Try.f40 [1, 1, 1, 0, 1, 0, 0, 1, 0]) (y := CA Try.f40 [1, 1, 1, 0, 1, 0, 0, 1, 1]) (by kernel_rfl) ?_
    refine gi_cnd (x := (Operand.tmp 24)) (s := CA Try.f40 [1, 1, 1, 0, 1, 0, 0, 1, 0, 0]) (t := CA Try.f40 [1, 1, 1, 0, 1, 0, 0, 1, 0, 1]) false (by kernel_rfl) (by kernel_rfl) ?_
    change WP _ _ (CA Try.f40 [1, 1, 1, 0, 1, 0, 0, 1, 0, 1]) _ _ _
    refine gi_ext (id := 0) (by kernel_rfl) ?_
    change WP _ _ (CA Try.f40 [1, 1, 1, 1]) _ _ _
    refine gi_seq (x := CA Try.f40 [1, 1, 1, 1, 0]) (y := CA Try.f40 [1, 1, 1, 1, 1]) (by kernel_rfl) ?_
    refine gi_pln (id := 9) (ops := RA Try.f40 [1, 1, 1, 1, 0]) [0, 1, 2] (by kernel_rfl) (by kernel_rfl) (by kernel_rfl) ?_
    refine plain_batch (rest := []) [⟨0, [], none⟩, ⟨1, [], none⟩, ⟨2, [], none⟩] (l' := ([(5, .int .i64 0), (4, .pointer (some ⟨r6, 0, none⟩)), (34, .pointer (some ⟨r6, 0, none⟩)), (1, .int .u32 gn), (6, .pointer (some ⟨r6, 0, none⟩)), (22, .int .i64 (((n : Nat) : Int))), (23, .int .i64 (((i : Nat) : Int))), (24, .bool false)] : Fr) ++ lr22) (pts' := []) (eqs := []) (by kernel_rfl) trivial (AllC_nil _) ?_
    refine PO.mk ?_
    change WP _ _ (CA Try.f40 [1, 1, 1, 1, 1]) _ _ _
    refine fk_cut ([(1, .int .u32 gn), (4, .pointer (some ⟨r6, 0, none⟩)), (5, .int .i64 0), (6, .pointer (some ⟨r6, 0, none⟩)), (22, .int .i64 (((n : Nat) : Int))), (23, .int .i64 (((i : Nat) : Int))), (24, .bool false)] : Fr) (by kernel_rfl) (fun a => WP _ _ _ _ a _) (fun lr23 => ?_)
    refine gi_rt (by kernel_rfl) ?_
    repeat (first | simp only [Exit.inBlock] | simp only [Exit.then])
    obtain rfl : i = n := by omega
    have h24 : sat g w14 [Tb r6 i (List.replicate i (0, gn)), R] := tb_close (new_ok (by omega) (by omega) (by omega) (by omega)) h15
    refine hi_out [] (.tuple #[.pointer (some ⟨r6, 0, none⟩), .int .i64 0]) [] (by kernel_rfl) (by intro q hq; cases hq) ?_
    exact ⟨.tuple #[.pointer (some ⟨r6, 0, none⟩), .int .i64 0], [Tb r6 i (List.replicate i (0, gn))], rfl, ⟨r6, rfl, rfl⟩, h24⟩

set_option maxHeartbeats 4000000 in
theorem snew_no (z gn : Int) (hgn : 0 ≤ gn ∧ gn ≤ 4294967295) (hz : z < 1 ∨ 256 < z ∨ gn = 0) : HT Try.prog 40 [Value.int IntKind.i64 z, Value.int IntKind.u32 gn] [] (fun v K => v = Value.tuple #[Value.pointer none, Value.int .i64 2] ∧ K = []) := by
  refine hi_in 35 ([(0, .int .i64 z), (1, .int .u32 gn)] : Fr) Try.func40 (by kernel_rfl) Try.ntmps40 rfl rfl ?_
  intro g w0 R h0
  refine gi_seq (x := CA Try.f40 [0]) (y := CA Try.f40 [1]) (by kernel_rfl) ?_
  refine gi_pln (id := 0) (ops := RA Try.f40 [0]) [0, 1] (by kernel_rfl) (by kernel_rfl) (by kernel_rfl) ?_
  refine plain_batch (rest := []) [⟨0, [], none⟩, ⟨1, [], none⟩] (l' := ([(5, .int .i64 0), (4, .pointer none), (0, .int .i64 z), (1, .int .u32 gn)] : Fr)) (pts' := []) (eqs := []) (by kernel_rfl) trivial (AllC_nil _) ?_
  refine PO.mk ?_
  change WP _ _ (CA Try.f40 [1]) _ _ _
  refine fk_cut ([(0, .int .i64 z), (1, .int .u32 gn), (4, .pointer none), (5, .int .i64 0)] : Fr) (by kernel_rfl) (fun a => WP _ _ _ _ a _) (fun lr1 => ?_)
  refine gi_seq (x := CA Try.f40 [1, 0]) (y := CA Try.f40 [1, 1]) (by kernel_rfl) ?_
  refine gi_seq (x := CA Try.f40 [1, 0, 0]) (y := CA Try.f40 [1, 0, 1]) (by kernel_rfl) ?_
  refine gi_pln (id := 1) (ops := RA Try.f40 [1, 0, 0]) [0, 1, 2, 3, 4, 5, 6, 7, 8, 9, 10] (by kernel_rfl) (by kernel_rfl) (by kernel_rfl) ?_
  refine plain_batch (rest := [1, 2, 3, 4, 5, 6, 7, 8, 9, 10]) [⟨0, [], none⟩] (l' := ([(8, .int .i64 z), (0, .int .i64 z), (1, .int .u32 gn), (4, .pointer none), (5, .int .i64 0)] : Fr) ++ lr1) (pts' := []) (eqs := []) (by kernel_rfl) trivial (AllC_nil _) ?_
  by_cases c2 : z < 1
  ·
    refine plain_batch (rest := [8, 9, 10]) [⟨1, [], some (.bool true)⟩, ⟨2, [], none⟩, ⟨3, [], none⟩, ⟨4, [], none⟩, ⟨5, [], none⟩, ⟨6, [], none⟩, ⟨7, [], none⟩] (l' := ([(15, undef), (14, .bool true), (13, .bool true), (12, undef), (11, undef), (10, .bool true), (9, .bool true), (8, .int .i64 z), (0, .int .i64 z), (1, .int .u32 gn), (4, .pointer none), (5, .int .i64 0)] : Fr) ++ lr1) (pts' := []) (eqs := [(.bool (decide (z < 1)), .bool true)]) (by kernel_rfl) ⟨(ov_t (by omega)), trivial⟩ (AllC_nil _) ?_
    refine plain_skip (by kernel_rfl : chkN (RA Try.f40 [1, 0, 0]) 35 _ 8 = some (some 16)) rfl ?_
    refine plain_batch (rest := []) [⟨9, [], none⟩, ⟨10, [], none⟩] (l' := ([(18, .bool true), (17, undef), (16, undef), (15, undef), (14, .bool true), (13, .bool true), (12, undef), (11, undef), (10, .bool true), (9, .bool true), (8, .int .i64 z), (0, .int .i64 z), (1, .int .u32 gn), (4, .pointer none), (5, .int .i64 0)] : Fr) ++ lr1) (pts' := []) (eqs := []) (by kernel_rfl) trivial (AllC_nil _) ?_
    refine PO.mk ?_
    change WP _ _ (CA Try.f40 [1, 0, 1]) _ _ _
    refine fk_cut ([(0, .int .i64 z), (1, .int .u32 gn), (4, .pointer none), (5, .int .i64 0), (18, .bool true)] : Fr) (by kernel_rfl) (fun a => WP _ _ _ _ a _) (fun lr3 => ?_)
    refine gi_cnd (x := (Operand.tmp 18)) (s := CA Try.f40 [1, 0, 1, 0]) (t := CA Try.f40 [1, 0, 1, 1]) true (by kernel_rfl) (by kernel_rfl) ?_
    change WP _ _ (CA Try.f40 [1, 0, 1, 0]) _ _ _
    refine gi_seq (x := CA Try.f40 [1, 0, 1, 0, 0]) (y := CA Try.f40 [1, 0, 1, 0, 1]) (by kernel_rfl) ?_
    refine gi_pln (id := 2) (ops := RA Try.f40 [1, 0, 1, 0, 0]) [0, 1] (by kernel_rfl) (by kernel_rfl) (by kernel_rfl) ?_
    refine plain_batch (rest := []) [⟨0, [], none⟩, ⟨1, [], none⟩] (l' := ([(5, .int .i64 2), (4, .pointer none), (0, .int .i64 z), (1, .int .u32 gn), (4, .pointer none), (5, .int .i64 0), (18, .bool true)] : Fr) ++ lr3) (pts' := []) (eqs := []) (by kernel_rfl) trivial (AllC_nil _) ?_
    refine PO.mk ?_
    change WP _ _ (CA Try.f40 [1, 0, 1, 0, 1]) _ _ _
    refine fk_cut ([(0, .int .i64 z), (1, .int .u32 gn), (4, .pointer none), (5, .int .i64 2), (18, .bool true)] : Fr) (by kernel_rfl) (fun a => WP _ _ _ _ a _) (fun lr4 => ?_)
    refine gi_rt (by kernel_rfl) ?_
    repeat (first | simp only [Exit.inBlock] | simp only [Exit.then])
    refine hi_out [] (.tuple #[.pointer none, .int .i64 2]) [] (by kernel_rfl) (by intro q hq; cases hq) ?_
    exact ⟨.tuple #[.pointer none, .int .i64 2], [], rfl, ⟨rfl, rfl⟩, h0⟩
  ·
    refine plain_batch (rest := [4, 5, 6, 7, 8, 9, 10]) [⟨1, [], some (.bool false)⟩, ⟨2, [], none⟩, ⟨3, [], none⟩] (l' := ([(11, .int .i64 z), (10, .bool false), (9, .bool false), (8, .int .i64 z), (0, .int .i64 z), (1, .int .u32 gn), (4, .pointer none), (5, .int .i64 0)] : Fr) ++ lr1) (pts' := []) (eqs := [(.bool (decide (z < 1)), .bool false)]) (by kernel_rfl) ⟨(ov_f (by omega)), trivial⟩ (AllC_nil _) ?_
    by_cases c5 : z > 256
    ·
      refine plain_batch (rest := [8, 9, 10]) [⟨4, [], some (.bool true)⟩, ⟨5, [], none⟩, ⟨6, [], none⟩, ⟨7, [], none⟩] (l' := ([(15, undef), (14, .bool true), (13, .bool true), (12, .bool true), (11, .int .i64 z), (10, .bool false), (9, .bool false), (8, .int .i64 z), (0, .int .i64 z), (1, .int .u32 gn), (4, .pointer none), (5, .int .i64 0)] : Fr) ++ lr1) (pts' := []) (eqs := [(.bool (decide (z > 256)), .bool true)]) (by kernel_rfl) ⟨(ov_t (by omega)), trivial⟩ (AllC_nil _) ?_
      refine plain_skip (by kernel_rfl : chkN (RA Try.f40 [1, 0, 0]) 35 _ 8 = some (some 16)) rfl ?_
      refine plain_batch (rest := []) [⟨9, [], none⟩, ⟨10, [], none⟩] (l' := ([(18, .bool true), (17, undef), (16, undef), (15, undef), (14, .bool true), (13, .bool true), (12, .bool true), (11, .int .i64 z), (10, .bool false), (9, .bool false), (8, .int .i64 z), (0, .int .i64 z), (1, .int .u32 gn), (4, .pointer none), (5, .int .i64 0)] : Fr) ++ lr1) (pts' := []) (eqs := []) (by kernel_rfl) trivial (AllC_nil _) ?_
      refine PO.mk ?_
      change WP _ _ (CA Try.f40 [1, 0, 1]) _ _ _
      refine fk_cut ([(0, .int .i64 z), (1, .int .u32 gn), (4, .pointer none), (5, .int .i64 0), (18, .bool true)] : Fr) (by kernel_rfl) (fun a => WP _ _ _ _ a _) (fun lr6 => ?_)
      refine gi_cnd (x := (Operand.tmp 18)) (s := CA Try.f40 [1, 0, 1, 0]) (t := CA Try.f40 [1, 0, 1, 1]) true (by kernel_rfl) (by kernel_rfl) ?_
      change WP _ _ (CA Try.f40 [1, 0, 1, 0]) _ _ _
      refine gi_seq (x := CA Try.f40 [1, 0, 1, 0, 0]) (y := CA Try.f40 [1, 0, 1, 0, 1]) (by kernel_rfl) ?_
      refine gi_pln (id := 2) (ops := RA Try.f40 [1, 0, 1, 0, 0]) [0, 1] (by kernel_rfl) (by kernel_rfl) (by kernel_rfl) ?_
      refine plain_batch (rest := []) [⟨0, [], none⟩, ⟨1, [], none⟩] (l' := ([(5, .int .i64 2), (4, .pointer none), (0, .int .i64 z), (1, .int .u32 gn), (4, .pointer none), (5, .int .i64 0), (18, .bool true)] : Fr) ++ lr6) (pts' := []) (eqs := []) (by kernel_rfl) trivial (AllC_nil _) ?_
      refine PO.mk ?_
      change WP _ _ (CA Try.f40 [1, 0, 1, 0, 1]) _ _ _
      refine fk_cut ([(0, .int .i64 z), (1, .int .u32 gn), (4, .pointer none), (5, .int .i64 2), (18, .bool true)] : Fr) (by kernel_rfl) (fun a => WP _ _ _ _ a _) (fun lr7 => ?_)
      refine gi_rt (by kernel_rfl) ?_
      repeat (first | simp only [Exit.inBlock] | simp only [Exit.then])
      refine hi_out [] (.tuple #[.pointer none, .int .i64 2]) [] (by kernel_rfl) (by intro q hq; cases hq) ?_
      exact ⟨.tuple #[.pointer none, .int .i64 2], [], rfl, ⟨rfl, rfl⟩, h0⟩
    ·
      refine plain_batch (rest := [8, 9, 10]) [⟨4, [], some (.bool false)⟩, ⟨5, [], none⟩, ⟨6, [], none⟩, ⟨7, [], none⟩] (l' := ([(15, .int .u32 gn), (14, .bool false), (13, .bool false), (12, .bool false), (11, .int .i64 z), (10, .bool false), (9, .bool false), (8, .int .i64 z), (0, .int .i64 z), (1, .int .u32 gn), (4, .pointer none), (5, .int .i64 0)] : Fr) ++ lr1) (pts' := []) (eqs := [(.bool (decide (z > 256)), .bool false)]) (by kernel_rfl) ⟨(ov_f (by omega)), trivial⟩ (AllC_nil _) ?_
      refine plain_act (i := 8) (by kernel_rfl) ?_
      refine an_call (d := some 16) (f := 56) (args := [.int .u32 gn]) (by kernel_rfl) Try.call56 (gcheck_no gn (by omega)) (F := [R]) h0 ?_
      rintro v K w8 (⟨rfl, rfl⟩) h9
      refine ⟨_, rfl, ?_⟩
      have h10 : sat g w8 [R] := h9
      refine plain_batch (rest := []) [⟨9, [], none⟩, ⟨10, [], none⟩] (l' := ([(18, .bool true), (17, .bool true), (16, .int .i64 2), (15, .int .u32 gn), (14, .bool false), (13, .bool false), (12, .bool false), (11, .int .i64 z), (10, .bool false), (9, .bool false), (8, .int .i64 z), (0, .int .i64 z), (1, .int .u32 gn), (4, .pointer none), (5, .int .i64 0)] : Fr) ++ lr1) (pts' := []) (eqs := []) (by kernel_rfl) trivial (AllC_nil _) ?_
      refine PO.mk ?_
      change WP _ _ (CA Try.f40 [1, 0, 1]) _ _ _
      refine fk_cut ([(0, .int .i64 z), (1, .int .u32 gn), (4, .pointer none), (5, .int .i64 0), (18, .bool true)] : Fr) (by kernel_rfl) (fun a => WP _ _ _ _ a _) (fun lr11 => ?_)
      refine gi_cnd (x := (Operand.tmp 18)) (s := CA Try.f40 [1, 0, 1, 0]) (t := CA Try.f40 [1, 0, 1, 1]) true (by kernel_rfl) (by kernel_rfl) ?_
      change WP _ _ (CA Try.f40 [1, 0, 1, 0]) _ _ _
      refine gi_seq (x := CA Try.f40 [1, 0, 1, 0, 0]) (y := CA Try.f40 [1, 0, 1, 0, 1]) (by kernel_rfl) ?_
      refine gi_pln (id := 2) (ops := RA Try.f40 [1, 0, 1, 0, 0]) [0, 1] (by kernel_rfl) (by kernel_rfl) (by kernel_rfl) ?_
      refine plain_batch (rest := []) [⟨0, [], none⟩, ⟨1, [], none⟩] (l' := ([(5, .int .i64 2), (4, .pointer none), (0, .int .i64 z), (1, .int .u32 gn), (4, .pointer none), (5, .int .i64 0), (18, .bool true)] : Fr) ++ lr11) (pts' := []) (eqs := []) (by kernel_rfl) trivial (AllC_nil _) ?_
      refine PO.mk ?_
      change WP _ _ (CA Try.f40 [1, 0, 1, 0, 1]) _ _ _
      refine fk_cut ([(0, .int .i64 z), (1, .int .u32 gn), (4, .pointer none), (5, .int .i64 2), (18, .bool true)] : Fr) (by kernel_rfl) (fun a => WP _ _ _ _ a _) (fun lr12 => ?_)
      refine gi_rt (by kernel_rfl) ?_
      repeat (first | simp only [Exit.inBlock] | simp only [Exit.then])
      refine hi_out [] (.tuple #[.pointer none, .int .i64 2]) [] (by kernel_rfl) (by intro q hq; cases hq) ?_
      exact ⟨.tuple #[.pointer none, .int .i64 2], [], rfl, ⟨rfl, rfl⟩, h10⟩

set_option maxHeartbeats 4000000 in
theorem len1_y (s gn : Int) (hs : s = 1) : HT Try.prog 58 [Value.agg #[Value.int IntKind.i64 s, Value.int IntKind.u32 gn]] [] (fun v K => v = Value.bool true ∧ K = []) := by
  refine hi_in 6 ([(0, .agg #[.int .i64 s, .int .u32 gn])] : Fr) Try.func58 (by kernel_rfl) Try.ntmps58 rfl rfl ?_
  intro g w0 R h0
  refine gi_seq (x := CA Try.f58 [0]) (y := CA Try.f58 [1]) (by kernel_rfl) ?_
  refine gi_pln (id := 0) (ops := RA Try.f58 [0]) [0, 1] (by kernel_rfl) (by kernel_rfl) (by kernel_rfl) ?_
  refine plain_act (i := 0) (by kernel_rfl) ?_
  refine an_new (d := 1) (fun xb_ => .pointer (some ⟨xb_, 0, none⟩)) (fun xb_ => Obj.cells [.int .i64 s, .int .u32 gn].toArray 104 (0, 0)) (fun xb_ => by kernel_rfl) (by kernel_rfl) rfl h0 ?_
  intro r1 w2 (h3 : sat g w2 [Cl r1 [.int .i64 s, .int .u32 gn] 104, R])
  refine plain_batch (rest := []) [⟨1, [], none⟩] (l' := ([(2, .bool false), (1, .pointer (some ⟨r1, 0, none⟩)), (0, .agg #[.int .i64 s, .int .u32 gn])] : Fr)) (pts' := []) (eqs := []) (by kernel_rfl) trivial (AllC_nil _) ?_
  refine PO.mk ?_
  change WP _ _ (CA Try.f58 [1]) _ _ _
  refine fk_cut ([(0, .agg #[.int .i64 s, .int .u32 gn]), (1, .pointer (some ⟨r1, 0, none⟩)), (2, .bool false)] : Fr) (by kernel_rfl) (fun a => WP _ _ _ _ a _) (fun lr4 => ?_)
  refine gi_seq (x := CA Try.f58 [1, 0]) (y := CA Try.f58 [1, 1]) (by kernel_rfl) ?_
  refine gi_pln (id := 1) (ops := RA Try.f58 [1, 0]) [0, 1, 2, 3] (by kernel_rfl) (by kernel_rfl) (by kernel_rfl) ?_
  refine plain_batch (rest := []) [⟨0, [], none⟩, ⟨1, [.int .i64 s], none⟩, ⟨2, [], some (.bool true)⟩, ⟨3, [], none⟩] (l' := ([(2, .bool true), (5, .bool true), (4, .int .i64 s), (3, .pointer (some ⟨r1, 0, none⟩)), (0, .agg #[.int .i64 s, .int .u32 gn]), (1, .pointer (some ⟨r1, 0, none⟩)), (2, .bool false)] : Fr) ++ lr4) (pts' := [(1, ⟨r1, 0, none⟩, .int .i64 s)]) (eqs := [(.bool (s == 1), .bool true)]) (by kernel_rfl) ⟨(ov_et (by omega)), trivial⟩ (AllC_cons (sat_cell h3 0 rfl rfl) (AllC_nil _)) ?_
  refine PO.mk ?_
  change WP _ _ (CA Try.f58 [1, 1]) _ _ _
  refine fk_cut ([(0, .agg #[.int .i64 s, .int .u32 gn]), (1, .pointer (some ⟨r1, 0, none⟩)), (2, .bool true)] : Fr) (by kernel_rfl) (fun a => WP _ _ _ _ a _) (fun lr5 => ?_)
  refine gi_rt (by kernel_rfl) ?_
  repeat (first | simp only [Exit.inBlock] | simp only [Exit.then])
  have h6 : sat g w2 [R] := sat_sel [1] rfl h3
  refine hi_out [] (.bool true) [] (by kernel_rfl) (by intro q hq; cases hq) ?_
  exact ⟨.bool true, [], rfl, ⟨rfl, rfl⟩, h6⟩

set_option maxHeartbeats 4000000 in
theorem len1_n (s gn : Int) (hs : ¬ s = 1) : HT Try.prog 58 [Value.agg #[Value.int IntKind.i64 s, Value.int IntKind.u32 gn]] [] (fun v K => v = Value.bool false ∧ K = []) := by
  refine hi_in 6 ([(0, .agg #[.int .i64 s, .int .u32 gn])] : Fr) Try.func58 (by kernel_rfl) Try.ntmps58 rfl rfl ?_
  intro g w0 R h0
  refine gi_seq (x := CA Try.f58 [0]) (y := CA Try.f58 [1]) (by kernel_rfl) ?_
  refine gi_pln (id := 0) (ops := RA Try.f58 [0]) [0, 1] (by kernel_rfl) (by kernel_rfl) (by kernel_rfl) ?_
  refine plain_act (i := 0) (by kernel_rfl) ?_
  refine an_new (d := 1) (fun xb_ => .pointer (some ⟨xb_, 0, none⟩)) (fun xb_ => Obj.cells [.int .i64 s, .int .u32 gn].toArray 104 (0, 0)) (fun xb_ => by kernel_rfl) (by kernel_rfl) rfl h0 ?_
  intro r1 w2 (h3 : sat g w2 [Cl r1 [.int .i64 s, .int .u32 gn] 104, R])
  refine plain_batch (rest := []) [⟨1, [], none⟩] (l' := ([(2, .bool false), (1, .pointer (some ⟨r1, 0, none⟩)), (0, .agg #[.int .i64 s, .int .u32 gn])] : Fr)) (pts' := []) (eqs := []) (by kernel_rfl) trivial (AllC_nil _) ?_
  refine PO.mk ?_
  change WP _ _ (CA Try.f58 [1]) _ _ _
  refine fk_cut ([(0, .agg #[.int .i64 s, .int .u32 gn]), (1, .pointer (some ⟨r1, 0, none⟩)), (2, .bool false)] : Fr) (by kernel_rfl) (fun a => WP _ _ _ _ a _) (fun lr4 => ?_)
  refine gi_seq (x := CA Try.f58 [1, 0]) (y := CA Try.f58 [1, 1]) (by kernel_rfl) ?_
  refine gi_pln (id := 1) (ops := RA Try.f58 [1, 0]) [0, 1, 2, 3] (by kernel_rfl) (by kernel_rfl) (by kernel_rfl) ?_
  refine plain_batch (rest := []) [⟨0, [], none⟩, ⟨1, [.int .i64 s], none⟩, ⟨2, [], some (.bool false)⟩, ⟨3, [], none⟩] (l' := ([(2, .bool false), (5, .bool false), (4, .int .i64 s), (3, .pointer (some ⟨r1, 0, none⟩)), (0, .agg #[.int .i64 s, .int .u32 gn]), (1, .pointer (some ⟨r1, 0, none⟩)), (2, .bool false)] : Fr) ++ lr4) (pts' := [(1, ⟨r1, 0, none⟩, .int .i64 s)]) (eqs := [(.bool (s == 1), .bool false)]) (by kernel_rfl) ⟨(ov_ef (by omega)), trivial⟩ (AllC_cons (sat_cell h3 0 rfl rfl) (AllC_nil _)) ?_
  refine PO.mk ?_
  change WP _ _ (CA Try.f58 [1, 1]) _ _ _
  refine fk_cut ([(0, .agg #[.int .i64 s, .int .u32 gn]), (1, .pointer (some ⟨r1, 0, none⟩)), (2, .bool false)] : Fr) (by kernel_rfl) (fun a => WP _ _ _ _ a _) (fun lr5 => ?_)
  refine gi_rt (by kernel_rfl) ?_
  repeat (first | simp only [Exit.inBlock] | simp only [Exit.then])
  have h6 : sat g w2 [R] := sat_sel [1] rfl h3
  refine hi_out [] (.bool false) [] (by kernel_rfl) (by intro q hq; cases hq) ?_
  exact ⟨.bool false, [], rfl, ⟨rfl, rfl⟩, h6⟩

set_option maxHeartbeats 4000000 in
theorem count1_ht (b n : Nat) (A : List Sl2) : HT Try.prog 57 [Value.pointer (some ⟨b, 0, none⟩), Value.func (Fn.func 58) #[] #[]] [Tb b n A] (fun v K => v = Value.int IntKind.i64 ((((inS 1 A 0).length : Nat) : Int)) ∧ K = [Tb b n A]) := by
  refine hi_in 31 ([(0, .pointer (some ⟨b, 0, none⟩)), (1, .func (Fn.func 58) #[] #[])] : Fr) Try.func57 (by kernel_rfl) Try.ntmps57 rfl rfl ?_
  intro g w0 R h0
  obtain ⟨T1, hp2, h3⟩ := tb_open h0
  have hq4 := hp2.2.1; have hq5 := hp2.2.2.1; have hq6 := hp2.2.2.2.2
  have hAl := hp2.1
  refine gi_seq (x := CA Try.f57 [0]) (y := CA Try.f57 [1]) (by kernel_rfl) ?_
  refine gi_pln (id := 0) (ops := RA Try.f57 [0]) [0] (by kernel_rfl) (by kernel_rfl) (by kernel_rfl) ?_
  refine plain_batch (rest := []) [⟨0, [], none⟩] (l' := ([(4, .int .i64 0), (0, .pointer (some ⟨b, 0, none⟩)), (1, .func (Fn.func 58) #[] #[])] : Fr)) (pts' := []) (eqs := []) (by kernel_rfl) trivial (AllC_nil _) ?_
  refine PO.mk ?_
  change WP _ _ (CA Try.f57 [1]) _ _ _
  refine fk_cut ([(0, .pointer (some ⟨b, 0, none⟩)), (1, .func (Fn.func 58) #[] #[]), (4, .int .i64 0)] : Fr) (by kernel_rfl) (fun a => WP _ _ _ _ a _) (fun lr7 => ?_)
  refine gi_seq (x := CA Try.f57 [1, 0]) (y := CA Try.f57 [1, 1]) (by kernel_rfl) ?_
  refine gi_seq (x := CA Try.f57 [1, 0, 0]) (y := CA Try.f57 [1, 0, 1]) (by kernel_rfl) ?_
  refine gi_pln (id := 1) (ops := RA Try.f57 [1, 0, 0]) [0, 1, 2] (by kernel_rfl) (by kernel_rfl) (by kernel_rfl) ?_
  refine plain_batch (rest := [1, 2]) [⟨0, [], none⟩] (l' := ([(8, .pointer (some ⟨b, 0, none⟩)), (0, .pointer (some ⟨b, 0, none⟩)), (1, .func (Fn.func 58) #[] #[]), (4, .int .i64 0)] : Fr) ++ lr7) (pts' := []) (eqs := []) (by kernel_rfl) trivial (AllC_nil _) ?_
  refine plain_act (i := 1) (by kernel_rfl) ?_
  refine an_call (d := some 9) (f := 51) (args := [.pointer (some ⟨b, 0, none⟩)]) (by kernel_rfl) Try.call51 (svalid_cl b n _ (by omega)) (F := [R]) h3 ?_
  rintro v K w8 (⟨rfl, rfl⟩) h9
  refine ⟨_, rfl, ?_⟩
  have h10 : sat g w8 [Cl b (tbl n (A ++ T1)) 107, R] := h9
  refine plain_batch (rest := []) [⟨2, [], none⟩] (l' := ([(10, .bool false), (9, .bool true), (8, .pointer (some ⟨b, 0, none⟩)), (0, .pointer (some ⟨b, 0, none⟩)), (1, .func (Fn.func 58) #[] #[]), (4, .int .i64 0)] : Fr) ++ lr7) (pts' := []) (eqs := []) (by kernel_rfl) trivial (AllC_nil _) ?_
  refine PO.mk ?_
  change WP _ _ (CA Try.f57 [1, 0, 1]) _ _ _
  refine fk_cut ([(0, .pointer (some ⟨b, 0, none⟩)), (1, .func (Fn.func 58) #[] #[]), (4, .int .i64 0), (10, .bool false)] : Fr) (by kernel_rfl) (fun a => WP _ _ _ _ a _) (fun lr11 => ?_)
  refine gi_cnd (x := (Operand.tmp 10)) (s := CA Try.f57 [1, 0, 1, 0]) (t := CA Try.f57 [1, 0, 1, 1]) false (by kernel_rfl) (by kernel_rfl) ?_
  change WP _ _ (CA Try.f57 [1, 0, 1, 1]) _ _ _
  refine gi_skp (by kernel_rfl) ?_
  change WP _ _ (CA Try.f57 [1, 1]) _ _ _
  refine gi_seq (x := CA Try.f57 [1, 1, 0]) (y := CA Try.f57 [1, 1, 1]) (by kernel_rfl) ?_
  refine gi_pln (id := 3) (ops := RA Try.f57 [1, 1, 0]) [0] (by kernel_rfl) (by kernel_rfl) (by kernel_rfl) ?_
  refine plain_batch (rest := []) [⟨0, [], none⟩] (l' := ([(5, .int .i64 0), (0, .pointer (some ⟨b, 0, none⟩)), (1, .func (Fn.func 58) #[] #[]), (4, .int .i64 0), (10, .bool false)] : Fr) ++ lr11) (pts' := []) (eqs := []) (by kernel_rfl) trivial (AllC_nil _) ?_
  refine PO.mk ?_
  change WP _ _ (CA Try.f57 [1, 1, 1]) _ _ _
  refine fk_cut ([(0, .pointer (some ⟨b, 0, none⟩)), (1, .func (Fn.func 58) #[] #[]), (4, .int .i64 0), (5, .int .i64 0), (10, .bool false)] : Fr) (by kernel_rfl) (fun a => WP _ _ _ _ a _) (fun lr12 => ?_)
  refine gi_seq (x := CA Try.f57 [1, 1, 1, 0]) (y := CA Try.f57 [1, 1, 1, 1]) (by kernel_rfl) ?_
  refine gi_seq (x := CA Try.f57 [1, 1, 1, 0, 0]) (y := CA Try.f57 [1, 1, 1, 0, 1]) (by kernel_rfl) ?_
  refine gi_drw (id := 4) (ops := RA Try.f57 [1, 1, 1, 0, 0]) (Tr.fl 0 (Tr.fl 1 (Tr.fl 2 (Tr.fl 3 (Tr.fl 4 (Tr.fl 5 (Tr.fl 6 (Tr.fl 7 (Tr.fl 8 (Tr.fl 9 Tr.nil)))))))))) (by kernel_rfl) (by kernel_rfl) (by kernel_rfl) (by kernel_rfl) (by kernel_rfl) (fun _ _ d _ _ h => by cases d <;> exact h) h10 ?_
  intro w13 h14
  refine draw_batch (t := (Tr.fl 7 (Tr.fl 8 (Tr.fl 9 Tr.nil)))) [⟨0, [], none⟩, ⟨1, [], none⟩, ⟨2, [], none⟩, ⟨3, [], none⟩, ⟨4, [], none⟩, ⟨5, [], none⟩, ⟨6, [.int .i64 (((n : Nat) : Int))], none⟩] (l' := ([(17, .int .i64 (((n : Nat) : Int))), (16, .pointer (some ⟨b, 0, none⟩)), (15, .pointer (some ⟨b, 0, none⟩)), (14, .pointer (some ⟨b, 0, none⟩)), (13, .pointer (some ⟨b, 1, none⟩)), (12, .pointer (some ⟨b, 0, none⟩)), (11, .pointer (some ⟨b, 0, none⟩)), (0, .pointer (some ⟨b, 0, none⟩)), (1, .func (Fn.func 58) #[] #[]), (4, .int .i64 0), (5, .int .i64 0), (10, .bool false)] : Fr) ++ lr12) (pts' := [(6, ⟨b, 0, none⟩, .int .i64 (((n : Nat) : Int)))]) (eqs := []) (by kernel_rfl) trivial (AllC_cons (sat_cell h14 0 rfl rfl) (AllC_nil _)) ?_
  refine draw_law (i := 7) 18 (.slice (some ⟨b, 1, none⟩) n 256) [] (by kernel_rfl) (fun _ _ => law_sliceArr (o := opA (RA Try.f57 [1, 1, 1, 0, 0]) 7) (x := (Operand.tmp 13)) (lo := none) (hi := (some (Operand.tmp 17))) (b := b) (off := 1) (by kernel_rfl) Try.underlying105 2 (by kernel_rfl) 0 (((n : Nat) : Int)) 0 n (by kernel_rfl) rfl (show fe _ _ (Operand.tmp 17) = _ from by kernel_rfl) (by omega) (by omega) (by omega) (by omega) 1 (by split <;> omega) n 256 (by omega) (by omega) _) (by intro q hq; cases hq) ?_
  refine draw_batch (t := Tr.nil) [⟨8, [], none⟩, ⟨9, [], none⟩] (l' := ([(20, .int .i64 0), (19, .int .i64 (((n : Nat) : Int))), (18, .slice (some ⟨b, 1, none⟩) n 256), (17, .int .i64 (((n : Nat) : Int))), (16, .pointer (some ⟨b, 0, none⟩)), (15, .pointer (some ⟨b, 0, none⟩)), (14, .pointer (some ⟨b, 0, none⟩)), (13, .pointer (some ⟨b, 1, none⟩)), (12, .pointer (some ⟨b, 0, none⟩)), (11, .pointer (some ⟨b, 0, none⟩)), (0, .pointer (some ⟨b, 0, none⟩)), (1, .func (Fn.func 58) #[] #[]), (4, .int .i64 0), (5, .int .i64 0), (10, .bool false)] : Fr) ++ lr12) (pts' := []) (eqs := []) (by kernel_rfl) trivial (AllC_nil _) ?_
  change WP _ _ (CA Try.f57 [1, 1, 1, 0, 1]) _ _ _
  refine fk_cut ([(0, .pointer (some ⟨b, 0, none⟩)), (1, .func (Fn.func 58) #[] #[]), (4, .int .i64 0), (5, .int .i64 0), (10, .bool false), (18, .slice (some ⟨b, 1, none⟩) n 256), (19, .int .i64 (((n : Nat) : Int))), (20, .int .i64 0)] : Fr) (by kernel_rfl) (fun a => WP _ _ _ _ a _) (fun lr15 => ?_)
  refine gi_blk (id := 0) (x := CA Try.f57 [1, 1, 1, 0, 1, 0]) (by kernel_rfl) ?_
  have hc0_ : cnt 1 A 0 = 0 := rfl
  refine gi_lp (x := CA Try.f57 [1, 1, 1, 0, 1, 0, 0]) (by kernel_rfl) (fun mz_ a w => ∃ i : Nat, ∃ lr : Fr, mz_ = n - i ∧ (i ≤ n) ∧ a = mk 31 (([(1, .func (Fn.func 58) #[] #[]), (5, .int .i64 (((cnt 1 A i : Nat) : Int))), (18, .slice (some ⟨b, 1, none⟩) n 256), (19, .int .i64 (((n : Nat) : Int))), (20, .int .i64 (((i : Nat) : Int)))] : Fr) ++ lr) ∧ sat g w [Cl b (tbl n (A ++ T1)) 107, R]) (n - 0) ⟨0, _, rfl, (Nat.zero_le _), (mk_live [(1, .func (Fn.func 58) #[] #[]), (5, .int .i64 (((cnt 1 A 0 : Nat) : Int))), (18, .slice (some ⟨b, 1, none⟩) n 256), (19, .int .i64 (((n : Nat) : Int))), (20, .int .i64 (((0 : Nat) : Int)))] ⟨rfl, (ov_int (by omega)), rfl, rfl, (ov_int (by omega)), trivial⟩), h14⟩ ?_
  rintro m17 a18 w19 ⟨i, lr16, rfl, hi, rfl, h20⟩
  have hc1_ := cnt_le 1 A i; have hc2_ := inS_len 1 A 0
  have hc3_ : cnt 1 A i ≤ n := by omega
  change WP _ _ (CA Try.f57 [1, 1, 1, 0, 1, 0, 0]) _ _ _
  refine gi_seq (x := CA Try.f57 [1, 1, 1, 0, 1, 0, 0, 0]) (y := CA Try.f57 [1, 1, 1, 0, 1, 0, 0, 1]) (by kernel_rfl) ?_
  refine gi_pln (id := 5) (ops := RA Try.f57 [1, 1, 1, 0, 1, 0, 0, 0]) [0] (by kernel_rfl) (by kernel_rfl) (by kernel_rfl) ?_
  by_cases c21 : ((i : Nat) : Int) < ((n : Nat) : Int)
  ·
    refine plain_batch (rest := []) [⟨0, [], some (.bool true)⟩] (l' := ([(21, .bool true), (1, .func (Fn.func 58) #[] #[]), (5, .int .i64 (((cnt 1 A i : Nat) : Int))), (18, .slice (some ⟨b, 1, none⟩) n 256), (19, .int .i64 (((n : Nat) : Int))), (20, .int .i64 (((i : Nat) : Int)))] : Fr) ++ lr16) (pts' := []) (eqs := [(.bool (decide (((i : Nat) : Int) < ((n : Nat) : Int))), .bool true)]) (by kernel_rfl) ⟨(ov_t (by omega)), trivial⟩ (AllC_nil _) ?_
    refine PO.mk ?_
    change WP _ _ (CA Try.f57 [1, 1, 1, 0, 1, 0, 0, 1]) _ _ _
    refine fk_cut ([(1, .func (Fn.func 58) #[] #[]), (5, .int .i64 (((cnt 1 A i : Nat) : Int))), (18, .slice (some ⟨b, 1, none⟩) n 256), (19, .int .i64 (((n : Nat) : Int))), (20, .int .i64 (((i : Nat) : Int))), (21, .bool true)] : Fr) (by kernel_rfl) (fun a => WP _ _ _ _ a _) (fun lr22 => ?_)
    refine gi_seq (x := CA Try.f57 [1, 1, 1, 0, 1, 0, 0, 1, 0]) (y := CA Try.f57 [1, 1, 1, 0, 1, 0, 0, 1, 1]) (by kernel_rfl) ?_
    refine gi_cnd (x := (Operand.tmp 21)) (s := CA Try.f57 [1, 1, 1, 0, 1, 0, 0, 1, 0, 0]) (t := CA Try.f57 [1, 1, 1, 0, 1, 0, 0, 1, 0, 1]) true (by kernel_rfl) (by kernel_rfl) ?_
    change WP _ _ (CA Try.f57 [1, 1, 1, 0, 1, 0, 0, 1, 0, 0]) _ _ _
    refine gi_skp (by kernel_rfl) ?_
    change WP _ _ (CA Try.f57 [1, 1, 1, 0, 1, 0, 0, 1, 1]) _ _ _
    refine gi_seq (x := CA Try.f57 [1, 1, 1, 0, 1, 0, 0, 1, 1, 0]) (y := CA Try.f57 [1, 1, 1, 0, 1, 0, 0, 1, 1, 1]) (by kernel_rfl) ?_
    refine gi_blk (id := 1) (x := CA Try.f57 [1, 1, 1, 0, 1, 0, 0, 1, 1, 0, 0]) (by kernel_rfl) ?_
    refine gi_seq (x := CA Try.f57 [1, 1, 1, 0, 1, 0, 0, 1, 1, 0, 0, 0]) (y := CA Try.f57 [1, 1, 1, 0, 1, 0, 0, 1, 1, 0, 0, 1]) (by kernel_rfl) ?_
    refine gi_pln (id := 6) (ops := RA Try.f57 [1, 1, 1, 0, 1, 0, 0, 1, 1, 0, 0, 0]) [0, 1, 2, 3] (by kernel_rfl) (by kernel_rfl) (by kernel_rfl) ?_
    refine plain_law (i := 0) 22 (.pointer (some ⟨b, i * 2 + 1, none⟩)) (by kernel_rfl) (law_indexSl (o := opA (RA Try.f57 [1, 1, 1, 0, 1, 0, 0, 1, 1, 0, 0, 0]) 0) (x := (Operand.tmp 18)) (i := (Operand.tmp 20)) (b := b) (off := 1) (z := (((i : Nat) : Int))) (len := n) (cap := 256) (by kernel_rfl) Try.underlying126 2 (by kernel_rfl) i (by kernel_rfl) (by kernel_rfl) (by omega) (by omega) (i * 2 + 1) (by omega) _) ?_
    obtain ⟨x23, hx24⟩ : ∃ x : Sl2, A[i]? = some x := ⟨_, List.getElem?_eq_getElem (by rw [hp2.1]; omega)⟩
    have hb25 := hp2.2.2.2.1 x23 (List.mem_of_getElem? hx24)
    refine plain_batch (rest := [2, 3]) [⟨1, [.int .i64 x23.1, .int .u32 x23.2], none⟩] (l' := ([(23, .agg #[.int .i64 x23.1, .int .u32 x23.2]), (22, .pointer (some ⟨b, i * 2 + 1, none⟩)), (1, .func (Fn.func 58) #[] #[]), (5, .int .i64 (((cnt 1 A i : Nat) : Int))), (18, .slice (some ⟨b, 1, none⟩) n 256), (19, .int .i64 (((n : Nat) : Int))), (20, .int .i64 (((i : Nat) : Int))), (21, .bool true)] : Fr) ++ lr22) (pts' := [(1, ⟨b, i * 2 + 1, none⟩, .int .i64 x23.1), (1, ⟨b, i * 2 + 2, none⟩, .int .u32 x23.2)]) (eqs := []) (by kernel_rfl) trivial (AllC_cons (sat_cell h20 0 rfl (tbl_stk (app_get hx24) (by omega))) (AllC_cons (sat_cell h20 0 rfl (tbl_genk (app_get hx24) (by omega))) (AllC_nil _))) ?_
    refine plain_act (i := 2) (by kernel_rfl) ?_
    refine an_new (d := 7) (fun xb_ => .pointer (some ⟨xb_, 0, none⟩)) (fun xb_ => Obj.cells [.int .i64 0, .int .u32 0].toArray 104 (0, 0)) (fun xb_ => by kernel_rfl) (by kernel_rfl) rfl h20 ?_
    intro r26 w27 (h28 : sat g w27 [Cl r26 [.int .i64 0, .int .u32 0] 104, Cl b (tbl n (A ++ T1)) 107, R])
    refine plain_act (i := 3) (by kernel_rfl) ?_
    refine an_store [(0, .int .i64 x23.1), (1, .int .u32 x23.2)] (cs' := [.int .i64 x23.1, .int .u32 x23.2]) (by kernel_rfl) (by kernel_rfl) (allq ⟨⟨by simp, rfl⟩, ⟨by simp, rfl⟩, trivial⟩) rfl h28 ?_
    intro w29 (h30 : sat g w29 [Cl r26 [.int .i64 x23.1, .int .u32 x23.2] 104, Cl b (tbl n (A ++ T1)) 107, R])
    refine PO.mk ?_
    change WP _ _ (CA Try.f57 [1, 1, 1, 0, 1, 0, 0, 1, 1, 0, 0, 1]) _ _ _
    refine fk_cut ([(1, .func (Fn.func 58) #[] #[]), (5, .int .i64 (((cnt 1 A i : Nat) : Int))), (7, .pointer (some ⟨r26, 0, none⟩)), (18, .slice (some ⟨b, 1, none⟩) n 256), (19, .int .i64 (((n : Nat) : Int))), (20, .int .i64 (((i : Nat) : Int))), (21, .bool true)] : Fr) (by kernel_rfl) (fun a => WP _ _ _ _ a _) (fun lr31 => ?_)
    refine gi_seq (x := CA Try.f57 [1, 1, 1, 0, 1, 0, 0, 1, 1, 0, 0, 1, 0]) (y := CA Try.f57 [1, 1, 1, 0, 1, 0, 0, 1, 1, 0, 0, 1, 1]) (by kernel_rfl) ?_
    refine gi_pln (id := 7) (ops := RA Try.f57 [1, 1, 1, 0, 1, 0, 0, 1, 1, 0, 0, 1, 0]) [0, 1, 2] (by kernel_rfl) (by kernel_rfl) (by kernel_rfl) ?_
    refine plain_batch (rest := [2]) [⟨0, [], none⟩, ⟨1, [.int .i64 x23.1, .int .u32 x23.2], none⟩] (l' := ([(25, .agg #[.int .i64 x23.1, .int .u32 x23.2]), (24, .func (Fn.func 58) #[] #[]), (1, .func (Fn.func 58) #[] #[]), (5, .int .i64 (((cnt 1 A i : Nat) : Int))), (7, .pointer (some ⟨r26, 0, none⟩)), (18, .slice (some ⟨b, 1, none⟩) n 256), (19, .int .i64 (((n : Nat) : Int))), (20, .int .i64 (((i : Nat) : Int))), (21, .bool true)] : Fr) ++ lr31) (pts' := [(1, ⟨r26, 0, none⟩, .int .i64 x23.1), (1, ⟨r26, 1, none⟩, .int .u32 x23.2)]) (eqs := []) (by kernel_rfl) trivial (AllC_cons (sat_cell h30 0 rfl rfl) (AllC_cons (sat_cell h30 0 rfl rfl) (AllC_nil _))) ?_
    by_cases c32 : x23.1 = 1
    ·
      refine plain_act (i := 2) (by kernel_rfl) ?_
      refine an_call (d := some 26) (f := 58) (args := [.agg #[.int .i64 x23.1, .int .u32 x23.2]]) (by kernel_rfl) Try.call58 (len1_y x23.1 x23.2 (by omega)) (F := [Cl r26 [.int .i64 x23.1, .int .u32 x23.2] 104, Cl b (tbl n (A ++ T1)) 107, R]) h30 ?_
      rintro v K w33 (⟨rfl, rfl⟩) h34
      refine ⟨_, rfl, ?_⟩
      have h35 : sat g w33 [Cl r26 [.int .i64 x23.1, .int .u32 x23.2] 104, Cl b (tbl n (A ++ T1)) 107, R] := h34
      refine PO.mk ?_
      change WP _ _ (CA Try.f57 [1, 1, 1, 0, 1, 0, 0, 1, 1, 0, 0, 1, 1]) _ _ _
      refine fk_cut ([(1, .func (Fn.func 58) #[] #[]), (5, .int .i64 (((cnt 1 A i : Nat) : Int))), (7, .pointer (some ⟨r26, 0, none⟩)), (18, .slice (some ⟨b, 1, none⟩) n 256), (19, .int .i64 (((n : Nat) : Int))), (20, .int .i64 (((i : Nat) : Int))), (21, .bool true), (26, .bool true)] : Fr) (by kernel_rfl) (fun a => WP _ _ _ _ a _) (fun lr36 => ?_)
      refine gi_cnd (x := (Operand.tmp 26)) (s := CA Try.f57 [1, 1, 1, 0, 1, 0, 0, 1, 1, 0, 0, 1, 1, 0]) (t := CA Try.f57 [1, 1, 1, 0, 1, 0, 0, 1, 1, 0, 0, 1, 1, 1]) true (by kernel_rfl) (by kernel_rfl) ?_
      change WP _ _ (CA Try.f57 [1, 1, 1, 0, 1, 0, 0, 1, 1, 0, 0, 1, 1, 0]) _ _ _
      refine gi_pln (id := 8) (ops := RA Try.f57 [1, 1, 1, 0, 1, 0, 0, 1, 1, 0, 0, 1, 1, 0]) [0, 1, 2] (by kernel_rfl) (by kernel_rfl) (by kernel_rfl) ?_
      refine plain_batch (rest := []) [⟨0, [], none⟩, ⟨1, [], some (.int .i64 (((cnt 1 A i : Nat) : Int) + 1))⟩, ⟨2, [], none⟩] (l' := ([(5, .int .i64 (((cnt 1 A i : Nat) : Int) + 1)), (28, .int .i64 (((cnt 1 A i : Nat) : Int) + 1)), (27, .int .i64 (((cnt 1 A i : Nat) : Int))), (1, .func (Fn.func 58) #[] #[]), (5, .int .i64 (((cnt 1 A i : Nat) : Int))), (7, .pointer (some ⟨r26, 0, none⟩)), (18, .slice (some ⟨b, 1, none⟩) n 256), (19, .int .i64 (((n : Nat) : Int))), (20, .int .i64 (((i : Nat) : Int))), (21, .bool true), (26, .bool true)] : Fr) ++ lr36) (pts' := []) (eqs := [(.int .i64 (IntKind.wrap .i64 ((((cnt 1 A i : Nat) : Int)) + 1)), .int .i64 (((cnt 1 A i : Nat) : Int) + 1))]) (by kernel_rfl) ⟨(ov_i64 (by omega) (by omega) (by omega)), trivial⟩ (AllC_nil _) ?_
      refine PO.mk ?_
      change WP _ _ (CA Try.f57 [1, 1, 1, 0, 1, 0, 0, 1, 1, 1]) _ _ _
      refine fk_cut ([(1, .func (Fn.func 58) #[] #[]), (5, .int .i64 (((cnt 1 A i : Nat) : Int) + 1)), (7, .pointer (some ⟨r26, 0, none⟩)), (18, .slice (some ⟨b, 1, none⟩) n 256), (19, .int .i64 (((n : Nat) : Int))), (20, .int .i64 (((i : Nat) : Int))), (21, .bool true), (26, .bool true)] : Fr) (by kernel_rfl) (fun a => WP _ _ _ _ a _) (fun lr37 => ?_)
      refine gi_pln (id := 9) (ops := RA Try.f57 [1, 1, 1, 0, 1, 0, 0, 1, 1, 1]) [0, 1] (by kernel_rfl) (by kernel_rfl) (by kernel_rfl) ?_
      refine plain_batch (rest := []) [⟨0, [], some (.int .i64 (((i : Nat) : Int) + 1))⟩, ⟨1, [], none⟩] (l' := ([(20, .int .i64 (((i : Nat) : Int) + 1)), (29, .int .i64 (((i : Nat) : Int) + 1)), (1, .func (Fn.func 58) #[] #[]), (5, .int .i64 (((cnt 1 A i : Nat) : Int) + 1)), (7, .pointer (some ⟨r26, 0, none⟩)), (18, .slice (some ⟨b, 1, none⟩) n 256), (19, .int .i64 (((n : Nat) : Int))), (20, .int .i64 (((i : Nat) : Int))), (21, .bool true), (26, .bool true)] : Fr) ++ lr37) (pts' := []) (eqs := [(.int .i64 (IntKind.wrap .i64 ((((i : Nat) : Int)) + 1)), .int .i64 (((i : Nat) : Int) + 1))]) (by kernel_rfl) ⟨(ov_i64 (by omega) (by omega) (by omega)), trivial⟩ (AllC_nil _) ?_
      refine PO.mk ?_
      have hc_ : cnt 1 A (i + 1) = (cnt 1 A i) + 1 := cnt_go hx24 (by omega)
      have h38 : sat g w33 [Cl b (tbl n (A ++ T1)) 107, R, Cl r26 [.int .i64 x23.1, .int .u32 x23.2] 104] := sat_sel [1, 2, 0] rfl h35
      have h39 : sat g w33 [Cl b (tbl n (A ++ T1)) 107, R] := sat_sel [0, 1] rfl h38
      change ∃ n', n' < _ ∧ _
      refine ⟨(n - (i + 1)), by omega, (i + 1), _, rfl, (by omega), (mk_live [(1, .func (Fn.func 58) #[] #[]), (5, .int .i64 (((cnt 1 A (i + 1) : Nat) : Int))), (18, .slice (some ⟨b, 1, none⟩) n 256), (19, .int .i64 (((n : Nat) : Int))), (20, .int .i64 ((((i + 1) : Nat) : Int)))] ⟨rfl, (ov_int (by omega)), rfl, rfl, (ov_int (by omega)), trivial⟩), h39⟩
    ·
      refine plain_act (i := 2) (by kernel_rfl) ?_
      refine an_call (d := some 26) (f := 58) (args := [.agg #[.int .i64 x23.1, .int .u32 x23.2]]) (by kernel_rfl) Try.call58 (len1_n x23.1 x23.2 (by omega)) (F := [Cl r26 [.int .i64 x23.1, .int .u32 x23.2] 104, Cl b (tbl n (A ++ T1)) 107, R]) h30 ?_
      rintro v K w40 (⟨rfl, rfl⟩) h41
      refine ⟨_, rfl, ?_⟩
      have h42 : sat g w40 [Cl r26 [.int .i64 x23.1, .int .u32 x23.2] 104, Cl b (tbl n (A ++ T1)) 107, R] := h41
      refine PO.mk ?_
      change WP _ _ (CA Try.f57 [1, 1, 1, 0, 1, 0, 0, 1, 1, 0, 0, 1, 1]) _ _ _
      refine fk_cut ([(1, .func (Fn.func 58) #[] #[]), (5, .int .i64 (((cnt 1 A i : Nat) : Int))), (7, .pointer (some ⟨r26, 0, none⟩)), (18, .slice (some ⟨b, 1, none⟩) n 256), (19, .int .i64 (((n : Nat) : Int))), (20, .int .i64 (((i : Nat) : Int))), (21, .bool true), (26, .bool false)] : Fr) (by kernel_rfl) (fun a => WP _ _ _ _ a _) (fun lr43 => ?_)
      refine gi_cnd (x := (Operand.tmp 26)) (s := CA Try.f57 [1, 1, 1, 0, 1, 0, 0, 1, 1, 0, 0, 1, 1, 0]) (t := CA Try.f57 [1, 1, 1, 0, 1, 0, 0, 1, 1, 0, 0, 1, 1, 1]) false (by kernel_rfl) (by kernel_rfl) ?_
      change WP _ _ (CA Try.f57 [1, 1, 1, 0, 1, 0, 0, 1, 1, 0, 0, 1, 1, 1]) _ _ _
      refine gi_skp (by kernel_rfl) ?_
      change WP _ _ (CA Try.f57 [1, 1, 1, 0, 1, 0, 0, 1, 1, 1]) _ _ _
      refine gi_pln (id := 9) (ops := RA Try.f57 [1, 1, 1, 0, 1, 0, 0, 1, 1, 1]) [0, 1] (by kernel_rfl) (by kernel_rfl) (by kernel_rfl) ?_
      refine plain_batch (rest := []) [⟨0, [], some (.int .i64 (((i : Nat) : Int) + 1))⟩, ⟨1, [], none⟩] (l' := ([(20, .int .i64 (((i : Nat) : Int) + 1)), (29, .int .i64 (((i : Nat) : Int) + 1)), (1, .func (Fn.func 58) #[] #[]), (5, .int .i64 (((cnt 1 A i : Nat) : Int))), (7, .pointer (some ⟨r26, 0, none⟩)), (18, .slice (some ⟨b, 1, none⟩) n 256), (19, .int .i64 (((n : Nat) : Int))), (20, .int .i64 (((i : Nat) : Int))), (21, .bool true), (26, .bool false)] : Fr) ++ lr43) (pts' := []) (eqs := [(.int .i64 (IntKind.wrap .i64 ((((i : Nat) : Int)) + 1)), .int .i64 (((i : Nat) : Int) + 1))]) (by kernel_rfl) ⟨(ov_i64 (by omega) (by omega) (by omega)), trivial⟩ (AllC_nil _) ?_
      refine PO.mk ?_
      have hc_ : cnt 1 A (i + 1) = (cnt 1 A i) := cnt_no hx24 (by omega)
      have h44 : sat g w40 [Cl b (tbl n (A ++ T1)) 107, R, Cl r26 [.int .i64 x23.1, .int .u32 x23.2] 104] := sat_sel [1, 2, 0] rfl h42
      have h45 : sat g w40 [Cl b (tbl n (A ++ T1)) 107, R] := sat_sel [0, 1] rfl h44
      change ∃ n', n' < _ ∧ _
      refine ⟨(n - (i + 1)), by omega, (i + 1), _, rfl, (by omega), (mk_live [(1, .func (Fn.func 58) #[] #[]), (5, .int .i64 (((cnt 1 A (i + 1) : Nat) : Int))), (18, .slice (some ⟨b, 1, none⟩) n 256), (19, .int .i64 (((n : Nat) : Int))), (20, .int .i64 ((((i + 1) : Nat) : Int)))] ⟨rfl, (ov_int (by omega)), rfl, rfl, (ov_int (by omega)), trivial⟩), h45⟩
  ·
    refine plain_batch (rest := []) [⟨0, [], some (.bool false)⟩] (l' := ([(21, .bool false), (1, .func (Fn.func 58) #[] #[]), (5, .int .i64 (((cnt 1 A i : Nat) : Int))), (18, .slice (some ⟨b, 1, none⟩) n 256), (19, .int .i64 (((n : Nat) : Int))), (20, .int .i64 (((i : Nat) : Int)))] : Fr) ++ lr16) (pts' := []) (eqs := [(.bool (decide (((i : Nat) : Int) < ((n : Nat) : Int))), .bool false)]) (by kernel_rfl) ⟨(ov_f (by omega)), trivial⟩ (AllC_nil _) ?_
    refine PO.mk ?_
    change WP _ _ (CA Try.f57 [1, 1, 1, 0, 1, 0, 0, 1]) _ _ _
    refine fk_cut ([(1, .func (Fn.func 58) #[] #[]), (5, .int .i64 (((cnt 1 A i : Nat) : Int))), (18, .slice (some ⟨b, 1, none⟩) n 256), (19, .int .i64 (((n : Nat) : Int))), (20, .int .i64 (((i : Nat) : Int))), (21, .bool false)] : Fr) (by kernel_rfl) (fun a => WP _ _ _ _ a _) (fun lr46 => ?_)
    refine gi_seq (x := CA Try.f57 [1, 1, 1, 0, 1, 0, 0, 1, 0]) (y := CA Try.f57 [1, 1, 1, 0, 1, 0, 0, 1, 1]) (by kernel_rfl) ?_
    refine gi_cnd (x := (Operand.tmp 21)) (s := CA Try.f57 [1, 1, 1, 0, 1, 0, 0, 1, 0, 0]) (t := CA Try.f57 [1, 1, 1, 0, 1, 0, 0, 1, 0, 1]) false (by kernel_rfl) (by kernel_rfl) ?_
    change WP _ _ (CA Try.f57 [1, 1, 1, 0, 1, 0, 0, 1, 0, 1]) _ _ _
    refine gi_ext (id := 0) (by kernel_rfl) ?_
    change WP _ _ (CA Try.f57 [1, 1, 1, 1]) _ _ _
    refine gi_seq (x := CA Try.f57 [1, 1, 1, 1, 0]) (y := CA Try.f57 [1, 1, 1, 1, 1]) (by kernel_rfl) ?_
    refine gi_pln (id := 10) (ops := RA Try.f57 [1, 1, 1, 1, 0]) [0, 1] (by kernel_rfl) (by kernel_rfl) (by kernel_rfl) ?_
    refine plain_batch (rest := []) [⟨0, [], none⟩, ⟨1, [], none⟩] (l' := ([(4, .int .i64 (((cnt 1 A i : Nat) : Int))), (30, .int .i64 (((cnt 1 A i : Nat) : Int))), (1, .func (Fn.func 58) #[] #[]), (5, .int .i64 (((cnt 1 A i : Nat) : Int))), (18, .slice (some ⟨b, 1, none⟩) n 256), (19, .int .i64 (((n : Nat) : Int))), (20, .int .i64 (((i : Nat) : Int))), (21, .bool false)] : Fr) ++ lr46) (pts' := []) (eqs := []) (by kernel_rfl) trivial (AllC_nil _) ?_
    refine PO.mk ?_
    change WP _ _ (CA Try.f57 [1, 1, 1, 1, 1]) _ _ _
    refine fk_cut ([(1, .func (Fn.func 58) #[] #[]), (4, .int .i64 (((cnt 1 A i : Nat) : Int))), (5, .int .i64 (((cnt 1 A i : Nat) : Int))), (18, .slice (some ⟨b, 1, none⟩) n 256), (19, .int .i64 (((n : Nat) : Int))), (20, .int .i64 (((i : Nat) : Int))), (21, .bool false)] : Fr) (by kernel_rfl) (fun a => WP _ _ _ _ a _) (fun lr47 => ?_)
    refine gi_rt (by kernel_rfl) ?_
    repeat (first | simp only [Exit.inBlock] | simp only [Exit.then])
    have hc_ : cnt 1 A i = (inS 1 A 0).length := cnt_all 1 (by omega)
    have h48 : sat g w19 [Tb b n A, R] := tb_close hp2 h20
    refine hi_out [] (.int .i64 (((cnt 1 A i : Nat) : Int))) [] (by kernel_rfl) (by intro q hq; cases hq) ?_
    exact ⟨.int .i64 (((cnt 1 A i : Nat) : Int)), [Tb b n A], rfl, ⟨by rw [hc_], rfl⟩, h48⟩

set_option maxHeartbeats 4000000 in
theorem slen_ht (b n : Nat) (A : List Sl2) : HT Try.prog 42 [Value.pointer (some ⟨b, 0, none⟩)] [Tb b n A] (fun v K => v = Value.int IntKind.i64 ((((inS 1 A 0).length : Nat) : Int)) ∧ K = [Tb b n A]) := by
  refine hi_in 5 ([(0, .pointer (some ⟨b, 0, none⟩))] : Fr) Try.func42 (by kernel_rfl) Try.ntmps42 rfl rfl ?_
  intro g w0 R h0
  refine gi_seq (x := CA Try.f42 [0]) (y := CA Try.f42 [1]) (by kernel_rfl) ?_
  refine gi_pln (id := 0) (ops := RA Try.f42 [0]) [0] (by kernel_rfl) (by kernel_rfl) (by kernel_rfl) ?_
  refine plain_batch (rest := []) [⟨0, [], none⟩] (l' := ([(2, .int .i64 0), (0, .pointer (some ⟨b, 0, none⟩))] : Fr)) (pts' := []) (eqs := []) (by kernel_rfl) trivial (AllC_nil _) ?_
  refine PO.mk ?_
  change WP _ _ (CA Try.f42 [1]) _ _ _
  refine fk_cut ([(0, .pointer (some ⟨b, 0, none⟩)), (2, .int .i64 0)] : Fr) (by kernel_rfl) (fun a => WP _ _ _ _ a _) (fun lr1 => ?_)
  refine gi_seq (x := CA Try.f42 [1, 0]) (y := CA Try.f42 [1, 1]) (by kernel_rfl) ?_
  refine gi_pln (id := 1) (ops := RA Try.f42 [1, 0]) [0, 1, 2] (by kernel_rfl) (by kernel_rfl) (by kernel_rfl) ?_
  refine plain_batch (rest := [1, 2]) [⟨0, [], none⟩] (l' := ([(3, .pointer (some ⟨b, 0, none⟩)), (0, .pointer (some ⟨b, 0, none⟩)), (2, .int .i64 0)] : Fr) ++ lr1) (pts' := []) (eqs := []) (by kernel_rfl) trivial (AllC_nil _) ?_
  refine plain_act (i := 1) (by kernel_rfl) ?_
  refine an_call (d := some 4) (f := 57) (args := [.pointer (some ⟨b, 0, none⟩), .func (Fn.func 58) #[] #[]]) (by kernel_rfl) Try.call57 (count1_ht b n A) (F := [R]) h0 ?_
  rintro v K w2 (⟨rfl, rfl⟩) h3
  refine ⟨_, rfl, ?_⟩
  have h4 : sat g w2 [Tb b n A, R] := h3
  refine plain_batch (rest := []) [⟨2, [], none⟩] (l' := ([(2, .int .i64 ((((inS 1 A 0).length : Nat) : Int))), (4, .int .i64 ((((inS 1 A 0).length : Nat) : Int))), (3, .pointer (some ⟨b, 0, none⟩)), (0, .pointer (some ⟨b, 0, none⟩)), (2, .int .i64 0)] : Fr) ++ lr1) (pts' := []) (eqs := []) (by kernel_rfl) trivial (AllC_nil _) ?_
  refine PO.mk ?_
  change WP _ _ (CA Try.f42 [1, 1]) _ _ _
  refine fk_cut ([(0, .pointer (some ⟨b, 0, none⟩)), (2, .int .i64 ((((inS 1 A 0).length : Nat) : Int)))] : Fr) (by kernel_rfl) (fun a => WP _ _ _ _ a _) (fun lr5 => ?_)
  refine gi_rt (by kernel_rfl) ?_
  repeat (first | simp only [Exit.inBlock] | simp only [Exit.then])
  refine hi_out [] (.int .i64 ((((inS 1 A 0).length : Nat) : Int))) [] (by kernel_rfl) (by intro q hq; cases hq) ?_
  exact ⟨.int .i64 ((((inS 1 A 0).length : Nat) : Int)), [Tb b n A], rfl, ⟨rfl, rfl⟩, h4⟩

end Go.Proofs.Ytcgpkhdocakloaa
