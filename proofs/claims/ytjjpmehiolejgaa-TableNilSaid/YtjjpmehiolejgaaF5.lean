/- Walks, printed by my generator ../fds/gen5.py. -/
import Derived.Test.YtjjpmehiolejgaaF4
namespace Go.Proofs.Ytjjpmehiolejgaa
set_option maxHeartbeats 4000000 in
theorem snew_ok (n : Nat) (hn : 1 ≤ n ∧ n ≤ 256) (gn : Int) (hgn : 1 ≤ gn ∧ gn ≤ 4294967295) : HT Try.prog 35 [Value.int IntKind.i64 (((n : Nat) : Int)), Value.int IntKind.u32 gn] [] (fun v K => ∃ b : Nat, v = Value.tuple #[Value.pointer (some ⟨b, 0, none⟩), Value.int .i64 0] ∧ K = [Tb b n (List.replicate n (0, gn))]) := by
  refine hi_in 35 ([(0, iV (((n : Nat) : Int))), (1, uV gn)] : Fr) Try.func35 (by kernel_rfl) Try.ntmps35 rfl rfl ?_
  intro g w0 R h0
  change WP _ _ (CA Try.f35 []) _ _ _
  refine zSq (by kernel_rfl) ?_
  refine zPl [0, 1] (by kernel_rfl) ?_
  refine zB0 [] [0, 1] [(5, iV 0), (4, .pointer none)] (by kernel_rfl) ?_
  refine PO.mk ?_
  change WP _ _ (CA Try.f35 [1]) _ _ _
  refine fk_cut ([(0, iV (((n : Nat) : Int))), (1, uV gn)] : Fr) (by kernel_rfl) (fun a => WP _ _ _ _ a _) (fun lr1 => ?_)
  refine zSq (by kernel_rfl) ?_
  refine zSq (by kernel_rfl) ?_
  refine zPl [0, 1, 2, 3, 4, 5, 6, 7, 8, 9, 10] (by kernel_rfl) ?_
  refine zBb [8, 9, 10] [(15, uV gn), (14, .bool false), (13, .bool false), (12, .bool false), (11, iV (((n : Nat) : Int))), (10, .bool false), (9, .bool false), (8, iV (((n : Nat) : Int)))] [⟨0, [], none⟩, ⟨1, [], some (.bool false)⟩, ⟨2, [], none⟩, ⟨3, [], none⟩, ⟨4, [], some (.bool false)⟩, ⟨5, [], none⟩, ⟨6, [], none⟩, ⟨7, [], none⟩] [] [(.bool (decide (((n : Nat) : Int) < 1)), .bool false), (.bool (decide (((n : Nat) : Int) > 256)), .bool false)] (by kernel_rfl) ⟨(ov_f (by omega)), (ov_f (by omega)), trivial⟩ (AllC_nil _) ?_
  refine plain_act (i := 8) (by kernel_rfl) ?_
  refine zCl 16 Try.call55 (gcheck_ok gn (by omega) (by omega)) h0 (by kernel_rfl) ?_
  rintro v K w2 (⟨rfl, rfl⟩) h3
  refine ⟨_, rfl, ?_⟩
  have h4 : sat g w2 [R] := h3
  refine zB0 [] [9, 10] [(18, .bool false), (17, .bool false)] (by kernel_rfl) ?_
  refine PO.mk ?_
  change WP _ _ (CA Try.f35 [1, 0, 1]) _ _ _
  refine fk_cut ([(0, iV (((n : Nat) : Int))), (1, uV gn), (18, .bool false)] : Fr) (by kernel_rfl) (fun a => WP _ _ _ _ a _) (fun lr5 => ?_)
  refine zCf (by kernel_rfl) ?_
  refine gi_skp (by kernel_rfl) ?_
  change WP _ _ (CA Try.f35 [1, 1]) _ _ _
  refine zSq (by kernel_rfl) ?_
  refine zPl [0, 1, 2, 3] (by kernel_rfl) ?_
  refine zB0 [2, 3] [0, 1] [(20, .agg (tbl n (List.replicate 256 (0, 0))).toArray), (19, iV (((n : Nat) : Int)))] (by kernel_rfl) ?_
  refine plain_act (i := 2) (by kernel_rfl) ?_
  refine an_new (d := 21) (fun xb_ => pV xb_) (fun xb_ => Obj.cells (tbl n (List.replicate 256 (0, 0))).toArray 113 (0, 0)) (fun xb_ => by kernel_rfl) (by kernel_rfl) rfl h4 ?_
  intro r6 w7 (h8 : sat g w7 [Cl r6 (tbl n (List.replicate 0 (0, gn) ++ List.replicate (256 - 0) (0, 0))) 113, R])
  refine zB0 [] [3] [(6, pV r6)] (by kernel_rfl) ?_
  refine PO.mk ?_
  change WP _ _ (CA Try.f35 [1, 1, 1]) _ _ _
  refine fk_cut ([(0, iV (((n : Nat) : Int))), (1, uV gn), (6, pV r6)] : Fr) (by kernel_rfl) (fun a => WP _ _ _ _ a _) (fun lr9 => ?_)
  refine zSq (by kernel_rfl) ?_
  refine zSq (by kernel_rfl) ?_
  refine zPl [0, 1] (by kernel_rfl) ?_
  refine zB0 [] [0, 1] [(23, iV 0), (22, iV (((n : Nat) : Int)))] (by kernel_rfl) ?_
  refine PO.mk ?_
  change WP _ _ (CA Try.f35 [1, 1, 1, 0, 1]) _ _ _
  refine fk_cut ([(1, uV gn), (6, pV r6), (22, iV (((n : Nat) : Int))), (23, iV 0)] : Fr) (by kernel_rfl) (fun a => WP _ _ _ _ a _) (fun lr10 => ?_)
  refine gi_blk (id := 0) (x := CA Try.f35 [1, 1, 1, 0, 1, 0]) (by kernel_rfl) ?_
  refine gi_lp (x := CA Try.f35 [1, 1, 1, 0, 1, 0, 0]) (by kernel_rfl) (fun mz_ a w => ∃ i : Nat, ∃ lr : Fr, mz_ = n - i ∧ (i ≤ n) ∧ a = mk 35 (([(1, uV gn), (6, pV r6), (22, iV (((n : Nat) : Int))), (23, iV (((i : Nat) : Int)))] : Fr) ++ lr) ∧ sat g w [Cl r6 (tbl n (List.replicate i (0, gn) ++ List.replicate (256 - i) (0, 0))) 113, R]) (n - 0) ⟨0, _, rfl, (Nat.zero_le _), (mk_live [(1, uV gn), (6, pV r6), (22, iV (((n : Nat) : Int))), (23, iV (((0 : Nat) : Int)))] ⟨rfl, rfl, rfl, (ov_int (by omega)), trivial⟩), h8⟩ ?_
  rintro m12 a13 w14 ⟨i, lr11, rfl, hi, rfl, h15⟩
  change WP _ _ (CA Try.f35 [1, 1, 1, 0, 1, 0, 0]) _ _ _
  refine zSq (by kernel_rfl) ?_
  refine zPl [0] (by kernel_rfl) ?_
  by_cases c16 : ((i : Nat) : Int) < ((n : Nat) : Int)
  ·
    refine zBb [] [(24, .bool true)] [⟨0, [], some (.bool true)⟩] [] [(.bool (decide (((i : Nat) : Int) < ((n : Nat) : Int))), .bool true)] (by kernel_rfl) ⟨(ov_t (by omega)), trivial⟩ (AllC_nil _) ?_
    refine PO.mk ?_
    change WP _ _ (CA Try.f35 [1, 1, 1, 0, 1, 0, 0, 1]) _ _ _
    refine fk_cut ([(1, uV gn), (6, pV r6), (22, iV (((n : Nat) : Int))), (23, iV (((i : Nat) : Int))), (24, .bool true)] : Fr) (by kernel_rfl) (fun a => WP _ _ _ _ a _) (fun lr17 => ?_)
    refine zSq (by kernel_rfl) ?_
    refine zCt (by kernel_rfl) ?_
    refine gi_skp (by kernel_rfl) ?_
    change WP _ _ (CA Try.f35 [1, 1, 1, 0, 1, 0, 0, 1, 1]) _ _ _
    refine zSq (by kernel_rfl) ?_
    refine gi_blk (id := 1) (x := CA Try.f35 [1, 1, 1, 0, 1, 0, 0, 1, 1, 0, 0]) (by kernel_rfl) ?_
    refine zSq (by kernel_rfl) ?_
    refine zPl [0, 1] (by kernel_rfl) ?_
    refine zB0 [] [0, 1] [(7, iV (((i : Nat) : Int))), (25, iV (((i : Nat) : Int)))] (by kernel_rfl) ?_
    refine PO.mk ?_
    change WP _ _ (CA Try.f35 [1, 1, 1, 0, 1, 0, 0, 1, 1, 0, 0, 1]) _ _ _
    refine fk_cut ([(1, uV gn), (6, pV r6), (7, iV (((i : Nat) : Int))), (22, iV (((n : Nat) : Int))), (23, iV (((i : Nat) : Int)))] : Fr) (by kernel_rfl) (fun a => WP _ _ _ _ a _) (fun lr18 => ?_)
    refine zPl [0, 1, 2, 3, 4, 5, 6, 7] (by kernel_rfl) ?_
    refine zB0 [5, 6, 7] [0, 1, 2, 3, 4] [(30, .pointer (some ⟨r6, 1, none⟩)), (29, pV r6), (28, uV gn), (27, iV (((i : Nat) : Int))), (26, pV r6)] (by kernel_rfl) ?_
    refine plain_law (i := 5) 31 (.pointer (some ⟨r6, i * 2 + 1, none⟩)) (by kernel_rfl) (law_indexArr (o := opA (RA Try.f35 [1, 1, 1, 0, 1, 0, 0, 1, 1, 0, 0, 1]) 5) (x := (Operand.tmp 30)) (i := (Operand.tmp 27)) (b := r6) (off := 1) (z := (((i : Nat) : Int))) (by kernel_rfl) Try.underlying111 2 (by kernel_rfl) i (by kernel_rfl) (by kernel_rfl) (by omega) (by omega) (i * 2 + 1) (by omega) _) ?_
    refine zB0 [7] [6] [(32, .pointer (some ⟨r6, i * 2 + 2, none⟩))] (by kernel_rfl) ?_
    refine plain_act (i := 7) (by kernel_rfl) ?_
    refine an_store [(i * 2 + 2, uV gn)] (cs' := (tbl n (List.replicate (i + 1) (0, gn) ++ List.replicate (256 - (i + 1)) (0, 0)))) (by kernel_rfl) (by kernel_rfl) (allq ⟨⟨by rw [tbl_len, List.length_append, List.length_replicate, List.length_replicate]; omega, rfl⟩, trivial⟩) (new_put (i := i) (by omega) (by omega)) h15 ?_
    intro w19 (h20 : sat g w19 [Cl r6 (tbl n (List.replicate (i + 1) (0, gn) ++ List.replicate (256 - (i + 1)) (0, 0))) 113, R])
    refine PO.mk ?_
    change WP _ _ (CA Try.f35 [1, 1, 1, 0, 1, 0, 0, 1, 1, 1]) _ _ _
    refine fk_cut ([(1, uV gn), (6, pV r6), (22, iV (((n : Nat) : Int))), (23, iV (((i : Nat) : Int)))] : Fr) (by kernel_rfl) (fun a => WP _ _ _ _ a _) (fun lr21 => ?_)
    refine zPl [0, 1] (by kernel_rfl) ?_
    refine zBb [] [(23, iV (((i : Nat) : Int) + 1)), (33, iV (((i : Nat) : Int) + 1))] [⟨0, [], some (iV (((i : Nat) : Int) + 1))⟩, ⟨1, [], none⟩] [] [(iV (IntKind.wrap .i64 ((((i : Nat) : Int)) + 1)), iV (((i : Nat) : Int) + 1))] (by kernel_rfl) ⟨(ov_i64 (by omega) (by omega) (by omega)), trivial⟩ (AllC_nil _) ?_
    refine PO.mk ?_
    change ∃ n', n' < _ ∧ _
    refine ⟨(n - (i + 1)), by omega, (i + 1), _, rfl, (by omega), (mk_live [(1, uV gn), (6, pV r6), (22, iV (((n : Nat) : Int))), (23, iV ((((i + 1) : Nat) : Int)))] ⟨rfl, rfl, rfl, (ov_int (by omega)), trivial⟩), h20⟩
  ·
    refine zBb [] [(24, .bool false)] [⟨0, [], some (.bool false)⟩] [] [(.bool (decide (((i : Nat) : Int) < ((n : Nat) : Int))), .bool false)] (by kernel_rfl) ⟨(ov_f (by omega)), trivial⟩ (AllC_nil _) ?_
    refine PO.mk ?_
    change WP _ _ (CA Try.f35 [1, 1, 1, 0, 1, 0, 0, 1]) _ _ _
    refine fk_cut ([(1, uV gn), (6, pV r6), (22, iV (((n : Nat) : Int))), (23, iV (((i : Nat) : Int))), (24, .bool false)] : Fr) (by kernel_rfl) (fun a => WP _ _ _ _ a _) (fun lr22 => ?_)
    refine zSq (by kernel_rfl) ?_
    refine zCf (by kernel_rfl) ?_
    refine gi_ext (id := 0) (by kernel_rfl) ?_
    change WP _ _ (CA Try.f35 [1, 1, 1, 1]) _ _ _
    refine zSq (by kernel_rfl) ?_
    refine zPl [0, 1, 2] (by kernel_rfl) ?_
    refine zB0 [] [0, 1, 2] [(5, iV 0), (4, pV r6), (34, pV r6)] (by kernel_rfl) ?_
    refine PO.mk ?_
    change WP _ _ (CA Try.f35 [1, 1, 1, 1, 1]) _ _ _
    refine fk_cut ([(4, pV r6), (5, iV 0)] : Fr) (by kernel_rfl) (fun a => WP _ _ _ _ a _) (fun lr23 => ?_)
    refine gi_rt (by kernel_rfl) ?_
    repeat (first | simp only [Exit.inBlock] | simp only [Exit.then])
    obtain rfl : i = n := by omega
    have h24 : sat g w14 [Tb r6 i (List.replicate i (0, gn)), R] := tb_close (new_ok (by omega) (by omega) (by omega) (by omega)) h15
    refine hi_out [] (.tuple #[pV r6, iV 0]) [] (by kernel_rfl) (by intro q hq; cases hq) ?_
    exact ⟨.tuple #[pV r6, iV 0], [Tb r6 i (List.replicate i (0, gn))], rfl, ⟨r6, rfl, rfl⟩, h24⟩

set_option maxHeartbeats 4000000 in
theorem free1_y (s gn : Int) (hs : s = 0) : HT Try.prog 58 [Value.agg #[Value.int IntKind.i64 s, Value.int IntKind.u32 gn]] [] (fun v K => v = Value.bool true ∧ K = []) := by
  refine hi_in 6 ([(0, .agg #[iV s, uV gn])] : Fr) Try.func58 (by kernel_rfl) Try.ntmps58 rfl rfl ?_
  intro g w0 R h0
  change WP _ _ (CA Try.f58 []) _ _ _
  refine zSq (by kernel_rfl) ?_
  refine zPl [0, 1] (by kernel_rfl) ?_
  refine plain_act (i := 0) (by kernel_rfl) ?_
  refine an_new (d := 1) (fun xb_ => pV xb_) (fun xb_ => Obj.cells [iV s, uV gn].toArray 110 (0, 0)) (fun xb_ => by kernel_rfl) (by kernel_rfl) rfl h0 ?_
  intro r1 w2 (h3 : sat g w2 [Cl r1 [iV s, uV gn] 110, R])
  refine zB0 [] [1] [(2, .bool false)] (by kernel_rfl) ?_
  refine PO.mk ?_
  change WP _ _ (CA Try.f58 [1]) _ _ _
  refine fk_cut ([(1, pV r1)] : Fr) (by kernel_rfl) (fun a => WP _ _ _ _ a _) (fun lr4 => ?_)
  refine zSq (by kernel_rfl) ?_
  refine zPl [0, 1, 2, 3] (by kernel_rfl) ?_
  refine zBb [] [(2, .bool true), (5, .bool true), (4, iV s), (3, pV r1)] [⟨0, [], none⟩, ⟨1, [iV s], none⟩, ⟨2, [], some (.bool true)⟩, ⟨3, [], none⟩] [(1, ⟨r1, 0, none⟩, iV s)] [(.bool (s == 0), .bool true)] (by kernel_rfl) ⟨(ov_et (by omega)), trivial⟩ (AllC_cons (sat_cell h3 0 rfl rfl) (AllC_nil _)) ?_
  refine PO.mk ?_
  change WP _ _ (CA Try.f58 [1, 1]) _ _ _
  refine fk_cut ([(2, .bool true)] : Fr) (by kernel_rfl) (fun a => WP _ _ _ _ a _) (fun lr5 => ?_)
  refine gi_rt (by kernel_rfl) ?_
  repeat (first | simp only [Exit.inBlock] | simp only [Exit.then])
  have h6 : sat g w2 [R] := sat_sel [1] rfl h3
  refine hi_out [] (.bool true) [] (by kernel_rfl) (by intro q hq; cases hq) ?_
  exact ⟨.bool true, [], rfl, ⟨rfl, rfl⟩, h6⟩

set_option maxHeartbeats 4000000 in
theorem free1_n (s gn : Int) (hs : ¬ s = 0) : HT Try.prog 58 [Value.agg #[Value.int IntKind.i64 s, Value.int IntKind.u32 gn]] [] (fun v K => v = Value.bool false ∧ K = []) := by
  refine hi_in 6 ([(0, .agg #[iV s, uV gn])] : Fr) Try.func58 (by kernel_rfl) Try.ntmps58 rfl rfl ?_
  intro g w0 R h0
  change WP _ _ (CA Try.f58 []) _ _ _
  refine zSq (by kernel_rfl) ?_
  refine zPl [0, 1] (by kernel_rfl) ?_
  refine plain_act (i := 0) (by kernel_rfl) ?_
  refine an_new (d := 1) (fun xb_ => pV xb_) (fun xb_ => Obj.cells [iV s, uV gn].toArray 110 (0, 0)) (fun xb_ => by kernel_rfl) (by kernel_rfl) rfl h0 ?_
  intro r1 w2 (h3 : sat g w2 [Cl r1 [iV s, uV gn] 110, R])
  refine zB0 [] [1] [(2, .bool false)] (by kernel_rfl) ?_
  refine PO.mk ?_
  change WP _ _ (CA Try.f58 [1]) _ _ _
  refine fk_cut ([(1, pV r1)] : Fr) (by kernel_rfl) (fun a => WP _ _ _ _ a _) (fun lr4 => ?_)
  refine zSq (by kernel_rfl) ?_
  refine zPl [0, 1, 2, 3] (by kernel_rfl) ?_
  refine zBb [] [(2, .bool false), (5, .bool false), (4, iV s), (3, pV r1)] [⟨0, [], none⟩, ⟨1, [iV s], none⟩, ⟨2, [], some (.bool false)⟩, ⟨3, [], none⟩] [(1, ⟨r1, 0, none⟩, iV s)] [(.bool (s == 0), .bool false)] (by kernel_rfl) ⟨(ov_ef (by omega)), trivial⟩ (AllC_cons (sat_cell h3 0 rfl rfl) (AllC_nil _)) ?_
  refine PO.mk ?_
  change WP _ _ (CA Try.f58 [1, 1]) _ _ _
  refine fk_cut ([(2, .bool false)] : Fr) (by kernel_rfl) (fun a => WP _ _ _ _ a _) (fun lr5 => ?_)
  refine gi_rt (by kernel_rfl) ?_
  repeat (first | simp only [Exit.inBlock] | simp only [Exit.then])
  have h6 : sat g w2 [R] := sat_sel [1] rfl h3
  refine hi_out [] (.bool false) [] (by kernel_rfl) (by intro q hq; cases hq) ?_
  exact ⟨.bool false, [], rfl, ⟨rfl, rfl⟩, h6⟩

set_option maxHeartbeats 4000000 in
theorem count0_ht (b n : Nat) (A : List Sl2) : HT Try.prog 57 [Value.pointer (some ⟨b, 0, none⟩), Value.func (Fn.func 58) #[] #[]] [Tb b n A] (fun v K => v = Value.int IntKind.i64 ((((inS 0 A 0).length : Nat) : Int)) ∧ K = [Tb b n A]) := by
  refine hi_in 31 ([(0, pV b), (1, .func (Fn.func 58) #[] #[])] : Fr) Try.func57 (by kernel_rfl) Try.ntmps57 rfl rfl ?_
  intro g w0 R h0
  change WP _ _ (CA Try.f57 []) _ _ _
  obtain ⟨T1, hp2, h3⟩ := tb_open h0
  have hq4 := hp2.2.1; have hq5 := hp2.2.2.1; have hq6 := hp2.2.2.2.2
  have hAl := hp2.1
  refine zSq (by kernel_rfl) ?_
  refine zPl [0] (by kernel_rfl) ?_
  refine zB0 [] [0] [(4, iV 0)] (by kernel_rfl) ?_
  refine PO.mk ?_
  change WP _ _ (CA Try.f57 [1]) _ _ _
  refine fk_cut ([(0, pV b), (1, .func (Fn.func 58) #[] #[])] : Fr) (by kernel_rfl) (fun a => WP _ _ _ _ a _) (fun lr7 => ?_)
  refine zSq (by kernel_rfl) ?_
  refine zSq (by kernel_rfl) ?_
  refine zPl [0, 1, 2] (by kernel_rfl) ?_
  refine zB0 [1, 2] [0] [(8, pV b)] (by kernel_rfl) ?_
  refine plain_act (i := 1) (by kernel_rfl) ?_
  refine zCl 9 Try.call69 (svalid_cl b n _ (by omega)) h3 (by kernel_rfl) ?_
  rintro v K w8 (⟨rfl, rfl⟩) h9
  refine ⟨_, rfl, ?_⟩
  have h10 : sat g w8 [Cl b (tbl n (A ++ T1)) 113, R] := h9
  refine zB0 [] [2] [(10, .bool false)] (by kernel_rfl) ?_
  refine PO.mk ?_
  change WP _ _ (CA Try.f57 [1, 0, 1]) _ _ _
  refine fk_cut ([(0, pV b), (1, .func (Fn.func 58) #[] #[]), (10, .bool false)] : Fr) (by kernel_rfl) (fun a => WP _ _ _ _ a _) (fun lr11 => ?_)
  refine zCf (by kernel_rfl) ?_
  refine gi_skp (by kernel_rfl) ?_
  change WP _ _ (CA Try.f57 [1, 1]) _ _ _
  refine zSq (by kernel_rfl) ?_
  refine zPl [0] (by kernel_rfl) ?_
  refine zB0 [] [0] [(5, iV 0)] (by kernel_rfl) ?_
  refine PO.mk ?_
  change WP _ _ (CA Try.f57 [1, 1, 1]) _ _ _
  refine fk_cut ([(0, pV b), (1, .func (Fn.func 58) #[] #[]), (5, iV 0)] : Fr) (by kernel_rfl) (fun a => WP _ _ _ _ a _) (fun lr12 => ?_)
  refine zSq (by kernel_rfl) ?_
  refine zSq (by kernel_rfl) ?_
  refine gi_drw (id := 4) (ops := RA Try.f57 [1, 1, 1, 0, 0]) (Tr.fl 0 (Tr.fl 1 (Tr.fl 2 (Tr.fl 3 (Tr.fl 4 (Tr.fl 5 (Tr.fl 6 (Tr.fl 7 (Tr.fl 8 (Tr.fl 9 Tr.nil)))))))))) (by kernel_rfl) (by kernel_rfl) (by kernel_rfl) (by kernel_rfl) (by kernel_rfl) (fun _ _ d _ _ h => by cases d <;> exact h) h10 ?_
  intro w13 h14
  refine draw_batch (t := (Tr.fl 7 (Tr.fl 8 (Tr.fl 9 Tr.nil)))) [⟨0, [], none⟩, ⟨1, [], none⟩, ⟨2, [], none⟩, ⟨3, [], none⟩, ⟨4, [], none⟩, ⟨5, [], none⟩, ⟨6, [iV (((n : Nat) : Int))], none⟩] (l' := ([(17, iV (((n : Nat) : Int))), (16, pV b), (15, pV b), (14, pV b), (13, .pointer (some ⟨b, 1, none⟩)), (12, pV b), (11, pV b), (0, pV b), (1, .func (Fn.func 58) #[] #[]), (5, iV 0)] : Fr) ++ lr12) (pts' := [(6, ⟨b, 0, none⟩, iV (((n : Nat) : Int)))]) (eqs := []) (by kernel_rfl) trivial (AllC_cons (sat_cell h14 0 rfl rfl) (AllC_nil _)) ?_
  refine draw_law (i := 7) 18 (.slice (some ⟨b, 1, none⟩) n 256) [] (by kernel_rfl) (fun _ _ => law_sliceArr (o := opA (RA Try.f57 [1, 1, 1, 0, 0]) 7) (x := (Operand.tmp 13)) (lo := none) (hi := (some (Operand.tmp 17))) (b := b) (off := 1) (by kernel_rfl) Try.underlying111 2 (by kernel_rfl) 0 (((n : Nat) : Int)) 0 n (by kernel_rfl) rfl (show fe _ _ (Operand.tmp 17) = _ from by kernel_rfl) (by omega) (by omega) (by omega) (by omega) 1 (by split <;> omega) n 256 (by omega) (by omega) _) (by intro q hq; cases hq) ?_
  refine draw_batch (t := Tr.nil) [⟨8, [], none⟩, ⟨9, [], none⟩] (l' := ([(20, iV 0), (19, iV (((n : Nat) : Int))), (18, .slice (some ⟨b, 1, none⟩) n 256), (17, iV (((n : Nat) : Int))), (16, pV b), (15, pV b), (14, pV b), (13, .pointer (some ⟨b, 1, none⟩)), (12, pV b), (11, pV b), (0, pV b), (1, .func (Fn.func 58) #[] #[]), (5, iV 0)] : Fr) ++ lr12) (pts' := []) (eqs := []) (by kernel_rfl) trivial (AllC_nil _) ?_
  change WP _ _ (CA Try.f57 [1, 1, 1, 0, 1]) _ _ _
  refine fk_cut ([(1, .func (Fn.func 58) #[] #[]), (5, iV 0), (18, .slice (some ⟨b, 1, none⟩) n 256), (19, iV (((n : Nat) : Int))), (20, iV 0)] : Fr) (by kernel_rfl) (fun a => WP _ _ _ _ a _) (fun lr15 => ?_)
  refine gi_blk (id := 0) (x := CA Try.f57 [1, 1, 1, 0, 1, 0]) (by kernel_rfl) ?_
  have hc0_ : cnt 0 A 0 = 0 := rfl
  refine gi_lp (x := CA Try.f57 [1, 1, 1, 0, 1, 0, 0]) (by kernel_rfl) (fun mz_ a w => ∃ i : Nat, ∃ lr : Fr, mz_ = n - i ∧ (i ≤ n) ∧ a = mk 31 (([(1, .func (Fn.func 58) #[] #[]), (5, iV (((cnt 0 A i : Nat) : Int))), (18, .slice (some ⟨b, 1, none⟩) n 256), (19, iV (((n : Nat) : Int))), (20, iV (((i : Nat) : Int)))] : Fr) ++ lr) ∧ sat g w [Cl b (tbl n (A ++ T1)) 113, R]) (n - 0) ⟨0, _, rfl, (Nat.zero_le _), (mk_live [(1, .func (Fn.func 58) #[] #[]), (5, iV (((cnt 0 A 0 : Nat) : Int))), (18, .slice (some ⟨b, 1, none⟩) n 256), (19, iV (((n : Nat) : Int))), (20, iV (((0 : Nat) : Int)))] ⟨rfl, (ov_int (by omega)), rfl, rfl, (ov_int (by omega)), trivial⟩), h14⟩ ?_
  rintro m17 a18 w19 ⟨i, lr16, rfl, hi, rfl, h20⟩
  have hc1_ := cnt_le 0 A i; have hc2_ := inS_len 0 A 0
  have hc3_ : cnt 0 A i ≤ n := by omega
  change WP _ _ (CA Try.f57 [1, 1, 1, 0, 1, 0, 0]) _ _ _
  refine zSq (by kernel_rfl) ?_
  refine zPl [0] (by kernel_rfl) ?_
  by_cases c21 : ((i : Nat) : Int) < ((n : Nat) : Int)
  ·
    refine zBb [] [(21, .bool true)] [⟨0, [], some (.bool true)⟩] [] [(.bool (decide (((i : Nat) : Int) < ((n : Nat) : Int))), .bool true)] (by kernel_rfl) ⟨(ov_t (by omega)), trivial⟩ (AllC_nil _) ?_
    refine PO.mk ?_
    change WP _ _ (CA Try.f57 [1, 1, 1, 0, 1, 0, 0, 1]) _ _ _
    refine fk_cut ([(1, .func (Fn.func 58) #[] #[]), (5, iV (((cnt 0 A i : Nat) : Int))), (18, .slice (some ⟨b, 1, none⟩) n 256), (19, iV (((n : Nat) : Int))), (20, iV (((i : Nat) : Int))), (21, .bool true)] : Fr) (by kernel_rfl) (fun a => WP _ _ _ _ a _) (fun lr22 => ?_)
    refine zSq (by kernel_rfl) ?_
    refine zCt (by kernel_rfl) ?_
    refine gi_skp (by kernel_rfl) ?_
    change WP _ _ (CA Try.f57 [1, 1, 1, 0, 1, 0, 0, 1, 1]) _ _ _
    refine zSq (by kernel_rfl) ?_
    refine gi_blk (id := 1) (x := CA Try.f57 [1, 1, 1, 0, 1, 0, 0, 1, 1, 0, 0]) (by kernel_rfl) ?_
    refine zSq (by kernel_rfl) ?_
    refine zPl [0, 1, 2, 3] (by kernel_rfl) ?_
    refine plain_law (i := 0) 22 (.pointer (some ⟨b, i * 2 + 1, none⟩)) (by kernel_rfl) (law_indexSl (o := opA (RA Try.f57 [1, 1, 1, 0, 1, 0, 0, 1, 1, 0, 0, 0]) 0) (x := (Operand.tmp 18)) (i := (Operand.tmp 20)) (b := b) (off := 1) (z := (((i : Nat) : Int))) (len := n) (cap := 256) (by kernel_rfl) Try.underlying131 2 (by kernel_rfl) i (by kernel_rfl) (by kernel_rfl) (by omega) (by omega) (i * 2 + 1) (by omega) _) ?_
    obtain ⟨x23, hx24⟩ : ∃ x : Sl2, A[i]? = some x := ⟨_, List.getElem?_eq_getElem (by rw [hp2.1]; omega)⟩
    have hb25 := hp2.2.2.2.1 x23 (List.mem_of_getElem? hx24)
    refine zBb [2, 3] [(23, .agg #[iV x23.1, uV x23.2])] [⟨1, [iV x23.1, uV x23.2], none⟩] [(1, ⟨b, i * 2 + 1, none⟩, iV x23.1), (1, ⟨b, i * 2 + 2, none⟩, uV x23.2)] [] (by kernel_rfl) trivial (AllC_cons (sat_cell h20 0 rfl (tbl_stk (app_get hx24) (by omega))) (AllC_cons (sat_cell h20 0 rfl (tbl_genk (app_get hx24) (by omega))) (AllC_nil _))) ?_
    refine plain_act (i := 2) (by kernel_rfl) ?_
    refine an_new (d := 7) (fun xb_ => pV xb_) (fun xb_ => Obj.cells [iV 0, uV 0].toArray 110 (0, 0)) (fun xb_ => by kernel_rfl) (by kernel_rfl) rfl h20 ?_
    intro r26 w27 (h28 : sat g w27 [Cl r26 [iV 0, uV 0] 110, Cl b (tbl n (A ++ T1)) 113, R])
    refine plain_act (i := 3) (by kernel_rfl) ?_
    refine an_store [(0, iV x23.1), (1, uV x23.2)] (cs' := [iV x23.1, uV x23.2]) (by kernel_rfl) (by kernel_rfl) (allq ⟨⟨by simp, rfl⟩, ⟨by simp, rfl⟩, trivial⟩) rfl h28 ?_
    intro w29 (h30 : sat g w29 [Cl r26 [iV x23.1, uV x23.2] 110, Cl b (tbl n (A ++ T1)) 113, R])
    refine PO.mk ?_
    change WP _ _ (CA Try.f57 [1, 1, 1, 0, 1, 0, 0, 1, 1, 0, 0, 1]) _ _ _
    refine fk_cut ([(1, .func (Fn.func 58) #[] #[]), (5, iV (((cnt 0 A i : Nat) : Int))), (7, pV r26), (18, .slice (some ⟨b, 1, none⟩) n 256), (19, iV (((n : Nat) : Int))), (20, iV (((i : Nat) : Int)))] : Fr) (by kernel_rfl) (fun a => WP _ _ _ _ a _) (fun lr31 => ?_)
    refine zSq (by kernel_rfl) ?_
    refine zPl [0, 1, 2] (by kernel_rfl) ?_
    refine zBb [2] [(25, .agg #[iV x23.1, uV x23.2]), (24, .func (Fn.func 58) #[] #[])] [⟨0, [], none⟩, ⟨1, [iV x23.1, uV x23.2], none⟩] [(1, ⟨r26, 0, none⟩, iV x23.1), (1, ⟨r26, 1, none⟩, uV x23.2)] [] (by kernel_rfl) trivial (AllC_cons (sat_cell h30 0 rfl rfl) (AllC_cons (sat_cell h30 0 rfl rfl) (AllC_nil _))) ?_
    by_cases c32 : x23.1 = 0
    ·
      refine plain_act (i := 2) (by kernel_rfl) ?_
      refine zCl 26 Try.call58 (free1_y x23.1 x23.2 (by omega)) h30 (by kernel_rfl) ?_
      rintro v K w33 (⟨rfl, rfl⟩) h34
      refine ⟨_, rfl, ?_⟩
      have h35 : sat g w33 [Cl r26 [iV x23.1, uV x23.2] 110, Cl b (tbl n (A ++ T1)) 113, R] := h34
      refine PO.mk ?_
      change WP _ _ (CA Try.f57 [1, 1, 1, 0, 1, 0, 0, 1, 1, 0, 0, 1, 1]) _ _ _
      refine fk_cut ([(1, .func (Fn.func 58) #[] #[]), (5, iV (((cnt 0 A i : Nat) : Int))), (18, .slice (some ⟨b, 1, none⟩) n 256), (19, iV (((n : Nat) : Int))), (20, iV (((i : Nat) : Int))), (26, .bool true)] : Fr) (by kernel_rfl) (fun a => WP _ _ _ _ a _) (fun lr36 => ?_)
      refine zCt (by kernel_rfl) ?_
      refine zPl [0, 1, 2] (by kernel_rfl) ?_
      refine zBb [] [(5, iV (((cnt 0 A i : Nat) : Int) + 1)), (28, iV (((cnt 0 A i : Nat) : Int) + 1)), (27, iV (((cnt 0 A i : Nat) : Int)))] [⟨0, [], none⟩, ⟨1, [], some (iV (((cnt 0 A i : Nat) : Int) + 1))⟩, ⟨2, [], none⟩] [] [(iV (IntKind.wrap .i64 ((((cnt 0 A i : Nat) : Int)) + 1)), iV (((cnt 0 A i : Nat) : Int) + 1))] (by kernel_rfl) ⟨(ov_i64 (by omega) (by omega) (by omega)), trivial⟩ (AllC_nil _) ?_
      refine PO.mk ?_
      change WP _ _ (CA Try.f57 [1, 1, 1, 0, 1, 0, 0, 1, 1, 1]) _ _ _
      refine fk_cut ([(1, .func (Fn.func 58) #[] #[]), (5, iV (((cnt 0 A i : Nat) : Int) + 1)), (18, .slice (some ⟨b, 1, none⟩) n 256), (19, iV (((n : Nat) : Int))), (20, iV (((i : Nat) : Int)))] : Fr) (by kernel_rfl) (fun a => WP _ _ _ _ a _) (fun lr37 => ?_)
      refine zPl [0, 1] (by kernel_rfl) ?_
      refine zBb [] [(20, iV (((i : Nat) : Int) + 1)), (29, iV (((i : Nat) : Int) + 1))] [⟨0, [], some (iV (((i : Nat) : Int) + 1))⟩, ⟨1, [], none⟩] [] [(iV (IntKind.wrap .i64 ((((i : Nat) : Int)) + 1)), iV (((i : Nat) : Int) + 1))] (by kernel_rfl) ⟨(ov_i64 (by omega) (by omega) (by omega)), trivial⟩ (AllC_nil _) ?_
      refine PO.mk ?_
      have hc_ : cnt 0 A (i + 1) = (cnt 0 A i) + 1 := cnt_go hx24 (by omega)
      have h38 : sat g w33 [Cl b (tbl n (A ++ T1)) 113, R, Cl r26 [iV x23.1, uV x23.2] 110] := sat_sel [1, 2, 0] rfl h35
      have h39 : sat g w33 [Cl b (tbl n (A ++ T1)) 113, R] := sat_sel [0, 1] rfl h38
      change ∃ n', n' < _ ∧ _
      refine ⟨(n - (i + 1)), by omega, (i + 1), _, rfl, (by omega), (mk_live [(1, .func (Fn.func 58) #[] #[]), (5, iV (((cnt 0 A (i + 1) : Nat) : Int))), (18, .slice (some ⟨b, 1, none⟩) n 256), (19, iV (((n : Nat) : Int))), (20, iV ((((i + 1) : Nat) : Int)))] ⟨rfl, (ov_int (by omega)), rfl, rfl, (ov_int (by omega)), trivial⟩), h39⟩
    ·
      refine plain_act (i := 2) (by kernel_rfl) ?_
      refine zCl 26 Try.call58 (free1_n x23.1 x23.2 (by omega)) h30 (by kernel_rfl) ?_
      rintro v K w40 (⟨rfl, rfl⟩) h41
      refine ⟨_, rfl, ?_⟩
      have h42 : sat g w40 [Cl r26 [iV x23.1, uV x23.2] 110, Cl b (tbl n (A ++ T1)) 113, R] := h41
      refine PO.mk ?_
      change WP _ _ (CA Try.f57 [1, 1, 1, 0, 1, 0, 0, 1, 1, 0, 0, 1, 1]) _ _ _
      refine fk_cut ([(1, .func (Fn.func 58) #[] #[]), (5, iV (((cnt 0 A i : Nat) : Int))), (18, .slice (some ⟨b, 1, none⟩) n 256), (19, iV (((n : Nat) : Int))), (20, iV (((i : Nat) : Int))), (26, .bool false)] : Fr) (by kernel_rfl) (fun a => WP _ _ _ _ a _) (fun lr43 => ?_)
      refine zCf (by kernel_rfl) ?_
      refine gi_skp (by kernel_rfl) ?_
      change WP _ _ (CA Try.f57 [1, 1, 1, 0, 1, 0, 0, 1, 1, 1]) _ _ _
      refine zPl [0, 1] (by kernel_rfl) ?_
      refine zBb [] [(20, iV (((i : Nat) : Int) + 1)), (29, iV (((i : Nat) : Int) + 1))] [⟨0, [], some (iV (((i : Nat) : Int) + 1))⟩, ⟨1, [], none⟩] [] [(iV (IntKind.wrap .i64 ((((i : Nat) : Int)) + 1)), iV (((i : Nat) : Int) + 1))] (by kernel_rfl) ⟨(ov_i64 (by omega) (by omega) (by omega)), trivial⟩ (AllC_nil _) ?_
      refine PO.mk ?_
      have hc_ : cnt 0 A (i + 1) = (cnt 0 A i) := cnt_no hx24 (by omega)
      have h44 : sat g w40 [Cl b (tbl n (A ++ T1)) 113, R, Cl r26 [iV x23.1, uV x23.2] 110] := sat_sel [1, 2, 0] rfl h42
      have h45 : sat g w40 [Cl b (tbl n (A ++ T1)) 113, R] := sat_sel [0, 1] rfl h44
      change ∃ n', n' < _ ∧ _
      refine ⟨(n - (i + 1)), by omega, (i + 1), _, rfl, (by omega), (mk_live [(1, .func (Fn.func 58) #[] #[]), (5, iV (((cnt 0 A (i + 1) : Nat) : Int))), (18, .slice (some ⟨b, 1, none⟩) n 256), (19, iV (((n : Nat) : Int))), (20, iV ((((i + 1) : Nat) : Int)))] ⟨rfl, (ov_int (by omega)), rfl, rfl, (ov_int (by omega)), trivial⟩), h45⟩
  ·
    refine zBb [] [(21, .bool false)] [⟨0, [], some (.bool false)⟩] [] [(.bool (decide (((i : Nat) : Int) < ((n : Nat) : Int))), .bool false)] (by kernel_rfl) ⟨(ov_f (by omega)), trivial⟩ (AllC_nil _) ?_
    refine PO.mk ?_
    change WP _ _ (CA Try.f57 [1, 1, 1, 0, 1, 0, 0, 1]) _ _ _
    refine fk_cut ([(1, .func (Fn.func 58) #[] #[]), (5, iV (((cnt 0 A i : Nat) : Int))), (18, .slice (some ⟨b, 1, none⟩) n 256), (19, iV (((n : Nat) : Int))), (20, iV (((i : Nat) : Int))), (21, .bool false)] : Fr) (by kernel_rfl) (fun a => WP _ _ _ _ a _) (fun lr46 => ?_)
    refine zSq (by kernel_rfl) ?_
    refine zCf (by kernel_rfl) ?_
    refine gi_ext (id := 0) (by kernel_rfl) ?_
    change WP _ _ (CA Try.f57 [1, 1, 1, 1]) _ _ _
    refine zSq (by kernel_rfl) ?_
    refine zPl [0, 1] (by kernel_rfl) ?_
    refine zB0 [] [0, 1] [(4, iV (((cnt 0 A i : Nat) : Int))), (30, iV (((cnt 0 A i : Nat) : Int)))] (by kernel_rfl) ?_
    refine PO.mk ?_
    change WP _ _ (CA Try.f57 [1, 1, 1, 1, 1]) _ _ _
    refine fk_cut ([(4, iV (((cnt 0 A i : Nat) : Int)))] : Fr) (by kernel_rfl) (fun a => WP _ _ _ _ a _) (fun lr47 => ?_)
    refine gi_rt (by kernel_rfl) ?_
    repeat (first | simp only [Exit.inBlock] | simp only [Exit.then])
    have hc_ : cnt 0 A i = (inS 0 A 0).length := cnt_all 0 (by omega)
    have h48 : sat g w19 [Tb b n A, R] := tb_close hp2 h20
    refine hi_out [] (iV (((cnt 0 A i : Nat) : Int))) [] (by kernel_rfl) (by intro q hq; cases hq) ?_
    exact ⟨iV (((cnt 0 A i : Nat) : Int)), [Tb b n A], rfl, ⟨by rw [hc_], rfl⟩, h48⟩

set_option maxHeartbeats 4000000 in
theorem sfree_ht (b n : Nat) (A : List Sl2) : HT Try.prog 42 [Value.pointer (some ⟨b, 0, none⟩)] [Tb b n A] (fun v K => v = Value.int IntKind.i64 ((((inS 0 A 0).length : Nat) : Int)) ∧ K = [Tb b n A]) := by
  refine hi_in 5 ([(0, pV b)] : Fr) Try.func42 (by kernel_rfl) Try.ntmps42 rfl rfl ?_
  intro g w0 R h0
  change WP _ _ (CA Try.f42 []) _ _ _
  refine zSq (by kernel_rfl) ?_
  refine zPl [0] (by kernel_rfl) ?_
  refine zB0 [] [0] [(2, iV 0)] (by kernel_rfl) ?_
  refine PO.mk ?_
  change WP _ _ (CA Try.f42 [1]) _ _ _
  refine fk_cut ([(0, pV b)] : Fr) (by kernel_rfl) (fun a => WP _ _ _ _ a _) (fun lr1 => ?_)
  refine zSq (by kernel_rfl) ?_
  refine zPl [0, 1, 2] (by kernel_rfl) ?_
  refine zB0 [1, 2] [0] [(3, pV b)] (by kernel_rfl) ?_
  refine plain_act (i := 1) (by kernel_rfl) ?_
  refine zCl 4 Try.call57 (count0_ht b n A) h0 (by kernel_rfl) ?_
  rintro v K w2 (⟨rfl, rfl⟩) h3
  refine ⟨_, rfl, ?_⟩
  have h4 : sat g w2 [Tb b n A, R] := h3
  refine zB0 [] [2] [(2, iV ((((inS 0 A 0).length : Nat) : Int)))] (by kernel_rfl) ?_
  refine PO.mk ?_
  change WP _ _ (CA Try.f42 [1, 1]) _ _ _
  refine fk_cut ([(2, iV ((((inS 0 A 0).length : Nat) : Int)))] : Fr) (by kernel_rfl) (fun a => WP _ _ _ _ a _) (fun lr5 => ?_)
  refine gi_rt (by kernel_rfl) ?_
  repeat (first | simp only [Exit.inBlock] | simp only [Exit.then])
  refine hi_out [] (iV ((((inS 0 A 0).length : Nat) : Int))) [] (by kernel_rfl) (by intro q hq; cases hq) ?_
  exact ⟨iV ((((inS 0 A 0).length : Nat) : Int)), [Tb b n A], rfl, ⟨rfl, rfl⟩, h4⟩

end Go.Proofs.Ytjjpmehiolejgaa
