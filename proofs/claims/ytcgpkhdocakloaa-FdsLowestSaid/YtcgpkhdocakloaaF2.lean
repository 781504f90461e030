/- Walks, printed by my generator gen2.py. -/
import Derived.Test.YtcgpkhdocakloaaF1
namespace Go.Proofs.Ytcgpkhdocakloaa
theorem seq104_neq_t {n : Nat} {l : Fr} {o : Oper} {x y : Operand} (a0 a1 c0 c1 : Int) (ho : o.op = .binOp .neq 104 x y 104) (hx : fe n l x = .agg #[.int .i64 a0, .int .u32 a1]) (hy : fe n l y = .agg #[.int .i64 c0, .int .u32 c1]) (h : a0 = c0 ∧ a1 = c1) (w : World) : (execOp (fe n l) o).run Try.prog w = .ok (.value (.bool false)) w := by
  obtain ⟨rfl, rfl⟩ := h
  simp [execOp, ho, hx, hy, go_sem]
theorem seq104_neq_f {n : Nat} {l : Fr} {o : Oper} {x y : Operand} (a0 a1 c0 c1 : Int) (ho : o.op = .binOp .neq 104 x y 104) (hx : fe n l x = .agg #[.int .i64 a0, .int .u32 a1]) (hy : fe n l y = .agg #[.int .i64 c0, .int .u32 c1]) (h : ¬ (a0 = c0 ∧ a1 = c1)) (w : World) : (execOp (fe n l) o).run Try.prog w = .ok (.value (.bool true)) w := by
  by_cases h0 : a0 = c0
  · skip
    by_cases h1 : a1 = c1
    · exact absurd ⟨h0, h1⟩ h
    · simp [execOp, ho, hx, hy, go_sem, h0, h1]
  · simp [execOp, ho, hx, hy, go_sem, h0]
set_option maxHeartbeats 4000000 in
theorem svalid_ht (b n : Nat) (A : List Sl2) : HT Try.prog 51 [Value.pointer (some ⟨b, 0, none⟩)] [Tb b n A] (fun v K => v = Value.bool true ∧ K = [Tb b n A]) := by
  refine hi_in 12 ([(0, .pointer (some ⟨b, 0, none⟩))] : Fr) Try.func51 (by kernel_rfl) Try.ntmps51 rfl rfl ?_
  intro g w0 R h0
  obtain ⟨T1, hp2, h3⟩ := tb_open h0
  have hq4 := hp2.2.1; have hq5 := hp2.2.2.1; have hq6 := hp2.2.2.2.2
  refine gi_seq (x := CA Try.f51 [0]) (y := CA Try.f51 [1]) (by kernel_rfl) ?_
  refine gi_pln (id := 0) (ops := RA Try.f51 [0]) [0] (by kernel_rfl) (by kernel_rfl) (by kernel_rfl) ?_
  refine plain_batch (rest := []) [⟨0, [], none⟩] (l' := ([(2, .bool false), (0, .pointer (some ⟨b, 0, none⟩))] : Fr)) (pts' := []) (eqs := []) (by kernel_rfl) trivial (AllC_nil _) ?_
  refine PO.mk ?_
  change WP _ _ (CA Try.f51 [1]) _ _ _
  refine fk_cut ([(0, .pointer (some ⟨b, 0, none⟩)), (2, .bool false)] : Fr) (by kernel_rfl) (fun a => WP _ _ _ _ a _) (fun lr7 => ?_)
  refine gi_seq (x := CA Try.f51 [1, 0]) (y := CA Try.f51 [1, 1]) (by kernel_rfl) ?_
  refine gi_pln (id := 1) (ops := RA Try.f51 [1, 0]) [0, 1, 2, 3, 4, 5, 6, 7, 8, 9] (by kernel_rfl) (by kernel_rfl) (by kernel_rfl) ?_
  refine plain_batch (rest := []) [⟨0, [], none⟩, ⟨1, [], none⟩, ⟨2, [], none⟩, ⟨3, [], none⟩, ⟨4, [], none⟩, ⟨5, [], none⟩, ⟨6, [.int .i64 (((n : Nat) : Int))], none⟩, ⟨7, [], some (.bool true)⟩, ⟨8, [], none⟩, ⟨9, [], none⟩] (l' := ([(2, .bool true), (11, .bool true), (10, .bool true), (9, .int .i64 (((n : Nat) : Int))), (8, .pointer (some ⟨b, 0, none⟩)), (7, .pointer (some ⟨b, 0, none⟩)), (6, .pointer (some ⟨b, 0, none⟩)), (5, .bool true), (4, .bool true), (3, .pointer (some ⟨b, 0, none⟩)), (0, .pointer (some ⟨b, 0, none⟩)), (2, .bool false)] : Fr) ++ lr7) (pts' := [(6, ⟨b, 0, none⟩, .int .i64 (((n : Nat) : Int)))]) (eqs := [(.bool (decide (((n : Nat) : Int) > 0)), .bool true)]) (by kernel_rfl) ⟨(ov_t (by omega)), trivial⟩ (AllC_cons (sat_cell h3 0 rfl rfl) (AllC_nil _)) ?_
  refine PO.mk ?_
  change WP _ _ (CA Try.f51 [1, 1]) _ _ _
  refine fk_cut ([(0, .pointer (some ⟨b, 0, none⟩)), (2, .bool true)] : Fr) (by kernel_rfl) (fun a => WP _ _ _ _ a _) (fun lr8 => ?_)
  refine gi_rt (by kernel_rfl) ?_
  repeat (first | simp only [Exit.inBlock] | simp only [Exit.then])
  have h9 : sat g w0 [Tb b n A, R] := tb_close hp2 h3
  refine hi_out [] (.bool true) [] (by kernel_rfl) (by intro q hq; cases hq) ?_
  exact ⟨.bool true, [Tb b n A], rfl, ⟨rfl, rfl⟩, h9⟩

set_option maxHeartbeats 4000000 in
theorem svalid_cl (b n : Nat) (B : List Sl2) (hn : 1 ≤ n) : HT Try.prog 51 [Value.pointer (some ⟨b, 0, none⟩)] [Cl b (tbl n B) 107] (fun v K => v = Value.bool true ∧ K = [Cl b (tbl n B) 107]) := by
  refine hi_in 12 ([(0, .pointer (some ⟨b, 0, none⟩))] : Fr) Try.func51 (by kernel_rfl) Try.ntmps51 rfl rfl ?_
  intro g w0 R h0
  refine gi_seq (x := CA Try.f51 [0]) (y := CA Try.f51 [1]) (by kernel_rfl) ?_
  refine gi_pln (id := 0) (ops := RA Try.f51 [0]) [0] (by kernel_rfl) (by kernel_rfl) (by kernel_rfl) ?_
  refine plain_batch (rest := []) [⟨0, [], none⟩] (l' := ([(2, .bool false), (0, .pointer (some ⟨b, 0, none⟩))] : Fr)) (pts' := []) (eqs := []) (by kernel_rfl) trivial (AllC_nil _) ?_
  refine PO.mk ?_
  change WP _ _ (CA Try.f51 [1]) _ _ _
  refine fk_cut ([(0, .pointer (some ⟨b, 0, none⟩)), (2, .bool false)] : Fr) (by kernel_rfl) (fun a => WP _ _ _ _ a _) (fun lr1 => ?_)
  refine gi_seq (x := CA Try.f51 [1, 0]) (y := CA Try.f51 [1, 1]) (by kernel_rfl) ?_
  refine gi_pln (id := 1) (ops := RA Try.f51 [1, 0]) [0, 1, 2, 3, 4, 5, 6, 7, 8, 9] (by kernel_rfl) (by kernel_rfl) (by kernel_rfl) ?_
  refine plain_batch (rest := []) [⟨0, [], none⟩, ⟨1, [], none⟩, ⟨2, [], none⟩, ⟨3, [], none⟩, ⟨4, [], none⟩, ⟨5, [], none⟩, ⟨6, [.int .i64 (((n : Nat) : Int))], none⟩, ⟨7, [], some (.bool true)⟩, ⟨8, [], none⟩, ⟨9, [], none⟩] (l' := ([(2, .bool true), (11, .bool true), (10, .bool true), (9, .int .i64 (((n : Nat) : Int))), (8, .pointer (some ⟨b, 0, none⟩)), (7, .pointer (some ⟨b, 0, none⟩)), (6, .pointer (some ⟨b, 0, none⟩)), (5, .bool true), (4, .bool true), (3, .pointer (some ⟨b, 0, none⟩)), (0, .pointer (some ⟨b, 0, none⟩)), (2, .bool false)] : Fr) ++ lr1) (pts' := [(6, ⟨b, 0, none⟩, .int .i64 (((n : Nat) : Int)))]) (eqs := [(.bool (decide (((n : Nat) : Int) > 0)), .bool true)]) (by kernel_rfl) ⟨(ov_t (by omega)), trivial⟩ (AllC_cons (sat_cell h0 0 rfl rfl) (AllC_nil _)) ?_
  refine PO.mk ?_
  change WP _ _ (CA Try.f51 [1, 1]) _ _ _
  refine fk_cut ([(0, .pointer (some ⟨b, 0, none⟩)), (2, .bool true)] : Fr) (by kernel_rfl) (fun a => WP _ _ _ _ a _) (fun lr2 => ?_)
  refine gi_rt (by kernel_rfl) ?_
  repeat (first | simp only [Exit.inBlock] | simp only [Exit.then])
  refine hi_out [] (.bool true) [] (by kernel_rfl) (by intro q hq; cases hq) ?_
  exact ⟨.bool true, [Cl b (tbl n B) 107], rfl, ⟨rfl, rfl⟩, h0⟩

set_option maxHeartbeats 4000000 in
theorem svalid_nil  : HT Try.prog 51 [Value.pointer none] [] (fun v K => v = Value.bool false ∧ K = []) := by
  refine hi_in 12 ([(0, .pointer none)] : Fr) Try.func51 (by kernel_rfl) Try.ntmps51 rfl rfl ?_
  intro g w0 R h0
  refine gi_seq (x := CA Try.f51 [0]) (y := CA Try.f51 [1]) (by kernel_rfl) ?_
  refine gi_pln (id := 0) (ops := RA Try.f51 [0]) [0] (by kernel_rfl) (by kernel_rfl) (by kernel_rfl) ?_
  refine plain_batch (rest := []) [⟨0, [], none⟩] (l' := ([(2, .bool false), (0, .pointer none)] : Fr)) (pts' := []) (eqs := []) (by kernel_rfl) trivial (AllC_nil _) ?_
  refine PO.mk ?_
  change WP _ _ (CA Try.f51 [1]) _ _ _
  refine fk_cut ([(0, .pointer none), (2, .bool false)] : Fr) (by kernel_rfl) (fun a => WP _ _ _ _ a _) (fun lr1 => ?_)
  refine gi_seq (x := CA Try.f51 [1, 0]) (y := CA Try.f51 [1, 1]) (by kernel_rfl) ?_
  refine gi_pln (id := 1) (ops := RA Try.f51 [1, 0]) [0, 1, 2, 3, 4, 5, 6, 7, 8, 9] (by kernel_rfl) (by kernel_rfl) (by kernel_rfl) ?_
  refine plain_batch (rest := []) [⟨0, [], none⟩, ⟨1, [], none⟩, ⟨2, [], none⟩, ⟨3, [], none⟩, ⟨4, [], none⟩, ⟨5, [], none⟩, ⟨6, [], none⟩, ⟨7, [], none⟩, ⟨8, [], none⟩, ⟨9, [], none⟩] (l' := ([(2, .bool false), (11, .bool false), (10, undef), (9, undef), (8, undef), (7, undef), (6, undef), (5, .bool false), (4, .bool false), (3, .pointer none), (0, .pointer none), (2, .bool false)] : Fr) ++ lr1) (pts' := []) (eqs := []) (by kernel_rfl) trivial (AllC_nil _) ?_
  refine PO.mk ?_
  change WP _ _ (CA Try.f51 [1, 1]) _ _ _
  refine fk_cut ([(0, .pointer none), (2, .bool false)] : Fr) (by kernel_rfl) (fun a => WP _ _ _ _ a _) (fun lr2 => ?_)
  refine gi_rt (by kernel_rfl) ?_
  repeat (first | simp only [Exit.inBlock] | simp only [Exit.then])
  refine hi_out [] (.bool false) [] (by kernel_rfl) (by intro q hq; cases hq) ?_
  exact ⟨.bool false, [], rfl, ⟨rfl, rfl⟩, h0⟩

set_option maxHeartbeats 4000000 in
theorem check_range (b n : Nat) (A : List Sl2) (i gn : Int) (hi : i < 0 ∨ (n : Int) ≤ i) : HT Try.prog 54 [Value.pointer (some ⟨b, 0, none⟩), Value.agg #[Value.int IntKind.i64 i, Value.int IntKind.u32 gn]] [Tb b n A] (fun v K => v = Value.int .i64 3 ∧ K = [Tb b n A]) := by
  refine hi_in 34 ([(0, .pointer (some ⟨b, 0, none⟩)), (1, .agg #[.int .i64 i, .int .u32 gn])] : Fr) Try.func54 (by kernel_rfl) Try.ntmps54 rfl rfl ?_
  intro g w0 R h0
  obtain ⟨T1, hp2, h3⟩ := tb_open h0
  have hq4 := hp2.2.1; have hq5 := hp2.2.2.1; have hq6 := hp2.2.2.2.2
  refine gi_seq (x := CA Try.f54 [0]) (y := CA Try.f54 [1]) (by kernel_rfl) ?_
  refine gi_pln (id := 0) (ops := RA Try.f54 [0]) [0, 1] (by kernel_rfl) (by kernel_rfl) (by kernel_rfl) ?_
  refine plain_act (i := 0) (by kernel_rfl) ?_
  refine an_new (d := 3) (fun xb_ => .pointer (some ⟨xb_, 0, none⟩)) (fun xb_ => Obj.cells [.int .i64 i, .int .u32 gn].toArray 79 (0, 0)) (fun xb_ => by kernel_rfl) (by kernel_rfl) rfl h3 ?_
  intro r7 w8 (h9 : sat g w8 [Cl r7 [.int .i64 i, .int .u32 gn] 79, Cl b (tbl n (A ++ T1)) 107, R])
  refine plain_batch (rest := []) [⟨1, [], none⟩] (l' := ([(4, .int .i64 0), (3, .pointer (some ⟨r7, 0, none⟩)), (0, .pointer (some ⟨b, 0, none⟩)), (1, .agg #[.int .i64 i, .int .u32 gn])] : Fr)) (pts' := []) (eqs := []) (by kernel_rfl) trivial (AllC_nil _) ?_
  refine PO.mk ?_
  change WP _ _ (CA Try.f54 [1]) _ _ _
  refine fk_cut ([(0, .pointer (some ⟨b, 0, none⟩)), (1, .agg #[.int .i64 i, .int .u32 gn]), (3, .pointer (some ⟨r7, 0, none⟩)), (4, .int .i64 0)] : Fr) (by kernel_rfl) (fun a => WP _ _ _ _ a _) (fun lr10 => ?_)
  refine gi_seq (x := CA Try.f54 [1, 0]) (y := CA Try.f54 [1, 1]) (by kernel_rfl) ?_
  refine gi_blk (id := 0) (x := CA Try.f54 [1, 0, 0]) (by kernel_rfl) ?_
  refine gi_seq (x := CA Try.f54 [1, 0, 0, 0]) (y := CA Try.f54 [1, 0, 0, 1]) (by kernel_rfl) ?_
  refine gi_pln (id := 1) (ops := RA Try.f54 [1, 0, 0, 0]) [0, 1, 2, 3] (by kernel_rfl) (by kernel_rfl) (by kernel_rfl) ?_
  refine plain_batch (rest := [1, 2, 3]) [⟨0, [], none⟩] (l' := ([(6, .pointer (some ⟨b, 0, none⟩)), (0, .pointer (some ⟨b, 0, none⟩)), (1, .agg #[.int .i64 i, .int .u32 gn]), (3, .pointer (some ⟨r7, 0, none⟩)), (4, .int .i64 0)] : Fr) ++ lr10) (pts' := []) (eqs := []) (by kernel_rfl) trivial (AllC_nil _) ?_
  have h11 : sat g w8 [Cl b (tbl n (A ++ T1)) 107, Cl r7 [.int .i64 i, .int .u32 gn] 79, R] := sat_sel [1, 0, 2] rfl h9
  refine plain_act (i := 1) (by kernel_rfl) ?_
  refine an_call (d := some 7) (f := 51) (args := [.pointer (some ⟨b, 0, none⟩)]) (by kernel_rfl) Try.call51 (svalid_cl b n _ (by omega)) (F := [Cl r7 [.int .i64 i, .int .u32 gn] 79, R]) h11 ?_
  rintro v K w12 (⟨rfl, rfl⟩) h13
  refine ⟨_, rfl, ?_⟩
  have h14 : sat g w12 [Cl b (tbl n (A ++ T1)) 107, Cl r7 [.int .i64 i, .int .u32 gn] 79, R] := h13
  refine plain_batch (rest := []) [⟨2, [], none⟩, ⟨3, [], none⟩] (l' := ([(5, .bool false), (8, .bool false), (7, .bool true), (6, .pointer (some ⟨b, 0, none⟩)), (0, .pointer (some ⟨b, 0, none⟩)), (1, .agg #[.int .i64 i, .int .u32 gn]), (3, .pointer (some ⟨r7, 0, none⟩)), (4, .int .i64 0)] : Fr) ++ lr10) (pts' := []) (eqs := []) (by kernel_rfl) trivial (AllC_nil _) ?_
  refine PO.mk ?_
  change WP _ _ (CA Try.f54 [1, 0, 0, 1]) _ _ _
  refine fk_cut ([(0, .pointer (some ⟨b, 0, none⟩)), (1, .agg #[.int .i64 i, .int .u32 gn]), (3, .pointer (some ⟨r7, 0, none⟩)), (4, .int .i64 0), (5, .bool false)] : Fr) (by kernel_rfl) (fun a => WP _ _ _ _ a _) (fun lr15 => ?_)
  refine gi_cnd (x := (Operand.tmp 5)) (s := CA Try.f54 [1, 0, 0, 1, 0]) (t := CA Try.f54 [1, 0, 0, 1, 1]) false (by kernel_rfl) (by kernel_rfl) ?_
  change WP _ _ (CA Try.f54 [1, 0, 0, 1, 1]) _ _ _
  refine gi_seq (x := CA Try.f54 [1, 0, 0, 1, 1, 0]) (y := CA Try.f54 [1, 0, 0, 1, 1, 1]) (by kernel_rfl) ?_
  refine gi_drw (id := 3) (ops := RA Try.f54 [1, 0, 0, 1, 1, 0]) (Tr.fl 0 (Tr.fl 1 (Tr.fl 2 (Tr.fl 3 (Tr.fl 4 (Tr.fl 5 (Tr.fl 6 (Tr.fl 7 (Tr.fl 8 (Tr.fl 9 (Tr.fl 10 (Tr.fl 11 (Tr.fl 12 Tr.nil))))))))))))) (by kernel_rfl) (by kernel_rfl) (by kernel_rfl) (by kernel_rfl) (by kernel_rfl) (fun _ _ d _ _ h => by cases d <;> exact h) h14 ?_
  intro w16 h17
  refine draw_batch (t := (Tr.fl 2 (Tr.fl 3 (Tr.fl 4 (Tr.fl 5 (Tr.fl 6 (Tr.fl 7 (Tr.fl 8 (Tr.fl 9 (Tr.fl 10 (Tr.fl 11 (Tr.fl 12 Tr.nil)))))))))))) [⟨0, [], none⟩, ⟨1, [.int .i64 i], none⟩] (l' := ([(11, .int .i64 i), (10, .pointer (some ⟨r7, 0, none⟩)), (0, .pointer (some ⟨b, 0, none⟩)), (1, .agg #[.int .i64 i, .int .u32 gn]), (3, .pointer (some ⟨r7, 0, none⟩)), (4, .int .i64 0), (5, .bool false)] : Fr) ++ lr15) (pts' := [(1, ⟨r7, 0, none⟩, .int .i64 i)]) (eqs := []) (by kernel_rfl) trivial (AllC_cons (sat_cell h17 1 rfl rfl) (AllC_nil _)) ?_
  by_cases c18 : i < 0
  ·
    refine draw_batch (t := Tr.nil) [⟨2, [], some (.bool true)⟩, ⟨3, [], none⟩, ⟨4, [], none⟩, ⟨5, [], none⟩, ⟨6, [], none⟩, ⟨7, [], none⟩, ⟨8, [], none⟩, ⟨9, [], none⟩, ⟨10, [], none⟩, ⟨11, [], none⟩, ⟨12, [], none⟩] (l' := ([(9, .bool true), (21, .bool true), (20, undef), (19, undef), (18, undef), (17, undef), (16, undef), (15, undef), (14, undef), (13, .bool true), (12, .bool true), (11, .int .i64 i), (10, .pointer (some ⟨r7, 0, none⟩)), (0, .pointer (some ⟨b, 0, none⟩)), (1, .agg #[.int .i64 i, .int .u32 gn]), (3, .pointer (some ⟨r7, 0, none⟩)), (4, .int .i64 0), (5, .bool false)] : Fr) ++ lr15) (pts' := []) (eqs := [(.bool (decide (i < 0)), .bool true)]) (by kernel_rfl) ⟨(ov_t (by omega)), trivial⟩ (AllC_nil _) ?_
    change WP _ _ (CA Try.f54 [1, 0, 0, 1, 1, 1]) _ _ _
    refine fk_cut ([(0, .pointer (some ⟨b, 0, none⟩)), (1, .agg #[.int .i64 i, .int .u32 gn]), (3, .pointer (some ⟨r7, 0, none⟩)), (4, .int .i64 0), (5, .bool false), (9, .bool true)] : Fr) (by kernel_rfl) (fun a => WP _ _ _ _ a _) (fun lr19 => ?_)
    refine gi_cnd (x := (Operand.tmp 9)) (s := CA Try.f54 [1, 0, 0, 1, 1, 1, 0]) (t := CA Try.f54 [1, 0, 0, 1, 1, 1, 1]) true (by kernel_rfl) (by kernel_rfl) ?_
    change WP _ _ (CA Try.f54 [1, 0, 0, 1, 1, 1, 0]) _ _ _
    refine gi_seq (x := CA Try.f54 [1, 0, 0, 1, 1, 1, 0, 0]) (y := CA Try.f54 [1, 0, 0, 1, 1, 1, 0, 1]) (by kernel_rfl) ?_
    refine gi_pln (id := 4) (ops := RA Try.f54 [1, 0, 0, 1, 1, 1, 0, 0]) [0] (by kernel_rfl) (by kernel_rfl) (by kernel_rfl) ?_
    refine plain_batch (rest := []) [⟨0, [], none⟩] (l' := ([(4, .int .i64 3), (0, .pointer (some ⟨b, 0, none⟩)), (1, .agg #[.int .i64 i, .int .u32 gn]), (3, .pointer (some ⟨r7, 0, none⟩)), (4, .int .i64 0), (5, .bool false), (9, .bool true)] : Fr) ++ lr19) (pts' := []) (eqs := []) (by kernel_rfl) trivial (AllC_nil _) ?_
    refine PO.mk ?_
    change WP _ _ (CA Try.f54 [1, 0, 0, 1, 1, 1, 0, 1]) _ _ _
    refine fk_cut ([(0, .pointer (some ⟨b, 0, none⟩)), (1, .agg #[.int .i64 i, .int .u32 gn]), (3, .pointer (some ⟨r7, 0, none⟩)), (4, .int .i64 3), (5, .bool false), (9, .bool true)] : Fr) (by kernel_rfl) (fun a => WP _ _ _ _ a _) (fun lr20 => ?_)
    refine gi_rt (by kernel_rfl) ?_
    repeat (first | simp only [Exit.inBlock] | simp only [Exit.then])
    have h21 : sat g w16 [Tb b n A, Cl r7 [.int .i64 i, .int .u32 gn] 79, R] := tb_close hp2 h17
    have h22 : sat g w16 [Tb b n A, R] := sat_sel [0, 2] rfl h21
    refine hi_out [] (.int .i64 3) [] (by kernel_rfl) (by intro q hq; cases hq) ?_
    exact ⟨.int .i64 3, [Tb b n A], rfl, ⟨rfl, rfl⟩, h22⟩
  ·
    refine draw_batch (t := Tr.nil) [⟨2, [], some (.bool false)⟩, ⟨3, [], none⟩, ⟨4, [], none⟩, ⟨5, [.int .i64 i], none⟩, ⟨6, [], none⟩, ⟨7, [], none⟩, ⟨8, [], none⟩, ⟨9, [.int .i64 (((n : Nat) : Int))], none⟩, ⟨10, [], some (.bool true)⟩, ⟨11, [], none⟩, ⟨12, [], none⟩] (l' := ([(9, .bool true), (21, .bool true), (20, .bool true), (19, .int .i64 (((n : Nat) : Int))), (18, .pointer (some ⟨b, 0, none⟩)), (17, .pointer (some ⟨b, 0, none⟩)), (16, .pointer (some ⟨b, 0, none⟩)), (15, .int .i64 i), (14, .pointer (some ⟨r7, 0, none⟩)), (13, .bool false), (12, .bool false), (11, .int .i64 i), (10, .pointer (some ⟨r7, 0, none⟩)), (0, .pointer (some ⟨b, 0, none⟩)), (1, .agg #[.int .i64 i, .int .u32 gn]), (3, .pointer (some ⟨r7, 0, none⟩)), (4, .int .i64 0), (5, .bool false)] : Fr) ++ lr15) (pts' := [(9, ⟨b, 0, none⟩, .int .i64 (((n : Nat) : Int))), (5, ⟨r7, 0, none⟩, .int .i64 i)]) (eqs := [(.bool (decide (i < 0)), .bool false), (.bool (decide (i ≥ ((n : Nat) : Int))), .bool true)]) (by kernel_rfl) ⟨(ov_f (by omega)), (ov_t (by omega)), trivial⟩ (AllC_cons (sat_cell h17 0 rfl rfl) (AllC_cons (sat_cell h17 1 rfl rfl) (AllC_nil _))) ?_
    change WP _ _ (CA Try.f54 [1, 0, 0, 1, 1, 1]) _ _ _
    refine fk_cut ([(0, .pointer (some ⟨b, 0, none⟩)), (1, .agg #[.int .i64 i, .int .u32 gn]), (3, .pointer (some ⟨r7, 0, none⟩)), (4, .int .i64 0), (5, .bool false), (9, .bool true)] : Fr) (by kernel_rfl) (fun a => WP _ _ _ _ a _) (fun lr23 => ?_)
    refine gi_cnd (x := (Operand.tmp 9)) (s := CA Try.f54 [1, 0, 0, 1, 1, 1, 0]) (t := CA Try.f54 [1, 0, 0, 1, 1, 1, 1]) true (by kernel_rfl) (by kernel_rfl) ?_
    change WP _ _ (CA Try.f54 [1, 0, 0, 1, 1, 1, 0]) _ _ _
    refine gi_seq (x := CA Try.f54 [1, 0, 0, 1, 1, 1, 0, 0]) (y := CA Try.f54 [1, 0, 0, 1, 1, 1, 0, 1]) (by kernel_rfl) ?_
    refine gi_pln (id := 4) (ops := RA Try.f54 [1, 0, 0, 1, 1, 1, 0, 0]) [0] (by kernel_rfl) (by kernel_rfl) (by kernel_rfl) ?_
    refine plain_batch (rest := []) [⟨0, [], none⟩] (l' := ([(4, .int .i64 3), (0, .pointer (some ⟨b, 0, none⟩)), (1, .agg #[.int .i64 i, .int .u32 gn]), (3, .pointer (some ⟨r7, 0, none⟩)), (4, .int .i64 0), (5, .bool false), (9, .bool true)] : Fr) ++ lr23) (pts' := []) (eqs := []) (by kernel_rfl) trivial (AllC_nil _) ?_
    refine PO.mk ?_
    change WP _ _ (CA Try.f54 [1, 0, 0, 1, 1, 1, 0, 1]) _ _ _
    refine fk_cut ([(0, .pointer (some ⟨b, 0, none⟩)), (1, .agg #[.int .i64 i, .int .u32 gn]), (3, .pointer (some ⟨r7, 0, none⟩)), (4, .int .i64 3), (5, .bool false), (9, .bool true)] : Fr) (by kernel_rfl) (fun a => WP _ _ _ _ a _) (fun lr24 => ?_)
    refine gi_rt (by kernel_rfl) ?_
    repeat (first | simp only [Exit.inBlock] | simp only [Exit.then])
    have h25 : sat g w16 [Tb b n A, Cl r7 [.int .i64 i, .int .u32 gn] 79, R] := tb_close hp2 h17
    have h26 : sat g w16 [Tb b n A, R] := sat_sel [0, 2] rfl h25
    refine hi_out [] (.int .i64 3) [] (by kernel_rfl) (by intro q hq; cases hq) ?_
    exact ⟨.int .i64 3, [Tb b n A], rfl, ⟨rfl, rfl⟩, h26⟩

set_option maxHeartbeats 4000000 in
theorem check_ok (b n : Nat) (A : List Sl2) (q : Nat) (x : Sl2) (hx : A[q]? = some x) (i gn : Int) (hc : i = (q : Int) ∧ x.1 = 1 ∧ x.2 = gn) : HT Try.prog 54 [Value.pointer (some ⟨b, 0, none⟩), Value.agg #[Value.int IntKind.i64 i, Value.int IntKind.u32 gn]] [Tb b n A] (fun v K => v = Value.int .i64 0 ∧ K = [Tb b n A]) := by
  refine hi_in 34 ([(0, .pointer (some ⟨b, 0, none⟩)), (1, .agg #[.int .i64 i, .int .u32 gn])] : Fr) Try.func54 (by kernel_rfl) Try.ntmps54 rfl rfl ?_
  intro g w0 R h0
  obtain ⟨T1, hp2, h3⟩ := tb_open h0
  have hq4 := hp2.2.1; have hq5 := hp2.2.2.1; have hq6 := hp2.2.2.2.2
  have hx_ := hp2.2.2.2.1 x (List.mem_of_getElem? hx)
  have hq_ : q < n := by have h_ := (List.getElem?_eq_some_iff.1 hx).1; rw [hp2.1] at h_; exact h_
  refine gi_seq (x := CA Try.f54 [0]) (y := CA Try.f54 [1]) (by kernel_rfl) ?_
  refine gi_pln (id := 0) (ops := RA Try.f54 [0]) [0, 1] (by kernel_rfl) (by kernel_rfl) (by kernel_rfl) ?_
  refine plain_act (i := 0) (by kernel_rfl) ?_
  refine an_new (d := 3) (fun xb_ => .pointer (some ⟨xb_, 0, none⟩)) (fun xb_ => Obj.cells [.int .i64 i, .int .u32 gn].toArray 79 (0, 0)) (fun xb_ => by kernel_rfl) (by kernel_rfl) rfl h3 ?_
  intro r7 w8 (h9 : sat g w8 [Cl r7 [.int .i64 i, .int .u32 gn] 79, Cl b (tbl n (A ++ T1)) 107, R])
  refine plain_batch (rest := []) [⟨1, [], none⟩] (l' := ([(4, .int .i64 0), (3, .pointer (some ⟨r7, 0, none⟩)), (0, .pointer (some ⟨b, 0, none⟩)), (1, .agg #[.int .i64 i, .int .u32 gn])] : Fr)) (pts' := []) (eqs := []) (by kernel_rfl) trivial (AllC_nil _) ?_
  refine PO.mk ?_
  change WP _ _ (CA Try.f54 [1]) _ _ _
  refine fk_cut ([(0, .pointer (some ⟨b, 0, none⟩)), (1, .agg #[.int .i64 i, .int .u32 gn]), (3, .pointer (some ⟨r7, 0, none⟩)), (4, .int .i64 0)] : Fr) (by kernel_rfl) (fun a => WP _ _ _ _ a _) (fun lr10 => ?_)
  refine gi_seq (x := CA Try.f54 [1, 0]) (y := CA Try.f54 [1, 1]) (by kernel_rfl) ?_
  refine gi_blk (id := 0) (x := CA Try.f54 [1, 0, 0]) (by kernel_rfl) ?_
  refine gi_seq (x := CA Try.f54 [1, 0, 0, 0]) (y := CA Try.f54 [1, 0, 0, 1]) (by kernel_rfl) ?_
  refine gi_pln (id := 1) (ops := RA Try.f54 [1, 0, 0, 0]) [0, 1, 2, 3] (by kernel_rfl) (by kernel_rfl) (by kernel_rfl) ?_
  refine plain_batch (rest := [1, 2, 3]) [⟨0, [], none⟩] (l' := ([(6, .pointer (some ⟨b, 0, none⟩)), (0, .pointer (some ⟨b, 0, none⟩)), (1, .agg #[.int .i64 i, .int .u32 gn]), (3, .pointer (some ⟨r7, 0, none⟩)), (4, .int .i64 0)] : Fr) ++ lr10) (pts' := []) (eqs := []) (by kernel_rfl) trivial (AllC_nil _) ?_
  have h11 : sat g w8 [Cl b (tbl n (A ++ T1)) 107, Cl r7 [.int .i64 i, .int .u32 gn] 79, R] := sat_sel [1, 0, 2] rfl h9
  refine plain_act (i := 1) (by kernel_rfl) ?_
  refine an_call (d := some 7) (f := 51) (args := [.pointer (some ⟨b, 0, none⟩)]) (by kernel_rfl) Try.call51 (svalid_cl b n _ (by omega)) (F := [Cl r7 [.int .i64 i, .int .u32 gn] 79, R]) h11 ?_
  rintro v K w12 (⟨rfl, rfl⟩) h13
  refine ⟨_, rfl, ?_⟩
  have h14 : sat g w12 [Cl b (tbl n (A ++ T1)) 107, Cl r7 [.int .i64 i, .int .u32 gn] 79, R] := h13
  refine plain_batch (rest := []) [⟨2, [], none⟩, ⟨3, [], none⟩] (l' := ([(5, .bool false), (8, .bool false), (7, .bool true), (6, .pointer (some ⟨b, 0, none⟩)), (0, .pointer (some ⟨b, 0, none⟩)), (1, .agg #[.int .i64 i, .int .u32 gn]), (3, .pointer (some ⟨r7, 0, none⟩)), (4, .int .i64 0)] : Fr) ++ lr10) (pts' := []) (eqs := []) (by kernel_rfl) trivial (AllC_nil _) ?_
  refine PO.mk ?_
  change WP _ _ (CA Try.f54 [1, 0, 0, 1]) _ _ _
  refine fk_cut ([(0, .pointer (some ⟨b, 0, none⟩)), (1, .agg #[.int .i64 i, .int .u32 gn]), (3, .pointer (some ⟨r7, 0, none⟩)), (4, .int .i64 0), (5, .bool false)] : Fr) (by kernel_rfl) (fun a => WP _ _ _ _ a _) (fun lr15 => ?_)
  refine gi_cnd (x := (Operand.tmp 5)) (s := CA Try.f54 [1, 0, 0, 1, 0]) (t := CA Try.f54 [1, 0, 0, 1, 1]) false (by kernel_rfl) (by kernel_rfl) ?_
  change WP _ _ (CA Try.f54 [1, 0, 0, 1, 1]) _ _ _
  refine gi_seq (x := CA Try.f54 [1, 0, 0, 1, 1, 0]) (y := CA Try.f54 [1, 0, 0, 1, 1, 1]) (by kernel_rfl) ?_
  refine gi_drw (id := 3) (ops := RA Try.f54 [1, 0, 0, 1, 1, 0]) (Tr.fl 0 (Tr.fl 1 (Tr.fl 2 (Tr.fl 3 (Tr.fl 4 (Tr.fl 5 (Tr.fl 6 (Tr.fl 7 (Tr.fl 8 (Tr.fl 9 (Tr.fl 10 (Tr.fl 11 (Tr.fl 12 Tr.nil))))))))))))) (by kernel_rfl) (by kernel_rfl) (by kernel_rfl) (by kernel_rfl) (by kernel_rfl) (fun _ _ d _ _ h => by cases d <;> exact h) h14 ?_
  intro w16 h17
  refine draw_batch (t := Tr.nil) [⟨0, [], none⟩, ⟨1, [.int .i64 i], none⟩, ⟨2, [], some (.bool false)⟩, ⟨3, [], none⟩, ⟨4, [], none⟩, ⟨5, [.int .i64 i], none⟩, ⟨6, [], none⟩, ⟨7, [], none⟩, ⟨8, [], none⟩, ⟨9, [.int .i64 (((n : Nat) : Int))], none⟩, ⟨10, [], some (.bool false)⟩, ⟨11, [], none⟩, ⟨12, [], none⟩] (l' := ([(9, .bool false), (21, .bool false), (20, .bool false), (19, .int .i64 (((n : Nat) : Int))), (18, .pointer (some ⟨b, 0, none⟩)), (17, .pointer (some ⟨b, 0, none⟩)), (16, .pointer (some ⟨b, 0, none⟩)), (15, .int .i64 i), (14, .pointer (some ⟨r7, 0, none⟩)), (13, .bool false), (12, .bool false), (11, .int .i64 i), (10, .pointer (some ⟨r7, 0, none⟩)), (0, .pointer (some ⟨b, 0, none⟩)), (1, .agg #[.int .i64 i, .int .u32 gn]), (3, .pointer (some ⟨r7, 0, none⟩)), (4, .int .i64 0), (5, .bool false)] : Fr) ++ lr15) (pts' := [(9, ⟨b, 0, none⟩, .int .i64 (((n : Nat) : Int))), (5, ⟨r7, 0, none⟩, .int .i64 i), (1, ⟨r7, 0, none⟩, .int .i64 i)]) (eqs := [(.bool (decide (i < 0)), .bool false), (.bool (decide (i ≥ ((n : Nat) : Int))), .bool false)]) (by kernel_rfl) ⟨(ov_f (by omega)), (ov_f (by omega)), trivial⟩ (AllC_cons (sat_cell h17 0 rfl rfl) (AllC_cons (sat_cell h17 1 rfl rfl) (AllC_cons (sat_cell h17 1 rfl rfl) (AllC_nil _)))) ?_
  change WP _ _ (CA Try.f54 [1, 0, 0, 1, 1, 1]) _ _ _
  refine fk_cut ([(0, .pointer (some ⟨b, 0, none⟩)), (1, .agg #[.int .i64 i, .int .u32 gn]), (3, .pointer (some ⟨r7, 0, none⟩)), (4, .int .i64 0), (5, .bool false), (9, .bool false)] : Fr) (by kernel_rfl) (fun a => WP _ _ _ _ a _) (fun lr18 => ?_)
  refine gi_cnd (x := (Operand.tmp 9)) (s := CA Try.f54 [1, 0, 0, 1, 1, 1, 0]) (t := CA Try.f54 [1, 0, 0, 1, 1, 1, 1]) false (by kernel_rfl) (by kernel_rfl) ?_
  change WP _ _ (CA Try.f54 [1, 0, 0, 1, 1, 1, 1]) _ _ _
  refine gi_seq (x := CA Try.f54 [1, 0, 0, 1, 1, 1, 1, 0]) (y := CA Try.f54 [1, 0, 0, 1, 1, 1, 1, 1]) (by kernel_rfl) ?_
  refine gi_drw (id := 5) (ops := RA Try.f54 [1, 0, 0, 1, 1, 1, 1, 0]) (Tr.fl 0 (Tr.fl 1 (Tr.fl 2 (Tr.fl 3 (Tr.fl 4 (Tr.fl 5 (Tr.fl 6 (Tr.fl 7 (Tr.fl 8 (Tr.fl 9 (Tr.fl 10 (Tr.fl 11 Tr.nil)))))))))))) (by kernel_rfl) (by kernel_rfl) (by kernel_rfl) (by kernel_rfl) (by kernel_rfl) (fun _ _ d _ _ h => by cases d <;> exact h) h17 ?_
  intro w19 h20
  refine draw_batch (t := (Tr.fl 5 (Tr.fl 6 (Tr.fl 7 (Tr.fl 8 (Tr.fl 9 (Tr.fl 10 (Tr.fl 11 Tr.nil)))))))) [⟨0, [], none⟩, ⟨1, [], none⟩, ⟨2, [.int .i64 i], none⟩, ⟨3, [], none⟩, ⟨4, [], none⟩] (l' := ([(27, .pointer (some ⟨b, 1, none⟩)), (26, .pointer (some ⟨b, 0, none⟩)), (25, .int .i64 i), (24, .pointer (some ⟨r7, 0, none⟩)), (23, .pointer (some ⟨b, 0, none⟩)), (0, .pointer (some ⟨b, 0, none⟩)), (1, .agg #[.int .i64 i, .int .u32 gn]), (3, .pointer (some ⟨r7, 0, none⟩)), (4, .int .i64 0), (5, .bool false), (9, .bool false)] : Fr) ++ lr18) (pts' := [(2, ⟨r7, 0, none⟩, .int .i64 i)]) (eqs := []) (by kernel_rfl) trivial (AllC_cons (sat_cell h20 1 rfl rfl) (AllC_nil _)) ?_
  refine draw_law (i := 5) 28 (.pointer (some ⟨b, q * 2 + 1, none⟩)) [] (by kernel_rfl) (fun _ _ => law_indexArr (o := opA (RA Try.f54 [1, 0, 0, 1, 1, 1, 1, 0]) 5) (x := (Operand.tmp 27)) (i := (Operand.tmp 25)) (b := b) (off := 1) (z := i) (by kernel_rfl) Try.underlying105 2 (by kernel_rfl) q (by kernel_rfl) (by kernel_rfl) (by omega) (by omega) (q * 2 + 1) (by omega) _) (by intro q hq; cases hq) ?_
  refine draw_batch (t := (Tr.fl 10 (Tr.fl 11 Tr.nil))) [⟨6, [.int .i64 x.1, .int .u32 x.2], none⟩, ⟨7, [], none⟩, ⟨8, [.int .u32 gn], none⟩, ⟨9, [], none⟩] (l' := ([(32, .agg #[.int .i64 1, .int .u32 gn]), (31, .int .u32 gn), (30, .pointer (some ⟨r7, 1, none⟩)), (29, .agg #[.int .i64 x.1, .int .u32 x.2]), (28, .pointer (some ⟨b, q * 2 + 1, none⟩)), (27, .pointer (some ⟨b, 1, none⟩)), (26, .pointer (some ⟨b, 0, none⟩)), (25, .int .i64 i), (24, .pointer (some ⟨r7, 0, none⟩)), (23, .pointer (some ⟨b, 0, none⟩)), (0, .pointer (some ⟨b, 0, none⟩)), (1, .agg #[.int .i64 i, .int .u32 gn]), (3, .pointer (some ⟨r7, 0, none⟩)), (4, .int .i64 0), (5, .bool false), (9, .bool false)] : Fr) ++ lr18) (pts' := [(8, ⟨r7, 1, none⟩, .int .u32 gn), (6, ⟨b, q * 2 + 1, none⟩, .int .i64 x.1), (6, ⟨b, q * 2 + 2, none⟩, .int .u32 x.2)]) (eqs := []) (by kernel_rfl) trivial (AllC_cons (sat_cell h20 1 rfl rfl) (AllC_cons (sat_cell h20 0 rfl (tbl_stk (app_get hx) (by omega))) (AllC_cons (sat_cell h20 0 rfl (tbl_genk (app_get hx) (by omega))) (AllC_nil _)))) ?_
  refine draw_law (i := 10) 33 (.bool false) [] (by kernel_rfl) (fun _ _ => seq104_neq_t (o := opA (RA Try.f54 [1, 0, 0, 1, 1, 1, 1, 0]) 10) (x := (Operand.tmp 29)) (y := (Operand.tmp 32)) x.1 x.2 1 gn (by kernel_rfl) (by kernel_rfl) (by kernel_rfl) ⟨(by omega), (by omega)⟩ _) (by intro q hq; cases hq) ?_
  refine draw_batch (t := Tr.nil) [⟨11, [], none⟩] (l' := ([(22, .bool false), (33, .bool false), (32, .agg #[.int .i64 1, .int .u32 gn]), (31, .int .u32 gn), (30, .pointer (some ⟨r7, 1, none⟩)), (29, .agg #[.int .i64 x.1, .int .u32 x.2]), (28, .pointer (some ⟨b, q * 2 + 1, none⟩)), (27, .pointer (some ⟨b, 1, none⟩)), (26, .pointer (some ⟨b, 0, none⟩)), (25, .int .i64 i), (24, .pointer (some ⟨r7, 0, none⟩)), (23, .pointer (some ⟨b, 0, none⟩)), (0, .pointer (some ⟨b, 0, none⟩)), (1, .agg #[.int .i64 i, .int .u32 gn]), (3, .pointer (some ⟨r7, 0, none⟩)), (4, .int .i64 0), (5, .bool false), (9, .bool false)] : Fr) ++ lr18) (pts' := []) (eqs := []) (by kernel_rfl) trivial (AllC_nil _) ?_
  change WP _ _ (CA Try.f54 [1, 0, 0, 1, 1, 1, 1, 1]) _ _ _
  refine fk_cut ([(0, .pointer (some ⟨b, 0, none⟩)), (1, .agg #[.int .i64 i, .int .u32 gn]), (3, .pointer (some ⟨r7, 0, none⟩)), (4, .int .i64 0), (5, .bool false), (9, .bool false), (22, .bool false)] : Fr) (by kernel_rfl) (fun a => WP _ _ _ _ a _) (fun lr21 => ?_)
  refine gi_cnd (x := (Operand.tmp 22)) (s := CA Try.f54 [1, 0, 0, 1, 1, 1, 1, 1, 0]) (t := CA Try.f54 [1, 0, 0, 1, 1, 1, 1, 1, 1]) false (by kernel_rfl) (by kernel_rfl) ?_
  change WP _ _ (CA Try.f54 [1, 0, 0, 1, 1, 1, 1, 1, 1]) _ _ _
  refine gi_skp (by kernel_rfl) ?_
  change WP _ _ (CA Try.f54 [1, 1]) _ _ _
  refine gi_seq (x := CA Try.f54 [1, 1, 0]) (y := CA Try.f54 [1, 1, 1]) (by kernel_rfl) ?_
  refine gi_pln (id := 7) (ops := RA Try.f54 [1, 1, 0]) [0] (by kernel_rfl) (by kernel_rfl) (by kernel_rfl) ?_
  refine plain_batch (rest := []) [⟨0, [], none⟩] (l' := ([(4, .int .i64 0), (0, .pointer (some ⟨b, 0, none⟩)), (1, .agg #[.int .i64 i, .int .u32 gn]), (3, .pointer (some ⟨r7, 0, none⟩)), (4, .int .i64 0), (5, .bool false), (9, .bool false), (22, .bool false)] : Fr) ++ lr21) (pts' := []) (eqs := []) (by kernel_rfl) trivial (AllC_nil _) ?_
  refine PO.mk ?_
  change WP _ _ (CA Try.f54 [1, 1, 1]) _ _ _
  refine fk_cut ([(0, .pointer (some ⟨b, 0, none⟩)), (1, .agg #[.int .i64 i, .int .u32 gn]), (3, .pointer (some ⟨r7, 0, none⟩)), (4, .int .i64 0), (5, .bool false), (9, .bool false), (22, .bool false)] : Fr) (by kernel_rfl) (fun a => WP _ _ _ _ a _) (fun lr22 => ?_)
  refine gi_rt (by kernel_rfl) ?_
  repeat (first | simp only [Exit.inBlock] | simp only [Exit.then])
  have h23 : sat g w19 [Tb b n A, Cl r7 [.int .i64 i, .int .u32 gn] 79, R] := tb_close hp2 h20
  have h24 : sat g w19 [Tb b n A, R] := sat_sel [0, 2] rfl h23
  refine hi_out [] (.int .i64 0) [] (by kernel_rfl) (by intro q hq; cases hq) ?_
  exact ⟨.int .i64 0, [Tb b n A], rfl, ⟨rfl, rfl⟩, h24⟩

set_option maxHeartbeats 4000000 in
theorem check_stale (b n : Nat) (A : List Sl2) (q : Nat) (x : Sl2) (hx : A[q]? = some x) (i gn : Int) (hc : i = (q : Int) ∧ ¬ (x.1 = 1 ∧ x.2 = gn)) : HT Try.prog 54 [Value.pointer (some ⟨b, 0, none⟩), Value.agg #[Value.int IntKind.i64 i, Value.int IntKind.u32 gn]] [Tb b n A] (fun v K => v = Value.int .i64 7 ∧ K = [Tb b n A]) := by
  refine hi_in 34 ([(0, .pointer (some ⟨b, 0, none⟩)), (1, .agg #[.int .i64 i, .int .u32 gn])] : Fr) Try.func54 (by kernel_rfl) Try.ntmps54 rfl rfl ?_
  intro g w0 R h0
  obtain ⟨T1, hp2, h3⟩ := tb_open h0
  have hq4 := hp2.2.1; have hq5 := hp2.2.2.1; have hq6 := hp2.2.2.2.2
  have hx_ := hp2.2.2.2.1 x (List.mem_of_getElem? hx)
  have hq_ : q < n := by have h_ := (List.getElem?_eq_some_iff.1 hx).1; rw [hp2.1] at h_; exact h_
  refine gi_seq (x := CA Try.f54 [0]) (y := CA Try.f54 [1]) (by kernel_rfl) ?_
  refine gi_pln (id := 0) (ops := RA Try.f54 [0]) [0, 1] (by kernel_rfl) (by kernel_rfl) (by kernel_rfl) ?_
  refine plain_act (i := 0) (by kernel_rfl) ?_
  refine an_new (d := 3) (fun xb_ => .pointer (some ⟨xb_, 0, none⟩)) (fun xb_ => Obj.cells [.int .i64 i, .int .u32 gn].toArray 79 (0, 0)) (fun xb_ => by kernel_rfl) (by kernel_rfl) rfl h3 ?_
  intro r7 w8 (h9 : sat g w8 [Cl r7 [.int .i64 i, .int .u32 gn] 79, Cl b (tbl n (A ++ T1)) 107, R])
  refine plain_batch (rest := []) [⟨1, [], none⟩] (l' := ([(4, .int .i64 0), (3, .pointer (some ⟨r7, 0, none⟩)), (0, .pointer (some ⟨b, 0, none⟩)), (1, .agg #[.int .i64 i, .int .u32 gn])] : Fr)) (pts' := []) (eqs := []) (by kernel_rfl) trivial (AllC_nil _) ?_
  refine PO.mk ?_
  change WP _ _ (CA Try.f54 [1]) _ _ _
  refine fk_cut ([(0, .pointer (some ⟨b, 0, none⟩)), (1, .agg #[.int .i64 i, .int .u32 gn]), (3, .pointer (some ⟨r7, 0, none⟩)), (4, .int .i64 0)] : Fr) (by kernel_rfl) (fun a => WP _ _ _ _ a _) (fun lr10 => ?_)
  refine gi_seq (x := CA Try.f54 [1, 0]) (y := CA Try.f54 [1, 1]) (by kernel_rfl) ?_
  refine gi_blk (id := 0) (x := CA Try.f54 [1, 0, 0]) (by kernel_rfl) ?_
  refine gi_seq (x := CA Try.f54 [1, 0, 0, 0]) (y := CA Try.f54 [1, 0, 0, 1]) (by kernel_rfl) ?_
  refine gi_pln (id := 1) (ops := RA Try.f54 [1, 0, 0, 0]) [0, 1, 2, 3] (by kernel_rfl) (by kernel_rfl) (by kernel_rfl) ?_
  refine plain_batch (rest := [1, 2, 3]) [⟨0, [], none⟩] (l' := ([(6, .pointer (some ⟨b, 0, none⟩)), (0, .pointer (some ⟨b, 0, none⟩)), (1, .agg #[.int .i64 i, .int .u32 gn]), (3, .pointer (some ⟨r7, 0, none⟩)), (4, .int .i64 0)] : Fr) ++ lr10) (pts' := []) (eqs := []) (by kernel_rfl) trivial (AllC_nil _) ?_
  have h11 : sat g w8 [Cl b (tbl n (A ++ T1)) 107, Cl r7 [.int .i64 i, .int .u32 gn] 79, R] := sat_sel [1, 0, 2] rfl h9
  refine plain_act (i := 1) (by kernel_rfl) ?_
  refine an_call (d := some 7) (f := 51) (args := [.pointer (some ⟨b, 0, none⟩)]) (by kernel_rfl) Try.call51 (svalid_cl b n _ (by omega)) (F := [Cl r7 [.int .i64 i, .int .u32 gn] 79, R]) h11 ?_
  rintro v K w12 (⟨rfl, rfl⟩) h13
  refine ⟨_, rfl, ?_⟩
  have h14 : sat g w12 [Cl b (tbl n (A ++ T1)) 107, Cl r7 [.int .i64 i, .int .u32 gn] 79, R] := h13
  refine plain_batch (rest := []) [⟨2, [], none⟩, ⟨3, [], none⟩] (l' := ([(5, .bool false), (8, .bool false), (7, .bool true), (6, .pointer (some ⟨b, 0, none⟩)), (0, .pointer (some ⟨b, 0, none⟩)), (1, .agg #[.int .i64 i, .int .u32 gn]), (3, .pointer (some ⟨r7, 0, none⟩)), (4, .int .i64 0)] : Fr) ++ lr10) (pts' := []) (eqs := []) (by kernel_rfl) trivial (AllC_nil _) ?_
  refine PO.mk ?_
  change WP _ _ (CA Try.f54 [1, 0, 0, 1]) _ _ _
  refine fk_cut ([(0, .pointer (some ⟨b, 0, none⟩)), (1, .agg #[.int .i64 i, .int .u32 gn]), (3, .pointer (some ⟨r7, 0, none⟩)), (4, .int .i64 0), (5, .bool false)] : Fr) (by kernel_rfl) (fun a => WP _ _ _ _ a _) (fun lr15 => ?_)
  refine gi_cnd (x := (Operand.tmp 5)) (s := CA Try.f54 [1, 0, 0, 1, 0]) (t := CA Try.f54 [1, 0, 0, 1, 1]) false (by kernel_rfl) (by kernel_rfl) ?_
  change WP _ _ (CA Try.f54 [1, 0, 0, 1, 1]) _ _ _
  refine gi_seq (x := CA Try.f54 [1, 0, 0, 1, 1, 0]) (y := CA Try.f54 [1, 0, 0, 1, 1, 1]) (by kernel_rfl) ?_
  refine gi_drw (id := 3) (ops := RA Try.f54 [1, 0, 0, 1, 1, 0]) (Tr.fl 0 (Tr.fl 1 (Tr.fl 2 (Tr.fl 3 (Tr.fl 4 (Tr.fl 5 (Tr.fl 6 (Tr.fl 7 (Tr.fl 8 (Tr.fl 9 (Tr.fl 10 (Tr.fl 11 (Tr.fl 12 Tr.nil))))))))))))) (by kernel_rfl) (by kernel_rfl) (by kernel_rfl) (by kernel_rfl) (by kernel_rfl) (fun _ _ d _ _ h => by cases d <;> exact h) h14 ?_
  intro w16 h17
  refine draw_batch (t := Tr.nil) [⟨0, [], none⟩, ⟨1, [.int .i64 i], none⟩, ⟨2, [], some (.bool false)⟩, ⟨3, [], none⟩, ⟨4, [], none⟩, ⟨5, [.int .i64 i], none⟩, ⟨6, [], none⟩, ⟨7, [], none⟩, ⟨8, [], none⟩, ⟨9, [.int .i64 (((n : Nat) : Int))], none⟩, ⟨10, [], some (.bool false)⟩, ⟨11, [], none⟩, ⟨12, [], none⟩] (l' := ([(9, .bool false), (21, .bool false), (20, .bool false), (19, .int .i64 (((n : Nat) : Int))), (18, .pointer (some ⟨b, 0, none⟩)), (17, .pointer (some ⟨b, 0, none⟩)), (16, .pointer (some ⟨b, 0, none⟩)), (15, .int .i64 i), (14, .pointer (some ⟨r7, 0, none⟩)), (13, .bool false), (12, .bool false), (11, .int .i64 i), (10, .pointer (some ⟨r7, 0, none⟩)), (0, .pointer (some ⟨b, 0, none⟩)), (1, .agg #[.int .i64 i, .int .u32 gn]), (3, .pointer (some ⟨r7, 0, none⟩)), (4, .int .i64 0), (5, .bool false)] : Fr) ++ lr15) (pts' := [(9, ⟨b, 0, none⟩, .int .i64 (((n : Nat) : Int))), (5, ⟨r7, 0, none⟩, .int .i64 i), (1, ⟨r7, 0, none⟩, .int .i64 i)]) (eqs := [(.bool (decide (i < 0)), .bool false), (.bool (decide (i ≥ ((n : Nat) : Int))), .bool false)]) (by kernel_rfl) ⟨(ov_f (by omega)), (ov_f (by omega)), trivial⟩ (AllC_cons (sat_cell h17 0 rfl rfl) (AllC_cons (sat_cell h17 1 rfl rfl) (AllC_cons (sat_cell h17 1 rfl rfl) (AllC_nil _)))) ?_
  change WP _ _ (CA Try.f54 [1, 0, 0, 1, 1, 1]) _ _ _
  refine fk_cut ([(0, .pointer (some ⟨b, 0, none⟩)), (1, .agg #[.int .i64 i, .int .u32 gn]), (3, .pointer (some ⟨r7, 0, none⟩)), (4, .int .i64 0), (5, .bool false), (9, .bool false)] : Fr) (by kernel_rfl) (fun a => WP _ _ _ _ a _) (fun lr18 => ?_)
  refine gi_cnd (x := (Operand.tmp 9)) (s := CA Try.f54 [1, 0, 0, 1, 1, 1, 0]) (t := CA Try.f54 [1, 0, 0, 1, 1, 1, 1]) false (by kernel_rfl) (by kernel_rfl) ?_
  change WP _ _ (CA Try.f54 [1, 0, 0, 1, 1, 1, 1]) _ _ _
  refine gi_seq (x := CA Try.f54 [1, 0, 0, 1, 1, 1, 1, 0]) (y := CA Try.f54 [1, 0, 0, 1, 1, 1, 1, 1]) (by kernel_rfl) ?_
  refine gi_drw (id := 5) (ops := RA Try.f54 [1, 0, 0, 1, 1, 1, 1, 0]) (Tr.fl 0 (Tr.fl 1 (Tr.fl 2 (Tr.fl 3 (Tr.fl 4 (Tr.fl 5 (Tr.fl 6 (Tr.fl 7 (Tr.fl 8 (Tr.fl 9 (Tr.fl 10 (Tr.fl 11 Tr.nil)))))))))))) (by kernel_rfl) (by kernel_rfl) (by kernel_rfl) (by kernel_rfl) (by kernel_rfl) (fun _ _ d _ _ h => by cases d <;> exact h) h17 ?_
  intro w19 h20
  refine draw_batch (t := (Tr.fl 5 (Tr.fl 6 (Tr.fl 7 (Tr.fl 8 (Tr.fl 9 (Tr.fl 10 (Tr.fl 11 Tr.nil)))))))) [⟨0, [], none⟩, ⟨1, [], none⟩, ⟨2, [.int .i64 i], none⟩, ⟨3, [], none⟩, ⟨4, [], none⟩] (l' := ([(27, .pointer (some ⟨b, 1, none⟩)), (26, .pointer (some ⟨b, 0, none⟩)), (25, .int .i64 i), (24, .pointer (some ⟨r7, 0, none⟩)), (23, .pointer (some ⟨b, 0, none⟩)), (0, .pointer (some ⟨b, 0, none⟩)), (1, .agg #[.int .i64 i, .int .u32 gn]), (3, .pointer (some ⟨r7, 0, none⟩)), (4, .int .i64 0), (5, .bool false), (9, .bool false)] : Fr) ++ lr18) (pts' := [(2, ⟨r7, 0, none⟩, .int .i64 i)]) (eqs := []) (by kernel_rfl) trivial (AllC_cons (sat_cell h20 1 rfl rfl) (AllC_nil _)) ?_
  refine draw_law (i := 5) 28 (.pointer (some ⟨b, q * 2 + 1, none⟩)) [] (by kernel_rfl) (fun _ _ => law_indexArr (o := opA (RA Try.f54 [1, 0, 0, 1, 1, 1, 1, 0]) 5) (x := (Operand.tmp 27)) (i := (Operand.tmp 25)) (b := b) (off := 1) (z := i) (by kernel_rfl) Try.underlying105 2 (by kernel_rfl) q (by kernel_rfl) (by kernel_rfl) (by omega) (by omega) (q * 2 + 1) (by omega) _) (by intro q hq; cases hq) ?_
  refine draw_batch (t := (Tr.fl 10 (Tr.fl 11 Tr.nil))) [⟨6, [.int .i64 x.1, .int .u32 x.2], none⟩, ⟨7, [], none⟩, ⟨8, [.int .u32 gn], none⟩, ⟨9, [], none⟩] (l' := ([(32, .agg #[.int .i64 1, .int .u32 gn]), (31, .int .u32 gn), (30, .pointer (some ⟨r7, 1, none⟩)), (29, .agg #[.int .i64 x.1, .int .u32 x.2]), (28, .pointer (some ⟨b, q * 2 + 1, none⟩)), (27, .pointer (some ⟨b, 1, none⟩)), (26, .pointer (some ⟨b, 0, none⟩)), (25, .int .i64 i), (24, .pointer (some ⟨r7, 0, none⟩)), (23, .pointer (some ⟨b, 0, none⟩)), (0, .pointer (some ⟨b, 0, none⟩)), (1, .agg #[.int .i64 i, .int .u32 gn]), (3, .pointer (some ⟨r7, 0, none⟩)), (4, .int .i64 0), (5, .bool false), (9, .bool false)] : Fr) ++ lr18) (pts' := [(8, ⟨r7, 1, none⟩, .int .u32 gn), (6, ⟨b, q * 2 + 1, none⟩, .int .i64 x.1), (6, ⟨b, q * 2 + 2, none⟩, .int .u32 x.2)]) (eqs := []) (by kernel_rfl) trivial (AllC_cons (sat_cell h20 1 rfl rfl) (AllC_cons (sat_cell h20 0 rfl (tbl_stk (app_get hx) (by omega))) (AllC_cons (sat_cell h20 0 rfl (tbl_genk (app_get hx) (by omega))) (AllC_nil _)))) ?_
  by_cases c21 : x.1 = 1
  ·
    refine draw_law (i := 10) 33 (.bool true) [] (by kernel_rfl) (fun _ _ => seq104_neq_f (o := opA (RA Try.f54 [1, 0, 0, 1, 1, 1, 1, 0]) 10) (x := (Operand.tmp 29)) (y := (Operand.tmp 32)) x.1 x.2 1 gn (by kernel_rfl) (by kernel_rfl) (by kernel_rfl) (by omega) _) (by intro q hq; cases hq) ?_
    refine draw_batch (t := Tr.nil) [⟨11, [], none⟩] (l' := ([(22, .bool true), (33, .bool true), (32, .agg #[.int .i64 1, .int .u32 gn]), (31, .int .u32 gn), (30, .pointer (some ⟨r7, 1, none⟩)), (29, .agg #[.int .i64 x.1, .int .u32 x.2]), (28, .pointer (some ⟨b, q * 2 + 1, none⟩)), (27, .pointer (some ⟨b, 1, none⟩)), (26, .pointer (some ⟨b, 0, none⟩)), (25, .int .i64 i), (24, .pointer (some ⟨r7, 0, none⟩)), (23, .pointer (some ⟨b, 0, none⟩)), (0, .pointer (some ⟨b, 0, none⟩)), (1, .agg #[.int .i64 i, .int .u32 gn]), (3, .pointer (some ⟨r7, 0, none⟩)), (4, .int .i64 0), (5, .bool false), (9, .bool false)] : Fr) ++ lr18) (pts' := []) (eqs := []) (by kernel_rfl) trivial (AllC_nil _) ?_
    change WP _ _ (CA Try.f54 [1, 0, 0, 1, 1, 1, 1, 1]) _ _ _
    refine fk_cut ([(0, .pointer (some ⟨b, 0, none⟩)), (1, .agg #[.int .i64 i, .int .u32 gn]), (3, .pointer (some ⟨r7, 0, none⟩)), (4, .int .i64 0), (5, .bool false), (9, .bool false), (22, .bool true)] : Fr) (by kernel_rfl) (fun a => WP _ _ _ _ a _) (fun lr22 => ?_)
    refine gi_cnd (x := (Operand.tmp 22)) (s := CA Try.f54 [1, 0, 0, 1, 1, 1, 1, 1, 0]) (t := CA Try.f54 [1, 0, 0, 1, 1, 1, 1, 1, 1]) true (by kernel_rfl) (by kernel_rfl) ?_
    change WP _ _ (CA Try.f54 [1, 0, 0, 1, 1, 1, 1, 1, 0]) _ _ _
    refine gi_seq (x := CA Try.f54 [1, 0, 0, 1, 1, 1, 1, 1, 0, 0]) (y := CA Try.f54 [1, 0, 0, 1, 1, 1, 1, 1, 0, 1]) (by kernel_rfl) ?_
    refine gi_pln (id := 6) (ops := RA Try.f54 [1, 0, 0, 1, 1, 1, 1, 1, 0, 0]) [0] (by kernel_rfl) (by kernel_rfl) (by kernel_rfl) ?_
    refine plain_batch (rest := []) [⟨0, [], none⟩] (l' := ([(4, .int .i64 7), (0, .pointer (some ⟨b, 0, none⟩)), (1, .agg #[.int .i64 i, .int .u32 gn]), (3, .pointer (some ⟨r7, 0, none⟩)), (4, .int .i64 0), (5, .bool false), (9, .bool false), (22, .bool true)] : Fr) ++ lr22) (pts' := []) (eqs := []) (by kernel_rfl) trivial (AllC_nil _) ?_
    refine PO.mk ?_
    change WP _ _ (CA Try.f54 [1, 0, 0, 1, 1, 1, 1, 1, 0, 1]) _ _ _
    refine fk_cut ([(0, .pointer (some ⟨b, 0, none⟩)), (1, .agg #[.int .i64 i, .int .u32 gn]), (3, .pointer (some ⟨r7, 0, none⟩)), (4, .int .i64 7), (5, .bool false), (9, .bool false), (22, .bool true)] : Fr) (by kernel_rfl) (fun a => WP _ _ _ _ a _) (fun lr23 => ?_)
    refine gi_rt (by kernel_rfl) ?_
    repeat (first | simp only [Exit.inBlock] | simp only [Exit.then])
    have h24 : sat g w19 [Tb b n A, Cl r7 [.int .i64 i, .int .u32 gn] 79, R] := tb_close hp2 h20
    have h25 : sat g w19 [Tb b n A, R] := sat_sel [0, 2] rfl h24
    refine hi_out [] (.int .i64 7) [] (by kernel_rfl) (by intro q hq; cases hq) ?_
    exact ⟨.int .i64 7, [Tb b n A], rfl, ⟨rfl, rfl⟩, h25⟩
  ·
    refine draw_law (i := 10) 33 (.bool true) [] (by kernel_rfl) (fun _ _ => seq104_neq_f (o := opA (RA Try.f54 [1, 0, 0, 1, 1, 1, 1, 0]) 10) (x := (Operand.tmp 29)) (y := (Operand.tmp 32)) x.1 x.2 1 gn (by kernel_rfl) (by kernel_rfl) (by kernel_rfl) (by omega) _) (by intro q hq; cases hq) ?_
    refine draw_batch (t := Tr.nil) [⟨11, [], none⟩] (l' := ([(22, .bool true), (33, .bool true), (32, .agg #[.int .i64 1, .int .u32 gn]), (31, .int .u32 gn), (30, .pointer (some ⟨r7, 1, none⟩)), (29, .agg #[.int .i64 x.1, .int .u32 x.2]), (28, .pointer (some ⟨b, q * 2 + 1, none⟩)), (27, .pointer (some ⟨b, 1, none⟩)), (26, .pointer (some ⟨b, 0, none⟩)), (25, .int .i64 i), (24, .pointer (some ⟨r7, 0, none⟩)), (23, .pointer (some ⟨b, 0, none⟩)), (0, .pointer (some ⟨b, 0, none⟩)), (1, .agg #[.int .i64 i, .int .u32 gn]), (3, .pointer (some ⟨r7, 0, none⟩)), (4, .int .i64 0), (5, .bool false), (9, .bool false)] : Fr) ++ lr18) (pts' := []) (eqs := []) (by kernel_rfl) trivial (AllC_nil _) ?_
    change WP _ _ (CA Try.f54 [1, 0, 0, 1, 1, 1, 1, 1]) _ _ _
    refine fk_cut ([(0, .pointer (some ⟨b, 0, none⟩)), (1, .agg #[.int .i64 i, .int .u32 gn]), (3, .pointer (some ⟨r7, 0, none⟩)), (4, .int .i64 0), (5, .bool false), (9, .bool false), (22, .bool true)] : Fr) (by kernel_rfl) (fun a => WP _ _ _ _ a _) (fun lr26 => ?_)
    refine gi_cnd (x := (Operand.tmp 22)) (s := CA Try.f54 [1, 0, 0, 1, 1, 1, 1, 1, 0]) (t := CA Try.f54 [1, 0, 0, 1, 1, 1, 1, 1, 1]) true (by kernel_rfl) (by kernel_rfl) ?_
    change WP _ _ (CA Try.f54 [1, 0, 0, 1, 1, 1, 1, 1, 0]) _ _ _
    refine gi_seq (x := CA Try.f54 [1, 0, 0, 1, 1, 1, 1, 1, 0, 0]) (y := CA Try.f54 [1, 0, 0, 1, 1, 1, 1, 1, 0, 1]) (by kernel_rfl) ?_
    refine gi_pln (id := 6) (ops := RA Try.f54 [1, 0, 0, 1, 1, 1, 1, 1, 0, 0]) [0] (by kernel_rfl) (by kernel_rfl) (by kernel_rfl) ?_
    refine plain_batch (rest := []) [⟨0, [], none⟩] (l' := ([(4, .int .i64 7), (0, .pointer (some ⟨b, 0, none⟩)), (1, .agg #[.int .i64 i, .int .u32 gn]), (3, .pointer (some ⟨r7, 0, none⟩)), (4, .int .i64 0), (5, .bool false), (9, .bool false), (22, .bool true)] : Fr) ++ lr26) (pts' := []) (eqs := []) (by kernel_rfl) trivial (AllC_nil _) ?_
    refine PO.mk ?_
    change WP _ _ (CA Try.f54 [1, 0, 0, 1, 1, 1, 1, 1, 0, 1]) _ _ _
    refine fk_cut ([(0, .pointer (some ⟨b, 0, none⟩)), (1, .agg #[.int .i64 i, .int .u32 gn]), (3, .pointer (some ⟨r7, 0, none⟩)), (4, .int .i64 7), (5, .bool false), (9, .bool false), (22, .bool true)] : Fr) (by kernel_rfl) (fun a => WP _ _ _ _ a _) (fun lr27 => ?_)
    refine gi_rt (by kernel_rfl) ?_
    repeat (first | simp only [Exit.inBlock] | simp only [Exit.then])
    have h28 : sat g w19 [Tb b n A, Cl r7 [.int .i64 i, .int .u32 gn] 79, R] := tb_close hp2 h20
    have h29 : sat g w19 [Tb b n A, R] := sat_sel [0, 2] rfl h28
    refine hi_out [] (.int .i64 7) [] (by kernel_rfl) (by intro q hq; cases hq) ?_
    exact ⟨.int .i64 7, [Tb b n A], rfl, ⟨rfl, rfl⟩, h29⟩

end Go.Proofs.Ytcgpkhdocakloaa
