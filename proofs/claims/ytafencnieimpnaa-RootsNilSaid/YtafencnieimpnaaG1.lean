/- Walks, printed by my generator gen2.py. -/
import Derived.Test.YtafencnieimpnaaRtsB
namespace Go.Proofs.Ytafencnieimpnaa
theorem seq25_eql_t {n : Nat} {l : Fr} {o : Oper} {x y : Operand} (a0 a1 c0 c1 : Int) (ho : o.op = .binOp .eql 25 x y 25) (hx : fe n l x = .agg #[.int .i64 a0, .int .u32 a1]) (hy : fe n l y = .agg #[.int .i64 c0, .int .u32 c1]) (h : a0 = c0 ∧ a1 = c1) (w : World) : (execOp (fe n l) o).run Try.prog w = .ok (.value (.bool true)) w := by
  obtain ⟨rfl, rfl⟩ := h
  simp [execOp, ho, hx, hy, go_sem]
theorem seq25_eql_f {n : Nat} {l : Fr} {o : Oper} {x y : Operand} (a0 a1 c0 c1 : Int) (ho : o.op = .binOp .eql 25 x y 25) (hx : fe n l x = .agg #[.int .i64 a0, .int .u32 a1]) (hy : fe n l y = .agg #[.int .i64 c0, .int .u32 c1]) (h : ¬ (a0 = c0 ∧ a1 = c1)) (w : World) : (execOp (fe n l) o).run Try.prog w = .ok (.value (.bool false)) w := by
  by_cases h0 : a0 = c0
  · skip
    by_cases h1 : a1 = c1
    · exact absurd ⟨h0, h1⟩ h
    · simp [execOp, ho, hx, hy, go_sem, h0, h1]
  · simp [execOp, ho, hx, hy, go_sem, h0]
theorem seq25_neq_t {n : Nat} {l : Fr} {o : Oper} {x y : Operand} (a0 a1 c0 c1 : Int) (ho : o.op = .binOp .neq 25 x y 25) (hx : fe n l x = .agg #[.int .i64 a0, .int .u32 a1]) (hy : fe n l y = .agg #[.int .i64 c0, .int .u32 c1]) (h : a0 = c0 ∧ a1 = c1) (w : World) : (execOp (fe n l) o).run Try.prog w = .ok (.value (.bool false)) w := by
  obtain ⟨rfl, rfl⟩ := h
  simp [execOp, ho, hx, hy, go_sem]
theorem seq25_neq_f {n : Nat} {l : Fr} {o : Oper} {x y : Operand} (a0 a1 c0 c1 : Int) (ho : o.op = .binOp .neq 25 x y 25) (hx : fe n l x = .agg #[.int .i64 a0, .int .u32 a1]) (hy : fe n l y = .agg #[.int .i64 c0, .int .u32 c1]) (h : ¬ (a0 = c0 ∧ a1 = c1)) (w : World) : (execOp (fe n l) o).run Try.prog w = .ok (.value (.bool true)) w := by
  by_cases h0 : a0 = c0
  · skip
    by_cases h1 : a1 = c1
    · exact absurd ⟨h0, h1⟩ h
    · simp [execOp, ho, hx, hy, go_sem, h0, h1]
  · simp [execOp, ho, hx, hy, go_sem, h0]
set_option maxHeartbeats 4000000 in
theorem valid_ht (b : Nat) (cs : List Value) : HT Try.prog 39 [Value.pointer (some ⟨b, 0, none⟩)] [Cl b (Value.bool true :: cs) 57] (fun v K => v = Value.bool true ∧ K = [Cl b (Value.bool true :: cs) 57]) := by
  refine ht_in 11 [(0, Value.pointer (some ⟨b, 0, none⟩))] Try.func39 (by kernel_rfl) Try.ntmps39 rfl rfl ?_
  intro g w0 R h0
  refine go_seq (x := CA Try.f39 [0]) (y := CA Try.f39 [1]) (by kernel_rfl) ?_
  refine go_pln (id := 0) (ops := RA Try.f39 [0]) [0] (by kernel_rfl) (by kernel_rfl) ?_
  refine plain_batch (rest := []) [⟨0, [], none⟩] (l' := [(2, Value.bool false), (0, Value.pointer (some ⟨b, 0, none⟩))]) (pts' := []) (eqs := []) (by kernel_rfl) trivial (AllC_nil _) ?_
  change Code.wp _ (CA Try.f39 [1]) _ _ _
  refine fr_cut [(0, Value.pointer (some ⟨b, 0, none⟩)), (2, Value.bool false)] ⟨rfl, rfl, trivial⟩ (fun a => Code.wp _ _ _ a _) (fun lr1 => ?_)
  refine go_seq (x := CA Try.f39 [1, 0]) (y := CA Try.f39 [1, 1]) (by kernel_rfl) ?_
  refine go_pln (id := 1) (ops := RA Try.f39 [1, 0]) [0, 1, 2, 3, 4, 5, 6, 7, 8] (by kernel_rfl) (by kernel_rfl) ?_
  refine plain_batch (rest := []) [⟨0, [], none⟩, ⟨1, [], none⟩, ⟨2, [], none⟩, ⟨3, [], none⟩, ⟨4, [], none⟩, ⟨5, [], none⟩, ⟨6, [Value.bool true], none⟩, ⟨7, [], none⟩, ⟨8, [], none⟩] (l' := [(2, Value.bool true), (10, Value.bool true), (9, Value.bool true), (8, Value.pointer (some ⟨b, 0, none⟩)), (7, Value.pointer (some ⟨b, 0, none⟩)), (6, Value.pointer (some ⟨b, 0, none⟩)), (5, Value.bool true), (4, Value.bool true), (3, Value.pointer (some ⟨b, 0, none⟩)), (0, Value.pointer (some ⟨b, 0, none⟩)), (2, Value.bool false)] ++ lr1) (pts' := [(6, ⟨b, 0, none⟩, Value.bool true)]) (eqs := []) (by kernel_rfl) trivial (AllC_cons (sat_cell h0 0 rfl rfl) (AllC_nil _)) ?_
  change Code.wp _ (CA Try.f39 [1, 1]) _ _ _
  refine fr_cut [(0, Value.pointer (some ⟨b, 0, none⟩)), (2, Value.bool true)] ⟨rfl, rfl, trivial⟩ (fun a => Code.wp _ _ _ a _) (fun lr2 => ?_)
  refine go_rt (by kernel_rfl) ?_
  repeat (first | simp only [Exit.inBlock] | simp only [Exit.then])
  refine ht_out [] (Value.bool true) [] (by kernel_rfl) (by intro q hq; cases hq) ?_
  exact ⟨Value.bool true, [Cl b (Value.bool true :: cs) 57], rfl, ⟨rfl, rfl⟩, h0⟩

set_option maxHeartbeats 4000000 in
theorem new_ht  : HT Try.prog 17 [] [] (fun v K => ∃ b : Nat, v = Value.pointer (some ⟨b, 0, none⟩) ∧ K = [PStk b []]) := by
  refine ht_in 3 [] Try.func17 (by kernel_rfl) Try.ntmps17 rfl rfl ?_
  intro g w0 R h0
  refine go_seq (x := CA Try.f17 [0]) (y := CA Try.f17 [1]) (by kernel_rfl) ?_
  refine go_pln (id := 0) (ops := RA Try.f17 [0]) [0] (by kernel_rfl) (by kernel_rfl) ?_
  refine plain_batch (rest := []) [⟨0, [], none⟩] (l' := [(0, Value.pointer none)]) (pts' := []) (eqs := []) (by kernel_rfl) trivial (AllC_nil _) ?_
  change Code.wp _ (CA Try.f17 [1]) _ _ _
  refine fr_cut [(0, Value.pointer none)] ⟨rfl, trivial⟩ (fun a => Code.wp _ _ _ a _) (fun lr1 => ?_)
  refine go_seq (x := CA Try.f17 [1, 0]) (y := CA Try.f17 [1, 1]) (by kernel_rfl) ?_
  refine go_pln (id := 1) (ops := RA Try.f17 [1, 0]) [0, 1, 2] (by kernel_rfl) (by kernel_rfl) ?_
  refine plain_batch (rest := [1, 2]) [⟨0, [], none⟩] (l' := [(1, Value.agg #[Value.bool true, Value.int IntKind.i64 0, Value.int IntKind.i64 0, Value.int IntKind.u32 0, Value.int IntKind.i64 0, Value.int IntKind.u32 0, Value.int IntKind.i64 0, Value.int IntKind.u32 0, Value.int IntKind.i64 0, Value.int IntKind.u32 0, Value.int IntKind.i64 0, Value.int IntKind.u32 0, Value.int IntKind.i64 0, Value.int IntKind.u32 0, Value.int IntKind.i64 0, Value.int IntKind.u32 0, Value.int IntKind.i64 0, Value.int IntKind.u32 0, Value.int IntKind.i64 0, Value.int IntKind.u32 0, Value.int IntKind.i64 0, Value.int IntKind.u32 0, Value.int IntKind.i64 0, Value.int IntKind.u32 0, Value.int IntKind.i64 0, Value.int IntKind.u32 0, Value.int IntKind.i64 0, Value.int IntKind.u32 0, Value.int IntKind.i64 0, Value.int IntKind.u32 0, Value.int IntKind.i64 0, Value.int IntKind.u32 0, Value.int IntKind.i64 0, Value.int IntKind.u32 0, Value.int IntKind.i64 0, Value.int IntKind.u32 0, Value.int IntKind.i64 0, Value.int IntKind.u32 0, Value.int IntKind.i64 0, Value.int IntKind.u32 0, Value.int IntKind.i64 0, Value.int IntKind.u32 0, Value.int IntKind.i64 0, Value.int IntKind.u32 0, Value.int IntKind.i64 0, Value.int IntKind.u32 0, Value.int IntKind.i64 0, Value.int IntKind.u32 0, Value.int IntKind.i64 0, Value.int IntKind.u32 0, Value.int IntKind.i64 0, Value.int IntKind.u32 0, Value.int IntKind.i64 0, Value.int IntKind.u32 0, Value.int IntKind.i64 0, Value.int IntKind.u32 0, Value.int IntKind.i64 0, Value.int IntKind.u32 0, Value.int IntKind.i64 0, Value.int IntKind.u32 0, Value.int IntKind.i64 0, Value.int IntKind.u32 0, Value.int IntKind.i64 0, Value.int IntKind.u32 0, Value.int IntKind.i64 0, Value.int IntKind.u32 0]), (0, Value.pointer none)] ++ lr1) (pts' := []) (eqs := []) (by kernel_rfl) trivial (AllC_nil _) ?_
  refine plain_act (i := 1) (by kernel_rfl) ?_
  refine an_new (d := 2) (fun xb_ => Value.pointer (some ⟨xb_, 0, none⟩)) (fun xb_ => Obj.cells [Value.bool true, Value.int IntKind.i64 0, Value.int IntKind.i64 0, Value.int IntKind.u32 0, Value.int IntKind.i64 0, Value.int IntKind.u32 0, Value.int IntKind.i64 0, Value.int IntKind.u32 0, Value.int IntKind.i64 0, Value.int IntKind.u32 0, Value.int IntKind.i64 0, Value.int IntKind.u32 0, Value.int IntKind.i64 0, Value.int IntKind.u32 0, Value.int IntKind.i64 0, Value.int IntKind.u32 0, Value.int IntKind.i64 0, Value.int IntKind.u32 0, Value.int IntKind.i64 0, Value.int IntKind.u32 0, Value.int IntKind.i64 0, Value.int IntKind.u32 0, Value.int IntKind.i64 0, Value.int IntKind.u32 0, Value.int IntKind.i64 0, Value.int IntKind.u32 0, Value.int IntKind.i64 0, Value.int IntKind.u32 0, Value.int IntKind.i64 0, Value.int IntKind.u32 0, Value.int IntKind.i64 0, Value.int IntKind.u32 0, Value.int IntKind.i64 0, Value.int IntKind.u32 0, Value.int IntKind.i64 0, Value.int IntKind.u32 0, Value.int IntKind.i64 0, Value.int IntKind.u32 0, Value.int IntKind.i64 0, Value.int IntKind.u32 0, Value.int IntKind.i64 0, Value.int IntKind.u32 0, Value.int IntKind.i64 0, Value.int IntKind.u32 0, Value.int IntKind.i64 0, Value.int IntKind.u32 0, Value.int IntKind.i64 0, Value.int IntKind.u32 0, Value.int IntKind.i64 0, Value.int IntKind.u32 0, Value.int IntKind.i64 0, Value.int IntKind.u32 0, Value.int IntKind.i64 0, Value.int IntKind.u32 0, Value.int IntKind.i64 0, Value.int IntKind.u32 0, Value.int IntKind.i64 0, Value.int IntKind.u32 0, Value.int IntKind.i64 0, Value.int IntKind.u32 0, Value.int IntKind.i64 0, Value.int IntKind.u32 0, Value.int IntKind.i64 0, Value.int IntKind.u32 0, Value.int IntKind.i64 0, Value.int IntKind.u32 0].toArray 57 (0, 0)) (fun xb_ => by kernel_rfl) (by kernel_rfl) rfl h0 ?_
  intro r2 w3 (h4 : sat g w3 [Cl r2 [Value.bool true, Value.int IntKind.i64 0, Value.int IntKind.i64 0, Value.int IntKind.u32 0, Value.int IntKind.i64 0, Value.int IntKind.u32 0, Value.int IntKind.i64 0, Value.int IntKind.u32 0, Value.int IntKind.i64 0, Value.int IntKind.u32 0, Value.int IntKind.i64 0, Value.int IntKind.u32 0, Value.int IntKind.i64 0, Value.int IntKind.u32 0, Value.int IntKind.i64 0, Value.int IntKind.u32 0, Value.int IntKind.i64 0, Value.int IntKind.u32 0, Value.int IntKind.i64 0, Value.int IntKind.u32 0, Value.int IntKind.i64 0, Value.int IntKind.u32 0, Value.int IntKind.i64 0, Value.int IntKind.u32 0, Value.int IntKind.i64 0, Value.int IntKind.u32 0, Value.int IntKind.i64 0, Value.int IntKind.u32 0, Value.int IntKind.i64 0, Value.int IntKind.u32 0, Value.int IntKind.i64 0, Value.int IntKind.u32 0, Value.int IntKind.i64 0, Value.int IntKind.u32 0, Value.int IntKind.i64 0, Value.int IntKind.u32 0, Value.int IntKind.i64 0, Value.int IntKind.u32 0, Value.int IntKind.i64 0, Value.int IntKind.u32 0, Value.int IntKind.i64 0, Value.int IntKind.u32 0, Value.int IntKind.i64 0, Value.int IntKind.u32 0, Value.int IntKind.i64 0, Value.int IntKind.u32 0, Value.int IntKind.i64 0, Value.int IntKind.u32 0, Value.int IntKind.i64 0, Value.int IntKind.u32 0, Value.int IntKind.i64 0, Value.int IntKind.u32 0, Value.int IntKind.i64 0, Value.int IntKind.u32 0, Value.int IntKind.i64 0, Value.int IntKind.u32 0, Value.int IntKind.i64 0, Value.int IntKind.u32 0, Value.int IntKind.i64 0, Value.int IntKind.u32 0, Value.int IntKind.i64 0, Value.int IntKind.u32 0, Value.int IntKind.i64 0, Value.int IntKind.u32 0, Value.int IntKind.i64 0, Value.int IntKind.u32 0] 57, R])
  refine plain_batch (rest := []) [⟨2, [], none⟩] (l' := [(0, Value.pointer (some ⟨r2, 0, none⟩)), (2, Value.pointer (some ⟨r2, 0, none⟩)), (1, Value.agg #[Value.bool true, Value.int IntKind.i64 0, Value.int IntKind.i64 0, Value.int IntKind.u32 0, Value.int IntKind.i64 0, Value.int IntKind.u32 0, Value.int IntKind.i64 0, Value.int IntKind.u32 0, Value.int IntKind.i64 0, Value.int IntKind.u32 0, Value.int IntKind.i64 0, Value.int IntKind.u32 0, Value.int IntKind.i64 0, Value.int IntKind.u32 0, Value.int IntKind.i64 0, Value.int IntKind.u32 0, Value.int IntKind.i64 0, Value.int IntKind.u32 0, Value.int IntKind.i64 0, Value.int IntKind.u32 0, Value.int IntKind.i64 0, Value.int IntKind.u32 0, Value.int IntKind.i64 0, Value.int IntKind.u32 0, Value.int IntKind.i64 0, Value.int IntKind.u32 0, Value.int IntKind.i64 0, Value.int IntKind.u32 0, Value.int IntKind.i64 0, Value.int IntKind.u32 0, Value.int IntKind.i64 0, Value.int IntKind.u32 0, Value.int IntKind.i64 0, Value.int IntKind.u32 0, Value.int IntKind.i64 0, Value.int IntKind.u32 0, Value.int IntKind.i64 0, Value.int IntKind.u32 0, Value.int IntKind.i64 0, Value.int IntKind.u32 0, Value.int IntKind.i64 0, Value.int IntKind.u32 0, Value.int IntKind.i64 0, Value.int IntKind.u32 0, Value.int IntKind.i64 0, Value.int IntKind.u32 0, Value.int IntKind.i64 0, Value.int IntKind.u32 0, Value.int IntKind.i64 0, Value.int IntKind.u32 0, Value.int IntKind.i64 0, Value.int IntKind.u32 0, Value.int IntKind.i64 0, Value.int IntKind.u32 0, Value.int IntKind.i64 0, Value.int IntKind.u32 0, Value.int IntKind.i64 0, Value.int IntKind.u32 0, Value.int IntKind.i64 0, Value.int IntKind.u32 0, Value.int IntKind.i64 0, Value.int IntKind.u32 0, Value.int IntKind.i64 0, Value.int IntKind.u32 0, Value.int IntKind.i64 0, Value.int IntKind.u32 0]), (0, Value.pointer none)] ++ lr1) (pts' := []) (eqs := []) (by kernel_rfl) trivial (AllC_nil _) ?_
  change Code.wp _ (CA Try.f17 [1, 1]) _ _ _
  refine fr_cut [(0, Value.pointer (some ⟨r2, 0, none⟩))] ⟨rfl, trivial⟩ (fun a => Code.wp _ _ _ a _) (fun lr5 => ?_)
  refine go_rt (by kernel_rfl) ?_
  have h6 : sat g w3 [PStk r2 [], R] := sat_imp h4 (fun _ hh => ⟨(List.replicate 32 (0, 0)), rfl, hh⟩)
  repeat (first | simp only [Exit.inBlock] | simp only [Exit.then])
  refine ht_out [] (Value.pointer (some ⟨r2, 0, none⟩)) [] (by kernel_rfl) (by intro q hq; cases hq) ?_
  exact ⟨Value.pointer (some ⟨r2, 0, none⟩), [PStk r2 []], rfl, ⟨r2, rfl, rfl⟩, h6⟩

set_option maxHeartbeats 4000000 in
theorem used_ht (b n : Nat) (A : List Rf) (hn : n ≤ 32) : HT Try.prog 36 [Value.pointer (some ⟨b, 0, none⟩)] [Cl b (stk n A) 57] (fun v K => v = Value.slice (some ⟨b, 2, none⟩) n 32 ∧ K = [Cl b (stk n A) 57]) := by
  refine ht_in 14 [(0, Value.pointer (some ⟨b, 0, none⟩))] Try.func36 (by kernel_rfl) Try.ntmps36 rfl rfl ?_
  intro g w0 R h0
  refine go_seq (x := CA Try.f36 [0]) (y := CA Try.f36 [1]) (by kernel_rfl) ?_
  refine go_pln (id := 0) (ops := RA Try.f36 [0]) [0] (by kernel_rfl) (by kernel_rfl) ?_
  refine plain_batch (rest := []) [⟨0, [], none⟩] (l' := [(2, Value.slice none 0 0), (0, Value.pointer (some ⟨b, 0, none⟩))]) (pts' := []) (eqs := []) (by kernel_rfl) trivial (AllC_nil _) ?_
  change Code.wp _ (CA Try.f36 [1]) _ _ _
  refine fr_cut [(0, Value.pointer (some ⟨b, 0, none⟩)), (2, Value.slice none 0 0)] ⟨rfl, rfl, trivial⟩ (fun a => Code.wp _ _ _ a _) (fun lr1 => ?_)
  refine go_seq (x := CA Try.f36 [1, 0]) (y := CA Try.f36 [1, 1]) (by kernel_rfl) ?_
  refine go_seq (x := CA Try.f36 [1, 0, 0]) (y := CA Try.f36 [1, 0, 1]) (by kernel_rfl) ?_
  refine go_pln (id := 1) (ops := RA Try.f36 [1, 0, 0]) [0, 1, 2] (by kernel_rfl) (by kernel_rfl) ?_
  refine plain_batch (rest := [1, 2]) [⟨0, [], none⟩] (l' := [(3, Value.pointer (some ⟨b, 0, none⟩)), (0, Value.pointer (some ⟨b, 0, none⟩)), (2, Value.slice none 0 0)] ++ lr1) (pts' := []) (eqs := []) (by kernel_rfl) trivial (AllC_nil _) ?_
  refine plain_act (i := 1) (by kernel_rfl) ?_
  refine an_call (d := some 4) (f := 39) (args := [Value.pointer (some ⟨b, 0, none⟩)]) (by kernel_rfl) Try.call39 (valid_ht b _) (F := [R]) h0 ?_
  rintro v K w2 (⟨rfl, rfl⟩) h3
  refine ⟨_, rfl, ?_⟩
  have h4 : sat g w2 [Cl b (stk n A) 57, R] := h3
  refine plain_batch (rest := []) [⟨2, [], none⟩] (l' := [(5, Value.bool false), (4, Value.bool true), (3, Value.pointer (some ⟨b, 0, none⟩)), (0, Value.pointer (some ⟨b, 0, none⟩)), (2, Value.slice none 0 0)] ++ lr1) (pts' := []) (eqs := []) (by kernel_rfl) trivial (AllC_nil _) ?_
  change Code.wp _ (CA Try.f36 [1, 0, 1]) _ _ _
  refine fr_cut [(0, Value.pointer (some ⟨b, 0, none⟩)), (2, Value.slice none 0 0), (5, Value.bool false)] ⟨rfl, rfl, rfl, trivial⟩ (fun a => Code.wp _ _ _ a _) (fun lr5 => ?_)
  refine go_cnd (x := (Operand.tmp 5)) (s := CA Try.f36 [1, 0, 1, 0]) (t := CA Try.f36 [1, 0, 1, 1]) false (by kernel_rfl) (by kernel_rfl) ?_
  change Code.wp _ (CA Try.f36 [1, 0, 1, 1]) _ _ _
  refine go_skp (by kernel_rfl) ?_
  change Code.wp _ (CA Try.f36 [1, 1]) _ _ _
  refine go_seq (x := CA Try.f36 [1, 1, 0]) (y := CA Try.f36 [1, 1, 1]) (by kernel_rfl) ?_
  refine go_drw (id := 3) (ops := RA Try.f36 [1, 1, 0]) (Tr.fl 0 (Tr.fl 1 (Tr.fl 2 (Tr.fl 3 (Tr.fl 4 (Tr.fl 5 (Tr.fl 6 (Tr.fl 7 (Tr.fl 8 Tr.nil))))))))) (by kernel_rfl) (by kernel_rfl) (by kernel_rfl) (by kernel_rfl) (fun _ _ d _ _ h => by cases d <;> exact h) h4 ?_
  intro w6 h7
  refine draw_batch (t := (Tr.fl 7 (Tr.fl 8 Tr.nil))) [⟨0, [], none⟩, ⟨1, [], none⟩, ⟨2, [], none⟩, ⟨3, [], none⟩, ⟨4, [], none⟩, ⟨5, [], none⟩, ⟨6, [Value.int IntKind.i64 (((n : Nat) : Int))], none⟩] (l' := [(12, Value.int IntKind.i64 (((n : Nat) : Int))), (11, Value.pointer (some ⟨b, 1, none⟩)), (10, Value.pointer (some ⟨b, 0, none⟩)), (9, Value.pointer (some ⟨b, 0, none⟩)), (8, Value.pointer (some ⟨b, 2, none⟩)), (7, Value.pointer (some ⟨b, 0, none⟩)), (6, Value.pointer (some ⟨b, 0, none⟩)), (0, Value.pointer (some ⟨b, 0, none⟩)), (2, Value.slice none 0 0), (5, Value.bool false)] ++ lr5) (pts' := [(6, ⟨b, 1, none⟩, Value.int IntKind.i64 (((n : Nat) : Int)))]) (eqs := []) (by kernel_rfl) trivial (AllC_cons (sat_cell h7 0 rfl rfl) (AllC_nil _)) ?_
  refine draw_law (i := 7) 13 (Value.slice (some ⟨b, 2, none⟩) n 32) [] (by kernel_rfl) (fun _ _ => law_sliceArr (o := opA (RA Try.f36 [1, 1, 0]) 7) (x := (Operand.tmp 8)) (lo := none) (hi := (some (Operand.tmp 12))) (b := b) (off := 2) (by kernel_rfl) Try.underlying55 2 (by kernel_rfl) 0 (((n : Nat) : Int)) 0 n (by kernel_rfl) rfl (show fe _ _ (Operand.tmp 12) = _ from by kernel_rfl) (by omega) (by omega) (by omega) (by omega) 2 (by split <;> omega) n 32 (by omega) (by omega) _) (by intro q hq; cases hq) ?_
  refine draw_batch (t := Tr.nil) [⟨8, [], none⟩] (l' := [(2, Value.slice (some ⟨b, 2, none⟩) n 32), (13, Value.slice (some ⟨b, 2, none⟩) n 32), (12, Value.int IntKind.i64 (((n : Nat) : Int))), (11, Value.pointer (some ⟨b, 1, none⟩)), (10, Value.pointer (some ⟨b, 0, none⟩)), (9, Value.pointer (some ⟨b, 0, none⟩)), (8, Value.pointer (some ⟨b, 2, none⟩)), (7, Value.pointer (some ⟨b, 0, none⟩)), (6, Value.pointer (some ⟨b, 0, none⟩)), (0, Value.pointer (some ⟨b, 0, none⟩)), (2, Value.slice none 0 0), (5, Value.bool false)] ++ lr5) (pts' := []) (eqs := []) (by kernel_rfl) trivial (AllC_nil _) ?_
  change Code.wp _ (CA Try.f36 [1, 1, 1]) _ _ _
  refine fr_cut [(0, Value.pointer (some ⟨b, 0, none⟩)), (2, Value.slice (some ⟨b, 2, none⟩) n 32), (5, Value.bool false)] ⟨rfl, rfl, rfl, trivial⟩ (fun a => Code.wp _ _ _ a _) (fun lr8 => ?_)
  refine go_rt (by kernel_rfl) ?_
  repeat (first | simp only [Exit.inBlock] | simp only [Exit.then])
  refine ht_out [] (Value.slice (some ⟨b, 2, none⟩) n 32) [] (by kernel_rfl) (by intro q hq; cases hq) ?_
  exact ⟨Value.slice (some ⟨b, 2, none⟩) n 32, [Cl b (stk n A) 57], rfl, ⟨rfl, rfl⟩, h7⟩

set_option maxHeartbeats 4000000 in
theorem len_ht (b : Nat) (L : List Rf) : HT Try.prog 16 [Value.pointer (some ⟨b, 0, none⟩)] [PStk b L] (fun v K => v = Value.int .i64 L.length ∧ K = [PStk b L]) := by
  refine ht_in 6 [(0, Value.pointer (some ⟨b, 0, none⟩))] Try.func16 (by kernel_rfl) Try.ntmps16 rfl rfl ?_
  intro g w0 R h0
  obtain ⟨T1, hT2, h3⟩ := sat_open (X := List Rf) (p := fun T => (L ++ T).length = 32) (B := fun T => Cl b (stk L.length (L ++ T)) 57) h0 (fun _ hh => hh)
  rw [List.length_append] at hT2
  refine go_seq (x := CA Try.f16 [0]) (y := CA Try.f16 [1]) (by kernel_rfl) ?_
  refine go_pln (id := 0) (ops := RA Try.f16 [0]) [0] (by kernel_rfl) (by kernel_rfl) ?_
  refine plain_batch (rest := []) [⟨0, [], none⟩] (l' := [(2, Value.int IntKind.i64 0), (0, Value.pointer (some ⟨b, 0, none⟩))]) (pts' := []) (eqs := []) (by kernel_rfl) trivial (AllC_nil _) ?_
  change Code.wp _ (CA Try.f16 [1]) _ _ _
  refine fr_cut [(0, Value.pointer (some ⟨b, 0, none⟩)), (2, Value.int IntKind.i64 0)] ⟨rfl, rfl, trivial⟩ (fun a => Code.wp _ _ _ a _) (fun lr4 => ?_)
  refine go_seq (x := CA Try.f16 [1, 0]) (y := CA Try.f16 [1, 1]) (by kernel_rfl) ?_
  refine go_pln (id := 1) (ops := RA Try.f16 [1, 0]) [0, 1, 2, 3] (by kernel_rfl) (by kernel_rfl) ?_
  refine plain_batch (rest := [1, 2, 3]) [⟨0, [], none⟩] (l' := [(3, Value.pointer (some ⟨b, 0, none⟩)), (0, Value.pointer (some ⟨b, 0, none⟩)), (2, Value.int IntKind.i64 0)] ++ lr4) (pts' := []) (eqs := []) (by kernel_rfl) trivial (AllC_nil _) ?_
  refine plain_act (i := 1) (by kernel_rfl) ?_
  refine an_call (d := some 4) (f := 36) (args := [Value.pointer (some ⟨b, 0, none⟩)]) (by kernel_rfl) Try.call36 (used_ht b L.length (L ++ T1) (by omega)) (F := [R]) h3 ?_
  rintro v K w5 (⟨rfl, rfl⟩) h6
  refine ⟨_, rfl, ?_⟩
  have h7 : sat g w5 [Cl b (stk L.length (L ++ T1)) 57, R] := h6
  refine plain_batch (rest := []) [⟨2, [], none⟩, ⟨3, [], none⟩] (l' := [(2, Value.int IntKind.i64 (((L.length : Nat) : Int))), (5, Value.int IntKind.i64 (((L.length : Nat) : Int))), (4, Value.slice (some ⟨b, 2, none⟩) L.length 32), (3, Value.pointer (some ⟨b, 0, none⟩)), (0, Value.pointer (some ⟨b, 0, none⟩)), (2, Value.int IntKind.i64 0)] ++ lr4) (pts' := []) (eqs := []) (by kernel_rfl) trivial (AllC_nil _) ?_
  change Code.wp _ (CA Try.f16 [1, 1]) _ _ _
  refine fr_cut [(0, Value.pointer (some ⟨b, 0, none⟩)), (2, Value.int IntKind.i64 (((L.length : Nat) : Int)))] ⟨rfl, rfl, trivial⟩ (fun a => Code.wp _ _ _ a _) (fun lr8 => ?_)
  refine go_rt (by kernel_rfl) ?_
  have h9 : sat g w5 [PStk b L, R] := sat_imp h7 (fun _ hh => ⟨T1, (by rw [List.length_append]; exact hT2), hh⟩)
  repeat (first | simp only [Exit.inBlock] | simp only [Exit.then])
  refine ht_out [] (Value.int IntKind.i64 (((L.length : Nat) : Int))) [] (by kernel_rfl) (by intro q hq; cases hq) ?_
  exact ⟨Value.int IntKind.i64 (((L.length : Nat) : Int)), [PStk b L], rfl, ⟨rfl, rfl⟩, h9⟩

set_option maxHeartbeats 4000000 in
theorem get_ht (b i : Nat) (L : List Rf) (r : Rf) (hi : i < L.length) (hr : L[i]? = some r) : HT Try.prog 19 [Value.pointer (some ⟨b, 0, none⟩), Value.int IntKind.i64 (((i : Nat) : Int))] [PStk b L] (fun v K => v = Value.tuple #[Value.agg #[Value.int .i64 r.1, Value.int .u32 r.2], Value.int .i64 0] ∧ K = [PStk b L]) := by
  refine ht_in 29 [(0, Value.pointer (some ⟨b, 0, none⟩)), (1, Value.int IntKind.i64 (((i : Nat) : Int)))] Try.func19 (by kernel_rfl) Try.ntmps19 rfl rfl ?_
  intro g w0 R h0
  obtain ⟨T1, hT2, h3⟩ := sat_open (X := List Rf) (p := fun T => (L ++ T).length = 32) (B := fun T => Cl b (stk L.length (L ++ T)) 57) h0 (fun _ hh => hh)
  rw [List.length_append] at hT2
  have hr' : (L ++ T1)[i]? = some r := by rw [List.getElem?_append_left (by omega)]; exact hr
  refine go_seq (x := CA Try.f19 [0]) (y := CA Try.f19 [1]) (by kernel_rfl) ?_
  refine go_pln (id := 0) (ops := RA Try.f19 [0]) [0, 1] (by kernel_rfl) (by kernel_rfl) ?_
  refine plain_act (i := 0) (by kernel_rfl) ?_
  refine an_new (d := 4) (fun xb_ => Value.pointer (some ⟨xb_, 0, none⟩)) (fun xb_ => Obj.cells [Value.int IntKind.i64 0, Value.int IntKind.u32 0].toArray 25 (0, 0)) (fun xb_ => by kernel_rfl) (by kernel_rfl) rfl h3 ?_
  intro r4 w5 (h6 : sat g w5 [Cl r4 [Value.int IntKind.i64 0, Value.int IntKind.u32 0] 25, Cl b (stk L.length (L ++ T1)) 57, R])
  refine plain_batch (rest := []) [⟨1, [], none⟩] (l' := [(5, Value.int IntKind.i64 0), (4, Value.pointer (some ⟨r4, 0, none⟩)), (0, Value.pointer (some ⟨b, 0, none⟩)), (1, Value.int IntKind.i64 (((i : Nat) : Int)))]) (pts' := []) (eqs := []) (by kernel_rfl) trivial (AllC_nil _) ?_
  change Code.wp _ (CA Try.f19 [1]) _ _ _
  refine fr_cut [(0, Value.pointer (some ⟨b, 0, none⟩)), (1, Value.int IntKind.i64 (((i : Nat) : Int))), (4, Value.pointer (some ⟨r4, 0, none⟩)), (5, Value.int IntKind.i64 0)] ⟨rfl, rfl, rfl, rfl, trivial⟩ (fun a => Code.wp _ _ _ a _) (fun lr7 => ?_)
  refine go_seq (x := CA Try.f19 [1, 0]) (y := CA Try.f19 [1, 1]) (by kernel_rfl) ?_
  refine go_blk (id := 0) (x := CA Try.f19 [1, 0, 0]) (by kernel_rfl) ?_
  refine go_seq (x := CA Try.f19 [1, 0, 0, 0]) (y := CA Try.f19 [1, 0, 0, 1]) (by kernel_rfl) ?_
  refine go_pln (id := 1) (ops := RA Try.f19 [1, 0, 0, 0]) [0, 1, 2, 3] (by kernel_rfl) (by kernel_rfl) ?_
  refine plain_batch (rest := [1, 2, 3]) [⟨0, [], none⟩] (l' := [(7, Value.pointer (some ⟨b, 0, none⟩)), (0, Value.pointer (some ⟨b, 0, none⟩)), (1, Value.int IntKind.i64 (((i : Nat) : Int))), (4, Value.pointer (some ⟨r4, 0, none⟩)), (5, Value.int IntKind.i64 0)] ++ lr7) (pts' := []) (eqs := []) (by kernel_rfl) trivial (AllC_nil _) ?_
  have h8 : sat g w5 [Cl b (stk L.length (L ++ T1)) 57, Cl r4 [Value.int IntKind.i64 0, Value.int IntKind.u32 0] 25, R] := sat_sel [1, 0, 2] rfl h6
  refine plain_act (i := 1) (by kernel_rfl) ?_
  refine an_call (d := some 8) (f := 39) (args := [Value.pointer (some ⟨b, 0, none⟩)]) (by kernel_rfl) Try.call39 (valid_ht b _) (F := [Cl r4 [Value.int IntKind.i64 0, Value.int IntKind.u32 0] 25, R]) h8 ?_
  rintro v K w9 (⟨rfl, rfl⟩) h10
  refine ⟨_, rfl, ?_⟩
  have h11 : sat g w9 [Cl b (stk L.length (L ++ T1)) 57, Cl r4 [Value.int IntKind.i64 0, Value.int IntKind.u32 0] 25, R] := h10
  refine plain_batch (rest := []) [⟨2, [], none⟩, ⟨3, [], none⟩] (l' := [(6, Value.bool false), (9, Value.bool false), (8, Value.bool true), (7, Value.pointer (some ⟨b, 0, none⟩)), (0, Value.pointer (some ⟨b, 0, none⟩)), (1, Value.int IntKind.i64 (((i : Nat) : Int))), (4, Value.pointer (some ⟨r4, 0, none⟩)), (5, Value.int IntKind.i64 0)] ++ lr7) (pts' := []) (eqs := []) (by kernel_rfl) trivial (AllC_nil _) ?_
  change Code.wp _ (CA Try.f19 [1, 0, 0, 1]) _ _ _
  refine fr_cut [(0, Value.pointer (some ⟨b, 0, none⟩)), (1, Value.int IntKind.i64 (((i : Nat) : Int))), (4, Value.pointer (some ⟨r4, 0, none⟩)), (5, Value.int IntKind.i64 0), (6, Value.bool false)] ⟨rfl, rfl, rfl, rfl, rfl, trivial⟩ (fun a => Code.wp _ _ _ a _) (fun lr12 => ?_)
  refine go_cnd (x := (Operand.tmp 6)) (s := CA Try.f19 [1, 0, 0, 1, 0]) (t := CA Try.f19 [1, 0, 0, 1, 1]) false (by kernel_rfl) (by kernel_rfl) ?_
  change Code.wp _ (CA Try.f19 [1, 0, 0, 1, 1]) _ _ _
  refine go_seq (x := CA Try.f19 [1, 0, 0, 1, 1, 0]) (y := CA Try.f19 [1, 0, 0, 1, 1, 1]) (by kernel_rfl) ?_
  refine go_pln (id := 3) (ops := RA Try.f19 [1, 0, 0, 1, 1, 0]) [0, 1, 2, 3, 4, 5, 6, 7, 8, 9, 10] (by kernel_rfl) (by kernel_rfl) ?_
  refine plain_batch (rest := []) [⟨0, [], none⟩, ⟨1, [], some (Value.bool false)⟩, ⟨2, [], none⟩, ⟨3, [], none⟩, ⟨4, [], none⟩, ⟨5, [], none⟩, ⟨6, [], none⟩, ⟨7, [Value.int IntKind.i64 (((L.length : Nat) : Int))], none⟩, ⟨8, [], some (Value.bool false)⟩, ⟨9, [], none⟩, ⟨10, [], none⟩] (l' := [(11, Value.bool false), (21, Value.bool false), (20, Value.bool false), (19, Value.int IntKind.i64 (((L.length : Nat) : Int))), (18, Value.pointer (some ⟨b, 1, none⟩)), (17, Value.pointer (some ⟨b, 0, none⟩)), (16, Value.pointer (some ⟨b, 0, none⟩)), (15, Value.int IntKind.i64 (((i : Nat) : Int))), (14, Value.bool false), (13, Value.bool false), (12, Value.int IntKind.i64 (((i : Nat) : Int))), (0, Value.pointer (some ⟨b, 0, none⟩)), (1, Value.int IntKind.i64 (((i : Nat) : Int))), (4, Value.pointer (some ⟨r4, 0, none⟩)), (5, Value.int IntKind.i64 0), (6, Value.bool false)] ++ lr12) (pts' := [(7, ⟨b, 1, none⟩, Value.int IntKind.i64 (((L.length : Nat) : Int)))]) (eqs := [(Value.bool (decide (((i : Nat) : Int) < 0)), Value.bool false), (Value.bool (decide (((i : Nat) : Int) ≥ ((L.length : Nat) : Int))), Value.bool false)]) (by kernel_rfl) ⟨(ov_f (by omega)), (ov_f (by omega)), trivial⟩ (AllC_cons (sat_cell h11 0 rfl rfl) (AllC_nil _)) ?_
  change Code.wp _ (CA Try.f19 [1, 0, 0, 1, 1, 1]) _ _ _
  refine fr_cut [(0, Value.pointer (some ⟨b, 0, none⟩)), (1, Value.int IntKind.i64 (((i : Nat) : Int))), (4, Value.pointer (some ⟨r4, 0, none⟩)), (5, Value.int IntKind.i64 0), (6, Value.bool false), (11, Value.bool false)] ⟨rfl, rfl, rfl, rfl, rfl, rfl, trivial⟩ (fun a => Code.wp _ _ _ a _) (fun lr13 => ?_)
  refine go_cnd (x := (Operand.tmp 11)) (s := CA Try.f19 [1, 0, 0, 1, 1, 1, 0]) (t := CA Try.f19 [1, 0, 0, 1, 1, 1, 1]) false (by kernel_rfl) (by kernel_rfl) ?_
  change Code.wp _ (CA Try.f19 [1, 0, 0, 1, 1, 1, 1]) _ _ _
  refine go_skp (by kernel_rfl) ?_
  change Code.wp _ (CA Try.f19 [1, 1]) _ _ _
  refine go_seq (x := CA Try.f19 [1, 1, 0]) (y := CA Try.f19 [1, 1, 1]) (by kernel_rfl) ?_
  refine go_pln (id := 5) (ops := RA Try.f19 [1, 1, 0]) [0, 1, 2, 3, 4, 5, 6, 7] (by kernel_rfl) (by kernel_rfl) ?_
  refine plain_batch (rest := [4, 5, 6, 7]) [⟨0, [], none⟩, ⟨1, [], none⟩, ⟨2, [], none⟩, ⟨3, [], none⟩] (l' := [(26, Value.pointer (some ⟨b, 2, none⟩)), (25, Value.pointer (some ⟨b, 0, none⟩)), (24, Value.int IntKind.i64 (((i : Nat) : Int))), (23, Value.pointer (some ⟨b, 0, none⟩)), (0, Value.pointer (some ⟨b, 0, none⟩)), (1, Value.int IntKind.i64 (((i : Nat) : Int))), (4, Value.pointer (some ⟨r4, 0, none⟩)), (5, Value.int IntKind.i64 0), (6, Value.bool false), (11, Value.bool false)] ++ lr13) (pts' := []) (eqs := []) (by kernel_rfl) trivial (AllC_nil _) ?_
  refine plain_law (i := 4) 27 (Value.pointer (some ⟨b, i * 2 + 2, none⟩)) (by kernel_rfl) (law_indexArr (o := opA (RA Try.f19 [1, 1, 0]) 4) (x := (Operand.tmp 26)) (i := (Operand.tmp 24)) (b := b) (off := 2) (z := (((i : Nat) : Int))) (by kernel_rfl) Try.underlying55 2 (by kernel_rfl) i (by kernel_rfl) (by kernel_rfl) (by omega) (by omega) (i * 2 + 2) (by omega) _) ?_
  refine plain_batch (rest := [6, 7]) [⟨5, [Value.int IntKind.i64 r.1, Value.int IntKind.u32 r.2], none⟩] (l' := [(28, Value.agg #[Value.int IntKind.i64 r.1, Value.int IntKind.u32 r.2]), (27, Value.pointer (some ⟨b, i * 2 + 2, none⟩)), (26, Value.pointer (some ⟨b, 2, none⟩)), (25, Value.pointer (some ⟨b, 0, none⟩)), (24, Value.int IntKind.i64 (((i : Nat) : Int))), (23, Value.pointer (some ⟨b, 0, none⟩)), (0, Value.pointer (some ⟨b, 0, none⟩)), (1, Value.int IntKind.i64 (((i : Nat) : Int))), (4, Value.pointer (some ⟨r4, 0, none⟩)), (5, Value.int IntKind.i64 0), (6, Value.bool false), (11, Value.bool false)] ++ lr13) (pts' := [(5, ⟨b, i * 2 + 2, none⟩, Value.int IntKind.i64 r.1), (5, ⟨b, i * 2 + 3, none⟩, Value.int IntKind.u32 r.2)]) (eqs := []) (by kernel_rfl) trivial (AllC_cons (sat_cell h11 0 rfl (stk_0 hr')) (AllC_cons (sat_cell h11 0 rfl (stk_1 hr')) (AllC_nil _))) ?_
  have h14 : sat g w9 [Cl r4 [Value.int IntKind.i64 0, Value.int IntKind.u32 0] 25, Cl b (stk L.length (L ++ T1)) 57, R] := sat_sel [1, 0, 2] rfl h11
  refine plain_act (i := 6) (by kernel_rfl) ?_
  refine an_store [(0, Value.int IntKind.i64 r.1), (1, Value.int IntKind.u32 r.2)] (cs' := [Value.int IntKind.i64 r.1, Value.int IntKind.u32 r.2]) (by kernel_rfl) (by kernel_rfl) (allq ⟨⟨by simp, rfl⟩, ⟨by simp, rfl⟩, trivial⟩) rfl h14 ?_
  intro w15 (h16 : sat g w15 [Cl r4 [Value.int IntKind.i64 r.1, Value.int IntKind.u32 r.2] 25, Cl b (stk L.length (L ++ T1)) 57, R])
  refine plain_batch (rest := []) [⟨7, [], none⟩] (l' := [(5, Value.int IntKind.i64 0), (28, Value.agg #[Value.int IntKind.i64 r.1, Value.int IntKind.u32 r.2]), (27, Value.pointer (some ⟨b, i * 2 + 2, none⟩)), (26, Value.pointer (some ⟨b, 2, none⟩)), (25, Value.pointer (some ⟨b, 0, none⟩)), (24, Value.int IntKind.i64 (((i : Nat) : Int))), (23, Value.pointer (some ⟨b, 0, none⟩)), (0, Value.pointer (some ⟨b, 0, none⟩)), (1, Value.int IntKind.i64 (((i : Nat) : Int))), (4, Value.pointer (some ⟨r4, 0, none⟩)), (5, Value.int IntKind.i64 0), (6, Value.bool false), (11, Value.bool false)] ++ lr13) (pts' := []) (eqs := []) (by kernel_rfl) trivial (AllC_nil _) ?_
  change Code.wp _ (CA Try.f19 [1, 1, 1]) _ _ _
  refine fr_cut [(0, Value.pointer (some ⟨b, 0, none⟩)), (1, Value.int IntKind.i64 (((i : Nat) : Int))), (4, Value.pointer (some ⟨r4, 0, none⟩)), (5, Value.int IntKind.i64 0), (6, Value.bool false), (11, Value.bool false)] ⟨rfl, rfl, rfl, rfl, rfl, rfl, trivial⟩ (fun a => Code.wp _ _ _ a _) (fun lr17 => ?_)
  refine go_rt (by kernel_rfl) ?_
  have h18 : sat g w15 [Cl b (stk L.length (L ++ T1)) 57, Cl r4 [Value.int IntKind.i64 r.1, Value.int IntKind.u32 r.2] 25, R] := sat_sel [1, 0, 2] rfl h16
  have h19 : sat g w15 [PStk b L, Cl r4 [Value.int IntKind.i64 r.1, Value.int IntKind.u32 r.2] 25, R] := sat_imp h18 (fun _ hh => ⟨T1, (by rw [List.length_append]; exact hT2), hh⟩)
  repeat (first | simp only [Exit.inBlock] | simp only [Exit.then])
  have h20 : sat g w15 [PStk b L, R] := sat_sel [0, 2] rfl h19
  refine ht_out [Value.int IntKind.i64 r.1, Value.int IntKind.u32 r.2] (Value.tuple #[Value.agg #[Value.int IntKind.i64 r.1, Value.int IntKind.u32 r.2], Value.int IntKind.i64 0]) [(⟨r4, 0, none⟩, Value.int IntKind.i64 r.1), (⟨r4, 1, none⟩, Value.int IntKind.u32 r.2)] (by kernel_rfl) (allq ⟨sat_cell h19 1 rfl rfl, sat_cell h19 1 rfl rfl, trivial⟩) ?_
  exact ⟨Value.tuple #[Value.agg #[Value.int IntKind.i64 r.1, Value.int IntKind.u32 r.2], Value.int IntKind.i64 0], [PStk b L], rfl, ⟨rfl, rfl⟩, h20⟩

set_option maxHeartbeats 4000000 in
theorem push_ht (b : Nat) (L : List Rf) (s gn : Int) (hl : L.length < 32) (h0 : 0 ≤ s) (h1 : s ≤ 255) (h2 : 1 ≤ gn) : HT Try.prog 18 [Value.pointer (some ⟨b, 0, none⟩), Value.agg #[Value.int IntKind.i64 s, Value.int IntKind.u32 gn]] [PStk b L] (fun v K => v = Value.tuple #[Value.int .i64 L.length, Value.int .i64 0] ∧ K = [PStk b (L ++ [(s, gn)])]) := by
  refine ht_in 51 [(0, Value.pointer (some ⟨b, 0, none⟩)), (1, Value.agg #[Value.int IntKind.i64 s, Value.int IntKind.u32 gn])] Try.func18 (by kernel_rfl) Try.ntmps18 rfl rfl ?_
  intro g w0 R h0
  obtain ⟨T1, hT2, h3⟩ := sat_open (X := List Rf) (p := fun T => (L ++ T).length = 32) (B := fun T => Cl b (stk L.length (L ++ T)) 57) h0 (fun _ hh => hh)
  rw [List.length_append] at hT2
  refine go_seq (x := CA Try.f18 [0]) (y := CA Try.f18 [1]) (by kernel_rfl) ?_
  refine go_pln (id := 0) (ops := RA Try.f18 [0]) [0, 1, 2] (by kernel_rfl) (by kernel_rfl) ?_
  refine plain_act (i := 0) (by kernel_rfl) ?_
  refine an_new (d := 3) (fun xb_ => Value.pointer (some ⟨xb_, 0, none⟩)) (fun xb_ => Obj.cells [Value.int IntKind.i64 s, Value.int IntKind.u32 gn].toArray 25 (0, 0)) (fun xb_ => by kernel_rfl) (by kernel_rfl) rfl h3 ?_
  intro r4 w5 (h6 : sat g w5 [Cl r4 [Value.int IntKind.i64 s, Value.int IntKind.u32 gn] 25, Cl b (stk L.length (L ++ T1)) 57, R])
  refine plain_batch (rest := []) [⟨1, [], none⟩, ⟨2, [], none⟩] (l' := [(5, Value.int IntKind.i64 0), (4, Value.int IntKind.i64 0), (3, Value.pointer (some ⟨r4, 0, none⟩)), (0, Value.pointer (some ⟨b, 0, none⟩)), (1, Value.agg #[Value.int IntKind.i64 s, Value.int IntKind.u32 gn])]) (pts' := []) (eqs := []) (by kernel_rfl) trivial (AllC_nil _) ?_
  change Code.wp _ (CA Try.f18 [1]) _ _ _
  refine fr_cut [(0, Value.pointer (some ⟨b, 0, none⟩)), (1, Value.agg #[Value.int IntKind.i64 s, Value.int IntKind.u32 gn]), (3, Value.pointer (some ⟨r4, 0, none⟩)), (4, Value.int IntKind.i64 0), (5, Value.int IntKind.i64 0)] ⟨rfl, rfl, rfl, rfl, rfl, trivial⟩ (fun a => Code.wp _ _ _ a _) (fun lr7 => ?_)
  refine go_seq (x := CA Try.f18 [1, 0]) (y := CA Try.f18 [1, 1]) (by kernel_rfl) ?_
  refine go_blk (id := 0) (x := CA Try.f18 [1, 0, 0]) (by kernel_rfl) ?_
  refine go_seq (x := CA Try.f18 [1, 0, 0, 0]) (y := CA Try.f18 [1, 0, 0, 1]) (by kernel_rfl) ?_
  refine go_pln (id := 1) (ops := RA Try.f18 [1, 0, 0, 0]) [0, 1, 2, 3] (by kernel_rfl) (by kernel_rfl) ?_
  refine plain_batch (rest := [1, 2, 3]) [⟨0, [], none⟩] (l' := [(7, Value.pointer (some ⟨b, 0, none⟩)), (0, Value.pointer (some ⟨b, 0, none⟩)), (1, Value.agg #[Value.int IntKind.i64 s, Value.int IntKind.u32 gn]), (3, Value.pointer (some ⟨r4, 0, none⟩)), (4, Value.int IntKind.i64 0), (5, Value.int IntKind.i64 0)] ++ lr7) (pts' := []) (eqs := []) (by kernel_rfl) trivial (AllC_nil _) ?_
  have h8 : sat g w5 [Cl b (stk L.length (L ++ T1)) 57, Cl r4 [Value.int IntKind.i64 s, Value.int IntKind.u32 gn] 25, R] := sat_sel [1, 0, 2] rfl h6
  refine plain_act (i := 1) (by kernel_rfl) ?_
  refine an_call (d := some 8) (f := 39) (args := [Value.pointer (some ⟨b, 0, none⟩)]) (by kernel_rfl) Try.call39 (valid_ht b _) (F := [Cl r4 [Value.int IntKind.i64 s, Value.int IntKind.u32 gn] 25, R]) h8 ?_
  rintro v K w9 (⟨rfl, rfl⟩) h10
  refine ⟨_, rfl, ?_⟩
  have h11 : sat g w9 [Cl b (stk L.length (L ++ T1)) 57, Cl r4 [Value.int IntKind.i64 s, Value.int IntKind.u32 gn] 25, R] := h10
  refine plain_batch (rest := []) [⟨2, [], none⟩, ⟨3, [], none⟩] (l' := [(6, Value.bool false), (9, Value.bool false), (8, Value.bool true), (7, Value.pointer (some ⟨b, 0, none⟩)), (0, Value.pointer (some ⟨b, 0, none⟩)), (1, Value.agg #[Value.int IntKind.i64 s, Value.int IntKind.u32 gn]), (3, Value.pointer (some ⟨r4, 0, none⟩)), (4, Value.int IntKind.i64 0), (5, Value.int IntKind.i64 0)] ++ lr7) (pts' := []) (eqs := []) (by kernel_rfl) trivial (AllC_nil _) ?_
  change Code.wp _ (CA Try.f18 [1, 0, 0, 1]) _ _ _
  refine fr_cut [(0, Value.pointer (some ⟨b, 0, none⟩)), (1, Value.agg #[Value.int IntKind.i64 s, Value.int IntKind.u32 gn]), (3, Value.pointer (some ⟨r4, 0, none⟩)), (4, Value.int IntKind.i64 0), (5, Value.int IntKind.i64 0), (6, Value.bool false)] ⟨rfl, rfl, rfl, rfl, rfl, rfl, trivial⟩ (fun a => Code.wp _ _ _ a _) (fun lr12 => ?_)
  refine go_cnd (x := (Operand.tmp 6)) (s := CA Try.f18 [1, 0, 0, 1, 0]) (t := CA Try.f18 [1, 0, 0, 1, 1]) false (by kernel_rfl) (by kernel_rfl) ?_
  change Code.wp _ (CA Try.f18 [1, 0, 0, 1, 1]) _ _ _
  refine go_seq (x := CA Try.f18 [1, 0, 0, 1, 1, 0]) (y := CA Try.f18 [1, 0, 0, 1, 1, 1]) (by kernel_rfl) ?_
  refine go_pln (id := 3) (ops := RA Try.f18 [1, 0, 0, 1, 1, 0]) [0, 1, 2, 3, 4, 5, 6, 7, 8, 9, 10, 11, 12, 13] (by kernel_rfl) (by kernel_rfl) ?_
  refine plain_batch (rest := []) [⟨0, [], none⟩, ⟨1, [Value.int IntKind.i64 s], none⟩, ⟨2, [], some (Value.bool false)⟩, ⟨3, [], none⟩, ⟨4, [], none⟩, ⟨5, [Value.int IntKind.i64 s], none⟩, ⟨6, [], some (Value.bool false)⟩, ⟨7, [], none⟩, ⟨8, [], none⟩, ⟨9, [], none⟩, ⟨10, [Value.int IntKind.u32 gn], none⟩, ⟨11, [], some (Value.bool false)⟩, ⟨12, [], none⟩, ⟨13, [], none⟩] (l' := [(10, Value.bool false), (23, Value.bool false), (22, Value.bool false), (21, Value.int IntKind.u32 gn), (20, Value.pointer (some ⟨r4, 1, none⟩)), (19, Value.bool false), (18, Value.bool false), (17, Value.bool false), (16, Value.int IntKind.i64 s), (15, Value.pointer (some ⟨r4, 0, none⟩)), (14, Value.bool false), (13, Value.bool false), (12, Value.int IntKind.i64 s), (11, Value.pointer (some ⟨r4, 0, none⟩)), (0, Value.pointer (some ⟨b, 0, none⟩)), (1, Value.agg #[Value.int IntKind.i64 s, Value.int IntKind.u32 gn]), (3, Value.pointer (some ⟨r4, 0, none⟩)), (4, Value.int IntKind.i64 0), (5, Value.int IntKind.i64 0), (6, Value.bool false)] ++ lr12) (pts' := [(10, ⟨r4, 1, none⟩, Value.int IntKind.u32 gn), (5, ⟨r4, 0, none⟩, Value.int IntKind.i64 s), (1, ⟨r4, 0, none⟩, Value.int IntKind.i64 s)]) (eqs := [(Value.bool (decide (s < 0)), Value.bool false), (Value.bool (decide (s ≥ 256)), Value.bool false), (Value.bool (gn == 0), Value.bool false)]) (by kernel_rfl) ⟨(ov_f (by omega)), (ov_f (by omega)), (ov_ef (by omega)), trivial⟩ (AllC_cons (sat_cell h11 1 rfl rfl) (AllC_cons (sat_cell h11 1 rfl rfl) (AllC_cons (sat_cell h11 1 rfl rfl) (AllC_nil _)))) ?_
  change Code.wp _ (CA Try.f18 [1, 0, 0, 1, 1, 1]) _ _ _
  refine fr_cut [(0, Value.pointer (some ⟨b, 0, none⟩)), (1, Value.agg #[Value.int IntKind.i64 s, Value.int IntKind.u32 gn]), (3, Value.pointer (some ⟨r4, 0, none⟩)), (4, Value.int IntKind.i64 0), (5, Value.int IntKind.i64 0), (6, Value.bool false), (10, Value.bool false)] ⟨rfl, rfl, rfl, rfl, rfl, rfl, rfl, trivial⟩ (fun a => Code.wp _ _ _ a _) (fun lr13 => ?_)
  refine go_cnd (x := (Operand.tmp 10)) (s := CA Try.f18 [1, 0, 0, 1, 1, 1, 0]) (t := CA Try.f18 [1, 0, 0, 1, 1, 1, 1]) false (by kernel_rfl) (by kernel_rfl) ?_
  change Code.wp _ (CA Try.f18 [1, 0, 0, 1, 1, 1, 1]) _ _ _
  refine go_seq (x := CA Try.f18 [1, 0, 0, 1, 1, 1, 1, 0]) (y := CA Try.f18 [1, 0, 0, 1, 1, 1, 1, 1]) (by kernel_rfl) ?_
  refine go_pln (id := 5) (ops := RA Try.f18 [1, 0, 0, 1, 1, 1, 1, 0]) [0, 1, 2, 3, 4, 5] (by kernel_rfl) (by kernel_rfl) ?_
  refine plain_batch (rest := []) [⟨0, [], none⟩, ⟨1, [], none⟩, ⟨2, [], none⟩, ⟨3, [Value.int IntKind.i64 (((L.length : Nat) : Int))], none⟩, ⟨4, [], some (Value.bool false)⟩, ⟨5, [], none⟩] (l' := [(24, Value.bool false), (29, Value.bool false), (28, Value.int IntKind.i64 (((L.length : Nat) : Int))), (27, Value.pointer (some ⟨b, 1, none⟩)), (26, Value.pointer (some ⟨b, 0, none⟩)), (25, Value.pointer (some ⟨b, 0, none⟩)), (0, Value.pointer (some ⟨b, 0, none⟩)), (1, Value.agg #[Value.int IntKind.i64 s, Value.int IntKind.u32 gn]), (3, Value.pointer (some ⟨r4, 0, none⟩)), (4, Value.int IntKind.i64 0), (5, Value.int IntKind.i64 0), (6, Value.bool false), (10, Value.bool false)] ++ lr13) (pts' := [(3, ⟨b, 1, none⟩, Value.int IntKind.i64 (((L.length : Nat) : Int)))]) (eqs := [(Value.bool ((((L.length : Nat) : Int)) == 32), Value.bool false)]) (by kernel_rfl) ⟨(ov_ef (by omega)), trivial⟩ (AllC_cons (sat_cell h11 0 rfl rfl) (AllC_nil _)) ?_
  change Code.wp _ (CA Try.f18 [1, 0, 0, 1, 1, 1, 1, 1]) _ _ _
  refine fr_cut [(0, Value.pointer (some ⟨b, 0, none⟩)), (1, Value.agg #[Value.int IntKind.i64 s, Value.int IntKind.u32 gn]), (3, Value.pointer (some ⟨r4, 0, none⟩)), (4, Value.int IntKind.i64 0), (5, Value.int IntKind.i64 0), (6, Value.bool false), (10, Value.bool false), (24, Value.bool false)] ⟨rfl, rfl, rfl, rfl, rfl, rfl, rfl, rfl, trivial⟩ (fun a => Code.wp _ _ _ a _) (fun lr14 => ?_)
  refine go_cnd (x := (Operand.tmp 24)) (s := CA Try.f18 [1, 0, 0, 1, 1, 1, 1, 1, 0]) (t := CA Try.f18 [1, 0, 0, 1, 1, 1, 1, 1, 1]) false (by kernel_rfl) (by kernel_rfl) ?_
  change Code.wp _ (CA Try.f18 [1, 0, 0, 1, 1, 1, 1, 1, 1]) _ _ _
  refine go_skp (by kernel_rfl) ?_
  change Code.wp _ (CA Try.f18 [1, 1]) _ _ _
  refine go_seq (x := CA Try.f18 [1, 1, 0]) (y := CA Try.f18 [1, 1, 1]) (by kernel_rfl) ?_
  refine go_drw (id := 7) (ops := RA Try.f18 [1, 1, 0]) (Tr.fl 0 (Tr.fl 1 (Tr.fl 2 (Tr.fl 3 (Tr.fl 4 (Tr.fl 5 (Tr.fl 6 (Tr.fl 7 (Tr.fl 8 (Tr.an 9 Tr.nil)))))))))) (by kernel_rfl) (by kernel_rfl) (by kernel_rfl) (by kernel_rfl) (fun _ _ d _ _ h => by cases d <;> exact h) h11 ?_
  intro w15 h16
  refine draw_batch (t := (Tr.fl 8 (Tr.an 9 Tr.nil))) [⟨0, [], none⟩, ⟨1, [], none⟩, ⟨2, [], none⟩, ⟨3, [], none⟩, ⟨4, [Value.int IntKind.i64 (((L.length : Nat) : Int))], none⟩, ⟨5, [Value.int IntKind.i64 s, Value.int IntKind.u32 gn], none⟩, ⟨6, [], none⟩, ⟨7, [], none⟩] (l' := [(37, Value.pointer (some ⟨b, 2, none⟩)), (36, Value.pointer (some ⟨b, 0, none⟩)), (35, Value.agg #[Value.int IntKind.i64 s, Value.int IntKind.u32 gn]), (34, Value.int IntKind.i64 (((L.length : Nat) : Int))), (33, Value.pointer (some ⟨b, 1, none⟩)), (32, Value.pointer (some ⟨b, 0, none⟩)), (31, Value.pointer (some ⟨b, 0, none⟩)), (30, Value.pointer (some ⟨b, 0, none⟩)), (0, Value.pointer (some ⟨b, 0, none⟩)), (1, Value.agg #[Value.int IntKind.i64 s, Value.int IntKind.u32 gn]), (3, Value.pointer (some ⟨r4, 0, none⟩)), (4, Value.int IntKind.i64 0), (5, Value.int IntKind.i64 0), (6, Value.bool false), (10, Value.bool false), (24, Value.bool false)] ++ lr14) (pts' := [(5, ⟨r4, 0, none⟩, Value.int IntKind.i64 s), (5, ⟨r4, 1, none⟩, Value.int IntKind.u32 gn), (4, ⟨b, 1, none⟩, Value.int IntKind.i64 (((L.length : Nat) : Int)))]) (eqs := []) (by kernel_rfl) trivial (AllC_cons (sat_cell h16 1 rfl rfl) (AllC_cons (sat_cell h16 1 rfl rfl) (AllC_cons (sat_cell h16 0 rfl rfl) (AllC_nil _)))) ?_
  refine draw_law (i := 8) 38 (Value.pointer (some ⟨b, L.length * 2 + 2, none⟩)) [] (by kernel_rfl) (fun _ _ => law_indexArr (o := opA (RA Try.f18 [1, 1, 0]) 8) (x := (Operand.tmp 37)) (i := (Operand.tmp 34)) (b := b) (off := 2) (z := (((L.length : Nat) : Int))) (by kernel_rfl) Try.underlying55 2 (by kernel_rfl) L.length (by kernel_rfl) (by kernel_rfl) (by omega) (by omega) (L.length * 2 + 2) (by omega) _) (by intro q hq; cases hq) ?_
  refine draw_act (i := 9) [] (by kernel_rfl) (by kernel_rfl) ?_
  refine an_store [(L.length * 2 + 2, Value.int IntKind.i64 s), (L.length * 2 + 3, Value.int IntKind.u32 gn)] (cs' := (stk L.length ((L ++ T1).set L.length (s, gn)))) (by kernel_rfl) (by kernel_rfl) (allq ⟨⟨by rw [stk_len]; simp only [List.length_append]; omega, rfl⟩, ⟨by rw [stk_len]; simp only [List.length_append]; omega, rfl⟩, trivial⟩) (stk_put _ L.length _ (s, gn)) h16 ?_
  intro w17 (h18 : sat g w17 [Cl b (stk L.length ((L ++ T1).set L.length (s, gn))) 57, Cl r4 [Value.int IntKind.i64 s, Value.int IntKind.u32 gn] 25, R])
  refine ⟨(AllC_nil _), ?_⟩
  change Code.wp _ (CA Try.f18 [1, 1, 1]) _ _ _
  refine fr_cut [(0, Value.pointer (some ⟨b, 0, none⟩)), (1, Value.agg #[Value.int IntKind.i64 s, Value.int IntKind.u32 gn]), (3, Value.pointer (some ⟨r4, 0, none⟩)), (4, Value.int IntKind.i64 0), (5, Value.int IntKind.i64 0), (6, Value.bool false), (10, Value.bool false), (24, Value.bool false)] ⟨rfl, rfl, rfl, rfl, rfl, rfl, rfl, rfl, trivial⟩ (fun a => Code.wp _ _ _ a _) (fun lr19 => ?_)
  refine go_seq (x := CA Try.f18 [1, 1, 1, 0]) (y := CA Try.f18 [1, 1, 1, 1]) (by kernel_rfl) ?_
  refine go_pln (id := 8) (ops := RA Try.f18 [1, 1, 1, 0]) [0, 1, 2, 3, 4, 5, 6, 7] (by kernel_rfl) (by kernel_rfl) ?_
  refine plain_batch (rest := [7]) [⟨0, [], none⟩, ⟨1, [], none⟩, ⟨2, [], none⟩, ⟨3, [Value.int IntKind.i64 (((L.length : Nat) : Int))], none⟩, ⟨4, [], some (Value.int IntKind.i64 (((L.length : Nat) : Int) + 1))⟩, ⟨5, [], none⟩, ⟨6, [], none⟩] (l' := [(45, Value.pointer (some ⟨b, 1, none⟩)), (44, Value.pointer (some ⟨b, 0, none⟩)), (43, Value.int IntKind.i64 (((L.length : Nat) : Int) + 1)), (42, Value.int IntKind.i64 (((L.length : Nat) : Int))), (41, Value.pointer (some ⟨b, 1, none⟩)), (40, Value.pointer (some ⟨b, 0, none⟩)), (39, Value.pointer (some ⟨b, 0, none⟩)), (0, Value.pointer (some ⟨b, 0, none⟩)), (1, Value.agg #[Value.int IntKind.i64 s, Value.int IntKind.u32 gn]), (3, Value.pointer (some ⟨r4, 0, none⟩)), (4, Value.int IntKind.i64 0), (5, Value.int IntKind.i64 0), (6, Value.bool false), (10, Value.bool false), (24, Value.bool false)] ++ lr19) (pts' := [(3, ⟨b, 1, none⟩, Value.int IntKind.i64 (((L.length : Nat) : Int)))]) (eqs := [(Value.int IntKind.i64 (IntKind.wrap IntKind.i64 ((((L.length : Nat) : Int)) + 1)), Value.int IntKind.i64 (((L.length : Nat) : Int) + 1))]) (by kernel_rfl) ⟨(ov_i64 (by omega) (by omega) (by omega)), trivial⟩ (AllC_cons (sat_cell h18 0 rfl rfl) (AllC_nil _)) ?_
  refine plain_act (i := 7) (by kernel_rfl) ?_
  refine an_store [(1, Value.int IntKind.i64 (((L.length : Nat) : Int) + 1))] (cs' := (stk (L.length + 1) ((L ++ T1).set L.length (s, gn)))) (by kernel_rfl) (by kernel_rfl) (allq ⟨⟨by rw [stk_len]; omega, rfl⟩, trivial⟩) (stk_num _ (L.length + 1) _ _ (by omega)) h18 ?_
  intro w20 (h21 : sat g w20 [Cl b (stk (L.length + 1) ((L ++ T1).set L.length (s, gn))) 57, Cl r4 [Value.int IntKind.i64 s, Value.int IntKind.u32 gn] 25, R])
  change Code.wp _ (CA Try.f18 [1, 1, 1, 1]) _ _ _
  refine fr_cut [(0, Value.pointer (some ⟨b, 0, none⟩)), (1, Value.agg #[Value.int IntKind.i64 s, Value.int IntKind.u32 gn]), (3, Value.pointer (some ⟨r4, 0, none⟩)), (4, Value.int IntKind.i64 0), (5, Value.int IntKind.i64 0), (6, Value.bool false), (10, Value.bool false), (24, Value.bool false)] ⟨rfl, rfl, rfl, rfl, rfl, rfl, rfl, rfl, trivial⟩ (fun a => Code.wp _ _ _ a _) (fun lr22 => ?_)
  refine go_seq (x := CA Try.f18 [1, 1, 1, 1, 0]) (y := CA Try.f18 [1, 1, 1, 1, 1]) (by kernel_rfl) ?_
  refine go_pln (id := 9) (ops := RA Try.f18 [1, 1, 1, 1, 0]) [0, 1, 2, 3, 4, 5, 6] (by kernel_rfl) (by kernel_rfl) ?_
  refine plain_batch (rest := []) [⟨0, [], none⟩, ⟨1, [], none⟩, ⟨2, [], none⟩, ⟨3, [Value.int IntKind.i64 (((L.length : Nat) : Int) + 1)], none⟩, ⟨4, [], some (Value.int IntKind.i64 (((L.length : Nat) : Int)))⟩, ⟨5, [], none⟩, ⟨6, [], none⟩] (l' := [(5, Value.int IntKind.i64 0), (4, Value.int IntKind.i64 (((L.length : Nat) : Int))), (50, Value.int IntKind.i64 (((L.length : Nat) : Int))), (49, Value.int IntKind.i64 (((L.length : Nat) : Int) + 1)), (48, Value.pointer (some ⟨b, 1, none⟩)), (47, Value.pointer (some ⟨b, 0, none⟩)), (46, Value.pointer (some ⟨b, 0, none⟩)), (0, Value.pointer (some ⟨b, 0, none⟩)), (1, Value.agg #[Value.int IntKind.i64 s, Value.int IntKind.u32 gn]), (3, Value.pointer (some ⟨r4, 0, none⟩)), (4, Value.int IntKind.i64 0), (5, Value.int IntKind.i64 0), (6, Value.bool false), (10, Value.bool false), (24, Value.bool false)] ++ lr22) (pts' := [(3, ⟨b, 1, none⟩, Value.int IntKind.i64 (((L.length : Nat) : Int) + 1))]) (eqs := [(Value.int IntKind.i64 (IntKind.wrap IntKind.i64 ((((L.length : Nat) : Int) + 1) - 1)), Value.int IntKind.i64 (((L.length : Nat) : Int)))]) (by kernel_rfl) ⟨(ov_i64 (by omega) (by omega) (by omega)), trivial⟩ (AllC_cons (sat_cell h21 0 rfl rfl) (AllC_nil _)) ?_
  change Code.wp _ (CA Try.f18 [1, 1, 1, 1, 1]) _ _ _
  refine fr_cut [(0, Value.pointer (some ⟨b, 0, none⟩)), (1, Value.agg #[Value.int IntKind.i64 s, Value.int IntKind.u32 gn]), (3, Value.pointer (some ⟨r4, 0, none⟩)), (4, Value.int IntKind.i64 (((L.length : Nat) : Int))), (5, Value.int IntKind.i64 0), (6, Value.bool false), (10, Value.bool false), (24, Value.bool false)] ⟨rfl, rfl, rfl, rfl, rfl, rfl, rfl, rfl, trivial⟩ (fun a => Code.wp _ _ _ a _) (fun lr23 => ?_)
  refine go_rt (by kernel_rfl) ?_
  have h24 : sat g w20 [PStk b (L ++ [(s, gn)]), Cl r4 [Value.int IntKind.i64 s, Value.int IntKind.u32 gn] 25, R] := sat_imp h21 (fun _ hh => ⟨T1.drop 1, by simp only [List.length_append, List.length_drop, List.length_cons, List.length_nil]; omega, by rw [set_at L T1 _ (by omega)] at hh; simpa only [List.length_append, List.length_cons, List.length_nil] using hh⟩)
  repeat (first | simp only [Exit.inBlock] | simp only [Exit.then])
  have h25 : sat g w20 [PStk b (L ++ [(s, gn)]), R] := sat_sel [0, 2] rfl h24
  refine ht_out [] (Value.tuple #[Value.int IntKind.i64 (((L.length : Nat) : Int)), Value.int IntKind.i64 0]) [] (by kernel_rfl) (by intro q hq; cases hq) ?_
  exact ⟨Value.tuple #[Value.int IntKind.i64 (((L.length : Nat) : Int)), Value.int IntKind.i64 0], [PStk b (L ++ [(s, gn)])], rfl, ⟨rfl, rfl⟩, h25⟩

set_option maxHeartbeats 4000000 in
theorem push_full (b : Nat) (L : List Rf) (s gn : Int) (hl : L.length = 32) (h0 : 0 ≤ s) (h1 : s ≤ 255) (h2 : 1 ≤ gn) : HT Try.prog 18 [Value.pointer (some ⟨b, 0, none⟩), Value.agg #[Value.int IntKind.i64 s, Value.int IntKind.u32 gn]] [PStk b L] (fun v K => v = Value.tuple #[Value.int .i64 0, Value.int .i64 4] ∧ K = [PStk b L]) := by
  refine ht_in 51 [(0, Value.pointer (some ⟨b, 0, none⟩)), (1, Value.agg #[Value.int IntKind.i64 s, Value.int IntKind.u32 gn])] Try.func18 (by kernel_rfl) Try.ntmps18 rfl rfl ?_
  intro g w0 R h0
  obtain ⟨T1, hT2, h3⟩ := sat_open (X := List Rf) (p := fun T => (L ++ T).length = 32) (B := fun T => Cl b (stk L.length (L ++ T)) 57) h0 (fun _ hh => hh)
  rw [List.length_append] at hT2
  refine go_seq (x := CA Try.f18 [0]) (y := CA Try.f18 [1]) (by kernel_rfl) ?_
  refine go_pln (id := 0) (ops := RA Try.f18 [0]) [0, 1, 2] (by kernel_rfl) (by kernel_rfl) ?_
  refine plain_act (i := 0) (by kernel_rfl) ?_
  refine an_new (d := 3) (fun xb_ => Value.pointer (some ⟨xb_, 0, none⟩)) (fun xb_ => Obj.cells [Value.int IntKind.i64 s, Value.int IntKind.u32 gn].toArray 25 (0, 0)) (fun xb_ => by kernel_rfl) (by kernel_rfl) rfl h3 ?_
  intro r4 w5 (h6 : sat g w5 [Cl r4 [Value.int IntKind.i64 s, Value.int IntKind.u32 gn] 25, Cl b (stk L.length (L ++ T1)) 57, R])
  refine plain_batch (rest := []) [⟨1, [], none⟩, ⟨2, [], none⟩] (l' := [(5, Value.int IntKind.i64 0), (4, Value.int IntKind.i64 0), (3, Value.pointer (some ⟨r4, 0, none⟩)), (0, Value.pointer (some ⟨b, 0, none⟩)), (1, Value.agg #[Value.int IntKind.i64 s, Value.int IntKind.u32 gn])]) (pts' := []) (eqs := []) (by kernel_rfl) trivial (AllC_nil _) ?_
  change Code.wp _ (CA Try.f18 [1]) _ _ _
  refine fr_cut [(0, Value.pointer (some ⟨b, 0, none⟩)), (1, Value.agg #[Value.int IntKind.i64 s, Value.int IntKind.u32 gn]), (3, Value.pointer (some ⟨r4, 0, none⟩)), (4, Value.int IntKind.i64 0), (5, Value.int IntKind.i64 0)] ⟨rfl, rfl, rfl, rfl, rfl, trivial⟩ (fun a => Code.wp _ _ _ a _) (fun lr7 => ?_)
  refine go_seq (x := CA Try.f18 [1, 0]) (y := CA Try.f18 [1, 1]) (by kernel_rfl) ?_
  refine go_blk (id := 0) (x := CA Try.f18 [1, 0, 0]) (by kernel_rfl) ?_
  refine go_seq (x := CA Try.f18 [1, 0, 0, 0]) (y := CA Try.f18 [1, 0, 0, 1]) (by kernel_rfl) ?_
  refine go_pln (id := 1) (ops := RA Try.f18 [1, 0, 0, 0]) [0, 1, 2, 3] (by kernel_rfl) (by kernel_rfl) ?_
  refine plain_batch (rest := [1, 2, 3]) [⟨0, [], none⟩] (l' := [(7, Value.pointer (some ⟨b, 0, none⟩)), (0, Value.pointer (some ⟨b, 0, none⟩)), (1, Value.agg #[Value.int IntKind.i64 s, Value.int IntKind.u32 gn]), (3, Value.pointer (some ⟨r4, 0, none⟩)), (4, Value.int IntKind.i64 0), (5, Value.int IntKind.i64 0)] ++ lr7) (pts' := []) (eqs := []) (by kernel_rfl) trivial (AllC_nil _) ?_
  have h8 : sat g w5 [Cl b (stk L.length (L ++ T1)) 57, Cl r4 [Value.int IntKind.i64 s, Value.int IntKind.u32 gn] 25, R] := sat_sel [1, 0, 2] rfl h6
  refine plain_act (i := 1) (by kernel_rfl) ?_
  refine an_call (d := some 8) (f := 39) (args := [Value.pointer (some ⟨b, 0, none⟩)]) (by kernel_rfl) Try.call39 (valid_ht b _) (F := [Cl r4 [Value.int IntKind.i64 s, Value.int IntKind.u32 gn] 25, R]) h8 ?_
  rintro v K w9 (⟨rfl, rfl⟩) h10
  refine ⟨_, rfl, ?_⟩
  have h11 : sat g w9 [Cl b (stk L.length (L ++ T1)) 57, Cl r4 [Value.int IntKind.i64 s, Value.int IntKind.u32 gn] 25, R] := h10
  refine plain_batch (rest := []) [⟨2, [], none⟩, ⟨3, [], none⟩] (l' := [(6, Value.bool false), (9, Value.bool false), (8, Value.bool true), (7, Value.pointer (some ⟨b, 0, none⟩)), (0, Value.pointer (some ⟨b, 0, none⟩)), (1, Value.agg #[Value.int IntKind.i64 s, Value.int IntKind.u32 gn]), (3, Value.pointer (some ⟨r4, 0, none⟩)), (4, Value.int IntKind.i64 0), (5, Value.int IntKind.i64 0)] ++ lr7) (pts' := []) (eqs := []) (by kernel_rfl) trivial (AllC_nil _) ?_
  change Code.wp _ (CA Try.f18 [1, 0, 0, 1]) _ _ _
  refine fr_cut [(0, Value.pointer (some ⟨b, 0, none⟩)), (1, Value.agg #[Value.int IntKind.i64 s, Value.int IntKind.u32 gn]), (3, Value.pointer (some ⟨r4, 0, none⟩)), (4, Value.int IntKind.i64 0), (5, Value.int IntKind.i64 0), (6, Value.bool false)] ⟨rfl, rfl, rfl, rfl, rfl, rfl, trivial⟩ (fun a => Code.wp _ _ _ a _) (fun lr12 => ?_)
  refine go_cnd (x := (Operand.tmp 6)) (s := CA Try.f18 [1, 0, 0, 1, 0]) (t := CA Try.f18 [1, 0, 0, 1, 1]) false (by kernel_rfl) (by kernel_rfl) ?_
  change Code.wp _ (CA Try.f18 [1, 0, 0, 1, 1]) _ _ _
  refine go_seq (x := CA Try.f18 [1, 0, 0, 1, 1, 0]) (y := CA Try.f18 [1, 0, 0, 1, 1, 1]) (by kernel_rfl) ?_
  refine go_pln (id := 3) (ops := RA Try.f18 [1, 0, 0, 1, 1, 0]) [0, 1, 2, 3, 4, 5, 6, 7, 8, 9, 10, 11, 12, 13] (by kernel_rfl) (by kernel_rfl) ?_
  refine plain_batch (rest := []) [⟨0, [], none⟩, ⟨1, [Value.int IntKind.i64 s], none⟩, ⟨2, [], some (Value.bool false)⟩, ⟨3, [], none⟩, ⟨4, [], none⟩, ⟨5, [Value.int IntKind.i64 s], none⟩, ⟨6, [], some (Value.bool false)⟩, ⟨7, [], none⟩, ⟨8, [], none⟩, ⟨9, [], none⟩, ⟨10, [Value.int IntKind.u32 gn], none⟩, ⟨11, [], some (Value.bool false)⟩, ⟨12, [], none⟩, ⟨13, [], none⟩] (l' := [(10, Value.bool false), (23, Value.bool false), (22, Value.bool false), (21, Value.int IntKind.u32 gn), (20, Value.pointer (some ⟨r4, 1, none⟩)), (19, Value.bool false), (18, Value.bool false), (17, Value.bool false), (16, Value.int IntKind.i64 s), (15, Value.pointer (some ⟨r4, 0, none⟩)), (14, Value.bool false), (13, Value.bool false), (12, Value.int IntKind.i64 s), (11, Value.pointer (some ⟨r4, 0, none⟩)), (0, Value.pointer (some ⟨b, 0, none⟩)), (1, Value.agg #[Value.int IntKind.i64 s, Value.int IntKind.u32 gn]), (3, Value.pointer (some ⟨r4, 0, none⟩)), (4, Value.int IntKind.i64 0), (5, Value.int IntKind.i64 0), (6, Value.bool false)] ++ lr12) (pts' := [(10, ⟨r4, 1, none⟩, Value.int IntKind.u32 gn), (5, ⟨r4, 0, none⟩, Value.int IntKind.i64 s), (1, ⟨r4, 0, none⟩, Value.int IntKind.i64 s)]) (eqs := [(Value.bool (decide (s < 0)), Value.bool false), (Value.bool (decide (s ≥ 256)), Value.bool false), (Value.bool (gn == 0), Value.bool false)]) (by kernel_rfl) ⟨(ov_f (by omega)), (ov_f (by omega)), (ov_ef (by omega)), trivial⟩ (AllC_cons (sat_cell h11 1 rfl rfl) (AllC_cons (sat_cell h11 1 rfl rfl) (AllC_cons (sat_cell h11 1 rfl rfl) (AllC_nil _)))) ?_
  change Code.wp _ (CA Try.f18 [1, 0, 0, 1, 1, 1]) _ _ _
  refine fr_cut [(0, Value.pointer (some ⟨b, 0, none⟩)), (1, Value.agg #[Value.int IntKind.i64 s, Value.int IntKind.u32 gn]), (3, Value.pointer (some ⟨r4, 0, none⟩)), (4, Value.int IntKind.i64 0), (5, Value.int IntKind.i64 0), (6, Value.bool false), (10, Value.bool false)] ⟨rfl, rfl, rfl, rfl, rfl, rfl, rfl, trivial⟩ (fun a => Code.wp _ _ _ a _) (fun lr13 => ?_)
  refine go_cnd (x := (Operand.tmp 10)) (s := CA Try.f18 [1, 0, 0, 1, 1, 1, 0]) (t := CA Try.f18 [1, 0, 0, 1, 1, 1, 1]) false (by kernel_rfl) (by kernel_rfl) ?_
  change Code.wp _ (CA Try.f18 [1, 0, 0, 1, 1, 1, 1]) _ _ _
  refine go_seq (x := CA Try.f18 [1, 0, 0, 1, 1, 1, 1, 0]) (y := CA Try.f18 [1, 0, 0, 1, 1, 1, 1, 1]) (by kernel_rfl) ?_
  refine go_pln (id := 5) (ops := RA Try.f18 [1, 0, 0, 1, 1, 1, 1, 0]) [0, 1, 2, 3, 4, 5] (by kernel_rfl) (by kernel_rfl) ?_
  refine plain_batch (rest := []) [⟨0, [], none⟩, ⟨1, [], none⟩, ⟨2, [], none⟩, ⟨3, [Value.int IntKind.i64 (((L.length : Nat) : Int))], none⟩, ⟨4, [], some (Value.bool true)⟩, ⟨5, [], none⟩] (l' := [(24, Value.bool true), (29, Value.bool true), (28, Value.int IntKind.i64 (((L.length : Nat) : Int))), (27, Value.pointer (some ⟨b, 1, none⟩)), (26, Value.pointer (some ⟨b, 0, none⟩)), (25, Value.pointer (some ⟨b, 0, none⟩)), (0, Value.pointer (some ⟨b, 0, none⟩)), (1, Value.agg #[Value.int IntKind.i64 s, Value.int IntKind.u32 gn]), (3, Value.pointer (some ⟨r4, 0, none⟩)), (4, Value.int IntKind.i64 0), (5, Value.int IntKind.i64 0), (6, Value.bool false), (10, Value.bool false)] ++ lr13) (pts' := [(3, ⟨b, 1, none⟩, Value.int IntKind.i64 (((L.length : Nat) : Int)))]) (eqs := [(Value.bool ((((L.length : Nat) : Int)) == 32), Value.bool true)]) (by kernel_rfl) ⟨(ov_et (by omega)), trivial⟩ (AllC_cons (sat_cell h11 0 rfl rfl) (AllC_nil _)) ?_
  change Code.wp _ (CA Try.f18 [1, 0, 0, 1, 1, 1, 1, 1]) _ _ _
  refine fr_cut [(0, Value.pointer (some ⟨b, 0, none⟩)), (1, Value.agg #[Value.int IntKind.i64 s, Value.int IntKind.u32 gn]), (3, Value.pointer (some ⟨r4, 0, none⟩)), (4, Value.int IntKind.i64 0), (5, Value.int IntKind.i64 0), (6, Value.bool false), (10, Value.bool false), (24, Value.bool true)] ⟨rfl, rfl, rfl, rfl, rfl, rfl, rfl, rfl, trivial⟩ (fun a => Code.wp _ _ _ a _) (fun lr14 => ?_)
  refine go_cnd (x := (Operand.tmp 24)) (s := CA Try.f18 [1, 0, 0, 1, 1, 1, 1, 1, 0]) (t := CA Try.f18 [1, 0, 0, 1, 1, 1, 1, 1, 1]) true (by kernel_rfl) (by kernel_rfl) ?_
  change Code.wp _ (CA Try.f18 [1, 0, 0, 1, 1, 1, 1, 1, 0]) _ _ _
  refine go_seq (x := CA Try.f18 [1, 0, 0, 1, 1, 1, 1, 1, 0, 0]) (y := CA Try.f18 [1, 0, 0, 1, 1, 1, 1, 1, 0, 1]) (by kernel_rfl) ?_
  refine go_pln (id := 6) (ops := RA Try.f18 [1, 0, 0, 1, 1, 1, 1, 1, 0, 0]) [0, 1] (by kernel_rfl) (by kernel_rfl) ?_
  refine plain_batch (rest := []) [⟨0, [], none⟩, ⟨1, [], none⟩] (l' := [(5, Value.int IntKind.i64 4), (4, Value.int IntKind.i64 0), (0, Value.pointer (some ⟨b, 0, none⟩)), (1, Value.agg #[Value.int IntKind.i64 s, Value.int IntKind.u32 gn]), (3, Value.pointer (some ⟨r4, 0, none⟩)), (4, Value.int IntKind.i64 0), (5, Value.int IntKind.i64 0), (6, Value.bool false), (10, Value.bool false), (24, Value.bool true)] ++ lr14) (pts' := []) (eqs := []) (by kernel_rfl) trivial (AllC_nil _) ?_
  change Code.wp _ (CA Try.f18 [1, 0, 0, 1, 1, 1, 1, 1, 0, 1]) _ _ _
  refine fr_cut [(0, Value.pointer (some ⟨b, 0, none⟩)), (1, Value.agg #[Value.int IntKind.i64 s, Value.int IntKind.u32 gn]), (3, Value.pointer (some ⟨r4, 0, none⟩)), (4, Value.int IntKind.i64 0), (5, Value.int IntKind.i64 4), (6, Value.bool false), (10, Value.bool false), (24, Value.bool true)] ⟨rfl, rfl, rfl, rfl, rfl, rfl, rfl, rfl, trivial⟩ (fun a => Code.wp _ _ _ a _) (fun lr15 => ?_)
  refine go_rt (by kernel_rfl) ?_
  have h16 : sat g w9 [PStk b L, Cl r4 [Value.int IntKind.i64 s, Value.int IntKind.u32 gn] 25, R] := sat_imp h11 (fun _ hh => ⟨T1, (by rw [List.length_append]; exact hT2), hh⟩)
  repeat (first | simp only [Exit.inBlock] | simp only [Exit.then])
  have h17 : sat g w9 [PStk b L, R] := sat_sel [0, 2] rfl h16
  refine ht_out [] (Value.tuple #[Value.int IntKind.i64 0, Value.int IntKind.i64 4]) [] (by kernel_rfl) (by intro q hq; cases hq) ?_
  exact ⟨Value.tuple #[Value.int IntKind.i64 0, Value.int IntKind.i64 4], [PStk b L], rfl, ⟨rfl, rfl⟩, h17⟩

end Go.Proofs.Ytafencnieimpnaa
