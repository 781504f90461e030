/- Walks, printed by my generator ../fds/gen2.py. -/
import Derived.Test.YtjjpmehiolejgaaF1
namespace Go.Proofs.Ytjjpmehiolejgaa
theorem seq110_neq_t {n : Nat} {l : Fr} {o : Oper} {x y : Operand} (a0 : Int) (a1 : Int) (c0 : Int) (c1 : Int) (ho : o.op = .binOp .neq 110 x y 110) (hx : fe n l x = .agg #[.int .i64 a0, .int .u32 a1]) (hy : fe n l y = .agg #[.int .i64 c0, .int .u32 c1]) (h : a0 = c0 ∧ a1 = c1) (w : World) : (execOp (fe n l) o).run Try.prog w = .ok (.value (.bool false)) w := by
  obtain ⟨rfl, rfl⟩ := h
  simp [execOp, ho, hx, hy, go_sem]
set_option maxHeartbeats 4000000 in
theorem svalid_ht (b n : Nat) (A : List Sl2) : HT Try.prog 69 [Value.pointer (some ⟨b, 0, none⟩)] [Tb b n A] (fun v K => v = Value.bool true ∧ K = [Tb b n A]) := by
  refine hi_in 12 ([(0, pV b)] : Fr) Try.func69 (by kernel_rfl) Try.ntmps69 rfl rfl ?_
  intro g w0 R h0
  change WP _ _ (CA Try.f69 []) _ _ _
  obtain ⟨T1, hp2, h3⟩ := tb_open h0
  have hq4 := hp2.2.1; have hq5 := hp2.2.2.1; have hq6 := hp2.2.2.2.2
  refine zSq (by kernel_rfl) ?_
  refine zPl [0] (by kernel_rfl) ?_
  refine zB0 [] [0] [(2, .bool false)] (by kernel_rfl) ?_
  refine PO.mk ?_
  change WP _ _ (CA Try.f69 [1]) _ _ _
  refine fk_cut ([(0, pV b)] : Fr) (by kernel_rfl) (fun a => WP _ _ _ _ a _) (fun lr7 => ?_)
  refine zSq (by kernel_rfl) ?_
  refine zPl [0, 1, 2, 3, 4, 5, 6, 7, 8, 9] (by kernel_rfl) ?_
  refine zBb [] [(2, .bool true), (11, .bool true), (10, .bool true), (9, iV (((n : Nat) : Int))), (8, pV b), (7, pV b), (6, pV b), (5, .bool true), (4, .bool true), (3, pV b)] [⟨0, [], none⟩, ⟨1, [], none⟩, ⟨2, [], none⟩, ⟨3, [], none⟩, ⟨4, [], none⟩, ⟨5, [], none⟩, ⟨6, [iV (((n : Nat) : Int))], none⟩, ⟨7, [], some (.bool true)⟩, ⟨8, [], none⟩, ⟨9, [], none⟩] [(6, ⟨b, 0, none⟩, iV (((n : Nat) : Int)))] [(.bool (decide (((n : Nat) : Int) > 0)), .bool true)] (by kernel_rfl) ⟨(ov_t (by omega)), trivial⟩ (AllC_cons (sat_cell h3 0 rfl rfl) (AllC_nil _)) ?_
  refine PO.mk ?_
  change WP _ _ (CA Try.f69 [1, 1]) _ _ _
  refine fk_cut ([(2, .bool true)] : Fr) (by kernel_rfl) (fun a => WP _ _ _ _ a _) (fun lr8 => ?_)
  refine gi_rt (by kernel_rfl) ?_
  repeat (first | simp only [Exit.inBlock] | simp only [Exit.then])
  have h9 : sat g w0 [Tb b n A, R] := tb_close hp2 h3
  refine hi_out [] (.bool true) [] (by kernel_rfl) (by intro q hq; cases hq) ?_
  exact ⟨.bool true, [Tb b n A], rfl, ⟨rfl, rfl⟩, h9⟩

set_option maxHeartbeats 4000000 in
theorem svalid_cl (b n : Nat) (B : List Sl2) (hn : 1 ≤ n) : HT Try.prog 69 [Value.pointer (some ⟨b, 0, none⟩)] [Cl b (tbl n B) 113] (fun v K => v = Value.bool true ∧ K = [Cl b (tbl n B) 113]) := by
  refine hi_in 12 ([(0, pV b)] : Fr) Try.func69 (by kernel_rfl) Try.ntmps69 rfl rfl ?_
  intro g w0 R h0
  change WP _ _ (CA Try.f69 []) _ _ _
  refine zSq (by kernel_rfl) ?_
  refine zPl [0] (by kernel_rfl) ?_
  refine zB0 [] [0] [(2, .bool false)] (by kernel_rfl) ?_
  refine PO.mk ?_
  change WP _ _ (CA Try.f69 [1]) _ _ _
  refine fk_cut ([(0, pV b)] : Fr) (by kernel_rfl) (fun a => WP _ _ _ _ a _) (fun lr1 => ?_)
  refine zSq (by kernel_rfl) ?_
  refine zPl [0, 1, 2, 3, 4, 5, 6, 7, 8, 9] (by kernel_rfl) ?_
  refine zBb [] [(2, .bool true), (11, .bool true), (10, .bool true), (9, iV (((n : Nat) : Int))), (8, pV b), (7, pV b), (6, pV b), (5, .bool true), (4, .bool true), (3, pV b)] [⟨0, [], none⟩, ⟨1, [], none⟩, ⟨2, [], none⟩, ⟨3, [], none⟩, ⟨4, [], none⟩, ⟨5, [], none⟩, ⟨6, [iV (((n : Nat) : Int))], none⟩, ⟨7, [], some (.bool true)⟩, ⟨8, [], none⟩, ⟨9, [], none⟩] [(6, ⟨b, 0, none⟩, iV (((n : Nat) : Int)))] [(.bool (decide (((n : Nat) : Int) > 0)), .bool true)] (by kernel_rfl) ⟨(ov_t (by omega)), trivial⟩ (AllC_cons (sat_cell h0 0 rfl rfl) (AllC_nil _)) ?_
  refine PO.mk ?_
  change WP _ _ (CA Try.f69 [1, 1]) _ _ _
  refine fk_cut ([(2, .bool true)] : Fr) (by kernel_rfl) (fun a => WP _ _ _ _ a _) (fun lr2 => ?_)
  refine gi_rt (by kernel_rfl) ?_
  repeat (first | simp only [Exit.inBlock] | simp only [Exit.then])
  refine hi_out [] (.bool true) [] (by kernel_rfl) (by intro q hq; cases hq) ?_
  exact ⟨.bool true, [Cl b (tbl n B) 113], rfl, ⟨rfl, rfl⟩, h0⟩

set_option maxHeartbeats 4000000 in
theorem check_ok (b n : Nat) (A : List Sl2) (q : Nat) (x : Sl2) (hx : A[q]? = some x) (i gn : Int) (hc : i = (q : Int) ∧ x.1 = 1 ∧ x.2 = gn) : HT Try.prog 71 [Value.pointer (some ⟨b, 0, none⟩), Value.agg #[Value.int IntKind.i64 i, Value.int IntKind.u32 gn]] [Tb b n A] (fun v K => v = Value.int .i64 0 ∧ K = [Tb b n A]) := by
  refine hi_in 34 ([(0, pV b), (1, .agg #[iV i, uV gn])] : Fr) Try.func71 (by kernel_rfl) Try.ntmps71 rfl rfl ?_
  intro g w0 R h0
  change WP _ _ (CA Try.f71 []) _ _ _
  obtain ⟨T1, hp2, h3⟩ := tb_open h0
  have hq4 := hp2.2.1; have hq5 := hp2.2.2.1; have hq6 := hp2.2.2.2.2
  have hx_ := hp2.2.2.2.1 x (List.mem_of_getElem? hx)
  have hq_ : q < n := by have h_ := (List.getElem?_eq_some_iff.1 hx).1; rw [hp2.1] at h_; exact h_
  refine zSq (by kernel_rfl) ?_
  refine zPl [0, 1] (by kernel_rfl) ?_
  refine plain_act (i := 0) (by kernel_rfl) ?_
  refine an_new (d := 3) (fun xb_ => pV xb_) (fun xb_ => Obj.cells [iV i, uV gn].toArray 34 (0, 0)) (fun xb_ => by kernel_rfl) (by kernel_rfl) rfl h3 ?_
  intro r7 w8 (h9 : sat g w8 [Cl r7 [iV i, uV gn] 34, Cl b (tbl n (A ++ T1)) 113, R])
  refine zB0 [] [1] [(4, iV 0)] (by kernel_rfl) ?_
  refine PO.mk ?_
  change WP _ _ (CA Try.f71 [1]) _ _ _
  refine fk_cut ([(0, pV b), (3, pV r7)] : Fr) (by kernel_rfl) (fun a => WP _ _ _ _ a _) (fun lr10 => ?_)
  refine zSq (by kernel_rfl) ?_
  refine gi_blk (id := 0) (x := CA Try.f71 [1, 0, 0]) (by kernel_rfl) ?_
  refine zSq (by kernel_rfl) ?_
  refine zPl [0, 1, 2, 3] (by kernel_rfl) ?_
  refine zB0 [1, 2, 3] [0] [(6, pV b)] (by kernel_rfl) ?_
  have h11 : sat g w8 [Cl b (tbl n (A ++ T1)) 113, Cl r7 [iV i, uV gn] 34, R] := sat_sel [1, 0, 2] rfl h9
  refine plain_act (i := 1) (by kernel_rfl) ?_
  refine zCl 7 Try.call69 (svalid_cl b n _ (by omega)) h11 (by kernel_rfl) ?_
  rintro v K w12 (⟨rfl, rfl⟩) h13
  refine ⟨_, rfl, ?_⟩
  have h14 : sat g w12 [Cl b (tbl n (A ++ T1)) 113, Cl r7 [iV i, uV gn] 34, R] := h13
  refine zB0 [] [2, 3] [(5, .bool false), (8, .bool false)] (by kernel_rfl) ?_
  refine PO.mk ?_
  change WP _ _ (CA Try.f71 [1, 0, 0, 1]) _ _ _
  refine fk_cut ([(0, pV b), (3, pV r7), (5, .bool false)] : Fr) (by kernel_rfl) (fun a => WP _ _ _ _ a _) (fun lr15 => ?_)
  refine zCf (by kernel_rfl) ?_
  refine zSq (by kernel_rfl) ?_
  refine gi_drw (id := 3) (ops := RA Try.f71 [1, 0, 0, 1, 1, 0]) (Tr.fl 0 (Tr.fl 1 (Tr.fl 2 (Tr.fl 3 (Tr.fl 4 (Tr.fl 5 (Tr.fl 6 (Tr.fl 7 (Tr.fl 8 (Tr.fl 9 (Tr.fl 10 (Tr.fl 11 (Tr.fl 12 Tr.nil))))))))))))) (by kernel_rfl) (by kernel_rfl) (by kernel_rfl) (by kernel_rfl) (by kernel_rfl) (fun _ _ d _ _ h => by cases d <;> exact h) h14 ?_
  intro w16 h17
  refine draw_batch (t := Tr.nil) [⟨0, [], none⟩, ⟨1, [iV i], none⟩, ⟨2, [], some (.bool false)⟩, ⟨3, [], none⟩, ⟨4, [], none⟩, ⟨5, [iV i], none⟩, ⟨6, [], none⟩, ⟨7, [], none⟩, ⟨8, [], none⟩, ⟨9, [iV (((n : Nat) : Int))], none⟩, ⟨10, [], some (.bool false)⟩, ⟨11, [], none⟩, ⟨12, [], none⟩] (l' := ([(9, .bool false), (21, .bool false), (20, .bool false), (19, iV (((n : Nat) : Int))), (18, pV b), (17, pV b), (16, pV b), (15, iV i), (14, pV r7), (13, .bool false), (12, .bool false), (11, iV i), (10, pV r7), (0, pV b), (3, pV r7), (5, .bool false)] : Fr) ++ lr15) (pts' := [(9, ⟨b, 0, none⟩, iV (((n : Nat) : Int))), (5, ⟨r7, 0, none⟩, iV i), (1, ⟨r7, 0, none⟩, iV i)]) (eqs := [(.bool (decide (i < 0)), .bool false), (.bool (decide (i ≥ ((n : Nat) : Int))), .bool false)]) (by kernel_rfl) ⟨(ov_f (by omega)), (ov_f (by omega)), trivial⟩ (AllC_cons (sat_cell h17 0 rfl rfl) (AllC_cons (sat_cell h17 1 rfl rfl) (AllC_cons (sat_cell h17 1 rfl rfl) (AllC_nil _)))) ?_
  change WP _ _ (CA Try.f71 [1, 0, 0, 1, 1, 1]) _ _ _
  refine fk_cut ([(0, pV b), (3, pV r7), (9, .bool false)] : Fr) (by kernel_rfl) (fun a => WP _ _ _ _ a _) (fun lr18 => ?_)
  refine zCf (by kernel_rfl) ?_
  refine zSq (by kernel_rfl) ?_
  refine gi_drw (id := 5) (ops := RA Try.f71 [1, 0, 0, 1, 1, 1, 1, 0]) (Tr.fl 0 (Tr.fl 1 (Tr.fl 2 (Tr.fl 3 (Tr.fl 4 (Tr.fl 5 (Tr.fl 6 (Tr.fl 7 (Tr.fl 8 (Tr.fl 9 (Tr.fl 10 (Tr.fl 11 Tr.nil)))))))))))) (by kernel_rfl) (by kernel_rfl) (by kernel_rfl) (by kernel_rfl) (by kernel_rfl) (fun _ _ d _ _ h => by cases d <;> exact h) h17 ?_
  intro w19 h20
  refine draw_batch (t := (Tr.fl 5 (Tr.fl 6 (Tr.fl 7 (Tr.fl 8 (Tr.fl 9 (Tr.fl 10 (Tr.fl 11 Tr.nil)))))))) [⟨0, [], none⟩, ⟨1, [], none⟩, ⟨2, [iV i], none⟩, ⟨3, [], none⟩, ⟨4, [], none⟩] (l' := ([(27, .pointer (some ⟨b, 1, none⟩)), (26, pV b), (25, iV i), (24, pV r7), (23, pV b), (0, pV b), (3, pV r7), (9, .bool false)] : Fr) ++ lr18) (pts' := [(2, ⟨r7, 0, none⟩, iV i)]) (eqs := []) (by kernel_rfl) trivial (AllC_cons (sat_cell h20 1 rfl rfl) (AllC_nil _)) ?_
  refine draw_law (i := 5) 28 (.pointer (some ⟨b, q * 2 + 1, none⟩)) [] (by kernel_rfl) (fun _ _ => law_indexArr (o := opA (RA Try.f71 [1, 0, 0, 1, 1, 1, 1, 0]) 5) (x := (Operand.tmp 27)) (i := (Operand.tmp 25)) (b := b) (off := 1) (z := i) (by kernel_rfl) Try.underlying111 2 (by kernel_rfl) q (by kernel_rfl) (by kernel_rfl) (by omega) (by omega) (q * 2 + 1) (by omega) _) (by intro q hq; cases hq) ?_
  refine draw_batch (t := (Tr.fl 10 (Tr.fl 11 Tr.nil))) [⟨6, [iV x.1, uV x.2], none⟩, ⟨7, [], none⟩, ⟨8, [uV gn], none⟩, ⟨9, [], none⟩] (l' := ([(32, .agg #[iV 1, uV gn]), (31, uV gn), (30, .pointer (some ⟨r7, 1, none⟩)), (29, .agg #[iV x.1, uV x.2]), (28, .pointer (some ⟨b, q * 2 + 1, none⟩)), (27, .pointer (some ⟨b, 1, none⟩)), (26, pV b), (25, iV i), (24, pV r7), (23, pV b), (0, pV b), (3, pV r7), (9, .bool false)] : Fr) ++ lr18) (pts' := [(8, ⟨r7, 1, none⟩, uV gn), (6, ⟨b, q * 2 + 1, none⟩, iV x.1), (6, ⟨b, q * 2 + 2, none⟩, uV x.2)]) (eqs := []) (by kernel_rfl) trivial (AllC_cons (sat_cell h20 1 rfl rfl) (AllC_cons (sat_cell h20 0 rfl (tbl_stk (app_get hx) (by omega))) (AllC_cons (sat_cell h20 0 rfl (tbl_genk (app_get hx) (by omega))) (AllC_nil _)))) ?_
  refine draw_law (i := 10) 33 (.bool false) [] (by kernel_rfl) (fun _ _ => seq110_neq_t (o := opA (RA Try.f71 [1, 0, 0, 1, 1, 1, 1, 0]) 10) (x := (Operand.tmp 29)) (y := (Operand.tmp 32)) x.1 x.2 1 gn (by kernel_rfl) (by kernel_rfl) (by kernel_rfl) ⟨(by omega), (by omega)⟩ _) (by intro q hq; cases hq) ?_
  refine draw_batch (t := Tr.nil) [⟨11, [], none⟩] (l' := ([(22, .bool false), (33, .bool false), (32, .agg #[iV 1, uV gn]), (31, uV gn), (30, .pointer (some ⟨r7, 1, none⟩)), (29, .agg #[iV x.1, uV x.2]), (28, .pointer (some ⟨b, q * 2 + 1, none⟩)), (27, .pointer (some ⟨b, 1, none⟩)), (26, pV b), (25, iV i), (24, pV r7), (23, pV b), (0, pV b), (3, pV r7), (9, .bool false)] : Fr) ++ lr18) (pts' := []) (eqs := []) (by kernel_rfl) trivial (AllC_nil _) ?_
  change WP _ _ (CA Try.f71 [1, 0, 0, 1, 1, 1, 1, 1]) _ _ _
  refine fk_cut ([(22, .bool false)] : Fr) (by kernel_rfl) (fun a => WP _ _ _ _ a _) (fun lr21 => ?_)
  refine zCf (by kernel_rfl) ?_
  refine gi_skp (by kernel_rfl) ?_
  change WP _ _ (CA Try.f71 [1, 1]) _ _ _
  refine zSq (by kernel_rfl) ?_
  refine zPl [0] (by kernel_rfl) ?_
  refine zB0 [] [0] [(4, iV 0)] (by kernel_rfl) ?_
  refine PO.mk ?_
  change WP _ _ (CA Try.f71 [1, 1, 1]) _ _ _
  refine fk_cut ([(4, iV 0)] : Fr) (by kernel_rfl) (fun a => WP _ _ _ _ a _) (fun lr22 => ?_)
  refine gi_rt (by kernel_rfl) ?_
  repeat (first | simp only [Exit.inBlock] | simp only [Exit.then])
  have h23 : sat g w19 [Tb b n A, Cl r7 [iV i, uV gn] 34, R] := tb_close hp2 h20
  have h24 : sat g w19 [Tb b n A, R] := sat_sel [0, 2] rfl h23
  refine hi_out [] (iV 0) [] (by kernel_rfl) (by intro q hq; cases hq) ?_
  exact ⟨iV 0, [Tb b n A], rfl, ⟨rfl, rfl⟩, h24⟩

end Go.Proofs.Ytjjpmehiolejgaa
