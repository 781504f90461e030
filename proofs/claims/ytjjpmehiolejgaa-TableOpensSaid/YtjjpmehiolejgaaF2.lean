/- Walks, printed by my generator ../fds/gen2.py. -/
import Derived.Test.YtjjpmehiolejgaaF1
namespace Go.Proofs.Ytjjpmehiolejgaa
theorem seq110_neq_t {n : Nat} {l : Fr} {o : Oper} {x y : Operand} (a0 : Int) (a1 : Int) (c0 : Int) (c1 : Int) (ho : o.op = .binOp .neq 110 x y 110) (hx : fe n l x = .agg #[.int .i64 a0, .int .u32 a1]) (hy : fe n l y = .agg #[.int .i64 c0, .int .u32 c1]) (h : a0 = c0 ∧ a1 = c1) (w : World) : (execOp (fe n l) o).run Try.prog w = .ok (.value (.bool false)) w := by
  obtain ⟨rfl, rfl⟩ := h
  simp [execOp, ho, hx, hy, go_sem]
set_option maxHeartbeats 4000000 in
theorem svalid_ht (b n : Nat) (A : List Sl2) : HT Try.prog 69 [Value.pointer (some ⟨b, 0, none⟩)] [Tb b n A] (fun v K => v = Value.bool true ∧ K = [Tb b n A]) := by
 refine hi_in 12 ([(0, pV b)] : Fr) Try.func69 (by kernel_rfl) Try.ntmps69 rfl rfl ?_
 intro g w0 R h0
 obtain ⟨T1, hp2, h3⟩ := tb_open h0
 have hq4 := hp2.2.1; have hq5 := hp2.2.2.1; have hq6 := hp2.2.2.2.2
 refine ySq ?_
 refine yPl [0] ?_
 refine yB0 [] [0] [(2, .bool false)] (.mk ?_)
 refine yK [(0, pV b)] fun lr7 => ?_
 refine ySq ?_
 refine yPl [0, 1, 2, 3, 4, 5, 6, 7, 8, 9] ?_
 refine yBb [] [(2, .bool true), (11, .bool true), (10, .bool true), (9, iV (n : Int)), (8, pV b), (7, pV b), (6, pV b), (5, .bool true), (4, .bool true), (3, pV b)] [e0 0, e0 1, e0 2, e0 3, e0 4, e0 5, e2 6 [iV (n : Int)], e1 7 (.bool true), e0 8, e0 9] [(6, ⟨b, 0, none⟩, iV (n : Int))] [(.bool (decide ((n : Int) > 0)), .bool true)] ⟨(ov_t (by omega)), trivial⟩ (kC (sat_cell h3 0 rfl rfl) nC) (.mk ?_)
 refine yK [(2, .bool true)] fun lr8 => ?_
 refine yRt ?_
 repeat (first | simp only [Exit.inBlock] | simp only [Exit.then])
 have h9 : sat g w0 [Tb b n A, R] := tb_close hp2 h3
 refine hi_out [] (.bool true) [] (by kernel_rfl) (by intro q hq; cases hq) ?_
 exact ⟨.bool true, [Tb b n A], rfl, ⟨rfl, rfl⟩, h9⟩

set_option maxHeartbeats 4000000 in
theorem svalid_cl (b n : Nat) (B : List Sl2) (hn : 1 ≤ n) : HT Try.prog 69 [Value.pointer (some ⟨b, 0, none⟩)] [Cl b (tbl n B) 113] (fun v K => v = Value.bool true ∧ K = [Cl b (tbl n B) 113]) := by
 refine hi_in 12 ([(0, pV b)] : Fr) Try.func69 (by kernel_rfl) Try.ntmps69 rfl rfl ?_
 intro g w0 R h0
 refine ySq ?_
 refine yPl [0] ?_
 refine yB0 [] [0] [(2, .bool false)] (.mk ?_)
 refine yK [(0, pV b)] fun lr1 => ?_
 refine ySq ?_
 refine yPl [0, 1, 2, 3, 4, 5, 6, 7, 8, 9] ?_
 refine yBb [] [(2, .bool true), (11, .bool true), (10, .bool true), (9, iV (n : Int)), (8, pV b), (7, pV b), (6, pV b), (5, .bool true), (4, .bool true), (3, pV b)] [e0 0, e0 1, e0 2, e0 3, e0 4, e0 5, e2 6 [iV (n : Int)], e1 7 (.bool true), e0 8, e0 9] [(6, ⟨b, 0, none⟩, iV (n : Int))] [(.bool (decide ((n : Int) > 0)), .bool true)] ⟨(ov_t (by omega)), trivial⟩ (kC (sat_cell h0 0 rfl rfl) nC) (.mk ?_)
 refine yK [(2, .bool true)] fun lr2 => ?_
 refine yRt ?_
 repeat (first | simp only [Exit.inBlock] | simp only [Exit.then])
 refine hi_out [] (.bool true) [] (by kernel_rfl) (by intro q hq; cases hq) ?_
 exact ⟨.bool true, [Cl b (tbl n B) 113], rfl, ⟨rfl, rfl⟩, h0⟩

set_option maxHeartbeats 4000000 in
theorem check_ok (b n : Nat) (A : List Sl2) (q : Nat) (x : Sl2) (hx : A[q]? = some x) (i gn : Int) (hc : i = (q : Int) ∧ x.1 = 1 ∧ x.2 = gn) : HT Try.prog 71 [Value.pointer (some ⟨b, 0, none⟩), Value.agg #[Value.int IntKind.i64 i, Value.int IntKind.u32 gn]] [Tb b n A] (fun v K => v = Value.int .i64 0 ∧ K = [Tb b n A]) := by
 refine hi_in 34 ([(0, pV b), (1, .agg #[iV i, uV gn])] : Fr) Try.func71 (by kernel_rfl) Try.ntmps71 rfl rfl ?_
 intro g w0 R h0
 obtain ⟨T1, hp2, h3⟩ := tb_open h0
 have hq4 := hp2.2.1; have hq5 := hp2.2.2.1; have hq6 := hp2.2.2.2.2
 have hx_ := hp2.2.2.2.1 x (List.mem_of_getElem? hx)
 have hq_ : q < n := by have h_ := (List.getElem?_eq_some_iff.1 hx).1; rw [hp2.1] at h_; exact h_
 refine ySq ?_
 refine yPl [0, 1] ?_
 refine yA ?_
 refine yNp 3 34 [iV i, uV gn] h3 fun r7 w8 h9 => ?_
 refine yB0 [] [1] [(4, iV 0)] (.mk ?_)
 refine yK [(0, pV b), (3, pV r7)] fun lr10 => ?_
 refine ySq ?_
 refine yBk 0 ?_
 refine ySq ?_
 refine yPl [0, 1, 2, 3] ?_
 refine yB0 [1, 2, 3] [0] [(6, pV b)] ?_
 have h11 := tk3 (sf2 (sf1 (sf2 h9)))
 refine yA ?_
 refine yCl 7 Try.call69 (svalid_cl b n _ (by omega)) h11 ?_
 rintro v K w12 (⟨rfl, rfl⟩) h13
 refine ⟨_, rfl, ?_⟩
 have h14 := ap1 h13
 refine yB0 [] [2, 3] [(5, .bool false), (8, .bool false)] (.mk ?_)
 refine yK [(0, pV b), (3, pV r7), (5, .bool false)] fun lr15 => ?_
 refine yCf ?_
 refine ySq ?_
 refine gi_drw (id := 3) (ops := RA Try.f71 [1, 0, 0, 1, 1, 0]) (Tr.fl 0 (Tr.fl 1 (Tr.fl 2 (Tr.fl 3 (Tr.fl 4 (Tr.fl 5 (Tr.fl 6 (Tr.fl 7 (Tr.fl 8 (Tr.fl 9 (Tr.fl 10 (Tr.fl 11 (Tr.fl 12 Tr.nil))))))))))))) (by kernel_rfl) (by kernel_rfl) (by kernel_rfl) (by kernel_rfl) (by kernel_rfl) (fun _ _ d _ _ h => by cases d <;> exact h) h14 ?_
 intro w16 h17
 refine yD _ [(9, .bool false), (21, .bool false), (20, .bool false), (19, iV (n : Int)), (18, pV b), (17, pV b), (16, pV b), (15, iV i), (14, pV r7), (13, .bool false), (12, .bool false), (11, iV i), (10, pV r7)] [e0 0, e2 1 [iV i], e1 2 (.bool false), e0 3, e0 4, e2 5 [iV i], e0 6, e0 7, e0 8, e2 9 [iV (n : Int)], e1 10 (.bool false), e0 11, e0 12] [(9, ⟨b, 0, none⟩, iV (n : Int)), (5, ⟨r7, 0, none⟩, iV i), (1, ⟨r7, 0, none⟩, iV i)] [(.bool (decide (i < 0)), .bool false), (.bool (decide (i ≥ (n : Int))), .bool false)] ⟨(ov_f (by omega)), (ov_f (by omega)), trivial⟩ (kC (sat_cell h17 0 rfl rfl) (kC (sat_cell h17 1 rfl rfl) (kC (sat_cell h17 1 rfl rfl) nC))) ?_
 refine yK [(0, pV b), (3, pV r7), (9, .bool false)] fun lr18 => ?_
 refine yCf ?_
 refine ySq ?_
 refine gi_drw (id := 5) (ops := RA Try.f71 [1, 0, 0, 1, 1, 1, 1, 0]) (Tr.fl 0 (Tr.fl 1 (Tr.fl 2 (Tr.fl 3 (Tr.fl 4 (Tr.fl 5 (Tr.fl 6 (Tr.fl 7 (Tr.fl 8 (Tr.fl 9 (Tr.fl 10 (Tr.fl 11 Tr.nil)))))))))))) (by kernel_rfl) (by kernel_rfl) (by kernel_rfl) (by kernel_rfl) (by kernel_rfl) (fun _ _ d _ _ h => by cases d <;> exact h) h17 ?_
 intro w19 h20
 refine yD _ [(27, .pointer (some ⟨b, 1, none⟩)), (26, pV b), (25, iV i), (24, pV r7), (23, pV b)] [e0 0, e0 1, e2 2 [iV i], e0 3, e0 4] [(2, ⟨r7, 0, none⟩, iV i)] [] trivial (kC (sat_cell h20 1 rfl rfl) nC) ?_
 refine draw_law (i := 5) 28 (.pointer (some ⟨b, q * 2 + 1, none⟩)) [] (by kernel_rfl) (fun _ _ => law_indexArr (o := opA (RA Try.f71 [1, 0, 0, 1, 1, 1, 1, 0]) 5) (x := (Operand.tmp 27)) (i := (Operand.tmp 25)) (b := b) (off := 1) (z := i) (by kernel_rfl) Try.underlying111 2 (by kernel_rfl) q (by kernel_rfl) (by kernel_rfl) (by omega) (by omega) (q * 2 + 1) (by omega) _) (by intro q hq; cases hq) ?_
 refine yD _ [(32, .agg #[iV 1, uV gn]), (31, uV gn), (30, .pointer (some ⟨r7, 1, none⟩)), (29, .agg #[iV x.1, uV x.2])] [e2 6 [iV x.1, uV x.2], e0 7, e2 8 [uV gn], e0 9] [(8, ⟨r7, 1, none⟩, uV gn), (6, ⟨b, q * 2 + 1, none⟩, iV x.1), (6, ⟨b, q * 2 + 2, none⟩, uV x.2)] [] trivial (kC (sat_cell h20 1 rfl rfl) (kC (sat_cell h20 0 rfl (tbl_stk (app_get hx) (by omega))) (kC (sat_cell h20 0 rfl (tbl_genk (app_get hx) (by omega))) nC))) ?_
 refine draw_law (i := 10) 33 (.bool false) [] (by kernel_rfl) (fun _ _ => seq110_neq_t (o := opA (RA Try.f71 [1, 0, 0, 1, 1, 1, 1, 0]) 10) (x := (Operand.tmp 29)) (y := (Operand.tmp 32)) x.1 x.2 1 gn (by kernel_rfl) (by kernel_rfl) (by kernel_rfl) ⟨(by omega), (by omega)⟩ _) (by intro q hq; cases hq) ?_
 refine yD _ [(22, .bool false)] [e0 11] [] [] trivial nC ?_
 refine yK [(22, .bool false)] fun lr21 => ?_
 refine yCf ?_
 refine ySk ?_
 refine ySq ?_
 refine yPl [0] ?_
 refine yB0 [] [0] [(4, iV 0)] (.mk ?_)
 refine yK [(4, iV 0)] fun lr22 => ?_
 refine yRt ?_
 repeat (first | simp only [Exit.inBlock] | simp only [Exit.then])
 have h23 : sat g w19 [Tb b n A, Cl r7 [iV i, uV gn] 34, R] := tb_close hp2 h20
 have h24 := tk2 (sf1 (sf2 h23))
 refine hi_out [] (iV 0) [] (by kernel_rfl) (by intro q hq; cases hq) ?_
 exact ⟨iV 0, [Tb b n A], rfl, ⟨rfl, rfl⟩, h24⟩

end Go.Proofs.Ytjjpmehiolejgaa
