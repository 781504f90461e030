/- Walks, printed by my generator ../fds/gen5.py. -/
import Derived.Test.YtjjpmehiolejgaaF4
namespace Go.Proofs.Ytjjpmehiolejgaa
set_option maxHeartbeats 4000000 in
theorem snew_ok (n : Nat) (hn : 1 ≤ n ∧ n ≤ 256) (gn : Int) (hgn : 1 ≤ gn ∧ gn ≤ 4294967295) : HT Try.prog 35 [Value.int IntKind.i64 (((n : Nat) : Int)), Value.int IntKind.u32 gn] [] (fun v K => ∃ b : Nat, v = Value.tuple #[Value.pointer (some ⟨b, 0, none⟩), Value.int .i64 0] ∧ K = [Tb b n (List.replicate n (0, gn))]) := by
 refine hi_in 35 ([(0, iV (n : Int)), (1, uV gn)] : Fr) Try.func35 (by kernel_rfl) Try.ntmps35 rfl rfl ?_
 intro g w0 R h0
 refine ySq ?_
 refine yPl [0, 1] ?_
 refine yB0 [] [0, 1] [(5, iV 0), (4, .pointer none)] (.mk ?_)
 refine yK [(0, iV (n : Int)), (1, uV gn)] fun lr1 => ?_
 refine ySq ?_
 refine ySq ?_
 refine yPl [0, 1, 2, 3, 4, 5, 6, 7, 8, 9, 10] ?_
 refine yBb [8, 9, 10] [(15, uV gn), (14, .bool false), (13, .bool false), (12, .bool false), (11, iV (n : Int)), (10, .bool false), (9, .bool false), (8, iV (n : Int))] [e0 0, e1 1 (.bool false), e0 2, e0 3, e1 4 (.bool false), e0 5, e0 6, e0 7] [] [(.bool (decide ((n : Int) < 1)), .bool false), (.bool (decide ((n : Int) > 256)), .bool false)] ⟨(ov_f (by omega)), (ov_f (by omega)), trivial⟩ nC ?_
 refine yA ?_
 refine yCl 16 Try.call55 (gcheck_ok gn (by omega) (by omega)) h0 ?_
 rintro v K w2 (⟨rfl, rfl⟩) h3
 refine ⟨_, rfl, ?_⟩
 have h4 := ap0 h3
 refine yB0 [] [9, 10] [(18, .bool false), (17, .bool false)] (.mk ?_)
 refine yK [(0, iV (n : Int)), (1, uV gn), (18, .bool false)] fun lr5 => ?_
 refine yCf ?_
 refine ySk ?_
 refine ySq ?_
 refine yPl [0, 1, 2, 3] ?_
 refine yB0 [2, 3] [0, 1] [(20, .agg (tbl n (List.replicate 256 (0, 0))).toArray), (19, iV (n : Int))] ?_
 refine yA ?_
 refine an_new (d := 21) (fun xb_ => pV xb_) (fun xb_ => Obj.cells (tbl n (List.replicate 256 (0, 0))).toArray 113 (0, 0)) (fun xb_ => by kernel_rfl) (by kernel_rfl) rfl h4 ?_
 intro r6 w7 (h8 : sat g w7 [Cl r6 (tbl n (List.replicate 0 (0, gn) ++ List.replicate (256 - 0) (0, 0))) 113, R])
 refine yB0 [] [3] [(6, pV r6)] (.mk ?_)
 refine yK [(0, iV (n : Int)), (1, uV gn), (6, pV r6)] fun lr9 => ?_
 refine ySq ?_
 refine ySq ?_
 refine yPl [0, 1] ?_
 refine yB0 [] [0, 1] [(23, iV 0), (22, iV (n : Int))] (.mk ?_)
 refine yK [(1, uV gn), (6, pV r6), (22, iV (n : Int)), (23, iV 0)] fun lr10 => ?_
 refine yBk 0 ?_
 refine gi_lp (x := CA Try.f35 [1, 1, 1, 0, 1, 0, 0]) (by kernel_rfl) (fun mz_ a w => ∃ i : Nat, ∃ lr : Fr, mz_ = n - i ∧ (i ≤ n) ∧ a = mk 35 (([(1, uV gn), (6, pV r6), (22, iV (n : Int)), (23, iV (i : Int))] : Fr) ++ lr) ∧ sat g w [Cl r6 (tbl n (List.replicate i (0, gn) ++ List.replicate (256 - i) (0, 0))) 113, R]) (n - 0) ⟨0, _, rfl, (Nat.zero_le _), (mk_live [(1, uV gn), (6, pV r6), (22, iV (n : Int)), (23, iV (0 : Int))] ⟨rfl, rfl, rfl, (ov_int (by omega)), trivial⟩), h8⟩ ?_
 rintro m12 a13 w14 ⟨i, lr11, rfl, hi, rfl, h15⟩
 refine ySq ?_
 refine yPl [0] ?_
 by_cases c16 : (i : Int) < (n : Int)
 ·
  refine yBb [] [(24, .bool true)] [e1 0 (.bool true)] [] [(.bool (decide ((i : Int) < (n : Int))), .bool true)] ⟨(ov_t (by omega)), trivial⟩ nC (.mk ?_)
  refine yK [(1, uV gn), (6, pV r6), (22, iV (n : Int)), (23, iV (i : Int)), (24, .bool true)] fun lr17 => ?_
  refine ySq ?_
  refine yCt ?_
  refine ySk ?_
  refine ySq ?_
  refine yBk 1 ?_
  refine ySq ?_
  refine yPl [0, 1] ?_
  refine yB0 [] [0, 1] [(7, iV (i : Int)), (25, iV (i : Int))] (.mk ?_)
  refine yK [(1, uV gn), (6, pV r6), (7, iV (i : Int)), (22, iV (n : Int)), (23, iV (i : Int))] fun lr18 => ?_
  refine yPl [0, 1, 2, 3, 4, 5, 6, 7] ?_
  refine yB0 [5, 6, 7] [0, 1, 2, 3, 4] [(30, .pointer (some ⟨r6, 1, none⟩)), (29, pV r6), (28, uV gn), (27, iV (i : Int)), (26, pV r6)] ?_
  refine plain_law (i := 5) 31 (.pointer (some ⟨r6, i * 2 + 1, none⟩)) (by kernel_rfl) (law_indexArr (o := opA (RA Try.f35 [1, 1, 1, 0, 1, 0, 0, 1, 1, 0, 0, 1]) 5) (x := (Operand.tmp 30)) (i := (Operand.tmp 27)) (b := r6) (off := 1) (z := (i : Int)) (by kernel_rfl) Try.underlying111 2 (by kernel_rfl) i (by kernel_rfl) (by kernel_rfl) (by omega) (by omega) (i * 2 + 1) (by omega) _) ?_
  refine yB0 [7] [6] [(32, .pointer (some ⟨r6, i * 2 + 2, none⟩))] ?_
  refine yA ?_
  refine an_store [(i * 2 + 2, uV gn)] (cs' := (tbl n (List.replicate (i + 1) (0, gn) ++ List.replicate (256 - (i + 1)) (0, 0)))) (by kernel_rfl) (by kernel_rfl) (allq ⟨⟨by rw [tbl_len, List.length_append, List.length_replicate, List.length_replicate]; omega, rfl⟩, trivial⟩) (new_put (i := i) (by omega) (by omega)) h15 ?_
  intro w19 h20
  refine PO.mk ?_
  refine yK [(1, uV gn), (6, pV r6), (22, iV (n : Int)), (23, iV (i : Int))] fun lr21 => ?_
  refine yPl [0, 1] ?_
  refine yBb [] [(23, iV ((i : Int) + 1)), (33, iV ((i : Int) + 1))] [e1 0 (iV ((i : Int) + 1)), e0 1] [] [(iV (IntKind.wrap .i64 ((i : Int) + 1)), iV ((i : Int) + 1))] ⟨(ov_i64 (by omega) (by omega) (by omega)), trivial⟩ nC (.mk ?_)
  change ∃ n', n' < _ ∧ _
  refine ⟨(n - (i + 1)), by omega, (i + 1), _, rfl, (by omega), (mk_live [(1, uV gn), (6, pV r6), (22, iV (n : Int)), (23, iV ((((i + 1) : Nat) : Int)))] ⟨rfl, rfl, rfl, (ov_int (by omega)), trivial⟩), h20⟩
 ·
  refine yBb [] [(24, .bool false)] [e1 0 (.bool false)] [] [(.bool (decide ((i : Int) < (n : Int))), .bool false)] ⟨(ov_f (by omega)), trivial⟩ nC (.mk ?_)
  refine yK [(1, uV gn), (6, pV r6), (22, iV (n : Int)), (23, iV (i : Int)), (24, .bool false)] fun lr22 => ?_
  refine ySq ?_
  refine yCf ?_
  refine yEx 0 ?_
  refine ySq ?_
  refine yPl [0, 1, 2] ?_
  refine yB0 [] [0, 1, 2] [(5, iV 0), (4, pV r6), (34, pV r6)] (.mk ?_)
  refine yK [(4, pV r6), (5, iV 0)] fun lr23 => ?_
  refine yRt ?_
  repeat (first | simp only [Exit.inBlock] | simp only [Exit.then])
  obtain rfl : i = n := by omega
  have h24 : sat g w14 [Tb r6 i (List.replicate i (0, gn)), R] := tb_close (new_ok (by omega) (by omega) (by omega) (by omega)) h15
  refine hi_out [] (.tuple #[pV r6, iV 0]) [] (by kernel_rfl) (by intro q hq; cases hq) ?_
  exact ⟨.tuple #[pV r6, iV 0], [Tb r6 i (List.replicate i (0, gn))], rfl, ⟨r6, rfl, rfl⟩, h24⟩

set_option maxHeartbeats 4000000 in
theorem free1_y (s gn : Int) (hs : s = 0) : HT Try.prog 58 [Value.agg #[Value.int IntKind.i64 s, Value.int IntKind.u32 gn]] [] (fun v K => v = Value.bool true ∧ K = []) := by
 refine hi_in 6 ([(0, .agg #[iV s, uV gn])] : Fr) Try.func58 (by kernel_rfl) Try.ntmps58 rfl rfl ?_
 intro g w0 R h0
 refine ySq ?_
 refine yPl [0, 1] ?_
 refine yA ?_
 refine yNp 1 110 [iV s, uV gn] h0 fun r1 w2 h3 => ?_
 refine yB0 [] [1] [(2, .bool false)] (.mk ?_)
 refine yK [(1, pV r1)] fun lr4 => ?_
 refine ySq ?_
 refine yPl [0, 1, 2, 3] ?_
 refine yBb [] [(2, .bool true), (5, .bool true), (4, iV s), (3, pV r1)] [e0 0, e2 1 [iV s], e1 2 (.bool true), e0 3] [(1, ⟨r1, 0, none⟩, iV s)] [(.bool (s == 0), .bool true)] ⟨(ov_et (by omega)), trivial⟩ (kC (sat_cell h3 0 rfl rfl) nC) (.mk ?_)
 refine yK [(2, .bool true)] fun lr5 => ?_
 refine yRt ?_
 repeat (first | simp only [Exit.inBlock] | simp only [Exit.then])
 have h6 := tk1 (sf1 h3)
 refine hi_out [] (.bool true) [] (by kernel_rfl) (by intro q hq; cases hq) ?_
 exact ⟨.bool true, [], rfl, ⟨rfl, rfl⟩, h6⟩

set_option maxHeartbeats 4000000 in
theorem free1_n (s gn : Int) (hs : ¬ s = 0) : HT Try.prog 58 [Value.agg #[Value.int IntKind.i64 s, Value.int IntKind.u32 gn]] [] (fun v K => v = Value.bool false ∧ K = []) := by
 refine hi_in 6 ([(0, .agg #[iV s, uV gn])] : Fr) Try.func58 (by kernel_rfl) Try.ntmps58 rfl rfl ?_
 intro g w0 R h0
 refine ySq ?_
 refine yPl [0, 1] ?_
 refine yA ?_
 refine yNp 1 110 [iV s, uV gn] h0 fun r1 w2 h3 => ?_
 refine yB0 [] [1] [(2, .bool false)] (.mk ?_)
 refine yK [(1, pV r1)] fun lr4 => ?_
 refine ySq ?_
 refine yPl [0, 1, 2, 3] ?_
 refine yBb [] [(2, .bool false), (5, .bool false), (4, iV s), (3, pV r1)] [e0 0, e2 1 [iV s], e1 2 (.bool false), e0 3] [(1, ⟨r1, 0, none⟩, iV s)] [(.bool (s == 0), .bool false)] ⟨(ov_ef (by omega)), trivial⟩ (kC (sat_cell h3 0 rfl rfl) nC) (.mk ?_)
 refine yK [(2, .bool false)] fun lr5 => ?_
 refine yRt ?_
 repeat (first | simp only [Exit.inBlock] | simp only [Exit.then])
 have h6 := tk1 (sf1 h3)
 refine hi_out [] (.bool false) [] (by kernel_rfl) (by intro q hq; cases hq) ?_
 exact ⟨.bool false, [], rfl, ⟨rfl, rfl⟩, h6⟩

set_option maxHeartbeats 4000000 in
theorem count0_ht (b n : Nat) (A : List Sl2) : HT Try.prog 57 [Value.pointer (some ⟨b, 0, none⟩), Value.func (Fn.func 58) #[] #[]] [Tb b n A] (fun v K => v = Value.int IntKind.i64 ((((inS 0 A 0).length : Nat) : Int)) ∧ K = [Tb b n A]) := by
 refine hi_in 31 ([(0, pV b), (1, .func (Fn.func 58) #[] #[])] : Fr) Try.func57 (by kernel_rfl) Try.ntmps57 rfl rfl ?_
 intro g w0 R h0
 obtain ⟨T1, hp2, h3⟩ := tb_open h0
 have hq4 := hp2.2.1; have hq5 := hp2.2.2.1; have hq6 := hp2.2.2.2.2
 have hAl := hp2.1
 refine ySq ?_
 refine yPl [0] ?_
 refine yB0 [] [0] [(4, iV 0)] (.mk ?_)
 refine yK [(0, pV b), (1, .func (Fn.func 58) #[] #[])] fun lr7 => ?_
 refine ySq ?_
 refine ySq ?_
 refine yPl [0, 1, 2] ?_
 refine yB0 [1, 2] [0] [(8, pV b)] ?_
 refine yA ?_
 refine yCl 9 Try.call69 (svalid_cl b n _ (by omega)) h3 ?_
 rintro v K w8 (⟨rfl, rfl⟩) h9
 refine ⟨_, rfl, ?_⟩
 have h10 := ap1 h9
 refine yB0 [] [2] [(10, .bool false)] (.mk ?_)
 refine yK [(0, pV b), (1, .func (Fn.func 58) #[] #[]), (10, .bool false)] fun lr11 => ?_
 refine yCf ?_
 refine ySk ?_
 refine ySq ?_
 refine yPl [0] ?_
 refine yB0 [] [0] [(5, iV 0)] (.mk ?_)
 refine yK [(0, pV b), (1, .func (Fn.func 58) #[] #[]), (5, iV 0)] fun lr12 => ?_
 refine ySq ?_
 refine ySq ?_
 refine gi_drw (id := 4) (ops := RA Try.f57 [1, 1, 1, 0, 0]) (Tr.fl 0 (Tr.fl 1 (Tr.fl 2 (Tr.fl 3 (Tr.fl 4 (Tr.fl 5 (Tr.fl 6 (Tr.fl 7 (Tr.fl 8 (Tr.fl 9 Tr.nil)))))))))) (by kernel_rfl) (by kernel_rfl) (by kernel_rfl) (by kernel_rfl) (by kernel_rfl) (fun _ _ d _ _ h => by cases d <;> exact h) h10 ?_
 intro w13 h14
 refine yD _ [(17, iV (n : Int)), (16, pV b), (15, pV b), (14, pV b), (13, .pointer (some ⟨b, 1, none⟩)), (12, pV b), (11, pV b)] [e0 0, e0 1, e0 2, e0 3, e0 4, e0 5, e2 6 [iV (n : Int)]] [(6, ⟨b, 0, none⟩, iV (n : Int))] [] trivial (kC (sat_cell h14 0 rfl rfl) nC) ?_
 refine draw_law (i := 7) 18 (.slice (some ⟨b, 1, none⟩) n 256) [] (by kernel_rfl) (fun _ _ => law_sliceArr (o := opA (RA Try.f57 [1, 1, 1, 0, 0]) 7) (x := (Operand.tmp 13)) (lo := none) (hi := (some (Operand.tmp 17))) (b := b) (off := 1) (by kernel_rfl) Try.underlying111 2 (by kernel_rfl) 0 (n : Int) 0 n (by kernel_rfl) rfl (show fe _ _ (Operand.tmp 17) = _ from by kernel_rfl) (by omega) (by omega) (by omega) (by omega) 1 (by split <;> omega) n 256 (by omega) (by omega) _) (by intro q hq; cases hq) ?_
 refine yD _ [(20, iV 0), (19, iV (n : Int))] [e0 8, e0 9] [] [] trivial nC ?_
 refine yK [(1, .func (Fn.func 58) #[] #[]), (5, iV 0), (18, .slice (some ⟨b, 1, none⟩) n 256), (19, iV (n : Int)), (20, iV 0)] fun lr15 => ?_
 refine yBk 0 ?_
 have hc0_ : cnt 0 A 0 = 0 := rfl
 refine gi_lp (x := CA Try.f57 [1, 1, 1, 0, 1, 0, 0]) (by kernel_rfl) (fun mz_ a w => ∃ i : Nat, ∃ lr : Fr, mz_ = n - i ∧ (i ≤ n) ∧ a = mk 31 (([(1, .func (Fn.func 58) #[] #[]), (5, iV (((cnt 0 A i : Nat) : Int))), (18, .slice (some ⟨b, 1, none⟩) n 256), (19, iV (n : Int)), (20, iV (i : Int))] : Fr) ++ lr) ∧ sat g w [Cl b (tbl n (A ++ T1)) 113, R]) (n - 0) ⟨0, _, rfl, (Nat.zero_le _), (mk_live [(1, .func (Fn.func 58) #[] #[]), (5, iV (((cnt 0 A 0 : Nat) : Int))), (18, .slice (some ⟨b, 1, none⟩) n 256), (19, iV (n : Int)), (20, iV (0 : Int))] ⟨rfl, (ov_int (by omega)), rfl, rfl, (ov_int (by omega)), trivial⟩), h14⟩ ?_
 rintro m17 a18 w19 ⟨i, lr16, rfl, hi, rfl, h20⟩
 have hc1_ := cnt_le 0 A i; have hc2_ := inS_len 0 A 0
 have hc3_ : cnt 0 A i ≤ n := by omega
 refine ySq ?_
 refine yPl [0] ?_
 by_cases c21 : (i : Int) < (n : Int)
 ·
  refine yBb [] [(21, .bool true)] [e1 0 (.bool true)] [] [(.bool (decide ((i : Int) < (n : Int))), .bool true)] ⟨(ov_t (by omega)), trivial⟩ nC (.mk ?_)
  refine yK [(1, .func (Fn.func 58) #[] #[]), (5, iV (((cnt 0 A i : Nat) : Int))), (18, .slice (some ⟨b, 1, none⟩) n 256), (19, iV (n : Int)), (20, iV (i : Int)), (21, .bool true)] fun lr22 => ?_
  refine ySq ?_
  refine yCt ?_
  refine ySk ?_
  refine ySq ?_
  refine yBk 1 ?_
  refine ySq ?_
  refine yPl [0, 1, 2, 3] ?_
  refine plain_law (i := 0) 22 (.pointer (some ⟨b, i * 2 + 1, none⟩)) (by kernel_rfl) (law_indexSl (o := opA (RA Try.f57 [1, 1, 1, 0, 1, 0, 0, 1, 1, 0, 0, 0]) 0) (x := (Operand.tmp 18)) (i := (Operand.tmp 20)) (b := b) (off := 1) (z := (i : Int)) (len := n) (cap := 256) (by kernel_rfl) Try.underlying131 2 (by kernel_rfl) i (by kernel_rfl) (by kernel_rfl) (by omega) (by omega) (i * 2 + 1) (by omega) _) ?_
  obtain ⟨x23, hx24⟩ : ∃ x : Sl2, A[i]? = some x := ⟨_, List.getElem?_eq_getElem (by rw [hp2.1]; omega)⟩
  have hb25 := hp2.2.2.2.1 x23 (List.mem_of_getElem? hx24)
  refine yBb [2, 3] [(23, .agg #[iV x23.1, uV x23.2])] [e2 1 [iV x23.1, uV x23.2]] [(1, ⟨b, i * 2 + 1, none⟩, iV x23.1), (1, ⟨b, i * 2 + 2, none⟩, uV x23.2)] [] trivial (kC (sat_cell h20 0 rfl (tbl_stk (app_get hx24) (by omega))) (kC (sat_cell h20 0 rfl (tbl_genk (app_get hx24) (by omega))) nC)) ?_
  refine yA ?_
  refine yNp 7 110 [iV 0, uV 0] h20 fun r26 w27 h28 => ?_
  refine yA ?_
  refine yS [(0, iV x23.1), (1, uV x23.2)] [iV x23.1, uV x23.2] h28 fun w29 h30 => ?_
  refine PO.mk ?_
  refine yK [(1, .func (Fn.func 58) #[] #[]), (5, iV (((cnt 0 A i : Nat) : Int))), (7, pV r26), (18, .slice (some ⟨b, 1, none⟩) n 256), (19, iV (n : Int)), (20, iV (i : Int))] fun lr31 => ?_
  refine ySq ?_
  refine yPl [0, 1, 2] ?_
  refine yBb [2] [(25, .agg #[iV x23.1, uV x23.2]), (24, .func (Fn.func 58) #[] #[])] [e0 0, e2 1 [iV x23.1, uV x23.2]] [(1, ⟨r26, 0, none⟩, iV x23.1), (1, ⟨r26, 1, none⟩, uV x23.2)] [] trivial (kC (sat_cell h30 0 rfl rfl) (kC (sat_cell h30 0 rfl rfl) nC)) ?_
  by_cases c32 : x23.1 = 0
  ·
   refine yA ?_
   refine yCl 26 Try.call58 (free1_y x23.1 x23.2 (by omega)) h30 ?_
   rintro v K w33 (⟨rfl, rfl⟩) h34
   refine ⟨_, rfl, ?_⟩
   have h35 := ap0 h34
   refine PO.mk ?_
   refine yK [(1, .func (Fn.func 58) #[] #[]), (5, iV (((cnt 0 A i : Nat) : Int))), (18, .slice (some ⟨b, 1, none⟩) n 256), (19, iV (n : Int)), (20, iV (i : Int)), (26, .bool true)] fun lr36 => ?_
   refine yCt ?_
   refine yPl [0, 1, 2] ?_
   refine yBb [] [(5, iV (((cnt 0 A i : Nat) : Int) + 1)), (28, iV (((cnt 0 A i : Nat) : Int) + 1)), (27, iV (((cnt 0 A i : Nat) : Int)))] [e0 0, e1 1 (iV (((cnt 0 A i : Nat) : Int) + 1)), e0 2] [] [(iV (IntKind.wrap .i64 ((((cnt 0 A i : Nat) : Int)) + 1)), iV (((cnt 0 A i : Nat) : Int) + 1))] ⟨(ov_i64 (by omega) (by omega) (by omega)), trivial⟩ nC (.mk ?_)
   refine yK [(1, .func (Fn.func 58) #[] #[]), (5, iV (((cnt 0 A i : Nat) : Int) + 1)), (18, .slice (some ⟨b, 1, none⟩) n 256), (19, iV (n : Int)), (20, iV (i : Int))] fun lr37 => ?_
   refine yPl [0, 1] ?_
   refine yBb [] [(20, iV ((i : Int) + 1)), (29, iV ((i : Int) + 1))] [e1 0 (iV ((i : Int) + 1)), e0 1] [] [(iV (IntKind.wrap .i64 ((i : Int) + 1)), iV ((i : Int) + 1))] ⟨(ov_i64 (by omega) (by omega) (by omega)), trivial⟩ nC (.mk ?_)
   have hc_ : cnt 0 A (i + 1) = (cnt 0 A i) + 1 := cnt_go hx24 (by omega)
   have h38 := tk3 (sf2 (sf2 h35))
   have h39 := tk2 h38
   change ∃ n', n' < _ ∧ _
   refine ⟨(n - (i + 1)), by omega, (i + 1), _, rfl, (by omega), (mk_live [(1, .func (Fn.func 58) #[] #[]), (5, iV (((cnt 0 A (i + 1) : Nat) : Int))), (18, .slice (some ⟨b, 1, none⟩) n 256), (19, iV (n : Int)), (20, iV ((((i + 1) : Nat) : Int)))] ⟨rfl, (ov_int (by omega)), rfl, rfl, (ov_int (by omega)), trivial⟩), h39⟩
  ·
   refine yA ?_
   refine yCl 26 Try.call58 (free1_n x23.1 x23.2 (by omega)) h30 ?_
   rintro v K w40 (⟨rfl, rfl⟩) h41
   refine ⟨_, rfl, ?_⟩
   have h42 := ap0 h41
   refine PO.mk ?_
   refine yK [(1, .func (Fn.func 58) #[] #[]), (5, iV (((cnt 0 A i : Nat) : Int))), (18, .slice (some ⟨b, 1, none⟩) n 256), (19, iV (n : Int)), (20, iV (i : Int)), (26, .bool false)] fun lr43 => ?_
   refine yCf ?_
   refine ySk ?_
   refine yPl [0, 1] ?_
   refine yBb [] [(20, iV ((i : Int) + 1)), (29, iV ((i : Int) + 1))] [e1 0 (iV ((i : Int) + 1)), e0 1] [] [(iV (IntKind.wrap .i64 ((i : Int) + 1)), iV ((i : Int) + 1))] ⟨(ov_i64 (by omega) (by omega) (by omega)), trivial⟩ nC (.mk ?_)
   have hc_ : cnt 0 A (i + 1) = (cnt 0 A i) := cnt_no hx24 (by omega)
   have h44 := tk3 (sf2 (sf2 h42))
   have h45 := tk2 h44
   change ∃ n', n' < _ ∧ _
   refine ⟨(n - (i + 1)), by omega, (i + 1), _, rfl, (by omega), (mk_live [(1, .func (Fn.func 58) #[] #[]), (5, iV (((cnt 0 A (i + 1) : Nat) : Int))), (18, .slice (some ⟨b, 1, none⟩) n 256), (19, iV (n : Int)), (20, iV ((((i + 1) : Nat) : Int)))] ⟨rfl, (ov_int (by omega)), rfl, rfl, (ov_int (by omega)), trivial⟩), h45⟩
 ·
  refine yBb [] [(21, .bool false)] [e1 0 (.bool false)] [] [(.bool (decide ((i : Int) < (n : Int))), .bool false)] ⟨(ov_f (by omega)), trivial⟩ nC (.mk ?_)
  refine yK [(1, .func (Fn.func 58) #[] #[]), (5, iV (((cnt 0 A i : Nat) : Int))), (18, .slice (some ⟨b, 1, none⟩) n 256), (19, iV (n : Int)), (20, iV (i : Int)), (21, .bool false)] fun lr46 => ?_
  refine ySq ?_
  refine yCf ?_
  refine yEx 0 ?_
  refine ySq ?_
  refine yPl [0, 1] ?_
  refine yB0 [] [0, 1] [(4, iV (((cnt 0 A i : Nat) : Int))), (30, iV (((cnt 0 A i : Nat) : Int)))] (.mk ?_)
  refine yK [(4, iV (((cnt 0 A i : Nat) : Int)))] fun lr47 => ?_
  refine yRt ?_
  repeat (first | simp only [Exit.inBlock] | simp only [Exit.then])
  have hc_ : cnt 0 A i = (inS 0 A 0).length := cnt_all 0 (by omega)
  have h48 : sat g w19 [Tb b n A, R] := tb_close hp2 h20
  refine hi_out [] (iV (((cnt 0 A i : Nat) : Int))) [] (by kernel_rfl) (by intro q hq; cases hq) ?_
  exact ⟨iV (((cnt 0 A i : Nat) : Int)), [Tb b n A], rfl, ⟨by rw [hc_], rfl⟩, h48⟩

set_option maxHeartbeats 4000000 in
theorem sfree_ht (b n : Nat) (A : List Sl2) : HT Try.prog 42 [Value.pointer (some ⟨b, 0, none⟩)] [Tb b n A] (fun v K => v = Value.int IntKind.i64 ((((inS 0 A 0).length : Nat) : Int)) ∧ K = [Tb b n A]) := by
 refine hi_in 5 ([(0, pV b)] : Fr) Try.func42 (by kernel_rfl) Try.ntmps42 rfl rfl ?_
 intro g w0 R h0
 refine ySq ?_
 refine yPl [0] ?_
 refine yB0 [] [0] [(2, iV 0)] (.mk ?_)
 refine yK [(0, pV b)] fun lr1 => ?_
 refine ySq ?_
 refine yPl [0, 1, 2] ?_
 refine yB0 [1, 2] [0] [(3, pV b)] ?_
 refine yA ?_
 refine yCl 4 Try.call57 (count0_ht b n A) h0 ?_
 rintro v K w2 (⟨rfl, rfl⟩) h3
 refine ⟨_, rfl, ?_⟩
 have h4 := ap1 h3
 refine yB0 [] [2] [(2, iV ((((inS 0 A 0).length : Nat) : Int)))] (.mk ?_)
 refine yK [(2, iV ((((inS 0 A 0).length : Nat) : Int)))] fun lr5 => ?_
 refine yRt ?_
 repeat (first | simp only [Exit.inBlock] | simp only [Exit.then])
 refine hi_out [] (iV ((((inS 0 A 0).length : Nat) : Int))) [] (by kernel_rfl) (by intro q hq; cases hq) ?_
 exact ⟨iV ((((inS 0 A 0).length : Nat) : Int)), [Tb b n A], rfl, ⟨rfl, rfl⟩, h4⟩

end Go.Proofs.Ytjjpmehiolejgaa
