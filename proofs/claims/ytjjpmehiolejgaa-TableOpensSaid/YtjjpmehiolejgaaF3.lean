/- Walks, printed by my generator ../fds/gen3.py. -/
import Derived.Test.YtjjpmehiolejgaaF2
namespace Go.Proofs.Ytjjpmehiolejgaa
set_option maxHeartbeats 4000000 in
theorem in_ht (b : Nat) (q : Int) : HT Try.prog 70 [Value.pointer (some ⟨b, 0, none⟩), Value.int IntKind.i64 q] [] (fun v K => ∃ c d, v = Value.func (Fn.func 76) #[] #[Value.pointer (some ⟨c, 0, none⟩), Value.pointer (some ⟨d, 0, none⟩)] ∧ K = [Cl c [Value.pointer (some ⟨b, 0, none⟩)] 72, Cl d [Value.int IntKind.i64 q] 3]) := by
 refine hi_in 6 ([(0, pV b), (1, iV q)] : Fr) Try.func70 (by kernel_rfl) Try.ntmps70 rfl rfl ?_
 intro g w0 R h0
 refine ySq ?_
 refine yPl [0, 1, 2] ?_
 refine yA ?_
 refine yNp 2 72 [pV b] h0 fun r1 w2 h3 => ?_
 refine yA ?_
 refine yNp 3 3 [iV q] h3 fun r4 w5 h6 => ?_
 refine yB0 [] [2] [(4, Value.nilFunc)] (.mk ?_)
 refine yK [(2, pV r1), (3, pV r4)] fun lr7 => ?_
 refine ySq ?_
 refine yPl [0, 1] ?_
 refine yB0 [] [0, 1] [(4, .func (Fn.func 76) #[] #[pV r1, pV r4]), (5, .func (Fn.func 76) #[] #[pV r1, pV r4])] (.mk ?_)
 refine yK [(4, .func (Fn.func 76) #[] #[pV r1, pV r4])] fun lr8 => ?_
 refine yRt ?_
 repeat (first | simp only [Exit.inBlock] | simp only [Exit.then])
 have h9 := tk3 (sf2 (sf1 (sf2 h6)))
 refine hi_out [] (.func (Fn.func 76) #[] #[pV r1, pV r4]) [] (by kernel_rfl) (by intro q hq; cases hq) ?_
 exact ⟨.func (Fn.func 76) #[] #[pV r1, pV r4], [Cl r1 [pV b] 72, Cl r4 [iV q] 3], rfl, ⟨r1, r4, rfl, rfl⟩, h9⟩

set_option maxHeartbeats 4000000 in
theorem in_it (c d b n : Nat) (q : Int) (A : List Sl2) (hn1 : 1 ≤ n) (hn2 : n ≤ 256) : IT Try.prog 76 [Value.pointer (some ⟨c, 0, none⟩), Value.pointer (some ⟨d, 0, none⟩)] (((inS q A 0).length)) ((fun i => [Value.int IntKind.i64 ((((inS q A 0).getD i (0, 0)).1 : Nat) : Int), Value.int IntKind.u32 ((inS q A 0).getD i (0, 0)).2])) [Cl c [Value.pointer (some ⟨b, 0, none⟩)] 72, Cl d [Value.int IntKind.i64 q] 3, Tb b n A] := by
 refine it_in 36 (fun k_ => ([(0, .func (Fn.yield k_) #[] #[]), (1, pV c), (2, pV d)] : Fr)) Try.func76 (by kernel_rfl) Try.ntmps76 rfl (fun _ => rfl) ?_
 intro g w0 R k_ J_ E_ hY h0
 have h1 : sat g w0 [J_ 0, Cl c [pV b] 72, Cl d [iV q] 3, Tb b n A, R] := h0
 change WP _ _ (CA Try.f76 []) _ (mk 36 (([(0, .func (Fn.yield k_) #[] #[]), (1, pV c), (2, pV d)] : Fr))) _
 refine ySq ?_
 refine ySq ?_
 refine yPl [0, 1, 2] ?_
 refine yBb [1, 2] [(6, pV b)] [e2 0 [pV b]] [(0, ⟨c, 0, none⟩, pV b)] [] trivial (kC (sat_cell h1 1 rfl rfl) nC) ?_
 have h2 := tk5 (sf4 (sf3 (sf3 (sf3 (sf4 h1)))))
 refine yA ?_
 refine yCl 7 Try.call69 (svalid_ht b n A) h2 ?_
 rintro v K w3 (⟨rfl, rfl⟩) h4
 refine ⟨_, rfl, ?_⟩
 have h5 := ap1 h4
 refine yB0 [] [2] [(8, .bool false)] (.mk ?_)
 refine yK [(0, .func (Fn.yield k_) #[] #[]), (1, pV c), (2, pV d), (8, .bool false)] fun lr6 => ?_
 refine yCf ?_
 refine ySk ?_
 refine ySq ?_
 obtain ⟨T7, hp8, h9⟩ := tb_open h5
 have hq10 := hp8.2.1; have hq11 := hp8.2.2.1; have hq12 := hp8.2.2.2.2
 have hAl := hp8.1
 refine gi_drw (id := 1) (ops := RA Try.f76 [1, 0]) (Tr.fl 0 (Tr.fl 1 (Tr.fl 2 (Tr.fl 3 (Tr.fl 4 (Tr.fl 5 (Tr.fl 6 (Tr.fl 7 (Tr.fl 8 (Tr.fl 9 Tr.nil)))))))))) (by kernel_rfl) (by kernel_rfl) (by kernel_rfl) (by kernel_rfl) (by kernel_rfl) (fun _ _ d _ _ h => by cases d <;> exact h) h9 ?_
 intro w13 h14
 refine yD _ [(15, iV (n : Int)), (14, pV b), (13, pV b), (12, pV b), (11, .pointer (some ⟨b, 1, none⟩)), (10, pV b), (9, pV b)] [e2 0 [pV b], e0 1, e0 2, e2 3 [pV b], e0 4, e0 5, e2 6 [iV (n : Int)]] [(6, ⟨b, 0, none⟩, iV (n : Int)), (3, ⟨c, 0, none⟩, pV b), (0, ⟨c, 0, none⟩, pV b)] [] trivial (kC (sat_cell h14 0 rfl rfl) (kC (sat_cell h14 2 rfl rfl) (kC (sat_cell h14 2 rfl rfl) nC))) ?_
 refine draw_law (i := 7) 16 (.slice (some ⟨b, 1, none⟩) n 256) [] (by kernel_rfl) (fun _ _ => law_sliceArr (o := opA (RA Try.f76 [1, 0]) 7) (x := (Operand.tmp 11)) (lo := none) (hi := (some (Operand.tmp 15))) (b := b) (off := 1) (by kernel_rfl) Try.underlying111 2 (by kernel_rfl) 0 (n : Int) 0 n (by kernel_rfl) rfl (show fe _ _ (Operand.tmp 15) = _ from by kernel_rfl) (by omega) (by omega) (by omega) (by omega) 1 (by split <;> omega) n 256 (by omega) (by omega) _) (by intro q hq; cases hq) ?_
 refine yD _ [(18, iV 0), (17, iV (n : Int))] [e0 8, e0 9] [] [] trivial nC ?_
 have h15 : sat g w13 [Tb b n A, J_ 0, Cl c [pV b] 72, Cl d [iV q] 3, R] := tb_close hp8 h14
 refine yK [(0, .func (Fn.yield k_) #[] #[]), (2, pV d), (16, .slice (some ⟨b, 1, none⟩) n 256), (17, iV (n : Int)), (18, iV 0)] fun lr16 => ?_
 refine yBk 0 ?_
 have h17 := tk5 (sf4 (sf4 (sf4 (sf1 (sf4 h15)))))
 refine gi_lp (x := CA Try.f76 [1, 1, 0, 0]) (by kernel_rfl) (fun mz_ a w => ∃ i : Nat, ∃ lr : Fr, mz_ = n - i ∧ (i ≤ n) ∧ a = mk 36 (([(0, .func (Fn.yield k_) #[] #[]), (2, pV d), (16, .slice (some ⟨b, 1, none⟩) n 256), (17, iV (n : Int)), (18, iV (i : Int))] : Fr) ++ lr) ∧ sat g w [J_ ((cnt q A i)), Cl c [pV b] 72, Cl d [iV q] 3, Tb b n A, R]) (n - 0) ⟨0, _, rfl, (Nat.zero_le _), (mk_live [(0, .func (Fn.yield k_) #[] #[]), (2, pV d), (16, .slice (some ⟨b, 1, none⟩) n 256), (17, iV (n : Int)), (18, iV (0 : Int))] ⟨rfl, rfl, rfl, rfl, (ov_int (by omega)), trivial⟩), h17⟩ ?_
 rintro m19 a20 w21 ⟨i, lr18, rfl, hi, rfl, h22⟩
 refine ySq ?_
 refine yPl [0] ?_
 by_cases c23 : (i : Int) < (n : Int)
 ·
  refine yBb [] [(19, .bool true)] [e1 0 (.bool true)] [] [(.bool (decide ((i : Int) < (n : Int))), .bool true)] ⟨(ov_t (by omega)), trivial⟩ nC (.mk ?_)
  refine yK [(0, .func (Fn.yield k_) #[] #[]), (2, pV d), (16, .slice (some ⟨b, 1, none⟩) n 256), (17, iV (n : Int)), (18, iV (i : Int)), (19, .bool true)] fun lr24 => ?_
  refine ySq ?_
  refine yCt ?_
  refine ySk ?_
  refine ySq ?_
  refine yBk 1 ?_
  refine ySq ?_
  have h25 := tk5 (sf4 (sf3 (sf3 (sf3 (sf4 h22)))))
  obtain ⟨T26, hp27, h28⟩ := tb_open h25
  have hq29 := hp27.2.1; have hq30 := hp27.2.2.1; have hq31 := hp27.2.2.2.2
  refine yPl [0, 1, 2, 3, 4, 5] ?_
  refine yB0 [1, 2, 3, 4, 5] [0] [(20, iV (i : Int))] ?_
  refine plain_law (i := 1) 21 (.pointer (some ⟨b, i * 2 + 1, none⟩)) (by kernel_rfl) (law_indexSl (o := opA (RA Try.f76 [1, 1, 0, 0, 1, 1, 0, 0, 0]) 1) (x := (Operand.tmp 16)) (i := (Operand.tmp 18)) (b := b) (off := 1) (z := (i : Int)) (len := n) (cap := 256) (by kernel_rfl) Try.underlying131 2 (by kernel_rfl) i (by kernel_rfl) (by kernel_rfl) (by omega) (by omega) (i * 2 + 1) (by omega) _) ?_
  obtain ⟨x32, hx33⟩ : ∃ x : Sl2, A[i]? = some x := ⟨_, List.getElem?_eq_getElem (by rw [hp27.1]; omega)⟩
  have hb34 := hp27.2.2.2.1 x32 (List.mem_of_getElem? hx33)
  refine yBb [3, 4, 5] [(22, .agg #[iV x32.1, uV x32.2])] [e2 2 [iV x32.1, uV x32.2]] [(2, ⟨b, i * 2 + 1, none⟩, iV x32.1), (2, ⟨b, i * 2 + 2, none⟩, uV x32.2)] [] trivial (kC (sat_cell h28 0 rfl (tbl_stk (app_get hx33) (by omega))) (kC (sat_cell h28 0 rfl (tbl_genk (app_get hx33) (by omega))) nC)) ?_
  refine yA ?_
  refine yNp 5 110 [iV 0, uV 0] h28 fun r35 w36 h37 => ?_
  refine yB0 [5] [4] [(4, iV (i : Int))] ?_
  refine yA ?_
  refine yS [(0, iV x32.1), (1, uV x32.2)] [iV x32.1, uV x32.2] h37 fun w38 h39 => ?_
  refine PO.mk ?_
  have h40 := tk6 (sf5 (sf4 (sf5 (sf5 (sf5 (sf5 h39))))))
  have h41 : sat g w38 [Tb b n A, Cl r35 [iV x32.1, uV x32.2] 110, J_ ((cnt q A i)), Cl c [pV b] 72, Cl d [iV q] 3, R] := tb_close hp27 h40
  refine yK [(0, .func (Fn.yield k_) #[] #[]), (2, pV d), (4, iV (i : Int)), (5, pV r35), (16, .slice (some ⟨b, 1, none⟩) n 256), (17, iV (n : Int)), (18, iV (i : Int))] fun lr42 => ?_
  refine ySq ?_
  refine gi_ply (id := 4) (ops := RA Try.f76 [1, 1, 0, 0, 1, 1, 0, 0, 1, 0]) [0, 1, 2, 3, 4, 5, 6, 7, 8] [9, 10, 11] (by kernel_rfl) (by kernel_rfl) (by kernel_rfl) ?_
  refine yBb [3, 4, 5, 6, 7, 8] [(25, iV q), (24, iV x32.1), (23, pV r35)] [e0 0, e2 1 [iV x32.1], e2 2 [iV q]] [(2, ⟨d, 0, none⟩, iV q), (1, ⟨r35, 0, none⟩, iV x32.1)] [] trivial (kC (sat_cell h41 4 rfl rfl) (kC (sat_cell h41 1 rfl rfl) nC)) ?_
  by_cases c43 : x32.1 = q
  ·
   refine yBb [] [(31, uV x32.2), (30, .pointer (some ⟨r35, 1, none⟩)), (29, iV (i : Int)), (28, .func (Fn.yield k_) #[] #[]), (27, .bool true), (26, .bool true)] [e1 3 (.bool true), e0 4, e0 5, e0 6, e0 7, e2 8 [uV x32.2]] [(8, ⟨r35, 1, none⟩, uV x32.2)] [(.bool (x32.1 == q), .bool true)] ⟨(ov_et (by omega)), trivial⟩ (kC (sat_cell h41 1 rfl rfl) nC) (.mk ?_)
   have h44 := tk6 (sf5 (sf5 (sf5 (sf2 (sf2 (sf5 h41))))))
   change YP _ (RA Try.f76 [1, 1, 0, 0, 1, 1, 0, 0, 1, 0]) _ [9, 10, 11] (mk 36 (([(31, uV x32.2), (30, .pointer (some ⟨r35, 1, none⟩)), (29, iV (i : Int)), (28, .func (Fn.yield k_) #[] #[]), (27, .bool true), (26, .bool true), (25, iV q), (24, iV x32.1), (23, pV r35), (0, .func (Fn.yield k_) #[] #[]), (2, pV d), (4, iV (i : Int)), (5, pV r35), (16, .slice (some ⟨b, 1, none⟩) n 256), (17, iV (n : Int)), (18, iV (i : Int))] : Fr) ++ lr42)) _
   refine yp_yield (d := some 32) (k := k_) (args := [Value.int IntKind.i64 (i : Int), Value.int IntKind.u32 x32.2]) (xa := ((fun i => [Value.int IntKind.i64 ((((inS q A 0).getD i (0, 0)).1 : Nat) : Int), Value.int IntKind.u32 ((inS q A 0).getD i (0, 0)).2])) ((cnt q A i))) (S1 := fun w => sat g w [J_ ((cnt q A i) + 1), Cl c [Value.pointer (some ⟨b, 0, none⟩)] 72, Cl d [Value.int IntKind.i64 q] 3, Tb b n A, Cl r35 [Value.int IntKind.i64 x32.1, Value.int IntKind.u32 x32.2] 110, R]) (S2 := fun w => sat g w [E_ ((cnt q A i)), Cl r35 [Value.int IntKind.i64 x32.1, Value.int IntKind.u32 x32.2] 110, R]) (by kernel_rfl) (by kernel_rfl) (by kernel_rfl) ((by show [Value.int IntKind.i64 ((((inS q A 0).getD ((cnt q A i)) (0, 0)).1 : Nat) : Int), Value.int IntKind.u32 ((inS q A 0).getD ((cnt q A i)) (0, 0)).2] = _; rw [getD_some (inS_at hx33 (by omega))])) (hY ((cnt q A i)) ((List.getElem?_eq_some_iff.1 (inS_at (q := q) hx33 (by omega))).1) _ [Cl r35 [Value.int IntKind.i64 x32.1, Value.int IntKind.u32 x32.2] 110, R] h44) ?_ ?_
   ·
    intro w45 h46
    refine ⟨_, rfl, ?_⟩
    have h47 : sat g w45 [J_ ((cnt q A i) + 1), Cl c [pV b] 72, Cl d [iV q] 3, Tb b n A, Cl r35 [iV x32.1, uV x32.2] 110, R] := h46
    have hlt48 := ((List.getElem?_eq_some_iff.1 (inS_at (q := q) hx33 (by omega))).1 : (cnt q A i) < ((inS q A 0).length))
    refine yB0 [] [10, 11] [(34, .bool false), (33, .bool false)] (.mk ?_)
    refine yK [(0, .func (Fn.yield k_) #[] #[]), (2, pV d), (16, .slice (some ⟨b, 1, none⟩) n 256), (17, iV (n : Int)), (18, iV (i : Int)), (34, .bool false)] fun lr49 => ?_
    refine yCf ?_
    refine ySk ?_
    refine yPl [0, 1] ?_
    refine yBb [] [(18, iV ((i : Int) + 1)), (35, iV ((i : Int) + 1))] [e1 0 (iV ((i : Int) + 1)), e0 1] [] [(iV (IntKind.wrap .i64 ((i : Int) + 1)), iV ((i : Int) + 1))] ⟨(ov_i64 (by omega) (by omega) (by omega)), trivial⟩ nC (.mk ?_)
    have h50 : sat g w45 [J_ ((cnt q A (i + 1))), Cl c [pV b] 72, Cl d [iV q] 3, Tb b n A, Cl r35 [iV x32.1, uV x32.2] 110, R] := (show (cnt q A i) + 1 = (cnt q A (i + 1)) from (cnt_go hx33 (by omega)).symm) ▸ h47
    have h51 := tk6 (sf5 (sf5 (sf5 (sf5 (sf5 (sf4 h50))))))
    have h52 := tk5 h51
    change ∃ n', n' < _ ∧ _
    refine ⟨(n - (i + 1)), by omega, (i + 1), _, rfl, (by omega), (mk_live [(0, .func (Fn.yield k_) #[] #[]), (2, pV d), (16, .slice (some ⟨b, 1, none⟩) n 256), (17, iV (n : Int)), (18, iV ((((i + 1) : Nat) : Int)))] ⟨rfl, rfl, rfl, rfl, (ov_int (by omega)), trivial⟩), h52⟩
   ·
    intro w53 h54
    refine ⟨_, rfl, ?_⟩
    have h55 : sat g w53 [E_ ((cnt q A i)), Cl r35 [iV x32.1, uV x32.2] 110, R] := h54
    have hlt56 := ((List.getElem?_eq_some_iff.1 (inS_at (q := q) hx33 (by omega))).1 : (cnt q A i) < ((inS q A 0).length))
    refine yB0 [] [10, 11] [(34, .bool true), (33, .bool true)] (.mk ?_)
    refine yK [(0, .func (Fn.yield k_) #[] #[]), (2, pV d), (16, .slice (some ⟨b, 1, none⟩) n 256), (17, iV (n : Int)), (18, iV (i : Int)), (34, .bool true)] fun lr57 => ?_
    refine yCt ?_
    refine yRt ?_
    repeat (first | simp only [Exit.inBlock] | simp only [Exit.then])
    refine hi_out [] (.tuple #[]) [] (by kernel_rfl) (by intro q hq; cases hq) ⟨⟨_, rfl⟩, ?_⟩
    have h58 := tk3 (sf2 (sf2 (sf1 h55)))
    have h59 := tk2 h58
    exact .inr ⟨(cnt q A i), (by omega), h59⟩
  ·
   refine yBb [] [(31, undef), (30, undef), (29, undef), (28, undef), (27, .bool false), (26, .bool false)] [e1 3 (.bool false), e0 4, e0 5, e0 6, e0 7, e0 8] [] [(.bool (x32.1 == q), .bool false)] ⟨(ov_ef (by omega)), trivial⟩ nC (.mk ?_)
   refine yp_skip (by kernel_rfl) ?_
   refine plain_skip (by kernel_rfl : chkN (RA Try.f76 [1, 1, 0, 0, 1, 1, 0, 0, 1, 0]) 36 _ 9 = some (some 32)) rfl ?_
   refine yB0 [] [10, 11] [(34, .bool false), (33, undef)] (.mk ?_)
   refine yK [(0, .func (Fn.yield k_) #[] #[]), (2, pV d), (16, .slice (some ⟨b, 1, none⟩) n 256), (17, iV (n : Int)), (18, iV (i : Int)), (34, .bool false)] fun lr60 => ?_
   refine yCf ?_
   refine ySk ?_
   refine yPl [0, 1] ?_
   refine yBb [] [(18, iV ((i : Int) + 1)), (35, iV ((i : Int) + 1))] [e1 0 (iV ((i : Int) + 1)), e0 1] [] [(iV (IntKind.wrap .i64 ((i : Int) + 1)), iV ((i : Int) + 1))] ⟨(ov_i64 (by omega) (by omega) (by omega)), trivial⟩ nC (.mk ?_)
   have h61 := tk6 (sf5 (sf4 (sf4 (sf5 (sf5 (sf5 h41))))))
   have h62 : sat g w38 [J_ ((cnt q A (i + 1))), Tb b n A, Cl r35 [iV x32.1, uV x32.2] 110, Cl c [pV b] 72, Cl d [iV q] 3, R] := (show (cnt q A i) = (cnt q A (i + 1)) from (cnt_no hx33 (by omega)).symm) ▸ h61
   have h63 := tk6 (sf5 (sf5 (sf5 (sf3 (sf5 (sf2 h62))))))
   have h64 := tk5 h63
   change ∃ n', n' < _ ∧ _
   refine ⟨(n - (i + 1)), by omega, (i + 1), _, rfl, (by omega), (mk_live [(0, .func (Fn.yield k_) #[] #[]), (2, pV d), (16, .slice (some ⟨b, 1, none⟩) n 256), (17, iV (n : Int)), (18, iV ((((i + 1) : Nat) : Int)))] ⟨rfl, rfl, rfl, rfl, (ov_int (by omega)), trivial⟩), h64⟩
 ·
  refine yBb [] [(19, .bool false)] [e1 0 (.bool false)] [] [(.bool (decide ((i : Int) < (n : Int))), .bool false)] ⟨(ov_f (by omega)), trivial⟩ nC (.mk ?_)
  refine yK [(0, .func (Fn.yield k_) #[] #[]), (2, pV d), (16, .slice (some ⟨b, 1, none⟩) n 256), (17, iV (n : Int)), (18, iV (i : Int)), (19, .bool false)] fun lr65 => ?_
  refine ySq ?_
  refine yCf ?_
  refine yEx 0 ?_
  repeat (first | simp only [Exit.inBlock] | simp only [Exit.then])
  refine hi_outn [] (.tuple #[]) [] (by kernel_rfl) (by intro q hq; cases hq) ⟨⟨_, rfl⟩, ?_⟩
  have he_ : (cnt q A i) = ((inS q A 0).length) := (cnt_all q (by omega))
  exact .inl (he_ ▸ h22)

end Go.Proofs.Ytjjpmehiolejgaa
