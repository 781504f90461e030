/- Walks, printed by my generator ../fds/gen6.py. -/
import Derived.Test.YtjjpmehiolejgaaF5
namespace Go.Proofs.Ytjjpmehiolejgaa
set_option maxHeartbeats 4000000 in
theorem give_ht (b n : Nat) (A : List Sl2) (q : Nat) (x : Sl2) (hx : A[q]? = some x) (ix gn : Int) (hc : ix = (q : Int) ∧ x.1 = 1 ∧ x.2 = gn) : HT Try.prog 60 [Value.pointer (some ⟨b, 0, none⟩), Value.agg #[Value.int IntKind.i64 ix, Value.int IntKind.u32 gn]] [Tb b n A] (fun v K => v = Value.int .i64 0 ∧ K = [Tb b n (giveA A q gn)]) := by
 refine hi_in 38 ([(0, pV b), (1, .agg #[iV ix, uV gn])] : Fr) Try.func60 (by kernel_rfl) Try.ntmps60 rfl rfl ?_
 intro g w0 R h0
 have hb1 := tb_bd (j := 0) h0 rfl
 have hq_ : q < n := by have h_ := (List.getElem?_eq_some_iff.1 hx).1; rw [hb1.1] at h_; exact h_
 have hx_ := hb1.2.2.2 x (List.mem_of_getElem? hx)
 have hb1_ := hb1.2.1; have hb2_ := hb1.2.2.1; have hb3_ := hb1.2.2.2
 refine ySq ?_
 refine yPl [0, 1] ?_
 refine yA ?_
 refine yNp 3 34 [iV ix, uV gn] h0 fun r2 w3 h4 => ?_
 refine yB0 [] [1] [(4, iV 0)] (.mk ?_)
 refine yK [(0, pV b), (3, pV r2)] fun lr5 => ?_
 refine ySq ?_
 refine ySq ?_
 refine yPl [0, 1, 2, 3] ?_
 refine yBb [2, 3] [(10, .agg #[iV ix, uV gn]), (9, pV b)] [e0 0, e2 1 [iV ix, uV gn]] [(1, ⟨r2, 0, none⟩, iV ix), (1, ⟨r2, 1, none⟩, uV gn)] [] trivial (kC (sat_cell h4 0 rfl rfl) (kC (sat_cell h4 0 rfl rfl) nC)) ?_
 have h6 := tk3 (sf2 (sf1 (sf2 h4)))
 refine yA ?_
 refine yCl 11 Try.call71 (check_ok b n A q x hx ix gn (by omega)) h6 ?_
 rintro v K w7 (⟨rfl, rfl⟩) h8
 refine ⟨_, rfl, ?_⟩
 have h9 := ap1 h8
 refine yB0 [] [3] [(5, iV 0)] (.mk ?_)
 refine yK [(0, pV b), (3, pV r2), (5, iV 0)] fun lr10 => ?_
 refine ySq ?_
 refine yPl [0, 1] ?_
 refine yB0 [] [0, 1] [(13, .bool false), (12, iV 0)] (.mk ?_)
 refine yK [(0, pV b), (3, pV r2), (5, iV 0), (13, .bool false)] fun lr11 => ?_
 refine yCf ?_
 refine ySk ?_
 refine ySq ?_
 refine ySq ?_
 refine yPl [0, 1, 2, 3, 4, 5, 6, 7, 8, 9] ?_
 refine yBb [2, 3, 4, 5, 6, 7, 8, 9] [(17, uV gn), (16, .pointer (some ⟨r2, 1, none⟩))] [e0 0, e2 1 [uV gn]] [(1, ⟨r2, 1, none⟩, uV gn)] [] trivial (kC (sat_cell h9 1 rfl rfl) nC) ?_
 by_cases c12 : gn < 4294967295
 ·
  refine yA ?_
  refine yCl 18 Try.call72 (next_ok gn (by omega) (by omega)) h9 ?_
  rintro v K w13 (⟨rfl, rfl⟩) h14
  refine ⟨_, rfl, ?_⟩
  have h15 := ap0 h14
  refine yB0 [] [3, 4, 5, 6, 7, 8, 9] [(8, iV 0), (7, .bool true), (6, uV (gn + 1)), (21, iV 0), (20, .bool true), (19, uV (gn + 1)), (15, .tuple #[uV (gn + 1), .bool true, iV 0])] (.mk ?_)
  refine yK [(0, pV b), (3, pV r2), (6, uV (gn + 1)), (7, .bool true)] fun lr16 => ?_
  refine ySq ?_
  refine yPl [0] ?_
  refine yB0 [] [0] [(22, .bool true)] (.mk ?_)
  refine yK [(0, pV b), (3, pV r2), (6, uV (gn + 1)), (22, .bool true)] fun lr17 => ?_
  refine yCt ?_
  obtain ⟨T18, hp19, h20⟩ := tb_open h15
  have hq21 := hp19.2.1; have hq22 := hp19.2.2.1; have hq23 := hp19.2.2.2.2
  refine gi_drw (id := 6) (ops := RA Try.f60 [1, 1, 0, 1, 1, 0]) (Tr.fl 0 (Tr.fl 1 (Tr.fl 2 (Tr.fl 3 (Tr.fl 4 (Tr.fl 5 (Tr.fl 6 (Tr.fl 7 (Tr.an 8 Tr.nil))))))))) (by kernel_rfl) (by kernel_rfl) (by kernel_rfl) (by kernel_rfl) (by kernel_rfl) (fun _ _ d _ _ h => by cases d <;> exact h) h20 ?_
  intro w24 h25
  refine yD _ [(29, .pointer (some ⟨b, 1, none⟩)), (28, pV b), (27, .agg #[iV 0, uV (gn + 1)]), (26, uV (gn + 1)), (25, iV ix), (24, pV r2), (23, pV b)] [e0 0, e0 1, e2 2 [iV ix], e0 3, e0 4, e0 5, e0 6] [(2, ⟨r2, 0, none⟩, iV ix)] [] trivial (kC (sat_cell h25 1 rfl rfl) nC) ?_
  refine draw_law (i := 7) 30 (.pointer (some ⟨b, q * 2 + 1, none⟩)) [] (by kernel_rfl) (fun _ _ => law_indexArr (o := opA (RA Try.f60 [1, 1, 0, 1, 1, 0]) 7) (x := (Operand.tmp 29)) (i := (Operand.tmp 25)) (b := b) (off := 1) (z := ix) (by kernel_rfl) Try.underlying111 2 (by kernel_rfl) q (by kernel_rfl) (by kernel_rfl) (by omega) (by omega) (q * 2 + 1) (by omega) _) (by intro q hq; cases hq) ?_
  refine draw_act (i := 8) [] (by kernel_rfl) (by kernel_rfl) ?_
  refine an_store [(q * 2 + 1, iV 0), (q * 2 + 2, uV (gn + 1))] (cs' := (tbl n ((A.set q (0, gn + 1)) ++ T18))) (by kernel_rfl) (by kernel_rfl) (allq ⟨⟨by rw [tbl_len]; omega, rfl⟩, ⟨by rw [tbl_len]; omega, rfl⟩, trivial⟩) (tbl_put2k hx 0 (gn + 1) (by omega) (by omega)) h25 ?_
  intro w26 h27
  refine ⟨(AllC_nil _), ?_⟩
  have hA_ : (A.set q (0, gn + 1)) = giveA A q gn := by unfold giveA; rw [if_pos (by omega)]
  have h28 : sat g w26 [Cl b (tbl n ((giveA A q gn) ++ T18)) 113, Cl r2 [iV ix, uV gn] 34, R] := hA_ ▸ h27
  have h29 : sat g w26 [Tb b n (giveA A q gn), Cl r2 [iV ix, uV gn] 34, R] := tb_close ⟨by unfold giveA; split <;> (rw [List.length_set]; exact hp19.1), hp19.2.1, hp19.2.2.1, slOk_give hp19.2.2.2.1 hx (by omega), by have h_ := hp19.2.2.2.2; rw [List.length_append] at h_ ⊢; unfold giveA; split <;> (rw [List.length_set]; exact h_)⟩ h28
  refine yK [] fun lr30 => ?_
  refine ySq ?_
  refine yPl [0] ?_
  refine yB0 [] [0] [(4, iV 0)] (.mk ?_)
  refine yK [(4, iV 0)] fun lr31 => ?_
  refine yRt ?_
  repeat (first | simp only [Exit.inBlock] | simp only [Exit.then])
  have h32 := tk2 (sf1 (sf2 h29))
  refine hi_out [] (iV 0) [] (by kernel_rfl) (by intro q hq; cases hq) ?_
  exact ⟨iV 0, [Tb b n (giveA A q gn)], rfl, ⟨rfl, rfl⟩, h32⟩
 ·
  refine yA ?_
  refine yCl 18 Try.call72 (next_no gn (by omega)) h9 ?_
  rintro v K w33 (⟨rfl, rfl⟩) h34
  refine ⟨_, rfl, ?_⟩
  have h35 := ap0 h34
  refine yB0 [] [3, 4, 5, 6, 7, 8, 9] [(8, iV 0), (7, .bool false), (6, uV 0), (21, iV 0), (20, .bool false), (19, uV 0), (15, .tuple #[uV 0, .bool false, iV 0])] (.mk ?_)
  refine yK [(0, pV b), (3, pV r2), (6, uV 0), (7, .bool false)] fun lr36 => ?_
  refine ySq ?_
  refine yPl [0] ?_
  refine yB0 [] [0] [(22, .bool false)] (.mk ?_)
  refine yK [(0, pV b), (3, pV r2), (6, uV 0), (22, .bool false)] fun lr37 => ?_
  refine yCf ?_
  obtain ⟨T38, hp39, h40⟩ := tb_open h35
  have hq41 := hp39.2.1; have hq42 := hp39.2.2.1; have hq43 := hp39.2.2.2.2
  refine gi_drw (id := 7) (ops := RA Try.f60 [1, 1, 0, 1, 1, 1]) (Tr.fl 0 (Tr.fl 1 (Tr.fl 2 (Tr.fl 3 (Tr.fl 4 (Tr.fl 5 (Tr.fl 6 (Tr.an 7 Tr.nil)))))))) (by kernel_rfl) (by kernel_rfl) (by kernel_rfl) (by kernel_rfl) (by kernel_rfl) (fun _ _ d _ _ h => by cases d <;> exact h) h40 ?_
  intro w44 h45
  refine yD _ [(35, .pointer (some ⟨b, 1, none⟩)), (34, pV b), (33, iV ix), (32, pV r2), (31, pV b)] [e0 0, e0 1, e2 2 [iV ix], e0 3, e0 4] [(2, ⟨r2, 0, none⟩, iV ix)] [] trivial (kC (sat_cell h45 1 rfl rfl) nC) ?_
  refine draw_law (i := 5) 36 (.pointer (some ⟨b, q * 2 + 1, none⟩)) [] (by kernel_rfl) (fun _ _ => law_indexArr (o := opA (RA Try.f60 [1, 1, 0, 1, 1, 1]) 5) (x := (Operand.tmp 35)) (i := (Operand.tmp 33)) (b := b) (off := 1) (z := ix) (by kernel_rfl) Try.underlying111 2 (by kernel_rfl) q (by kernel_rfl) (by kernel_rfl) (by omega) (by omega) (q * 2 + 1) (by omega) _) (by intro q hq; cases hq) ?_
  refine yD _ [(37, .pointer (some ⟨b, q * 2 + 1, none⟩))] [e0 6] [] [] trivial nC ?_
  refine draw_act (i := 7) [] (by kernel_rfl) (by kernel_rfl) ?_
  refine an_store [(q * 2 + 1, iV 2)] (cs' := (tbl n ((A.set q (2, x.2)) ++ T38))) (by kernel_rfl) (by kernel_rfl) (allq ⟨⟨by rw [tbl_len]; omega, rfl⟩, trivial⟩) (tbl_putSk hx 2 (by omega)) h45 ?_
  intro w46 h47
  refine ⟨(AllC_nil _), ?_⟩
  have hA_ : (A.set q (2, x.2)) = giveA A q gn := by unfold giveA; rw [if_neg (by omega), show x.2 = gn from by omega]
  have h48 : sat g w46 [Cl b (tbl n ((giveA A q gn) ++ T38)) 113, Cl r2 [iV ix, uV gn] 34, R] := hA_ ▸ h47
  have h49 : sat g w46 [Tb b n (giveA A q gn), Cl r2 [iV ix, uV gn] 34, R] := tb_close ⟨by unfold giveA; split <;> (rw [List.length_set]; exact hp39.1), hp39.2.1, hp39.2.2.1, slOk_give hp39.2.2.2.1 hx (by omega), by have h_ := hp39.2.2.2.2; rw [List.length_append] at h_ ⊢; unfold giveA; split <;> (rw [List.length_set]; exact h_)⟩ h48
  refine yK [] fun lr50 => ?_
  refine ySq ?_
  refine yPl [0] ?_
  refine yB0 [] [0] [(4, iV 0)] (.mk ?_)
  refine yK [(4, iV 0)] fun lr51 => ?_
  refine yRt ?_
  repeat (first | simp only [Exit.inBlock] | simp only [Exit.then])
  have h52 := tk2 (sf1 (sf2 h49))
  refine hi_out [] (iV 0) [] (by kernel_rfl) (by intro q hq; cases hq) ?_
  exact ⟨iV 0, [Tb b n (giveA A q gn)], rfl, ⟨rfl, rfl⟩, h52⟩

set_option maxHeartbeats 4000000 in
theorem scopy_ht (b n : Nat) (A : List Sl2) : HT Try.prog 53 [Value.pointer (some ⟨b, 0, none⟩)] [Tb b n A] (fun v K => ∃ b2 : Nat, v = Value.pointer (some ⟨b2, 0, none⟩) ∧ K = [Tb b n A, Tb b2 n A]) := by
 refine hi_in 10 ([(0, pV b)] : Fr) Try.func53 (by kernel_rfl) Try.ntmps53 rfl rfl ?_
 intro g w0 R h0
 refine ySq ?_
 refine yPl [0] ?_
 refine yB0 [] [0] [(2, .pointer none)] (.mk ?_)
 refine yK [(0, pV b)] fun lr1 => ?_
 refine ySq ?_
 refine ySq ?_
 refine yPl [0, 1, 2] ?_
 refine yB0 [1, 2] [0] [(4, pV b)] ?_
 refine yA ?_
 refine yCl 5 Try.call69 (svalid_ht b n A) h0 ?_
 rintro v K w2 (⟨rfl, rfl⟩) h3
 refine ⟨_, rfl, ?_⟩
 have h4 := ap1 h3
 refine yB0 [] [2] [(6, .bool false)] (.mk ?_)
 refine yK [(0, pV b), (6, .bool false)] fun lr5 => ?_
 refine yCf ?_
 refine ySk ?_
 refine ySq ?_
 obtain ⟨T6, hp7, h8⟩ := tb_open h4
 have hq9 := hp7.2.1; have hq10 := hp7.2.2.1; have hq11 := hp7.2.2.2.2
 refine yPl [0, 1, 2, 3, 4] ?_
 refine yB0 [2, 3, 4] [0, 1] [(8, pV b), (7, pV b)] ?_
 refine plain_law (i := 2) 9 (.agg (tbl n (A ++ T6)).toArray) (by kernel_rfl) (law_loadRow (o := opA (RA Try.f53 [1, 1, 0]) 2) (x := (Operand.tmp 8)) (by kernel_rfl) 0 h8 rfl _ rfl Try.underlying113 (by rw [tbl_len, hp7.2.2.2.2]; kernel_rfl) (by kernel_rfl)) ?_
 refine yA ?_
 refine an_new (d := 3) (fun xb_ => pV xb_) (fun xb_ => Obj.cells (tbl 0 (List.replicate 256 (0, 0))).toArray 113 (0, 0)) (fun xb_ => by kernel_rfl) (by kernel_rfl) rfl h8 ?_
 intro r12 w13 (h14 : sat g w13 [Cl r12 (tbl 0 (List.replicate 256 (0, 0))) 113, Cl b (tbl n (A ++ T6)) 113, R])
 refine yA ?_
 refine an_storeRow (t := 113) (x := (Operand.tmp 3)) (y := (Operand.tmp 9)) (cs := (tbl n (A ++ T6))) (by kernel_rfl) (by kernel_rfl) h14 (by rw [tbl_len, hp7.2.2.2.2]; kernel_rfl) (by rw [tbl_len, tbl_len, hp7.2.2.2.2, List.length_replicate]) (tbl_one _ _) (by kernel_rfl) (by kernel_rfl) ?_
 intro w15 h16
 refine PO.mk ?_
 refine yK [(3, pV r12)] fun lr17 => ?_
 refine ySq ?_
 refine yPl [0] ?_
 refine yB0 [] [0] [(2, pV r12)] (.mk ?_)
 refine yK [(2, pV r12)] fun lr18 => ?_
 refine yRt ?_
 repeat (first | simp only [Exit.inBlock] | simp only [Exit.then])
 have h19 : sat g w15 [Tb r12 n A, Cl b (tbl n (A ++ T6)) 113, R] := tb_close hp7 h16
 have h20 := tk3 (sf2 (sf1 (sf2 h19)))
 have h21 : sat g w15 [Tb b n A, Tb r12 n A, R] := tb_close hp7 h20
 refine hi_out [] (pV r12) [] (by kernel_rfl) (by intro q hq; cases hq) ?_
 exact ⟨pV r12, [Tb b n A, Tb r12 n A], rfl, ⟨r12, rfl, rfl⟩, h21⟩

end Go.Proofs.Ytjjpmehiolejgaa
