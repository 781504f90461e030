/- Walks, printed by my generator ../fds/gen4.py. -/
import Derived.Test.YtjjpmehiolejgaaF3
namespace Go.Proofs.Ytjjpmehiolejgaa
set_option maxHeartbeats 4000000 in
theorem take_ht (b n : Nat) (A : List Sl2) : HT Try.prog 59 [Value.pointer (some ⟨b, 0, none⟩)] [Tb b n A] (fun v K => v = Value.tuple #[Value.agg #[Value.int .i64 (takeV A).1, Value.int .u32 (takeV A).2.1], Value.int .i64 (takeV A).2.2] ∧ K = [Tb b n (takeA A)]) := by
 refine hi_in 24 ([(0, pV b)] : Fr) Try.func59 (by kernel_rfl) Try.ntmps59 rfl rfl ?_
 intro g w0 R h0
 refine ySq ?_
 refine yPl [0, 1, 2] ?_
 refine yA ?_
 refine yNp 1 72 [pV b] h0 fun r1 w2 h3 => ?_
 refine yA ?_
 refine yNp 2 34 [iV 0, uV 0] h3 fun r4 w5 h6 => ?_
 refine yA ?_
 refine yNp 3 23 [iV 0] h6 fun r7 w8 h9 => ?_
 refine PO.mk ?_
 refine yK [(0, pV b), (1, pV r1), (2, pV r4), (3, pV r7)] fun lr10 => ?_
 refine ySq ?_
 refine ySq ?_
 refine yPl [0, 1, 2] ?_
 refine yBb [1, 2] [(6, pV b)] [e2 0 [pV b]] [(0, ⟨r1, 0, none⟩, pV b)] [] trivial (kC (sat_cell h9 2 rfl rfl) nC) ?_
 have h11 := tk5 (sf4 (sf3 (sf3 (sf3 (sf4 h9)))))
 refine yA ?_
 refine yCl 7 Try.call69 (svalid_ht b n A) h11 ?_
 rintro v K w12 (⟨rfl, rfl⟩) h13
 refine ⟨_, rfl, ?_⟩
 have h14 := ap1 h13
 refine yB0 [] [2] [(8, .bool false)] (.mk ?_)
 refine yK [(0, pV b), (1, pV r1), (2, pV r4), (3, pV r7), (8, .bool false)] fun lr15 => ?_
 refine yCf ?_
 refine ySk ?_
 refine ySq ?_
 refine ySq ?_
 refine yPl [0, 1] ?_
 refine yBb [1] [(10, pV b)] [e2 0 [pV b]] [(0, ⟨r1, 0, none⟩, pV b)] [] trivial (kC (sat_cell h14 3 rfl rfl) nC) ?_
 refine yA ?_
 refine yCl 11 Try.call70 (in_ht b 0) h14 ?_
 rintro v K w18 (⟨b16, b17, rfl, rfl⟩) h19
 refine ⟨_, rfl, ?_⟩
 have h20 := ap2 h19
 refine PO.mk ?_
 refine yK [(0, pV b), (1, pV r1), (2, pV r4), (3, pV r7), (8, .bool false), (11, .func (Fn.func 76) #[] #[pV b16, pV b17])] fun lr21 => ?_
 refine yBk 0 ?_
 have hb22 := tb_bd (j := 2) h20 rfl
 have hb23 := hb22.2.1; have hb24 := hb22.2.2.1
 have h25 := tk7 (sf6 (sf5 (sf4 (sf3 (sf3 (sf3 (sf6 h20)))))))
 refine gi_rf (x := (Operand.tmp 11)) (ps := #[12, 13]) (asg := CA Try.f59 [1, 1, 0, 1, 0, 1]) (bd := CA Try.f59 [1, 1, 0, 1, 0, 0]) (gf := 76) (cap := [pV b16, pV b17]) (N := ((inS 0 A 0).length)) (xs := fun i => [iV (((((inS 0 A 0).getD i (0, 0)).1 : Nat) : Int)), uV (((inS 0 A 0).getD i (0, 0)).2)]) (At := [Cl b16 [pV b] 72, Cl b17 [iV 0] 3, Tb b n A]) (K0 := [Cl r1 [pV b] 72, Cl r4 [iV 0, uV 0] 34, Cl r7 [iV 0] 23]) (L := [R]) (fun i => [(13, uV (((inS 0 A 0).getD i (0, 0)).2)), (12, iV (((((inS 0 A 0).getD i (0, 0)).1 : Nat) : Int)))] ++ (([(0, pV b), (1, pV r1), (2, pV r4), (3, pV r7), (8, .bool false), (11, .func (Fn.func 76) #[] #[pV b16, pV b17])] : Fr) ++ lr21)) (fun i => ([(5, uV (((inS 0 A 0).getD i (0, 0)).2)), (4, iV (((((inS 0 A 0).getD i (0, 0)).1 : Nat) : Int))), (13, uV (((inS 0 A 0).getD i (0, 0)).2)), (12, iV (((((inS 0 A 0).getD i (0, 0)).1 : Nat) : Int)))] : Fr) ++ (([(0, pV b), (1, pV r1), (2, pV r4), (3, pV r7), (8, .bool false), (11, .func (Fn.func 76) #[] #[pV b16, pV b17])] : Fr) ++ lr21)) (fun i K => (i = 0) ∧ K = [Cl r1 [pV b] 72, Cl r4 [iV 0, uV 0] 34, Cl r7 [iV 0] 23]) (fun c i K => (c = Code.ret ∧ (i = 0) ∧ K = [Cl r1 [pV b] 72, Cl r4 [iV (((((inS 0 A 0).getD i (0, 0)).1 : Nat) : Int)), uV (((inS 0 A 0).getD i (0, 0)).2)] 34, Cl r7 [iV 0] 23, Tb b n (A.set ((inS 0 A 0).getD i (0, 0)).1 (1, ((inS 0 A 0).getD i (0, 0)).2))])) (by kernel_rfl) (by kernel_rfl) Try.call76 (in_it b16 b17 b n 0 A (by omega) (by omega)) ⟨rfl, rfl⟩ h25 (fun _ _ => rfl) (fun _ _ => rf_frame2 rfl rfl) ?_ ?_ ?_ ?_
 ·
  intro i hi_ lp_ w26 K_ hk27
  change WP _ _ (CA Try.f59 [1, 1, 0, 1, 0, 1]) _ (mk 24 (([(13, uV (((inS 0 A 0).getD i (0, 0)).2)), (12, iV (((((inS 0 A 0).getD i (0, 0)).1 : Nat) : Int))), (0, pV b), (1, pV r1), (2, pV r4), (3, pV r7), (8, .bool false), (11, .func (Fn.func 76) #[] #[pV b16, pV b17])] : Fr) ++ lr21)) _
  refine ySq ?_
  refine yPl [0] ?_
  refine yB0 [] [0] [(4, iV (((((inS 0 A 0).getD i (0, 0)).1 : Nat) : Int)))] (.mk ?_)
  refine yPl [0] ?_
  refine yB0 [] [0] [(5, uV (((inS 0 A 0).getD i (0, 0)).2))] (.mk ?_)
  exact hk27
 ·
  rintro i hi30 lp_ w28 K_ G ⟨hz0, rfl⟩ h29
  have h31 : sat g w28 [Cl r1 [pV b] 72, Cl r4 [iV 0, uV 0] 34, Cl r7 [iV 0] 23, Cl b16 [pV b] 72, Cl b17 [iV 0] 3, Tb b n A, G] := h29
  change WP _ _ (CA Try.f59 [1, 1, 0, 1, 0, 0]) _ (mk 24 (([(5, uV (((inS 0 A 0).getD i (0, 0)).2)), (4, iV (((((inS 0 A 0).getD i (0, 0)).1 : Nat) : Int))), (13, uV (((inS 0 A 0).getD i (0, 0)).2)), (12, iV (((((inS 0 A 0).getD i (0, 0)).1 : Nat) : Int))), (0, pV b), (1, pV r1), (2, pV r4), (3, pV r7), (8, .bool false), (11, .func (Fn.func 76) #[] #[pV b16, pV b17])] : Fr) ++ lr21)) _
  obtain ⟨x0, hx0, hx1, hx2⟩ : ∃ x : Sl2, A[((inS 0 A 0).getD i (0, 0)).1]? = some x ∧ x.1 = 0 ∧ x.2 = ((inS 0 A 0).getD i (0, 0)).2 := ⟨_, inS_get hi30, rfl, rfl⟩
  have hlt_ : ((inS 0 A 0).getD i (0, 0)).1 < n := by have h_ := (List.getElem?_eq_some_iff.1 hx0).1; rw [hb22.1] at h_; exact h_
  refine yBk 1 ?_
  refine ySq ?_
  have h32 := tk7 (sf6 (sf5 (sf5 (sf5 (sf5 (sf5 (sf6 h31)))))))
  obtain ⟨T33, hp34, h35⟩ := tb_open h32
  have hq36 := hp34.2.1; have hq37 := hp34.2.2.1; have hq38 := hp34.2.2.2.2
  refine yPl [0, 1, 2, 3, 4, 5, 6] ?_
  refine yBb [4, 5, 6] [(17, .pointer (some ⟨b, 1, none⟩)), (16, pV b), (15, iV (((((inS 0 A 0).getD i (0, 0)).1 : Nat) : Int))), (14, pV b)] [e2 0 [pV b], e0 1, e0 2, e0 3] [(0, ⟨r1, 0, none⟩, pV b)] [] trivial (kC (sat_cell h35 1 rfl rfl) nC) ?_
  refine plain_law (i := 4) 18 (.pointer (some ⟨b, (((inS 0 A 0).getD i (0, 0)).1) * 2 + 1, none⟩)) (by kernel_rfl) (law_indexArr (o := opA (RA Try.f59 [1, 1, 0, 1, 0, 0, 0, 0]) 4) (x := (Operand.tmp 17)) (i := (Operand.tmp 15)) (b := b) (off := 1) (z := (((((inS 0 A 0).getD i (0, 0)).1 : Nat) : Int))) (by kernel_rfl) Try.underlying111 2 (by kernel_rfl) ((((inS 0 A 0).getD i (0, 0)).1)) (by kernel_rfl) (by kernel_rfl) (by omega) (by omega) ((((inS 0 A 0).getD i (0, 0)).1) * 2 + 1) (by omega) _) ?_
  refine yB0 [6] [5] [(19, .pointer (some ⟨b, (((inS 0 A 0).getD i (0, 0)).1) * 2 + 1, none⟩))] ?_
  refine yA ?_
  refine an_store [((((inS 0 A 0).getD i (0, 0)).1) * 2 + 1, iV 1)] (cs' := (tbl n ((A.set ((((inS 0 A 0).getD i (0, 0)).1)) (1, x0.2)) ++ T33))) (by kernel_rfl) (by kernel_rfl) (allq ⟨⟨by rw [tbl_len]; omega, rfl⟩, trivial⟩) (tbl_putSk hx0 1 (by omega)) h35 ?_
  intro w39 h40
  refine PO.mk ?_
  have h41 : sat g w39 [Tb b n (A.set ((((inS 0 A 0).getD i (0, 0)).1)) (1, x0.2)), Cl r1 [pV b] 72, Cl r4 [iV 0, uV 0] 34, Cl r7 [iV 0] 23, Cl b16 [pV b] 72, Cl b17 [iV 0] 3, G] := tb_close ⟨by simp only [List.length_set]; exact hp34.1, hp34.2.1, hp34.2.2.1, (slOk_set hp34.2.2.2.1 (by have hk_ := hp34.2.2.2.1 _ (List.mem_of_getElem? hx0); omega)), by have h_ := hp34.2.2.2.2; simpa using h_⟩ h40
  refine yK [(0, pV b), (1, pV r1), (2, pV r4), (3, pV r7), (4, iV (((((inS 0 A 0).getD i (0, 0)).1 : Nat) : Int))), (5, uV (((inS 0 A 0).getD i (0, 0)).2)), (8, .bool false), (11, .func (Fn.func 76) #[] #[pV b16, pV b17]), (12, iV (((((inS 0 A 0).getD i (0, 0)).1 : Nat) : Int))), (13, uV (((inS 0 A 0).getD i (0, 0)).2))] fun lr42 => ?_
  refine ySq ?_
  refine yPl [0, 1, 2, 3, 4] ?_
  refine yB0 [3, 4] [0, 1, 2] [(22, .agg #[iV (((((inS 0 A 0).getD i (0, 0)).1 : Nat) : Int)), uV (((inS 0 A 0).getD i (0, 0)).2)]), (21, uV (((inS 0 A 0).getD i (0, 0)).2)), (20, iV (((((inS 0 A 0).getD i (0, 0)).1 : Nat) : Int)))] ?_
  have h43 := tk7 (sf6 (sf5 (sf5 (sf6 (sf6 (sf6 (sf6 h41)))))))
  refine yA ?_
  refine yS [(0, iV (((((inS 0 A 0).getD i (0, 0)).1 : Nat) : Int))), (1, uV (((inS 0 A 0).getD i (0, 0)).2))] [iV (((((inS 0 A 0).getD i (0, 0)).1 : Nat) : Int)), uV (((inS 0 A 0).getD i (0, 0)).2)] h43 fun w44 h45 => ?_
  have h46 := tk7 (sf6 (sf5 (sf5 (sf5 (sf6 (sf6 (sf6 h45)))))))
  refine yA ?_
  refine yS [(0, iV 0)] [iV 0] h46 fun w47 h48 => ?_
  refine PO.mk ?_
  refine yK [(0, pV b), (1, pV r1), (2, pV r4), (3, pV r7), (4, iV (((((inS 0 A 0).getD i (0, 0)).1 : Nat) : Int))), (5, uV (((inS 0 A 0).getD i (0, 0)).2)), (8, .bool false), (11, .func (Fn.func 76) #[] #[pV b16, pV b17]), (12, iV (((((inS 0 A 0).getD i (0, 0)).1 : Nat) : Int))), (13, uV (((inS 0 A 0).getD i (0, 0)).2))] fun lr49 => ?_
  refine yRt ?_
  repeat (first | simp only [Exit.inBlock] | simp only [Exit.then])
  have h50 := tk7 (sf6 (sf5 (sf5 (sf6 (sf6 (sf6 (sf6 h48)))))))
  have h51 : sat g w47 [Tb b n (A.set ((inS 0 A 0).getD i (0, 0)).1 (1, ((inS 0 A 0).getD i (0, 0)).2)), Cl r7 [iV 0] 23, Cl r4 [iV (((((inS 0 A 0).getD i (0, 0)).1 : Nat) : Int)), uV (((inS 0 A 0).getD i (0, 0)).2)] 34, Cl r1 [pV b] 72, Cl b16 [pV b] 72, Cl b17 [iV 0] 3, G] := (show (1, x0.2) = ((1, ((inS 0 A 0).getD i (0, 0)).2) : Sl2) from by rw [hx2]) ▸ h50
  have h52 := tk7 (sf6 (sf5 (sf4 (sf3 (sf6 (sf5 (sf5 h51)))))))
  have h53 := tk5 h52
  exact ⟨_, ⟨rfl, hz0, rfl⟩, h53⟩
 ·
  rintro D54 w55 K_ ⟨hz0, rfl⟩ h56
  have h57 : sat g w55 [pt D54 (Obj.deferred (some [])), Cl r1 [pV b] 72, Cl r4 [iV 0, uV 0] 34, Cl r7 [iV 0] 23, Cl b16 [pV b] 72, Cl b17 [iV 0] 3, Tb b n A, R] := h56
  refine yK [(2, pV r4), (3, pV r7)] fun lr58 => ?_
  refine ySq ?_
  refine yPl [0, 1, 2] ?_
  refine yB0 [1, 2] [0] [(23, .agg #[iV 0, uV 0])] ?_
  have h59 := tk8 (sf7 (sf6 (sf6 (sf7 (sf7 (sf7 (sf7 (sf7 h57))))))))
  refine yA ?_
  refine yS [(0, iV 0), (1, uV 0)] [iV 0, uV 0] h59 fun w60 h61 => ?_
  have h62 := tk8 (sf7 (sf6 (sf6 (sf6 (sf7 (sf7 (sf7 (sf7 h61))))))))
  refine yA ?_
  refine yS [(0, iV 4)] [iV 4] h62 fun w63 h64 => ?_
  refine PO.mk ?_
  refine yK [(2, pV r4), (3, pV r7)] fun lr65 => ?_
  refine yRt ?_
  repeat (first | simp only [Exit.inBlock] | simp only [Exit.then])
  have h66 := tk8 (sf7 (sf6 (sf6 (sf7 (sf7 (sf7 (sf7 (sf7 h64))))))))
  refine hi_out1 h66 [iV 0, uV 0, iV 4] (.tuple #[.agg #[iV 0, uV 0], iV 4]) [(⟨r4, 0, none⟩, iV 0), (⟨r4, 1, none⟩, uV 0), (⟨r7, 0, none⟩, iV 4)] (by kernel_rfl) (fun w68 h67 => ⟨?_, ?_⟩)
  · exact (allq ⟨sat_cell h67 2 rfl rfl, sat_cell h67 2 rfl rfl, sat_cell h67 1 rfl rfl, trivial⟩)
  ·
   have h69 : sat g w68 [pt D54 (Obj.deferred none), Cl r7 [iV 4] 23, Cl r4 [iV 0, uV 0] 34, Cl r1 [pV b] 72, Cl b16 [pV b] 72, Cl b17 [iV 0] 3, Tb b n A, R] := h67
   have h70 := tk8 (sf7 (sf6 (sf6 (sf6 (sf6 (sf6 (sf6 (sf7 h69))))))))
   have h71 := tk2 (sf1 (sf7 h70))
   exact ⟨.tuple #[.agg #[iV 0, uV 0], iV 4], [Tb b n A], rfl, ⟨by rw [(take_none (by omega)).1], by rw [(take_none (by omega)).2]⟩, h71⟩
 ·
  rintro D72 w73 ex_ i K_ hi75 (⟨rfl, hz0, rfl⟩) h74
  ·
   have h76 : sat g w73 [pt D72 (Obj.deferred (some [])), Cl r1 [pV b] 72, Cl r4 [iV (((((inS 0 A 0).getD i (0, 0)).1 : Nat) : Int)), uV (((inS 0 A 0).getD i (0, 0)).2)] 34, Cl r7 [iV 0] 23, Tb b n (A.set ((inS 0 A 0).getD i (0, 0)).1 (1, ((inS 0 A 0).getD i (0, 0)).2)), R] := h74
   refine gi_rt rfl ?_
   repeat (first | simp only [Exit.inBlock] | simp only [Exit.then])
   refine hi_out1 h76 [iV (((((inS 0 A 0).getD i (0, 0)).1 : Nat) : Int)), uV (((inS 0 A 0).getD i (0, 0)).2), iV 0] (.tuple #[.agg #[iV (((((inS 0 A 0).getD i (0, 0)).1 : Nat) : Int)), uV (((inS 0 A 0).getD i (0, 0)).2)], iV 0]) [(⟨r4, 0, none⟩, iV (((((inS 0 A 0).getD i (0, 0)).1 : Nat) : Int))), (⟨r4, 1, none⟩, uV (((inS 0 A 0).getD i (0, 0)).2)), (⟨r7, 0, none⟩, iV 0)] (by kernel_rfl) (fun w78 h77 => ⟨?_, ?_⟩)
   · exact (allq ⟨sat_cell h77 2 rfl rfl, sat_cell h77 2 rfl rfl, sat_cell h77 3 rfl rfl, trivial⟩)
   ·
    have h79 : sat g w78 [pt D72 (Obj.deferred none), Cl r1 [pV b] 72, Cl r4 [iV (((((inS 0 A 0).getD i (0, 0)).1 : Nat) : Int)), uV (((inS 0 A 0).getD i (0, 0)).2)] 34, Cl r7 [iV 0] 23, Tb b n (A.set ((inS 0 A 0).getD i (0, 0)).1 (1, ((inS 0 A 0).getD i (0, 0)).2)), R] := h77
    have h80 := tk6 (sf5 (sf4 (sf4 (sf4 (sf4 (sf5 h79))))))
    have h81 := tk2 (sf1 (sf5 h80))
    exact ⟨.tuple #[.agg #[iV (((((inS 0 A 0).getD i (0, 0)).1 : Nat) : Int)), uV (((inS 0 A 0).getD i (0, 0)).2)], iV 0], [Tb b n (A.set ((inS 0 A 0).getD i (0, 0)).1 (1, ((inS 0 A 0).getD i (0, 0)).2))], rfl, ⟨by obtain rfl : i = 0 := (by omega); rw [(take_some (by omega)).1], by obtain rfl : i = 0 := (by omega); rw [(take_some (by omega)).2]⟩, h81⟩

end Go.Proofs.Ytjjpmehiolejgaa
