/- Walks, printed by my generator gen19.py. -/
import Derived.Test.YtjjpmehiolejgaaF18
namespace Go.Proofs.Ytjjpmehiolejgaa
set_option maxHeartbeats 4000000 in
theorem known_law (wo : World) : HT Try.prog 3 [] [Old wo] (fun v K => v = Value.bool true ∧ K = [Old wo]) := by
  refine hi_in 204 ([] : Fr) Try.func3 (by kernel_rfl) Try.ntmps3 rfl rfl ?_
  intro g w0 R h0
  change WP _ _ (CA Try.f3 []) _ _ _
  refine zSq (by kernel_rfl) ?_
  refine zPl [0] (by kernel_rfl) ?_
  refine zB0 [] [0] [(0, .bool false)] (by kernel_rfl) ?_
  refine PO.mk ?_
  change WP _ _ (CA Try.f3 [1]) _ _ _
  refine fk_cut ([] : Fr) (by kernel_rfl) (fun a => WP _ _ _ _ a _) (fun lr1 => ?_)
  refine zSq (by kernel_rfl) ?_
  refine zPl [0, 1, 2, 3, 4, 5] (by kernel_rfl) ?_
  refine plain_act (i := 0) (by kernel_rfl) ?_
  refine zCl 33 Try.call11 (tnew_no (0) 1 (by omega) (by omega)) h0 (by kernel_rfl) ?_
  rintro v K w2 (⟨rfl, rfl⟩) h3
  refine ⟨_, rfl, ?_⟩
  have h4 : sat g w2 [Old wo, R] := h3
  refine zB0 [] [1, 2, 3, 4, 5] [(2, iV 2), (1, .pointer none), (35, iV 2), (34, .pointer none), (32, .tuple #[.pointer none, iV 2])] (by kernel_rfl) ?_
  refine PO.mk ?_
  change WP _ _ (CA Try.f3 [1, 1]) _ _ _
  refine fk_cut ([(2, iV 2)] : Fr) (by kernel_rfl) (fun a => WP _ _ _ _ a _) (fun lr5 => ?_)
  refine zSq (by kernel_rfl) ?_
  refine zPl [0, 1, 2, 3, 4, 5] (by kernel_rfl) ?_
  refine plain_act (i := 0) (by kernel_rfl) ?_
  refine zCl 37 Try.call11 (tnew_no (257) 1 (by omega) (by omega)) h4 (by kernel_rfl) ?_
  rintro v K w6 (⟨rfl, rfl⟩) h7
  refine ⟨_, rfl, ?_⟩
  have h8 : sat g w6 [Old wo, R] := h7
  refine zB0 [] [1, 2, 3, 4, 5] [(4, iV 2), (3, .pointer none), (39, iV 2), (38, .pointer none), (36, .tuple #[.pointer none, iV 2])] (by kernel_rfl) ?_
  refine PO.mk ?_
  change WP _ _ (CA Try.f3 [1, 1, 1]) _ _ _
  refine fk_cut ([(2, iV 2), (4, iV 2)] : Fr) (by kernel_rfl) (fun a => WP _ _ _ _ a _) (fun lr9 => ?_)
  refine zSq (by kernel_rfl) ?_
  refine zPl [0, 1, 2, 3, 4, 5] (by kernel_rfl) ?_
  refine plain_act (i := 0) (by kernel_rfl) ?_
  refine zCl 41 Try.call11 (tnew_no (1) 0 (by omega) (by omega)) h8 (by kernel_rfl) ?_
  rintro v K w10 (⟨rfl, rfl⟩) h11
  refine ⟨_, rfl, ?_⟩
  have h12 : sat g w10 [Old wo, R] := h11
  refine zB0 [] [1, 2, 3, 4, 5] [(6, iV 2), (5, .pointer none), (43, iV 2), (42, .pointer none), (40, .tuple #[.pointer none, iV 2])] (by kernel_rfl) ?_
  refine PO.mk ?_
  change WP _ _ (CA Try.f3 [1, 1, 1, 1]) _ _ _
  refine fk_cut ([(2, iV 2), (4, iV 2), (6, iV 2)] : Fr) (by kernel_rfl) (fun a => WP _ _ _ _ a _) (fun lr13 => ?_)
  refine zSq (by kernel_rfl) ?_
  refine zPl [0, 1, 2, 3, 4, 5] (by kernel_rfl) ?_
  refine plain_act (i := 0) (by kernel_rfl) ?_
  refine zCl 45 Try.call11 (tnew_lit 1 4294967295 (by omega) (by omega) [(0, 4294967295)] (by kernel_rfl)) h12 (by kernel_rfl) ?_
  rintro v K w15 (⟨b14, rfl, rfl⟩) h16
  refine ⟨_, rfl, ?_⟩
  have h17 : sat g w15 [Tab b14 1 [(0, 4294967295)] [] [], Old wo, R] := h16
  refine zB0 [] [1, 2, 3, 4, 5] [(8, iV 0), (7, pV b14), (47, iV 0), (46, pV b14), (44, .tuple #[pV b14, iV 0])] (by kernel_rfl) ?_
  refine PO.mk ?_
  change WP _ _ (CA Try.f3 [1, 1, 1, 1, 1]) _ _ _
  refine fk_cut ([(2, iV 2), (4, iV 2), (6, iV 2), (7, pV b14), (8, iV 0)] : Fr) (by kernel_rfl) (fun a => WP _ _ _ _ a _) (fun lr18 => ?_)
  refine zSq (by kernel_rfl) ?_
  refine zSq (by kernel_rfl) ?_
  refine zPl [0, 1, 2, 3, 4, 5, 6, 7, 8, 9, 10, 11, 12, 13] (by kernel_rfl) ?_
  refine zB0 [] [0, 1, 2, 3, 4, 5, 6, 7, 8, 9, 10, 11, 12, 13] [(61, .bool false), (60, .bool false), (59, iV 0), (58, .bool false), (57, .bool false), (56, .bool false), (55, iV 2), (54, .bool false), (53, .bool false), (52, .bool false), (51, iV 2), (50, .bool false), (49, .bool false), (48, iV 2)] (by kernel_rfl) ?_
  refine PO.mk ?_
  change WP _ _ (CA Try.f3 [1, 1, 1, 1, 1, 0, 1]) _ _ _
  refine fk_cut ([(7, pV b14), (61, .bool false)] : Fr) (by kernel_rfl) (fun a => WP _ _ _ _ a _) (fun lr19 => ?_)
  refine zCf (by kernel_rfl) ?_
  refine gi_skp (by kernel_rfl) ?_
  change WP _ _ (CA Try.f3 [1, 1, 1, 1, 1, 1]) _ _ _
  refine zSq (by kernel_rfl) ?_
  refine zPl [0, 1, 2, 3, 4, 5, 6, 7, 8, 9] (by kernel_rfl) ?_
  refine zB0 [3, 4, 5, 6, 7, 8, 9] [0, 1, 2] [(65, .agg #[iV 0, uV 0]), (64, .agg #[iV 0, iV 0, uV 0]), (63, pV b14)] (by kernel_rfl) ?_
  refine plain_act (i := 3) (by kernel_rfl) ?_
  refine zCl 66 Try.call12 (topen_out b14 1 [(0, 4294967295)] [] [] (0) (0) (0) (0) (0) [] (by omega) (by omega) (by simp only [List.length_cons, List.length_nil]; omega) (by omega)) h17 (by kernel_rfl) ?_
  rintro v K w20 (⟨rfl, rfl⟩) h21
  refine ⟨_, rfl, ?_⟩
  have h22 : sat g w20 [Tab b14 1 [(0, 4294967295)] [] [], Old wo, R] := h21
  refine zB0 [7, 8, 9] [4, 5, 6] [(68, iV 2), (67, .agg #[iV 0, iV 0, uV 0]), (62, .tuple #[.agg #[iV 0, iV 0, uV 0], iV 2])] (by kernel_rfl) ?_
  refine plain_act (i := 7) (by kernel_rfl) ?_
  refine an_new (d := 9) (fun xb_ => pV xb_) (fun xb_ => Obj.cells [iV 0, iV 0, uV 0].toArray 28 (0, 0)) (fun xb_ => by kernel_rfl) (by kernel_rfl) rfl h22 ?_
  intro r23 w24 (h25 : sat g w24 [Cl r23 [iV 0, iV 0, uV 0] 28, Tab b14 1 [(0, 4294967295)] [] [], Old wo, R])
  refine plain_act (i := 8) (by kernel_rfl) ?_
  refine an_store [(0, iV 0), (1, iV 0), (2, uV 0)] (cs' := [iV 0, iV 0, uV 0]) (by kernel_rfl) (by kernel_rfl) (allq ⟨⟨by simp, rfl⟩, ⟨by simp, rfl⟩, ⟨by simp, rfl⟩, trivial⟩) rfl h25 ?_
  intro w26 (h27 : sat g w26 [Cl r23 [iV 0, iV 0, uV 0] 28, Tab b14 1 [(0, 4294967295)] [] [], Old wo, R])
  refine zB0 [] [9] [(10, iV 2)] (by kernel_rfl) ?_
  refine PO.mk ?_
  change WP _ _ (CA Try.f3 [1, 1, 1, 1, 1, 1, 1]) _ _ _
  refine fk_cut ([(7, pV b14), (10, iV 2)] : Fr) (by kernel_rfl) (fun a => WP _ _ _ _ a _) (fun lr28 => ?_)
  refine zSq (by kernel_rfl) ?_
  refine zPl [0, 1, 2, 3, 4, 5, 6, 7, 8, 9] (by kernel_rfl) ?_
  refine zB0 [1, 2, 3, 4, 5, 6, 7, 8, 9] [0] [(70, pV b14)] (by kernel_rfl) ?_
  refine plain_act (i := 1) (by kernel_rfl) ?_
  refine zCl 71 Try.call13 (lfile 0 1) h27 (by kernel_rfl) ?_
  rintro v K w29 (⟨rfl, rfl⟩) h30
  refine ⟨_, rfl, ?_⟩
  have h31 : sat g w29 [Cl r23 [iV 0, iV 0, uV 0] 28, Tab b14 1 [(0, 4294967295)] [] [], Old wo, R] := h30
  refine zB0 [3, 4, 5, 6, 7, 8, 9] [2] [(72, .agg #[iV 0, uV 0])] (by kernel_rfl) ?_
  have h32 : sat g w29 [Tab b14 1 [(0, 4294967295)] [] [], Cl r23 [iV 0, iV 0, uV 0] 28, Old wo, R] := sat_sel [1, 0, 2, 3] rfl h31
  refine plain_act (i := 3) (by kernel_rfl) ?_
  refine zCl 73 Try.call12 (topen_tag b14 1 [(0, 4294967295)] [] [] (1) (0) (1) (0) (0) [] (by omega) (by omega) (by simp only [List.length_cons, List.length_nil]; omega) (by omega) (by rw [show tagE [] = 16 from by kernel_rfl]; decide)) h32 (by kernel_rfl) ?_
  rintro v K w33 (⟨rfl, rfl⟩) h34
  refine ⟨_, rfl, ?_⟩
  have h35 : sat g w33 [Tab b14 1 [(0, 4294967295)] [] [], Cl r23 [iV 0, iV 0, uV 0] 28, Old wo, R] := h34
  refine zB0 [7, 8, 9] [4, 5, 6] [(75, iV 16), (74, .agg #[iV 0, iV 0, uV 0]), (69, .tuple #[.agg #[iV 0, iV 0, uV 0], iV 16])] (by kernel_rfl) ?_
  refine plain_act (i := 7) (by kernel_rfl) ?_
  refine an_new (d := 11) (fun xb_ => pV xb_) (fun xb_ => Obj.cells [iV 0, iV 0, uV 0].toArray 28 (0, 0)) (fun xb_ => by kernel_rfl) (by kernel_rfl) rfl h35 ?_
  intro r36 w37 (h38 : sat g w37 [Cl r36 [iV 0, iV 0, uV 0] 28, Tab b14 1 [(0, 4294967295)] [] [], Cl r23 [iV 0, iV 0, uV 0] 28, Old wo, R])
  refine plain_act (i := 8) (by kernel_rfl) ?_
  refine an_store [(0, iV 0), (1, iV 0), (2, uV 0)] (cs' := [iV 0, iV 0, uV 0]) (by kernel_rfl) (by kernel_rfl) (allq ⟨⟨by simp, rfl⟩, ⟨by simp, rfl⟩, ⟨by simp, rfl⟩, trivial⟩) rfl h38 ?_
  intro w39 (h40 : sat g w39 [Cl r36 [iV 0, iV 0, uV 0] 28, Tab b14 1 [(0, 4294967295)] [] [], Cl r23 [iV 0, iV 0, uV 0] 28, Old wo, R])
  refine zB0 [] [9] [(12, iV 16)] (by kernel_rfl) ?_
  refine PO.mk ?_
  change WP _ _ (CA Try.f3 [1, 1, 1, 1, 1, 1, 1, 1]) _ _ _
  refine fk_cut ([(7, pV b14), (10, iV 2), (12, iV 16)] : Fr) (by kernel_rfl) (fun a => WP _ _ _ _ a _) (fun lr41 => ?_)
  refine zSq (by kernel_rfl) ?_
  refine zPl [0, 1, 2, 3, 4, 5, 6, 7, 8, 9] (by kernel_rfl) ?_
  refine zB0 [1, 2, 3, 4, 5, 6, 7, 8, 9] [0] [(77, pV b14)] (by kernel_rfl) ?_
  refine plain_act (i := 1) (by kernel_rfl) ?_
  refine zCl 78 Try.call13 (lfile 0 1) h40 (by kernel_rfl) ?_
  rintro v K w42 (⟨rfl, rfl⟩) h43
  refine ⟨_, rfl, ?_⟩
  have h44 : sat g w42 [Cl r36 [iV 0, iV 0, uV 0] 28, Tab b14 1 [(0, 4294967295)] [] [], Cl r23 [iV 0, iV 0, uV 0] 28, Old wo, R] := h43
  refine zB0 [3, 4, 5, 6, 7, 8, 9] [2] [(79, .agg #[iV 0, uV 0])] (by kernel_rfl) ?_
  have h45 : sat g w42 [Tab b14 1 [(0, 4294967295)] [] [], Cl r36 [iV 0, iV 0, uV 0] 28, Cl r23 [iV 0, iV 0, uV 0] 28, Old wo, R] := sat_sel [1, 0, 2, 3, 4] rfl h44
  refine plain_act (i := 3) (by kernel_rfl) ?_
  refine zCl 80 Try.call12 (topen_arg b14 1 [(0, 4294967295)] [] [] (1) (0) (1) (0) (0) [120] (by omega) (by omega) (by simp only [List.length_cons, List.length_nil]; omega) (by omega) (by kernel_rfl) (by omega)) h45 (by kernel_rfl) ?_
  rintro v K w46 (⟨rfl, rfl⟩) h47
  refine ⟨_, rfl, ?_⟩
  have h48 : sat g w46 [Tab b14 1 [(0, 4294967295)] [] [], Cl r36 [iV 0, iV 0, uV 0] 28, Cl r23 [iV 0, iV 0, uV 0] 28, Old wo, R] := h47
  refine zB0 [7, 8, 9] [4, 5, 6] [(82, iV 2), (81, .agg #[iV 0, iV 0, uV 0]), (76, .tuple #[.agg #[iV 0, iV 0, uV 0], iV 2])] (by kernel_rfl) ?_
  refine plain_act (i := 7) (by kernel_rfl) ?_
  refine an_new (d := 13) (fun xb_ => pV xb_) (fun xb_ => Obj.cells [iV 0, iV 0, uV 0].toArray 28 (0, 0)) (fun xb_ => by kernel_rfl) (by kernel_rfl) rfl h48 ?_
  intro r49 w50 (h51 : sat g w50 [Cl r49 [iV 0, iV 0, uV 0] 28, Tab b14 1 [(0, 4294967295)] [] [], Cl r36 [iV 0, iV 0, uV 0] 28, Cl r23 [iV 0, iV 0, uV 0] 28, Old wo, R])
  refine plain_act (i := 8) (by kernel_rfl) ?_
  refine an_store [(0, iV 0), (1, iV 0), (2, uV 0)] (cs' := [iV 0, iV 0, uV 0]) (by kernel_rfl) (by kernel_rfl) (allq ⟨⟨by simp, rfl⟩, ⟨by simp, rfl⟩, ⟨by simp, rfl⟩, trivial⟩) rfl h51 ?_
  intro w52 (h53 : sat g w52 [Cl r49 [iV 0, iV 0, uV 0] 28, Tab b14 1 [(0, 4294967295)] [] [], Cl r36 [iV 0, iV 0, uV 0] 28, Cl r23 [iV 0, iV 0, uV 0] 28, Old wo, R])
  refine zB0 [] [9] [(14, iV 2)] (by kernel_rfl) ?_
  refine PO.mk ?_
  change WP _ _ (CA Try.f3 [1, 1, 1, 1, 1, 1, 1, 1, 1]) _ _ _
  refine fk_cut ([(7, pV b14), (10, iV 2), (12, iV 16), (14, iV 2)] : Fr) (by kernel_rfl) (fun a => WP _ _ _ _ a _) (fun lr54 => ?_)
  refine zSq (by kernel_rfl) ?_
  refine zPl [0, 1, 2, 3, 4, 5, 6, 7, 8, 9] (by kernel_rfl) ?_
  refine zB0 [1, 2, 3, 4, 5, 6, 7, 8, 9] [0] [(84, pV b14)] (by kernel_rfl) ?_
  refine plain_act (i := 1) (by kernel_rfl) ?_
  refine zCl 85 Try.call13 (lfile 0 1) h53 (by kernel_rfl) ?_
  rintro v K w55 (⟨rfl, rfl⟩) h56
  refine ⟨_, rfl, ?_⟩
  have h57 : sat g w55 [Cl r49 [iV 0, iV 0, uV 0] 28, Tab b14 1 [(0, 4294967295)] [] [], Cl r36 [iV 0, iV 0, uV 0] 28, Cl r23 [iV 0, iV 0, uV 0] 28, Old wo, R] := h56
  refine zB0 [3, 4, 5, 6, 7, 8, 9] [2] [(86, .agg #[iV 1, uV 1])] (by kernel_rfl) ?_
  have h58 : sat g w55 [Tab b14 1 [(0, 4294967295)] [] [], Cl r49 [iV 0, iV 0, uV 0] 28, Cl r36 [iV 0, iV 0, uV 0] 28, Cl r23 [iV 0, iV 0, uV 0] 28, Old wo, R] := sat_sel [1, 0, 2, 3, 4, 5] rfl h57
  refine plain_act (i := 3) (by kernel_rfl) ?_
  refine zCl 87 Try.call12 (topen_lit b14 1 [(0, 4294967295)] [] [] (1) (0) (1) (1) (1) [120] (by omega) (by omega) (by simp only [List.length_cons, List.length_nil]; omega) (by omega) (by kernel_rfl) (by omega) (by decide) (not_has (by decide)) (by decide) 0 4294967295 (by kernel_rfl) (by decide) 0 rfl [(1, 4294967295)] [(0, ⟨(1, 0, 4294967295), 1, (1, 1)⟩)] [⟨(1, 0, 1), 1, 0, 0, 0, [120]⟩] (by kernel_rfl) (by kernel_rfl) (by kernel_rfl)) h58 (by kernel_rfl) ?_
  rintro v K w59 (⟨rfl, rfl⟩) h60
  refine ⟨_, rfl, ?_⟩
  have h61 : sat g w59 [Tab b14 1 [(1, 4294967295)] [(0, ⟨(1, 0, 4294967295), 1, (1, 1)⟩)] ([⟨(1, 0, 1), 1, 0, 0, 0, [120]⟩]), Cl r49 [iV 0, iV 0, uV 0] 28, Cl r36 [iV 0, iV 0, uV 0] 28, Cl r23 [iV 0, iV 0, uV 0] 28, Old wo, R] := h60
  refine zB0 [7, 8, 9] [4, 5, 6] [(89, iV 0), (88, .agg #[iV 1, iV 0, uV 4294967295]), (83, .tuple #[.agg #[iV 1, iV 0, uV 4294967295], iV 0])] (by kernel_rfl) ?_
  refine plain_act (i := 7) (by kernel_rfl) ?_
  refine an_new (d := 15) (fun xb_ => pV xb_) (fun xb_ => Obj.cells [iV 0, iV 0, uV 0].toArray 28 (0, 0)) (fun xb_ => by kernel_rfl) (by kernel_rfl) rfl h61 ?_
  intro r62 w63 (h64 : sat g w63 [Cl r62 [iV 0, iV 0, uV 0] 28, Tab b14 1 [(1, 4294967295)] [(0, ⟨(1, 0, 4294967295), 1, (1, 1)⟩)] ([⟨(1, 0, 1), 1, 0, 0, 0, [120]⟩]), Cl r49 [iV 0, iV 0, uV 0] 28, Cl r36 [iV 0, iV 0, uV 0] 28, Cl r23 [iV 0, iV 0, uV 0] 28, Old wo, R])
  refine plain_act (i := 8) (by kernel_rfl) ?_
  refine an_store [(0, iV 1), (1, iV 0), (2, uV 4294967295)] (cs' := [iV 1, iV 0, uV 4294967295]) (by kernel_rfl) (by kernel_rfl) (allq ⟨⟨by simp, rfl⟩, ⟨by simp, rfl⟩, ⟨by simp, rfl⟩, trivial⟩) rfl h64 ?_
  intro w65 (h66 : sat g w65 [Cl r62 [iV 1, iV 0, uV 4294967295] 28, Tab b14 1 [(1, 4294967295)] [(0, ⟨(1, 0, 4294967295), 1, (1, 1)⟩)] ([⟨(1, 0, 1), 1, 0, 0, 0, [120]⟩]), Cl r49 [iV 0, iV 0, uV 0] 28, Cl r36 [iV 0, iV 0, uV 0] 28, Cl r23 [iV 0, iV 0, uV 0] 28, Old wo, R])
  refine zB0 [] [9] [(16, iV 0)] (by kernel_rfl) ?_
  refine PO.mk ?_
  change WP _ _ (CA Try.f3 [1, 1, 1, 1, 1, 1, 1, 1, 1, 1]) _ _ _
  refine fk_cut ([(7, pV b14), (10, iV 2), (12, iV 16), (14, iV 2), (15, pV r62), (16, iV 0)] : Fr) (by kernel_rfl) (fun a => WP _ _ _ _ a _) (fun lr67 => ?_)
  refine zSq (by kernel_rfl) ?_
  refine zPl [0, 1, 2, 3, 4, 5, 6, 7, 8, 9] (by kernel_rfl) ?_
  refine zB0 [1, 2, 3, 4, 5, 6, 7, 8, 9] [0] [(91, pV b14)] (by kernel_rfl) ?_
  refine plain_act (i := 1) (by kernel_rfl) ?_
  refine zCl 92 Try.call13 (lfile 0 1) h66 (by kernel_rfl) ?_
  rintro v K w68 (⟨rfl, rfl⟩) h69
  refine ⟨_, rfl, ?_⟩
  have h70 : sat g w68 [Cl r62 [iV 1, iV 0, uV 4294967295] 28, Tab b14 1 [(1, 4294967295)] [(0, ⟨(1, 0, 4294967295), 1, (1, 1)⟩)] ([⟨(1, 0, 1), 1, 0, 0, 0, [120]⟩]), Cl r49 [iV 0, iV 0, uV 0] 28, Cl r36 [iV 0, iV 0, uV 0] 28, Cl r23 [iV 0, iV 0, uV 0] 28, Old wo, R] := h69
  refine zB0 [3, 4, 5, 6, 7, 8, 9] [2] [(93, .agg #[iV 2, uV 1])] (by kernel_rfl) ?_
  have h71 : sat g w68 [Tab b14 1 [(1, 4294967295)] [(0, ⟨(1, 0, 4294967295), 1, (1, 1)⟩)] ([⟨(1, 0, 1), 1, 0, 0, 0, [120]⟩]), Cl r62 [iV 1, iV 0, uV 4294967295] 28, Cl r49 [iV 0, iV 0, uV 0] 28, Cl r36 [iV 0, iV 0, uV 0] 28, Cl r23 [iV 0, iV 0, uV 0] 28, Old wo, R] := sat_sel [1, 0, 2, 3, 4, 5, 6] rfl h70
  refine plain_act (i := 3) (by kernel_rfl) ?_
  refine zCl 94 Try.call12 (topen_out2 b14 1 [(1, 4294967295)] [(0, ⟨(1, 0, 4294967295), 1, (1, 1)⟩)] ([⟨(1, 0, 1), 1, 0, 0, 0, [120]⟩]) (1) (0) (1) (2) (1) [120] (by omega) (by omega) (by simp only [List.length_cons, List.length_nil]; omega) (by omega) (by kernel_rfl) (by omega) (by decide)) h71 (by kernel_rfl) ?_
  rintro v K w72 (⟨rfl, rfl⟩) h73
  refine ⟨_, rfl, ?_⟩
  have h74 : sat g w72 [Tab b14 1 [(1, 4294967295)] [(0, ⟨(1, 0, 4294967295), 1, (1, 1)⟩)] ([⟨(1, 0, 1), 1, 0, 0, 0, [120]⟩]), Cl r62 [iV 1, iV 0, uV 4294967295] 28, Cl r49 [iV 0, iV 0, uV 0] 28, Cl r36 [iV 0, iV 0, uV 0] 28, Cl r23 [iV 0, iV 0, uV 0] 28, Old wo, R] := h73
  refine zB0 [7, 8, 9] [4, 5, 6] [(96, iV 6), (95, .agg #[iV 0, iV 0, uV 0]), (90, .tuple #[.agg #[iV 0, iV 0, uV 0], iV 6])] (by kernel_rfl) ?_
  refine plain_act (i := 7) (by kernel_rfl) ?_
  refine an_new (d := 17) (fun xb_ => pV xb_) (fun xb_ => Obj.cells [iV 0, iV 0, uV 0].toArray 28 (0, 0)) (fun xb_ => by kernel_rfl) (by kernel_rfl) rfl h74 ?_
  intro r75 w76 (h77 : sat g w76 [Cl r75 [iV 0, iV 0, uV 0] 28, Tab b14 1 [(1, 4294967295)] [(0, ⟨(1, 0, 4294967295), 1, (1, 1)⟩)] ([⟨(1, 0, 1), 1, 0, 0, 0, [120]⟩]), Cl r62 [iV 1, iV 0, uV 4294967295] 28, Cl r49 [iV 0, iV 0, uV 0] 28, Cl r36 [iV 0, iV 0, uV 0] 28, Cl r23 [iV 0, iV 0, uV 0] 28, Old wo, R])
  refine plain_act (i := 8) (by kernel_rfl) ?_
  refine an_store [(0, iV 0), (1, iV 0), (2, uV 0)] (cs' := [iV 0, iV 0, uV 0]) (by kernel_rfl) (by kernel_rfl) (allq ⟨⟨by simp, rfl⟩, ⟨by simp, rfl⟩, ⟨by simp, rfl⟩, trivial⟩) rfl h77 ?_
  intro w78 (h79 : sat g w78 [Cl r75 [iV 0, iV 0, uV 0] 28, Tab b14 1 [(1, 4294967295)] [(0, ⟨(1, 0, 4294967295), 1, (1, 1)⟩)] ([⟨(1, 0, 1), 1, 0, 0, 0, [120]⟩]), Cl r62 [iV 1, iV 0, uV 4294967295] 28, Cl r49 [iV 0, iV 0, uV 0] 28, Cl r36 [iV 0, iV 0, uV 0] 28, Cl r23 [iV 0, iV 0, uV 0] 28, Old wo, R])
  refine zB0 [] [9] [(18, iV 6)] (by kernel_rfl) ?_
  refine PO.mk ?_
  change WP _ _ (CA Try.f3 [1, 1, 1, 1, 1, 1, 1, 1, 1, 1, 1]) _ _ _
  refine fk_cut ([(7, pV b14), (10, iV 2), (12, iV 16), (14, iV 2), (15, pV r62), (16, iV 0), (18, iV 6)] : Fr) (by kernel_rfl) (fun a => WP _ _ _ _ a _) (fun lr80 => ?_)
  refine zSq (by kernel_rfl) ?_
  refine zPl [0, 1, 2, 3, 4, 5, 6, 7, 8, 9] (by kernel_rfl) ?_
  refine zB0 [1, 2, 3, 4, 5, 6, 7, 8, 9] [0] [(98, pV b14)] (by kernel_rfl) ?_
  refine plain_act (i := 1) (by kernel_rfl) ?_
  refine zCl 99 Try.call13 (lfile 1 1) h79 (by kernel_rfl) ?_
  rintro v K w81 (⟨rfl, rfl⟩) h82
  refine ⟨_, rfl, ?_⟩
  have h83 : sat g w81 [Cl r75 [iV 0, iV 0, uV 0] 28, Tab b14 1 [(1, 4294967295)] [(0, ⟨(1, 0, 4294967295), 1, (1, 1)⟩)] ([⟨(1, 0, 1), 1, 0, 0, 0, [120]⟩]), Cl r62 [iV 1, iV 0, uV 4294967295] 28, Cl r49 [iV 0, iV 0, uV 0] 28, Cl r36 [iV 0, iV 0, uV 0] 28, Cl r23 [iV 0, iV 0, uV 0] 28, Old wo, R] := h82
  refine zB0 [3, 4, 5, 6, 7, 8, 9] [2] [(100, .agg #[iV 2, uV 1])] (by kernel_rfl) ?_
  have h84 : sat g w81 [Tab b14 1 [(1, 4294967295)] [(0, ⟨(1, 0, 4294967295), 1, (1, 1)⟩)] ([⟨(1, 0, 1), 1, 0, 0, 0, [120]⟩]), Cl r75 [iV 0, iV 0, uV 0] 28, Cl r62 [iV 1, iV 0, uV 4294967295] 28, Cl r49 [iV 0, iV 0, uV 0] 28, Cl r36 [iV 0, iV 0, uV 0] 28, Cl r23 [iV 0, iV 0, uV 0] 28, Old wo, R] := sat_sel [1, 0, 2, 3, 4, 5, 6, 7] rfl h83
  refine plain_act (i := 3) (by kernel_rfl) ?_
  refine zCl 101 Try.call12 (topen_full b14 1 [(1, 4294967295)] [(0, ⟨(1, 0, 4294967295), 1, (1, 1)⟩)] ([⟨(1, 0, 1), 1, 0, 0, 0, [120]⟩]) (1) (1) (1) (2) (1) [120] (by omega) (by omega) (by simp only [List.length_cons, List.length_nil]; omega) (by omega) (by kernel_rfl) (by omega) (by decide) (not_has (by decide)) (.inr (by kernel_rfl))) h84 (by kernel_rfl) ?_
  rintro v K w85 (⟨rfl, rfl⟩) h86
  refine ⟨_, rfl, ?_⟩
  have h87 : sat g w85 [Tab b14 1 [(1, 4294967295)] [(0, ⟨(1, 0, 4294967295), 1, (1, 1)⟩)] ([⟨(1, 0, 1), 1, 0, 0, 0, [120]⟩]), Cl r75 [iV 0, iV 0, uV 0] 28, Cl r62 [iV 1, iV 0, uV 4294967295] 28, Cl r49 [iV 0, iV 0, uV 0] 28, Cl r36 [iV 0, iV 0, uV 0] 28, Cl r23 [iV 0, iV 0, uV 0] 28, Old wo, R] := h86
  refine zB0 [7, 8, 9] [4, 5, 6] [(103, iV 4), (102, .agg #[iV 0, iV 0, uV 0]), (97, .tuple #[.agg #[iV 0, iV 0, uV 0], iV 4])] (by kernel_rfl) ?_
  refine plain_act (i := 7) (by kernel_rfl) ?_
  refine an_new (d := 19) (fun xb_ => pV xb_) (fun xb_ => Obj.cells [iV 0, iV 0, uV 0].toArray 28 (0, 0)) (fun xb_ => by kernel_rfl) (by kernel_rfl) rfl h87 ?_
  intro r88 w89 (h90 : sat g w89 [Cl r88 [iV 0, iV 0, uV 0] 28, Tab b14 1 [(1, 4294967295)] [(0, ⟨(1, 0, 4294967295), 1, (1, 1)⟩)] ([⟨(1, 0, 1), 1, 0, 0, 0, [120]⟩]), Cl r75 [iV 0, iV 0, uV 0] 28, Cl r62 [iV 1, iV 0, uV 4294967295] 28, Cl r49 [iV 0, iV 0, uV 0] 28, Cl r36 [iV 0, iV 0, uV 0] 28, Cl r23 [iV 0, iV 0, uV 0] 28, Old wo, R])
  refine plain_act (i := 8) (by kernel_rfl) ?_
  refine an_store [(0, iV 0), (1, iV 0), (2, uV 0)] (cs' := [iV 0, iV 0, uV 0]) (by kernel_rfl) (by kernel_rfl) (allq ⟨⟨by simp, rfl⟩, ⟨by simp, rfl⟩, ⟨by simp, rfl⟩, trivial⟩) rfl h90 ?_
  intro w91 (h92 : sat g w91 [Cl r88 [iV 0, iV 0, uV 0] 28, Tab b14 1 [(1, 4294967295)] [(0, ⟨(1, 0, 4294967295), 1, (1, 1)⟩)] ([⟨(1, 0, 1), 1, 0, 0, 0, [120]⟩]), Cl r75 [iV 0, iV 0, uV 0] 28, Cl r62 [iV 1, iV 0, uV 4294967295] 28, Cl r49 [iV 0, iV 0, uV 0] 28, Cl r36 [iV 0, iV 0, uV 0] 28, Cl r23 [iV 0, iV 0, uV 0] 28, Old wo, R])
  refine zB0 [] [9] [(20, iV 4)] (by kernel_rfl) ?_
  refine PO.mk ?_
  change WP _ _ (CA Try.f3 [1, 1, 1, 1, 1, 1, 1, 1, 1, 1, 1, 1]) _ _ _
  refine fk_cut ([(7, pV b14), (10, iV 2), (12, iV 16), (14, iV 2), (15, pV r62), (16, iV 0), (18, iV 6), (20, iV 4)] : Fr) (by kernel_rfl) (fun a => WP _ _ _ _ a _) (fun lr93 => ?_)
  refine zSq (by kernel_rfl) ?_
  refine zPl [0, 1, 2, 3, 4, 5, 6, 7, 8, 9] (by kernel_rfl) ?_
  refine zB0 [3, 4, 5, 6, 7, 8, 9] [0, 1, 2] [(107, .agg #[iV 1, uV 1]), (106, .agg #[iV 0, iV 0, uV 0]), (105, pV b14)] (by kernel_rfl) ?_
  have h94 : sat g w91 [Tab b14 1 [(1, 4294967295)] [(0, ⟨(1, 0, 4294967295), 1, (1, 1)⟩)] ([⟨(1, 0, 1), 1, 0, 0, 0, [120]⟩]), Cl r88 [iV 0, iV 0, uV 0] 28, Cl r75 [iV 0, iV 0, uV 0] 28, Cl r62 [iV 1, iV 0, uV 4294967295] 28, Cl r49 [iV 0, iV 0, uV 0] 28, Cl r36 [iV 0, iV 0, uV 0] 28, Cl r23 [iV 0, iV 0, uV 0] 28, Old wo, R] := sat_sel [1, 0, 2, 3, 4, 5, 6, 7, 8] rfl h92
  refine plain_act (i := 3) (by kernel_rfl) ?_
  refine zCl 108 Try.call14 (tdup_bad b14 1 [(1, 4294967295)] [(0, ⟨(1, 0, 4294967295), 1, (1, 1)⟩)] ([⟨(1, 0, 1), 1, 0, 0, 0, [120]⟩]) 0 0 0 1 1 (by omega) (by omega) (by omega) (by omega)) h94 (by kernel_rfl) ?_
  rintro v K w95 (⟨rfl, rfl⟩) h96
  refine ⟨_, rfl, ?_⟩
  have h97 : sat g w95 [Tab b14 1 [(1, 4294967295)] [(0, ⟨(1, 0, 4294967295), 1, (1, 1)⟩)] ([⟨(1, 0, 1), 1, 0, 0, 0, [120]⟩]), Cl r88 [iV 0, iV 0, uV 0] 28, Cl r75 [iV 0, iV 0, uV 0] 28, Cl r62 [iV 1, iV 0, uV 4294967295] 28, Cl r49 [iV 0, iV 0, uV 0] 28, Cl r36 [iV 0, iV 0, uV 0] 28, Cl r23 [iV 0, iV 0, uV 0] 28, Old wo, R] := h96
  refine zB0 [7, 8, 9] [4, 5, 6] [(110, iV 2), (109, .agg #[iV 0, iV 0, uV 0]), (104, .tuple #[.agg #[iV 0, iV 0, uV 0], iV 2])] (by kernel_rfl) ?_
  refine plain_act (i := 7) (by kernel_rfl) ?_
  refine an_new (d := 21) (fun xb_ => pV xb_) (fun xb_ => Obj.cells [iV 0, iV 0, uV 0].toArray 28 (0, 0)) (fun xb_ => by kernel_rfl) (by kernel_rfl) rfl h97 ?_
  intro r98 w99 (h100 : sat g w99 [Cl r98 [iV 0, iV 0, uV 0] 28, Tab b14 1 [(1, 4294967295)] [(0, ⟨(1, 0, 4294967295), 1, (1, 1)⟩)] ([⟨(1, 0, 1), 1, 0, 0, 0, [120]⟩]), Cl r88 [iV 0, iV 0, uV 0] 28, Cl r75 [iV 0, iV 0, uV 0] 28, Cl r62 [iV 1, iV 0, uV 4294967295] 28, Cl r49 [iV 0, iV 0, uV 0] 28, Cl r36 [iV 0, iV 0, uV 0] 28, Cl r23 [iV 0, iV 0, uV 0] 28, Old wo, R])
  refine plain_act (i := 8) (by kernel_rfl) ?_
  refine an_store [(0, iV 0), (1, iV 0), (2, uV 0)] (cs' := [iV 0, iV 0, uV 0]) (by kernel_rfl) (by kernel_rfl) (allq ⟨⟨by simp, rfl⟩, ⟨by simp, rfl⟩, ⟨by simp, rfl⟩, trivial⟩) rfl h100 ?_
  intro w101 (h102 : sat g w101 [Cl r98 [iV 0, iV 0, uV 0] 28, Tab b14 1 [(1, 4294967295)] [(0, ⟨(1, 0, 4294967295), 1, (1, 1)⟩)] ([⟨(1, 0, 1), 1, 0, 0, 0, [120]⟩]), Cl r88 [iV 0, iV 0, uV 0] 28, Cl r75 [iV 0, iV 0, uV 0] 28, Cl r62 [iV 1, iV 0, uV 4294967295] 28, Cl r49 [iV 0, iV 0, uV 0] 28, Cl r36 [iV 0, iV 0, uV 0] 28, Cl r23 [iV 0, iV 0, uV 0] 28, Old wo, R])
  refine zB0 [] [9] [(22, iV 2)] (by kernel_rfl) ?_
  refine PO.mk ?_
  change WP _ _ (CA Try.f3 [1, 1, 1, 1, 1, 1, 1, 1, 1, 1, 1, 1, 1]) _ _ _
  refine fk_cut ([(7, pV b14), (10, iV 2), (12, iV 16), (14, iV 2), (15, pV r62), (16, iV 0), (18, iV 6), (20, iV 4), (22, iV 2)] : Fr) (by kernel_rfl) (fun a => WP _ _ _ _ a _) (fun lr103 => ?_)
  refine zSq (by kernel_rfl) ?_
  refine zPl [0, 1, 2, 3, 4, 5, 6, 7, 8, 9] (by kernel_rfl) ?_
  refine zBb [3, 4, 5, 6, 7, 8, 9] [(114, .agg #[iV 1, uV 1]), (113, .agg #[iV 1, iV 0, uV 4294967295]), (112, pV b14)] [⟨0, [], none⟩, ⟨1, [iV 1, iV 0, uV 4294967295], none⟩, ⟨2, [], none⟩] [(1, ⟨r62, 0, none⟩, iV 1), (1, ⟨r62, 1, none⟩, iV 0), (1, ⟨r62, 2, none⟩, uV 4294967295)] [] (by kernel_rfl) trivial (AllC_cons (sat_cell h102 4 rfl rfl) (AllC_cons (sat_cell h102 4 rfl rfl) (AllC_cons (sat_cell h102 4 rfl rfl) (AllC_nil _)))) ?_
  have h104 : sat g w101 [Tab b14 1 [(1, 4294967295)] [(0, ⟨(1, 0, 4294967295), 1, (1, 1)⟩)] ([⟨(1, 0, 1), 1, 0, 0, 0, [120]⟩]), Cl r98 [iV 0, iV 0, uV 0] 28, Cl r88 [iV 0, iV 0, uV 0] 28, Cl r75 [iV 0, iV 0, uV 0] 28, Cl r62 [iV 1, iV 0, uV 4294967295] 28, Cl r49 [iV 0, iV 0, uV 0] 28, Cl r36 [iV 0, iV 0, uV 0] 28, Cl r23 [iV 0, iV 0, uV 0] 28, Old wo, R] := sat_sel [1, 0, 2, 3, 4, 5, 6, 7, 8, 9] rfl h102
  refine plain_act (i := 3) (by kernel_rfl) ?_
  refine zCl 115 Try.call14 (tdup_have b14 1 [(1, 4294967295)] [(0, ⟨(1, 0, 4294967295), 1, (1, 1)⟩)] ([⟨(1, 0, 1), 1, 0, 0, 0, [120]⟩]) 1 0 4294967295 1 1 (by omega) ⟨(1, 0, 4294967295), 1, (1, 1)⟩ (by omega) (by omega) (by omega) (by kernel_rfl) (by decide) (has_at 0 ⟨(1, 0, 4294967295), 1, (1, 1)⟩ (by kernel_rfl) (by decide) rfl)) h104 (by kernel_rfl) ?_
  rintro v K w105 (⟨rfl, rfl⟩) h106
  refine ⟨_, rfl, ?_⟩
  have h107 : sat g w105 [Tab b14 1 [(1, 4294967295)] [(0, ⟨(1, 0, 4294967295), 1, (1, 1)⟩)] ([⟨(1, 0, 1), 1, 0, 0, 0, [120]⟩]), Cl r98 [iV 0, iV 0, uV 0] 28, Cl r88 [iV 0, iV 0, uV 0] 28, Cl r75 [iV 0, iV 0, uV 0] 28, Cl r62 [iV 1, iV 0, uV 4294967295] 28, Cl r49 [iV 0, iV 0, uV 0] 28, Cl r36 [iV 0, iV 0, uV 0] 28, Cl r23 [iV 0, iV 0, uV 0] 28, Old wo, R] := h106
  refine zB0 [7, 8, 9] [4, 5, 6] [(117, iV 6), (116, .agg #[iV 0, iV 0, uV 0]), (111, .tuple #[.agg #[iV 0, iV 0, uV 0], iV 6])] (by kernel_rfl) ?_
  refine plain_act (i := 7) (by kernel_rfl) ?_
  refine an_new (d := 23) (fun xb_ => pV xb_) (fun xb_ => Obj.cells [iV 0, iV 0, uV 0].toArray 28 (0, 0)) (fun xb_ => by kernel_rfl) (by kernel_rfl) rfl h107 ?_
  intro r108 w109 (h110 : sat g w109 [Cl r108 [iV 0, iV 0, uV 0] 28, Tab b14 1 [(1, 4294967295)] [(0, ⟨(1, 0, 4294967295), 1, (1, 1)⟩)] ([⟨(1, 0, 1), 1, 0, 0, 0, [120]⟩]), Cl r98 [iV 0, iV 0, uV 0] 28, Cl r88 [iV 0, iV 0, uV 0] 28, Cl r75 [iV 0, iV 0, uV 0] 28, Cl r62 [iV 1, iV 0, uV 4294967295] 28, Cl r49 [iV 0, iV 0, uV 0] 28, Cl r36 [iV 0, iV 0, uV 0] 28, Cl r23 [iV 0, iV 0, uV 0] 28, Old wo, R])
  refine plain_act (i := 8) (by kernel_rfl) ?_
  refine an_store [(0, iV 0), (1, iV 0), (2, uV 0)] (cs' := [iV 0, iV 0, uV 0]) (by kernel_rfl) (by kernel_rfl) (allq ⟨⟨by simp, rfl⟩, ⟨by simp, rfl⟩, ⟨by simp, rfl⟩, trivial⟩) rfl h110 ?_
  intro w111 (h112 : sat g w111 [Cl r108 [iV 0, iV 0, uV 0] 28, Tab b14 1 [(1, 4294967295)] [(0, ⟨(1, 0, 4294967295), 1, (1, 1)⟩)] ([⟨(1, 0, 1), 1, 0, 0, 0, [120]⟩]), Cl r98 [iV 0, iV 0, uV 0] 28, Cl r88 [iV 0, iV 0, uV 0] 28, Cl r75 [iV 0, iV 0, uV 0] 28, Cl r62 [iV 1, iV 0, uV 4294967295] 28, Cl r49 [iV 0, iV 0, uV 0] 28, Cl r36 [iV 0, iV 0, uV 0] 28, Cl r23 [iV 0, iV 0, uV 0] 28, Old wo, R])
  refine zB0 [] [9] [(24, iV 6)] (by kernel_rfl) ?_
  refine PO.mk ?_
  change WP _ _ (CA Try.f3 [1, 1, 1, 1, 1, 1, 1, 1, 1, 1, 1, 1, 1, 1]) _ _ _
  refine fk_cut ([(7, pV b14), (10, iV 2), (12, iV 16), (14, iV 2), (15, pV r62), (16, iV 0), (18, iV 6), (20, iV 4), (22, iV 2), (24, iV 6)] : Fr) (by kernel_rfl) (fun a => WP _ _ _ _ a _) (fun lr113 => ?_)
  refine zSq (by kernel_rfl) ?_
  refine zPl [0, 1, 2, 3, 4, 5, 6, 7, 8, 9] (by kernel_rfl) ?_
  refine zBb [3, 4, 5, 6, 7, 8, 9] [(121, .agg #[iV 2, uV 1]), (120, .agg #[iV 1, iV 0, uV 4294967295]), (119, pV b14)] [⟨0, [], none⟩, ⟨1, [iV 1, iV 0, uV 4294967295], none⟩, ⟨2, [], none⟩] [(1, ⟨r62, 0, none⟩, iV 1), (1, ⟨r62, 1, none⟩, iV 0), (1, ⟨r62, 2, none⟩, uV 4294967295)] [] (by kernel_rfl) trivial (AllC_cons (sat_cell h112 5 rfl rfl) (AllC_cons (sat_cell h112 5 rfl rfl) (AllC_cons (sat_cell h112 5 rfl rfl) (AllC_nil _)))) ?_
  have h114 : sat g w111 [Tab b14 1 [(1, 4294967295)] [(0, ⟨(1, 0, 4294967295), 1, (1, 1)⟩)] ([⟨(1, 0, 1), 1, 0, 0, 0, [120]⟩]), Cl r108 [iV 0, iV 0, uV 0] 28, Cl r98 [iV 0, iV 0, uV 0] 28, Cl r88 [iV 0, iV 0, uV 0] 28, Cl r75 [iV 0, iV 0, uV 0] 28, Cl r62 [iV 1, iV 0, uV 4294967295] 28, Cl r49 [iV 0, iV 0, uV 0] 28, Cl r36 [iV 0, iV 0, uV 0] 28, Cl r23 [iV 0, iV 0, uV 0] 28, Old wo, R] := sat_sel [1, 0, 2, 3, 4, 5, 6, 7, 8, 9, 10] rfl h112
  refine plain_act (i := 3) (by kernel_rfl) ?_
  refine zCl 122 Try.call14 (tdup_full b14 1 [(1, 4294967295)] [(0, ⟨(1, 0, 4294967295), 1, (1, 1)⟩)] ([⟨(1, 0, 1), 1, 0, 0, 0, [120]⟩]) 1 0 4294967295 2 1 (by omega) ⟨(1, 0, 4294967295), 1, (1, 1)⟩ (by omega) (by omega) (by omega) (by kernel_rfl) (by decide) (not_has (by decide)) 0 ⟨(1, 0, 1), 1, 0, 0, 0, [120]⟩ rfl (by decide) (by kernel_rfl)) h114 (by kernel_rfl) ?_
  rintro v K w115 (⟨rfl, rfl⟩) h116
  refine ⟨_, rfl, ?_⟩
  have h117 : sat g w115 [Tab b14 1 [(1, 4294967295)] [(0, ⟨(1, 0, 4294967295), 1, (1, 1)⟩)] ([⟨(1, 0, 1), 1, 0, 0, 0, [120]⟩]), Cl r108 [iV 0, iV 0, uV 0] 28, Cl r98 [iV 0, iV 0, uV 0] 28, Cl r88 [iV 0, iV 0, uV 0] 28, Cl r75 [iV 0, iV 0, uV 0] 28, Cl r62 [iV 1, iV 0, uV 4294967295] 28, Cl r49 [iV 0, iV 0, uV 0] 28, Cl r36 [iV 0, iV 0, uV 0] 28, Cl r23 [iV 0, iV 0, uV 0] 28, Old wo, R] := h116
  refine zB0 [7, 8, 9] [4, 5, 6] [(124, iV 4), (123, .agg #[iV 0, iV 0, uV 0]), (118, .tuple #[.agg #[iV 0, iV 0, uV 0], iV 4])] (by kernel_rfl) ?_
  refine plain_act (i := 7) (by kernel_rfl) ?_
  refine an_new (d := 25) (fun xb_ => pV xb_) (fun xb_ => Obj.cells [iV 0, iV 0, uV 0].toArray 28 (0, 0)) (fun xb_ => by kernel_rfl) (by kernel_rfl) rfl h117 ?_
  intro r118 w119 (h120 : sat g w119 [Cl r118 [iV 0, iV 0, uV 0] 28, Tab b14 1 [(1, 4294967295)] [(0, ⟨(1, 0, 4294967295), 1, (1, 1)⟩)] ([⟨(1, 0, 1), 1, 0, 0, 0, [120]⟩]), Cl r108 [iV 0, iV 0, uV 0] 28, Cl r98 [iV 0, iV 0, uV 0] 28, Cl r88 [iV 0, iV 0, uV 0] 28, Cl r75 [iV 0, iV 0, uV 0] 28, Cl r62 [iV 1, iV 0, uV 4294967295] 28, Cl r49 [iV 0, iV 0, uV 0] 28, Cl r36 [iV 0, iV 0, uV 0] 28, Cl r23 [iV 0, iV 0, uV 0] 28, Old wo, R])
  refine plain_act (i := 8) (by kernel_rfl) ?_
  refine an_store [(0, iV 0), (1, iV 0), (2, uV 0)] (cs' := [iV 0, iV 0, uV 0]) (by kernel_rfl) (by kernel_rfl) (allq ⟨⟨by simp, rfl⟩, ⟨by simp, rfl⟩, ⟨by simp, rfl⟩, trivial⟩) rfl h120 ?_
  intro w121 (h122 : sat g w121 [Cl r118 [iV 0, iV 0, uV 0] 28, Tab b14 1 [(1, 4294967295)] [(0, ⟨(1, 0, 4294967295), 1, (1, 1)⟩)] ([⟨(1, 0, 1), 1, 0, 0, 0, [120]⟩]), Cl r108 [iV 0, iV 0, uV 0] 28, Cl r98 [iV 0, iV 0, uV 0] 28, Cl r88 [iV 0, iV 0, uV 0] 28, Cl r75 [iV 0, iV 0, uV 0] 28, Cl r62 [iV 1, iV 0, uV 4294967295] 28, Cl r49 [iV 0, iV 0, uV 0] 28, Cl r36 [iV 0, iV 0, uV 0] 28, Cl r23 [iV 0, iV 0, uV 0] 28, Old wo, R])
  refine zB0 [] [9] [(26, iV 4)] (by kernel_rfl) ?_
  refine PO.mk ?_
  change WP _ _ (CA Try.f3 [1, 1, 1, 1, 1, 1, 1, 1, 1, 1, 1, 1, 1, 1, 1]) _ _ _
  refine fk_cut ([(7, pV b14), (10, iV 2), (12, iV 16), (14, iV 2), (15, pV r62), (16, iV 0), (18, iV 6), (20, iV 4), (22, iV 2), (24, iV 6), (26, iV 4)] : Fr) (by kernel_rfl) (fun a => WP _ _ _ _ a _) (fun lr123 => ?_)
  refine zSq (by kernel_rfl) ?_
  refine zPl [0, 1, 2, 3, 4, 5, 6, 7, 8, 9] (by kernel_rfl) ?_
  refine zBb [2, 3, 4, 5, 6, 7, 8, 9] [(127, .agg #[iV 1, iV 0, uV 4294967295]), (126, pV b14)] [⟨0, [], none⟩, ⟨1, [iV 1, iV 0, uV 4294967295], none⟩] [(1, ⟨r62, 0, none⟩, iV 1), (1, ⟨r62, 1, none⟩, iV 0), (1, ⟨r62, 2, none⟩, uV 4294967295)] [] (by kernel_rfl) trivial (AllC_cons (sat_cell h122 6 rfl rfl) (AllC_cons (sat_cell h122 6 rfl rfl) (AllC_cons (sat_cell h122 6 rfl rfl) (AllC_nil _)))) ?_
  have h124 : sat g w121 [Tab b14 1 [(1, 4294967295)] [(0, ⟨(1, 0, 4294967295), 1, (1, 1)⟩)] ([⟨(1, 0, 1), 1, 0, 0, 0, [120]⟩]), Cl r118 [iV 0, iV 0, uV 0] 28, Cl r108 [iV 0, iV 0, uV 0] 28, Cl r98 [iV 0, iV 0, uV 0] 28, Cl r88 [iV 0, iV 0, uV 0] 28, Cl r75 [iV 0, iV 0, uV 0] 28, Cl r62 [iV 1, iV 0, uV 4294967295] 28, Cl r49 [iV 0, iV 0, uV 0] 28, Cl r36 [iV 0, iV 0, uV 0] 28, Cl r23 [iV 0, iV 0, uV 0] 28, Old wo, R] := sat_sel [1, 0, 2, 3, 4, 5, 6, 7, 8, 9, 10, 11] rfl h122
  refine plain_act (i := 2) (by kernel_rfl) ?_
  refine zCl 128 Try.call15 (tclose_lit b14 1 [(1, 4294967295)] [(0, ⟨(1, 0, 4294967295), 1, (1, 1)⟩)] ([⟨(1, 0, 1), 1, 0, 0, 0, [120]⟩]) 1 0 4294967295 ⟨(1, 0, 4294967295), 1, (1, 1)⟩ (by omega) (by omega) (by omega) (by kernel_rfl) (by decide) 0 (1, 4294967295) rfl (by decide) (by decide) 1 rfl true (by kernel_rfl) [(2, 4294967295)] [] (by kernel_rfl) (by kernel_rfl)) h124 (by kernel_rfl) ?_
  rintro v K w125 (⟨rfl, rfl⟩) h126
  refine ⟨_, rfl, ?_⟩
  have h127 : sat g w125 [Tab b14 1 [(2, 4294967295)] [] ([⟨(1, 0, 1), 1, 0, 0, 0, [120]⟩]), Cl r118 [iV 0, iV 0, uV 0] 28, Cl r108 [iV 0, iV 0, uV 0] 28, Cl r98 [iV 0, iV 0, uV 0] 28, Cl r88 [iV 0, iV 0, uV 0] 28, Cl r75 [iV 0, iV 0, uV 0] 28, Cl r62 [iV 1, iV 0, uV 4294967295] 28, Cl r49 [iV 0, iV 0, uV 0] 28, Cl r36 [iV 0, iV 0, uV 0] 28, Cl r23 [iV 0, iV 0, uV 0] 28, Old wo, R] := h126
  refine zB0 [] [3, 4, 5, 6, 7, 8, 9] [(29, iV 0), (28, .bool true), (27, iV 1), (131, iV 0), (130, .bool true), (129, iV 1), (125, .tuple #[iV 1, .bool true, iV 0])] (by kernel_rfl) ?_
  refine PO.mk ?_
  change WP _ _ (CA Try.f3 [1, 1, 1, 1, 1, 1, 1, 1, 1, 1, 1, 1, 1, 1, 1, 1]) _ _ _
  refine fk_cut ([(7, pV b14), (10, iV 2), (12, iV 16), (14, iV 2), (15, pV r62), (16, iV 0), (18, iV 6), (20, iV 4), (22, iV 2), (24, iV 6), (26, iV 4), (28, .bool true), (29, iV 0)] : Fr) (by kernel_rfl) (fun a => WP _ _ _ _ a _) (fun lr128 => ?_)
  refine zSq (by kernel_rfl) ?_
  refine zPl [0, 1, 2, 3, 4, 5, 6, 7, 8, 9] (by kernel_rfl) ?_
  refine zB0 [1, 2, 3, 4, 5, 6, 7, 8, 9] [0] [(133, pV b14)] (by kernel_rfl) ?_
  refine plain_act (i := 1) (by kernel_rfl) ?_
  refine zCl 134 Try.call13 (lfile 1 1) h127 (by kernel_rfl) ?_
  rintro v K w129 (⟨rfl, rfl⟩) h130
  refine ⟨_, rfl, ?_⟩
  have h131 : sat g w129 [Tab b14 1 [(2, 4294967295)] [] ([⟨(1, 0, 1), 1, 0, 0, 0, [120]⟩]), Cl r118 [iV 0, iV 0, uV 0] 28, Cl r108 [iV 0, iV 0, uV 0] 28, Cl r98 [iV 0, iV 0, uV 0] 28, Cl r88 [iV 0, iV 0, uV 0] 28, Cl r75 [iV 0, iV 0, uV 0] 28, Cl r62 [iV 1, iV 0, uV 4294967295] 28, Cl r49 [iV 0, iV 0, uV 0] 28, Cl r36 [iV 0, iV 0, uV 0] 28, Cl r23 [iV 0, iV 0, uV 0] 28, Old wo, R] := h130
  refine zB0 [3, 4, 5, 6, 7, 8, 9] [2] [(135, .agg #[iV 2, uV 1])] (by kernel_rfl) ?_
  refine plain_act (i := 3) (by kernel_rfl) ?_
  refine zCl 136 Try.call12 (topen_full b14 1 [(2, 4294967295)] [] ([⟨(1, 0, 1), 1, 0, 0, 0, [120]⟩]) (1) (1) (1) (2) (1) [120] (by omega) (by omega) (by simp only [List.length_cons, List.length_nil]; omega) (by omega) (by kernel_rfl) (by omega) (by decide) (not_has (by decide)) (.inr (by kernel_rfl))) h131 (by kernel_rfl) ?_
  rintro v K w132 (⟨rfl, rfl⟩) h133
  refine ⟨_, rfl, ?_⟩
  have h134 : sat g w132 [Tab b14 1 [(2, 4294967295)] [] ([⟨(1, 0, 1), 1, 0, 0, 0, [120]⟩]), Cl r118 [iV 0, iV 0, uV 0] 28, Cl r108 [iV 0, iV 0, uV 0] 28, Cl r98 [iV 0, iV 0, uV 0] 28, Cl r88 [iV 0, iV 0, uV 0] 28, Cl r75 [iV 0, iV 0, uV 0] 28, Cl r62 [iV 1, iV 0, uV 4294967295] 28, Cl r49 [iV 0, iV 0, uV 0] 28, Cl r36 [iV 0, iV 0, uV 0] 28, Cl r23 [iV 0, iV 0, uV 0] 28, Old wo, R] := h133
  refine zB0 [7, 8, 9] [4, 5, 6] [(138, iV 4), (137, .agg #[iV 0, iV 0, uV 0]), (132, .tuple #[.agg #[iV 0, iV 0, uV 0], iV 4])] (by kernel_rfl) ?_
  refine plain_act (i := 7) (by kernel_rfl) ?_
  refine an_new (d := 30) (fun xb_ => pV xb_) (fun xb_ => Obj.cells [iV 0, iV 0, uV 0].toArray 28 (0, 0)) (fun xb_ => by kernel_rfl) (by kernel_rfl) rfl h134 ?_
  intro r135 w136 (h137 : sat g w136 [Cl r135 [iV 0, iV 0, uV 0] 28, Tab b14 1 [(2, 4294967295)] [] ([⟨(1, 0, 1), 1, 0, 0, 0, [120]⟩]), Cl r118 [iV 0, iV 0, uV 0] 28, Cl r108 [iV 0, iV 0, uV 0] 28, Cl r98 [iV 0, iV 0, uV 0] 28, Cl r88 [iV 0, iV 0, uV 0] 28, Cl r75 [iV 0, iV 0, uV 0] 28, Cl r62 [iV 1, iV 0, uV 4294967295] 28, Cl r49 [iV 0, iV 0, uV 0] 28, Cl r36 [iV 0, iV 0, uV 0] 28, Cl r23 [iV 0, iV 0, uV 0] 28, Old wo, R])
  refine plain_act (i := 8) (by kernel_rfl) ?_
  refine an_store [(0, iV 0), (1, iV 0), (2, uV 0)] (cs' := [iV 0, iV 0, uV 0]) (by kernel_rfl) (by kernel_rfl) (allq ⟨⟨by simp, rfl⟩, ⟨by simp, rfl⟩, ⟨by simp, rfl⟩, trivial⟩) rfl h137 ?_
  intro w138 (h139 : sat g w138 [Cl r135 [iV 0, iV 0, uV 0] 28, Tab b14 1 [(2, 4294967295)] [] ([⟨(1, 0, 1), 1, 0, 0, 0, [120]⟩]), Cl r118 [iV 0, iV 0, uV 0] 28, Cl r108 [iV 0, iV 0, uV 0] 28, Cl r98 [iV 0, iV 0, uV 0] 28, Cl r88 [iV 0, iV 0, uV 0] 28, Cl r75 [iV 0, iV 0, uV 0] 28, Cl r62 [iV 1, iV 0, uV 4294967295] 28, Cl r49 [iV 0, iV 0, uV 0] 28, Cl r36 [iV 0, iV 0, uV 0] 28, Cl r23 [iV 0, iV 0, uV 0] 28, Old wo, R])
  refine zB0 [] [9] [(31, iV 4)] (by kernel_rfl) ?_
  refine PO.mk ?_
  change WP _ _ (CA Try.f3 [1, 1, 1, 1, 1, 1, 1, 1, 1, 1, 1, 1, 1, 1, 1, 1, 1]) _ _ _
  refine fk_cut ([(7, pV b14), (10, iV 2), (12, iV 16), (14, iV 2), (15, pV r62), (16, iV 0), (18, iV 6), (20, iV 4), (22, iV 2), (24, iV 6), (26, iV 4), (28, .bool true), (29, iV 0), (31, iV 4)] : Fr) (by kernel_rfl) (fun a => WP _ _ _ _ a _) (fun lr140 => ?_)
  refine zSq (by kernel_rfl) ?_
  refine gi_drw (id := 18) (ops := RA Try.f3 [1, 1, 1, 1, 1, 1, 1, 1, 1, 1, 1, 1, 1, 1, 1, 1, 1, 0]) (Tr.fl 0 (Tr.fl 1 (Tr.fl 2 (Tr.fl 3 (Tr.fl 4 (Tr.fl 5 (Tr.fl 6 (Tr.fl 7 (Tr.fl 8 (Tr.fl 9 (Tr.fl 10 (Tr.fl 11 (Tr.fl 12 (Tr.fl 13 (Tr.fl 14 (Tr.fl 15 (Tr.an 16 (Tr.fl 17 (Tr.fl 18 (Tr.fl 19 (Tr.fl 20 (Tr.fl 21 (Tr.fl 22 (Tr.fl 23 (Tr.fl 24 (Tr.fl 25 (Tr.fl 26 (Tr.fl 27 (Tr.fl 28 (Tr.fl 29 (Tr.fl 30 (Tr.fl 31 (Tr.fl 32 (Tr.fl 33 (Tr.fl 34 (Tr.fl 35 (Tr.fl 36 (Tr.fl 37 (Tr.fl 38 (Tr.fl 39 (Tr.fl 40 (Tr.fl 41 (Tr.fl 42 (Tr.fl 43 (Tr.fl 44 (Tr.fl 45 (Tr.fl 46 (Tr.fl 47 (Tr.fl 48 (Tr.fl 49 (Tr.fl 50 (Tr.fl 51 (Tr.fl 52 (Tr.an 53 (Tr.fl 54 (Tr.fl 55 (Tr.fl 56 (Tr.fl 57 (Tr.fl 58 (Tr.an 59 (Tr.fl 60 (Tr.fl 61 (Tr.fl 62 (Tr.an 63 (Tr.fl 64 (Tr.fl 65 Tr.nil)))))))))))))))))))))))))))))))))))))))))))))))))))))))))))))))))) (by kernel_rfl) (by kernel_rfl) (by kernel_rfl) (by kernel_rfl) (by kernel_rfl) (fun _ _ d _ _ h => by cases d <;> exact h) h139 ?_
  intro w141 h142
  refine draw_batch (t := (Tr.an 16 (Tr.fl 17 (Tr.fl 18 (Tr.fl 19 (Tr.fl 20 (Tr.fl 21 (Tr.fl 22 (Tr.fl 23 (Tr.fl 24 (Tr.fl 25 (Tr.fl 26 (Tr.fl 27 (Tr.fl 28 (Tr.fl 29 (Tr.fl 30 (Tr.fl 31 (Tr.fl 32 (Tr.fl 33 (Tr.fl 34 (Tr.fl 35 (Tr.fl 36 (Tr.fl 37 (Tr.fl 38 (Tr.fl 39 (Tr.fl 40 (Tr.fl 41 (Tr.fl 42 (Tr.fl 43 (Tr.fl 44 (Tr.fl 45 (Tr.fl 46 (Tr.fl 47 (Tr.fl 48 (Tr.fl 49 (Tr.fl 50 (Tr.fl 51 (Tr.fl 52 (Tr.an 53 (Tr.fl 54 (Tr.fl 55 (Tr.fl 56 (Tr.fl 57 (Tr.fl 58 (Tr.an 59 (Tr.fl 60 (Tr.fl 61 (Tr.fl 62 (Tr.an 63 (Tr.fl 64 (Tr.fl 65 Tr.nil))))))))))))))))))))))))))))))))))))))))))))))))))) [⟨0, [], none⟩, ⟨1, [], none⟩, ⟨2, [], none⟩, ⟨3, [], none⟩, ⟨4, [], none⟩, ⟨5, [], none⟩, ⟨6, [], none⟩, ⟨7, [], none⟩, ⟨8, [], none⟩, ⟨9, [], none⟩, ⟨10, [], none⟩, ⟨11, [], none⟩, ⟨12, [], none⟩, ⟨13, [], none⟩, ⟨14, [], none⟩, ⟨15, [iV 1, iV 0, uV 4294967295], none⟩] (l' := ([(154, .agg #[iV 1, iV 0, uV 4294967295]), (153, .bool true), (152, .bool true), (151, .bool true), (150, iV 0), (149, .bool true), (148, .bool true), (147, .bool true), (146, iV 2), (145, .bool true), (144, .bool true), (143, .bool true), (142, iV 16), (141, .bool true), (140, .bool true), (139, iV 2), (7, pV b14), (10, iV 2), (12, iV 16), (14, iV 2), (15, pV r62), (16, iV 0), (18, iV 6), (20, iV 4), (22, iV 2), (24, iV 6), (26, iV 4), (28, .bool true), (29, iV 0), (31, iV 4)] : Fr) ++ lr140) (pts' := [(15, ⟨r62, 0, none⟩, iV 1), (15, ⟨r62, 1, none⟩, iV 0), (15, ⟨r62, 2, none⟩, uV 4294967295)]) (eqs := []) (by kernel_rfl) trivial (AllC_cons (sat_cell h142 7 rfl rfl) (AllC_cons (sat_cell h142 7 rfl rfl) (AllC_cons (sat_cell h142 7 rfl rfl) (AllC_nil _)))) ?_
  refine fk_cut ([(154, .agg #[iV 1, iV 0, uV 4294967295]), (153, .bool true), (7, pV b14), (10, iV 2), (12, iV 16), (14, iV 2), (15, pV r62), (16, iV 0), (18, iV 6), (20, iV 4), (22, iV 2), (24, iV 6), (26, iV 4), (28, .bool true), (29, iV 0), (31, iV 4)] : Fr) (by kernel_rfl) (fun a => RW _ _ _ _ _ a _) (fun lr143 => ?_)
  refine draw_act (i := 16) [(15, ⟨r62, 0, none⟩, iV 1), (15, ⟨r62, 1, none⟩, iV 0), (15, ⟨r62, 2, none⟩, uV 4294967295)] (by kernel_rfl) (by kernel_rfl) ?_
  refine zCl 155 Try.call16 (ldesc 0 4294967295) h142 (by kernel_rfl) ?_
  rintro v K w144 (⟨rfl, rfl⟩) h145
  refine ⟨_, rfl, ?_⟩
  have h146 : sat g w144 [Cl r135 [iV 0, iV 0, uV 0] 28, Tab b14 1 [(2, 4294967295)] [] ([⟨(1, 0, 1), 1, 0, 0, 0, [120]⟩]), Cl r118 [iV 0, iV 0, uV 0] 28, Cl r108 [iV 0, iV 0, uV 0] 28, Cl r98 [iV 0, iV 0, uV 0] 28, Cl r88 [iV 0, iV 0, uV 0] 28, Cl r75 [iV 0, iV 0, uV 0] 28, Cl r62 [iV 1, iV 0, uV 4294967295] 28, Cl r49 [iV 0, iV 0, uV 0] 28, Cl r36 [iV 0, iV 0, uV 0] 28, Cl r23 [iV 0, iV 0, uV 0] 28, Old wo, R] := h145
  refine ⟨(AllC_cons (sat_cell h146 7 rfl rfl) (AllC_cons (sat_cell h146 7 rfl rfl) (AllC_cons (sat_cell h146 7 rfl rfl) (AllC_nil _)))), ?_⟩
  refine draw_law (i := 17) 156 (.bool true) [] (by kernel_rfl) (fun _ _ => seq28_eql_t (o := opA (RA Try.f3 [1, 1, 1, 1, 1, 1, 1, 1, 1, 1, 1, 1, 1, 1, 1, 1, 1, 0]) 17) (x := (Operand.tmp 154)) (y := (Operand.tmp 155)) 1 0 4294967295 1 0 4294967295 (by kernel_rfl) (by kernel_rfl) (by kernel_rfl) ⟨rfl, rfl, rfl⟩ _) (by intro q hq; cases hq) ?_
  refine draw_batch (t := (Tr.an 53 (Tr.fl 54 (Tr.fl 55 (Tr.fl 56 (Tr.fl 57 (Tr.fl 58 (Tr.an 59 (Tr.fl 60 (Tr.fl 61 (Tr.fl 62 (Tr.an 63 (Tr.fl 64 (Tr.fl 65 Tr.nil)))))))))))))) [⟨18, [], none⟩, ⟨19, [], none⟩, ⟨20, [], none⟩, ⟨21, [], none⟩, ⟨22, [], none⟩, ⟨23, [], none⟩, ⟨24, [], none⟩, ⟨25, [], none⟩, ⟨26, [], none⟩, ⟨27, [], none⟩, ⟨28, [], none⟩, ⟨29, [], none⟩, ⟨30, [], none⟩, ⟨31, [], none⟩, ⟨32, [], none⟩, ⟨33, [], none⟩, ⟨34, [], none⟩, ⟨35, [], none⟩, ⟨36, [], none⟩, ⟨37, [], none⟩, ⟨38, [], none⟩, ⟨39, [], none⟩, ⟨40, [], none⟩, ⟨41, [], none⟩, ⟨42, [], none⟩, ⟨43, [], none⟩, ⟨44, [], none⟩, ⟨45, [], none⟩, ⟨46, [], none⟩, ⟨47, [], none⟩, ⟨48, [], none⟩, ⟨49, [], none⟩, ⟨50, [], none⟩, ⟨51, [], none⟩, ⟨52, [], none⟩] (l' := ([(191, .agg #[iV 0, iV 0, uV 0, iV 0, iV 0, iV 0, iV 0, .string (St [])]), (190, pV b14), (189, .bool true), (188, .bool true), (187, .bool true), (186, iV 4), (185, .bool true), (184, .bool true), (183, .bool true), (182, .bool true), (181, .bool true), (180, .bool true), (179, iV 0), (178, .bool true), (177, .bool true), (176, .bool true), (175, iV 4), (174, .bool true), (173, .bool true), (172, .bool true), (171, iV 6), (170, .bool true), (169, .bool true), (168, .bool true), (167, iV 2), (166, .bool true), (165, .bool true), (164, .bool true), (163, iV 4), (162, .bool true), (161, .bool true), (160, .bool true), (159, iV 6), (158, .bool true), (157, .bool true), (156, .bool true), (155, .agg #[iV 1, iV 0, uV 4294967295]), (154, .agg #[iV 1, iV 0, uV 4294967295]), (153, .bool true), (7, pV b14), (10, iV 2), (12, iV 16), (14, iV 2), (15, pV r62), (16, iV 0), (18, iV 6), (20, iV 4), (22, iV 2), (24, iV 6), (26, iV 4), (28, .bool true), (29, iV 0), (31, iV 4)] : Fr) ++ lr143) (pts' := []) (eqs := []) (by kernel_rfl) trivial (AllC_nil _) ?_
  refine fk_cut ([(191, .agg #[iV 0, iV 0, uV 0, iV 0, iV 0, iV 0, iV 0, .string (St [])]), (190, pV b14), (189, .bool true), (7, pV b14), (10, iV 2), (12, iV 16), (14, iV 2), (15, pV r62), (16, iV 0), (18, iV 6), (20, iV 4), (22, iV 2), (24, iV 6), (26, iV 4), (28, .bool true), (29, iV 0), (31, iV 4)] : Fr) (by kernel_rfl) (fun a => RW _ _ _ _ _ a _) (fun lr147 => ?_)
  have h148 : sat g w144 [Tab b14 1 [(2, 4294967295)] [] ([⟨(1, 0, 1), 1, 0, 0, 0, [120]⟩]), Cl r135 [iV 0, iV 0, uV 0] 28, Cl r118 [iV 0, iV 0, uV 0] 28, Cl r108 [iV 0, iV 0, uV 0] 28, Cl r98 [iV 0, iV 0, uV 0] 28, Cl r88 [iV 0, iV 0, uV 0] 28, Cl r75 [iV 0, iV 0, uV 0] 28, Cl r62 [iV 1, iV 0, uV 4294967295] 28, Cl r49 [iV 0, iV 0, uV 0] 28, Cl r36 [iV 0, iV 0, uV 0] 28, Cl r23 [iV 0, iV 0, uV 0] 28, Old wo, R] := sat_sel [1, 0, 2, 3, 4, 5, 6, 7, 8, 9, 10, 11, 12] rfl h146
  refine draw_act (i := 53) [(15, ⟨r62, 0, none⟩, iV 1), (15, ⟨r62, 1, none⟩, iV 0), (15, ⟨r62, 2, none⟩, uV 4294967295)] (by kernel_rfl) (by kernel_rfl) ?_
  refine zCl 192 Try.call17 (tset_no b14 1 [(2, 4294967295)] [] ([⟨(1, 0, 1), 1, 0, 0, 0, [120]⟩]) 2 0 0 0 0 0 0 0 [] (by simp only [List.length_cons, List.length_nil]; omega)) h148 (by kernel_rfl) ?_
  rintro v K w149 (⟨rfl, rfl⟩) h150
  refine ⟨_, rfl, ?_⟩
  have h151 : sat g w149 [Tab b14 1 [(2, 4294967295)] [] ([⟨(1, 0, 1), 1, 0, 0, 0, [120]⟩]), Cl r135 [iV 0, iV 0, uV 0] 28, Cl r118 [iV 0, iV 0, uV 0] 28, Cl r108 [iV 0, iV 0, uV 0] 28, Cl r98 [iV 0, iV 0, uV 0] 28, Cl r88 [iV 0, iV 0, uV 0] 28, Cl r75 [iV 0, iV 0, uV 0] 28, Cl r62 [iV 1, iV 0, uV 4294967295] 28, Cl r49 [iV 0, iV 0, uV 0] 28, Cl r36 [iV 0, iV 0, uV 0] 28, Cl r23 [iV 0, iV 0, uV 0] 28, Old wo, R] := h150
  refine ⟨(AllC_cons (sat_cell h151 7 rfl rfl) (AllC_cons (sat_cell h151 7 rfl rfl) (AllC_cons (sat_cell h151 7 rfl rfl) (AllC_nil _)))), ?_⟩
  refine draw_batch (t := (Tr.an 59 (Tr.fl 60 (Tr.fl 61 (Tr.fl 62 (Tr.an 63 (Tr.fl 64 (Tr.fl 65 Tr.nil)))))))) [⟨54, [], none⟩, ⟨55, [], none⟩, ⟨56, [], none⟩, ⟨57, [], none⟩, ⟨58, [], none⟩] (l' := ([(197, .agg #[iV 0, iV 0, uV 0, iV 0, iV 0, iV 0, iV 0, .string (St [])]), (196, pV b14), (195, .bool true), (194, .bool true), (193, .bool true), (192, iV 3), (191, .agg #[iV 0, iV 0, uV 0, iV 0, iV 0, iV 0, iV 0, .string (St [])]), (190, pV b14), (189, .bool true), (7, pV b14), (10, iV 2), (12, iV 16), (14, iV 2), (15, pV r62), (16, iV 0), (18, iV 6), (20, iV 4), (22, iV 2), (24, iV 6), (26, iV 4), (28, .bool true), (29, iV 0), (31, iV 4)] : Fr) ++ lr147) (pts' := []) (eqs := []) (by kernel_rfl) trivial (AllC_nil _) ?_
  refine draw_act (i := 59) [(15, ⟨r62, 0, none⟩, iV 1), (15, ⟨r62, 1, none⟩, iV 0), (15, ⟨r62, 2, none⟩, uV 4294967295)] (by kernel_rfl) (by kernel_rfl) ?_
  refine zCl 198 Try.call17 ((by have h_ := tset_chk b14 1 [(2, 4294967295)] [] ([⟨(1, 0, 1), 1, 0, 0, 0, [120]⟩]) 1 0 0 0 0 0 0 0 [] (by omega) (by omega) (by decide) 0 ⟨(1, 0, 1), 1, 0, 0, 0, [120]⟩ rfl (by omega) (by rw [show resE 0 0 0 0 0 0 0 [] = 2 from if_neg (by unfold posP; omega)]; decide); rw [show resE 0 0 0 0 0 0 0 [] = 2 from if_neg (by unfold posP; omega)] at h_; exact h_)) h151 (by kernel_rfl) ?_
  rintro v K w152 (⟨rfl, rfl⟩) h153
  refine ⟨_, rfl, ?_⟩
  have h154 : sat g w152 [Tab b14 1 [(2, 4294967295)] [] ([⟨(1, 0, 1), 1, 0, 0, 0, [120]⟩]), Cl r135 [iV 0, iV 0, uV 0] 28, Cl r118 [iV 0, iV 0, uV 0] 28, Cl r108 [iV 0, iV 0, uV 0] 28, Cl r98 [iV 0, iV 0, uV 0] 28, Cl r88 [iV 0, iV 0, uV 0] 28, Cl r75 [iV 0, iV 0, uV 0] 28, Cl r62 [iV 1, iV 0, uV 4294967295] 28, Cl r49 [iV 0, iV 0, uV 0] 28, Cl r36 [iV 0, iV 0, uV 0] 28, Cl r23 [iV 0, iV 0, uV 0] 28, Old wo, R] := h153
  refine ⟨(AllC_cons (sat_cell h154 7 rfl rfl) (AllC_cons (sat_cell h154 7 rfl rfl) (AllC_cons (sat_cell h154 7 rfl rfl) (AllC_nil _)))), ?_⟩
  refine draw_batch (t := (Tr.an 63 (Tr.fl 64 (Tr.fl 65 Tr.nil)))) [⟨60, [], none⟩, ⟨61, [], none⟩, ⟨62, [], none⟩] (l' := ([(201, .bool true), (200, .bool true), (199, .bool true), (198, iV 2), (197, .agg #[iV 0, iV 0, uV 0, iV 0, iV 0, iV 0, iV 0, .string (St [])]), (196, pV b14), (195, .bool true), (194, .bool true), (193, .bool true), (192, iV 3), (191, .agg #[iV 0, iV 0, uV 0, iV 0, iV 0, iV 0, iV 0, .string (St [])]), (190, pV b14), (189, .bool true), (7, pV b14), (10, iV 2), (12, iV 16), (14, iV 2), (15, pV r62), (16, iV 0), (18, iV 6), (20, iV 4), (22, iV 2), (24, iV 6), (26, iV 4), (28, .bool true), (29, iV 0), (31, iV 4)] : Fr) ++ lr147) (pts' := []) (eqs := []) (by kernel_rfl) trivial (AllC_nil _) ?_
  refine fk_cut ([(201, .bool true), (7, pV b14), (10, iV 2), (12, iV 16), (14, iV 2), (15, pV r62), (16, iV 0), (18, iV 6), (20, iV 4), (22, iV 2), (24, iV 6), (26, iV 4), (28, .bool true), (29, iV 0), (31, iV 4)] : Fr) (by kernel_rfl) (fun a => RW _ _ _ _ _ a _) (fun lr155 => ?_)
  refine draw_act (i := 63) [(15, ⟨r62, 0, none⟩, iV 1), (15, ⟨r62, 1, none⟩, iV 0), (15, ⟨r62, 2, none⟩, uV 4294967295)] (by kernel_rfl) (by kernel_rfl) ?_
  refine zCl 202 Try.call18 (works_ht) h154 (by kernel_rfl) ?_
  rintro v K w156 (⟨rfl, rfl⟩) h157
  refine ⟨_, rfl, ?_⟩
  have h158 : sat g w156 [Tab b14 1 [(2, 4294967295)] [] ([⟨(1, 0, 1), 1, 0, 0, 0, [120]⟩]), Cl r135 [iV 0, iV 0, uV 0] 28, Cl r118 [iV 0, iV 0, uV 0] 28, Cl r108 [iV 0, iV 0, uV 0] 28, Cl r98 [iV 0, iV 0, uV 0] 28, Cl r88 [iV 0, iV 0, uV 0] 28, Cl r75 [iV 0, iV 0, uV 0] 28, Cl r62 [iV 1, iV 0, uV 4294967295] 28, Cl r49 [iV 0, iV 0, uV 0] 28, Cl r36 [iV 0, iV 0, uV 0] 28, Cl r23 [iV 0, iV 0, uV 0] 28, Old wo, R] := h157
  refine ⟨(AllC_cons (sat_cell h158 7 rfl rfl) (AllC_cons (sat_cell h158 7 rfl rfl) (AllC_cons (sat_cell h158 7 rfl rfl) (AllC_nil _)))), ?_⟩
  refine draw_batch (t := Tr.nil) [⟨64, [], none⟩, ⟨65, [], none⟩] (l' := ([(0, .bool true), (203, .bool true), (202, .bool true), (201, .bool true), (7, pV b14), (10, iV 2), (12, iV 16), (14, iV 2), (15, pV r62), (16, iV 0), (18, iV 6), (20, iV 4), (22, iV 2), (24, iV 6), (26, iV 4), (28, .bool true), (29, iV 0), (31, iV 4)] : Fr) ++ lr155) (pts' := []) (eqs := []) (by kernel_rfl) trivial (AllC_nil _) ?_
  change WP _ _ (CA Try.f3 [1, 1, 1, 1, 1, 1, 1, 1, 1, 1, 1, 1, 1, 1, 1, 1, 1, 1]) _ _ _
  refine fk_cut ([(0, .bool true)] : Fr) (by kernel_rfl) (fun a => WP _ _ _ _ a _) (fun lr159 => ?_)
  refine gi_rt (by kernel_rfl) ?_
  repeat (first | simp only [Exit.inBlock] | simp only [Exit.then])
  have h160 : sat g w156 [Old wo, Tab b14 1 [(2, 4294967295)] [] ([⟨(1, 0, 1), 1, 0, 0, 0, [120]⟩]), Cl r135 [iV 0, iV 0, uV 0] 28, Cl r118 [iV 0, iV 0, uV 0] 28, Cl r108 [iV 0, iV 0, uV 0] 28, Cl r98 [iV 0, iV 0, uV 0] 28, Cl r88 [iV 0, iV 0, uV 0] 28, Cl r75 [iV 0, iV 0, uV 0] 28, Cl r62 [iV 1, iV 0, uV 4294967295] 28, Cl r49 [iV 0, iV 0, uV 0] 28, Cl r36 [iV 0, iV 0, uV 0] 28, Cl r23 [iV 0, iV 0, uV 0] 28, R] := sat_sel [11, 0, 1, 2, 3, 4, 5, 6, 7, 8, 9, 10, 12] rfl h158
  have h161 : sat g w156 [Old wo, R] := sat_sel [0, 12] rfl h160
  refine hi_out [] (.bool true) [] (by kernel_rfl) (by intro q hq; cases hq) ?_
  exact ⟨.bool true, [Old wo], rfl, ⟨rfl, rfl⟩, h161⟩

end Go.Proofs.Ytjjpmehiolejgaa
