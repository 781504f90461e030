/- Walks, printed by my generator gen12.py. -/
import Derived.Test.YtjjpmehiolejgaaF10
namespace Go.Proofs.Ytjjpmehiolejgaa
set_option maxHeartbeats 4000000 in
theorem tnum_none (b n : Nat) (A : List Sl2) (E : Tm) (RL : List Rs) (x y z : Int) (hz0 : 0 ≤ z) (hz1 : z ≤ 4294967295) (ho : 1 ≤ x ∧ x ≤ 3 ∧ 0 ≤ y ∧ y ≤ 255 ∧ 1 ≤ z) (hg_ : gget E y = none) : HT Try.prog 25 [Value.pointer (some ⟨b, 0, none⟩), Value.agg #[Value.int IntKind.i64 x, Value.int IntKind.i64 y, Value.int IntKind.u32 z]] [Tab b n A E RL] (fun v K => v = Value.tuple #[Value.int IntKind.i64 0, Value.int IntKind.i64 7] ∧ K = [Tab b n A E RL]) := by
  refine hi_in 17 ([(0, pV b), (1, .agg #[iV x, iV y, uV z])] : Fr) Try.func25 (by kernel_rfl) Try.ntmps25 rfl rfl ?_
  intro g w0 R h0
  change WP _ _ (CA Try.f25 []) _ _ _
  refine zSq (by kernel_rfl) ?_
  refine zPl [0, 1, 2] (by kernel_rfl) ?_
  refine plain_act (i := 0) (by kernel_rfl) ?_
  refine an_new (d := 3) (fun xb_ => pV xb_) (fun xb_ => Obj.cells [iV x, iV y, uV z].toArray 28 (0, 0)) (fun xb_ => by kernel_rfl) (by kernel_rfl) rfl h0 ?_
  intro r1 w2 (h3 : sat g w2 [Cl r1 [iV x, iV y, uV z] 28, Tab b n A E RL, R])
  refine zB0 [] [1, 2] [(5, iV 0), (4, iV 0)] (by kernel_rfl) ?_
  refine PO.mk ?_
  change WP _ _ (CA Try.f25 [1]) _ _ _
  refine fk_cut ([(0, pV b), (3, pV r1)] : Fr) (by kernel_rfl) (fun a => WP _ _ _ _ a _) (fun lr4 => ?_)
  refine zSq (by kernel_rfl) ?_
  refine zPl [0, 1, 2, 3, 4, 5, 6, 7, 8] (by kernel_rfl) ?_
  refine zBb [2, 3, 4, 5, 6, 7, 8] [(10, .agg #[iV x, iV y, uV z]), (9, pV b)] [⟨0, [], none⟩, ⟨1, [iV x, iV y, uV z], none⟩] [(1, ⟨r1, 0, none⟩, iV x), (1, ⟨r1, 1, none⟩, iV y), (1, ⟨r1, 2, none⟩, uV z)] [] (by kernel_rfl) trivial (AllC_cons (sat_cell h3 0 rfl rfl) (AllC_cons (sat_cell h3 0 rfl rfl) (AllC_cons (sat_cell h3 0 rfl rfl) (AllC_nil _)))) ?_
  have h5 : sat g w2 [Tab b n A E RL, Cl r1 [iV x, iV y, uV z] 28, R] := sat_sel [1, 0, 2] rfl h3
  refine plain_act (i := 2) (by kernel_rfl) ?_
  refine zCl 11 Try.call44 (tfind_none b n A E RL x y z (by omega) (by omega) (by omega) hg_) h5 (by kernel_rfl) ?_
  rintro v K w6 (⟨rfl, rfl⟩) h7
  refine ⟨_, rfl, ?_⟩
  have h8 : sat g w6 [Tab b n A E RL, Cl r1 [iV x, iV y, uV z] 28, R] := h7
  refine zB0 [6, 7, 8] [3, 4, 5] [(13, iV 7), (12, .agg #[iV 0, iV 0, uV 0, iV 0, iV 0, uV 0]), (8, .tuple #[.agg #[iV 0, iV 0, uV 0, iV 0, iV 0, uV 0], iV 7])] (by kernel_rfl) ?_
  refine plain_act (i := 6) (by kernel_rfl) ?_
  refine an_new (d := 6) (fun xb_ => pV xb_) (fun xb_ => Obj.cells [iV 0, iV 0, uV 0, iV 0, iV 0, uV 0].toArray 90 (0, 0)) (fun xb_ => by kernel_rfl) (by kernel_rfl) rfl h8 ?_
  intro r9 w10 (h11 : sat g w10 [Cl r9 [iV 0, iV 0, uV 0, iV 0, iV 0, uV 0] 90, Tab b n A E RL, Cl r1 [iV x, iV y, uV z] 28, R])
  refine plain_act (i := 7) (by kernel_rfl) ?_
  refine an_store [(0, iV 0), (1, iV 0), (2, uV 0), (3, iV 0), (4, iV 0), (5, uV 0)] (cs' := [iV 0, iV 0, uV 0, iV 0, iV 0, uV 0]) (by kernel_rfl) (by kernel_rfl) (allq ⟨⟨by simp, rfl⟩, ⟨by simp, rfl⟩, ⟨by simp, rfl⟩, ⟨by simp, rfl⟩, ⟨by simp, rfl⟩, ⟨by simp, rfl⟩, trivial⟩) rfl h11 ?_
  intro w12 (h13 : sat g w12 [Cl r9 [iV 0, iV 0, uV 0, iV 0, iV 0, uV 0] 90, Tab b n A E RL, Cl r1 [iV x, iV y, uV z] 28, R])
  refine zB0 [] [8] [(7, iV 7)] (by kernel_rfl) ?_
  refine PO.mk ?_
  change WP _ _ (CA Try.f25 [1, 1]) _ _ _
  refine fk_cut ([(6, pV r9), (7, iV 7)] : Fr) (by kernel_rfl) (fun a => WP _ _ _ _ a _) (fun lr14 => ?_)
  refine zSq (by kernel_rfl) ?_
  refine zPl [0, 1, 2, 3, 4] (by kernel_rfl) ?_
  refine zBb [] [(5, iV 7), (4, iV 0), (16, iV 7), (15, iV 0), (14, .pointer (some ⟨r9, 3, none⟩))] [⟨0, [], none⟩, ⟨1, [iV 0], none⟩, ⟨2, [], none⟩, ⟨3, [], none⟩, ⟨4, [], none⟩] [(1, ⟨r9, 3, none⟩, iV 0)] [] (by kernel_rfl) trivial (AllC_cons (sat_cell h13 0 rfl rfl) (AllC_nil _)) ?_
  refine PO.mk ?_
  change WP _ _ (CA Try.f25 [1, 1, 1]) _ _ _
  refine fk_cut ([(4, iV 0), (5, iV 7)] : Fr) (by kernel_rfl) (fun a => WP _ _ _ _ a _) (fun lr15 => ?_)
  refine gi_rt (by kernel_rfl) ?_
  repeat (first | simp only [Exit.inBlock] | simp only [Exit.then])
  have h16 : sat g w12 [Tab b n A E RL, Cl r9 [iV 0, iV 0, uV 0, iV 0, iV 0, uV 0] 90, Cl r1 [iV x, iV y, uV z] 28, R] := sat_sel [1, 0, 2, 3] rfl h13
  have h17 : sat g w12 [Tab b n A E RL, R] := sat_sel [0, 3] rfl h16
  refine hi_out [] (.tuple #[iV 0, iV 7]) [] (by kernel_rfl) (by intro q hq; cases hq) ?_
  exact ⟨.tuple #[iV 0, iV 7], [Tab b n A E RL], rfl, ⟨rfl, rfl⟩, h17⟩

set_option maxHeartbeats 4000000 in
theorem tnum_diff (b n : Nat) (A : List Sl2) (E : Tm) (RL : List Rs) (x y z : Int) (e : Ety) (hz0 : 0 ≤ z) (hz1 : z ≤ 4294967295) (ho : 1 ≤ x ∧ x ≤ 3 ∧ 0 ≤ y ∧ y ≤ 255 ∧ 1 ≤ z) (hg_ : gget E y = some e) (hd_ : ¬ (e.d.1 = x ∧ e.d.2.1 = y ∧ e.d.2.2 = z)) : HT Try.prog 25 [Value.pointer (some ⟨b, 0, none⟩), Value.agg #[Value.int IntKind.i64 x, Value.int IntKind.i64 y, Value.int IntKind.u32 z]] [Tab b n A E RL] (fun v K => v = Value.tuple #[Value.int IntKind.i64 0, Value.int IntKind.i64 7] ∧ K = [Tab b n A E RL]) := by
  refine hi_in 17 ([(0, pV b), (1, .agg #[iV x, iV y, uV z])] : Fr) Try.func25 (by kernel_rfl) Try.ntmps25 rfl rfl ?_
  intro g w0 R h0
  change WP _ _ (CA Try.f25 []) _ _ _
  refine zSq (by kernel_rfl) ?_
  refine zPl [0, 1, 2] (by kernel_rfl) ?_
  refine plain_act (i := 0) (by kernel_rfl) ?_
  refine an_new (d := 3) (fun xb_ => pV xb_) (fun xb_ => Obj.cells [iV x, iV y, uV z].toArray 28 (0, 0)) (fun xb_ => by kernel_rfl) (by kernel_rfl) rfl h0 ?_
  intro r1 w2 (h3 : sat g w2 [Cl r1 [iV x, iV y, uV z] 28, Tab b n A E RL, R])
  refine zB0 [] [1, 2] [(5, iV 0), (4, iV 0)] (by kernel_rfl) ?_
  refine PO.mk ?_
  change WP _ _ (CA Try.f25 [1]) _ _ _
  refine fk_cut ([(0, pV b), (3, pV r1)] : Fr) (by kernel_rfl) (fun a => WP _ _ _ _ a _) (fun lr4 => ?_)
  refine zSq (by kernel_rfl) ?_
  refine zPl [0, 1, 2, 3, 4, 5, 6, 7, 8] (by kernel_rfl) ?_
  refine zBb [2, 3, 4, 5, 6, 7, 8] [(10, .agg #[iV x, iV y, uV z]), (9, pV b)] [⟨0, [], none⟩, ⟨1, [iV x, iV y, uV z], none⟩] [(1, ⟨r1, 0, none⟩, iV x), (1, ⟨r1, 1, none⟩, iV y), (1, ⟨r1, 2, none⟩, uV z)] [] (by kernel_rfl) trivial (AllC_cons (sat_cell h3 0 rfl rfl) (AllC_cons (sat_cell h3 0 rfl rfl) (AllC_cons (sat_cell h3 0 rfl rfl) (AllC_nil _)))) ?_
  have h5 : sat g w2 [Tab b n A E RL, Cl r1 [iV x, iV y, uV z] 28, R] := sat_sel [1, 0, 2] rfl h3
  refine plain_act (i := 2) (by kernel_rfl) ?_
  refine zCl 11 Try.call44 (tfind_diff b n A E RL x y z e (by omega) (by omega) (by omega) hg_ (by omega)) h5 (by kernel_rfl) ?_
  rintro v K w6 (⟨rfl, rfl⟩) h7
  refine ⟨_, rfl, ?_⟩
  have h8 : sat g w6 [Tab b n A E RL, Cl r1 [iV x, iV y, uV z] 28, R] := h7
  refine zB0 [6, 7, 8] [3, 4, 5] [(13, iV 7), (12, .agg #[iV 0, iV 0, uV 0, iV 0, iV 0, uV 0]), (8, .tuple #[.agg #[iV 0, iV 0, uV 0, iV 0, iV 0, uV 0], iV 7])] (by kernel_rfl) ?_
  refine plain_act (i := 6) (by kernel_rfl) ?_
  refine an_new (d := 6) (fun xb_ => pV xb_) (fun xb_ => Obj.cells [iV 0, iV 0, uV 0, iV 0, iV 0, uV 0].toArray 90 (0, 0)) (fun xb_ => by kernel_rfl) (by kernel_rfl) rfl h8 ?_
  intro r9 w10 (h11 : sat g w10 [Cl r9 [iV 0, iV 0, uV 0, iV 0, iV 0, uV 0] 90, Tab b n A E RL, Cl r1 [iV x, iV y, uV z] 28, R])
  refine plain_act (i := 7) (by kernel_rfl) ?_
  refine an_store [(0, iV 0), (1, iV 0), (2, uV 0), (3, iV 0), (4, iV 0), (5, uV 0)] (cs' := [iV 0, iV 0, uV 0, iV 0, iV 0, uV 0]) (by kernel_rfl) (by kernel_rfl) (allq ⟨⟨by simp, rfl⟩, ⟨by simp, rfl⟩, ⟨by simp, rfl⟩, ⟨by simp, rfl⟩, ⟨by simp, rfl⟩, ⟨by simp, rfl⟩, trivial⟩) rfl h11 ?_
  intro w12 (h13 : sat g w12 [Cl r9 [iV 0, iV 0, uV 0, iV 0, iV 0, uV 0] 90, Tab b n A E RL, Cl r1 [iV x, iV y, uV z] 28, R])
  refine zB0 [] [8] [(7, iV 7)] (by kernel_rfl) ?_
  refine PO.mk ?_
  change WP _ _ (CA Try.f25 [1, 1]) _ _ _
  refine fk_cut ([(6, pV r9), (7, iV 7)] : Fr) (by kernel_rfl) (fun a => WP _ _ _ _ a _) (fun lr14 => ?_)
  refine zSq (by kernel_rfl) ?_
  refine zPl [0, 1, 2, 3, 4] (by kernel_rfl) ?_
  refine zBb [] [(5, iV 7), (4, iV 0), (16, iV 7), (15, iV 0), (14, .pointer (some ⟨r9, 3, none⟩))] [⟨0, [], none⟩, ⟨1, [iV 0], none⟩, ⟨2, [], none⟩, ⟨3, [], none⟩, ⟨4, [], none⟩] [(1, ⟨r9, 3, none⟩, iV 0)] [] (by kernel_rfl) trivial (AllC_cons (sat_cell h13 0 rfl rfl) (AllC_nil _)) ?_
  refine PO.mk ?_
  change WP _ _ (CA Try.f25 [1, 1, 1]) _ _ _
  refine fk_cut ([(4, iV 0), (5, iV 7)] : Fr) (by kernel_rfl) (fun a => WP _ _ _ _ a _) (fun lr15 => ?_)
  refine gi_rt (by kernel_rfl) ?_
  repeat (first | simp only [Exit.inBlock] | simp only [Exit.then])
  have h16 : sat g w12 [Tab b n A E RL, Cl r9 [iV 0, iV 0, uV 0, iV 0, iV 0, uV 0] 90, Cl r1 [iV x, iV y, uV z] 28, R] := sat_sel [1, 0, 2, 3] rfl h13
  have h17 : sat g w12 [Tab b n A E RL, R] := sat_sel [0, 3] rfl h16
  refine hi_out [] (.tuple #[iV 0, iV 7]) [] (by kernel_rfl) (by intro q hq; cases hq) ?_
  exact ⟨.tuple #[iV 0, iV 7], [Tab b n A E RL], rfl, ⟨rfl, rfl⟩, h17⟩

end Go.Proofs.Ytjjpmehiolejgaa
