/- Walks, printed by my generator gen12.py. -/
import Derived.Test.YtjjpmehiolejgaaF10
namespace Go.Proofs.Ytjjpmehiolejgaa
set_option maxHeartbeats 4000000 in
theorem tnum_n (x y z : Int) : HT Try.prog 25 [Value.pointer none, Value.agg #[Value.int IntKind.i64 x, Value.int IntKind.i64 y, Value.int IntKind.u32 z]] [] (fun v K => v = Value.tuple #[Value.int IntKind.i64 0, Value.int IntKind.i64 1] ∧ K = []) := by
  refine hi_in 17 ([(0, .pointer none), (1, .agg #[iV x, iV y, uV z])] : Fr) Try.func25 (by kernel_rfl) Try.ntmps25 rfl rfl ?_
  intro g w0 R h0
  change WP _ _ (CA Try.f25 []) _ _ _
  refine zSq (by kernel_rfl) ?_
  refine zPl [0, 1, 2] (by kernel_rfl) ?_
  refine plain_act (i := 0) (by kernel_rfl) ?_
  refine an_new (d := 3) (fun xb_ => pV xb_) (fun xb_ => Obj.cells [iV x, iV y, uV z].toArray 28 (0, 0)) (fun xb_ => by kernel_rfl) (by kernel_rfl) rfl h0 ?_
  intro r1 w2 (h3 : sat g w2 [Cl r1 [iV x, iV y, uV z] 28, R])
  refine zB0 [] [1, 2] [(5, iV 0), (4, iV 0)] (by kernel_rfl) ?_
  refine PO.mk ?_
  change WP _ _ (CA Try.f25 [1]) _ _ _
  refine fk_cut ([(0, .pointer none), (3, pV r1)] : Fr) (by kernel_rfl) (fun a => WP _ _ _ _ a _) (fun lr4 => ?_)
  refine zSq (by kernel_rfl) ?_
  refine zPl [0, 1, 2, 3, 4, 5, 6, 7, 8] (by kernel_rfl) ?_
  refine zBb [2, 3, 4, 5, 6, 7, 8] [(10, .agg #[iV x, iV y, uV z]), (9, .pointer none)] [⟨0, [], none⟩, ⟨1, [iV x, iV y, uV z], none⟩] [(1, ⟨r1, 0, none⟩, iV x), (1, ⟨r1, 1, none⟩, iV y), (1, ⟨r1, 2, none⟩, uV z)] [] (by kernel_rfl) trivial (AllC_cons (sat_cell h3 0 rfl rfl) (AllC_cons (sat_cell h3 0 rfl rfl) (AllC_cons (sat_cell h3 0 rfl rfl) (AllC_nil _)))) ?_
  refine plain_act (i := 2) (by kernel_rfl) ?_
  refine zCl 11 Try.call44 (tfind_n x y z) h3 (by kernel_rfl) ?_
  rintro v K w5 (⟨rfl, rfl⟩) h6
  refine ⟨_, rfl, ?_⟩
  have h7 : sat g w5 [Cl r1 [iV x, iV y, uV z] 28, R] := h6
  refine zB0 [6, 7, 8] [3, 4, 5] [(13, iV 1), (12, .agg #[iV 0, iV 0, uV 0, iV 0, iV 0, uV 0]), (8, .tuple #[.agg #[iV 0, iV 0, uV 0, iV 0, iV 0, uV 0], iV 1])] (by kernel_rfl) ?_
  refine plain_act (i := 6) (by kernel_rfl) ?_
  refine an_new (d := 6) (fun xb_ => pV xb_) (fun xb_ => Obj.cells [iV 0, iV 0, uV 0, iV 0, iV 0, uV 0].toArray 90 (0, 0)) (fun xb_ => by kernel_rfl) (by kernel_rfl) rfl h7 ?_
  intro r8 w9 (h10 : sat g w9 [Cl r8 [iV 0, iV 0, uV 0, iV 0, iV 0, uV 0] 90, Cl r1 [iV x, iV y, uV z] 28, R])
  refine plain_act (i := 7) (by kernel_rfl) ?_
  refine an_store [(0, iV 0), (1, iV 0), (2, uV 0), (3, iV 0), (4, iV 0), (5, uV 0)] (cs' := [iV 0, iV 0, uV 0, iV 0, iV 0, uV 0]) (by kernel_rfl) (by kernel_rfl) (allq ⟨⟨by simp, rfl⟩, ⟨by simp, rfl⟩, ⟨by simp, rfl⟩, ⟨by simp, rfl⟩, ⟨by simp, rfl⟩, ⟨by simp, rfl⟩, trivial⟩) rfl h10 ?_
  intro w11 (h12 : sat g w11 [Cl r8 [iV 0, iV 0, uV 0, iV 0, iV 0, uV 0] 90, Cl r1 [iV x, iV y, uV z] 28, R])
  refine zB0 [] [8] [(7, iV 1)] (by kernel_rfl) ?_
  refine PO.mk ?_
  change WP _ _ (CA Try.f25 [1, 1]) _ _ _
  refine fk_cut ([(6, pV r8), (7, iV 1)] : Fr) (by kernel_rfl) (fun a => WP _ _ _ _ a _) (fun lr13 => ?_)
  refine zSq (by kernel_rfl) ?_
  refine zPl [0, 1, 2, 3, 4] (by kernel_rfl) ?_
  refine zBb [] [(5, iV 1), (4, iV 0), (16, iV 1), (15, iV 0), (14, .pointer (some ⟨r8, 3, none⟩))] [⟨0, [], none⟩, ⟨1, [iV 0], none⟩, ⟨2, [], none⟩, ⟨3, [], none⟩, ⟨4, [], none⟩] [(1, ⟨r8, 3, none⟩, iV 0)] [] (by kernel_rfl) trivial (AllC_cons (sat_cell h12 0 rfl rfl) (AllC_nil _)) ?_
  refine PO.mk ?_
  change WP _ _ (CA Try.f25 [1, 1, 1]) _ _ _
  refine fk_cut ([(4, iV 0), (5, iV 1)] : Fr) (by kernel_rfl) (fun a => WP _ _ _ _ a _) (fun lr14 => ?_)
  refine gi_rt (by kernel_rfl) ?_
  repeat (first | simp only [Exit.inBlock] | simp only [Exit.then])
  have h15 : sat g w11 [R] := sat_sel [2] rfl h12
  refine hi_out [] (.tuple #[iV 0, iV 1]) [] (by kernel_rfl) (by intro q hq; cases hq) ?_
  exact ⟨.tuple #[iV 0, iV 1], [], rfl, ⟨rfl, rfl⟩, h15⟩

set_option maxHeartbeats 4000000 in
theorem tnum_z (b : Nat) (x y z : Int) : HT Try.prog 25 [Value.pointer (some ⟨b, 0, none⟩), Value.agg #[Value.int IntKind.i64 x, Value.int IntKind.i64 y, Value.int IntKind.u32 z]] [Cl b [Value.pointer none, Value.map none, Value.slice none 0 0] 76] (fun v K => v = Value.tuple #[Value.int IntKind.i64 0, Value.int IntKind.i64 1] ∧ K = [Cl b [Value.pointer none, Value.map none, Value.slice none 0 0] 76]) := by
  refine hi_in 17 ([(0, pV b), (1, .agg #[iV x, iV y, uV z])] : Fr) Try.func25 (by kernel_rfl) Try.ntmps25 rfl rfl ?_
  intro g w0 R h0
  change WP _ _ (CA Try.f25 []) _ _ _
  refine zSq (by kernel_rfl) ?_
  refine zPl [0, 1, 2] (by kernel_rfl) ?_
  refine plain_act (i := 0) (by kernel_rfl) ?_
  refine an_new (d := 3) (fun xb_ => pV xb_) (fun xb_ => Obj.cells [iV x, iV y, uV z].toArray 28 (0, 0)) (fun xb_ => by kernel_rfl) (by kernel_rfl) rfl h0 ?_
  intro r1 w2 (h3 : sat g w2 [Cl r1 [iV x, iV y, uV z] 28, Cl b [.pointer none, .map none, .slice none 0 0] 76, R])
  refine zB0 [] [1, 2] [(5, iV 0), (4, iV 0)] (by kernel_rfl) ?_
  refine PO.mk ?_
  change WP _ _ (CA Try.f25 [1]) _ _ _
  refine fk_cut ([(0, pV b), (3, pV r1)] : Fr) (by kernel_rfl) (fun a => WP _ _ _ _ a _) (fun lr4 => ?_)
  refine zSq (by kernel_rfl) ?_
  refine zPl [0, 1, 2, 3, 4, 5, 6, 7, 8] (by kernel_rfl) ?_
  refine zBb [2, 3, 4, 5, 6, 7, 8] [(10, .agg #[iV x, iV y, uV z]), (9, pV b)] [⟨0, [], none⟩, ⟨1, [iV x, iV y, uV z], none⟩] [(1, ⟨r1, 0, none⟩, iV x), (1, ⟨r1, 1, none⟩, iV y), (1, ⟨r1, 2, none⟩, uV z)] [] (by kernel_rfl) trivial (AllC_cons (sat_cell h3 0 rfl rfl) (AllC_cons (sat_cell h3 0 rfl rfl) (AllC_cons (sat_cell h3 0 rfl rfl) (AllC_nil _)))) ?_
  have h5 : sat g w2 [Cl b [.pointer none, .map none, .slice none 0 0] 76, Cl r1 [iV x, iV y, uV z] 28, R] := sat_sel [1, 0, 2] rfl h3
  refine plain_act (i := 2) (by kernel_rfl) ?_
  refine zCl 11 Try.call44 (tfind_z b x y z) h5 (by kernel_rfl) ?_
  rintro v K w6 (⟨rfl, rfl⟩) h7
  refine ⟨_, rfl, ?_⟩
  have h8 : sat g w6 [Cl b [.pointer none, .map none, .slice none 0 0] 76, Cl r1 [iV x, iV y, uV z] 28, R] := h7
  refine zB0 [6, 7, 8] [3, 4, 5] [(13, iV 1), (12, .agg #[iV 0, iV 0, uV 0, iV 0, iV 0, uV 0]), (8, .tuple #[.agg #[iV 0, iV 0, uV 0, iV 0, iV 0, uV 0], iV 1])] (by kernel_rfl) ?_
  refine plain_act (i := 6) (by kernel_rfl) ?_
  refine an_new (d := 6) (fun xb_ => pV xb_) (fun xb_ => Obj.cells [iV 0, iV 0, uV 0, iV 0, iV 0, uV 0].toArray 90 (0, 0)) (fun xb_ => by kernel_rfl) (by kernel_rfl) rfl h8 ?_
  intro r9 w10 (h11 : sat g w10 [Cl r9 [iV 0, iV 0, uV 0, iV 0, iV 0, uV 0] 90, Cl b [.pointer none, .map none, .slice none 0 0] 76, Cl r1 [iV x, iV y, uV z] 28, R])
  refine plain_act (i := 7) (by kernel_rfl) ?_
  refine an_store [(0, iV 0), (1, iV 0), (2, uV 0), (3, iV 0), (4, iV 0), (5, uV 0)] (cs' := [iV 0, iV 0, uV 0, iV 0, iV 0, uV 0]) (by kernel_rfl) (by kernel_rfl) (allq ⟨⟨by simp, rfl⟩, ⟨by simp, rfl⟩, ⟨by simp, rfl⟩, ⟨by simp, rfl⟩, ⟨by simp, rfl⟩, ⟨by simp, rfl⟩, trivial⟩) rfl h11 ?_
  intro w12 (h13 : sat g w12 [Cl r9 [iV 0, iV 0, uV 0, iV 0, iV 0, uV 0] 90, Cl b [.pointer none, .map none, .slice none 0 0] 76, Cl r1 [iV x, iV y, uV z] 28, R])
  refine zB0 [] [8] [(7, iV 1)] (by kernel_rfl) ?_
  refine PO.mk ?_
  change WP _ _ (CA Try.f25 [1, 1]) _ _ _
  refine fk_cut ([(6, pV r9), (7, iV 1)] : Fr) (by kernel_rfl) (fun a => WP _ _ _ _ a _) (fun lr14 => ?_)
  refine zSq (by kernel_rfl) ?_
  refine zPl [0, 1, 2, 3, 4] (by kernel_rfl) ?_
  refine zBb [] [(5, iV 1), (4, iV 0), (16, iV 1), (15, iV 0), (14, .pointer (some ⟨r9, 3, none⟩))] [⟨0, [], none⟩, ⟨1, [iV 0], none⟩, ⟨2, [], none⟩, ⟨3, [], none⟩, ⟨4, [], none⟩] [(1, ⟨r9, 3, none⟩, iV 0)] [] (by kernel_rfl) trivial (AllC_cons (sat_cell h13 0 rfl rfl) (AllC_nil _)) ?_
  refine PO.mk ?_
  change WP _ _ (CA Try.f25 [1, 1, 1]) _ _ _
  refine fk_cut ([(4, iV 0), (5, iV 1)] : Fr) (by kernel_rfl) (fun a => WP _ _ _ _ a _) (fun lr15 => ?_)
  refine gi_rt (by kernel_rfl) ?_
  repeat (first | simp only [Exit.inBlock] | simp only [Exit.then])
  have h16 : sat g w12 [Cl b [.pointer none, .map none, .slice none 0 0] 76, Cl r9 [iV 0, iV 0, uV 0, iV 0, iV 0, uV 0] 90, Cl r1 [iV x, iV y, uV z] 28, R] := sat_sel [1, 0, 2, 3] rfl h13
  have h17 : sat g w12 [Cl b [.pointer none, .map none, .slice none 0 0] 76, R] := sat_sel [0, 3] rfl h16
  refine hi_out [] (.tuple #[iV 0, iV 1]) [] (by kernel_rfl) (by intro q hq; cases hq) ?_
  exact ⟨.tuple #[iV 0, iV 1], [Cl b [.pointer none, .map none, .slice none 0 0] 76], rfl, ⟨rfl, rfl⟩, h17⟩

set_option maxHeartbeats 4000000 in
theorem tnum_none (b n : Nat) (A : List Sl2) (E : Tm) (RL : List Rs) (x y z : Int) (hz0 : 0 ≤ z) (hz1 : z ≤ 4294967295) (ho : 1 ≤ x ∧ x ≤ 3 ∧ 0 ≤ y ∧ y ≤ 255 ∧ 1 ≤ z) (hg_ : gget E y = none) : HT Try.prog 25 [Value.pointer (some ⟨b, 0, none⟩), Value.agg #[Value.int IntKind.i64 x, Value.int IntKind.i64 y, Value.int IntKind.u32 z]] [Tab b n A E RL] (fun v K => v = Value.tuple #[Value.int IntKind.i64 0, Value.int IntKind.i64 7] ∧ K = [Tab b n A E RL]) := by
  refine hi_in 17 ([(0, pV b), (1, .agg #[iV x, iV y, uV z])] : Fr) Try.func25 (by kernel_rfl) Try.ntmps25 rfl rfl ?_
  intro g w0 R h0
  change WP _ _ (CA Try.f25 []) _ _ _
  refine zSq (by kernel_rfl) ?_
  refine zPl [0, 1, 2] (by kernel_rfl) ?_
  refine plain_act (i := 0) (by kernel_rfl) ?_
  refine an_new (d := 3) (fun xb_ => pV xb_) (fun xb_ => Obj.cells [iV x, iV y, uV z].toArray 28 (0, 0)) (fun xb_ => by kernel_rfl) (by kernel_rfl) rfl h0 ?_
  intro r1 w2 (h3 : sat g w2 [Cl r1 [iV x, iV y, uV z] 28, Tab b n A E RL, R])
  refine zB0 [] [1, 2] [(5, iV 0), (4, iV 0)] (by kernel_rfl) ?_
  refine PO.mk ?_
  change WP _ _ (CA Try.f25 [1]) _ _ _
  refine fk_cut ([(0, pV b), (3, pV r1)] : Fr) (by kernel_rfl) (fun a => WP _ _ _ _ a _) (fun lr4 => ?_)
  refine zSq (by kernel_rfl) ?_
  refine zPl [0, 1, 2, 3, 4, 5, 6, 7, 8] (by kernel_rfl) ?_
  refine zBb [2, 3, 4, 5, 6, 7, 8] [(10, .agg #[iV x, iV y, uV z]), (9, pV b)] [⟨0, [], none⟩, ⟨1, [iV x, iV y, uV z], none⟩] [(1, ⟨r1, 0, none⟩, iV x), (1, ⟨r1, 1, none⟩, iV y), (1, ⟨r1, 2, none⟩, uV z)] [] (by kernel_rfl) trivial (AllC_cons (sat_cell h3 0 rfl rfl) (AllC_cons (sat_cell h3 0 rfl rfl) (AllC_cons (sat_cell h3 0 rfl rfl) (AllC_nil _)))) ?_
  have h5 : sat g w2 [Tab b n A E RL, Cl r1 [iV x, iV y, uV z] 28, R] := sat_sel [1, 0, 2] rfl h3
  refine plain_act (i := 2) (by kernel_rfl) ?_
  refine zCl 11 Try.call44 (tfind_none b n A E RL x y z (by omega) (by omega) (by omega) hg_) h5 (by kernel_rfl) ?_
  rintro v K w6 (⟨rfl, rfl⟩) h7
  refine ⟨_, rfl, ?_⟩
  have h8 : sat g w6 [Tab b n A E RL, Cl r1 [iV x, iV y, uV z] 28, R] := h7
  refine zB0 [6, 7, 8] [3, 4, 5] [(13, iV 7), (12, .agg #[iV 0, iV 0, uV 0, iV 0, iV 0, uV 0]), (8, .tuple #[.agg #[iV 0, iV 0, uV 0, iV 0, iV 0, uV 0], iV 7])] (by kernel_rfl) ?_
  refine plain_act (i := 6) (by kernel_rfl) ?_
  refine an_new (d := 6) (fun xb_ => pV xb_) (fun xb_ => Obj.cells [iV 0, iV 0, uV 0, iV 0, iV 0, uV 0].toArray 90 (0, 0)) (fun xb_ => by kernel_rfl) (by kernel_rfl) rfl h8 ?_
  intro r9 w10 (h11 : sat g w10 [Cl r9 [iV 0, iV 0, uV 0, iV 0, iV 0, uV 0] 90, Tab b n A E RL, Cl r1 [iV x, iV y, uV z] 28, R])
  refine plain_act (i := 7) (by kernel_rfl) ?_
  refine an_store [(0, iV 0), (1, iV 0), (2, uV 0), (3, iV 0), (4, iV 0), (5, uV 0)] (cs' := [iV 0, iV 0, uV 0, iV 0, iV 0, uV 0]) (by kernel_rfl) (by kernel_rfl) (allq ⟨⟨by simp, rfl⟩, ⟨by simp, rfl⟩, ⟨by simp, rfl⟩, ⟨by simp, rfl⟩, ⟨by simp, rfl⟩, ⟨by simp, rfl⟩, trivial⟩) rfl h11 ?_
  intro w12 (h13 : sat g w12 [Cl r9 [iV 0, iV 0, uV 0, iV 0, iV 0, uV 0] 90, Tab b n A E RL, Cl r1 [iV x, iV y, uV z] 28, R])
  refine zB0 [] [8] [(7, iV 7)] (by kernel_rfl) ?_
  refine PO.mk ?_
  change WP _ _ (CA Try.f25 [1, 1]) _ _ _
  refine fk_cut ([(6, pV r9), (7, iV 7)] : Fr) (by kernel_rfl) (fun a => WP _ _ _ _ a _) (fun lr14 => ?_)
  refine zSq (by kernel_rfl) ?_
  refine zPl [0, 1, 2, 3, 4] (by kernel_rfl) ?_
  refine zBb [] [(5, iV 7), (4, iV 0), (16, iV 7), (15, iV 0), (14, .pointer (some ⟨r9, 3, none⟩))] [⟨0, [], none⟩, ⟨1, [iV 0], none⟩, ⟨2, [], none⟩, ⟨3, [], none⟩, ⟨4, [], none⟩] [(1, ⟨r9, 3, none⟩, iV 0)] [] (by kernel_rfl) trivial (AllC_cons (sat_cell h13 0 rfl rfl) (AllC_nil _)) ?_
  refine PO.mk ?_
  change WP _ _ (CA Try.f25 [1, 1, 1]) _ _ _
  refine fk_cut ([(4, iV 0), (5, iV 7)] : Fr) (by kernel_rfl) (fun a => WP _ _ _ _ a _) (fun lr15 => ?_)
  refine gi_rt (by kernel_rfl) ?_
  repeat (first | simp only [Exit.inBlock] | simp only [Exit.then])
  have h16 : sat g w12 [Tab b n A E RL, Cl r9 [iV 0, iV 0, uV 0, iV 0, iV 0, uV 0] 90, Cl r1 [iV x, iV y, uV z] 28, R] := sat_sel [1, 0, 2, 3] rfl h13
  have h17 : sat g w12 [Tab b n A E RL, R] := sat_sel [0, 3] rfl h16
  refine hi_out [] (.tuple #[iV 0, iV 7]) [] (by kernel_rfl) (by intro q hq; cases hq) ?_
  exact ⟨.tuple #[iV 0, iV 7], [Tab b n A E RL], rfl, ⟨rfl, rfl⟩, h17⟩

set_option maxHeartbeats 4000000 in
theorem tnum_diff (b n : Nat) (A : List Sl2) (E : Tm) (RL : List Rs) (x y z : Int) (e : Ety) (hz0 : 0 ≤ z) (hz1 : z ≤ 4294967295) (ho : 1 ≤ x ∧ x ≤ 3 ∧ 0 ≤ y ∧ y ≤ 255 ∧ 1 ≤ z) (hg_ : gget E y = some e) (hd_ : ¬ (e.d.1 = x ∧ e.d.2.1 = y ∧ e.d.2.2 = z)) : HT Try.prog 25 [Value.pointer (some ⟨b, 0, none⟩), Value.agg #[Value.int IntKind.i64 x, Value.int IntKind.i64 y, Value.int IntKind.u32 z]] [Tab b n A E RL] (fun v K => v = Value.tuple #[Value.int IntKind.i64 0, Value.int IntKind.i64 7] ∧ K = [Tab b n A E RL]) := by
  refine hi_in 17 ([(0, pV b), (1, .agg #[iV x, iV y, uV z])] : Fr) Try.func25 (by kernel_rfl) Try.ntmps25 rfl rfl ?_
  intro g w0 R h0
  change WP _ _ (CA Try.f25 []) _ _ _
  refine zSq (by kernel_rfl) ?_
  refine zPl [0, 1, 2] (by kernel_rfl) ?_
  refine plain_act (i := 0) (by kernel_rfl) ?_
  refine an_new (d := 3) (fun xb_ => pV xb_) (fun xb_ => Obj.cells [iV x, iV y, uV z].toArray 28 (0, 0)) (fun xb_ => by kernel_rfl) (by kernel_rfl) rfl h0 ?_
  intro r1 w2 (h3 : sat g w2 [Cl r1 [iV x, iV y, uV z] 28, Tab b n A E RL, R])
  refine zB0 [] [1, 2] [(5, iV 0), (4, iV 0)] (by kernel_rfl) ?_
  refine PO.mk ?_
  change WP _ _ (CA Try.f25 [1]) _ _ _
  refine fk_cut ([(0, pV b), (3, pV r1)] : Fr) (by kernel_rfl) (fun a => WP _ _ _ _ a _) (fun lr4 => ?_)
  refine zSq (by kernel_rfl) ?_
  refine zPl [0, 1, 2, 3, 4, 5, 6, 7, 8] (by kernel_rfl) ?_
  refine zBb [2, 3, 4, 5, 6, 7, 8] [(10, .agg #[iV x, iV y, uV z]), (9, pV b)] [⟨0, [], none⟩, ⟨1, [iV x, iV y, uV z], none⟩] [(1, ⟨r1, 0, none⟩, iV x), (1, ⟨r1, 1, none⟩, iV y), (1, ⟨r1, 2, none⟩, uV z)] [] (by kernel_rfl) trivial (AllC_cons (sat_cell h3 0 rfl rfl) (AllC_cons (sat_cell h3 0 rfl rfl) (AllC_cons (sat_cell h3 0 rfl rfl) (AllC_nil _)))) ?_
  have h5 : sat g w2 [Tab b n A E RL, Cl r1 [iV x, iV y, uV z] 28, R] := sat_sel [1, 0, 2] rfl h3
  refine plain_act (i := 2) (by kernel_rfl) ?_
  refine zCl 11 Try.call44 (tfind_diff b n A E RL x y z e (by omega) (by omega) (by omega) hg_ (by omega)) h5 (by kernel_rfl) ?_
  rintro v K w6 (⟨rfl, rfl⟩) h7
  refine ⟨_, rfl, ?_⟩
  have h8 : sat g w6 [Tab b n A E RL, Cl r1 [iV x, iV y, uV z] 28, R] := h7
  refine zB0 [6, 7, 8] [3, 4, 5] [(13, iV 7), (12, .agg #[iV 0, iV 0, uV 0, iV 0, iV 0, uV 0]), (8, .tuple #[.agg #[iV 0, iV 0, uV 0, iV 0, iV 0, uV 0], iV 7])] (by kernel_rfl) ?_
  refine plain_act (i := 6) (by kernel_rfl) ?_
  refine an_new (d := 6) (fun xb_ => pV xb_) (fun xb_ => Obj.cells [iV 0, iV 0, uV 0, iV 0, iV 0, uV 0].toArray 90 (0, 0)) (fun xb_ => by kernel_rfl) (by kernel_rfl) rfl h8 ?_
  intro r9 w10 (h11 : sat g w10 [Cl r9 [iV 0, iV 0, uV 0, iV 0, iV 0, uV 0] 90, Tab b n A E RL, Cl r1 [iV x, iV y, uV z] 28, R])
  refine plain_act (i := 7) (by kernel_rfl) ?_
  refine an_store [(0, iV 0), (1, iV 0), (2, uV 0), (3, iV 0), (4, iV 0), (5, uV 0)] (cs' := [iV 0, iV 0, uV 0, iV 0, iV 0, uV 0]) (by kernel_rfl) (by kernel_rfl) (allq ⟨⟨by simp, rfl⟩, ⟨by simp, rfl⟩, ⟨by simp, rfl⟩, ⟨by simp, rfl⟩, ⟨by simp, rfl⟩, ⟨by simp, rfl⟩, trivial⟩) rfl h11 ?_
  intro w12 (h13 : sat g w12 [Cl r9 [iV 0, iV 0, uV 0, iV 0, iV 0, uV 0] 90, Tab b n A E RL, Cl r1 [iV x, iV y, uV z] 28, R])
  refine zB0 [] [8] [(7, iV 7)] (by kernel_rfl) ?_
  refine PO.mk ?_
  change WP _ _ (CA Try.f25 [1, 1]) _ _ _
  refine fk_cut ([(6, pV r9), (7, iV 7)] : Fr) (by kernel_rfl) (fun a => WP _ _ _ _ a _) (fun lr14 => ?_)
  refine zSq (by kernel_rfl) ?_
  refine zPl [0, 1, 2, 3, 4] (by kernel_rfl) ?_
  refine zBb [] [(5, iV 7), (4, iV 0), (16, iV 7), (15, iV 0), (14, .pointer (some ⟨r9, 3, none⟩))] [⟨0, [], none⟩, ⟨1, [iV 0], none⟩, ⟨2, [], none⟩, ⟨3, [], none⟩, ⟨4, [], none⟩] [(1, ⟨r9, 3, none⟩, iV 0)] [] (by kernel_rfl) trivial (AllC_cons (sat_cell h13 0 rfl rfl) (AllC_nil _)) ?_
  refine PO.mk ?_
  change WP _ _ (CA Try.f25 [1, 1, 1]) _ _ _
  refine fk_cut ([(4, iV 0), (5, iV 7)] : Fr) (by kernel_rfl) (fun a => WP _ _ _ _ a _) (fun lr15 => ?_)
  refine gi_rt (by kernel_rfl) ?_
  repeat (first | simp only [Exit.inBlock] | simp only [Exit.then])
  have h16 : sat g w12 [Tab b n A E RL, Cl r9 [iV 0, iV 0, uV 0, iV 0, iV 0, uV 0] 90, Cl r1 [iV x, iV y, uV z] 28, R] := sat_sel [1, 0, 2, 3] rfl h13
  have h17 : sat g w12 [Tab b n A E RL, R] := sat_sel [0, 3] rfl h16
  refine hi_out [] (.tuple #[iV 0, iV 7]) [] (by kernel_rfl) (by intro q hq; cases hq) ?_
  exact ⟨.tuple #[iV 0, iV 7], [Tab b n A E RL], rfl, ⟨rfl, rfl⟩, h17⟩

set_option maxHeartbeats 4000000 in
theorem thnd_n (x y z : Int) : HT Try.prog 26 [Value.pointer none, Value.agg #[Value.int IntKind.i64 x, Value.int IntKind.i64 y, Value.int IntKind.u32 z]] [] (fun v K => v = Value.tuple #[Value.agg #[Value.int IntKind.i64 0, Value.int IntKind.u32 0], Value.int IntKind.i64 1] ∧ K = []) := by
  refine hi_in 17 ([(0, .pointer none), (1, .agg #[iV x, iV y, uV z])] : Fr) Try.func26 (by kernel_rfl) Try.ntmps26 rfl rfl ?_
  intro g w0 R h0
  change WP _ _ (CA Try.f26 []) _ _ _
  refine zSq (by kernel_rfl) ?_
  refine zPl [0, 1, 2] (by kernel_rfl) ?_
  refine plain_act (i := 0) (by kernel_rfl) ?_
  refine an_new (d := 3) (fun xb_ => pV xb_) (fun xb_ => Obj.cells [iV x, iV y, uV z].toArray 28 (0, 0)) (fun xb_ => by kernel_rfl) (by kernel_rfl) rfl h0 ?_
  intro r1 w2 (h3 : sat g w2 [Cl r1 [iV x, iV y, uV z] 28, R])
  refine plain_act (i := 1) (by kernel_rfl) ?_
  refine an_new (d := 4) (fun xb_ => pV xb_) (fun xb_ => Obj.cells [iV 0, uV 0].toArray 34 (0, 0)) (fun xb_ => by kernel_rfl) (by kernel_rfl) rfl h3 ?_
  intro r4 w5 (h6 : sat g w5 [Cl r4 [iV 0, uV 0] 34, Cl r1 [iV x, iV y, uV z] 28, R])
  refine zB0 [] [2] [(5, iV 0)] (by kernel_rfl) ?_
  refine PO.mk ?_
  change WP _ _ (CA Try.f26 [1]) _ _ _
  refine fk_cut ([(0, .pointer none), (3, pV r1), (4, pV r4)] : Fr) (by kernel_rfl) (fun a => WP _ _ _ _ a _) (fun lr7 => ?_)
  refine zSq (by kernel_rfl) ?_
  refine zPl [0, 1, 2, 3, 4, 5, 6, 7, 8] (by kernel_rfl) ?_
  refine zBb [2, 3, 4, 5, 6, 7, 8] [(10, .agg #[iV x, iV y, uV z]), (9, .pointer none)] [⟨0, [], none⟩, ⟨1, [iV x, iV y, uV z], none⟩] [(1, ⟨r1, 0, none⟩, iV x), (1, ⟨r1, 1, none⟩, iV y), (1, ⟨r1, 2, none⟩, uV z)] [] (by kernel_rfl) trivial (AllC_cons (sat_cell h6 1 rfl rfl) (AllC_cons (sat_cell h6 1 rfl rfl) (AllC_cons (sat_cell h6 1 rfl rfl) (AllC_nil _)))) ?_
  refine plain_act (i := 2) (by kernel_rfl) ?_
  refine zCl 11 Try.call44 (tfind_n x y z) h6 (by kernel_rfl) ?_
  rintro v K w8 (⟨rfl, rfl⟩) h9
  refine ⟨_, rfl, ?_⟩
  have h10 : sat g w8 [Cl r4 [iV 0, uV 0] 34, Cl r1 [iV x, iV y, uV z] 28, R] := h9
  refine zB0 [6, 7, 8] [3, 4, 5] [(13, iV 1), (12, .agg #[iV 0, iV 0, uV 0, iV 0, iV 0, uV 0]), (8, .tuple #[.agg #[iV 0, iV 0, uV 0, iV 0, iV 0, uV 0], iV 1])] (by kernel_rfl) ?_
  refine plain_act (i := 6) (by kernel_rfl) ?_
  refine an_new (d := 6) (fun xb_ => pV xb_) (fun xb_ => Obj.cells [iV 0, iV 0, uV 0, iV 0, iV 0, uV 0].toArray 90 (0, 0)) (fun xb_ => by kernel_rfl) (by kernel_rfl) rfl h10 ?_
  intro r11 w12 (h13 : sat g w12 [Cl r11 [iV 0, iV 0, uV 0, iV 0, iV 0, uV 0] 90, Cl r4 [iV 0, uV 0] 34, Cl r1 [iV x, iV y, uV z] 28, R])
  refine plain_act (i := 7) (by kernel_rfl) ?_
  refine an_store [(0, iV 0), (1, iV 0), (2, uV 0), (3, iV 0), (4, iV 0), (5, uV 0)] (cs' := [iV 0, iV 0, uV 0, iV 0, iV 0, uV 0]) (by kernel_rfl) (by kernel_rfl) (allq ⟨⟨by simp, rfl⟩, ⟨by simp, rfl⟩, ⟨by simp, rfl⟩, ⟨by simp, rfl⟩, ⟨by simp, rfl⟩, ⟨by simp, rfl⟩, trivial⟩) rfl h13 ?_
  intro w14 (h15 : sat g w14 [Cl r11 [iV 0, iV 0, uV 0, iV 0, iV 0, uV 0] 90, Cl r4 [iV 0, uV 0] 34, Cl r1 [iV x, iV y, uV z] 28, R])
  refine zB0 [] [8] [(7, iV 1)] (by kernel_rfl) ?_
  refine PO.mk ?_
  change WP _ _ (CA Try.f26 [1, 1]) _ _ _
  refine fk_cut ([(4, pV r4), (6, pV r11), (7, iV 1)] : Fr) (by kernel_rfl) (fun a => WP _ _ _ _ a _) (fun lr16 => ?_)
  refine zSq (by kernel_rfl) ?_
  refine zPl [0, 1, 2, 3, 4] (by kernel_rfl) ?_
  refine zBb [3, 4] [(16, iV 1), (15, .agg #[iV 0, uV 0]), (14, .pointer (some ⟨r11, 4, none⟩))] [⟨0, [], none⟩, ⟨1, [iV 0, uV 0], none⟩, ⟨2, [], none⟩] [(1, ⟨r11, 4, none⟩, iV 0), (1, ⟨r11, 5, none⟩, uV 0)] [] (by kernel_rfl) trivial (AllC_cons (sat_cell h15 0 rfl rfl) (AllC_cons (sat_cell h15 0 rfl rfl) (AllC_nil _))) ?_
  have h17 : sat g w14 [Cl r4 [iV 0, uV 0] 34, Cl r11 [iV 0, iV 0, uV 0, iV 0, iV 0, uV 0] 90, Cl r1 [iV x, iV y, uV z] 28, R] := sat_sel [1, 0, 2, 3] rfl h15
  refine plain_act (i := 3) (by kernel_rfl) ?_
  refine an_store [(0, iV 0), (1, uV 0)] (cs' := [iV 0, uV 0]) (by kernel_rfl) (by kernel_rfl) (allq ⟨⟨by simp, rfl⟩, ⟨by simp, rfl⟩, trivial⟩) rfl h17 ?_
  intro w18 (h19 : sat g w18 [Cl r4 [iV 0, uV 0] 34, Cl r11 [iV 0, iV 0, uV 0, iV 0, iV 0, uV 0] 90, Cl r1 [iV x, iV y, uV z] 28, R])
  refine zB0 [] [4] [(5, iV 1)] (by kernel_rfl) ?_
  refine PO.mk ?_
  change WP _ _ (CA Try.f26 [1, 1, 1]) _ _ _
  refine fk_cut ([(4, pV r4), (5, iV 1)] : Fr) (by kernel_rfl) (fun a => WP _ _ _ _ a _) (fun lr20 => ?_)
  refine gi_rt (by kernel_rfl) ?_
  repeat (first | simp only [Exit.inBlock] | simp only [Exit.then])
  have h21 : sat g w18 [R] := sat_sel [3] rfl h19
  refine hi_out [iV 0, uV 0] (.tuple #[.agg #[iV 0, uV 0], iV 1]) [(⟨r4, 0, none⟩, iV 0), (⟨r4, 1, none⟩, uV 0)] (by kernel_rfl) (allq ⟨sat_cell h19 0 rfl rfl, sat_cell h19 0 rfl rfl, trivial⟩) ?_
  exact ⟨.tuple #[.agg #[iV 0, uV 0], iV 1], [], rfl, ⟨rfl, rfl⟩, h21⟩

set_option maxHeartbeats 4000000 in
theorem thnd_z (b : Nat) (x y z : Int) : HT Try.prog 26 [Value.pointer (some ⟨b, 0, none⟩), Value.agg #[Value.int IntKind.i64 x, Value.int IntKind.i64 y, Value.int IntKind.u32 z]] [Cl b [Value.pointer none, Value.map none, Value.slice none 0 0] 76] (fun v K => v = Value.tuple #[Value.agg #[Value.int IntKind.i64 0, Value.int IntKind.u32 0], Value.int IntKind.i64 1] ∧ K = [Cl b [Value.pointer none, Value.map none, Value.slice none 0 0] 76]) := by
  refine hi_in 17 ([(0, pV b), (1, .agg #[iV x, iV y, uV z])] : Fr) Try.func26 (by kernel_rfl) Try.ntmps26 rfl rfl ?_
  intro g w0 R h0
  change WP _ _ (CA Try.f26 []) _ _ _
  refine zSq (by kernel_rfl) ?_
  refine zPl [0, 1, 2] (by kernel_rfl) ?_
  refine plain_act (i := 0) (by kernel_rfl) ?_
  refine an_new (d := 3) (fun xb_ => pV xb_) (fun xb_ => Obj.cells [iV x, iV y, uV z].toArray 28 (0, 0)) (fun xb_ => by kernel_rfl) (by kernel_rfl) rfl h0 ?_
  intro r1 w2 (h3 : sat g w2 [Cl r1 [iV x, iV y, uV z] 28, Cl b [.pointer none, .map none, .slice none 0 0] 76, R])
  refine plain_act (i := 1) (by kernel_rfl) ?_
  refine an_new (d := 4) (fun xb_ => pV xb_) (fun xb_ => Obj.cells [iV 0, uV 0].toArray 34 (0, 0)) (fun xb_ => by kernel_rfl) (by kernel_rfl) rfl h3 ?_
  intro r4 w5 (h6 : sat g w5 [Cl r4 [iV 0, uV 0] 34, Cl r1 [iV x, iV y, uV z] 28, Cl b [.pointer none, .map none, .slice none 0 0] 76, R])
  refine zB0 [] [2] [(5, iV 0)] (by kernel_rfl) ?_
  refine PO.mk ?_
  change WP _ _ (CA Try.f26 [1]) _ _ _
  refine fk_cut ([(0, pV b), (3, pV r1), (4, pV r4)] : Fr) (by kernel_rfl) (fun a => WP _ _ _ _ a _) (fun lr7 => ?_)
  refine zSq (by kernel_rfl) ?_
  refine zPl [0, 1, 2, 3, 4, 5, 6, 7, 8] (by kernel_rfl) ?_
  refine zBb [2, 3, 4, 5, 6, 7, 8] [(10, .agg #[iV x, iV y, uV z]), (9, pV b)] [⟨0, [], none⟩, ⟨1, [iV x, iV y, uV z], none⟩] [(1, ⟨r1, 0, none⟩, iV x), (1, ⟨r1, 1, none⟩, iV y), (1, ⟨r1, 2, none⟩, uV z)] [] (by kernel_rfl) trivial (AllC_cons (sat_cell h6 1 rfl rfl) (AllC_cons (sat_cell h6 1 rfl rfl) (AllC_cons (sat_cell h6 1 rfl rfl) (AllC_nil _)))) ?_
  have h8 : sat g w5 [Cl b [.pointer none, .map none, .slice none 0 0] 76, Cl r4 [iV 0, uV 0] 34, Cl r1 [iV x, iV y, uV z] 28, R] := sat_sel [2, 0, 1, 3] rfl h6
  refine plain_act (i := 2) (by kernel_rfl) ?_
  refine zCl 11 Try.call44 (tfind_z b x y z) h8 (by kernel_rfl) ?_
  rintro v K w9 (⟨rfl, rfl⟩) h10
  refine ⟨_, rfl, ?_⟩
  have h11 : sat g w9 [Cl b [.pointer none, .map none, .slice none 0 0] 76, Cl r4 [iV 0, uV 0] 34, Cl r1 [iV x, iV y, uV z] 28, R] := h10
  refine zB0 [6, 7, 8] [3, 4, 5] [(13, iV 1), (12, .agg #[iV 0, iV 0, uV 0, iV 0, iV 0, uV 0]), (8, .tuple #[.agg #[iV 0, iV 0, uV 0, iV 0, iV 0, uV 0], iV 1])] (by kernel_rfl) ?_
  refine plain_act (i := 6) (by kernel_rfl) ?_
  refine an_new (d := 6) (fun xb_ => pV xb_) (fun xb_ => Obj.cells [iV 0, iV 0, uV 0, iV 0, iV 0, uV 0].toArray 90 (0, 0)) (fun xb_ => by kernel_rfl) (by kernel_rfl) rfl h11 ?_
  intro r12 w13 (h14 : sat g w13 [Cl r12 [iV 0, iV 0, uV 0, iV 0, iV 0, uV 0] 90, Cl b [.pointer none, .map none, .slice none 0 0] 76, Cl r4 [iV 0, uV 0] 34, Cl r1 [iV x, iV y, uV z] 28, R])
  refine plain_act (i := 7) (by kernel_rfl) ?_
  refine an_store [(0, iV 0), (1, iV 0), (2, uV 0), (3, iV 0), (4, iV 0), (5, uV 0)] (cs' := [iV 0, iV 0, uV 0, iV 0, iV 0, uV 0]) (by kernel_rfl) (by kernel_rfl) (allq ⟨⟨by simp, rfl⟩, ⟨by simp, rfl⟩, ⟨by simp, rfl⟩, ⟨by simp, rfl⟩, ⟨by simp, rfl⟩, ⟨by simp, rfl⟩, trivial⟩) rfl h14 ?_
  intro w15 (h16 : sat g w15 [Cl r12 [iV 0, iV 0, uV 0, iV 0, iV 0, uV 0] 90, Cl b [.pointer none, .map none, .slice none 0 0] 76, Cl r4 [iV 0, uV 0] 34, Cl r1 [iV x, iV y, uV z] 28, R])
  refine zB0 [] [8] [(7, iV 1)] (by kernel_rfl) ?_
  refine PO.mk ?_
  change WP _ _ (CA Try.f26 [1, 1]) _ _ _
  refine fk_cut ([(4, pV r4), (6, pV r12), (7, iV 1)] : Fr) (by kernel_rfl) (fun a => WP _ _ _ _ a _) (fun lr17 => ?_)
  refine zSq (by kernel_rfl) ?_
  refine zPl [0, 1, 2, 3, 4] (by kernel_rfl) ?_
  refine zBb [3, 4] [(16, iV 1), (15, .agg #[iV 0, uV 0]), (14, .pointer (some ⟨r12, 4, none⟩))] [⟨0, [], none⟩, ⟨1, [iV 0, uV 0], none⟩, ⟨2, [], none⟩] [(1, ⟨r12, 4, none⟩, iV 0), (1, ⟨r12, 5, none⟩, uV 0)] [] (by kernel_rfl) trivial (AllC_cons (sat_cell h16 0 rfl rfl) (AllC_cons (sat_cell h16 0 rfl rfl) (AllC_nil _))) ?_
  have h18 : sat g w15 [Cl r4 [iV 0, uV 0] 34, Cl r12 [iV 0, iV 0, uV 0, iV 0, iV 0, uV 0] 90, Cl b [.pointer none, .map none, .slice none 0 0] 76, Cl r1 [iV x, iV y, uV z] 28, R] := sat_sel [2, 0, 1, 3, 4] rfl h16
  refine plain_act (i := 3) (by kernel_rfl) ?_
  refine an_store [(0, iV 0), (1, uV 0)] (cs' := [iV 0, uV 0]) (by kernel_rfl) (by kernel_rfl) (allq ⟨⟨by simp, rfl⟩, ⟨by simp, rfl⟩, trivial⟩) rfl h18 ?_
  intro w19 (h20 : sat g w19 [Cl r4 [iV 0, uV 0] 34, Cl r12 [iV 0, iV 0, uV 0, iV 0, iV 0, uV 0] 90, Cl b [.pointer none, .map none, .slice none 0 0] 76, Cl r1 [iV x, iV y, uV z] 28, R])
  refine zB0 [] [4] [(5, iV 1)] (by kernel_rfl) ?_
  refine PO.mk ?_
  change WP _ _ (CA Try.f26 [1, 1, 1]) _ _ _
  refine fk_cut ([(4, pV r4), (5, iV 1)] : Fr) (by kernel_rfl) (fun a => WP _ _ _ _ a _) (fun lr21 => ?_)
  refine gi_rt (by kernel_rfl) ?_
  repeat (first | simp only [Exit.inBlock] | simp only [Exit.then])
  have h22 : sat g w19 [Cl b [.pointer none, .map none, .slice none 0 0] 76, Cl r4 [iV 0, uV 0] 34, Cl r12 [iV 0, iV 0, uV 0, iV 0, iV 0, uV 0] 90, Cl r1 [iV x, iV y, uV z] 28, R] := sat_sel [2, 0, 1, 3, 4] rfl h20
  have h23 : sat g w19 [Cl b [.pointer none, .map none, .slice none 0 0] 76, R] := sat_sel [0, 4] rfl h22
  refine hi_out [iV 0, uV 0] (.tuple #[.agg #[iV 0, uV 0], iV 1]) [(⟨r4, 0, none⟩, iV 0), (⟨r4, 1, none⟩, uV 0)] (by kernel_rfl) (allq ⟨sat_cell h20 0 rfl rfl, sat_cell h20 0 rfl rfl, trivial⟩) ?_
  exact ⟨.tuple #[.agg #[iV 0, uV 0], iV 1], [Cl b [.pointer none, .map none, .slice none 0 0] 76], rfl, ⟨rfl, rfl⟩, h23⟩

end Go.Proofs.Ytjjpmehiolejgaa
