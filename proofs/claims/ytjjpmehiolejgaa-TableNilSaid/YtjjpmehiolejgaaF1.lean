/- Walks, printed by my generator ../fds/gen1.py. -/
import Derived.Test.YtjjpmehiolejgaaFdsB
import Derived.Test.YtjjpmehiolejgaaShr
namespace Go.Proofs.Ytjjpmehiolejgaa
set_option maxHeartbeats 4000000 in
theorem gcheck_ok (gn : Int) (hg1 : 1 ≤ gn) (hg : gn ≤ 4294967295) : HT Try.prog 55 [Value.int IntKind.u32 gn] [] (fun v K => v = Value.int IntKind.i64 0 ∧ K = []) := by
  refine hi_in 9 ([(0, uV gn)] : Fr) Try.func55 (by kernel_rfl) Try.ntmps55 rfl rfl ?_
  intro g w0 R h0
  change WP _ _ (CA Try.f55 []) _ _ _
  refine zSq (by kernel_rfl) ?_
  refine zPl [0] (by kernel_rfl) ?_
  refine zB0 [] [0] [(2, iV 0)] (by kernel_rfl) ?_
  refine PO.mk ?_
  change WP _ _ (CA Try.f55 [1]) _ _ _
  refine fk_cut ([(0, uV gn)] : Fr) (by kernel_rfl) (fun a => WP _ _ _ _ a _) (fun lr1 => ?_)
  refine zSq (by kernel_rfl) ?_
  refine zSq (by kernel_rfl) ?_
  refine zPl [0, 1, 2, 3, 4, 5] (by kernel_rfl) ?_
  refine zBb [] [(8, .bool false), (7, .bool false), (6, uV gn), (5, .bool false), (4, .bool false), (3, uV gn)] [⟨0, [], none⟩, ⟨1, [], some (.bool false)⟩, ⟨2, [], none⟩, ⟨3, [], none⟩, ⟨4, [], some (.bool false)⟩, ⟨5, [], none⟩] [] [(.bool (decide (gn < 1)), .bool false), (.bool (decide (gn > 4294967295)), .bool false)] (by kernel_rfl) ⟨(ov_f (by omega)), (ov_f (by omega)), trivial⟩ (AllC_nil _) ?_
  refine PO.mk ?_
  change WP _ _ (CA Try.f55 [1, 0, 1]) _ _ _
  refine fk_cut ([(8, .bool false)] : Fr) (by kernel_rfl) (fun a => WP _ _ _ _ a _) (fun lr2 => ?_)
  refine zCf (by kernel_rfl) ?_
  refine gi_skp (by kernel_rfl) ?_
  change WP _ _ (CA Try.f55 [1, 1]) _ _ _
  refine zSq (by kernel_rfl) ?_
  refine zPl [0] (by kernel_rfl) ?_
  refine zB0 [] [0] [(2, iV 0)] (by kernel_rfl) ?_
  refine PO.mk ?_
  change WP _ _ (CA Try.f55 [1, 1, 1]) _ _ _
  refine fk_cut ([(2, iV 0)] : Fr) (by kernel_rfl) (fun a => WP _ _ _ _ a _) (fun lr3 => ?_)
  refine gi_rt (by kernel_rfl) ?_
  repeat (first | simp only [Exit.inBlock] | simp only [Exit.then])
  refine hi_out [] (iV 0) [] (by kernel_rfl) (by intro q hq; cases hq) ?_
  exact ⟨iV 0, [], rfl, ⟨rfl, rfl⟩, h0⟩

set_option maxHeartbeats 4000000 in
theorem gcheck_no (gn : Int) (hg0 : gn ≤ 0) : HT Try.prog 55 [Value.int IntKind.u32 gn] [] (fun v K => v = Value.int IntKind.i64 2 ∧ K = []) := by
  refine hi_in 9 ([(0, uV gn)] : Fr) Try.func55 (by kernel_rfl) Try.ntmps55 rfl rfl ?_
  intro g w0 R h0
  change WP _ _ (CA Try.f55 []) _ _ _
  refine zSq (by kernel_rfl) ?_
  refine zPl [0] (by kernel_rfl) ?_
  refine zB0 [] [0] [(2, iV 0)] (by kernel_rfl) ?_
  refine PO.mk ?_
  change WP _ _ (CA Try.f55 [1]) _ _ _
  refine fk_cut ([(0, uV gn)] : Fr) (by kernel_rfl) (fun a => WP _ _ _ _ a _) (fun lr1 => ?_)
  refine zSq (by kernel_rfl) ?_
  refine zSq (by kernel_rfl) ?_
  refine zPl [0, 1, 2, 3, 4, 5] (by kernel_rfl) ?_
  refine zBb [] [(8, .bool true), (7, undef), (6, undef), (5, .bool true), (4, .bool true), (3, uV gn)] [⟨0, [], none⟩, ⟨1, [], some (.bool true)⟩, ⟨2, [], none⟩, ⟨3, [], none⟩, ⟨4, [], none⟩, ⟨5, [], none⟩] [] [(.bool (decide (gn < 1)), .bool true)] (by kernel_rfl) ⟨(ov_t (by omega)), trivial⟩ (AllC_nil _) ?_
  refine PO.mk ?_
  change WP _ _ (CA Try.f55 [1, 0, 1]) _ _ _
  refine fk_cut ([(8, .bool true)] : Fr) (by kernel_rfl) (fun a => WP _ _ _ _ a _) (fun lr2 => ?_)
  refine zCt (by kernel_rfl) ?_
  refine zSq (by kernel_rfl) ?_
  refine zPl [0] (by kernel_rfl) ?_
  refine zB0 [] [0] [(2, iV 2)] (by kernel_rfl) ?_
  refine PO.mk ?_
  change WP _ _ (CA Try.f55 [1, 0, 1, 0, 1]) _ _ _
  refine fk_cut ([(2, iV 2)] : Fr) (by kernel_rfl) (fun a => WP _ _ _ _ a _) (fun lr3 => ?_)
  refine gi_rt (by kernel_rfl) ?_
  repeat (first | simp only [Exit.inBlock] | simp only [Exit.then])
  refine hi_out [] (iV 2) [] (by kernel_rfl) (by intro q hq; cases hq) ?_
  exact ⟨iV 2, [], rfl, ⟨rfl, rfl⟩, h0⟩

set_option maxHeartbeats 4000000 in
theorem gleft1_ht (b : Nat) (gn : Int) (hg0 : 0 ≤ gn) (hg : gn ≤ 4294967295) : HT Try.prog 81 [Value.pointer (some ⟨b, 0, none⟩)] [Cl b [Value.int IntKind.u32 gn] 26] (fun v K => v = Value.int IntKind.u32 (-gn + 4294967295) ∧ K = [Cl b [Value.int IntKind.u32 gn] 26]) := by
  refine hi_in 4 ([(0, pV b)] : Fr) Try.func81 (by kernel_rfl) Try.ntmps81 rfl rfl ?_
  intro g w0 R h0
  change WP _ _ (CA Try.f81 []) _ _ _
  refine zSq (by kernel_rfl) ?_
  refine zPl [0] (by kernel_rfl) ?_
  refine zB0 [] [0] [(1, uV 0)] (by kernel_rfl) ?_
  refine PO.mk ?_
  change WP _ _ (CA Try.f81 [1]) _ _ _
  refine fk_cut ([(0, pV b)] : Fr) (by kernel_rfl) (fun a => WP _ _ _ _ a _) (fun lr1 => ?_)
  refine zSq (by kernel_rfl) ?_
  refine zPl [0, 1, 2] (by kernel_rfl) ?_
  refine zBb [] [(1, uV (-gn + 4294967295)), (3, uV (-gn + 4294967295)), (2, uV gn)] [⟨0, [uV gn], none⟩, ⟨1, [], some (uV (-gn + 4294967295))⟩, ⟨2, [], none⟩] [(0, ⟨b, 0, none⟩, uV gn)] [(uV (IntKind.wrap .u32 (4294967295 - gn)), uV (-gn + 4294967295))] (by kernel_rfl) ⟨(ov_u32 (by omega) (by omega) (by omega)), trivial⟩ (AllC_cons (sat_cell h0 0 rfl rfl) (AllC_nil _)) ?_
  refine PO.mk ?_
  change WP _ _ (CA Try.f81 [1, 1]) _ _ _
  refine fk_cut ([(1, uV (-gn + 4294967295))] : Fr) (by kernel_rfl) (fun a => WP _ _ _ _ a _) (fun lr2 => ?_)
  refine gi_rt (by kernel_rfl) ?_
  repeat (first | simp only [Exit.inBlock] | simp only [Exit.then])
  refine hi_out [] (uV (-gn + 4294967295)) [] (by kernel_rfl) (by intro q hq; cases hq) ?_
  exact ⟨uV (-gn + 4294967295), [Cl b [uV gn] 26], rfl, ⟨rfl, rfl⟩, h0⟩

set_option maxHeartbeats 4000000 in
theorem of_ok (b r : Nat) (gn : Int) (hg1 : 1 ≤ gn) (hg : gn ≤ 4294967295) : HT Try.prog 80 [Value.func (Fn.func 81) #[] #[Value.pointer (some ⟨b, 0, none⟩)], Value.slice (some ⟨r, 0, none⟩) 1 1] [Cl b [Value.int IntKind.u32 gn] 26, Cl r [Value.int IntKind.u32 gn] 26] (fun v K => v = Value.tuple #[Value.int IntKind.u32 (-gn + 4294967295), Value.int IntKind.i64 0] ∧ K = [Cl b [Value.int IntKind.u32 gn] 26, Cl r [Value.int IntKind.u32 gn] 26]) := by
  refine hi_in 25 ([(0, .func (Fn.func 81) #[] #[pV b]), (1, .slice (some ⟨r, 0, none⟩) 1 1)] : Fr) Try.func80 (by kernel_rfl) Try.ntmps80 rfl rfl ?_
  intro g w0 R h0
  change WP _ _ (CA Try.f80 []) _ _ _
  refine zSq (by kernel_rfl) ?_
  refine zPl [0, 1] (by kernel_rfl) ?_
  refine zB0 [] [0, 1] [(5, iV 0), (4, uV 0)] (by kernel_rfl) ?_
  refine PO.mk ?_
  change WP _ _ (CA Try.f80 [1]) _ _ _
  refine fk_cut ([(0, .func (Fn.func 81) #[] #[pV b]), (1, .slice (some ⟨r, 0, none⟩) 1 1)] : Fr) (by kernel_rfl) (fun a => WP _ _ _ _ a _) (fun lr1 => ?_)
  refine zSq (by kernel_rfl) ?_
  refine zPl [0] (by kernel_rfl) ?_
  refine zB0 [] [0] [(6, uV 0)] (by kernel_rfl) ?_
  refine PO.mk ?_
  change WP _ _ (CA Try.f80 [1, 1]) _ _ _
  refine fk_cut ([(0, .func (Fn.func 81) #[] #[pV b]), (1, .slice (some ⟨r, 0, none⟩) 1 1), (6, uV 0)] : Fr) (by kernel_rfl) (fun a => WP _ _ _ _ a _) (fun lr2 => ?_)
  refine zSq (by kernel_rfl) ?_
  refine zSq (by kernel_rfl) ?_
  refine zPl [0, 1, 2] (by kernel_rfl) ?_
  refine zBb [] [(12, iV 0), (11, iV 1), (10, .slice (some ⟨r, 0, none⟩) 1 1)] [⟨0, [], none⟩, ⟨1, [], some (iV 1)⟩, ⟨2, [], none⟩] [] [(iV ((1 : Nat) : Int), iV 1)] (by kernel_rfl) ⟨(ov_int (by omega)), trivial⟩ (AllC_nil _) ?_
  refine PO.mk ?_
  change WP _ _ (CA Try.f80 [1, 1, 0, 1]) _ _ _
  refine fk_cut ([(0, .func (Fn.func 81) #[] #[pV b]), (6, uV 0), (10, .slice (some ⟨r, 0, none⟩) 1 1), (11, iV 1), (12, iV 0)] : Fr) (by kernel_rfl) (fun a => WP _ _ _ _ a _) (fun lr3 => ?_)
  refine gi_blk (id := 0) (x := CA Try.f80 [1, 1, 0, 1, 0]) (by kernel_rfl) ?_
  refine gi_unr (x := CA Try.f80 [1, 1, 0, 1, 0, 0]) 2 (by kernel_rfl) ?_
  change WP _ _ (CA Try.f80 [1, 1, 0, 1, 0, 0]) _ _ _
  refine zSq (by kernel_rfl) ?_
  refine zPl [0] (by kernel_rfl) ?_
  refine zB0 [] [0] [(13, .bool true)] (by kernel_rfl) ?_
  refine PO.mk ?_
  change WP _ _ (CA Try.f80 [1, 1, 0, 1, 0, 0, 1]) _ _ _
  refine fk_cut ([(0, .func (Fn.func 81) #[] #[pV b]), (6, uV 0), (10, .slice (some ⟨r, 0, none⟩) 1 1), (11, iV 1), (12, iV 0), (13, .bool true)] : Fr) (by kernel_rfl) (fun a => WP _ _ _ _ a _) (fun lr4 => ?_)
  refine zSq (by kernel_rfl) ?_
  refine zCt (by kernel_rfl) ?_
  refine gi_skp (by kernel_rfl) ?_
  change WP _ _ (CA Try.f80 [1, 1, 0, 1, 0, 0, 1, 1]) _ _ _
  refine zSq (by kernel_rfl) ?_
  refine gi_blk (id := 1) (x := CA Try.f80 [1, 1, 0, 1, 0, 0, 1, 1, 0, 0]) (by kernel_rfl) ?_
  refine zSq (by kernel_rfl) ?_
  refine zPl [0, 1, 2] (by kernel_rfl) ?_
  refine plain_law (i := 0) 14 (pV r) (by kernel_rfl) (law_indexSl (o := opA (RA Try.f80 [1, 1, 0, 1, 0, 0, 1, 1, 0, 0, 0]) 0) (x := (Operand.tmp 10)) (i := (Operand.tmp 12)) (b := r) (off := 0) (z := 0) (len := 1) (cap := 1) (by kernel_rfl) Try.underlying147 1 (by kernel_rfl) 0 (by kernel_rfl) (by kernel_rfl) (by omega) (by omega) 0 (by omega) _) ?_
  refine zBb [] [(8, uV gn), (15, uV gn)] [⟨1, [uV gn], none⟩, ⟨2, [], none⟩] [(1, ⟨r, 0, none⟩, uV gn)] [] (by kernel_rfl) trivial (AllC_cons (sat_cell h0 1 rfl rfl) (AllC_nil _)) ?_
  refine PO.mk ?_
  change WP _ _ (CA Try.f80 [1, 1, 0, 1, 0, 0, 1, 1, 0, 0, 1]) _ _ _
  refine fk_cut ([(0, .func (Fn.func 81) #[] #[pV b]), (6, uV 0), (8, uV gn), (10, .slice (some ⟨r, 0, none⟩) 1 1), (11, iV 1), (12, iV 0)] : Fr) (by kernel_rfl) (fun a => WP _ _ _ _ a _) (fun lr5 => ?_)
  refine zSq (by kernel_rfl) ?_
  refine zPl [0, 1, 2] (by kernel_rfl) ?_
  refine zB0 [1, 2] [0] [(16, uV gn)] (by kernel_rfl) ?_
  refine plain_act (i := 1) (by kernel_rfl) ?_
  refine zCl 17 Try.call55 (gcheck_ok gn (by omega) (by omega)) h0 (by kernel_rfl) ?_
  rintro v K w6 (⟨rfl, rfl⟩) h7
  refine ⟨_, rfl, ?_⟩
  have h8 : sat g w6 [Cl b [uV gn] 26, Cl r [uV gn] 26, R] := h7
  refine zB0 [] [2] [(9, iV 0)] (by kernel_rfl) ?_
  refine PO.mk ?_
  change WP _ _ (CA Try.f80 [1, 1, 0, 1, 0, 0, 1, 1, 0, 0, 1, 1]) _ _ _
  refine fk_cut ([(0, .func (Fn.func 81) #[] #[pV b]), (6, uV 0), (9, iV 0), (10, .slice (some ⟨r, 0, none⟩) 1 1), (11, iV 1), (12, iV 0)] : Fr) (by kernel_rfl) (fun a => WP _ _ _ _ a _) (fun lr9 => ?_)
  refine zSq (by kernel_rfl) ?_
  refine zPl [0, 1] (by kernel_rfl) ?_
  refine zB0 [] [0, 1] [(19, .bool false), (18, iV 0)] (by kernel_rfl) ?_
  refine PO.mk ?_
  change WP _ _ (CA Try.f80 [1, 1, 0, 1, 0, 0, 1, 1, 0, 0, 1, 1, 1]) _ _ _
  refine fk_cut ([(0, .func (Fn.func 81) #[] #[pV b]), (6, uV 0), (9, iV 0), (10, .slice (some ⟨r, 0, none⟩) 1 1), (11, iV 1), (12, iV 0), (19, .bool false)] : Fr) (by kernel_rfl) (fun a => WP _ _ _ _ a _) (fun lr10 => ?_)
  refine zCf (by kernel_rfl) ?_
  refine gi_skp (by kernel_rfl) ?_
  change WP _ _ (CA Try.f80 [1, 1, 0, 1, 0, 0, 1, 1, 1]) _ _ _
  refine zPl [0, 1] (by kernel_rfl) ?_
  refine zB0 [] [0, 1] [(12, iV 1), (22, iV 1)] (by kernel_rfl) ?_
  refine PO.mk ?_
  change WP _ _ (CA Try.f80 [1, 1, 0, 1, 0, 0]) _ _ _
  refine fk_cut ([(0, .func (Fn.func 81) #[] #[pV b]), (6, uV 0), (9, iV 0), (10, .slice (some ⟨r, 0, none⟩) 1 1), (11, iV 1), (12, iV 1), (19, .bool false)] : Fr) (by kernel_rfl) (fun a => WP _ _ _ _ a _) (fun lr11 => ?_)
  refine zSq (by kernel_rfl) ?_
  refine zPl [0] (by kernel_rfl) ?_
  refine zB0 [] [0] [(13, .bool false)] (by kernel_rfl) ?_
  refine PO.mk ?_
  change WP _ _ (CA Try.f80 [1, 1, 0, 1, 0, 0, 1]) _ _ _
  refine fk_cut ([(0, .func (Fn.func 81) #[] #[pV b]), (6, uV 0), (10, .slice (some ⟨r, 0, none⟩) 1 1), (11, iV 1), (12, iV 1), (13, .bool false)] : Fr) (by kernel_rfl) (fun a => WP _ _ _ _ a _) (fun lr12 => ?_)
  refine zSq (by kernel_rfl) ?_
  refine zCf (by kernel_rfl) ?_
  refine gi_ext (id := 0) (by kernel_rfl) ?_
  change WP _ _ (CA Try.f80 [1, 1, 1]) _ _ _
  refine zSq (by kernel_rfl) ?_
  refine zPl [0, 1, 2, 3] (by kernel_rfl) ?_
  refine zB0 [1, 2, 3] [0] [(23, .func (Fn.func 81) #[] #[pV b])] (by kernel_rfl) ?_
  refine plain_act (i := 1) (by kernel_rfl) ?_
  refine zCl 24 Try.call81 (gleft1_ht b gn (by omega) (by omega)) h8 (by kernel_rfl) ?_
  rintro v K w13 (⟨rfl, rfl⟩) h14
  refine ⟨_, rfl, ?_⟩
  have h15 : sat g w13 [Cl b [uV gn] 26, Cl r [uV gn] 26, R] := h14
  refine zB0 [] [2, 3] [(5, iV 0), (4, uV (-gn + 4294967295))] (by kernel_rfl) ?_
  refine PO.mk ?_
  change WP _ _ (CA Try.f80 [1, 1, 1, 1]) _ _ _
  refine fk_cut ([(4, uV (-gn + 4294967295)), (5, iV 0)] : Fr) (by kernel_rfl) (fun a => WP _ _ _ _ a _) (fun lr16 => ?_)
  refine gi_rt (by kernel_rfl) ?_
  repeat (first | simp only [Exit.inBlock] | simp only [Exit.then])
  refine hi_out [] (.tuple #[uV (-gn + 4294967295), iV 0]) [] (by kernel_rfl) (by intro q hq; cases hq) ?_
  exact ⟨.tuple #[uV (-gn + 4294967295), iV 0], [Cl b [uV gn] 26, Cl r [uV gn] 26], rfl, ⟨rfl, rfl⟩, h15⟩

set_option maxHeartbeats 4000000 in
theorem gleft_ok (gn : Int) (hg1 : 1 ≤ gn) (hg : gn ≤ 4294967295) : HT Try.prog 79 [Value.int IntKind.u32 gn] [] (fun v K => v = Value.tuple #[Value.int IntKind.u32 (-gn + 4294967295), Value.int IntKind.i64 0] ∧ K = []) := by
  refine hi_in 10 ([(0, uV gn)] : Fr) Try.func79 (by kernel_rfl) Try.ntmps79 rfl rfl ?_
  intro g w0 R h0
  change WP _ _ (CA Try.f79 []) _ _ _
  refine zSq (by kernel_rfl) ?_
  refine zPl [0, 1, 2] (by kernel_rfl) ?_
  refine plain_act (i := 0) (by kernel_rfl) ?_
  refine an_new (d := 1) (fun xb_ => pV xb_) (fun xb_ => Obj.cells [uV gn].toArray 26 (0, 0)) (fun xb_ => by kernel_rfl) (by kernel_rfl) rfl h0 ?_
  intro r1 w2 (h3 : sat g w2 [Cl r1 [uV gn] 26, R])
  refine zB0 [] [1, 2] [(3, iV 0), (2, uV 0)] (by kernel_rfl) ?_
  refine PO.mk ?_
  change WP _ _ (CA Try.f79 [1]) _ _ _
  refine fk_cut ([(1, pV r1)] : Fr) (by kernel_rfl) (fun a => WP _ _ _ _ a _) (fun lr4 => ?_)
  refine zSq (by kernel_rfl) ?_
  refine zPl [0, 1, 2, 3, 4, 5, 6, 7] (by kernel_rfl) ?_
  refine zBb [2, 3, 4, 5, 6, 7] [(5, uV gn), (4, .func (Fn.func 81) #[] #[pV r1])] [⟨0, [], none⟩, ⟨1, [uV gn], none⟩] [(1, ⟨r1, 0, none⟩, uV gn)] [] (by kernel_rfl) trivial (AllC_cons (sat_cell h3 0 rfl rfl) (AllC_nil _)) ?_
  refine plain_act (i := 2) (by kernel_rfl) ?_
  refine an_new (d := 6) (fun xb_ => .slice (some ⟨xb_, 0, none⟩) 1 1) (fun xb_ => Obj.cells [uV gn].toArray 26 (0, 0)) (fun xb_ => by kernel_rfl) (by kernel_rfl) rfl h3 ?_
  intro r5 w6 (h7 : sat g w6 [Cl r5 [uV gn] 26, Cl r1 [uV gn] 26, R])
  have h8 : sat g w6 [Cl r1 [uV gn] 26, Cl r5 [uV gn] 26, R] := sat_sel [1, 0, 2] rfl h7
  refine plain_act (i := 3) (by kernel_rfl) ?_
  refine zCl 7 Try.call80 (of_ok r1 r5 gn (by omega) (by omega)) h8 (by kernel_rfl) ?_
  rintro v K w9 (⟨rfl, rfl⟩) h10
  refine ⟨_, rfl, ?_⟩
  have h11 : sat g w9 [Cl r1 [uV gn] 26, Cl r5 [uV gn] 26, R] := h10
  refine zB0 [] [4, 5, 6, 7] [(3, iV 0), (2, uV (-gn + 4294967295)), (9, iV 0), (8, uV (-gn + 4294967295))] (by kernel_rfl) ?_
  refine PO.mk ?_
  change WP _ _ (CA Try.f79 [1, 1]) _ _ _
  refine fk_cut ([(2, uV (-gn + 4294967295)), (3, iV 0)] : Fr) (by kernel_rfl) (fun a => WP _ _ _ _ a _) (fun lr12 => ?_)
  refine gi_rt (by kernel_rfl) ?_
  repeat (first | simp only [Exit.inBlock] | simp only [Exit.then])
  have h13 : sat g w9 [R] := sat_sel [2] rfl h11
  refine hi_out [] (.tuple #[uV (-gn + 4294967295), iV 0]) [] (by kernel_rfl) (by intro q hq; cases hq) ?_
  exact ⟨.tuple #[uV (-gn + 4294967295), iV 0], [], rfl, ⟨rfl, rfl⟩, h13⟩

set_option maxHeartbeats 4000000 in
theorem after_ok (gn : Int) (hg1 : 1 ≤ gn) (hg : gn < 4294967295) : HT Try.prog 77 [Value.int IntKind.u32 gn, Value.int IntKind.u64 1] [] (fun v K => v = Value.tuple #[Value.int IntKind.u32 (gn + 1), Value.bool true, Value.int IntKind.i64 0] ∧ K = []) := by
  refine hi_in 27 ([(0, uV gn), (1, .int .u64 1)] : Fr) Try.func77 (by kernel_rfl) Try.ntmps77 rfl rfl ?_
  intro g w0 R h0
  change WP _ _ (CA Try.f77 []) _ _ _
  refine zSq (by kernel_rfl) ?_
  refine zPl [0, 1, 2] (by kernel_rfl) ?_
  refine zB0 [] [0, 1, 2] [(6, iV 0), (5, .bool false), (4, uV 0)] (by kernel_rfl) ?_
  refine PO.mk ?_
  change WP _ _ (CA Try.f77 [1]) _ _ _
  refine fk_cut ([(0, uV gn), (1, .int .u64 1)] : Fr) (by kernel_rfl) (fun a => WP _ _ _ _ a _) (fun lr1 => ?_)
  refine zSq (by kernel_rfl) ?_
  refine zPl [0, 1, 2, 3, 4, 5, 6] (by kernel_rfl) ?_
  refine zB0 [1, 2, 3, 4, 5, 6] [0] [(10, uV gn)] (by kernel_rfl) ?_
  refine plain_act (i := 1) (by kernel_rfl) ?_
  refine zCl 11 Try.call79 (gleft_ok gn (by omega) (by omega)) h0 (by kernel_rfl) ?_
  rintro v K w2 (⟨rfl, rfl⟩) h3
  refine ⟨_, rfl, ?_⟩
  have h4 : sat g w2 [R] := h3
  refine zB0 [] [2, 3, 4, 5, 6] [(8, iV 0), (7, uV (-gn + 4294967295)), (13, iV 0), (12, uV (-gn + 4294967295)), (9, .tuple #[uV (-gn + 4294967295), iV 0])] (by kernel_rfl) ?_
  refine PO.mk ?_
  change WP _ _ (CA Try.f77 [1, 1]) _ _ _
  refine fk_cut ([(0, uV gn), (1, .int .u64 1), (7, uV (-gn + 4294967295)), (8, iV 0)] : Fr) (by kernel_rfl) (fun a => WP _ _ _ _ a _) (fun lr5 => ?_)
  refine zSq (by kernel_rfl) ?_
  refine zSq (by kernel_rfl) ?_
  refine zPl [0, 1, 2, 3, 4, 5, 6, 7] (by kernel_rfl) ?_
  refine zBb [] [(21, .bool false), (20, .bool false), (19, .int .u64 (-gn + 4294967295)), (18, uV (-gn + 4294967295)), (17, .int .u64 1), (16, .bool false), (15, .bool false), (14, iV 0)] [⟨0, [], none⟩, ⟨1, [], none⟩, ⟨2, [], none⟩, ⟨3, [], none⟩, ⟨4, [], none⟩, ⟨5, [], some (.int .u64 (-gn + 4294967295))⟩, ⟨6, [], some (.bool false)⟩, ⟨7, [], none⟩] [] [(.int .u64 (IntKind.wrap .u64 (-gn + 4294967295)), .int .u64 (-gn + 4294967295)), (.bool (decide (1 > -gn + 4294967295)), .bool false)] (by kernel_rfl) ⟨(ov_u64 rfl (by omega) (by omega)), (ov_f (by omega)), trivial⟩ (AllC_nil _) ?_
  refine PO.mk ?_
  change WP _ _ (CA Try.f77 [1, 1, 0, 1]) _ _ _
  refine fk_cut ([(0, uV gn), (1, .int .u64 1), (8, iV 0), (21, .bool false)] : Fr) (by kernel_rfl) (fun a => WP _ _ _ _ a _) (fun lr6 => ?_)
  refine zCf (by kernel_rfl) ?_
  refine gi_skp (by kernel_rfl) ?_
  change WP _ _ (CA Try.f77 [1, 1, 1]) _ _ _
  refine zSq (by kernel_rfl) ?_
  refine zPl [0, 1, 2, 3, 4, 5, 6] (by kernel_rfl) ?_
  refine zBb [] [(6, iV 0), (5, .bool true), (4, uV (gn + 1)), (26, uV (gn + 1)), (25, uV 1), (24, .int .u64 1), (23, uV gn)] [⟨0, [], none⟩, ⟨1, [], none⟩, ⟨2, [], some (uV 1)⟩, ⟨3, [], some (uV (gn + 1))⟩, ⟨4, [], none⟩, ⟨5, [], none⟩, ⟨6, [], none⟩] [] [(uV (IntKind.wrap .u32 1), uV 1), (uV (IntKind.wrap .u32 (gn + 1)), uV (gn + 1))] (by kernel_rfl) ⟨(ov_u32 rfl (by omega) (by omega)), (ov_u32 (by omega) (by omega) (by omega)), trivial⟩ (AllC_nil _) ?_
  refine PO.mk ?_
  change WP _ _ (CA Try.f77 [1, 1, 1, 1]) _ _ _
  refine fk_cut ([(4, uV (gn + 1)), (5, .bool true), (6, iV 0)] : Fr) (by kernel_rfl) (fun a => WP _ _ _ _ a _) (fun lr7 => ?_)
  refine gi_rt (by kernel_rfl) ?_
  repeat (first | simp only [Exit.inBlock] | simp only [Exit.then])
  refine hi_out [] (.tuple #[uV (gn + 1), .bool true, iV 0]) [] (by kernel_rfl) (by intro q hq; cases hq) ?_
  exact ⟨.tuple #[uV (gn + 1), .bool true, iV 0], [], rfl, ⟨rfl, rfl⟩, h4⟩

set_option maxHeartbeats 4000000 in
theorem after_no (gn : Int) (hg : gn = 4294967295) : HT Try.prog 77 [Value.int IntKind.u32 gn, Value.int IntKind.u64 1] [] (fun v K => v = Value.tuple #[Value.int IntKind.u32 0, Value.bool false, Value.int IntKind.i64 0] ∧ K = []) := by
  refine hi_in 27 ([(0, uV gn), (1, .int .u64 1)] : Fr) Try.func77 (by kernel_rfl) Try.ntmps77 rfl rfl ?_
  intro g w0 R h0
  change WP _ _ (CA Try.f77 []) _ _ _
  refine zSq (by kernel_rfl) ?_
  refine zPl [0, 1, 2] (by kernel_rfl) ?_
  refine zB0 [] [0, 1, 2] [(6, iV 0), (5, .bool false), (4, uV 0)] (by kernel_rfl) ?_
  refine PO.mk ?_
  change WP _ _ (CA Try.f77 [1]) _ _ _
  refine fk_cut ([(0, uV gn), (1, .int .u64 1)] : Fr) (by kernel_rfl) (fun a => WP _ _ _ _ a _) (fun lr1 => ?_)
  refine zSq (by kernel_rfl) ?_
  refine zPl [0, 1, 2, 3, 4, 5, 6] (by kernel_rfl) ?_
  refine zB0 [1, 2, 3, 4, 5, 6] [0] [(10, uV gn)] (by kernel_rfl) ?_
  refine plain_act (i := 1) (by kernel_rfl) ?_
  refine zCl 11 Try.call79 (gleft_ok gn (by omega) (by omega)) h0 (by kernel_rfl) ?_
  rintro v K w2 (⟨rfl, rfl⟩) h3
  refine ⟨_, rfl, ?_⟩
  have h4 : sat g w2 [R] := h3
  refine zB0 [] [2, 3, 4, 5, 6] [(8, iV 0), (7, uV (-gn + 4294967295)), (13, iV 0), (12, uV (-gn + 4294967295)), (9, .tuple #[uV (-gn + 4294967295), iV 0])] (by kernel_rfl) ?_
  refine PO.mk ?_
  change WP _ _ (CA Try.f77 [1, 1]) _ _ _
  refine fk_cut ([(0, uV gn), (1, .int .u64 1), (7, uV (-gn + 4294967295)), (8, iV 0)] : Fr) (by kernel_rfl) (fun a => WP _ _ _ _ a _) (fun lr5 => ?_)
  refine zSq (by kernel_rfl) ?_
  refine zSq (by kernel_rfl) ?_
  refine zPl [0, 1, 2, 3, 4, 5, 6, 7] (by kernel_rfl) ?_
  refine zBb [] [(21, .bool true), (20, .bool true), (19, .int .u64 (-gn + 4294967295)), (18, uV (-gn + 4294967295)), (17, .int .u64 1), (16, .bool false), (15, .bool false), (14, iV 0)] [⟨0, [], none⟩, ⟨1, [], none⟩, ⟨2, [], none⟩, ⟨3, [], none⟩, ⟨4, [], none⟩, ⟨5, [], some (.int .u64 (-gn + 4294967295))⟩, ⟨6, [], some (.bool true)⟩, ⟨7, [], none⟩] [] [(.int .u64 (IntKind.wrap .u64 (-gn + 4294967295)), .int .u64 (-gn + 4294967295)), (.bool (decide (1 > -gn + 4294967295)), .bool true)] (by kernel_rfl) ⟨(ov_u64 rfl (by omega) (by omega)), (ov_t (by omega)), trivial⟩ (AllC_nil _) ?_
  refine PO.mk ?_
  change WP _ _ (CA Try.f77 [1, 1, 0, 1]) _ _ _
  refine fk_cut ([(0, uV gn), (1, .int .u64 1), (8, iV 0), (21, .bool true)] : Fr) (by kernel_rfl) (fun a => WP _ _ _ _ a _) (fun lr6 => ?_)
  refine zCt (by kernel_rfl) ?_
  refine zSq (by kernel_rfl) ?_
  refine zPl [0, 1, 2, 3] (by kernel_rfl) ?_
  refine zB0 [] [0, 1, 2, 3] [(6, iV 0), (5, .bool false), (4, uV 0), (22, iV 0)] (by kernel_rfl) ?_
  refine PO.mk ?_
  change WP _ _ (CA Try.f77 [1, 1, 0, 1, 0, 1]) _ _ _
  refine fk_cut ([(4, uV 0), (5, .bool false), (6, iV 0)] : Fr) (by kernel_rfl) (fun a => WP _ _ _ _ a _) (fun lr7 => ?_)
  refine gi_rt (by kernel_rfl) ?_
  repeat (first | simp only [Exit.inBlock] | simp only [Exit.then])
  refine hi_out [] (.tuple #[uV 0, .bool false, iV 0]) [] (by kernel_rfl) (by intro q hq; cases hq) ?_
  exact ⟨.tuple #[uV 0, .bool false, iV 0], [], rfl, ⟨rfl, rfl⟩, h4⟩

set_option maxHeartbeats 4000000 in
theorem next_ok (gn : Int) (hg1 : 1 ≤ gn) (hg : gn < 4294967295) : HT Try.prog 72 [Value.int IntKind.u32 gn] [] (fun v K => v = Value.tuple #[Value.int IntKind.u32 (gn + 1), Value.bool true, Value.int IntKind.i64 0] ∧ K = []) := by
  refine hi_in 10 ([(0, uV gn)] : Fr) Try.func72 (by kernel_rfl) Try.ntmps72 rfl rfl ?_
  intro g w0 R h0
  change WP _ _ (CA Try.f72 []) _ _ _
  refine zSq (by kernel_rfl) ?_
  refine zPl [0, 1, 2] (by kernel_rfl) ?_
  refine zB0 [] [0, 1, 2] [(4, iV 0), (3, .bool false), (2, uV 0)] (by kernel_rfl) ?_
  refine PO.mk ?_
  change WP _ _ (CA Try.f72 [1]) _ _ _
  refine fk_cut ([(0, uV gn)] : Fr) (by kernel_rfl) (fun a => WP _ _ _ _ a _) (fun lr1 => ?_)
  refine zSq (by kernel_rfl) ?_
  refine zPl [0, 1, 2, 3, 4, 5, 6, 7] (by kernel_rfl) ?_
  refine zB0 [1, 2, 3, 4, 5, 6, 7] [0] [(5, uV gn)] (by kernel_rfl) ?_
  refine plain_act (i := 1) (by kernel_rfl) ?_
  refine zCl 6 Try.call77 (after_ok gn (by omega) (by omega)) h0 (by kernel_rfl) ?_
  rintro v K w2 (⟨rfl, rfl⟩) h3
  refine ⟨_, rfl, ?_⟩
  have h4 : sat g w2 [R] := h3
  refine zB0 [] [2, 3, 4, 5, 6, 7] [(4, iV 0), (3, .bool true), (2, uV (gn + 1)), (9, iV 0), (8, .bool true), (7, uV (gn + 1))] (by kernel_rfl) ?_
  refine PO.mk ?_
  change WP _ _ (CA Try.f72 [1, 1]) _ _ _
  refine fk_cut ([(2, uV (gn + 1)), (3, .bool true), (4, iV 0)] : Fr) (by kernel_rfl) (fun a => WP _ _ _ _ a _) (fun lr5 => ?_)
  refine gi_rt (by kernel_rfl) ?_
  repeat (first | simp only [Exit.inBlock] | simp only [Exit.then])
  refine hi_out [] (.tuple #[uV (gn + 1), .bool true, iV 0]) [] (by kernel_rfl) (by intro q hq; cases hq) ?_
  exact ⟨.tuple #[uV (gn + 1), .bool true, iV 0], [], rfl, ⟨rfl, rfl⟩, h4⟩

set_option maxHeartbeats 4000000 in
theorem next_no (gn : Int) (hg : gn = 4294967295) : HT Try.prog 72 [Value.int IntKind.u32 gn] [] (fun v K => v = Value.tuple #[Value.int IntKind.u32 0, Value.bool false, Value.int IntKind.i64 0] ∧ K = []) := by
  refine hi_in 10 ([(0, uV gn)] : Fr) Try.func72 (by kernel_rfl) Try.ntmps72 rfl rfl ?_
  intro g w0 R h0
  change WP _ _ (CA Try.f72 []) _ _ _
  refine zSq (by kernel_rfl) ?_
  refine zPl [0, 1, 2] (by kernel_rfl) ?_
  refine zB0 [] [0, 1, 2] [(4, iV 0), (3, .bool false), (2, uV 0)] (by kernel_rfl) ?_
  refine PO.mk ?_
  change WP _ _ (CA Try.f72 [1]) _ _ _
  refine fk_cut ([(0, uV gn)] : Fr) (by kernel_rfl) (fun a => WP _ _ _ _ a _) (fun lr1 => ?_)
  refine zSq (by kernel_rfl) ?_
  refine zPl [0, 1, 2, 3, 4, 5, 6, 7] (by kernel_rfl) ?_
  refine zB0 [1, 2, 3, 4, 5, 6, 7] [0] [(5, uV gn)] (by kernel_rfl) ?_
  refine plain_act (i := 1) (by kernel_rfl) ?_
  refine zCl 6 Try.call77 (after_no gn (by omega)) h0 (by kernel_rfl) ?_
  rintro v K w2 (⟨rfl, rfl⟩) h3
  refine ⟨_, rfl, ?_⟩
  have h4 : sat g w2 [R] := h3
  refine zB0 [] [2, 3, 4, 5, 6, 7] [(4, iV 0), (3, .bool false), (2, uV 0), (9, iV 0), (8, .bool false), (7, uV 0)] (by kernel_rfl) ?_
  refine PO.mk ?_
  change WP _ _ (CA Try.f72 [1, 1]) _ _ _
  refine fk_cut ([(2, uV 0), (3, .bool false), (4, iV 0)] : Fr) (by kernel_rfl) (fun a => WP _ _ _ _ a _) (fun lr5 => ?_)
  refine gi_rt (by kernel_rfl) ?_
  repeat (first | simp only [Exit.inBlock] | simp only [Exit.then])
  refine hi_out [] (.tuple #[uV 0, .bool false, iV 0]) [] (by kernel_rfl) (by intro q hq; cases hq) ?_
  exact ⟨.tuple #[uV 0, .bool false, iV 0], [], rfl, ⟨rfl, rfl⟩, h4⟩

set_option maxHeartbeats 4000000 in
theorem ofouter_ht (x y z : Int) (hz0 : 0 ≤ z) (hz1 : z ≤ 4294967295) : HT Try.prog 74 [Value.agg #[Value.int IntKind.i64 x, Value.int IntKind.i64 y, Value.int IntKind.u32 z]] [] (fun v K => v = Value.agg #[Value.int IntKind.i64 x, Value.int IntKind.i64 y, Value.int IntKind.i64 z] ∧ K = []) := by
  refine hi_in 11 ([(0, .agg #[iV x, iV y, uV z])] : Fr) Try.func74 (by kernel_rfl) Try.ntmps74 rfl rfl ?_
  intro g w0 R h0
  change WP _ _ (CA Try.f74 []) _ _ _
  refine zSq (by kernel_rfl) ?_
  refine zPl [0, 1] (by kernel_rfl) ?_
  refine plain_act (i := 0) (by kernel_rfl) ?_
  refine an_new (d := 1) (fun xb_ => pV xb_) (fun xb_ => Obj.cells [iV x, iV y, uV z].toArray 32 (0, 0)) (fun xb_ => by kernel_rfl) (by kernel_rfl) rfl h0 ?_
  intro r1 w2 (h3 : sat g w2 [Cl r1 [iV x, iV y, uV z] 32, R])
  refine plain_act (i := 1) (by kernel_rfl) ?_
  refine an_new (d := 2) (fun xb_ => pV xb_) (fun xb_ => Obj.cells [iV 0, iV 0, iV 0].toArray 103 (0, 0)) (fun xb_ => by kernel_rfl) (by kernel_rfl) rfl h3 ?_
  intro r4 w5 (h6 : sat g w5 [Cl r4 [iV 0, iV 0, iV 0] 103, Cl r1 [iV x, iV y, uV z] 32, R])
  refine PO.mk ?_
  change WP _ _ (CA Try.f74 [1]) _ _ _
  refine fk_cut ([(1, pV r1), (2, pV r4)] : Fr) (by kernel_rfl) (fun a => WP _ _ _ _ a _) (fun lr7 => ?_)
  refine zSq (by kernel_rfl) ?_
  refine zPl [0, 1, 2, 3, 4, 5, 6, 7, 8] (by kernel_rfl) ?_
  refine zBb [8] [(10, .agg #[iV x, iV y, iV z]), (9, iV z), (8, uV z), (7, .pointer (some ⟨r1, 2, none⟩)), (6, iV y), (5, .pointer (some ⟨r1, 1, none⟩)), (4, iV x), (3, pV r1)] [⟨0, [], none⟩, ⟨1, [iV x], none⟩, ⟨2, [], none⟩, ⟨3, [iV y], none⟩, ⟨4, [], none⟩, ⟨5, [uV z], none⟩, ⟨6, [], some (iV z)⟩, ⟨7, [], none⟩] [(5, ⟨r1, 2, none⟩, uV z), (3, ⟨r1, 1, none⟩, iV y), (1, ⟨r1, 0, none⟩, iV x)] [(iV (IntKind.wrap .i64 z), iV z)] (by kernel_rfl) ⟨(ov_i64 rfl (by omega) (by omega)), trivial⟩ (AllC_cons (sat_cell h6 1 rfl rfl) (AllC_cons (sat_cell h6 1 rfl rfl) (AllC_cons (sat_cell h6 1 rfl rfl) (AllC_nil _)))) ?_
  refine plain_act (i := 8) (by kernel_rfl) ?_
  refine an_store [(0, iV x), (1, iV y), (2, iV z)] (cs' := [iV x, iV y, iV z]) (by kernel_rfl) (by kernel_rfl) (allq ⟨⟨by simp, rfl⟩, ⟨by simp, rfl⟩, ⟨by simp, rfl⟩, trivial⟩) rfl h6 ?_
  intro w8 (h9 : sat g w8 [Cl r4 [iV x, iV y, iV z] 103, Cl r1 [iV x, iV y, uV z] 32, R])
  refine PO.mk ?_
  change WP _ _ (CA Try.f74 [1, 1]) _ _ _
  refine fk_cut ([(2, pV r4)] : Fr) (by kernel_rfl) (fun a => WP _ _ _ _ a _) (fun lr10 => ?_)
  refine gi_rt (by kernel_rfl) ?_
  repeat (first | simp only [Exit.inBlock] | simp only [Exit.then])
  have h11 : sat g w8 [R] := sat_sel [2] rfl h9
  refine hi_out [iV x, iV y, iV z] (.agg #[iV x, iV y, iV z]) [(⟨r4, 0, none⟩, iV x), (⟨r4, 1, none⟩, iV y), (⟨r4, 2, none⟩, iV z)] (by kernel_rfl) (allq ⟨sat_cell h9 0 rfl rfl, sat_cell h9 0 rfl rfl, sat_cell h9 0 rfl rfl, trivial⟩) ?_
  exact ⟨.agg #[iV x, iV y, iV z], [], rfl, ⟨rfl, rfl⟩, h11⟩

set_option maxHeartbeats 4000000 in
theorem ofdesc_ht (x y z : Int) (hz0 : 0 ≤ z) (hz1 : z ≤ 4294967295) : HT Try.prog 51 [Value.agg #[Value.int IntKind.i64 x, Value.int IntKind.i64 y, Value.int IntKind.u32 z]] [] (fun v K => v = Value.agg #[Value.int IntKind.i64 x, Value.int IntKind.i64 y, Value.int IntKind.i64 z] ∧ K = []) := by
  refine hi_in 11 ([(0, .agg #[iV x, iV y, uV z])] : Fr) Try.func51 (by kernel_rfl) Try.ntmps51 rfl rfl ?_
  intro g w0 R h0
  change WP _ _ (CA Try.f51 []) _ _ _
  refine zSq (by kernel_rfl) ?_
  refine zPl [0, 1] (by kernel_rfl) ?_
  refine plain_act (i := 0) (by kernel_rfl) ?_
  refine an_new (d := 1) (fun xb_ => pV xb_) (fun xb_ => Obj.cells [iV x, iV y, uV z].toArray 28 (0, 0)) (fun xb_ => by kernel_rfl) (by kernel_rfl) rfl h0 ?_
  intro r1 w2 (h3 : sat g w2 [Cl r1 [iV x, iV y, uV z] 28, R])
  refine plain_act (i := 1) (by kernel_rfl) ?_
  refine an_new (d := 2) (fun xb_ => pV xb_) (fun xb_ => Obj.cells [iV 0, iV 0, iV 0].toArray 103 (0, 0)) (fun xb_ => by kernel_rfl) (by kernel_rfl) rfl h3 ?_
  intro r4 w5 (h6 : sat g w5 [Cl r4 [iV 0, iV 0, iV 0] 103, Cl r1 [iV x, iV y, uV z] 28, R])
  refine PO.mk ?_
  change WP _ _ (CA Try.f51 [1]) _ _ _
  refine fk_cut ([(1, pV r1), (2, pV r4)] : Fr) (by kernel_rfl) (fun a => WP _ _ _ _ a _) (fun lr7 => ?_)
  refine zSq (by kernel_rfl) ?_
  refine zPl [0, 1, 2, 3, 4, 5, 6, 7, 8] (by kernel_rfl) ?_
  refine zBb [8] [(10, .agg #[iV x, iV y, iV z]), (9, iV z), (8, uV z), (7, .pointer (some ⟨r1, 2, none⟩)), (6, iV y), (5, .pointer (some ⟨r1, 1, none⟩)), (4, iV x), (3, pV r1)] [⟨0, [], none⟩, ⟨1, [iV x], none⟩, ⟨2, [], none⟩, ⟨3, [iV y], none⟩, ⟨4, [], none⟩, ⟨5, [uV z], none⟩, ⟨6, [], some (iV z)⟩, ⟨7, [], none⟩] [(5, ⟨r1, 2, none⟩, uV z), (3, ⟨r1, 1, none⟩, iV y), (1, ⟨r1, 0, none⟩, iV x)] [(iV (IntKind.wrap .i64 z), iV z)] (by kernel_rfl) ⟨(ov_i64 rfl (by omega) (by omega)), trivial⟩ (AllC_cons (sat_cell h6 1 rfl rfl) (AllC_cons (sat_cell h6 1 rfl rfl) (AllC_cons (sat_cell h6 1 rfl rfl) (AllC_nil _)))) ?_
  refine plain_act (i := 8) (by kernel_rfl) ?_
  refine an_store [(0, iV x), (1, iV y), (2, iV z)] (cs' := [iV x, iV y, iV z]) (by kernel_rfl) (by kernel_rfl) (allq ⟨⟨by simp, rfl⟩, ⟨by simp, rfl⟩, ⟨by simp, rfl⟩, trivial⟩) rfl h6 ?_
  intro w8 (h9 : sat g w8 [Cl r4 [iV x, iV y, iV z] 103, Cl r1 [iV x, iV y, uV z] 28, R])
  refine PO.mk ?_
  change WP _ _ (CA Try.f51 [1, 1]) _ _ _
  refine fk_cut ([(2, pV r4)] : Fr) (by kernel_rfl) (fun a => WP _ _ _ _ a _) (fun lr10 => ?_)
  refine gi_rt (by kernel_rfl) ?_
  repeat (first | simp only [Exit.inBlock] | simp only [Exit.then])
  have h11 : sat g w8 [R] := sat_sel [2] rfl h9
  refine hi_out [iV x, iV y, iV z] (.agg #[iV x, iV y, iV z]) [(⟨r4, 0, none⟩, iV x), (⟨r4, 1, none⟩, iV y), (⟨r4, 2, none⟩, iV z)] (by kernel_rfl) (allq ⟨sat_cell h9 0 rfl rfl, sat_cell h9 0 rfl rfl, sat_cell h9 0 rfl rfl, trivial⟩) ?_
  exact ⟨.agg #[iV x, iV y, iV z], [], rfl, ⟨rfl, rfl⟩, h11⟩

set_option maxHeartbeats 4000000 in
theorem dcheck_ok (x y z : Int) (hz0 : 0 ≤ z) (hz1 : z ≤ 4294967295) (ho : 1 ≤ x ∧ x ≤ 3 ∧ 0 ≤ y ∧ y ≤ 63 ∧ 1 ≤ z) : HT Try.prog 52 [Value.agg #[Value.int IntKind.i64 x, Value.int IntKind.i64 y, Value.int IntKind.i64 z], Value.int IntKind.i64 64] [] (fun v K => v = Value.int IntKind.i64 0 ∧ K = []) := by
  refine hi_in 28 ([(0, .agg #[iV x, iV y, iV z]), (1, iV 64)] : Fr) Try.func52 (by kernel_rfl) Try.ntmps52 rfl rfl ?_
  intro g w0 R h0
  change WP _ _ (CA Try.f52 []) _ _ _
  refine zSq (by kernel_rfl) ?_
  refine zPl [0, 1] (by kernel_rfl) ?_
  refine plain_act (i := 0) (by kernel_rfl) ?_
  refine an_new (d := 2) (fun xb_ => pV xb_) (fun xb_ => Obj.cells [iV x, iV y, iV z].toArray 103 (0, 0)) (fun xb_ => by kernel_rfl) (by kernel_rfl) rfl h0 ?_
  intro r1 w2 (h3 : sat g w2 [Cl r1 [iV x, iV y, iV z] 103, R])
  refine zB0 [] [1] [(4, iV 0)] (by kernel_rfl) ?_
  refine PO.mk ?_
  change WP _ _ (CA Try.f52 [1]) _ _ _
  refine fk_cut ([(1, iV 64), (2, pV r1)] : Fr) (by kernel_rfl) (fun a => WP _ _ _ _ a _) (fun lr4 => ?_)
  refine zSq (by kernel_rfl) ?_
  refine zSq (by kernel_rfl) ?_
  refine zPl [0, 1, 2, 3, 4, 5, 6, 7, 8, 9, 10, 11, 12, 13, 14, 15, 16, 17, 18] (by kernel_rfl) ?_
  refine plain_law (i := 0) 5 (pV r1) (by kernel_rfl) (law_indexArr (o := opA (RA Try.f52 [1, 0, 0]) 0) (x := (Operand.tmp 2)) (i := (Operand.const (iV 0))) (b := r1) (off := 0) (z := 0) (by kernel_rfl) Try.underlying103 1 (by kernel_rfl) 0 (by kernel_rfl) (by kernel_rfl) (by omega) (by omega) 0 (by omega) _) ?_
  refine zBb [4, 5, 6, 7, 8, 9, 10, 11, 12, 13, 14, 15, 16, 17, 18] [(8, .bool false), (7, .bool false), (6, iV x)] [⟨1, [iV x], none⟩, ⟨2, [], some (.bool false)⟩, ⟨3, [], none⟩] [(1, ⟨r1, 0, none⟩, iV x)] [(.bool (decide (x < 1)), .bool false)] (by kernel_rfl) ⟨(ov_f (by omega)), trivial⟩ (AllC_cons (sat_cell h3 0 rfl rfl) (AllC_nil _)) ?_
  refine plain_law (i := 4) 9 (pV r1) (by kernel_rfl) (law_indexArr (o := opA (RA Try.f52 [1, 0, 0]) 4) (x := (Operand.tmp 2)) (i := (Operand.const (iV 0))) (b := r1) (off := 0) (z := 0) (by kernel_rfl) Try.underlying103 1 (by kernel_rfl) 0 (by kernel_rfl) (by kernel_rfl) (by omega) (by omega) 0 (by omega) _) ?_
  refine zBb [9, 10, 11, 12, 13, 14, 15, 16, 17, 18] [(13, .bool false), (12, .bool false), (11, .bool false), (10, iV x)] [⟨5, [iV x], none⟩, ⟨6, [], some (.bool false)⟩, ⟨7, [], none⟩, ⟨8, [], none⟩] [(5, ⟨r1, 0, none⟩, iV x)] [(.bool (decide (x > 3)), .bool false)] (by kernel_rfl) ⟨(ov_f (by omega)), trivial⟩ (AllC_cons (sat_cell h3 0 rfl rfl) (AllC_nil _)) ?_
  refine plain_law (i := 9) 14 (.pointer (some ⟨r1, 1, none⟩)) (by kernel_rfl) (law_indexArr (o := opA (RA Try.f52 [1, 0, 0]) 9) (x := (Operand.tmp 2)) (i := (Operand.const (iV 1))) (b := r1) (off := 0) (z := 1) (by kernel_rfl) Try.underlying103 1 (by kernel_rfl) 1 (by kernel_rfl) (by kernel_rfl) (by omega) (by omega) 1 (by omega) _) ?_
  refine zBb [14, 15, 16, 17, 18] [(18, .bool false), (17, .bool false), (16, .bool false), (15, iV y)] [⟨10, [iV y], none⟩, ⟨11, [], some (.bool false)⟩, ⟨12, [], none⟩, ⟨13, [], none⟩] [(10, ⟨r1, 1, none⟩, iV y)] [(.bool (decide (y < 0)), .bool false)] (by kernel_rfl) ⟨(ov_f (by omega)), trivial⟩ (AllC_cons (sat_cell h3 0 rfl rfl) (AllC_nil _)) ?_
  refine plain_law (i := 14) 19 (.pointer (some ⟨r1, 1, none⟩)) (by kernel_rfl) (law_indexArr (o := opA (RA Try.f52 [1, 0, 0]) 14) (x := (Operand.tmp 2)) (i := (Operand.const (iV 1))) (b := r1) (off := 0) (z := 1) (by kernel_rfl) Try.underlying103 1 (by kernel_rfl) 1 (by kernel_rfl) (by kernel_rfl) (by omega) (by omega) 1 (by omega) _) ?_
  refine zBb [] [(23, .bool false), (22, .bool false), (21, iV 64), (20, iV y)] [⟨15, [iV y], none⟩, ⟨16, [], none⟩, ⟨17, [], some (.bool false)⟩, ⟨18, [], none⟩] [(15, ⟨r1, 1, none⟩, iV y)] [(.bool (decide (y ≥ 64)), .bool false)] (by kernel_rfl) ⟨(ov_f (by omega)), trivial⟩ (AllC_cons (sat_cell h3 0 rfl rfl) (AllC_nil _)) ?_
  refine PO.mk ?_
  change WP _ _ (CA Try.f52 [1, 0, 1]) _ _ _
  refine fk_cut ([(2, pV r1), (23, .bool false)] : Fr) (by kernel_rfl) (fun a => WP _ _ _ _ a _) (fun lr5 => ?_)
  refine zCf (by kernel_rfl) ?_
  refine gi_skp (by kernel_rfl) ?_
  change WP _ _ (CA Try.f52 [1, 1]) _ _ _
  refine zSq (by kernel_rfl) ?_
  refine zPl [0, 1, 2, 3, 4] (by kernel_rfl) ?_
  refine plain_law (i := 0) 24 (.pointer (some ⟨r1, 2, none⟩)) (by kernel_rfl) (law_indexArr (o := opA (RA Try.f52 [1, 1, 0]) 0) (x := (Operand.tmp 2)) (i := (Operand.const (iV 2))) (b := r1) (off := 0) (z := 2) (by kernel_rfl) Try.underlying103 1 (by kernel_rfl) 2 (by kernel_rfl) (by kernel_rfl) (by omega) (by omega) 2 (by omega) _) ?_
  refine zBb [3, 4] [(26, uV z), (25, iV z)] [⟨1, [iV z], none⟩, ⟨2, [], some (uV z)⟩] [(1, ⟨r1, 2, none⟩, iV z)] [(uV (IntKind.wrap .u32 z), uV z)] (by kernel_rfl) ⟨(ov_u32 rfl (by omega) (by omega)), trivial⟩ (AllC_cons (sat_cell h3 0 rfl rfl) (AllC_nil _)) ?_
  refine plain_act (i := 3) (by kernel_rfl) ?_
  refine zCl 27 Try.call55 (gcheck_ok z (by omega) (by omega)) h3 (by kernel_rfl) ?_
  rintro v K w6 (⟨rfl, rfl⟩) h7
  refine ⟨_, rfl, ?_⟩
  have h8 : sat g w6 [Cl r1 [iV x, iV y, iV z] 103, R] := h7
  refine zB0 [] [4] [(4, iV 0)] (by kernel_rfl) ?_
  refine PO.mk ?_
  change WP _ _ (CA Try.f52 [1, 1, 1]) _ _ _
  refine fk_cut ([(4, iV 0)] : Fr) (by kernel_rfl) (fun a => WP _ _ _ _ a _) (fun lr9 => ?_)
  refine gi_rt (by kernel_rfl) ?_
  repeat (first | simp only [Exit.inBlock] | simp only [Exit.then])
  have h10 : sat g w6 [R] := sat_sel [1] rfl h8
  refine hi_out [] (iV 0) [] (by kernel_rfl) (by intro q hq; cases hq) ?_
  exact ⟨iV 0, [], rfl, ⟨rfl, rfl⟩, h10⟩

set_option maxHeartbeats 4000000 in
theorem dcheck_no (x y z : Int) (hz0 : 0 ≤ z) (hz1 : z ≤ 4294967295) (ho : ¬ (1 ≤ x ∧ x ≤ 3 ∧ 0 ≤ y ∧ y ≤ 63 ∧ 1 ≤ z)) : HT Try.prog 52 [Value.agg #[Value.int IntKind.i64 x, Value.int IntKind.i64 y, Value.int IntKind.i64 z], Value.int IntKind.i64 64] [] (fun v K => v = Value.int IntKind.i64 2 ∧ K = []) := by
  refine hi_in 28 ([(0, .agg #[iV x, iV y, iV z]), (1, iV 64)] : Fr) Try.func52 (by kernel_rfl) Try.ntmps52 rfl rfl ?_
  intro g w0 R h0
  change WP _ _ (CA Try.f52 []) _ _ _
  refine zSq (by kernel_rfl) ?_
  refine zPl [0, 1] (by kernel_rfl) ?_
  refine plain_act (i := 0) (by kernel_rfl) ?_
  refine an_new (d := 2) (fun xb_ => pV xb_) (fun xb_ => Obj.cells [iV x, iV y, iV z].toArray 103 (0, 0)) (fun xb_ => by kernel_rfl) (by kernel_rfl) rfl h0 ?_
  intro r1 w2 (h3 : sat g w2 [Cl r1 [iV x, iV y, iV z] 103, R])
  refine zB0 [] [1] [(4, iV 0)] (by kernel_rfl) ?_
  refine PO.mk ?_
  change WP _ _ (CA Try.f52 [1]) _ _ _
  refine fk_cut ([(1, iV 64), (2, pV r1)] : Fr) (by kernel_rfl) (fun a => WP _ _ _ _ a _) (fun lr4 => ?_)
  refine zSq (by kernel_rfl) ?_
  refine zSq (by kernel_rfl) ?_
  refine zPl [0, 1, 2, 3, 4, 5, 6, 7, 8, 9, 10, 11, 12, 13, 14, 15, 16, 17, 18] (by kernel_rfl) ?_
  refine plain_law (i := 0) 5 (pV r1) (by kernel_rfl) (law_indexArr (o := opA (RA Try.f52 [1, 0, 0]) 0) (x := (Operand.tmp 2)) (i := (Operand.const (iV 0))) (b := r1) (off := 0) (z := 0) (by kernel_rfl) Try.underlying103 1 (by kernel_rfl) 0 (by kernel_rfl) (by kernel_rfl) (by omega) (by omega) 0 (by omega) _) ?_
  refine zBb [2, 3, 4, 5, 6, 7, 8, 9, 10, 11, 12, 13, 14, 15, 16, 17, 18] [(6, iV x)] [⟨1, [iV x], none⟩] [(1, ⟨r1, 0, none⟩, iV x)] [] (by kernel_rfl) trivial (AllC_cons (sat_cell h3 0 rfl rfl) (AllC_nil _)) ?_
  by_cases c5 : x < 1
  ·
    refine zBb [] [(23, .bool true), (22, undef), (21, undef), (20, undef), (19, undef), (18, .bool true), (17, .bool true), (16, undef), (15, undef), (14, undef), (13, .bool true), (12, .bool true), (11, undef), (10, undef), (9, undef), (8, .bool true), (7, .bool true)] [⟨2, [], some (.bool true)⟩, ⟨3, [], none⟩, ⟨4, [], none⟩, ⟨5, [], none⟩, ⟨6, [], none⟩, ⟨7, [], none⟩, ⟨8, [], none⟩, ⟨9, [], none⟩, ⟨10, [], none⟩, ⟨11, [], none⟩, ⟨12, [], none⟩, ⟨13, [], none⟩, ⟨14, [], none⟩, ⟨15, [], none⟩, ⟨16, [], none⟩, ⟨17, [], none⟩, ⟨18, [], none⟩] [] [(.bool (decide (x < 1)), .bool true)] (by kernel_rfl) ⟨(ov_t (by omega)), trivial⟩ (AllC_nil _) ?_
    refine PO.mk ?_
    change WP _ _ (CA Try.f52 [1, 0, 1]) _ _ _
    refine fk_cut ([(2, pV r1), (23, .bool true)] : Fr) (by kernel_rfl) (fun a => WP _ _ _ _ a _) (fun lr6 => ?_)
    refine zCt (by kernel_rfl) ?_
    refine zSq (by kernel_rfl) ?_
    refine zPl [0] (by kernel_rfl) ?_
    refine zB0 [] [0] [(4, iV 2)] (by kernel_rfl) ?_
    refine PO.mk ?_
    change WP _ _ (CA Try.f52 [1, 0, 1, 0, 1]) _ _ _
    refine fk_cut ([(4, iV 2)] : Fr) (by kernel_rfl) (fun a => WP _ _ _ _ a _) (fun lr7 => ?_)
    refine gi_rt (by kernel_rfl) ?_
    repeat (first | simp only [Exit.inBlock] | simp only [Exit.then])
    have h8 : sat g w2 [R] := sat_sel [1] rfl h3
    refine hi_out [] (iV 2) [] (by kernel_rfl) (by intro q hq; cases hq) ?_
    exact ⟨iV 2, [], rfl, ⟨rfl, rfl⟩, h8⟩
  ·
    refine zBb [4, 5, 6, 7, 8, 9, 10, 11, 12, 13, 14, 15, 16, 17, 18] [(8, .bool false), (7, .bool false)] [⟨2, [], some (.bool false)⟩, ⟨3, [], none⟩] [] [(.bool (decide (x < 1)), .bool false)] (by kernel_rfl) ⟨(ov_f (by omega)), trivial⟩ (AllC_nil _) ?_
    refine plain_law (i := 4) 9 (pV r1) (by kernel_rfl) (law_indexArr (o := opA (RA Try.f52 [1, 0, 0]) 4) (x := (Operand.tmp 2)) (i := (Operand.const (iV 0))) (b := r1) (off := 0) (z := 0) (by kernel_rfl) Try.underlying103 1 (by kernel_rfl) 0 (by kernel_rfl) (by kernel_rfl) (by omega) (by omega) 0 (by omega) _) ?_
    refine zBb [6, 7, 8, 9, 10, 11, 12, 13, 14, 15, 16, 17, 18] [(10, iV x)] [⟨5, [iV x], none⟩] [(5, ⟨r1, 0, none⟩, iV x)] [] (by kernel_rfl) trivial (AllC_cons (sat_cell h3 0 rfl rfl) (AllC_nil _)) ?_
    by_cases c9 : x > 3
    ·
      refine zBb [] [(23, .bool true), (22, undef), (21, undef), (20, undef), (19, undef), (18, .bool true), (17, .bool true), (16, undef), (15, undef), (14, undef), (13, .bool true), (12, .bool true), (11, .bool true)] [⟨6, [], some (.bool true)⟩, ⟨7, [], none⟩, ⟨8, [], none⟩, ⟨9, [], none⟩, ⟨10, [], none⟩, ⟨11, [], none⟩, ⟨12, [], none⟩, ⟨13, [], none⟩, ⟨14, [], none⟩, ⟨15, [], none⟩, ⟨16, [], none⟩, ⟨17, [], none⟩, ⟨18, [], none⟩] [] [(.bool (decide (x > 3)), .bool true)] (by kernel_rfl) ⟨(ov_t (by omega)), trivial⟩ (AllC_nil _) ?_
      refine PO.mk ?_
      change WP _ _ (CA Try.f52 [1, 0, 1]) _ _ _
      refine fk_cut ([(2, pV r1), (23, .bool true)] : Fr) (by kernel_rfl) (fun a => WP _ _ _ _ a _) (fun lr10 => ?_)
      refine zCt (by kernel_rfl) ?_
      refine zSq (by kernel_rfl) ?_
      refine zPl [0] (by kernel_rfl) ?_
      refine zB0 [] [0] [(4, iV 2)] (by kernel_rfl) ?_
      refine PO.mk ?_
      change WP _ _ (CA Try.f52 [1, 0, 1, 0, 1]) _ _ _
      refine fk_cut ([(4, iV 2)] : Fr) (by kernel_rfl) (fun a => WP _ _ _ _ a _) (fun lr11 => ?_)
      refine gi_rt (by kernel_rfl) ?_
      repeat (first | simp only [Exit.inBlock] | simp only [Exit.then])
      have h12 : sat g w2 [R] := sat_sel [1] rfl h3
      refine hi_out [] (iV 2) [] (by kernel_rfl) (by intro q hq; cases hq) ?_
      exact ⟨iV 2, [], rfl, ⟨rfl, rfl⟩, h12⟩
    ·
      refine zBb [9, 10, 11, 12, 13, 14, 15, 16, 17, 18] [(13, .bool false), (12, .bool false), (11, .bool false)] [⟨6, [], some (.bool false)⟩, ⟨7, [], none⟩, ⟨8, [], none⟩] [] [(.bool (decide (x > 3)), .bool false)] (by kernel_rfl) ⟨(ov_f (by omega)), trivial⟩ (AllC_nil _) ?_
      refine plain_law (i := 9) 14 (.pointer (some ⟨r1, 1, none⟩)) (by kernel_rfl) (law_indexArr (o := opA (RA Try.f52 [1, 0, 0]) 9) (x := (Operand.tmp 2)) (i := (Operand.const (iV 1))) (b := r1) (off := 0) (z := 1) (by kernel_rfl) Try.underlying103 1 (by kernel_rfl) 1 (by kernel_rfl) (by kernel_rfl) (by omega) (by omega) 1 (by omega) _) ?_
      refine zBb [11, 12, 13, 14, 15, 16, 17, 18] [(15, iV y)] [⟨10, [iV y], none⟩] [(10, ⟨r1, 1, none⟩, iV y)] [] (by kernel_rfl) trivial (AllC_cons (sat_cell h3 0 rfl rfl) (AllC_nil _)) ?_
      by_cases c13 : y < 0
      ·
        refine zBb [] [(23, .bool true), (22, undef), (21, undef), (20, undef), (19, undef), (18, .bool true), (17, .bool true), (16, .bool true)] [⟨11, [], some (.bool true)⟩, ⟨12, [], none⟩, ⟨13, [], none⟩, ⟨14, [], none⟩, ⟨15, [], none⟩, ⟨16, [], none⟩, ⟨17, [], none⟩, ⟨18, [], none⟩] [] [(.bool (decide (y < 0)), .bool true)] (by kernel_rfl) ⟨(ov_t (by omega)), trivial⟩ (AllC_nil _) ?_
        refine PO.mk ?_
        change WP _ _ (CA Try.f52 [1, 0, 1]) _ _ _
        refine fk_cut ([(2, pV r1), (23, .bool true)] : Fr) (by kernel_rfl) (fun a => WP _ _ _ _ a _) (fun lr14 => ?_)
        refine zCt (by kernel_rfl) ?_
        refine zSq (by kernel_rfl) ?_
        refine zPl [0] (by kernel_rfl) ?_
        refine zB0 [] [0] [(4, iV 2)] (by kernel_rfl) ?_
        refine PO.mk ?_
        change WP _ _ (CA Try.f52 [1, 0, 1, 0, 1]) _ _ _
        refine fk_cut ([(4, iV 2)] : Fr) (by kernel_rfl) (fun a => WP _ _ _ _ a _) (fun lr15 => ?_)
        refine gi_rt (by kernel_rfl) ?_
        repeat (first | simp only [Exit.inBlock] | simp only [Exit.then])
        have h16 : sat g w2 [R] := sat_sel [1] rfl h3
        refine hi_out [] (iV 2) [] (by kernel_rfl) (by intro q hq; cases hq) ?_
        exact ⟨iV 2, [], rfl, ⟨rfl, rfl⟩, h16⟩
      ·
        refine zBb [14, 15, 16, 17, 18] [(18, .bool false), (17, .bool false), (16, .bool false)] [⟨11, [], some (.bool false)⟩, ⟨12, [], none⟩, ⟨13, [], none⟩] [] [(.bool (decide (y < 0)), .bool false)] (by kernel_rfl) ⟨(ov_f (by omega)), trivial⟩ (AllC_nil _) ?_
        refine plain_law (i := 14) 19 (.pointer (some ⟨r1, 1, none⟩)) (by kernel_rfl) (law_indexArr (o := opA (RA Try.f52 [1, 0, 0]) 14) (x := (Operand.tmp 2)) (i := (Operand.const (iV 1))) (b := r1) (off := 0) (z := 1) (by kernel_rfl) Try.underlying103 1 (by kernel_rfl) 1 (by kernel_rfl) (by kernel_rfl) (by omega) (by omega) 1 (by omega) _) ?_
        refine zBb [17, 18] [(21, iV 64), (20, iV y)] [⟨15, [iV y], none⟩, ⟨16, [], none⟩] [(15, ⟨r1, 1, none⟩, iV y)] [] (by kernel_rfl) trivial (AllC_cons (sat_cell h3 0 rfl rfl) (AllC_nil _)) ?_
        by_cases c17 : y ≥ 64
        ·
          refine zBb [] [(23, .bool true), (22, .bool true)] [⟨17, [], some (.bool true)⟩, ⟨18, [], none⟩] [] [(.bool (decide (y ≥ 64)), .bool true)] (by kernel_rfl) ⟨(ov_t (by omega)), trivial⟩ (AllC_nil _) ?_
          refine PO.mk ?_
          change WP _ _ (CA Try.f52 [1, 0, 1]) _ _ _
          refine fk_cut ([(2, pV r1), (23, .bool true)] : Fr) (by kernel_rfl) (fun a => WP _ _ _ _ a _) (fun lr18 => ?_)
          refine zCt (by kernel_rfl) ?_
          refine zSq (by kernel_rfl) ?_
          refine zPl [0] (by kernel_rfl) ?_
          refine zB0 [] [0] [(4, iV 2)] (by kernel_rfl) ?_
          refine PO.mk ?_
          change WP _ _ (CA Try.f52 [1, 0, 1, 0, 1]) _ _ _
          refine fk_cut ([(4, iV 2)] : Fr) (by kernel_rfl) (fun a => WP _ _ _ _ a _) (fun lr19 => ?_)
          refine gi_rt (by kernel_rfl) ?_
          repeat (first | simp only [Exit.inBlock] | simp only [Exit.then])
          have h20 : sat g w2 [R] := sat_sel [1] rfl h3
          refine hi_out [] (iV 2) [] (by kernel_rfl) (by intro q hq; cases hq) ?_
          exact ⟨iV 2, [], rfl, ⟨rfl, rfl⟩, h20⟩
        ·
          refine zBb [] [(23, .bool false), (22, .bool false)] [⟨17, [], some (.bool false)⟩, ⟨18, [], none⟩] [] [(.bool (decide (y ≥ 64)), .bool false)] (by kernel_rfl) ⟨(ov_f (by omega)), trivial⟩ (AllC_nil _) ?_
          refine PO.mk ?_
          change WP _ _ (CA Try.f52 [1, 0, 1]) _ _ _
          refine fk_cut ([(2, pV r1), (23, .bool false)] : Fr) (by kernel_rfl) (fun a => WP _ _ _ _ a _) (fun lr21 => ?_)
          refine zCf (by kernel_rfl) ?_
          refine gi_skp (by kernel_rfl) ?_
          change WP _ _ (CA Try.f52 [1, 1]) _ _ _
          refine zSq (by kernel_rfl) ?_
          refine zPl [0, 1, 2, 3, 4] (by kernel_rfl) ?_
          refine plain_law (i := 0) 24 (.pointer (some ⟨r1, 2, none⟩)) (by kernel_rfl) (law_indexArr (o := opA (RA Try.f52 [1, 1, 0]) 0) (x := (Operand.tmp 2)) (i := (Operand.const (iV 2))) (b := r1) (off := 0) (z := 2) (by kernel_rfl) Try.underlying103 1 (by kernel_rfl) 2 (by kernel_rfl) (by kernel_rfl) (by omega) (by omega) 2 (by omega) _) ?_
          refine zBb [3, 4] [(26, uV z), (25, iV z)] [⟨1, [iV z], none⟩, ⟨2, [], some (uV z)⟩] [(1, ⟨r1, 2, none⟩, iV z)] [(uV (IntKind.wrap .u32 z), uV z)] (by kernel_rfl) ⟨(ov_u32 rfl (by omega) (by omega)), trivial⟩ (AllC_cons (sat_cell h3 0 rfl rfl) (AllC_nil _)) ?_
          refine plain_act (i := 3) (by kernel_rfl) ?_
          refine zCl 27 Try.call55 (gcheck_no z (by omega)) h3 (by kernel_rfl) ?_
          rintro v K w22 (⟨rfl, rfl⟩) h23
          refine ⟨_, rfl, ?_⟩
          have h24 : sat g w22 [Cl r1 [iV x, iV y, iV z] 103, R] := h23
          refine zB0 [] [4] [(4, iV 2)] (by kernel_rfl) ?_
          refine PO.mk ?_
          change WP _ _ (CA Try.f52 [1, 1, 1]) _ _ _
          refine fk_cut ([(4, iV 2)] : Fr) (by kernel_rfl) (fun a => WP _ _ _ _ a _) (fun lr25 => ?_)
          refine gi_rt (by kernel_rfl) ?_
          repeat (first | simp only [Exit.inBlock] | simp only [Exit.then])
          have h26 : sat g w22 [R] := sat_sel [1] rfl h24
          refine hi_out [] (iV 2) [] (by kernel_rfl) (by intro q hq; cases hq) ?_
          exact ⟨iV 2, [], rfl, ⟨rfl, rfl⟩, h26⟩

set_option maxHeartbeats 4000000 in
theorem couter_ok (x y z : Int) (hz0 : 0 ≤ z) (hz1 : z ≤ 4294967295) (ho : 1 ≤ x ∧ x ≤ 3 ∧ 0 ≤ y ∧ y ≤ 63 ∧ 1 ≤ z) : HT Try.prog 63 [Value.agg #[Value.int IntKind.i64 x, Value.int IntKind.i64 y, Value.int IntKind.u32 z]] [] (fun v K => v = Value.int IntKind.i64 0 ∧ K = []) := by
  refine hi_in 6 ([(0, .agg #[iV x, iV y, uV z])] : Fr) Try.func63 (by kernel_rfl) Try.ntmps63 rfl rfl ?_
  intro g w0 R h0
  change WP _ _ (CA Try.f63 []) _ _ _
  refine zSq (by kernel_rfl) ?_
  refine zPl [0, 1] (by kernel_rfl) ?_
  refine plain_act (i := 0) (by kernel_rfl) ?_
  refine an_new (d := 1) (fun xb_ => pV xb_) (fun xb_ => Obj.cells [iV x, iV y, uV z].toArray 32 (0, 0)) (fun xb_ => by kernel_rfl) (by kernel_rfl) rfl h0 ?_
  intro r1 w2 (h3 : sat g w2 [Cl r1 [iV x, iV y, uV z] 32, R])
  refine zB0 [] [1] [(2, iV 0)] (by kernel_rfl) ?_
  refine PO.mk ?_
  change WP _ _ (CA Try.f63 [1]) _ _ _
  refine fk_cut ([(1, pV r1)] : Fr) (by kernel_rfl) (fun a => WP _ _ _ _ a _) (fun lr4 => ?_)
  refine zSq (by kernel_rfl) ?_
  refine zPl [0, 1, 2, 3] (by kernel_rfl) ?_
  refine zBb [1, 2, 3] [(3, .agg #[iV x, iV y, uV z])] [⟨0, [iV x, iV y, uV z], none⟩] [(0, ⟨r1, 0, none⟩, iV x), (0, ⟨r1, 1, none⟩, iV y), (0, ⟨r1, 2, none⟩, uV z)] [] (by kernel_rfl) trivial (AllC_cons (sat_cell h3 0 rfl rfl) (AllC_cons (sat_cell h3 0 rfl rfl) (AllC_cons (sat_cell h3 0 rfl rfl) (AllC_nil _)))) ?_
  refine plain_act (i := 1) (by kernel_rfl) ?_
  refine zCl 4 Try.call74 (ofouter_ht x y z (by omega) (by omega)) h3 (by kernel_rfl) ?_
  rintro v K w5 (⟨rfl, rfl⟩) h6
  refine ⟨_, rfl, ?_⟩
  have h7 : sat g w5 [Cl r1 [iV x, iV y, uV z] 32, R] := h6
  refine plain_act (i := 2) (by kernel_rfl) ?_
  refine zCl 5 Try.call52 (dcheck_ok x y z (by omega) (by omega) (by omega)) h7 (by kernel_rfl) ?_
  rintro v K w8 (⟨rfl, rfl⟩) h9
  refine ⟨_, rfl, ?_⟩
  have h10 : sat g w8 [Cl r1 [iV x, iV y, uV z] 32, R] := h9
  refine zB0 [] [3] [(2, iV 0)] (by kernel_rfl) ?_
  refine PO.mk ?_
  change WP _ _ (CA Try.f63 [1, 1]) _ _ _
  refine fk_cut ([(2, iV 0)] : Fr) (by kernel_rfl) (fun a => WP _ _ _ _ a _) (fun lr11 => ?_)
  refine gi_rt (by kernel_rfl) ?_
  repeat (first | simp only [Exit.inBlock] | simp only [Exit.then])
  have h12 : sat g w8 [R] := sat_sel [1] rfl h10
  refine hi_out [] (iV 0) [] (by kernel_rfl) (by intro q hq; cases hq) ?_
  exact ⟨iV 0, [], rfl, ⟨rfl, rfl⟩, h12⟩

set_option maxHeartbeats 4000000 in
theorem couter_no (x y z : Int) (hz0 : 0 ≤ z) (hz1 : z ≤ 4294967295) (ho : ¬ (1 ≤ x ∧ x ≤ 3 ∧ 0 ≤ y ∧ y ≤ 63 ∧ 1 ≤ z)) : HT Try.prog 63 [Value.agg #[Value.int IntKind.i64 x, Value.int IntKind.i64 y, Value.int IntKind.u32 z]] [] (fun v K => v = Value.int IntKind.i64 2 ∧ K = []) := by
  refine hi_in 6 ([(0, .agg #[iV x, iV y, uV z])] : Fr) Try.func63 (by kernel_rfl) Try.ntmps63 rfl rfl ?_
  intro g w0 R h0
  change WP _ _ (CA Try.f63 []) _ _ _
  refine zSq (by kernel_rfl) ?_
  refine zPl [0, 1] (by kernel_rfl) ?_
  refine plain_act (i := 0) (by kernel_rfl) ?_
  refine an_new (d := 1) (fun xb_ => pV xb_) (fun xb_ => Obj.cells [iV x, iV y, uV z].toArray 32 (0, 0)) (fun xb_ => by kernel_rfl) (by kernel_rfl) rfl h0 ?_
  intro r1 w2 (h3 : sat g w2 [Cl r1 [iV x, iV y, uV z] 32, R])
  refine zB0 [] [1] [(2, iV 0)] (by kernel_rfl) ?_
  refine PO.mk ?_
  change WP _ _ (CA Try.f63 [1]) _ _ _
  refine fk_cut ([(1, pV r1)] : Fr) (by kernel_rfl) (fun a => WP _ _ _ _ a _) (fun lr4 => ?_)
  refine zSq (by kernel_rfl) ?_
  refine zPl [0, 1, 2, 3] (by kernel_rfl) ?_
  refine zBb [1, 2, 3] [(3, .agg #[iV x, iV y, uV z])] [⟨0, [iV x, iV y, uV z], none⟩] [(0, ⟨r1, 0, none⟩, iV x), (0, ⟨r1, 1, none⟩, iV y), (0, ⟨r1, 2, none⟩, uV z)] [] (by kernel_rfl) trivial (AllC_cons (sat_cell h3 0 rfl rfl) (AllC_cons (sat_cell h3 0 rfl rfl) (AllC_cons (sat_cell h3 0 rfl rfl) (AllC_nil _)))) ?_
  refine plain_act (i := 1) (by kernel_rfl) ?_
  refine zCl 4 Try.call74 (ofouter_ht x y z (by omega) (by omega)) h3 (by kernel_rfl) ?_
  rintro v K w5 (⟨rfl, rfl⟩) h6
  refine ⟨_, rfl, ?_⟩
  have h7 : sat g w5 [Cl r1 [iV x, iV y, uV z] 32, R] := h6
  by_cases c8 : 1 ≤ x
  ·
    by_cases c9 : x ≤ 3
    ·
      by_cases c10 : 0 ≤ y
      ·
        by_cases c11 : y ≤ 63
        ·
          refine plain_act (i := 2) (by kernel_rfl) ?_
          refine zCl 5 Try.call52 (dcheck_no x y z (by omega) (by omega) (by omega)) h7 (by kernel_rfl) ?_
          rintro v K w12 (⟨rfl, rfl⟩) h13
          refine ⟨_, rfl, ?_⟩
          have h14 : sat g w12 [Cl r1 [iV x, iV y, uV z] 32, R] := h13
          refine zB0 [] [3] [(2, iV 2)] (by kernel_rfl) ?_
          refine PO.mk ?_
          change WP _ _ (CA Try.f63 [1, 1]) _ _ _
          refine fk_cut ([(2, iV 2)] : Fr) (by kernel_rfl) (fun a => WP _ _ _ _ a _) (fun lr15 => ?_)
          refine gi_rt (by kernel_rfl) ?_
          repeat (first | simp only [Exit.inBlock] | simp only [Exit.then])
          have h16 : sat g w12 [R] := sat_sel [1] rfl h14
          refine hi_out [] (iV 2) [] (by kernel_rfl) (by intro q hq; cases hq) ?_
          exact ⟨iV 2, [], rfl, ⟨rfl, rfl⟩, h16⟩
        ·
          refine plain_act (i := 2) (by kernel_rfl) ?_
          refine zCl 5 Try.call52 (dcheck_no x y z (by omega) (by omega) (by omega)) h7 (by kernel_rfl) ?_
          rintro v K w17 (⟨rfl, rfl⟩) h18
          refine ⟨_, rfl, ?_⟩
          have h19 : sat g w17 [Cl r1 [iV x, iV y, uV z] 32, R] := h18
          refine zB0 [] [3] [(2, iV 2)] (by kernel_rfl) ?_
          refine PO.mk ?_
          change WP _ _ (CA Try.f63 [1, 1]) _ _ _
          refine fk_cut ([(2, iV 2)] : Fr) (by kernel_rfl) (fun a => WP _ _ _ _ a _) (fun lr20 => ?_)
          refine gi_rt (by kernel_rfl) ?_
          repeat (first | simp only [Exit.inBlock] | simp only [Exit.then])
          have h21 : sat g w17 [R] := sat_sel [1] rfl h19
          refine hi_out [] (iV 2) [] (by kernel_rfl) (by intro q hq; cases hq) ?_
          exact ⟨iV 2, [], rfl, ⟨rfl, rfl⟩, h21⟩
      ·
        refine plain_act (i := 2) (by kernel_rfl) ?_
        refine zCl 5 Try.call52 (dcheck_no x y z (by omega) (by omega) (by omega)) h7 (by kernel_rfl) ?_
        rintro v K w22 (⟨rfl, rfl⟩) h23
        refine ⟨_, rfl, ?_⟩
        have h24 : sat g w22 [Cl r1 [iV x, iV y, uV z] 32, R] := h23
        refine zB0 [] [3] [(2, iV 2)] (by kernel_rfl) ?_
        refine PO.mk ?_
        change WP _ _ (CA Try.f63 [1, 1]) _ _ _
        refine fk_cut ([(2, iV 2)] : Fr) (by kernel_rfl) (fun a => WP _ _ _ _ a _) (fun lr25 => ?_)
        refine gi_rt (by kernel_rfl) ?_
        repeat (first | simp only [Exit.inBlock] | simp only [Exit.then])
        have h26 : sat g w22 [R] := sat_sel [1] rfl h24
        refine hi_out [] (iV 2) [] (by kernel_rfl) (by intro q hq; cases hq) ?_
        exact ⟨iV 2, [], rfl, ⟨rfl, rfl⟩, h26⟩
    ·
      refine plain_act (i := 2) (by kernel_rfl) ?_
      refine zCl 5 Try.call52 (dcheck_no x y z (by omega) (by omega) (by omega)) h7 (by kernel_rfl) ?_
      rintro v K w27 (⟨rfl, rfl⟩) h28
      refine ⟨_, rfl, ?_⟩
      have h29 : sat g w27 [Cl r1 [iV x, iV y, uV z] 32, R] := h28
      refine zB0 [] [3] [(2, iV 2)] (by kernel_rfl) ?_
      refine PO.mk ?_
      change WP _ _ (CA Try.f63 [1, 1]) _ _ _
      refine fk_cut ([(2, iV 2)] : Fr) (by kernel_rfl) (fun a => WP _ _ _ _ a _) (fun lr30 => ?_)
      refine gi_rt (by kernel_rfl) ?_
      repeat (first | simp only [Exit.inBlock] | simp only [Exit.then])
      have h31 : sat g w27 [R] := sat_sel [1] rfl h29
      refine hi_out [] (iV 2) [] (by kernel_rfl) (by intro q hq; cases hq) ?_
      exact ⟨iV 2, [], rfl, ⟨rfl, rfl⟩, h31⟩
  ·
    refine plain_act (i := 2) (by kernel_rfl) ?_
    refine zCl 5 Try.call52 (dcheck_no x y z (by omega) (by omega) (by omega)) h7 (by kernel_rfl) ?_
    rintro v K w32 (⟨rfl, rfl⟩) h33
    refine ⟨_, rfl, ?_⟩
    have h34 : sat g w32 [Cl r1 [iV x, iV y, uV z] 32, R] := h33
    refine zB0 [] [3] [(2, iV 2)] (by kernel_rfl) ?_
    refine PO.mk ?_
    change WP _ _ (CA Try.f63 [1, 1]) _ _ _
    refine fk_cut ([(2, iV 2)] : Fr) (by kernel_rfl) (fun a => WP _ _ _ _ a _) (fun lr35 => ?_)
    refine gi_rt (by kernel_rfl) ?_
    repeat (first | simp only [Exit.inBlock] | simp only [Exit.then])
    have h36 : sat g w32 [R] := sat_sel [1] rfl h34
    refine hi_out [] (iV 2) [] (by kernel_rfl) (by intro q hq; cases hq) ?_
    exact ⟨iV 2, [], rfl, ⟨rfl, rfl⟩, h36⟩

set_option maxHeartbeats 4000000 in
theorem dcheckd_ok (x y z : Int) (hz0 : 0 ≤ z) (hz1 : z ≤ 4294967295) (ho : 1 ≤ x ∧ x ≤ 3 ∧ 0 ≤ y ∧ y ≤ 255 ∧ 1 ≤ z) : HT Try.prog 52 [Value.agg #[Value.int IntKind.i64 x, Value.int IntKind.i64 y, Value.int IntKind.i64 z], Value.int IntKind.i64 256] [] (fun v K => v = Value.int IntKind.i64 0 ∧ K = []) := by
  refine hi_in 28 ([(0, .agg #[iV x, iV y, iV z]), (1, iV 256)] : Fr) Try.func52 (by kernel_rfl) Try.ntmps52 rfl rfl ?_
  intro g w0 R h0
  change WP _ _ (CA Try.f52 []) _ _ _
  refine zSq (by kernel_rfl) ?_
  refine zPl [0, 1] (by kernel_rfl) ?_
  refine plain_act (i := 0) (by kernel_rfl) ?_
  refine an_new (d := 2) (fun xb_ => pV xb_) (fun xb_ => Obj.cells [iV x, iV y, iV z].toArray 103 (0, 0)) (fun xb_ => by kernel_rfl) (by kernel_rfl) rfl h0 ?_
  intro r1 w2 (h3 : sat g w2 [Cl r1 [iV x, iV y, iV z] 103, R])
  refine zB0 [] [1] [(4, iV 0)] (by kernel_rfl) ?_
  refine PO.mk ?_
  change WP _ _ (CA Try.f52 [1]) _ _ _
  refine fk_cut ([(1, iV 256), (2, pV r1)] : Fr) (by kernel_rfl) (fun a => WP _ _ _ _ a _) (fun lr4 => ?_)
  refine zSq (by kernel_rfl) ?_
  refine zSq (by kernel_rfl) ?_
  refine zPl [0, 1, 2, 3, 4, 5, 6, 7, 8, 9, 10, 11, 12, 13, 14, 15, 16, 17, 18] (by kernel_rfl) ?_
  refine plain_law (i := 0) 5 (pV r1) (by kernel_rfl) (law_indexArr (o := opA (RA Try.f52 [1, 0, 0]) 0) (x := (Operand.tmp 2)) (i := (Operand.const (iV 0))) (b := r1) (off := 0) (z := 0) (by kernel_rfl) Try.underlying103 1 (by kernel_rfl) 0 (by kernel_rfl) (by kernel_rfl) (by omega) (by omega) 0 (by omega) _) ?_
  refine zBb [4, 5, 6, 7, 8, 9, 10, 11, 12, 13, 14, 15, 16, 17, 18] [(8, .bool false), (7, .bool false), (6, iV x)] [⟨1, [iV x], none⟩, ⟨2, [], some (.bool false)⟩, ⟨3, [], none⟩] [(1, ⟨r1, 0, none⟩, iV x)] [(.bool (decide (x < 1)), .bool false)] (by kernel_rfl) ⟨(ov_f (by omega)), trivial⟩ (AllC_cons (sat_cell h3 0 rfl rfl) (AllC_nil _)) ?_
  refine plain_law (i := 4) 9 (pV r1) (by kernel_rfl) (law_indexArr (o := opA (RA Try.f52 [1, 0, 0]) 4) (x := (Operand.tmp 2)) (i := (Operand.const (iV 0))) (b := r1) (off := 0) (z := 0) (by kernel_rfl) Try.underlying103 1 (by kernel_rfl) 0 (by kernel_rfl) (by kernel_rfl) (by omega) (by omega) 0 (by omega) _) ?_
  refine zBb [9, 10, 11, 12, 13, 14, 15, 16, 17, 18] [(13, .bool false), (12, .bool false), (11, .bool false), (10, iV x)] [⟨5, [iV x], none⟩, ⟨6, [], some (.bool false)⟩, ⟨7, [], none⟩, ⟨8, [], none⟩] [(5, ⟨r1, 0, none⟩, iV x)] [(.bool (decide (x > 3)), .bool false)] (by kernel_rfl) ⟨(ov_f (by omega)), trivial⟩ (AllC_cons (sat_cell h3 0 rfl rfl) (AllC_nil _)) ?_
  refine plain_law (i := 9) 14 (.pointer (some ⟨r1, 1, none⟩)) (by kernel_rfl) (law_indexArr (o := opA (RA Try.f52 [1, 0, 0]) 9) (x := (Operand.tmp 2)) (i := (Operand.const (iV 1))) (b := r1) (off := 0) (z := 1) (by kernel_rfl) Try.underlying103 1 (by kernel_rfl) 1 (by kernel_rfl) (by kernel_rfl) (by omega) (by omega) 1 (by omega) _) ?_
  refine zBb [14, 15, 16, 17, 18] [(18, .bool false), (17, .bool false), (16, .bool false), (15, iV y)] [⟨10, [iV y], none⟩, ⟨11, [], some (.bool false)⟩, ⟨12, [], none⟩, ⟨13, [], none⟩] [(10, ⟨r1, 1, none⟩, iV y)] [(.bool (decide (y < 0)), .bool false)] (by kernel_rfl) ⟨(ov_f (by omega)), trivial⟩ (AllC_cons (sat_cell h3 0 rfl rfl) (AllC_nil _)) ?_
  refine plain_law (i := 14) 19 (.pointer (some ⟨r1, 1, none⟩)) (by kernel_rfl) (law_indexArr (o := opA (RA Try.f52 [1, 0, 0]) 14) (x := (Operand.tmp 2)) (i := (Operand.const (iV 1))) (b := r1) (off := 0) (z := 1) (by kernel_rfl) Try.underlying103 1 (by kernel_rfl) 1 (by kernel_rfl) (by kernel_rfl) (by omega) (by omega) 1 (by omega) _) ?_
  refine zBb [] [(23, .bool false), (22, .bool false), (21, iV 256), (20, iV y)] [⟨15, [iV y], none⟩, ⟨16, [], none⟩, ⟨17, [], some (.bool false)⟩, ⟨18, [], none⟩] [(15, ⟨r1, 1, none⟩, iV y)] [(.bool (decide (y ≥ 256)), .bool false)] (by kernel_rfl) ⟨(ov_f (by omega)), trivial⟩ (AllC_cons (sat_cell h3 0 rfl rfl) (AllC_nil _)) ?_
  refine PO.mk ?_
  change WP _ _ (CA Try.f52 [1, 0, 1]) _ _ _
  refine fk_cut ([(2, pV r1), (23, .bool false)] : Fr) (by kernel_rfl) (fun a => WP _ _ _ _ a _) (fun lr5 => ?_)
  refine zCf (by kernel_rfl) ?_
  refine gi_skp (by kernel_rfl) ?_
  change WP _ _ (CA Try.f52 [1, 1]) _ _ _
  refine zSq (by kernel_rfl) ?_
  refine zPl [0, 1, 2, 3, 4] (by kernel_rfl) ?_
  refine plain_law (i := 0) 24 (.pointer (some ⟨r1, 2, none⟩)) (by kernel_rfl) (law_indexArr (o := opA (RA Try.f52 [1, 1, 0]) 0) (x := (Operand.tmp 2)) (i := (Operand.const (iV 2))) (b := r1) (off := 0) (z := 2) (by kernel_rfl) Try.underlying103 1 (by kernel_rfl) 2 (by kernel_rfl) (by kernel_rfl) (by omega) (by omega) 2 (by omega) _) ?_
  refine zBb [3, 4] [(26, uV z), (25, iV z)] [⟨1, [iV z], none⟩, ⟨2, [], some (uV z)⟩] [(1, ⟨r1, 2, none⟩, iV z)] [(uV (IntKind.wrap .u32 z), uV z)] (by kernel_rfl) ⟨(ov_u32 rfl (by omega) (by omega)), trivial⟩ (AllC_cons (sat_cell h3 0 rfl rfl) (AllC_nil _)) ?_
  refine plain_act (i := 3) (by kernel_rfl) ?_
  refine zCl 27 Try.call55 (gcheck_ok z (by omega) (by omega)) h3 (by kernel_rfl) ?_
  rintro v K w6 (⟨rfl, rfl⟩) h7
  refine ⟨_, rfl, ?_⟩
  have h8 : sat g w6 [Cl r1 [iV x, iV y, iV z] 103, R] := h7
  refine zB0 [] [4] [(4, iV 0)] (by kernel_rfl) ?_
  refine PO.mk ?_
  change WP _ _ (CA Try.f52 [1, 1, 1]) _ _ _
  refine fk_cut ([(4, iV 0)] : Fr) (by kernel_rfl) (fun a => WP _ _ _ _ a _) (fun lr9 => ?_)
  refine gi_rt (by kernel_rfl) ?_
  repeat (first | simp only [Exit.inBlock] | simp only [Exit.then])
  have h10 : sat g w6 [R] := sat_sel [1] rfl h8
  refine hi_out [] (iV 0) [] (by kernel_rfl) (by intro q hq; cases hq) ?_
  exact ⟨iV 0, [], rfl, ⟨rfl, rfl⟩, h10⟩

set_option maxHeartbeats 4000000 in
theorem cdesc_ok (x y z : Int) (hz0 : 0 ≤ z) (hz1 : z ≤ 4294967295) (ho : 1 ≤ x ∧ x ≤ 3 ∧ 0 ≤ y ∧ y ≤ 255 ∧ 1 ≤ z) : HT Try.prog 27 [Value.agg #[Value.int IntKind.i64 x, Value.int IntKind.i64 y, Value.int IntKind.u32 z]] [] (fun v K => v = Value.int IntKind.i64 0 ∧ K = []) := by
  refine hi_in 6 ([(0, .agg #[iV x, iV y, uV z])] : Fr) Try.func27 (by kernel_rfl) Try.ntmps27 rfl rfl ?_
  intro g w0 R h0
  change WP _ _ (CA Try.f27 []) _ _ _
  refine zSq (by kernel_rfl) ?_
  refine zPl [0, 1] (by kernel_rfl) ?_
  refine plain_act (i := 0) (by kernel_rfl) ?_
  refine an_new (d := 1) (fun xb_ => pV xb_) (fun xb_ => Obj.cells [iV x, iV y, uV z].toArray 28 (0, 0)) (fun xb_ => by kernel_rfl) (by kernel_rfl) rfl h0 ?_
  intro r1 w2 (h3 : sat g w2 [Cl r1 [iV x, iV y, uV z] 28, R])
  refine zB0 [] [1] [(2, iV 0)] (by kernel_rfl) ?_
  refine PO.mk ?_
  change WP _ _ (CA Try.f27 [1]) _ _ _
  refine fk_cut ([(1, pV r1)] : Fr) (by kernel_rfl) (fun a => WP _ _ _ _ a _) (fun lr4 => ?_)
  refine zSq (by kernel_rfl) ?_
  refine zPl [0, 1, 2, 3] (by kernel_rfl) ?_
  refine zBb [1, 2, 3] [(3, .agg #[iV x, iV y, uV z])] [⟨0, [iV x, iV y, uV z], none⟩] [(0, ⟨r1, 0, none⟩, iV x), (0, ⟨r1, 1, none⟩, iV y), (0, ⟨r1, 2, none⟩, uV z)] [] (by kernel_rfl) trivial (AllC_cons (sat_cell h3 0 rfl rfl) (AllC_cons (sat_cell h3 0 rfl rfl) (AllC_cons (sat_cell h3 0 rfl rfl) (AllC_nil _)))) ?_
  refine plain_act (i := 1) (by kernel_rfl) ?_
  refine zCl 4 Try.call51 (ofdesc_ht x y z (by omega) (by omega)) h3 (by kernel_rfl) ?_
  rintro v K w5 (⟨rfl, rfl⟩) h6
  refine ⟨_, rfl, ?_⟩
  have h7 : sat g w5 [Cl r1 [iV x, iV y, uV z] 28, R] := h6
  refine plain_act (i := 2) (by kernel_rfl) ?_
  refine zCl 5 Try.call52 (dcheckd_ok x y z (by omega) (by omega) (by omega)) h7 (by kernel_rfl) ?_
  rintro v K w8 (⟨rfl, rfl⟩) h9
  refine ⟨_, rfl, ?_⟩
  have h10 : sat g w8 [Cl r1 [iV x, iV y, uV z] 28, R] := h9
  refine zB0 [] [3] [(2, iV 0)] (by kernel_rfl) ?_
  refine PO.mk ?_
  change WP _ _ (CA Try.f27 [1, 1]) _ _ _
  refine fk_cut ([(2, iV 0)] : Fr) (by kernel_rfl) (fun a => WP _ _ _ _ a _) (fun lr11 => ?_)
  refine gi_rt (by kernel_rfl) ?_
  repeat (first | simp only [Exit.inBlock] | simp only [Exit.then])
  have h12 : sat g w8 [R] := sat_sel [1] rfl h10
  refine hi_out [] (iV 0) [] (by kernel_rfl) (by intro q hq; cases hq) ?_
  exact ⟨iV 0, [], rfl, ⟨rfl, rfl⟩, h12⟩

end Go.Proofs.Ytjjpmehiolejgaa
