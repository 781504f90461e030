/- Walks, printed by my generator gen17.py. -/
import Derived.Test.YtjjpmehiolejgaaF15
namespace Go.Proofs.Ytjjpmehiolejgaa
set_option maxHeartbeats 4000000 in
theorem tset_no (b n : Nat) (A : List Sl2) (E : Tm) (RL : List Rs) (vn x y z st why tr nx : Int) (L : List UInt8) (h : vn < 1 ∨ (RL.length : Int) < vn) : HT Try.prog 17 [Value.pointer (some ⟨b, 0, none⟩), Value.int IntKind.i64 vn, Value.agg #[Value.int IntKind.i64 x, Value.int IntKind.i64 y, Value.int IntKind.u32 z, Value.int IntKind.i64 st, Value.int IntKind.i64 why, Value.int IntKind.i64 tr, Value.int IntKind.i64 nx, Value.string (St L)]] [Tab b n A E RL] (fun v K => v = Value.int IntKind.i64 3 ∧ K = [Tab b n A E RL]) := by
  refine hi_in 62 ([(0, pV b), (1, iV vn), (2, .agg #[iV x, iV y, uV z, iV st, iV why, iV tr, iV nx, .string (St L)])] : Fr) Try.func17 (by kernel_rfl) Try.ntmps17 rfl rfl ?_
  intro g w0 R h0
  change WP _ _ (CA Try.f17 []) _ _ _
  refine zSq (by kernel_rfl) ?_
  refine zPl [0, 1] (by kernel_rfl) ?_
  refine plain_act (i := 0) (by kernel_rfl) ?_
  refine an_new (d := 5) (fun xb_ => pV xb_) (fun xb_ => Obj.cells [iV x, iV y, uV z, iV st, iV why, iV tr, iV nx, .string (St L)].toArray 42 (0, 0)) (fun xb_ => by kernel_rfl) (by kernel_rfl) rfl h0 ?_
  intro r1 w2 (h3 : sat g w2 [Cl r1 [iV x, iV y, uV z, iV st, iV why, iV tr, iV nx, .string (St L)] 42, Tab b n A E RL, R])
  refine zB0 [] [1] [(6, iV 0)] (by kernel_rfl) ?_
  refine PO.mk ?_
  change WP _ _ (CA Try.f17 [1]) _ _ _
  refine fk_cut ([(0, pV b), (1, iV vn), (5, pV r1)] : Fr) (by kernel_rfl) (fun a => WP _ _ _ _ a _) (fun lr4 => ?_)
  refine zSq (by kernel_rfl) ?_
  refine zPl [0, 1, 2, 3, 4, 5, 6, 7, 8] (by kernel_rfl) ?_
  refine zB0 [2, 3, 4, 5, 6, 7, 8] [0, 1] [(13, iV vn), (12, pV b)] (by kernel_rfl) ?_
  have h5 : sat g w2 [Tab b n A E RL, Cl r1 [iV x, iV y, uV z, iV st, iV why, iV tr, iV nx, .string (St L)] 42, R] := sat_sel [1, 0, 2] rfl h3
  refine plain_act (i := 2) (by kernel_rfl) ?_
  refine zCl 14 Try.call20 (tget_no b n A E RL vn (by omega)) h5 (by kernel_rfl) ?_
  rintro v K w6 (⟨rfl, rfl⟩) h7
  refine ⟨_, rfl, ?_⟩
  have h8 : sat g w6 [Tab b n A E RL, Cl r1 [iV x, iV y, uV z, iV st, iV why, iV tr, iV nx, .string (St L)] 42, R] := h7
  refine zB0 [6, 7, 8] [3, 4, 5] [(16, iV 3), (15, .agg #[iV 0, iV 0, uV 0, iV 0, iV 0, iV 0, iV 0, .string (St [])]), (11, .tuple #[.agg #[iV 0, iV 0, uV 0, iV 0, iV 0, iV 0, iV 0, .string (St [])], iV 3])] (by kernel_rfl) ?_
  refine plain_act (i := 6) (by kernel_rfl) ?_
  refine an_new (d := 7) (fun xb_ => pV xb_) (fun xb_ => Obj.cells [iV 0, iV 0, uV 0, iV 0, iV 0, iV 0, iV 0, .string (St [])].toArray 42 (0, 0)) (fun xb_ => by kernel_rfl) (by kernel_rfl) rfl h8 ?_
  intro r9 w10 (h11 : sat g w10 [Cl r9 [iV 0, iV 0, uV 0, iV 0, iV 0, iV 0, iV 0, .string (St [])] 42, Tab b n A E RL, Cl r1 [iV x, iV y, uV z, iV st, iV why, iV tr, iV nx, .string (St L)] 42, R])
  refine plain_act (i := 7) (by kernel_rfl) ?_
  refine an_store [(0, iV 0), (1, iV 0), (2, uV 0), (3, iV 0), (4, iV 0), (5, iV 0), (6, iV 0), (7, .string (St []))] (cs' := [iV 0, iV 0, uV 0, iV 0, iV 0, iV 0, iV 0, .string (St [])]) (by kernel_rfl) (by kernel_rfl) (allq ⟨⟨by simp, rfl⟩, ⟨by simp, rfl⟩, ⟨by simp, rfl⟩, ⟨by simp, rfl⟩, ⟨by simp, rfl⟩, ⟨by simp, rfl⟩, ⟨by simp, rfl⟩, ⟨by simp, rfl⟩, trivial⟩) rfl h11 ?_
  intro w12 (h13 : sat g w12 [Cl r9 [iV 0, iV 0, uV 0, iV 0, iV 0, iV 0, iV 0, .string (St [])] 42, Tab b n A E RL, Cl r1 [iV x, iV y, uV z, iV st, iV why, iV tr, iV nx, .string (St L)] 42, R])
  refine zB0 [] [8] [(8, iV 3)] (by kernel_rfl) ?_
  refine PO.mk ?_
  change WP _ _ (CA Try.f17 [1, 1]) _ _ _
  refine fk_cut ([(0, pV b), (1, iV vn), (5, pV r1), (7, pV r9), (8, iV 3)] : Fr) (by kernel_rfl) (fun a => WP _ _ _ _ a _) (fun lr14 => ?_)
  refine zSq (by kernel_rfl) ?_
  refine zSq (by kernel_rfl) ?_
  refine zPl [0, 1] (by kernel_rfl) ?_
  refine zB0 [] [0, 1] [(18, .bool true), (17, iV 3)] (by kernel_rfl) ?_
  refine PO.mk ?_
  change WP _ _ (CA Try.f17 [1, 1, 0, 1]) _ _ _
  refine fk_cut ([(0, pV b), (1, iV vn), (5, pV r1), (7, pV r9), (8, iV 3), (18, .bool true)] : Fr) (by kernel_rfl) (fun a => WP _ _ _ _ a _) (fun lr15 => ?_)
  refine zCt (by kernel_rfl) ?_
  refine zSq (by kernel_rfl) ?_
  refine zPl [0, 1] (by kernel_rfl) ?_
  refine zB0 [] [0, 1] [(6, iV 3), (19, iV 3)] (by kernel_rfl) ?_
  refine PO.mk ?_
  change WP _ _ (CA Try.f17 [1, 1, 0, 1, 0, 1]) _ _ _
  refine fk_cut ([(6, iV 3)] : Fr) (by kernel_rfl) (fun a => WP _ _ _ _ a _) (fun lr16 => ?_)
  refine gi_rt (by kernel_rfl) ?_
  repeat (first | simp only [Exit.inBlock] | simp only [Exit.then])
  have h17 : sat g w12 [Tab b n A E RL, Cl r9 [iV 0, iV 0, uV 0, iV 0, iV 0, iV 0, iV 0, .string (St [])] 42, Cl r1 [iV x, iV y, uV z, iV st, iV why, iV tr, iV nx, .string (St L)] 42, R] := sat_sel [1, 0, 2, 3] rfl h13
  have h18 : sat g w12 [Tab b n A E RL, R] := sat_sel [0, 3] rfl h17
  refine hi_out [] (iV 3) [] (by kernel_rfl) (by intro q hq; cases hq) ?_
  exact ⟨iV 3, [Tab b n A E RL], rfl, ⟨rfl, rfl⟩, h18⟩

set_option maxHeartbeats 4000000 in
theorem tset_chk (b n : Nat) (A : List Sl2) (E : Tm) (RL : List Rs) (vn x y z st why tr nx : Int) (L : List UInt8) (hz0 : 0 ≤ z) (hz1 : z ≤ 4294967295) (hm : L.length ≤ 1099511627776) (q : Nat) (r : Rs) (hr : RL[q]? = some r) (hv : vn = (q : Int) + 1) (hne : ¬ resE x y z st why tr nx L = 0) : HT Try.prog 17 [Value.pointer (some ⟨b, 0, none⟩), Value.int IntKind.i64 vn, Value.agg #[Value.int IntKind.i64 x, Value.int IntKind.i64 y, Value.int IntKind.u32 z, Value.int IntKind.i64 st, Value.int IntKind.i64 why, Value.int IntKind.i64 tr, Value.int IntKind.i64 nx, Value.string (St L)]] [Tab b n A E RL] (fun v K => v = Value.int IntKind.i64 ((resE x y z st why tr nx L)) ∧ K = [Tab b n A E RL]) := by
  have hq_ := (List.getElem?_eq_some_iff.1 hr).1
  refine hi_in 62 ([(0, pV b), (1, iV vn), (2, .agg #[iV x, iV y, uV z, iV st, iV why, iV tr, iV nx, .string (St L)])] : Fr) Try.func17 (by kernel_rfl) Try.ntmps17 rfl rfl ?_
  intro g w0 R h0
  change WP _ _ (CA Try.f17 []) _ _ _
  refine zSq (by kernel_rfl) ?_
  refine zPl [0, 1] (by kernel_rfl) ?_
  refine plain_act (i := 0) (by kernel_rfl) ?_
  refine an_new (d := 5) (fun xb_ => pV xb_) (fun xb_ => Obj.cells [iV x, iV y, uV z, iV st, iV why, iV tr, iV nx, .string (St L)].toArray 42 (0, 0)) (fun xb_ => by kernel_rfl) (by kernel_rfl) rfl h0 ?_
  intro r1 w2 (h3 : sat g w2 [Cl r1 [iV x, iV y, uV z, iV st, iV why, iV tr, iV nx, .string (St L)] 42, Tab b n A E RL, R])
  refine zB0 [] [1] [(6, iV 0)] (by kernel_rfl) ?_
  refine PO.mk ?_
  change WP _ _ (CA Try.f17 [1]) _ _ _
  refine fk_cut ([(0, pV b), (1, iV vn), (5, pV r1)] : Fr) (by kernel_rfl) (fun a => WP _ _ _ _ a _) (fun lr4 => ?_)
  refine zSq (by kernel_rfl) ?_
  refine zPl [0, 1, 2, 3, 4, 5, 6, 7, 8] (by kernel_rfl) ?_
  refine zB0 [2, 3, 4, 5, 6, 7, 8] [0, 1] [(13, iV vn), (12, pV b)] (by kernel_rfl) ?_
  have h5 : sat g w2 [Tab b n A E RL, Cl r1 [iV x, iV y, uV z, iV st, iV why, iV tr, iV nx, .string (St L)] 42, R] := sat_sel [1, 0, 2] rfl h3
  refine plain_act (i := 2) (by kernel_rfl) ?_
  refine zCl 14 Try.call20 (tget_ok b n A E RL vn q r hr (by omega)) h5 (by kernel_rfl) ?_
  rintro v K w6 (⟨rfl, rfl⟩) h7
  refine ⟨_, rfl, ?_⟩
  have h8 : sat g w6 [Tab b n A E RL, Cl r1 [iV x, iV y, uV z, iV st, iV why, iV tr, iV nx, .string (St L)] 42, R] := h7
  refine zB0 [6, 7, 8] [3, 4, 5] [(16, iV 0), (15, .agg #[iV r.out.1, iV r.out.2.1, uV r.out.2.2, iV r.st, iV r.why, iV r.tr, iV r.nx, .string (St r.tag)]), (11, .tuple #[.agg #[iV r.out.1, iV r.out.2.1, uV r.out.2.2, iV r.st, iV r.why, iV r.tr, iV r.nx, .string (St r.tag)], iV 0])] (by kernel_rfl) ?_
  refine plain_act (i := 6) (by kernel_rfl) ?_
  refine an_new (d := 7) (fun xb_ => pV xb_) (fun xb_ => Obj.cells [iV 0, iV 0, uV 0, iV 0, iV 0, iV 0, iV 0, .string (St [])].toArray 42 (0, 0)) (fun xb_ => by kernel_rfl) (by kernel_rfl) rfl h8 ?_
  intro r9 w10 (h11 : sat g w10 [Cl r9 [iV 0, iV 0, uV 0, iV 0, iV 0, iV 0, iV 0, .string (St [])] 42, Tab b n A E RL, Cl r1 [iV x, iV y, uV z, iV st, iV why, iV tr, iV nx, .string (St L)] 42, R])
  refine plain_act (i := 7) (by kernel_rfl) ?_
  refine an_store [(0, iV r.out.1), (1, iV r.out.2.1), (2, uV r.out.2.2), (3, iV r.st), (4, iV r.why), (5, iV r.tr), (6, iV r.nx), (7, .string (St r.tag))] (cs' := [iV r.out.1, iV r.out.2.1, uV r.out.2.2, iV r.st, iV r.why, iV r.tr, iV r.nx, .string (St r.tag)]) (by kernel_rfl) (by kernel_rfl) (allq ⟨⟨by simp, rfl⟩, ⟨by simp, rfl⟩, ⟨by simp, rfl⟩, ⟨by simp, rfl⟩, ⟨by simp, rfl⟩, ⟨by simp, rfl⟩, ⟨by simp, rfl⟩, ⟨by simp, rfl⟩, trivial⟩) rfl h11 ?_
  intro w12 (h13 : sat g w12 [Cl r9 [iV r.out.1, iV r.out.2.1, uV r.out.2.2, iV r.st, iV r.why, iV r.tr, iV r.nx, .string (St r.tag)] 42, Tab b n A E RL, Cl r1 [iV x, iV y, uV z, iV st, iV why, iV tr, iV nx, .string (St L)] 42, R])
  refine zB0 [] [8] [(8, iV 0)] (by kernel_rfl) ?_
  refine PO.mk ?_
  change WP _ _ (CA Try.f17 [1, 1]) _ _ _
  refine fk_cut ([(0, pV b), (1, iV vn), (5, pV r1), (7, pV r9), (8, iV 0)] : Fr) (by kernel_rfl) (fun a => WP _ _ _ _ a _) (fun lr14 => ?_)
  refine zSq (by kernel_rfl) ?_
  refine zSq (by kernel_rfl) ?_
  refine zPl [0, 1] (by kernel_rfl) ?_
  refine zB0 [] [0, 1] [(18, .bool false), (17, iV 0)] (by kernel_rfl) ?_
  refine PO.mk ?_
  change WP _ _ (CA Try.f17 [1, 1, 0, 1]) _ _ _
  refine fk_cut ([(0, pV b), (1, iV vn), (5, pV r1), (7, pV r9), (8, iV 0), (18, .bool false)] : Fr) (by kernel_rfl) (fun a => WP _ _ _ _ a _) (fun lr15 => ?_)
  refine zCf (by kernel_rfl) ?_
  refine gi_skp (by kernel_rfl) ?_
  change WP _ _ (CA Try.f17 [1, 1, 1]) _ _ _
  refine zSq (by kernel_rfl) ?_
  refine zSq (by kernel_rfl) ?_
  refine zPl [0, 1, 2] (by kernel_rfl) ?_
  refine zBb [1, 2] [(20, .agg #[iV x, iV y, uV z, iV st, iV why, iV tr, iV nx, .string (St L)])] [⟨0, [iV x, iV y, uV z, iV st, iV why, iV tr, iV nx, .string (St L)], none⟩] [(0, ⟨r1, 0, none⟩, iV x), (0, ⟨r1, 1, none⟩, iV y), (0, ⟨r1, 2, none⟩, uV z), (0, ⟨r1, 3, none⟩, iV st), (0, ⟨r1, 4, none⟩, iV why), (0, ⟨r1, 5, none⟩, iV tr), (0, ⟨r1, 6, none⟩, iV nx), (0, ⟨r1, 7, none⟩, .string (St L))] [] (by kernel_rfl) trivial (AllC_cons (sat_cell h13 2 rfl rfl) (AllC_cons (sat_cell h13 2 rfl rfl) (AllC_cons (sat_cell h13 2 rfl rfl) (AllC_cons (sat_cell h13 2 rfl rfl) (AllC_cons (sat_cell h13 2 rfl rfl) (AllC_cons (sat_cell h13 2 rfl rfl) (AllC_cons (sat_cell h13 2 rfl rfl) (AllC_cons (sat_cell h13 2 rfl rfl) (AllC_nil _))))))))) ?_
  refine plain_act (i := 1) (by kernel_rfl) ?_
  refine zCl 21 Try.call23 (rchk_ht x y z st why tr nx L (by omega) (by omega) (by omega)) h13 (by kernel_rfl) ?_
  rintro v K w16 (⟨rfl, rfl⟩) h17
  refine ⟨_, rfl, ?_⟩
  have h18 : sat g w16 [Cl r9 [iV r.out.1, iV r.out.2.1, uV r.out.2.2, iV r.st, iV r.why, iV r.tr, iV r.nx, .string (St r.tag)] 42, Tab b n A E RL, Cl r1 [iV x, iV y, uV z, iV st, iV why, iV tr, iV nx, .string (St L)] 42, R] := h17
  refine zB0 [] [2] [(9, iV ((resE x y z st why tr nx L)))] (by kernel_rfl) ?_
  refine PO.mk ?_
  change WP _ _ (CA Try.f17 [1, 1, 1, 0, 1]) _ _ _
  refine fk_cut ([(0, pV b), (1, iV vn), (5, pV r1), (7, pV r9), (9, iV ((resE x y z st why tr nx L)))] : Fr) (by kernel_rfl) (fun a => WP _ _ _ _ a _) (fun lr19 => ?_)
  refine zSq (by kernel_rfl) ?_
  refine zPl [0, 1] (by kernel_rfl) ?_
  refine zBb [] [(23, .bool true), (22, iV ((resE x y z st why tr nx L)))] [⟨0, [], none⟩, ⟨1, [], some (.bool true)⟩] [] [(.bool (((resE x y z st why tr nx L)) != 0), .bool true)] (by kernel_rfl) ⟨(ov_nt (by omega)), trivial⟩ (AllC_nil _) ?_
  refine PO.mk ?_
  change WP _ _ (CA Try.f17 [1, 1, 1, 0, 1, 1]) _ _ _
  refine fk_cut ([(0, pV b), (1, iV vn), (5, pV r1), (7, pV r9), (9, iV ((resE x y z st why tr nx L))), (23, .bool true)] : Fr) (by kernel_rfl) (fun a => WP _ _ _ _ a _) (fun lr20 => ?_)
  refine zCt (by kernel_rfl) ?_
  refine zSq (by kernel_rfl) ?_
  refine zPl [0, 1] (by kernel_rfl) ?_
  refine zB0 [] [0, 1] [(6, iV ((resE x y z st why tr nx L))), (24, iV ((resE x y z st why tr nx L)))] (by kernel_rfl) ?_
  refine PO.mk ?_
  change WP _ _ (CA Try.f17 [1, 1, 1, 0, 1, 1, 0, 1]) _ _ _
  refine fk_cut ([(6, iV ((resE x y z st why tr nx L)))] : Fr) (by kernel_rfl) (fun a => WP _ _ _ _ a _) (fun lr21 => ?_)
  refine gi_rt (by kernel_rfl) ?_
  repeat (first | simp only [Exit.inBlock] | simp only [Exit.then])
  have h22 : sat g w16 [Tab b n A E RL, Cl r9 [iV r.out.1, iV r.out.2.1, uV r.out.2.2, iV r.st, iV r.why, iV r.tr, iV r.nx, .string (St r.tag)] 42, Cl r1 [iV x, iV y, uV z, iV st, iV why, iV tr, iV nx, .string (St L)] 42, R] := sat_sel [1, 0, 2, 3] rfl h18
  have h23 : sat g w16 [Tab b n A E RL, R] := sat_sel [0, 3] rfl h22
  refine hi_out [] (iV ((resE x y z st why tr nx L))) [] (by kernel_rfl) (by intro q hq; cases hq) ?_
  exact ⟨iV ((resE x y z st why tr nx L)), [Tab b n A E RL], rfl, ⟨rfl, rfl⟩, h23⟩

end Go.Proofs.Ytjjpmehiolejgaa
