/- Walks, printed by my generator gen16.py. -/
import Derived.Test.YtjjpmehiolejgaaF15
namespace Go.Proofs.Ytjjpmehiolejgaa
set_option maxHeartbeats 4000000 in
theorem topen_have (b n : Nat) (A : List Sl2) (E : Tm) (RL : List Rs) (x y z hx hy : Int) (L : List UInt8) (hz0 : 0 ≤ z) (hz1 : z ≤ 4294967295) (hm : L.length ≤ 1099511627776) (ho : 1 ≤ x ∧ x ≤ 3 ∧ 0 ≤ y ∧ y ≤ 63 ∧ 1 ≤ z) (ht : tagE L = 0) (hob : 0 ≤ hx ∧ hx ≤ 255 ∧ 1 ≤ hy) (hc : ∀ r ∈ RL, r.out ≠ (x, y, z)) (hh : ∃ e ∈ allE E, e.h = (hx, hy)) : HT Try.prog 12 [Value.pointer (some ⟨b, 0, none⟩), Value.agg #[Value.int IntKind.i64 x, Value.int IntKind.i64 y, Value.int IntKind.u32 z], Value.string (St L), Value.agg #[Value.int IntKind.i64 hx, Value.int IntKind.u32 hy]] [Tab b n A E RL] (fun v K => v = Value.tuple #[Value.agg #[Value.int IntKind.i64 0, Value.int IntKind.i64 0, Value.int IntKind.u32 0], Value.int IntKind.i64 6] ∧ K = [Tab b n A E RL]) := by
  refine hi_in 80 ([(0, pV b), (1, .agg #[iV x, iV y, uV z]), (2, .string (St L)), (3, .agg #[iV hx, uV hy])] : Fr) Try.func12 (by kernel_rfl) Try.ntmps12 rfl rfl ?_
  intro g w0 R h0
  change WP _ _ (CA Try.f12 []) _ _ _
  refine zSq (by kernel_rfl) ?_
  refine zPl [0, 1, 2, 3] (by kernel_rfl) ?_
  refine plain_act (i := 0) (by kernel_rfl) ?_
  refine an_new (d := 5) (fun xb_ => pV xb_) (fun xb_ => Obj.cells [iV x, iV y, uV z].toArray 32 (0, 0)) (fun xb_ => by kernel_rfl) (by kernel_rfl) rfl h0 ?_
  intro r1 w2 (h3 : sat g w2 [Cl r1 [iV x, iV y, uV z] 32, Tab b n A E RL, R])
  refine plain_act (i := 1) (by kernel_rfl) ?_
  refine an_new (d := 7) (fun xb_ => pV xb_) (fun xb_ => Obj.cells [iV hx, uV hy].toArray 34 (0, 0)) (fun xb_ => by kernel_rfl) (by kernel_rfl) rfl h3 ?_
  intro r4 w5 (h6 : sat g w5 [Cl r4 [iV hx, uV hy] 34, Cl r1 [iV x, iV y, uV z] 32, Tab b n A E RL, R])
  refine plain_act (i := 2) (by kernel_rfl) ?_
  refine an_new (d := 8) (fun xb_ => pV xb_) (fun xb_ => Obj.cells [iV 0, iV 0, uV 0].toArray 28 (0, 0)) (fun xb_ => by kernel_rfl) (by kernel_rfl) rfl h6 ?_
  intro r7 w8 (h9 : sat g w8 [Cl r7 [iV 0, iV 0, uV 0] 28, Cl r4 [iV hx, uV hy] 34, Cl r1 [iV x, iV y, uV z] 32, Tab b n A E RL, R])
  refine zB0 [] [3] [(9, iV 0)] (by kernel_rfl) ?_
  refine PO.mk ?_
  change WP _ _ (CA Try.f12 [1]) _ _ _
  refine fk_cut ([(0, pV b), (2, .string (St L)), (5, pV r1), (7, pV r4), (8, pV r7)] : Fr) (by kernel_rfl) (fun a => WP _ _ _ _ a _) (fun lr10 => ?_)
  refine zSq (by kernel_rfl) ?_
  refine zSq (by kernel_rfl) ?_
  refine zPl [0, 1, 2] (by kernel_rfl) ?_
  refine zB0 [1, 2] [0] [(12, pV b)] (by kernel_rfl) ?_
  have h11 : sat g w8 [Tab b n A E RL, Cl r7 [iV 0, iV 0, uV 0] 28, Cl r4 [iV hx, uV hy] 34, Cl r1 [iV x, iV y, uV z] 32, R] := sat_sel [3, 0, 1, 2, 4] rfl h9
  refine plain_act (i := 1) (by kernel_rfl) ?_
  refine zCl 13 Try.call36 (tvalid_ht b n A E RL) h11 (by kernel_rfl) ?_
  rintro v K w12 (⟨rfl, rfl⟩) h13
  refine ⟨_, rfl, ?_⟩
  have h14 : sat g w12 [Tab b n A E RL, Cl r7 [iV 0, iV 0, uV 0] 28, Cl r4 [iV hx, uV hy] 34, Cl r1 [iV x, iV y, uV z] 32, R] := h13
  refine zB0 [] [2] [(14, .bool false)] (by kernel_rfl) ?_
  refine PO.mk ?_
  change WP _ _ (CA Try.f12 [1, 0, 1]) _ _ _
  refine fk_cut ([(0, pV b), (2, .string (St L)), (5, pV r1), (7, pV r4), (8, pV r7), (14, .bool false)] : Fr) (by kernel_rfl) (fun a => WP _ _ _ _ a _) (fun lr15 => ?_)
  refine zCf (by kernel_rfl) ?_
  refine gi_skp (by kernel_rfl) ?_
  change WP _ _ (CA Try.f12 [1, 1]) _ _ _
  refine zSq (by kernel_rfl) ?_
  refine zPl [0, 1, 2, 3, 4, 5, 6, 7, 8] (by kernel_rfl) ?_
  refine zBb [2, 3, 4, 5, 6, 7, 8] [(18, .string (St L)), (17, .agg #[iV x, iV y, uV z])] [⟨0, [iV x, iV y, uV z], none⟩, ⟨1, [], none⟩] [(0, ⟨r1, 0, none⟩, iV x), (0, ⟨r1, 1, none⟩, iV y), (0, ⟨r1, 2, none⟩, uV z)] [] (by kernel_rfl) trivial (AllC_cons (sat_cell h14 3 rfl rfl) (AllC_cons (sat_cell h14 3 rfl rfl) (AllC_cons (sat_cell h14 3 rfl rfl) (AllC_nil _)))) ?_
  refine plain_act (i := 2) (by kernel_rfl) ?_
  refine zCl 19 Try.call37 (rnew_ok x y z L (by omega) (by omega) (by omega) (by omega) (by omega)) h14 (by kernel_rfl) ?_
  rintro v K w16 (⟨rfl, rfl⟩) h17
  refine ⟨_, rfl, ?_⟩
  have h18 : sat g w16 [Tab b n A E RL, Cl r7 [iV 0, iV 0, uV 0] 28, Cl r4 [iV hx, uV hy] 34, Cl r1 [iV x, iV y, uV z] 32, R] := h17
  refine zB0 [6, 7, 8] [3, 4, 5] [(21, iV 0), (20, .agg #[iV x, iV y, uV z, iV 1, iV 0, iV 0, iV 0, .string (St L)]), (16, .tuple #[.agg #[iV x, iV y, uV z, iV 1, iV 0, iV 0, iV 0, .string (St L)], iV 0])] (by kernel_rfl) ?_
  refine plain_act (i := 6) (by kernel_rfl) ?_
  refine an_new (d := 10) (fun xb_ => pV xb_) (fun xb_ => Obj.cells [iV 0, iV 0, uV 0, iV 0, iV 0, iV 0, iV 0, .string (St [])].toArray 42 (0, 0)) (fun xb_ => by kernel_rfl) (by kernel_rfl) rfl h18 ?_
  intro r19 w20 (h21 : sat g w20 [Cl r19 [iV 0, iV 0, uV 0, iV 0, iV 0, iV 0, iV 0, .string (St [])] 42, Tab b n A E RL, Cl r7 [iV 0, iV 0, uV 0] 28, Cl r4 [iV hx, uV hy] 34, Cl r1 [iV x, iV y, uV z] 32, R])
  refine plain_act (i := 7) (by kernel_rfl) ?_
  refine an_store [(0, iV x), (1, iV y), (2, uV z), (3, iV 1), (4, iV 0), (5, iV 0), (6, iV 0), (7, .string (St L))] (cs' := [iV x, iV y, uV z, iV 1, iV 0, iV 0, iV 0, .string (St L)]) (by kernel_rfl) (by kernel_rfl) (allq ⟨⟨by simp, rfl⟩, ⟨by simp, rfl⟩, ⟨by simp, rfl⟩, ⟨by simp, rfl⟩, ⟨by simp, rfl⟩, ⟨by simp, rfl⟩, ⟨by simp, rfl⟩, ⟨by simp, rfl⟩, trivial⟩) rfl h21 ?_
  intro w22 (h23 : sat g w22 [Cl r19 [iV x, iV y, uV z, iV 1, iV 0, iV 0, iV 0, .string (St L)] 42, Tab b n A E RL, Cl r7 [iV 0, iV 0, uV 0] 28, Cl r4 [iV hx, uV hy] 34, Cl r1 [iV x, iV y, uV z] 32, R])
  refine zB0 [] [8] [(11, iV 0)] (by kernel_rfl) ?_
  refine PO.mk ?_
  change WP _ _ (CA Try.f12 [1, 1, 1]) _ _ _
  refine fk_cut ([(0, pV b), (5, pV r1), (7, pV r4), (8, pV r7), (10, pV r19), (11, iV 0)] : Fr) (by kernel_rfl) (fun a => WP _ _ _ _ a _) (fun lr24 => ?_)
  refine zSq (by kernel_rfl) ?_
  refine zSq (by kernel_rfl) ?_
  refine zPl [0, 1] (by kernel_rfl) ?_
  refine zB0 [] [0, 1] [(23, .bool false), (22, iV 0)] (by kernel_rfl) ?_
  refine PO.mk ?_
  change WP _ _ (CA Try.f12 [1, 1, 1, 0, 1]) _ _ _
  refine fk_cut ([(0, pV b), (5, pV r1), (7, pV r4), (8, pV r7), (10, pV r19), (11, iV 0), (23, .bool false)] : Fr) (by kernel_rfl) (fun a => WP _ _ _ _ a _) (fun lr25 => ?_)
  refine zCf (by kernel_rfl) ?_
  refine gi_skp (by kernel_rfl) ?_
  change WP _ _ (CA Try.f12 [1, 1, 1, 1]) _ _ _
  refine zSq (by kernel_rfl) ?_
  refine gi_blk (id := 0) (x := CA Try.f12 [1, 1, 1, 1, 0, 0]) (by kernel_rfl) ?_
  refine zSq (by kernel_rfl) ?_
  refine zPl [0, 1, 2, 3] (by kernel_rfl) ?_
  refine zBb [1, 2, 3] [(27, .agg #[iV hx, uV hy])] [⟨0, [iV hx, uV hy], none⟩] [(0, ⟨r4, 0, none⟩, iV hx), (0, ⟨r4, 1, none⟩, uV hy)] [] (by kernel_rfl) trivial (AllC_cons (sat_cell h23 3 rfl rfl) (AllC_cons (sat_cell h23 3 rfl rfl) (AllC_nil _))) ?_
  refine plain_act (i := 1) (by kernel_rfl) ?_
  refine zCl 28 Try.call38 (obj_t hx hy (by omega)) h23 (by kernel_rfl) ?_
  rintro v K w26 (⟨rfl, rfl⟩) h27
  refine ⟨_, rfl, ?_⟩
  have h28 : sat g w26 [Cl r19 [iV x, iV y, uV z, iV 1, iV 0, iV 0, iV 0, .string (St L)] 42, Tab b n A E RL, Cl r7 [iV 0, iV 0, uV 0] 28, Cl r4 [iV hx, uV hy] 34, Cl r1 [iV x, iV y, uV z] 32, R] := h27
  refine zB0 [] [2, 3] [(26, .bool false), (29, .bool false)] (by kernel_rfl) ?_
  refine PO.mk ?_
  change WP _ _ (CA Try.f12 [1, 1, 1, 1, 0, 0, 1]) _ _ _
  refine fk_cut ([(0, pV b), (5, pV r1), (7, pV r4), (8, pV r7), (10, pV r19), (26, .bool false)] : Fr) (by kernel_rfl) (fun a => WP _ _ _ _ a _) (fun lr29 => ?_)
  refine zCf (by kernel_rfl) ?_
  refine zSq (by kernel_rfl) ?_
  refine zPl [0, 1, 2, 3, 4, 5, 6, 7, 8, 9, 10, 11] (by kernel_rfl) ?_
  have h30 : sat g w26 [Tab b n A E RL, Cl r19 [iV x, iV y, uV z, iV 1, iV 0, iV 0, iV 0, .string (St L)] 42, Cl r7 [iV 0, iV 0, uV 0] 28, Cl r4 [iV hx, uV hy] 34, Cl r1 [iV x, iV y, uV z] 32, R] := sat_sel [1, 0, 2, 3, 4, 5] rfl h28
  obtain ⟨s31, m32, p33, c34, E35, hM36, h37⟩ := tab_open h30
  have hRl_ := hM36.2
  refine zBb [5, 6, 7, 8, 9, 10, 11] [(36, .func (Fn.func 40) #[] #[pV r1]), (35, .slice p33 RL.length c34), (34, .pointer (some ⟨b, 2, none⟩)), (33, pV b), (32, pV b)] [⟨0, [], none⟩, ⟨1, [], none⟩, ⟨2, [], none⟩, ⟨3, [.slice p33 RL.length c34], none⟩, ⟨4, [], none⟩] [(3, ⟨b, 2, none⟩, .slice p33 RL.length c34)] [] (by kernel_rfl) trivial (AllC_cons (sat_cell h37 0 rfl rfl) (AllC_nil _)) ?_
  have h38 : sat g w26 [Sl 42 8 p33 RL.length c34 (fl eRs RL), Cl r1 [iV x, iV y, uV z] 32, Cl b [pV s31, .map (some m32), .slice p33 RL.length c34] 76, Tb s31 n A, Gp kI vE m32 E35, Cl r19 [iV x, iV y, uV z, iV 1, iV 0, iV 0, iV 0, .string (St L)] 42, Cl r7 [iV 0, iV 0, uV 0] 28, Cl r4 [iV hx, uV hy] 34, R] := sat_sel [3, 7, 0, 1, 2, 4, 5, 6, 8] rfl h37
  refine plain_act (i := 5) (by kernel_rfl) ?_
  refine zCl 37 Try.call39 (rhas_f p33 RL.length c34 r1 RL x y z hc (by omega)) h38 (by kernel_rfl) ?_
  rintro v K w39 (⟨rfl, rfl⟩) h40
  refine ⟨_, rfl, ?_⟩
  have h41 : sat g w39 [Sl 42 8 p33 RL.length c34 (fl eRs RL), Cl r1 [iV x, iV y, uV z] 32, Cl b [pV s31, .map (some m32), .slice p33 RL.length c34] 76, Tb s31 n A, Gp kI vE m32 E35, Cl r19 [iV x, iV y, uV z, iV 1, iV 0, iV 0, iV 0, .string (St L)] 42, Cl r7 [iV 0, iV 0, uV 0] 28, Cl r4 [iV hx, uV hy] 34, R] := h40
  refine zBb [9, 10, 11] [(40, .agg #[iV hx, uV hy]), (39, pV b), (38, .bool false)] [⟨6, [], none⟩, ⟨7, [], none⟩, ⟨8, [iV hx, uV hy], none⟩] [(8, ⟨r4, 0, none⟩, iV hx), (8, ⟨r4, 1, none⟩, uV hy)] [] (by kernel_rfl) trivial (AllC_cons (sat_cell h41 7 rfl rfl) (AllC_cons (sat_cell h41 7 rfl rfl) (AllC_nil _))) ?_
  have h42 : sat g w39 [Cl b [pV s31, .map (some m32), .slice p33 RL.length c34] 76, Tb s31 n A, Gp kI vE m32 E35, Sl 42 8 p33 RL.length c34 (fl eRs RL), Cl r1 [iV x, iV y, uV z] 32, Cl r19 [iV x, iV y, uV z, iV 1, iV 0, iV 0, iV 0, .string (St L)] 42, Cl r7 [iV 0, iV 0, uV 0] 28, Cl r4 [iV hx, uV hy] 34, R] := sat_sel [2, 3, 4, 0, 1, 5, 6, 7, 8] rfl h41
  have h43 : sat g w39 [Tab b n A E RL, Cl r1 [iV x, iV y, uV z] 32, Cl r19 [iV x, iV y, uV z, iV 1, iV 0, iV 0, iV 0, .string (St L)] 42, Cl r7 [iV 0, iV 0, uV 0] 28, Cl r4 [iV hx, uV hy] 34, R] := tab_close hM36.1 (by omega) (by first | rfl | omega) h42
  refine plain_act (i := 9) (by kernel_rfl) ?_
  refine zCl 41 Try.call41 (thas_t b n A E RL hx hy hh) h43 (by kernel_rfl) ?_
  rintro v K w44 (⟨rfl, rfl⟩) h45
  refine ⟨_, rfl, ?_⟩
  have h46 : sat g w44 [Tab b n A E RL, Cl r1 [iV x, iV y, uV z] 32, Cl r19 [iV x, iV y, uV z, iV 1, iV 0, iV 0, iV 0, .string (St L)] 42, Cl r7 [iV 0, iV 0, uV 0] 28, Cl r4 [iV hx, uV hy] 34, R] := h45
  refine zB0 [] [10, 11] [(31, .bool true), (42, .bool true)] (by kernel_rfl) ?_
  refine PO.mk ?_
  change WP _ _ (CA Try.f12 [1, 1, 1, 1, 0, 0, 1, 1, 1]) _ _ _
  refine fk_cut ([(0, pV b), (7, pV r4), (8, pV r7), (10, pV r19), (31, .bool true)] : Fr) (by kernel_rfl) (fun a => WP _ _ _ _ a _) (fun lr47 => ?_)
  refine zCt (by kernel_rfl) ?_
  refine zSq (by kernel_rfl) ?_
  refine zPl [0, 1, 2] (by kernel_rfl) ?_
  refine zB0 [1, 2] [0] [(43, .agg #[iV 0, iV 0, uV 0])] (by kernel_rfl) ?_
  have h48 : sat g w44 [Cl r7 [iV 0, iV 0, uV 0] 28, Tab b n A E RL, Cl r1 [iV x, iV y, uV z] 32, Cl r19 [iV x, iV y, uV z, iV 1, iV 0, iV 0, iV 0, .string (St L)] 42, Cl r4 [iV hx, uV hy] 34, R] := sat_sel [3, 0, 1, 2, 4, 5] rfl h46
  refine plain_act (i := 1) (by kernel_rfl) ?_
  refine an_store [(0, iV 0), (1, iV 0), (2, uV 0)] (cs' := [iV 0, iV 0, uV 0]) (by kernel_rfl) (by kernel_rfl) (allq ⟨⟨by simp, rfl⟩, ⟨by simp, rfl⟩, ⟨by simp, rfl⟩, trivial⟩) rfl h48 ?_
  intro w49 (h50 : sat g w49 [Cl r7 [iV 0, iV 0, uV 0] 28, Tab b n A E RL, Cl r1 [iV x, iV y, uV z] 32, Cl r19 [iV x, iV y, uV z, iV 1, iV 0, iV 0, iV 0, .string (St L)] 42, Cl r4 [iV hx, uV hy] 34, R])
  refine zB0 [] [2] [(9, iV 6)] (by kernel_rfl) ?_
  refine PO.mk ?_
  change WP _ _ (CA Try.f12 [1, 1, 1, 1, 0, 0, 1, 1, 1, 0, 1]) _ _ _
  refine fk_cut ([(8, pV r7), (9, iV 6)] : Fr) (by kernel_rfl) (fun a => WP _ _ _ _ a _) (fun lr51 => ?_)
  refine gi_rt (by kernel_rfl) ?_
  repeat (first | simp only [Exit.inBlock] | simp only [Exit.then])
  have h52 : sat g w49 [Tab b n A E RL, Cl r7 [iV 0, iV 0, uV 0] 28, Cl r1 [iV x, iV y, uV z] 32, Cl r19 [iV x, iV y, uV z, iV 1, iV 0, iV 0, iV 0, .string (St L)] 42, Cl r4 [iV hx, uV hy] 34, R] := sat_sel [1, 0, 2, 3, 4, 5] rfl h50
  have h53 : sat g w49 [Tab b n A E RL, R] := sat_sel [0, 5] rfl h52
  refine hi_out [iV 0, iV 0, uV 0] (.tuple #[.agg #[iV 0, iV 0, uV 0], iV 6]) [(⟨r7, 0, none⟩, iV 0), (⟨r7, 1, none⟩, iV 0), (⟨r7, 2, none⟩, uV 0)] (by kernel_rfl) (allq ⟨sat_cell h50 0 rfl rfl, sat_cell h50 0 rfl rfl, sat_cell h50 0 rfl rfl, trivial⟩) ?_
  exact ⟨.tuple #[.agg #[iV 0, iV 0, uV 0], iV 6], [Tab b n A E RL], rfl, ⟨rfl, rfl⟩, h53⟩

set_option maxHeartbeats 4000000 in
theorem topen_ok (b n : Nat) (A : List Sl2) (E : Tm) (RL : List Rs) (x y z hx hy : Int) (L : List UInt8) (hz0 : 0 ≤ z) (hz1 : z ≤ 4294967295) (hm : L.length ≤ 1099511627776) (ho : 1 ≤ x ∧ x ≤ 3 ∧ 0 ≤ y ∧ y ≤ 63 ∧ 1 ≤ z) (ht : tagE L = 0) (hob : 0 ≤ hx ∧ hx ≤ 255 ∧ 1 ≤ hy) (hc : ∀ r ∈ RL, r.out ≠ (x, y, z)) (hh : ∀ e ∈ allE E, e.h ≠ (hx, hy)) (hl : RL.length < 2000) (j : Nat) (gj : Int) (hj : (inS 0 A 0)[0]? = some (j, gj)) (hfl_ : 1 ≤ (inS 0 A 0).length) : HT Try.prog 12 [Value.pointer (some ⟨b, 0, none⟩), Value.agg #[Value.int IntKind.i64 x, Value.int IntKind.i64 y, Value.int IntKind.u32 z], Value.string (St L), Value.agg #[Value.int IntKind.i64 hx, Value.int IntKind.u32 hy]] [Tab b n A E RL] (fun v K => v = Value.tuple #[Value.agg #[Value.int IntKind.i64 x, Value.int IntKind.i64 (((j : Nat) : Int)), Value.int IntKind.u32 gj], Value.int IntKind.i64 0] ∧ K = [Tab b n (A.set j (1, gj)) (gset E (j : Int) ⟨(x, (j : Int), gj), (RL.length : Int) + 1, (hx, hy)⟩) (RL ++ [(⟨(x, y, z), 1, 0, 0, 0, L⟩ : Rs)])]) := by
  refine hi_in 80 ([(0, pV b), (1, .agg #[iV x, iV y, uV z]), (2, .string (St L)), (3, .agg #[iV hx, uV hy])] : Fr) Try.func12 (by kernel_rfl) Try.ntmps12 rfl rfl ?_
  intro g w0 R h0
  change WP _ _ (CA Try.f12 []) _ _ _
  refine zSq (by kernel_rfl) ?_
  refine zPl [0, 1, 2, 3] (by kernel_rfl) ?_
  refine plain_act (i := 0) (by kernel_rfl) ?_
  refine an_new (d := 5) (fun xb_ => pV xb_) (fun xb_ => Obj.cells [iV x, iV y, uV z].toArray 32 (0, 0)) (fun xb_ => by kernel_rfl) (by kernel_rfl) rfl h0 ?_
  intro r1 w2 (h3 : sat g w2 [Cl r1 [iV x, iV y, uV z] 32, Tab b n A E RL, R])
  refine plain_act (i := 1) (by kernel_rfl) ?_
  refine an_new (d := 7) (fun xb_ => pV xb_) (fun xb_ => Obj.cells [iV hx, uV hy].toArray 34 (0, 0)) (fun xb_ => by kernel_rfl) (by kernel_rfl) rfl h3 ?_
  intro r4 w5 (h6 : sat g w5 [Cl r4 [iV hx, uV hy] 34, Cl r1 [iV x, iV y, uV z] 32, Tab b n A E RL, R])
  refine plain_act (i := 2) (by kernel_rfl) ?_
  refine an_new (d := 8) (fun xb_ => pV xb_) (fun xb_ => Obj.cells [iV 0, iV 0, uV 0].toArray 28 (0, 0)) (fun xb_ => by kernel_rfl) (by kernel_rfl) rfl h6 ?_
  intro r7 w8 (h9 : sat g w8 [Cl r7 [iV 0, iV 0, uV 0] 28, Cl r4 [iV hx, uV hy] 34, Cl r1 [iV x, iV y, uV z] 32, Tab b n A E RL, R])
  refine zB0 [] [3] [(9, iV 0)] (by kernel_rfl) ?_
  refine PO.mk ?_
  change WP _ _ (CA Try.f12 [1]) _ _ _
  refine fk_cut ([(0, pV b), (2, .string (St L)), (5, pV r1), (7, pV r4), (8, pV r7)] : Fr) (by kernel_rfl) (fun a => WP _ _ _ _ a _) (fun lr10 => ?_)
  refine zSq (by kernel_rfl) ?_
  refine zSq (by kernel_rfl) ?_
  refine zPl [0, 1, 2] (by kernel_rfl) ?_
  refine zB0 [1, 2] [0] [(12, pV b)] (by kernel_rfl) ?_
  have h11 : sat g w8 [Tab b n A E RL, Cl r7 [iV 0, iV 0, uV 0] 28, Cl r4 [iV hx, uV hy] 34, Cl r1 [iV x, iV y, uV z] 32, R] := sat_sel [3, 0, 1, 2, 4] rfl h9
  refine plain_act (i := 1) (by kernel_rfl) ?_
  refine zCl 13 Try.call36 (tvalid_ht b n A E RL) h11 (by kernel_rfl) ?_
  rintro v K w12 (⟨rfl, rfl⟩) h13
  refine ⟨_, rfl, ?_⟩
  have h14 : sat g w12 [Tab b n A E RL, Cl r7 [iV 0, iV 0, uV 0] 28, Cl r4 [iV hx, uV hy] 34, Cl r1 [iV x, iV y, uV z] 32, R] := h13
  refine zB0 [] [2] [(14, .bool false)] (by kernel_rfl) ?_
  refine PO.mk ?_
  change WP _ _ (CA Try.f12 [1, 0, 1]) _ _ _
  refine fk_cut ([(0, pV b), (2, .string (St L)), (5, pV r1), (7, pV r4), (8, pV r7), (14, .bool false)] : Fr) (by kernel_rfl) (fun a => WP _ _ _ _ a _) (fun lr15 => ?_)
  refine zCf (by kernel_rfl) ?_
  refine gi_skp (by kernel_rfl) ?_
  change WP _ _ (CA Try.f12 [1, 1]) _ _ _
  refine zSq (by kernel_rfl) ?_
  refine zPl [0, 1, 2, 3, 4, 5, 6, 7, 8] (by kernel_rfl) ?_
  refine zBb [2, 3, 4, 5, 6, 7, 8] [(18, .string (St L)), (17, .agg #[iV x, iV y, uV z])] [⟨0, [iV x, iV y, uV z], none⟩, ⟨1, [], none⟩] [(0, ⟨r1, 0, none⟩, iV x), (0, ⟨r1, 1, none⟩, iV y), (0, ⟨r1, 2, none⟩, uV z)] [] (by kernel_rfl) trivial (AllC_cons (sat_cell h14 3 rfl rfl) (AllC_cons (sat_cell h14 3 rfl rfl) (AllC_cons (sat_cell h14 3 rfl rfl) (AllC_nil _)))) ?_
  refine plain_act (i := 2) (by kernel_rfl) ?_
  refine zCl 19 Try.call37 (rnew_ok x y z L (by omega) (by omega) (by omega) (by omega) (by omega)) h14 (by kernel_rfl) ?_
  rintro v K w16 (⟨rfl, rfl⟩) h17
  refine ⟨_, rfl, ?_⟩
  have h18 : sat g w16 [Tab b n A E RL, Cl r7 [iV 0, iV 0, uV 0] 28, Cl r4 [iV hx, uV hy] 34, Cl r1 [iV x, iV y, uV z] 32, R] := h17
  refine zB0 [6, 7, 8] [3, 4, 5] [(21, iV 0), (20, .agg #[iV x, iV y, uV z, iV 1, iV 0, iV 0, iV 0, .string (St L)]), (16, .tuple #[.agg #[iV x, iV y, uV z, iV 1, iV 0, iV 0, iV 0, .string (St L)], iV 0])] (by kernel_rfl) ?_
  refine plain_act (i := 6) (by kernel_rfl) ?_
  refine an_new (d := 10) (fun xb_ => pV xb_) (fun xb_ => Obj.cells [iV 0, iV 0, uV 0, iV 0, iV 0, iV 0, iV 0, .string (St [])].toArray 42 (0, 0)) (fun xb_ => by kernel_rfl) (by kernel_rfl) rfl h18 ?_
  intro r19 w20 (h21 : sat g w20 [Cl r19 [iV 0, iV 0, uV 0, iV 0, iV 0, iV 0, iV 0, .string (St [])] 42, Tab b n A E RL, Cl r7 [iV 0, iV 0, uV 0] 28, Cl r4 [iV hx, uV hy] 34, Cl r1 [iV x, iV y, uV z] 32, R])
  refine plain_act (i := 7) (by kernel_rfl) ?_
  refine an_store [(0, iV x), (1, iV y), (2, uV z), (3, iV 1), (4, iV 0), (5, iV 0), (6, iV 0), (7, .string (St L))] (cs' := [iV x, iV y, uV z, iV 1, iV 0, iV 0, iV 0, .string (St L)]) (by kernel_rfl) (by kernel_rfl) (allq ⟨⟨by simp, rfl⟩, ⟨by simp, rfl⟩, ⟨by simp, rfl⟩, ⟨by simp, rfl⟩, ⟨by simp, rfl⟩, ⟨by simp, rfl⟩, ⟨by simp, rfl⟩, ⟨by simp, rfl⟩, trivial⟩) rfl h21 ?_
  intro w22 (h23 : sat g w22 [Cl r19 [iV x, iV y, uV z, iV 1, iV 0, iV 0, iV 0, .string (St L)] 42, Tab b n A E RL, Cl r7 [iV 0, iV 0, uV 0] 28, Cl r4 [iV hx, uV hy] 34, Cl r1 [iV x, iV y, uV z] 32, R])
  refine zB0 [] [8] [(11, iV 0)] (by kernel_rfl) ?_
  refine PO.mk ?_
  change WP _ _ (CA Try.f12 [1, 1, 1]) _ _ _
  refine fk_cut ([(0, pV b), (5, pV r1), (7, pV r4), (8, pV r7), (10, pV r19), (11, iV 0)] : Fr) (by kernel_rfl) (fun a => WP _ _ _ _ a _) (fun lr24 => ?_)
  refine zSq (by kernel_rfl) ?_
  refine zSq (by kernel_rfl) ?_
  refine zPl [0, 1] (by kernel_rfl) ?_
  refine zB0 [] [0, 1] [(23, .bool false), (22, iV 0)] (by kernel_rfl) ?_
  refine PO.mk ?_
  change WP _ _ (CA Try.f12 [1, 1, 1, 0, 1]) _ _ _
  refine fk_cut ([(0, pV b), (5, pV r1), (7, pV r4), (8, pV r7), (10, pV r19), (11, iV 0), (23, .bool false)] : Fr) (by kernel_rfl) (fun a => WP _ _ _ _ a _) (fun lr25 => ?_)
  refine zCf (by kernel_rfl) ?_
  refine gi_skp (by kernel_rfl) ?_
  change WP _ _ (CA Try.f12 [1, 1, 1, 1]) _ _ _
  refine zSq (by kernel_rfl) ?_
  refine gi_blk (id := 0) (x := CA Try.f12 [1, 1, 1, 1, 0, 0]) (by kernel_rfl) ?_
  refine zSq (by kernel_rfl) ?_
  refine zPl [0, 1, 2, 3] (by kernel_rfl) ?_
  refine zBb [1, 2, 3] [(27, .agg #[iV hx, uV hy])] [⟨0, [iV hx, uV hy], none⟩] [(0, ⟨r4, 0, none⟩, iV hx), (0, ⟨r4, 1, none⟩, uV hy)] [] (by kernel_rfl) trivial (AllC_cons (sat_cell h23 3 rfl rfl) (AllC_cons (sat_cell h23 3 rfl rfl) (AllC_nil _))) ?_
  refine plain_act (i := 1) (by kernel_rfl) ?_
  refine zCl 28 Try.call38 (obj_t hx hy (by omega)) h23 (by kernel_rfl) ?_
  rintro v K w26 (⟨rfl, rfl⟩) h27
  refine ⟨_, rfl, ?_⟩
  have h28 : sat g w26 [Cl r19 [iV x, iV y, uV z, iV 1, iV 0, iV 0, iV 0, .string (St L)] 42, Tab b n A E RL, Cl r7 [iV 0, iV 0, uV 0] 28, Cl r4 [iV hx, uV hy] 34, Cl r1 [iV x, iV y, uV z] 32, R] := h27
  refine zB0 [] [2, 3] [(26, .bool false), (29, .bool false)] (by kernel_rfl) ?_
  refine PO.mk ?_
  change WP _ _ (CA Try.f12 [1, 1, 1, 1, 0, 0, 1]) _ _ _
  refine fk_cut ([(0, pV b), (5, pV r1), (7, pV r4), (8, pV r7), (10, pV r19), (26, .bool false)] : Fr) (by kernel_rfl) (fun a => WP _ _ _ _ a _) (fun lr29 => ?_)
  refine zCf (by kernel_rfl) ?_
  refine zSq (by kernel_rfl) ?_
  refine zPl [0, 1, 2, 3, 4, 5, 6, 7, 8, 9, 10, 11] (by kernel_rfl) ?_
  have h30 : sat g w26 [Tab b n A E RL, Cl r19 [iV x, iV y, uV z, iV 1, iV 0, iV 0, iV 0, .string (St L)] 42, Cl r7 [iV 0, iV 0, uV 0] 28, Cl r4 [iV hx, uV hy] 34, Cl r1 [iV x, iV y, uV z] 32, R] := sat_sel [1, 0, 2, 3, 4, 5] rfl h28
  obtain ⟨s31, m32, p33, c34, E35, hM36, h37⟩ := tab_open h30
  have hRl_ := hM36.2
  refine zBb [5, 6, 7, 8, 9, 10, 11] [(36, .func (Fn.func 40) #[] #[pV r1]), (35, .slice p33 RL.length c34), (34, .pointer (some ⟨b, 2, none⟩)), (33, pV b), (32, pV b)] [⟨0, [], none⟩, ⟨1, [], none⟩, ⟨2, [], none⟩, ⟨3, [.slice p33 RL.length c34], none⟩, ⟨4, [], none⟩] [(3, ⟨b, 2, none⟩, .slice p33 RL.length c34)] [] (by kernel_rfl) trivial (AllC_cons (sat_cell h37 0 rfl rfl) (AllC_nil _)) ?_
  have h38 : sat g w26 [Sl 42 8 p33 RL.length c34 (fl eRs RL), Cl r1 [iV x, iV y, uV z] 32, Cl b [pV s31, .map (some m32), .slice p33 RL.length c34] 76, Tb s31 n A, Gp kI vE m32 E35, Cl r19 [iV x, iV y, uV z, iV 1, iV 0, iV 0, iV 0, .string (St L)] 42, Cl r7 [iV 0, iV 0, uV 0] 28, Cl r4 [iV hx, uV hy] 34, R] := sat_sel [3, 7, 0, 1, 2, 4, 5, 6, 8] rfl h37
  refine plain_act (i := 5) (by kernel_rfl) ?_
  refine zCl 37 Try.call39 (rhas_f p33 RL.length c34 r1 RL x y z hc (by omega)) h38 (by kernel_rfl) ?_
  rintro v K w39 (⟨rfl, rfl⟩) h40
  refine ⟨_, rfl, ?_⟩
  have h41 : sat g w39 [Sl 42 8 p33 RL.length c34 (fl eRs RL), Cl r1 [iV x, iV y, uV z] 32, Cl b [pV s31, .map (some m32), .slice p33 RL.length c34] 76, Tb s31 n A, Gp kI vE m32 E35, Cl r19 [iV x, iV y, uV z, iV 1, iV 0, iV 0, iV 0, .string (St L)] 42, Cl r7 [iV 0, iV 0, uV 0] 28, Cl r4 [iV hx, uV hy] 34, R] := h40
  refine zBb [9, 10, 11] [(40, .agg #[iV hx, uV hy]), (39, pV b), (38, .bool false)] [⟨6, [], none⟩, ⟨7, [], none⟩, ⟨8, [iV hx, uV hy], none⟩] [(8, ⟨r4, 0, none⟩, iV hx), (8, ⟨r4, 1, none⟩, uV hy)] [] (by kernel_rfl) trivial (AllC_cons (sat_cell h41 7 rfl rfl) (AllC_cons (sat_cell h41 7 rfl rfl) (AllC_nil _))) ?_
  have h42 : sat g w39 [Cl b [pV s31, .map (some m32), .slice p33 RL.length c34] 76, Tb s31 n A, Gp kI vE m32 E35, Sl 42 8 p33 RL.length c34 (fl eRs RL), Cl r1 [iV x, iV y, uV z] 32, Cl r19 [iV x, iV y, uV z, iV 1, iV 0, iV 0, iV 0, .string (St L)] 42, Cl r7 [iV 0, iV 0, uV 0] 28, Cl r4 [iV hx, uV hy] 34, R] := sat_sel [2, 3, 4, 0, 1, 5, 6, 7, 8] rfl h41
  have h43 : sat g w39 [Tab b n A E RL, Cl r1 [iV x, iV y, uV z] 32, Cl r19 [iV x, iV y, uV z, iV 1, iV 0, iV 0, iV 0, .string (St L)] 42, Cl r7 [iV 0, iV 0, uV 0] 28, Cl r4 [iV hx, uV hy] 34, R] := tab_close hM36.1 (by omega) (by first | rfl | omega) h42
  refine plain_act (i := 9) (by kernel_rfl) ?_
  refine zCl 41 Try.call41 (thas_f b n A E RL hx hy hh) h43 (by kernel_rfl) ?_
  rintro v K w44 (⟨rfl, rfl⟩) h45
  refine ⟨_, rfl, ?_⟩
  have h46 : sat g w44 [Tab b n A E RL, Cl r1 [iV x, iV y, uV z] 32, Cl r19 [iV x, iV y, uV z, iV 1, iV 0, iV 0, iV 0, .string (St L)] 42, Cl r7 [iV 0, iV 0, uV 0] 28, Cl r4 [iV hx, uV hy] 34, R] := h45
  refine zB0 [] [10, 11] [(31, .bool false), (42, .bool false)] (by kernel_rfl) ?_
  refine PO.mk ?_
  change WP _ _ (CA Try.f12 [1, 1, 1, 1, 0, 0, 1, 1, 1]) _ _ _
  refine fk_cut ([(0, pV b), (7, pV r4), (8, pV r7), (10, pV r19), (31, .bool false)] : Fr) (by kernel_rfl) (fun a => WP _ _ _ _ a _) (fun lr47 => ?_)
  refine zCf (by kernel_rfl) ?_
  refine zSq (by kernel_rfl) ?_
  refine zPl [0, 1, 2, 3, 4, 5, 6, 7, 8, 9, 10, 11, 12, 13, 14] (by kernel_rfl) ?_
  obtain ⟨s48, m49, p50, c51, E52, hM53, h54⟩ := tab_open h46
  have hRl_ := hM53.2
  refine zBb [11, 12, 13, 14] [(55, pV s48), (54, pV b), (53, pV b), (52, pV b), (51, .bool false), (50, .bool false), (49, iV (((RL.length : Nat) : Int))), (48, .slice p50 RL.length c51), (47, .pointer (some ⟨b, 2, none⟩)), (46, pV b), (45, pV b)] [⟨0, [], none⟩, ⟨1, [], none⟩, ⟨2, [], none⟩, ⟨3, [.slice p50 RL.length c51], none⟩, ⟨4, [], none⟩, ⟨5, [], some (.bool false)⟩, ⟨6, [], none⟩, ⟨7, [], none⟩, ⟨8, [], none⟩, ⟨9, [], none⟩, ⟨10, [pV s48], none⟩] [(10, ⟨b, 0, none⟩, pV s48), (3, ⟨b, 2, none⟩, .slice p50 RL.length c51)] [(.bool (decide (((RL.length : Nat) : Int) ≥ 2000)), .bool false)] (by kernel_rfl) ⟨(ov_f (by omega)), trivial⟩ (AllC_cons (sat_cell h54 0 rfl rfl) (AllC_cons (sat_cell h54 0 rfl rfl) (AllC_nil _))) ?_
  have h55 : sat g w44 [Tb s48 n A, Cl b [pV s48, .map (some m49), .slice p50 RL.length c51] 76, Gp kI vE m49 E52, Sl 42 8 p50 RL.length c51 (fl eRs RL), Cl r1 [iV x, iV y, uV z] 32, Cl r19 [iV x, iV y, uV z, iV 1, iV 0, iV 0, iV 0, .string (St L)] 42, Cl r7 [iV 0, iV 0, uV 0] 28, Cl r4 [iV hx, uV hy] 34, R] := sat_sel [1, 0, 2, 3, 4, 5, 6, 7, 8] rfl h54
  refine plain_act (i := 11) (by kernel_rfl) ?_
  refine zCl 56 Try.call42 (sfree_ht s48 n A) h55 (by kernel_rfl) ?_
  rintro v K w56 (⟨rfl, rfl⟩) h57
  refine ⟨_, rfl, ?_⟩
  have h58 : sat g w56 [Tb s48 n A, Cl b [pV s48, .map (some m49), .slice p50 RL.length c51] 76, Gp kI vE m49 E52, Sl 42 8 p50 RL.length c51 (fl eRs RL), Cl r1 [iV x, iV y, uV z] 32, Cl r19 [iV x, iV y, uV z, iV 1, iV 0, iV 0, iV 0, .string (St L)] 42, Cl r7 [iV 0, iV 0, uV 0] 28, Cl r4 [iV hx, uV hy] 34, R] := h57
  refine zBb [] [(44, .bool false), (58, .bool false), (57, .bool false)] [⟨12, [], some (.bool false)⟩, ⟨13, [], none⟩, ⟨14, [], none⟩] [] [(.bool (((((inS 0 A 0).length : Nat) : Int)) == 0), .bool false)] (by kernel_rfl) ⟨(ov_ef (by omega)), trivial⟩ (AllC_nil _) ?_
  refine PO.mk ?_
  change WP _ _ (CA Try.f12 [1, 1, 1, 1, 0, 0, 1, 1, 1, 1, 1]) _ _ _
  refine fk_cut ([(0, pV b), (7, pV r4), (8, pV r7), (10, pV r19), (44, .bool false)] : Fr) (by kernel_rfl) (fun a => WP _ _ _ _ a _) (fun lr59 => ?_)
  refine zCf (by kernel_rfl) ?_
  refine gi_skp (by kernel_rfl) ?_
  change WP _ _ (CA Try.f12 [1, 1, 1, 1, 1]) _ _ _
  refine zSq (by kernel_rfl) ?_
  refine gi_drw (id := 12) (ops := RA Try.f12 [1, 1, 1, 1, 1, 0]) (Tr.fl 0 (Tr.fl 1 (Tr.fl 2 (Tr.fl 3 (Tr.fl 4 (Tr.fl 5 (Tr.an 6 (Tr.an 7 (Tr.fl 8 (Tr.fl 9 (Tr.an 10 Tr.nil))))))))))) (by kernel_rfl) (by kernel_rfl) (by kernel_rfl) (by kernel_rfl) (by kernel_rfl) (fun _ _ d _ _ h => by cases d <;> exact h) h58 ?_
  intro w60 h61
  refine draw_batch (t := (Tr.an 6 (Tr.an 7 (Tr.fl 8 (Tr.fl 9 (Tr.an 10 Tr.nil)))))) [⟨0, [], none⟩, ⟨1, [], none⟩, ⟨2, [], none⟩, ⟨3, [], none⟩, ⟨4, [.slice p50 RL.length c51], none⟩, ⟨5, [iV x, iV y, uV z, iV 1, iV 0, iV 0, iV 0, .string (St L)], none⟩] (l' := ([(65, .agg #[iV x, iV y, uV z, iV 1, iV 0, iV 0, iV 0, .string (St L)]), (64, .slice p50 RL.length c51), (63, .pointer (some ⟨b, 2, none⟩)), (62, pV b), (61, pV b), (60, pV b), (0, pV b), (7, pV r4), (8, pV r7), (10, pV r19), (44, .bool false)] : Fr) ++ lr59) (pts' := [(5, ⟨r19, 0, none⟩, iV x), (5, ⟨r19, 1, none⟩, iV y), (5, ⟨r19, 2, none⟩, uV z), (5, ⟨r19, 3, none⟩, iV 1), (5, ⟨r19, 4, none⟩, iV 0), (5, ⟨r19, 5, none⟩, iV 0), (5, ⟨r19, 6, none⟩, iV 0), (5, ⟨r19, 7, none⟩, .string (St L)), (4, ⟨b, 2, none⟩, .slice p50 RL.length c51)]) (eqs := []) (by kernel_rfl) trivial (AllC_cons (sat_cell h61 5 rfl rfl) (AllC_cons (sat_cell h61 5 rfl rfl) (AllC_cons (sat_cell h61 5 rfl rfl) (AllC_cons (sat_cell h61 5 rfl rfl) (AllC_cons (sat_cell h61 5 rfl rfl) (AllC_cons (sat_cell h61 5 rfl rfl) (AllC_cons (sat_cell h61 5 rfl rfl) (AllC_cons (sat_cell h61 5 rfl rfl) (AllC_cons (sat_cell h61 1 rfl rfl) (AllC_nil _)))))))))) ?_
  refine draw_act (i := 6) [(4, ⟨b, 2, none⟩, .slice p50 RL.length c51)] (by kernel_rfl) (by kernel_rfl) ?_
  refine an_new (d := 66) (fun xb_ => .slice (some ⟨xb_, 0, none⟩) 1 1) (fun xb_ => Obj.cells [iV x, iV y, uV z, iV 1, iV 0, iV 0, iV 0, .string (St L)].toArray 42 (0, 0)) (fun xb_ => by kernel_rfl) (by kernel_rfl) rfl h61 ?_
  intro r62 w63 (h64 : sat g w63 [Cl r62 [iV x, iV y, uV z, iV 1, iV 0, iV 0, iV 0, .string (St L)] 42, Tb s48 n A, Cl b [pV s48, .map (some m49), .slice p50 RL.length c51] 76, Gp kI vE m49 E52, Sl 42 8 p50 RL.length c51 (fl eRs RL), Cl r1 [iV x, iV y, uV z] 32, Cl r19 [iV x, iV y, uV z, iV 1, iV 0, iV 0, iV 0, .string (St L)] 42, Cl r7 [iV 0, iV 0, uV 0] 28, Cl r4 [iV hx, uV hy] 34, R])
  refine ⟨(AllC_cons (sat_cell h64 2 rfl rfl) (AllC_nil _)), ?_⟩
  have h65 : sat g w63 [Sl 42 8 p50 RL.length c51 (fl eRs RL), Cl r62 [iV x, iV y, uV z, iV 1, iV 0, iV 0, iV 0, .string (St L)] 42, Tb s48 n A, Cl b [pV s48, .map (some m49), .slice p50 RL.length c51] 76, Gp kI vE m49 E52, Cl r1 [iV x, iV y, uV z] 32, Cl r19 [iV x, iV y, uV z, iV 1, iV 0, iV 0, iV 0, .string (St L)] 42, Cl r7 [iV 0, iV 0, uV 0] 28, Cl r4 [iV hx, uV hy] 34, R] := sat_sel [4, 0, 1, 2, 3, 5, 6, 7, 8, 9] rfl h64
  refine draw_act (i := 7) [] (by kernel_rfl) (by kernel_rfl) ?_
  refine an_append (d := 67) (sz := 8) (s := (Operand.tmp 64)) (x := (Operand.tmp 66)) (z := .agg #[iV 0, iV 0, uV 0, iV 0, iV 0, iV 0, iV 0, .string (St [])]) (p := p50) (m := RL.length) (c := c51) (k := 1) (c2 := 1) (a := ⟨r62, 0, none⟩) (by_ := 72) (by kernel_rfl) (by kernel_rfl) rfl Try.underlying74 (by kernel_rfl) rfl (by decide) (by kernel_rfl) (by kernel_rfl) h65 (fl eRs [(⟨(x, y, z), 1, 0, 0, 0, L⟩ : Rs)]) rfl (fun j u hj => by rw [add_off]; exact sat_cell h65 1 rfl (by rw [Nat.zero_add]; exact hj)) (fl_one eRs_ok _) (by omega) (by omega) (RL.length + 1) (by omega) ?_
  intro p66 cap67 w68 (h69 : sat g w68 [Sl 42 8 p66 (RL.length + 1) cap67 ((fl eRs RL) ++ (fl eRs [(⟨(x, y, z), 1, 0, 0, 0, L⟩ : Rs)])), Cl r62 [iV x, iV y, uV z, iV 1, iV 0, iV 0, iV 0, .string (St L)] 42, Tb s48 n A, Cl b [pV s48, .map (some m49), .slice p50 RL.length c51] 76, Gp kI vE m49 E52, Cl r1 [iV x, iV y, uV z] 32, Cl r19 [iV x, iV y, uV z, iV 1, iV 0, iV 0, iV 0, .string (St L)] 42, Cl r7 [iV 0, iV 0, uV 0] 28, Cl r4 [iV hx, uV hy] 34, R])
  have h70 : sat g w68 [Sl 42 8 p66 (RL.length + 1) cap67 (fl eRs (RL ++ [(⟨(x, y, z), 1, 0, 0, 0, L⟩ : Rs)])), Cl r62 [iV x, iV y, uV z, iV 1, iV 0, iV 0, iV 0, .string (St L)] 42, Tb s48 n A, Cl b [pV s48, .map (some m49), .slice p50 RL.length c51] 76, Gp kI vE m49 E52, Cl r1 [iV x, iV y, uV z] 32, Cl r19 [iV x, iV y, uV z, iV 1, iV 0, iV 0, iV 0, .string (St L)] 42, Cl r7 [iV 0, iV 0, uV 0] 28, Cl r4 [iV hx, uV hy] 34, R] := sat_imp h69 (fun _ hh => by rw [fl_app]; exact hh)
  obtain ⟨hn71, hn72⟩ := sl_le h70
  refine ⟨(AllC_nil _), ?_⟩
  refine draw_batch (t := (Tr.an 10 Tr.nil)) [⟨8, [], none⟩, ⟨9, [], none⟩] (l' := ([(69, .pointer (some ⟨b, 2, none⟩)), (68, pV b), (67, .slice p66 (RL.length + 1) cap67), (66, .slice (some ⟨r62, 0, none⟩) 1 1), (65, .agg #[iV x, iV y, uV z, iV 1, iV 0, iV 0, iV 0, .string (St L)]), (64, .slice p50 RL.length c51), (63, .pointer (some ⟨b, 2, none⟩)), (62, pV b), (61, pV b), (60, pV b), (0, pV b), (7, pV r4), (8, pV r7), (10, pV r19), (44, .bool false)] : Fr) ++ lr59) (pts' := []) (eqs := []) (by kernel_rfl) trivial (AllC_nil _) ?_
  have h73 : sat g w68 [Cl b [pV s48, .map (some m49), .slice p50 RL.length c51] 76, Sl 42 8 p66 (RL.length + 1) cap67 (fl eRs (RL ++ [(⟨(x, y, z), 1, 0, 0, 0, L⟩ : Rs)])), Cl r62 [iV x, iV y, uV z, iV 1, iV 0, iV 0, iV 0, .string (St L)] 42, Tb s48 n A, Gp kI vE m49 E52, Cl r1 [iV x, iV y, uV z] 32, Cl r19 [iV x, iV y, uV z, iV 1, iV 0, iV 0, iV 0, .string (St L)] 42, Cl r7 [iV 0, iV 0, uV 0] 28, Cl r4 [iV hx, uV hy] 34, R] := sat_sel [3, 0, 1, 2, 4, 5, 6, 7, 8, 9] rfl h70
  refine draw_act (i := 10) [] (by kernel_rfl) (by kernel_rfl) ?_
  refine an_store [(2, .slice p66 (RL.length + 1) cap67)] (cs' := [pV s48, .map (some m49), .slice p66 (RL.length + 1) cap67]) (by kernel_rfl) (by kernel_rfl) (allq ⟨⟨by simp, rfl⟩, trivial⟩) rfl h73 ?_
  intro w74 (h75 : sat g w74 [Cl b [pV s48, .map (some m49), .slice p66 (RL.length + 1) cap67] 76, Sl 42 8 p66 (RL.length + 1) cap67 (fl eRs (RL ++ [(⟨(x, y, z), 1, 0, 0, 0, L⟩ : Rs)])), Cl r62 [iV x, iV y, uV z, iV 1, iV 0, iV 0, iV 0, .string (St L)] 42, Tb s48 n A, Gp kI vE m49 E52, Cl r1 [iV x, iV y, uV z] 32, Cl r19 [iV x, iV y, uV z, iV 1, iV 0, iV 0, iV 0, .string (St L)] 42, Cl r7 [iV 0, iV 0, uV 0] 28, Cl r4 [iV hx, uV hy] 34, R])
  refine ⟨(AllC_nil _), ?_⟩
  change WP _ _ (CA Try.f12 [1, 1, 1, 1, 1, 1]) _ _ _
  refine fk_cut ([(0, pV b), (7, pV r4), (8, pV r7)] : Fr) (by kernel_rfl) (fun a => WP _ _ _ _ a _) (fun lr76 => ?_)
  refine zSq (by kernel_rfl) ?_
  refine gi_drw (id := 13) (ops := RA Try.f12 [1, 1, 1, 1, 1, 1, 0]) (Tr.fl 0 (Tr.fl 1 (Tr.fl 2 (Tr.fl 3 (Tr.fl 4 (Tr.fl 5 (Tr.fl 6 (Tr.an 7 (Tr.fl 8 (Tr.fl 9 (Tr.an 10 (Tr.fl 11 Tr.nil)))))))))))) (by kernel_rfl) (by kernel_rfl) (by kernel_rfl) (by kernel_rfl) (by kernel_rfl) (fun _ _ d _ _ h => by cases d <;> exact h) h75 ?_
  intro w77 h78
  refine draw_batch (t := (Tr.an 7 (Tr.fl 8 (Tr.fl 9 (Tr.an 10 (Tr.fl 11 Tr.nil)))))) [⟨0, [], none⟩, ⟨1, [], none⟩, ⟨2, [], none⟩, ⟨3, [], none⟩, ⟨4, [.slice p66 (RL.length + 1) cap67], none⟩, ⟨5, [], some (iV (((RL.length : Nat) : Int) + 1))⟩, ⟨6, [iV hx, uV hy], none⟩] (l' := ([(76, .agg #[iV hx, uV hy]), (75, iV (((RL.length : Nat) : Int) + 1)), (74, .slice p66 (RL.length + 1) cap67), (73, .pointer (some ⟨b, 2, none⟩)), (72, pV b), (71, pV b), (70, pV b), (0, pV b), (7, pV r4), (8, pV r7)] : Fr) ++ lr76) (pts' := [(6, ⟨r4, 0, none⟩, iV hx), (6, ⟨r4, 1, none⟩, uV hy), (4, ⟨b, 2, none⟩, .slice p66 (RL.length + 1) cap67)]) (eqs := [(iV ((RL.length + 1 : Nat) : Int), iV (((RL.length : Nat) : Int) + 1))]) (by kernel_rfl) ⟨(ov_int (by omega)), trivial⟩ (AllC_cons (sat_cell h78 8 rfl rfl) (AllC_cons (sat_cell h78 8 rfl rfl) (AllC_cons (sat_cell h78 0 rfl rfl) (AllC_nil _)))) ?_
  have h79 : sat g w77 [Cl b [pV s48, .map (some m49), .slice p66 (RL.length + 1) cap67] 76, Tb s48 n A, Gp kI vE m49 E52, Sl 42 8 p66 (RL.length + 1) cap67 (fl eRs (RL ++ [(⟨(x, y, z), 1, 0, 0, 0, L⟩ : Rs)])), Cl r62 [iV x, iV y, uV z, iV 1, iV 0, iV 0, iV 0, .string (St L)] 42, Cl r1 [iV x, iV y, uV z] 32, Cl r19 [iV x, iV y, uV z, iV 1, iV 0, iV 0, iV 0, .string (St L)] 42, Cl r7 [iV 0, iV 0, uV 0] 28, Cl r4 [iV hx, uV hy] 34, R] := sat_sel [0, 3, 4, 1, 2, 5, 6, 7, 8, 9] rfl h78
  have h80 : sat g w77 [TabX b n A E (RL ++ [(⟨(x, y, z), 1, 0, 0, 0, L⟩ : Rs)]) p66 (RL.length + 1) cap67, Cl r62 [iV x, iV y, uV z, iV 1, iV 0, iV 0, iV 0, .string (St L)] 42, Cl r1 [iV x, iV y, uV z] 32, Cl r19 [iV x, iV y, uV z, iV 1, iV 0, iV 0, iV 0, .string (St L)] 42, Cl r7 [iV 0, iV 0, uV 0] 28, Cl r4 [iV hx, uV hy] 34, R] := tabx_close hM53.1 (by simp only [List.length_append, List.length_set, List.length_cons, List.length_nil]; omega)  h79
  refine draw_act (i := 7) [(4, ⟨b, 2, none⟩, .slice p66 (RL.length + 1) cap67)] (by kernel_rfl) (by kernel_rfl) ?_
  refine zCl 77 Try.call43 (taddx_ok p66 (RL.length + 1) cap67 b n A E (RL ++ [(⟨(x, y, z), 1, 0, 0, 0, L⟩ : Rs)]) (((RL.length : Nat) : Int) + 1) hx hy RL.length (⟨(x, y, z), 1, 0, 0, 0, L⟩ : Rs) (show (RL ++ [(⟨(x, y, z), 1, 0, 0, 0, L⟩ : Rs)])[RL.length]? = some ((⟨(x, y, z), 1, 0, 0, 0, L⟩ : Rs) : Rs) from List.getElem?_concat_length) (by omega) j gj hj) h80 (by kernel_rfl) ?_
  rintro v K w81 (⟨rfl, rfl⟩) h82
  refine ⟨_, rfl, ?_⟩
  have h83 : sat g w81 [TabX b n (A.set j (1, gj)) (gset E (j : Int) ⟨(x, (j : Int), gj), ((RL.length : Nat) : Int) + 1, (hx, hy)⟩) (RL ++ [(⟨(x, y, z), 1, 0, 0, 0, L⟩ : Rs)]) p66 (RL.length + 1) cap67, Cl r62 [iV x, iV y, uV z, iV 1, iV 0, iV 0, iV 0, .string (St L)] 42, Cl r1 [iV x, iV y, uV z] 32, Cl r19 [iV x, iV y, uV z, iV 1, iV 0, iV 0, iV 0, .string (St L)] 42, Cl r7 [iV 0, iV 0, uV 0] 28, Cl r4 [iV hx, uV hy] 34, R] := h82
  obtain ⟨s84, m85, E88, hM89, h90⟩ := tabx_open h83
  have hRl_ := hM89.2
  have h91 : sat g w81 [Sl 42 8 p66 (RL.length + 1) cap67 (fl eRs (RL ++ [(⟨(x, y, z), 1, 0, 0, 0, L⟩ : Rs)])), Cl b [pV s84, .map (some m85), .slice p66 (RL.length + 1) cap67] 76, Tb s84 n (A.set j (1, gj)), Gp kI vE m85 E88, Cl r62 [iV x, iV y, uV z, iV 1, iV 0, iV 0, iV 0, .string (St L)] 42, Cl r1 [iV x, iV y, uV z] 32, Cl r19 [iV x, iV y, uV z, iV 1, iV 0, iV 0, iV 0, .string (St L)] 42, Cl r7 [iV 0, iV 0, uV 0] 28, Cl r4 [iV hx, uV hy] 34, R] := sat_sel [3, 0, 1, 2, 4, 5, 6, 7, 8, 9] rfl h90
  have hl92 := fl_n eRs_ok (by decide) h91
  have h93 : sat g w81 [Cl b [pV s84, .map (some m85), .slice p66 (RL.length + 1) cap67] 76, Tb s84 n (A.set j (1, gj)), Gp kI vE m85 E88, Sl 42 8 p66 (RL.length + 1) cap67 (fl eRs (RL ++ [(⟨(x, y, z), 1, 0, 0, 0, L⟩ : Rs)])), Cl r62 [iV x, iV y, uV z, iV 1, iV 0, iV 0, iV 0, .string (St L)] 42, Cl r1 [iV x, iV y, uV z] 32, Cl r19 [iV x, iV y, uV z, iV 1, iV 0, iV 0, iV 0, .string (St L)] 42, Cl r7 [iV 0, iV 0, uV 0] 28, Cl r4 [iV hx, uV hy] 34, R] := sat_sel [1, 2, 3, 0, 4, 5, 6, 7, 8, 9] rfl h91
  refine ⟨(AllC_cons (sat_cell h93 0 rfl rfl) (AllC_nil _)), ?_⟩
  refine draw_batch (t := (Tr.an 10 (Tr.fl 11 Tr.nil))) [⟨8, [], none⟩, ⟨9, [], none⟩] (l' := ([(79, iV 0), (78, .agg #[iV x, iV (((j : Nat) : Int)), uV gj]), (77, .tuple #[.agg #[iV x, iV (((j : Nat) : Int)), uV gj], iV 0]), (76, .agg #[iV hx, uV hy]), (75, iV (((RL.length : Nat) : Int) + 1)), (74, .slice p66 (RL.length + 1) cap67), (73, .pointer (some ⟨b, 2, none⟩)), (72, pV b), (71, pV b), (70, pV b), (0, pV b), (7, pV r4), (8, pV r7)] : Fr) ++ lr76) (pts' := []) (eqs := []) (by kernel_rfl) trivial (AllC_nil _) ?_
  have h94 : sat g w81 [Cl r7 [iV 0, iV 0, uV 0] 28, Cl b [pV s84, .map (some m85), .slice p66 (RL.length + 1) cap67] 76, Tb s84 n (A.set j (1, gj)), Gp kI vE m85 E88, Sl 42 8 p66 (RL.length + 1) cap67 (fl eRs (RL ++ [(⟨(x, y, z), 1, 0, 0, 0, L⟩ : Rs)])), Cl r62 [iV x, iV y, uV z, iV 1, iV 0, iV 0, iV 0, .string (St L)] 42, Cl r1 [iV x, iV y, uV z] 32, Cl r19 [iV x, iV y, uV z, iV 1, iV 0, iV 0, iV 0, .string (St L)] 42, Cl r4 [iV hx, uV hy] 34, R] := sat_sel [7, 0, 1, 2, 3, 4, 5, 6, 8, 9] rfl h93
  refine draw_act (i := 10) [] (by kernel_rfl) (by kernel_rfl) ?_
  refine an_store [(0, iV x), (1, iV (((j : Nat) : Int))), (2, uV gj)] (cs' := [iV x, iV (((j : Nat) : Int)), uV gj]) (by kernel_rfl) (by kernel_rfl) (allq ⟨⟨by simp, rfl⟩, ⟨by simp, rfl⟩, ⟨by simp, rfl⟩, trivial⟩) rfl h94 ?_
  intro w95 (h96 : sat g w95 [Cl r7 [iV x, iV (((j : Nat) : Int)), uV gj] 28, Cl b [pV s84, .map (some m85), .slice p66 (RL.length + 1) cap67] 76, Tb s84 n (A.set j (1, gj)), Gp kI vE m85 E88, Sl 42 8 p66 (RL.length + 1) cap67 (fl eRs (RL ++ [(⟨(x, y, z), 1, 0, 0, 0, L⟩ : Rs)])), Cl r62 [iV x, iV y, uV z, iV 1, iV 0, iV 0, iV 0, .string (St L)] 42, Cl r1 [iV x, iV y, uV z] 32, Cl r19 [iV x, iV y, uV z, iV 1, iV 0, iV 0, iV 0, .string (St L)] 42, Cl r4 [iV hx, uV hy] 34, R])
  refine ⟨(AllC_nil _), ?_⟩
  refine draw_batch (t := Tr.nil) [⟨11, [], none⟩] (l' := ([(9, iV 0), (79, iV 0), (78, .agg #[iV x, iV (((j : Nat) : Int)), uV gj]), (77, .tuple #[.agg #[iV x, iV (((j : Nat) : Int)), uV gj], iV 0]), (76, .agg #[iV hx, uV hy]), (75, iV (((RL.length : Nat) : Int) + 1)), (74, .slice p66 (RL.length + 1) cap67), (73, .pointer (some ⟨b, 2, none⟩)), (72, pV b), (71, pV b), (70, pV b), (0, pV b), (7, pV r4), (8, pV r7)] : Fr) ++ lr76) (pts' := []) (eqs := []) (by kernel_rfl) trivial (AllC_nil _) ?_
  change WP _ _ (CA Try.f12 [1, 1, 1, 1, 1, 1, 1]) _ _ _
  refine fk_cut ([(8, pV r7), (9, iV 0)] : Fr) (by kernel_rfl) (fun a => WP _ _ _ _ a _) (fun lr97 => ?_)
  refine gi_rt (by kernel_rfl) ?_
  repeat (first | simp only [Exit.inBlock] | simp only [Exit.then])
  have h98 : sat g w95 [Cl b [pV s84, .map (some m85), .slice p66 (RL.length + 1) cap67] 76, Tb s84 n (A.set j (1, gj)), Gp kI vE m85 E88, Sl 42 8 p66 (RL.length + 1) cap67 (fl eRs (RL ++ [(⟨(x, y, z), 1, 0, 0, 0, L⟩ : Rs)])), Cl r7 [iV x, iV (((j : Nat) : Int)), uV gj] 28, Cl r62 [iV x, iV y, uV z, iV 1, iV 0, iV 0, iV 0, .string (St L)] 42, Cl r1 [iV x, iV y, uV z] 32, Cl r19 [iV x, iV y, uV z, iV 1, iV 0, iV 0, iV 0, .string (St L)] 42, Cl r4 [iV hx, uV hy] 34, R] := sat_sel [1, 2, 3, 4, 0, 5, 6, 7, 8, 9] rfl h96
  have h99 : sat g w95 [Tab b n (A.set j (1, gj)) (gset E (j : Int) ⟨(x, (j : Int), gj), ((RL.length : Nat) : Int) + 1, (hx, hy)⟩) (RL ++ [(⟨(x, y, z), 1, 0, 0, 0, L⟩ : Rs)]), Cl r7 [iV x, iV (((j : Nat) : Int)), uV gj] 28, Cl r62 [iV x, iV y, uV z, iV 1, iV 0, iV 0, iV 0, .string (St L)] 42, Cl r1 [iV x, iV y, uV z] 32, Cl r19 [iV x, iV y, uV z, iV 1, iV 0, iV 0, iV 0, .string (St L)] 42, Cl r4 [iV hx, uV hy] 34, R] := tab_close hM89.1 (by simp only [List.length_append, List.length_set, List.length_cons, List.length_nil]; omega) (by simp only [List.length_append, List.length_set, List.length_cons, List.length_nil]) h98
  have h100 : sat g w95 [Tab b n (A.set j (1, gj)) (gset E (j : Int) ⟨(x, (j : Int), gj), ((RL.length : Nat) : Int) + 1, (hx, hy)⟩) (RL ++ [(⟨(x, y, z), 1, 0, 0, 0, L⟩ : Rs)]), R] := sat_sel [0, 6] rfl h99
  refine hi_out [iV x, iV (((j : Nat) : Int)), uV gj] (.tuple #[.agg #[iV x, iV (((j : Nat) : Int)), uV gj], iV 0]) [(⟨r7, 0, none⟩, iV x), (⟨r7, 1, none⟩, iV (((j : Nat) : Int))), (⟨r7, 2, none⟩, uV gj)] (by kernel_rfl) (allq ⟨sat_cell h96 0 rfl rfl, sat_cell h96 0 rfl rfl, sat_cell h96 0 rfl rfl, trivial⟩) ?_
  exact ⟨.tuple #[.agg #[iV x, iV (((j : Nat) : Int)), uV gj], iV 0], [Tab b n (A.set j (1, gj)) (gset E (j : Int) ⟨(x, (j : Int), gj), ((RL.length : Nat) : Int) + 1, (hx, hy)⟩) (RL ++ [(⟨(x, y, z), 1, 0, 0, 0, L⟩ : Rs)])], rfl, ⟨rfl, rfl⟩, h100⟩

end Go.Proofs.Ytjjpmehiolejgaa
