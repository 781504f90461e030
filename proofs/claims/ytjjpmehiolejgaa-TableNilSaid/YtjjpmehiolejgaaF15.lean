/- Walks, printed by my generator gen15.py. -/
import Derived.Test.YtjjpmehiolejgaaF14
import Derived.Test.YtjjpmehiolejgaaF12
namespace Go.Proofs.Ytjjpmehiolejgaa
set_option maxHeartbeats 4000000 in
theorem tnew_ok (n : Nat) (gn : Int) (hn : 1 ≤ n ∧ n ≤ 256) (hgn : 1 ≤ gn ∧ gn ≤ 4294967295) : HT Try.prog 11 [Value.int IntKind.i64 (((n : Nat) : Int)), Value.int IntKind.u32 gn] [] (fun v K => ∃ b : Nat, v = Value.tuple #[Value.pointer (some ⟨b, 0, none⟩), Value.int .i64 0] ∧ K = [Tab b n (List.replicate n (0, gn)) [] []]) := by
  refine hi_in 21 ([(0, iV (((n : Nat) : Int))), (1, uV gn)] : Fr) Try.func11 (by kernel_rfl) Try.ntmps11 rfl rfl ?_
  intro g w0 R h0
  change WP _ _ (CA Try.f11 []) _ _ _
  refine zSq (by kernel_rfl) ?_
  refine zPl [0, 1] (by kernel_rfl) ?_
  refine zB0 [] [0, 1] [(5, iV 0), (4, .pointer none)] (by kernel_rfl) ?_
  refine PO.mk ?_
  change WP _ _ (CA Try.f11 [1]) _ _ _
  refine fk_cut ([(0, iV (((n : Nat) : Int))), (1, uV gn)] : Fr) (by kernel_rfl) (fun a => WP _ _ _ _ a _) (fun lr1 => ?_)
  refine zSq (by kernel_rfl) ?_
  refine zPl [0, 1, 2, 3, 4, 5, 6, 7] (by kernel_rfl) ?_
  refine zB0 [2, 3, 4, 5, 6, 7] [0, 1] [(10, uV gn), (9, iV (((n : Nat) : Int)))] (by kernel_rfl) ?_
  refine plain_act (i := 2) (by kernel_rfl) ?_
  refine zCl 11 Try.call35 (snew_ok n (by omega) gn (by omega)) h0 (by kernel_rfl) ?_
  rintro v K w3 (⟨b2, rfl, rfl⟩) h4
  refine ⟨_, rfl, ?_⟩
  have h5 : sat g w3 [Tb b2 n (List.replicate n (0, gn)), R] := h4
  refine zB0 [] [3, 4, 5, 6, 7] [(7, iV 0), (6, pV b2), (13, iV 0), (12, pV b2), (8, .tuple #[pV b2, iV 0])] (by kernel_rfl) ?_
  refine PO.mk ?_
  change WP _ _ (CA Try.f11 [1, 1]) _ _ _
  refine fk_cut ([(6, pV b2), (7, iV 0)] : Fr) (by kernel_rfl) (fun a => WP _ _ _ _ a _) (fun lr6 => ?_)
  refine zSq (by kernel_rfl) ?_
  refine zSq (by kernel_rfl) ?_
  refine zPl [0, 1] (by kernel_rfl) ?_
  refine zB0 [] [0, 1] [(15, .bool false), (14, iV 0)] (by kernel_rfl) ?_
  refine PO.mk ?_
  change WP _ _ (CA Try.f11 [1, 1, 0, 1]) _ _ _
  refine fk_cut ([(6, pV b2), (7, iV 0), (15, .bool false)] : Fr) (by kernel_rfl) (fun a => WP _ _ _ _ a _) (fun lr7 => ?_)
  refine zCf (by kernel_rfl) ?_
  refine gi_skp (by kernel_rfl) ?_
  change WP _ _ (CA Try.f11 [1, 1, 1]) _ _ _
  refine zSq (by kernel_rfl) ?_
  refine zPl [0, 1, 2, 3, 4, 5] (by kernel_rfl) ?_
  refine zB0 [1, 2, 3, 4, 5] [0] [(17, pV b2)] (by kernel_rfl) ?_
  refine plain_act (i := 1) (by kernel_rfl) ?_
  refine ag_makeMap (t := 73) (d := 18) kI vE (by kernel_rfl) (by kernel_rfl) rfl h5 ?_
  intro r8 w9 (h10 : sat g w9 [Gp kI vE r8 [], Tb b2 n (List.replicate n (0, gn)), R])
  refine zB0 [3, 4, 5] [2] [(19, .agg #[pV b2, .map (some r8), .slice none 0 0])] (by kernel_rfl) ?_
  refine plain_act (i := 3) (by kernel_rfl) ?_
  refine an_new (d := 20) (fun xb_ => pV xb_) (fun xb_ => Obj.cells [pV b2, .map (some r8), .slice none 0 0].toArray 76 (0, 0)) (fun xb_ => by kernel_rfl) (by kernel_rfl) rfl h10 ?_
  intro r11 w12 (h13 : sat g w12 [Cl r11 [pV b2, .map (some r8), .slice none 0 0] 76, Gp kI vE r8 [], Tb b2 n (List.replicate n (0, gn)), R])
  refine zB0 [] [4, 5] [(5, iV 0), (4, pV r11)] (by kernel_rfl) ?_
  refine PO.mk ?_
  change WP _ _ (CA Try.f11 [1, 1, 1, 1]) _ _ _
  refine fk_cut ([(4, pV r11), (5, iV 0)] : Fr) (by kernel_rfl) (fun a => WP _ _ _ _ a _) (fun lr14 => ?_)
  refine gi_rt (by kernel_rfl) ?_
  repeat (first | simp only [Exit.inBlock] | simp only [Exit.then])
  have h15 : sat g w12 [Sl 42 8 none 0 0 (fl eRs []), Cl r11 [pV b2, .map (some r8), .slice none 0 0] 76, Gp kI vE r8 [], Tb b2 n (List.replicate n (0, gn)), R] := sl_nil 42 8 h13
  have h16 : sat g w12 [Cl r11 [pV b2, .map (some r8), .slice none 0 0] 76, Tb b2 n (List.replicate n (0, gn)), Gp kI vE r8 [], Sl 42 8 none 0 0 (fl eRs []), R] := sat_sel [1, 3, 2, 0, 4] rfl h15
  have h17 : sat g w12 [Tab r11 n (List.replicate n (0, gn)) [] [], R] := tab_close (meq_refl List.nodup_nil) (by decide) (by first | rfl | omega) h16
  refine hi_out [] (.tuple #[pV r11, iV 0]) [] (by kernel_rfl) (by intro q hq; cases hq) ?_
  exact ⟨.tuple #[pV r11, iV 0], [Tab r11 n (List.replicate n (0, gn)) [] []], rfl, ⟨r11, rfl, rfl⟩, h17⟩

set_option maxHeartbeats 4000000 in
theorem tclose_n (x y z : Int) : HT Try.prog 15 [Value.pointer none, Value.agg #[Value.int IntKind.i64 x, Value.int IntKind.i64 y, Value.int IntKind.u32 z]] [] (fun v K => v = Value.tuple #[Value.int IntKind.i64 0, Value.bool false, Value.int IntKind.i64 1] ∧ K = []) := by
  refine hi_in 35 ([(0, .pointer none), (1, .agg #[iV x, iV y, uV z])] : Fr) Try.func15 (by kernel_rfl) Try.ntmps15 rfl rfl ?_
  intro g w0 R h0
  change WP _ _ (CA Try.f15 []) _ _ _
  refine zSq (by kernel_rfl) ?_
  refine zPl [0, 1, 2, 3] (by kernel_rfl) ?_
  refine plain_act (i := 0) (by kernel_rfl) ?_
  refine an_new (d := 3) (fun xb_ => pV xb_) (fun xb_ => Obj.cells [iV x, iV y, uV z].toArray 28 (0, 0)) (fun xb_ => by kernel_rfl) (by kernel_rfl) rfl h0 ?_
  intro r1 w2 (h3 : sat g w2 [Cl r1 [iV x, iV y, uV z] 28, R])
  refine zB0 [] [1, 2, 3] [(6, iV 0), (5, .bool false), (4, iV 0)] (by kernel_rfl) ?_
  refine PO.mk ?_
  change WP _ _ (CA Try.f15 [1]) _ _ _
  refine fk_cut ([(0, .pointer none), (3, pV r1)] : Fr) (by kernel_rfl) (fun a => WP _ _ _ _ a _) (fun lr4 => ?_)
  refine zSq (by kernel_rfl) ?_
  refine zPl [0, 1, 2, 3, 4, 5, 6, 7, 8] (by kernel_rfl) ?_
  refine zBb [2, 3, 4, 5, 6, 7, 8] [(12, .agg #[iV x, iV y, uV z]), (11, .pointer none)] [⟨0, [], none⟩, ⟨1, [iV x, iV y, uV z], none⟩] [(1, ⟨r1, 0, none⟩, iV x), (1, ⟨r1, 1, none⟩, iV y), (1, ⟨r1, 2, none⟩, uV z)] [] (by kernel_rfl) trivial (AllC_cons (sat_cell h3 0 rfl rfl) (AllC_cons (sat_cell h3 0 rfl rfl) (AllC_cons (sat_cell h3 0 rfl rfl) (AllC_nil _)))) ?_
  refine plain_act (i := 2) (by kernel_rfl) ?_
  refine zCl 13 Try.call44 (tfind_n x y z) h3 (by kernel_rfl) ?_
  rintro v K w5 (⟨rfl, rfl⟩) h6
  refine ⟨_, rfl, ?_⟩
  have h7 : sat g w5 [Cl r1 [iV x, iV y, uV z] 28, R] := h6
  refine zB0 [6, 7, 8] [3, 4, 5] [(15, iV 1), (14, .agg #[iV 0, iV 0, uV 0, iV 0, iV 0, uV 0]), (10, .tuple #[.agg #[iV 0, iV 0, uV 0, iV 0, iV 0, uV 0], iV 1])] (by kernel_rfl) ?_
  refine plain_act (i := 6) (by kernel_rfl) ?_
  refine an_new (d := 7) (fun xb_ => pV xb_) (fun xb_ => Obj.cells [iV 0, iV 0, uV 0, iV 0, iV 0, uV 0].toArray 90 (0, 0)) (fun xb_ => by kernel_rfl) (by kernel_rfl) rfl h7 ?_
  intro r8 w9 (h10 : sat g w9 [Cl r8 [iV 0, iV 0, uV 0, iV 0, iV 0, uV 0] 90, Cl r1 [iV x, iV y, uV z] 28, R])
  refine plain_act (i := 7) (by kernel_rfl) ?_
  refine an_store [(0, iV 0), (1, iV 0), (2, uV 0), (3, iV 0), (4, iV 0), (5, uV 0)] (cs' := [iV 0, iV 0, uV 0, iV 0, iV 0, uV 0]) (by kernel_rfl) (by kernel_rfl) (allq ⟨⟨by simp, rfl⟩, ⟨by simp, rfl⟩, ⟨by simp, rfl⟩, ⟨by simp, rfl⟩, ⟨by simp, rfl⟩, ⟨by simp, rfl⟩, trivial⟩) rfl h10 ?_
  intro w11 (h12 : sat g w11 [Cl r8 [iV 0, iV 0, uV 0, iV 0, iV 0, uV 0] 90, Cl r1 [iV x, iV y, uV z] 28, R])
  refine zB0 [] [8] [(8, iV 1)] (by kernel_rfl) ?_
  refine PO.mk ?_
  change WP _ _ (CA Try.f15 [1, 1]) _ _ _
  refine fk_cut ([(0, .pointer none), (3, pV r1), (7, pV r8), (8, iV 1)] : Fr) (by kernel_rfl) (fun a => WP _ _ _ _ a _) (fun lr13 => ?_)
  refine zSq (by kernel_rfl) ?_
  refine zSq (by kernel_rfl) ?_
  refine zPl [0, 1] (by kernel_rfl) ?_
  refine zB0 [] [0, 1] [(17, .bool true), (16, iV 1)] (by kernel_rfl) ?_
  refine PO.mk ?_
  change WP _ _ (CA Try.f15 [1, 1, 0, 1]) _ _ _
  refine fk_cut ([(0, .pointer none), (3, pV r1), (7, pV r8), (8, iV 1), (17, .bool true)] : Fr) (by kernel_rfl) (fun a => WP _ _ _ _ a _) (fun lr14 => ?_)
  refine zCt (by kernel_rfl) ?_
  refine zSq (by kernel_rfl) ?_
  refine zPl [0, 1, 2, 3] (by kernel_rfl) ?_
  refine zB0 [] [0, 1, 2, 3] [(6, iV 1), (5, .bool false), (4, iV 0), (18, iV 1)] (by kernel_rfl) ?_
  refine PO.mk ?_
  change WP _ _ (CA Try.f15 [1, 1, 0, 1, 0, 1]) _ _ _
  refine fk_cut ([(4, iV 0), (5, .bool false), (6, iV 1)] : Fr) (by kernel_rfl) (fun a => WP _ _ _ _ a _) (fun lr15 => ?_)
  refine gi_rt (by kernel_rfl) ?_
  repeat (first | simp only [Exit.inBlock] | simp only [Exit.then])
  have h16 : sat g w11 [R] := sat_sel [2] rfl h12
  refine hi_out [] (.tuple #[iV 0, .bool false, iV 1]) [] (by kernel_rfl) (by intro q hq; cases hq) ?_
  exact ⟨.tuple #[iV 0, .bool false, iV 1], [], rfl, ⟨rfl, rfl⟩, h16⟩

set_option maxHeartbeats 4000000 in
theorem tclose_z (b : Nat) (x y z : Int) : HT Try.prog 15 [Value.pointer (some ⟨b, 0, none⟩), Value.agg #[Value.int IntKind.i64 x, Value.int IntKind.i64 y, Value.int IntKind.u32 z]] [Cl b [Value.pointer none, Value.map none, Value.slice none 0 0] 76] (fun v K => v = Value.tuple #[Value.int IntKind.i64 0, Value.bool false, Value.int IntKind.i64 1] ∧ K = [Cl b [Value.pointer none, Value.map none, Value.slice none 0 0] 76]) := by
  refine hi_in 35 ([(0, pV b), (1, .agg #[iV x, iV y, uV z])] : Fr) Try.func15 (by kernel_rfl) Try.ntmps15 rfl rfl ?_
  intro g w0 R h0
  change WP _ _ (CA Try.f15 []) _ _ _
  refine zSq (by kernel_rfl) ?_
  refine zPl [0, 1, 2, 3] (by kernel_rfl) ?_
  refine plain_act (i := 0) (by kernel_rfl) ?_
  refine an_new (d := 3) (fun xb_ => pV xb_) (fun xb_ => Obj.cells [iV x, iV y, uV z].toArray 28 (0, 0)) (fun xb_ => by kernel_rfl) (by kernel_rfl) rfl h0 ?_
  intro r1 w2 (h3 : sat g w2 [Cl r1 [iV x, iV y, uV z] 28, Cl b [.pointer none, .map none, .slice none 0 0] 76, R])
  refine zB0 [] [1, 2, 3] [(6, iV 0), (5, .bool false), (4, iV 0)] (by kernel_rfl) ?_
  refine PO.mk ?_
  change WP _ _ (CA Try.f15 [1]) _ _ _
  refine fk_cut ([(0, pV b), (3, pV r1)] : Fr) (by kernel_rfl) (fun a => WP _ _ _ _ a _) (fun lr4 => ?_)
  refine zSq (by kernel_rfl) ?_
  refine zPl [0, 1, 2, 3, 4, 5, 6, 7, 8] (by kernel_rfl) ?_
  refine zBb [2, 3, 4, 5, 6, 7, 8] [(12, .agg #[iV x, iV y, uV z]), (11, pV b)] [⟨0, [], none⟩, ⟨1, [iV x, iV y, uV z], none⟩] [(1, ⟨r1, 0, none⟩, iV x), (1, ⟨r1, 1, none⟩, iV y), (1, ⟨r1, 2, none⟩, uV z)] [] (by kernel_rfl) trivial (AllC_cons (sat_cell h3 0 rfl rfl) (AllC_cons (sat_cell h3 0 rfl rfl) (AllC_cons (sat_cell h3 0 rfl rfl) (AllC_nil _)))) ?_
  have h5 : sat g w2 [Cl b [.pointer none, .map none, .slice none 0 0] 76, Cl r1 [iV x, iV y, uV z] 28, R] := sat_sel [1, 0, 2] rfl h3
  refine plain_act (i := 2) (by kernel_rfl) ?_
  refine zCl 13 Try.call44 (tfind_z b x y z) h5 (by kernel_rfl) ?_
  rintro v K w6 (⟨rfl, rfl⟩) h7
  refine ⟨_, rfl, ?_⟩
  have h8 : sat g w6 [Cl b [.pointer none, .map none, .slice none 0 0] 76, Cl r1 [iV x, iV y, uV z] 28, R] := h7
  refine zB0 [6, 7, 8] [3, 4, 5] [(15, iV 1), (14, .agg #[iV 0, iV 0, uV 0, iV 0, iV 0, uV 0]), (10, .tuple #[.agg #[iV 0, iV 0, uV 0, iV 0, iV 0, uV 0], iV 1])] (by kernel_rfl) ?_
  refine plain_act (i := 6) (by kernel_rfl) ?_
  refine an_new (d := 7) (fun xb_ => pV xb_) (fun xb_ => Obj.cells [iV 0, iV 0, uV 0, iV 0, iV 0, uV 0].toArray 90 (0, 0)) (fun xb_ => by kernel_rfl) (by kernel_rfl) rfl h8 ?_
  intro r9 w10 (h11 : sat g w10 [Cl r9 [iV 0, iV 0, uV 0, iV 0, iV 0, uV 0] 90, Cl b [.pointer none, .map none, .slice none 0 0] 76, Cl r1 [iV x, iV y, uV z] 28, R])
  refine plain_act (i := 7) (by kernel_rfl) ?_
  refine an_store [(0, iV 0), (1, iV 0), (2, uV 0), (3, iV 0), (4, iV 0), (5, uV 0)] (cs' := [iV 0, iV 0, uV 0, iV 0, iV 0, uV 0]) (by kernel_rfl) (by kernel_rfl) (allq ⟨⟨by simp, rfl⟩, ⟨by simp, rfl⟩, ⟨by simp, rfl⟩, ⟨by simp, rfl⟩, ⟨by simp, rfl⟩, ⟨by simp, rfl⟩, trivial⟩) rfl h11 ?_
  intro w12 (h13 : sat g w12 [Cl r9 [iV 0, iV 0, uV 0, iV 0, iV 0, uV 0] 90, Cl b [.pointer none, .map none, .slice none 0 0] 76, Cl r1 [iV x, iV y, uV z] 28, R])
  refine zB0 [] [8] [(8, iV 1)] (by kernel_rfl) ?_
  refine PO.mk ?_
  change WP _ _ (CA Try.f15 [1, 1]) _ _ _
  refine fk_cut ([(0, pV b), (3, pV r1), (7, pV r9), (8, iV 1)] : Fr) (by kernel_rfl) (fun a => WP _ _ _ _ a _) (fun lr14 => ?_)
  refine zSq (by kernel_rfl) ?_
  refine zSq (by kernel_rfl) ?_
  refine zPl [0, 1] (by kernel_rfl) ?_
  refine zB0 [] [0, 1] [(17, .bool true), (16, iV 1)] (by kernel_rfl) ?_
  refine PO.mk ?_
  change WP _ _ (CA Try.f15 [1, 1, 0, 1]) _ _ _
  refine fk_cut ([(0, pV b), (3, pV r1), (7, pV r9), (8, iV 1), (17, .bool true)] : Fr) (by kernel_rfl) (fun a => WP _ _ _ _ a _) (fun lr15 => ?_)
  refine zCt (by kernel_rfl) ?_
  refine zSq (by kernel_rfl) ?_
  refine zPl [0, 1, 2, 3] (by kernel_rfl) ?_
  refine zB0 [] [0, 1, 2, 3] [(6, iV 1), (5, .bool false), (4, iV 0), (18, iV 1)] (by kernel_rfl) ?_
  refine PO.mk ?_
  change WP _ _ (CA Try.f15 [1, 1, 0, 1, 0, 1]) _ _ _
  refine fk_cut ([(4, iV 0), (5, .bool false), (6, iV 1)] : Fr) (by kernel_rfl) (fun a => WP _ _ _ _ a _) (fun lr16 => ?_)
  refine gi_rt (by kernel_rfl) ?_
  repeat (first | simp only [Exit.inBlock] | simp only [Exit.then])
  have h17 : sat g w12 [Cl b [.pointer none, .map none, .slice none 0 0] 76, Cl r9 [iV 0, iV 0, uV 0, iV 0, iV 0, uV 0] 90, Cl r1 [iV x, iV y, uV z] 28, R] := sat_sel [1, 0, 2, 3] rfl h13
  have h18 : sat g w12 [Cl b [.pointer none, .map none, .slice none 0 0] 76, R] := sat_sel [0, 3] rfl h17
  refine hi_out [] (.tuple #[iV 0, .bool false, iV 1]) [] (by kernel_rfl) (by intro q hq; cases hq) ?_
  exact ⟨.tuple #[iV 0, .bool false, iV 1], [Cl b [.pointer none, .map none, .slice none 0 0] 76], rfl, ⟨rfl, rfl⟩, h18⟩

set_option maxHeartbeats 4000000 in
theorem tclose_ok (b n : Nat) (A : List Sl2) (E : Tm) (RL : List Rs) (x y z : Int) (e : Ety) (hz0 : 0 ≤ z) (hz1 : z ≤ 4294967295) (ho : 1 ≤ x ∧ x ≤ 3 ∧ 0 ≤ y ∧ y ≤ 255 ∧ 1 ≤ z) (hg_ : gget E y = some e) (hd_ : e.d.1 = x ∧ e.d.2.1 = y ∧ e.d.2.2 = z) (q : Nat) (s : Sl2) (hs : A[q]? = some s) (hs_ : y = (q : Int) ∧ s.1 = 1 ∧ s.2 = z) (hnum : 1 ≤ e.num ∧ e.num ≤ (RL.length : Int)) : HT Try.prog 15 [Value.pointer (some ⟨b, 0, none⟩), Value.agg #[Value.int IntKind.i64 x, Value.int IntKind.i64 y, Value.int IntKind.u32 z]] [Tab b n A E RL] (fun v K => v = Value.tuple #[Value.int .i64 e.num, Value.bool (decide ((descs (gdel E y) e.num).length = 0)), Value.int .i64 0] ∧ K = [Tab b n (giveA A q z) (gdel E y) RL]) := by
  refine hi_in 35 ([(0, pV b), (1, .agg #[iV x, iV y, uV z])] : Fr) Try.func15 (by kernel_rfl) Try.ntmps15 rfl rfl ?_
  intro g w0 R h0
  change WP _ _ (CA Try.f15 []) _ _ _
  refine zSq (by kernel_rfl) ?_
  refine zPl [0, 1, 2, 3] (by kernel_rfl) ?_
  refine plain_act (i := 0) (by kernel_rfl) ?_
  refine an_new (d := 3) (fun xb_ => pV xb_) (fun xb_ => Obj.cells [iV x, iV y, uV z].toArray 28 (0, 0)) (fun xb_ => by kernel_rfl) (by kernel_rfl) rfl h0 ?_
  intro r1 w2 (h3 : sat g w2 [Cl r1 [iV x, iV y, uV z] 28, Tab b n A E RL, R])
  refine zB0 [] [1, 2, 3] [(6, iV 0), (5, .bool false), (4, iV 0)] (by kernel_rfl) ?_
  refine PO.mk ?_
  change WP _ _ (CA Try.f15 [1]) _ _ _
  refine fk_cut ([(0, pV b), (3, pV r1)] : Fr) (by kernel_rfl) (fun a => WP _ _ _ _ a _) (fun lr4 => ?_)
  refine zSq (by kernel_rfl) ?_
  refine zPl [0, 1, 2, 3, 4, 5, 6, 7, 8] (by kernel_rfl) ?_
  refine zBb [2, 3, 4, 5, 6, 7, 8] [(12, .agg #[iV x, iV y, uV z]), (11, pV b)] [⟨0, [], none⟩, ⟨1, [iV x, iV y, uV z], none⟩] [(1, ⟨r1, 0, none⟩, iV x), (1, ⟨r1, 1, none⟩, iV y), (1, ⟨r1, 2, none⟩, uV z)] [] (by kernel_rfl) trivial (AllC_cons (sat_cell h3 0 rfl rfl) (AllC_cons (sat_cell h3 0 rfl rfl) (AllC_cons (sat_cell h3 0 rfl rfl) (AllC_nil _)))) ?_
  have h5 : sat g w2 [Tab b n A E RL, Cl r1 [iV x, iV y, uV z] 28, R] := sat_sel [1, 0, 2] rfl h3
  refine plain_act (i := 2) (by kernel_rfl) ?_
  refine zCl 13 Try.call44 (tfind_ok b n A E RL x y z e (by omega) (by omega) (by omega) hg_ (by omega)) h5 (by kernel_rfl) ?_
  rintro v K w6 (⟨rfl, rfl⟩) h7
  refine ⟨_, rfl, ?_⟩
  have h8 : sat g w6 [Tab b n A E RL, Cl r1 [iV x, iV y, uV z] 28, R] := h7
  refine zB0 [6, 7, 8] [3, 4, 5] [(15, iV 0), (14, .agg #[iV e.d.1, iV e.d.2.1, uV e.d.2.2, iV e.num, iV e.h.1, uV e.h.2]), (10, .tuple #[.agg #[iV e.d.1, iV e.d.2.1, uV e.d.2.2, iV e.num, iV e.h.1, uV e.h.2], iV 0])] (by kernel_rfl) ?_
  refine plain_act (i := 6) (by kernel_rfl) ?_
  refine an_new (d := 7) (fun xb_ => pV xb_) (fun xb_ => Obj.cells [iV 0, iV 0, uV 0, iV 0, iV 0, uV 0].toArray 90 (0, 0)) (fun xb_ => by kernel_rfl) (by kernel_rfl) rfl h8 ?_
  intro r9 w10 (h11 : sat g w10 [Cl r9 [iV 0, iV 0, uV 0, iV 0, iV 0, uV 0] 90, Tab b n A E RL, Cl r1 [iV x, iV y, uV z] 28, R])
  refine plain_act (i := 7) (by kernel_rfl) ?_
  refine an_store [(0, iV e.d.1), (1, iV e.d.2.1), (2, uV e.d.2.2), (3, iV e.num), (4, iV e.h.1), (5, uV e.h.2)] (cs' := [iV e.d.1, iV e.d.2.1, uV e.d.2.2, iV e.num, iV e.h.1, uV e.h.2]) (by kernel_rfl) (by kernel_rfl) (allq ⟨⟨by simp, rfl⟩, ⟨by simp, rfl⟩, ⟨by simp, rfl⟩, ⟨by simp, rfl⟩, ⟨by simp, rfl⟩, ⟨by simp, rfl⟩, trivial⟩) rfl h11 ?_
  intro w12 (h13 : sat g w12 [Cl r9 [iV e.d.1, iV e.d.2.1, uV e.d.2.2, iV e.num, iV e.h.1, uV e.h.2] 90, Tab b n A E RL, Cl r1 [iV x, iV y, uV z] 28, R])
  refine zB0 [] [8] [(8, iV 0)] (by kernel_rfl) ?_
  refine PO.mk ?_
  change WP _ _ (CA Try.f15 [1, 1]) _ _ _
  refine fk_cut ([(0, pV b), (3, pV r1), (7, pV r9), (8, iV 0)] : Fr) (by kernel_rfl) (fun a => WP _ _ _ _ a _) (fun lr14 => ?_)
  refine zSq (by kernel_rfl) ?_
  refine zSq (by kernel_rfl) ?_
  refine zPl [0, 1] (by kernel_rfl) ?_
  refine zB0 [] [0, 1] [(17, .bool false), (16, iV 0)] (by kernel_rfl) ?_
  refine PO.mk ?_
  change WP _ _ (CA Try.f15 [1, 1, 0, 1]) _ _ _
  refine fk_cut ([(0, pV b), (3, pV r1), (7, pV r9), (8, iV 0), (17, .bool false)] : Fr) (by kernel_rfl) (fun a => WP _ _ _ _ a _) (fun lr15 => ?_)
  refine zCf (by kernel_rfl) ?_
  refine gi_skp (by kernel_rfl) ?_
  change WP _ _ (CA Try.f15 [1, 1, 1]) _ _ _
  refine zSq (by kernel_rfl) ?_
  refine zPl [0, 1, 2] (by kernel_rfl) ?_
  refine zBb [2] [(20, .agg #[iV x, iV y, uV z]), (19, pV b)] [⟨0, [], none⟩, ⟨1, [iV x, iV y, uV z], none⟩] [(1, ⟨r1, 0, none⟩, iV x), (1, ⟨r1, 1, none⟩, iV y), (1, ⟨r1, 2, none⟩, uV z)] [] (by kernel_rfl) trivial (AllC_cons (sat_cell h13 2 rfl rfl) (AllC_cons (sat_cell h13 2 rfl rfl) (AllC_cons (sat_cell h13 2 rfl rfl) (AllC_nil _)))) ?_
  have h16 : sat g w12 [Tab b n A E RL, Cl r9 [iV e.d.1, iV e.d.2.1, uV e.d.2.2, iV e.num, iV e.h.1, uV e.h.2] 90, Cl r1 [iV x, iV y, uV z] 28, R] := sat_sel [1, 0, 2, 3] rfl h13
  refine plain_act (i := 2) (by kernel_rfl) ?_
  refine zCl 21 Try.call45 (tdrop_ht b n A E RL x y z (by omega) (by omega) q s hs (by omega)) h16 (by kernel_rfl) ?_
  rintro v K w17 (⟨rfl, rfl⟩) h18
  refine ⟨_, rfl, ?_⟩
  have h19 : sat g w17 [Tab b n (giveA A q z) (gdel E y) RL, Cl r9 [iV e.d.1, iV e.d.2.1, uV e.d.2.2, iV e.num, iV e.h.1, uV e.h.2] 90, Cl r1 [iV x, iV y, uV z] 28, R] := h18
  refine PO.mk ?_
  change WP _ _ (CA Try.f15 [1, 1, 1, 1]) _ _ _
  refine fk_cut ([(0, pV b), (7, pV r9)] : Fr) (by kernel_rfl) (fun a => WP _ _ _ _ a _) (fun lr20 => ?_)
  refine zSq (by kernel_rfl) ?_
  refine zPl [0, 1, 2, 3, 4, 5, 6, 7, 8] (by kernel_rfl) ?_
  refine zBb [3, 4, 5, 6, 7, 8] [(25, iV e.num), (24, .pointer (some ⟨r9, 3, none⟩)), (23, pV b)] [⟨0, [], none⟩, ⟨1, [], none⟩, ⟨2, [iV e.num], none⟩] [(2, ⟨r9, 3, none⟩, iV e.num)] [] (by kernel_rfl) trivial (AllC_cons (sat_cell h19 1 rfl rfl) (AllC_nil _)) ?_
  refine plain_act (i := 3) (by kernel_rfl) ?_
  refine zCl 26 Try.call21 (tdescs_ok b n (giveA A q z) (gdel E y) RL e.num (by omega)) h19 (by kernel_rfl) ?_
  rintro v K w23 (⟨p21, c22, rfl, rfl⟩) h24
  refine ⟨_, rfl, ?_⟩
  have h25 : sat g w23 [Tab b n (giveA A q z) (gdel E y) RL, Sl 28 3 p21 (((descs (gdel E y) e.num).length)) c22 (fl eO (descs (gdel E y) e.num)), Cl r9 [iV e.d.1, iV e.d.2.1, uV e.d.2.2, iV e.num, iV e.h.1, uV e.h.2] 90, Cl r1 [iV x, iV y, uV z] 28, R] := h24
  refine zB0 [] [4, 5, 6, 7, 8] [(8, iV 0), (9, .slice p21 (((descs (gdel E y) e.num).length)) c22), (28, iV 0), (27, .slice p21 (((descs (gdel E y) e.num).length)) c22), (22, .tuple #[.slice p21 (((descs (gdel E y) e.num).length)) c22, iV 0])] (by kernel_rfl) ?_
  refine PO.mk ?_
  change WP _ _ (CA Try.f15 [1, 1, 1, 1, 1]) _ _ _
  refine fk_cut ([(7, pV r9), (8, iV 0), (9, .slice p21 (((descs (gdel E y) e.num).length)) c22)] : Fr) (by kernel_rfl) (fun a => WP _ _ _ _ a _) (fun lr26 => ?_)
  refine zSq (by kernel_rfl) ?_
  refine zPl [0, 1, 2, 3, 4, 5, 6, 7, 8] (by kernel_rfl) ?_
  refine zBb [4, 5, 6, 7, 8] [(32, iV ((((descs (gdel E y) e.num).length : Nat) : Int))), (31, .slice p21 (((descs (gdel E y) e.num).length)) c22), (30, iV e.num), (29, .pointer (some ⟨r9, 3, none⟩))] [⟨0, [], none⟩, ⟨1, [iV e.num], none⟩, ⟨2, [], none⟩, ⟨3, [], none⟩] [(1, ⟨r9, 3, none⟩, iV e.num)] [] (by kernel_rfl) trivial (AllC_cons (sat_cell h25 2 rfl rfl) (AllC_nil _)) ?_
  by_cases c27 : (((descs (gdel E y) e.num).length : Nat) : Int) = 0
  ·
    refine zBb [] [(6, iV 0), (5, .bool true), (4, iV e.num), (34, iV 0), (33, .bool true)] [⟨4, [], some (.bool true)⟩, ⟨5, [], none⟩, ⟨6, [], none⟩, ⟨7, [], none⟩, ⟨8, [], none⟩] [] [(.bool (((((descs (gdel E y) e.num).length : Nat) : Int)) == 0), .bool true)] (by kernel_rfl) ⟨(ov_et (by omega)), trivial⟩ (AllC_nil _) ?_
    refine PO.mk ?_
    change WP _ _ (CA Try.f15 [1, 1, 1, 1, 1, 1]) _ _ _
    refine fk_cut ([(4, iV e.num), (5, .bool true), (6, iV 0)] : Fr) (by kernel_rfl) (fun a => WP _ _ _ _ a _) (fun lr28 => ?_)
    refine gi_rt (by kernel_rfl) ?_
    repeat (first | simp only [Exit.inBlock] | simp only [Exit.then])
    have h29 : sat g w23 [Tab b n (giveA A q z) (gdel E y) RL, R] := sat_sel [0, 4] rfl h25
    refine hi_out [] (.tuple #[iV e.num, .bool true, iV 0]) [] (by kernel_rfl) (by intro q hq; cases hq) ?_
    exact ⟨.tuple #[iV e.num, .bool true, iV 0], [Tab b n (giveA A q z) (gdel E y) RL], rfl, ⟨by rw [decide_eq_true (by omega)], rfl⟩, h29⟩
  ·
    refine zBb [] [(6, iV 0), (5, .bool false), (4, iV e.num), (34, iV 0), (33, .bool false)] [⟨4, [], some (.bool false)⟩, ⟨5, [], none⟩, ⟨6, [], none⟩, ⟨7, [], none⟩, ⟨8, [], none⟩] [] [(.bool (((((descs (gdel E y) e.num).length : Nat) : Int)) == 0), .bool false)] (by kernel_rfl) ⟨(ov_ef (by omega)), trivial⟩ (AllC_nil _) ?_
    refine PO.mk ?_
    change WP _ _ (CA Try.f15 [1, 1, 1, 1, 1, 1]) _ _ _
    refine fk_cut ([(4, iV e.num), (5, .bool false), (6, iV 0)] : Fr) (by kernel_rfl) (fun a => WP _ _ _ _ a _) (fun lr30 => ?_)
    refine gi_rt (by kernel_rfl) ?_
    repeat (first | simp only [Exit.inBlock] | simp only [Exit.then])
    have h31 : sat g w23 [Tab b n (giveA A q z) (gdel E y) RL, R] := sat_sel [0, 4] rfl h25
    refine hi_out [] (.tuple #[iV e.num, .bool false, iV 0]) [] (by kernel_rfl) (by intro q hq; cases hq) ?_
    exact ⟨.tuple #[iV e.num, .bool false, iV 0], [Tab b n (giveA A q z) (gdel E y) RL], rfl, ⟨by rw [decide_eq_false (by omega)], rfl⟩, h31⟩

set_option maxHeartbeats 4000000 in
theorem tdup_n (x y z : Int) (hx hy : Int) : HT Try.prog 14 [Value.pointer none, Value.agg #[Value.int IntKind.i64 x, Value.int IntKind.i64 y, Value.int IntKind.u32 z], Value.agg #[Value.int IntKind.i64 hx, Value.int IntKind.u32 hy]] [] (fun v K => v = Value.tuple #[Value.agg #[Value.int IntKind.i64 0, Value.int IntKind.i64 0, Value.int IntKind.u32 0], Value.int IntKind.i64 1] ∧ K = []) := by
  refine hi_in 41 ([(0, .pointer none), (1, .agg #[iV x, iV y, uV z]), (2, .agg #[iV hx, uV hy])] : Fr) Try.func14 (by kernel_rfl) Try.ntmps14 rfl rfl ?_
  intro g w0 R h0
  change WP _ _ (CA Try.f14 []) _ _ _
  refine zSq (by kernel_rfl) ?_
  refine zPl [0, 1, 2, 3] (by kernel_rfl) ?_
  refine plain_act (i := 0) (by kernel_rfl) ?_
  refine an_new (d := 4) (fun xb_ => pV xb_) (fun xb_ => Obj.cells [iV x, iV y, uV z].toArray 28 (0, 0)) (fun xb_ => by kernel_rfl) (by kernel_rfl) rfl h0 ?_
  intro r1 w2 (h3 : sat g w2 [Cl r1 [iV x, iV y, uV z] 28, R])
  refine plain_act (i := 1) (by kernel_rfl) ?_
  refine an_new (d := 5) (fun xb_ => pV xb_) (fun xb_ => Obj.cells [iV hx, uV hy].toArray 34 (0, 0)) (fun xb_ => by kernel_rfl) (by kernel_rfl) rfl h3 ?_
  intro r4 w5 (h6 : sat g w5 [Cl r4 [iV hx, uV hy] 34, Cl r1 [iV x, iV y, uV z] 28, R])
  refine plain_act (i := 2) (by kernel_rfl) ?_
  refine an_new (d := 6) (fun xb_ => pV xb_) (fun xb_ => Obj.cells [iV 0, iV 0, uV 0].toArray 28 (0, 0)) (fun xb_ => by kernel_rfl) (by kernel_rfl) rfl h6 ?_
  intro r7 w8 (h9 : sat g w8 [Cl r7 [iV 0, iV 0, uV 0] 28, Cl r4 [iV hx, uV hy] 34, Cl r1 [iV x, iV y, uV z] 28, R])
  refine zB0 [] [3] [(7, iV 0)] (by kernel_rfl) ?_
  refine PO.mk ?_
  change WP _ _ (CA Try.f14 [1]) _ _ _
  refine fk_cut ([(0, .pointer none), (4, pV r1), (5, pV r4), (6, pV r7)] : Fr) (by kernel_rfl) (fun a => WP _ _ _ _ a _) (fun lr10 => ?_)
  refine zSq (by kernel_rfl) ?_
  refine zSq (by kernel_rfl) ?_
  refine zPl [0, 1, 2, 3, 4, 5, 6] (by kernel_rfl) ?_
  refine zB0 [1, 2, 3, 4, 5, 6] [0] [(10, .pointer none)] (by kernel_rfl) ?_
  refine plain_act (i := 1) (by kernel_rfl) ?_
  refine zCl 11 Try.call36 (tvalid_n) h9 (by kernel_rfl) ?_
  rintro v K w11 (⟨rfl, rfl⟩) h12
  refine ⟨_, rfl, ?_⟩
  have h13 : sat g w11 [Cl r7 [iV 0, iV 0, uV 0] 28, Cl r4 [iV hx, uV hy] 34, Cl r1 [iV x, iV y, uV z] 28, R] := h12
  refine zB0 [4, 5, 6] [2, 3] [(13, undef), (12, .bool false)] (by kernel_rfl) ?_
  refine plain_skip (by kernel_rfl : chkN (RA Try.f14 [1, 0, 0]) 41 _ 4 = some (some 14)) rfl ?_
  refine zB0 [] [5, 6] [(16, .bool false), (15, undef)] (by kernel_rfl) ?_
  refine PO.mk ?_
  change WP _ _ (CA Try.f14 [1, 0, 1]) _ _ _
  refine fk_cut ([(0, .pointer none), (4, pV r1), (5, pV r4), (6, pV r7), (16, .bool false)] : Fr) (by kernel_rfl) (fun a => WP _ _ _ _ a _) (fun lr14 => ?_)
  refine zCf (by kernel_rfl) ?_
  refine gi_skp (by kernel_rfl) ?_
  change WP _ _ (CA Try.f14 [1, 1]) _ _ _
  refine zSq (by kernel_rfl) ?_
  refine zPl [0, 1, 2, 3, 4, 5, 6, 7, 8] (by kernel_rfl) ?_
  refine zBb [2, 3, 4, 5, 6, 7, 8] [(20, .agg #[iV x, iV y, uV z]), (19, .pointer none)] [⟨0, [], none⟩, ⟨1, [iV x, iV y, uV z], none⟩] [(1, ⟨r1, 0, none⟩, iV x), (1, ⟨r1, 1, none⟩, iV y), (1, ⟨r1, 2, none⟩, uV z)] [] (by kernel_rfl) trivial (AllC_cons (sat_cell h13 2 rfl rfl) (AllC_cons (sat_cell h13 2 rfl rfl) (AllC_cons (sat_cell h13 2 rfl rfl) (AllC_nil _)))) ?_
  refine plain_act (i := 2) (by kernel_rfl) ?_
  refine zCl 21 Try.call44 (tfind_n x y z) h13 (by kernel_rfl) ?_
  rintro v K w15 (⟨rfl, rfl⟩) h16
  refine ⟨_, rfl, ?_⟩
  have h17 : sat g w15 [Cl r7 [iV 0, iV 0, uV 0] 28, Cl r4 [iV hx, uV hy] 34, Cl r1 [iV x, iV y, uV z] 28, R] := h16
  refine zB0 [6, 7, 8] [3, 4, 5] [(23, iV 1), (22, .agg #[iV 0, iV 0, uV 0, iV 0, iV 0, uV 0]), (18, .tuple #[.agg #[iV 0, iV 0, uV 0, iV 0, iV 0, uV 0], iV 1])] (by kernel_rfl) ?_
  refine plain_act (i := 6) (by kernel_rfl) ?_
  refine an_new (d := 8) (fun xb_ => pV xb_) (fun xb_ => Obj.cells [iV 0, iV 0, uV 0, iV 0, iV 0, uV 0].toArray 90 (0, 0)) (fun xb_ => by kernel_rfl) (by kernel_rfl) rfl h17 ?_
  intro r18 w19 (h20 : sat g w19 [Cl r18 [iV 0, iV 0, uV 0, iV 0, iV 0, uV 0] 90, Cl r7 [iV 0, iV 0, uV 0] 28, Cl r4 [iV hx, uV hy] 34, Cl r1 [iV x, iV y, uV z] 28, R])
  refine plain_act (i := 7) (by kernel_rfl) ?_
  refine an_store [(0, iV 0), (1, iV 0), (2, uV 0), (3, iV 0), (4, iV 0), (5, uV 0)] (cs' := [iV 0, iV 0, uV 0, iV 0, iV 0, uV 0]) (by kernel_rfl) (by kernel_rfl) (allq ⟨⟨by simp, rfl⟩, ⟨by simp, rfl⟩, ⟨by simp, rfl⟩, ⟨by simp, rfl⟩, ⟨by simp, rfl⟩, ⟨by simp, rfl⟩, trivial⟩) rfl h20 ?_
  intro w21 (h22 : sat g w21 [Cl r18 [iV 0, iV 0, uV 0, iV 0, iV 0, uV 0] 90, Cl r7 [iV 0, iV 0, uV 0] 28, Cl r4 [iV hx, uV hy] 34, Cl r1 [iV x, iV y, uV z] 28, R])
  refine zB0 [] [8] [(9, iV 1)] (by kernel_rfl) ?_
  refine PO.mk ?_
  change WP _ _ (CA Try.f14 [1, 1, 1]) _ _ _
  refine fk_cut ([(0, .pointer none), (5, pV r4), (6, pV r7), (8, pV r18), (9, iV 1)] : Fr) (by kernel_rfl) (fun a => WP _ _ _ _ a _) (fun lr23 => ?_)
  refine zSq (by kernel_rfl) ?_
  refine gi_blk (id := 0) (x := CA Try.f14 [1, 1, 1, 0, 0]) (by kernel_rfl) ?_
  refine zSq (by kernel_rfl) ?_
  refine zPl [0, 1, 2] (by kernel_rfl) ?_
  refine zB0 [] [0, 1, 2] [(24, .bool true), (26, .bool true), (25, iV 1)] (by kernel_rfl) ?_
  refine PO.mk ?_
  change WP _ _ (CA Try.f14 [1, 1, 1, 0, 0, 1]) _ _ _
  refine fk_cut ([(0, .pointer none), (5, pV r4), (6, pV r7), (8, pV r18), (9, iV 1), (24, .bool true)] : Fr) (by kernel_rfl) (fun a => WP _ _ _ _ a _) (fun lr24 => ?_)
  refine zCt (by kernel_rfl) ?_
  refine zSq (by kernel_rfl) ?_
  refine zPl [0, 1, 2, 3] (by kernel_rfl) ?_
  refine zB0 [2, 3] [0, 1] [(28, iV 1), (27, .agg #[iV 0, iV 0, uV 0])] (by kernel_rfl) ?_
  have h25 : sat g w21 [Cl r7 [iV 0, iV 0, uV 0] 28, Cl r18 [iV 0, iV 0, uV 0, iV 0, iV 0, uV 0] 90, Cl r4 [iV hx, uV hy] 34, Cl r1 [iV x, iV y, uV z] 28, R] := sat_sel [1, 0, 2, 3, 4] rfl h22
  refine plain_act (i := 2) (by kernel_rfl) ?_
  refine an_store [(0, iV 0), (1, iV 0), (2, uV 0)] (cs' := [iV 0, iV 0, uV 0]) (by kernel_rfl) (by kernel_rfl) (allq ⟨⟨by simp, rfl⟩, ⟨by simp, rfl⟩, ⟨by simp, rfl⟩, trivial⟩) rfl h25 ?_
  intro w26 (h27 : sat g w26 [Cl r7 [iV 0, iV 0, uV 0] 28, Cl r18 [iV 0, iV 0, uV 0, iV 0, iV 0, uV 0] 90, Cl r4 [iV hx, uV hy] 34, Cl r1 [iV x, iV y, uV z] 28, R])
  refine zB0 [] [3] [(7, iV 1)] (by kernel_rfl) ?_
  refine PO.mk ?_
  change WP _ _ (CA Try.f14 [1, 1, 1, 0, 0, 1, 0, 1]) _ _ _
  refine fk_cut ([(6, pV r7), (7, iV 1)] : Fr) (by kernel_rfl) (fun a => WP _ _ _ _ a _) (fun lr28 => ?_)
  refine gi_rt (by kernel_rfl) ?_
  repeat (first | simp only [Exit.inBlock] | simp only [Exit.then])
  have h29 : sat g w26 [R] := sat_sel [4] rfl h27
  refine hi_out [iV 0, iV 0, uV 0] (.tuple #[.agg #[iV 0, iV 0, uV 0], iV 1]) [(⟨r7, 0, none⟩, iV 0), (⟨r7, 1, none⟩, iV 0), (⟨r7, 2, none⟩, uV 0)] (by kernel_rfl) (allq ⟨sat_cell h27 0 rfl rfl, sat_cell h27 0 rfl rfl, sat_cell h27 0 rfl rfl, trivial⟩) ?_
  exact ⟨.tuple #[.agg #[iV 0, iV 0, uV 0], iV 1], [], rfl, ⟨rfl, rfl⟩, h29⟩

set_option maxHeartbeats 4000000 in
theorem tdup_z (b : Nat) (x y z : Int) (hx hy : Int) : HT Try.prog 14 [Value.pointer (some ⟨b, 0, none⟩), Value.agg #[Value.int IntKind.i64 x, Value.int IntKind.i64 y, Value.int IntKind.u32 z], Value.agg #[Value.int IntKind.i64 hx, Value.int IntKind.u32 hy]] [Cl b [Value.pointer none, Value.map none, Value.slice none 0 0] 76] (fun v K => v = Value.tuple #[Value.agg #[Value.int IntKind.i64 0, Value.int IntKind.i64 0, Value.int IntKind.u32 0], Value.int IntKind.i64 1] ∧ K = [Cl b [Value.pointer none, Value.map none, Value.slice none 0 0] 76]) := by
  refine hi_in 41 ([(0, pV b), (1, .agg #[iV x, iV y, uV z]), (2, .agg #[iV hx, uV hy])] : Fr) Try.func14 (by kernel_rfl) Try.ntmps14 rfl rfl ?_
  intro g w0 R h0
  change WP _ _ (CA Try.f14 []) _ _ _
  refine zSq (by kernel_rfl) ?_
  refine zPl [0, 1, 2, 3] (by kernel_rfl) ?_
  refine plain_act (i := 0) (by kernel_rfl) ?_
  refine an_new (d := 4) (fun xb_ => pV xb_) (fun xb_ => Obj.cells [iV x, iV y, uV z].toArray 28 (0, 0)) (fun xb_ => by kernel_rfl) (by kernel_rfl) rfl h0 ?_
  intro r1 w2 (h3 : sat g w2 [Cl r1 [iV x, iV y, uV z] 28, Cl b [.pointer none, .map none, .slice none 0 0] 76, R])
  refine plain_act (i := 1) (by kernel_rfl) ?_
  refine an_new (d := 5) (fun xb_ => pV xb_) (fun xb_ => Obj.cells [iV hx, uV hy].toArray 34 (0, 0)) (fun xb_ => by kernel_rfl) (by kernel_rfl) rfl h3 ?_
  intro r4 w5 (h6 : sat g w5 [Cl r4 [iV hx, uV hy] 34, Cl r1 [iV x, iV y, uV z] 28, Cl b [.pointer none, .map none, .slice none 0 0] 76, R])
  refine plain_act (i := 2) (by kernel_rfl) ?_
  refine an_new (d := 6) (fun xb_ => pV xb_) (fun xb_ => Obj.cells [iV 0, iV 0, uV 0].toArray 28 (0, 0)) (fun xb_ => by kernel_rfl) (by kernel_rfl) rfl h6 ?_
  intro r7 w8 (h9 : sat g w8 [Cl r7 [iV 0, iV 0, uV 0] 28, Cl r4 [iV hx, uV hy] 34, Cl r1 [iV x, iV y, uV z] 28, Cl b [.pointer none, .map none, .slice none 0 0] 76, R])
  refine zB0 [] [3] [(7, iV 0)] (by kernel_rfl) ?_
  refine PO.mk ?_
  change WP _ _ (CA Try.f14 [1]) _ _ _
  refine fk_cut ([(0, pV b), (4, pV r1), (5, pV r4), (6, pV r7)] : Fr) (by kernel_rfl) (fun a => WP _ _ _ _ a _) (fun lr10 => ?_)
  refine zSq (by kernel_rfl) ?_
  refine zSq (by kernel_rfl) ?_
  refine zPl [0, 1, 2, 3, 4, 5, 6] (by kernel_rfl) ?_
  refine zB0 [1, 2, 3, 4, 5, 6] [0] [(10, pV b)] (by kernel_rfl) ?_
  have h11 : sat g w8 [Cl b [.pointer none, .map none, .slice none 0 0] 76, Cl r7 [iV 0, iV 0, uV 0] 28, Cl r4 [iV hx, uV hy] 34, Cl r1 [iV x, iV y, uV z] 28, R] := sat_sel [3, 0, 1, 2, 4] rfl h9
  refine plain_act (i := 1) (by kernel_rfl) ?_
  refine zCl 11 Try.call36 (tvalid_z b) h11 (by kernel_rfl) ?_
  rintro v K w12 (⟨rfl, rfl⟩) h13
  refine ⟨_, rfl, ?_⟩
  have h14 : sat g w12 [Cl b [.pointer none, .map none, .slice none 0 0] 76, Cl r7 [iV 0, iV 0, uV 0] 28, Cl r4 [iV hx, uV hy] 34, Cl r1 [iV x, iV y, uV z] 28, R] := h13
  refine zB0 [4, 5, 6] [2, 3] [(13, undef), (12, .bool false)] (by kernel_rfl) ?_
  refine plain_skip (by kernel_rfl : chkN (RA Try.f14 [1, 0, 0]) 41 _ 4 = some (some 14)) rfl ?_
  refine zB0 [] [5, 6] [(16, .bool false), (15, undef)] (by kernel_rfl) ?_
  refine PO.mk ?_
  change WP _ _ (CA Try.f14 [1, 0, 1]) _ _ _
  refine fk_cut ([(0, pV b), (4, pV r1), (5, pV r4), (6, pV r7), (16, .bool false)] : Fr) (by kernel_rfl) (fun a => WP _ _ _ _ a _) (fun lr15 => ?_)
  refine zCf (by kernel_rfl) ?_
  refine gi_skp (by kernel_rfl) ?_
  change WP _ _ (CA Try.f14 [1, 1]) _ _ _
  refine zSq (by kernel_rfl) ?_
  refine zPl [0, 1, 2, 3, 4, 5, 6, 7, 8] (by kernel_rfl) ?_
  refine zBb [2, 3, 4, 5, 6, 7, 8] [(20, .agg #[iV x, iV y, uV z]), (19, pV b)] [⟨0, [], none⟩, ⟨1, [iV x, iV y, uV z], none⟩] [(1, ⟨r1, 0, none⟩, iV x), (1, ⟨r1, 1, none⟩, iV y), (1, ⟨r1, 2, none⟩, uV z)] [] (by kernel_rfl) trivial (AllC_cons (sat_cell h14 3 rfl rfl) (AllC_cons (sat_cell h14 3 rfl rfl) (AllC_cons (sat_cell h14 3 rfl rfl) (AllC_nil _)))) ?_
  refine plain_act (i := 2) (by kernel_rfl) ?_
  refine zCl 21 Try.call44 (tfind_z b x y z) h14 (by kernel_rfl) ?_
  rintro v K w16 (⟨rfl, rfl⟩) h17
  refine ⟨_, rfl, ?_⟩
  have h18 : sat g w16 [Cl b [.pointer none, .map none, .slice none 0 0] 76, Cl r7 [iV 0, iV 0, uV 0] 28, Cl r4 [iV hx, uV hy] 34, Cl r1 [iV x, iV y, uV z] 28, R] := h17
  refine zB0 [6, 7, 8] [3, 4, 5] [(23, iV 1), (22, .agg #[iV 0, iV 0, uV 0, iV 0, iV 0, uV 0]), (18, .tuple #[.agg #[iV 0, iV 0, uV 0, iV 0, iV 0, uV 0], iV 1])] (by kernel_rfl) ?_
  refine plain_act (i := 6) (by kernel_rfl) ?_
  refine an_new (d := 8) (fun xb_ => pV xb_) (fun xb_ => Obj.cells [iV 0, iV 0, uV 0, iV 0, iV 0, uV 0].toArray 90 (0, 0)) (fun xb_ => by kernel_rfl) (by kernel_rfl) rfl h18 ?_
  intro r19 w20 (h21 : sat g w20 [Cl r19 [iV 0, iV 0, uV 0, iV 0, iV 0, uV 0] 90, Cl b [.pointer none, .map none, .slice none 0 0] 76, Cl r7 [iV 0, iV 0, uV 0] 28, Cl r4 [iV hx, uV hy] 34, Cl r1 [iV x, iV y, uV z] 28, R])
  refine plain_act (i := 7) (by kernel_rfl) ?_
  refine an_store [(0, iV 0), (1, iV 0), (2, uV 0), (3, iV 0), (4, iV 0), (5, uV 0)] (cs' := [iV 0, iV 0, uV 0, iV 0, iV 0, uV 0]) (by kernel_rfl) (by kernel_rfl) (allq ⟨⟨by simp, rfl⟩, ⟨by simp, rfl⟩, ⟨by simp, rfl⟩, ⟨by simp, rfl⟩, ⟨by simp, rfl⟩, ⟨by simp, rfl⟩, trivial⟩) rfl h21 ?_
  intro w22 (h23 : sat g w22 [Cl r19 [iV 0, iV 0, uV 0, iV 0, iV 0, uV 0] 90, Cl b [.pointer none, .map none, .slice none 0 0] 76, Cl r7 [iV 0, iV 0, uV 0] 28, Cl r4 [iV hx, uV hy] 34, Cl r1 [iV x, iV y, uV z] 28, R])
  refine zB0 [] [8] [(9, iV 1)] (by kernel_rfl) ?_
  refine PO.mk ?_
  change WP _ _ (CA Try.f14 [1, 1, 1]) _ _ _
  refine fk_cut ([(0, pV b), (5, pV r4), (6, pV r7), (8, pV r19), (9, iV 1)] : Fr) (by kernel_rfl) (fun a => WP _ _ _ _ a _) (fun lr24 => ?_)
  refine zSq (by kernel_rfl) ?_
  refine gi_blk (id := 0) (x := CA Try.f14 [1, 1, 1, 0, 0]) (by kernel_rfl) ?_
  refine zSq (by kernel_rfl) ?_
  refine zPl [0, 1, 2] (by kernel_rfl) ?_
  refine zB0 [] [0, 1, 2] [(24, .bool true), (26, .bool true), (25, iV 1)] (by kernel_rfl) ?_
  refine PO.mk ?_
  change WP _ _ (CA Try.f14 [1, 1, 1, 0, 0, 1]) _ _ _
  refine fk_cut ([(0, pV b), (5, pV r4), (6, pV r7), (8, pV r19), (9, iV 1), (24, .bool true)] : Fr) (by kernel_rfl) (fun a => WP _ _ _ _ a _) (fun lr25 => ?_)
  refine zCt (by kernel_rfl) ?_
  refine zSq (by kernel_rfl) ?_
  refine zPl [0, 1, 2, 3] (by kernel_rfl) ?_
  refine zB0 [2, 3] [0, 1] [(28, iV 1), (27, .agg #[iV 0, iV 0, uV 0])] (by kernel_rfl) ?_
  have h26 : sat g w22 [Cl r7 [iV 0, iV 0, uV 0] 28, Cl r19 [iV 0, iV 0, uV 0, iV 0, iV 0, uV 0] 90, Cl b [.pointer none, .map none, .slice none 0 0] 76, Cl r4 [iV hx, uV hy] 34, Cl r1 [iV x, iV y, uV z] 28, R] := sat_sel [2, 0, 1, 3, 4, 5] rfl h23
  refine plain_act (i := 2) (by kernel_rfl) ?_
  refine an_store [(0, iV 0), (1, iV 0), (2, uV 0)] (cs' := [iV 0, iV 0, uV 0]) (by kernel_rfl) (by kernel_rfl) (allq ⟨⟨by simp, rfl⟩, ⟨by simp, rfl⟩, ⟨by simp, rfl⟩, trivial⟩) rfl h26 ?_
  intro w27 (h28 : sat g w27 [Cl r7 [iV 0, iV 0, uV 0] 28, Cl r19 [iV 0, iV 0, uV 0, iV 0, iV 0, uV 0] 90, Cl b [.pointer none, .map none, .slice none 0 0] 76, Cl r4 [iV hx, uV hy] 34, Cl r1 [iV x, iV y, uV z] 28, R])
  refine zB0 [] [3] [(7, iV 1)] (by kernel_rfl) ?_
  refine PO.mk ?_
  change WP _ _ (CA Try.f14 [1, 1, 1, 0, 0, 1, 0, 1]) _ _ _
  refine fk_cut ([(6, pV r7), (7, iV 1)] : Fr) (by kernel_rfl) (fun a => WP _ _ _ _ a _) (fun lr29 => ?_)
  refine gi_rt (by kernel_rfl) ?_
  repeat (first | simp only [Exit.inBlock] | simp only [Exit.then])
  have h30 : sat g w27 [Cl b [.pointer none, .map none, .slice none 0 0] 76, Cl r7 [iV 0, iV 0, uV 0] 28, Cl r19 [iV 0, iV 0, uV 0, iV 0, iV 0, uV 0] 90, Cl r4 [iV hx, uV hy] 34, Cl r1 [iV x, iV y, uV z] 28, R] := sat_sel [2, 0, 1, 3, 4, 5] rfl h28
  have h31 : sat g w27 [Cl b [.pointer none, .map none, .slice none 0 0] 76, R] := sat_sel [0, 5] rfl h30
  refine hi_out [iV 0, iV 0, uV 0] (.tuple #[.agg #[iV 0, iV 0, uV 0], iV 1]) [(⟨r7, 0, none⟩, iV 0), (⟨r7, 1, none⟩, iV 0), (⟨r7, 2, none⟩, uV 0)] (by kernel_rfl) (allq ⟨sat_cell h28 0 rfl rfl, sat_cell h28 0 rfl rfl, sat_cell h28 0 rfl rfl, trivial⟩) ?_
  exact ⟨.tuple #[.agg #[iV 0, iV 0, uV 0], iV 1], [Cl b [.pointer none, .map none, .slice none 0 0] 76], rfl, ⟨rfl, rfl⟩, h31⟩

set_option maxHeartbeats 4000000 in
theorem tdup_ok (b n : Nat) (A : List Sl2) (E : Tm) (RL : List Rs) (x y z : Int) (hx hy : Int) (hob : 0 ≤ hx ∧ hx ≤ 255 ∧ 1 ≤ hy) (e : Ety) (hz0 : 0 ≤ z) (hz1 : z ≤ 4294967295) (ho : 1 ≤ x ∧ x ≤ 3 ∧ 0 ≤ y ∧ y ≤ 255 ∧ 1 ≤ z) (hg_ : gget E y = some e) (hd_ : e.d.1 = x ∧ e.d.2.1 = y ∧ e.d.2.2 = z) (hh : ∀ e ∈ allE E, e.h ≠ (hx, hy)) (q : Nat) (r : Rs) (hr : RL[q]? = some r) (hv : e.num = (q : Int) + 1) (j : Nat) (gj : Int) (hj : (inS 0 A 0)[0]? = some (j, gj)) (hfl_ : 1 ≤ (inS 0 A 0).length) : HT Try.prog 14 [Value.pointer (some ⟨b, 0, none⟩), Value.agg #[Value.int IntKind.i64 x, Value.int IntKind.i64 y, Value.int IntKind.u32 z], Value.agg #[Value.int IntKind.i64 hx, Value.int IntKind.u32 hy]] [Tab b n A E RL] (fun v K => v = Value.tuple #[Value.agg #[Value.int IntKind.i64 r.out.1, Value.int IntKind.i64 (((j : Nat) : Int)), Value.int IntKind.u32 gj], Value.int IntKind.i64 0] ∧ K = [Tab b n (A.set j (1, gj)) (gset E (j : Int) ⟨(r.out.1, (j : Int), gj), e.num, (hx, hy)⟩) RL]) := by
  refine hi_in 41 ([(0, pV b), (1, .agg #[iV x, iV y, uV z]), (2, .agg #[iV hx, uV hy])] : Fr) Try.func14 (by kernel_rfl) Try.ntmps14 rfl rfl ?_
  intro g w0 R h0
  change WP _ _ (CA Try.f14 []) _ _ _
  refine zSq (by kernel_rfl) ?_
  refine zPl [0, 1, 2, 3] (by kernel_rfl) ?_
  refine plain_act (i := 0) (by kernel_rfl) ?_
  refine an_new (d := 4) (fun xb_ => pV xb_) (fun xb_ => Obj.cells [iV x, iV y, uV z].toArray 28 (0, 0)) (fun xb_ => by kernel_rfl) (by kernel_rfl) rfl h0 ?_
  intro r1 w2 (h3 : sat g w2 [Cl r1 [iV x, iV y, uV z] 28, Tab b n A E RL, R])
  refine plain_act (i := 1) (by kernel_rfl) ?_
  refine an_new (d := 5) (fun xb_ => pV xb_) (fun xb_ => Obj.cells [iV hx, uV hy].toArray 34 (0, 0)) (fun xb_ => by kernel_rfl) (by kernel_rfl) rfl h3 ?_
  intro r4 w5 (h6 : sat g w5 [Cl r4 [iV hx, uV hy] 34, Cl r1 [iV x, iV y, uV z] 28, Tab b n A E RL, R])
  refine plain_act (i := 2) (by kernel_rfl) ?_
  refine an_new (d := 6) (fun xb_ => pV xb_) (fun xb_ => Obj.cells [iV 0, iV 0, uV 0].toArray 28 (0, 0)) (fun xb_ => by kernel_rfl) (by kernel_rfl) rfl h6 ?_
  intro r7 w8 (h9 : sat g w8 [Cl r7 [iV 0, iV 0, uV 0] 28, Cl r4 [iV hx, uV hy] 34, Cl r1 [iV x, iV y, uV z] 28, Tab b n A E RL, R])
  refine zB0 [] [3] [(7, iV 0)] (by kernel_rfl) ?_
  refine PO.mk ?_
  change WP _ _ (CA Try.f14 [1]) _ _ _
  refine fk_cut ([(0, pV b), (4, pV r1), (5, pV r4), (6, pV r7)] : Fr) (by kernel_rfl) (fun a => WP _ _ _ _ a _) (fun lr10 => ?_)
  refine zSq (by kernel_rfl) ?_
  refine zSq (by kernel_rfl) ?_
  refine zPl [0, 1, 2, 3, 4, 5, 6] (by kernel_rfl) ?_
  refine zB0 [1, 2, 3, 4, 5, 6] [0] [(10, pV b)] (by kernel_rfl) ?_
  have h11 : sat g w8 [Tab b n A E RL, Cl r7 [iV 0, iV 0, uV 0] 28, Cl r4 [iV hx, uV hy] 34, Cl r1 [iV x, iV y, uV z] 28, R] := sat_sel [3, 0, 1, 2, 4] rfl h9
  refine plain_act (i := 1) (by kernel_rfl) ?_
  refine zCl 11 Try.call36 (tvalid_ht b n A E RL) h11 (by kernel_rfl) ?_
  rintro v K w12 (⟨rfl, rfl⟩) h13
  refine ⟨_, rfl, ?_⟩
  have h14 : sat g w12 [Tab b n A E RL, Cl r7 [iV 0, iV 0, uV 0] 28, Cl r4 [iV hx, uV hy] 34, Cl r1 [iV x, iV y, uV z] 28, R] := h13
  refine zBb [4, 5, 6] [(13, .agg #[iV hx, uV hy]), (12, .bool true)] [⟨2, [], none⟩, ⟨3, [iV hx, uV hy], none⟩] [(3, ⟨r4, 0, none⟩, iV hx), (3, ⟨r4, 1, none⟩, uV hy)] [] (by kernel_rfl) trivial (AllC_cons (sat_cell h14 2 rfl rfl) (AllC_cons (sat_cell h14 2 rfl rfl) (AllC_nil _))) ?_
  refine plain_act (i := 4) (by kernel_rfl) ?_
  refine zCl 14 Try.call38 (obj_t hx hy (by omega)) h14 (by kernel_rfl) ?_
  rintro v K w15 (⟨rfl, rfl⟩) h16
  refine ⟨_, rfl, ?_⟩
  have h17 : sat g w15 [Tab b n A E RL, Cl r7 [iV 0, iV 0, uV 0] 28, Cl r4 [iV hx, uV hy] 34, Cl r1 [iV x, iV y, uV z] 28, R] := h16
  refine zB0 [] [5, 6] [(16, .bool false), (15, .bool false)] (by kernel_rfl) ?_
  refine PO.mk ?_
  change WP _ _ (CA Try.f14 [1, 0, 1]) _ _ _
  refine fk_cut ([(0, pV b), (4, pV r1), (5, pV r4), (6, pV r7), (16, .bool false)] : Fr) (by kernel_rfl) (fun a => WP _ _ _ _ a _) (fun lr18 => ?_)
  refine zCf (by kernel_rfl) ?_
  refine gi_skp (by kernel_rfl) ?_
  change WP _ _ (CA Try.f14 [1, 1]) _ _ _
  refine zSq (by kernel_rfl) ?_
  refine zPl [0, 1, 2, 3, 4, 5, 6, 7, 8] (by kernel_rfl) ?_
  refine zBb [2, 3, 4, 5, 6, 7, 8] [(20, .agg #[iV x, iV y, uV z]), (19, pV b)] [⟨0, [], none⟩, ⟨1, [iV x, iV y, uV z], none⟩] [(1, ⟨r1, 0, none⟩, iV x), (1, ⟨r1, 1, none⟩, iV y), (1, ⟨r1, 2, none⟩, uV z)] [] (by kernel_rfl) trivial (AllC_cons (sat_cell h17 3 rfl rfl) (AllC_cons (sat_cell h17 3 rfl rfl) (AllC_cons (sat_cell h17 3 rfl rfl) (AllC_nil _)))) ?_
  refine plain_act (i := 2) (by kernel_rfl) ?_
  refine zCl 21 Try.call44 (tfind_ok b n A E RL x y z e (by omega) (by omega) (by omega) hg_ (by omega)) h17 (by kernel_rfl) ?_
  rintro v K w19 (⟨rfl, rfl⟩) h20
  refine ⟨_, rfl, ?_⟩
  have h21 : sat g w19 [Tab b n A E RL, Cl r7 [iV 0, iV 0, uV 0] 28, Cl r4 [iV hx, uV hy] 34, Cl r1 [iV x, iV y, uV z] 28, R] := h20
  refine zB0 [6, 7, 8] [3, 4, 5] [(23, iV 0), (22, .agg #[iV e.d.1, iV e.d.2.1, uV e.d.2.2, iV e.num, iV e.h.1, uV e.h.2]), (18, .tuple #[.agg #[iV e.d.1, iV e.d.2.1, uV e.d.2.2, iV e.num, iV e.h.1, uV e.h.2], iV 0])] (by kernel_rfl) ?_
  refine plain_act (i := 6) (by kernel_rfl) ?_
  refine an_new (d := 8) (fun xb_ => pV xb_) (fun xb_ => Obj.cells [iV 0, iV 0, uV 0, iV 0, iV 0, uV 0].toArray 90 (0, 0)) (fun xb_ => by kernel_rfl) (by kernel_rfl) rfl h21 ?_
  intro r22 w23 (h24 : sat g w23 [Cl r22 [iV 0, iV 0, uV 0, iV 0, iV 0, uV 0] 90, Tab b n A E RL, Cl r7 [iV 0, iV 0, uV 0] 28, Cl r4 [iV hx, uV hy] 34, Cl r1 [iV x, iV y, uV z] 28, R])
  refine plain_act (i := 7) (by kernel_rfl) ?_
  refine an_store [(0, iV e.d.1), (1, iV e.d.2.1), (2, uV e.d.2.2), (3, iV e.num), (4, iV e.h.1), (5, uV e.h.2)] (cs' := [iV e.d.1, iV e.d.2.1, uV e.d.2.2, iV e.num, iV e.h.1, uV e.h.2]) (by kernel_rfl) (by kernel_rfl) (allq ⟨⟨by simp, rfl⟩, ⟨by simp, rfl⟩, ⟨by simp, rfl⟩, ⟨by simp, rfl⟩, ⟨by simp, rfl⟩, ⟨by simp, rfl⟩, trivial⟩) rfl h24 ?_
  intro w25 (h26 : sat g w25 [Cl r22 [iV e.d.1, iV e.d.2.1, uV e.d.2.2, iV e.num, iV e.h.1, uV e.h.2] 90, Tab b n A E RL, Cl r7 [iV 0, iV 0, uV 0] 28, Cl r4 [iV hx, uV hy] 34, Cl r1 [iV x, iV y, uV z] 28, R])
  refine zB0 [] [8] [(9, iV 0)] (by kernel_rfl) ?_
  refine PO.mk ?_
  change WP _ _ (CA Try.f14 [1, 1, 1]) _ _ _
  refine fk_cut ([(0, pV b), (5, pV r4), (6, pV r7), (8, pV r22), (9, iV 0)] : Fr) (by kernel_rfl) (fun a => WP _ _ _ _ a _) (fun lr27 => ?_)
  refine zSq (by kernel_rfl) ?_
  refine gi_blk (id := 0) (x := CA Try.f14 [1, 1, 1, 0, 0]) (by kernel_rfl) ?_
  refine zSq (by kernel_rfl) ?_
  refine zPl [0, 1, 2] (by kernel_rfl) ?_
  refine zB0 [] [0, 1, 2] [(24, .bool false), (26, .bool false), (25, iV 0)] (by kernel_rfl) ?_
  refine PO.mk ?_
  change WP _ _ (CA Try.f14 [1, 1, 1, 0, 0, 1]) _ _ _
  refine fk_cut ([(0, pV b), (5, pV r4), (6, pV r7), (8, pV r22), (9, iV 0), (24, .bool false)] : Fr) (by kernel_rfl) (fun a => WP _ _ _ _ a _) (fun lr28 => ?_)
  refine zCf (by kernel_rfl) ?_
  refine zSq (by kernel_rfl) ?_
  refine zPl [0, 1, 2, 3] (by kernel_rfl) ?_
  refine zBb [2, 3] [(31, .agg #[iV hx, uV hy]), (30, pV b)] [⟨0, [], none⟩, ⟨1, [iV hx, uV hy], none⟩] [(1, ⟨r4, 0, none⟩, iV hx), (1, ⟨r4, 1, none⟩, uV hy)] [] (by kernel_rfl) trivial (AllC_cons (sat_cell h26 3 rfl rfl) (AllC_cons (sat_cell h26 3 rfl rfl) (AllC_nil _))) ?_
  have h29 : sat g w25 [Tab b n A E RL, Cl r22 [iV e.d.1, iV e.d.2.1, uV e.d.2.2, iV e.num, iV e.h.1, uV e.h.2] 90, Cl r7 [iV 0, iV 0, uV 0] 28, Cl r4 [iV hx, uV hy] 34, Cl r1 [iV x, iV y, uV z] 28, R] := sat_sel [1, 0, 2, 3, 4, 5] rfl h26
  refine plain_act (i := 2) (by kernel_rfl) ?_
  refine zCl 32 Try.call41 (thas_f b n A E RL hx hy hh) h29 (by kernel_rfl) ?_
  rintro v K w30 (⟨rfl, rfl⟩) h31
  refine ⟨_, rfl, ?_⟩
  have h32 : sat g w30 [Tab b n A E RL, Cl r22 [iV e.d.1, iV e.d.2.1, uV e.d.2.2, iV e.num, iV e.h.1, uV e.h.2] 90, Cl r7 [iV 0, iV 0, uV 0] 28, Cl r4 [iV hx, uV hy] 34, Cl r1 [iV x, iV y, uV z] 28, R] := h31
  refine zB0 [] [3] [(29, .bool false)] (by kernel_rfl) ?_
  refine PO.mk ?_
  change WP _ _ (CA Try.f14 [1, 1, 1, 0, 0, 1, 1, 1]) _ _ _
  refine fk_cut ([(0, pV b), (5, pV r4), (6, pV r7), (8, pV r22), (29, .bool false)] : Fr) (by kernel_rfl) (fun a => WP _ _ _ _ a _) (fun lr33 => ?_)
  refine zCf (by kernel_rfl) ?_
  refine gi_skp (by kernel_rfl) ?_
  change WP _ _ (CA Try.f14 [1, 1, 1, 1]) _ _ _
  refine zSq (by kernel_rfl) ?_
  refine zPl [0, 1, 2, 3, 4, 5, 6, 7, 8] (by kernel_rfl) ?_
  refine zBb [4, 5, 6, 7, 8] [(37, .agg #[iV hx, uV hy]), (36, iV e.num), (35, .pointer (some ⟨r22, 3, none⟩)), (34, pV b)] [⟨0, [], none⟩, ⟨1, [], none⟩, ⟨2, [iV e.num], none⟩, ⟨3, [iV hx, uV hy], none⟩] [(3, ⟨r4, 0, none⟩, iV hx), (3, ⟨r4, 1, none⟩, uV hy), (2, ⟨r22, 3, none⟩, iV e.num)] [] (by kernel_rfl) trivial (AllC_cons (sat_cell h32 3 rfl rfl) (AllC_cons (sat_cell h32 3 rfl rfl) (AllC_cons (sat_cell h32 1 rfl rfl) (AllC_nil _)))) ?_
  refine plain_act (i := 4) (by kernel_rfl) ?_
  refine zCl 38 Try.call43 (tadd_ok b n A E RL e.num hx hy q r hr (by omega) j gj hj) h32 (by kernel_rfl) ?_
  rintro v K w34 (⟨rfl, rfl⟩) h35
  refine ⟨_, rfl, ?_⟩
  have h36 : sat g w34 [Tab b n (A.set j (1, gj)) (gset E (j : Int) ⟨(r.out.1, (j : Int), gj), e.num, (hx, hy)⟩) RL, Cl r22 [iV e.d.1, iV e.d.2.1, uV e.d.2.2, iV e.num, iV e.h.1, uV e.h.2] 90, Cl r7 [iV 0, iV 0, uV 0] 28, Cl r4 [iV hx, uV hy] 34, Cl r1 [iV x, iV y, uV z] 28, R] := h35
  refine zB0 [7, 8] [5, 6] [(40, iV 0), (39, .agg #[iV r.out.1, iV (((j : Nat) : Int)), uV gj])] (by kernel_rfl) ?_
  have h37 : sat g w34 [Cl r7 [iV 0, iV 0, uV 0] 28, Tab b n (A.set j (1, gj)) (gset E (j : Int) ⟨(r.out.1, (j : Int), gj), e.num, (hx, hy)⟩) RL, Cl r22 [iV e.d.1, iV e.d.2.1, uV e.d.2.2, iV e.num, iV e.h.1, uV e.h.2] 90, Cl r4 [iV hx, uV hy] 34, Cl r1 [iV x, iV y, uV z] 28, R] := sat_sel [2, 0, 1, 3, 4, 5] rfl h36
  refine plain_act (i := 7) (by kernel_rfl) ?_
  refine an_store [(0, iV r.out.1), (1, iV (((j : Nat) : Int))), (2, uV gj)] (cs' := [iV r.out.1, iV (((j : Nat) : Int)), uV gj]) (by kernel_rfl) (by kernel_rfl) (allq ⟨⟨by simp, rfl⟩, ⟨by simp, rfl⟩, ⟨by simp, rfl⟩, trivial⟩) rfl h37 ?_
  intro w38 (h39 : sat g w38 [Cl r7 [iV r.out.1, iV (((j : Nat) : Int)), uV gj] 28, Tab b n (A.set j (1, gj)) (gset E (j : Int) ⟨(r.out.1, (j : Int), gj), e.num, (hx, hy)⟩) RL, Cl r22 [iV e.d.1, iV e.d.2.1, uV e.d.2.2, iV e.num, iV e.h.1, uV e.h.2] 90, Cl r4 [iV hx, uV hy] 34, Cl r1 [iV x, iV y, uV z] 28, R])
  refine zB0 [] [8] [(7, iV 0)] (by kernel_rfl) ?_
  refine PO.mk ?_
  change WP _ _ (CA Try.f14 [1, 1, 1, 1, 1]) _ _ _
  refine fk_cut ([(6, pV r7), (7, iV 0)] : Fr) (by kernel_rfl) (fun a => WP _ _ _ _ a _) (fun lr40 => ?_)
  refine gi_rt (by kernel_rfl) ?_
  repeat (first | simp only [Exit.inBlock] | simp only [Exit.then])
  have h41 : sat g w38 [Tab b n (A.set j (1, gj)) (gset E (j : Int) ⟨(r.out.1, (j : Int), gj), e.num, (hx, hy)⟩) RL, Cl r7 [iV r.out.1, iV (((j : Nat) : Int)), uV gj] 28, Cl r22 [iV e.d.1, iV e.d.2.1, uV e.d.2.2, iV e.num, iV e.h.1, uV e.h.2] 90, Cl r4 [iV hx, uV hy] 34, Cl r1 [iV x, iV y, uV z] 28, R] := sat_sel [1, 0, 2, 3, 4, 5] rfl h39
  have h42 : sat g w38 [Tab b n (A.set j (1, gj)) (gset E (j : Int) ⟨(r.out.1, (j : Int), gj), e.num, (hx, hy)⟩) RL, R] := sat_sel [0, 5] rfl h41
  refine hi_out [iV r.out.1, iV (((j : Nat) : Int)), uV gj] (.tuple #[.agg #[iV r.out.1, iV (((j : Nat) : Int)), uV gj], iV 0]) [(⟨r7, 0, none⟩, iV r.out.1), (⟨r7, 1, none⟩, iV (((j : Nat) : Int))), (⟨r7, 2, none⟩, uV gj)] (by kernel_rfl) (allq ⟨sat_cell h39 0 rfl rfl, sat_cell h39 0 rfl rfl, sat_cell h39 0 rfl rfl, trivial⟩) ?_
  exact ⟨.tuple #[.agg #[iV r.out.1, iV (((j : Nat) : Int)), uV gj], iV 0], [Tab b n (A.set j (1, gj)) (gset E (j : Int) ⟨(r.out.1, (j : Int), gj), e.num, (hx, hy)⟩) RL], rfl, ⟨rfl, rfl⟩, h42⟩

end Go.Proofs.Ytjjpmehiolejgaa
