/- Walks, printed by my generator gen8.py. -/
import Derived.Test.YtjjpmehiolejgaaF7
import Derived.Test.YtjjpmehiolejgaaTabR
namespace Go.Proofs.Ytjjpmehiolejgaa
set_option maxHeartbeats 4000000 in
theorem in_t (v lo hi : Int) (h : lo ≤ v ∧ v ≤ hi) : HT Try.prog 65 [Value.int IntKind.i64 v, Value.int IntKind.i64 lo, Value.int IntKind.i64 hi] [] (fun r K => r = Value.bool true ∧ K = []) := by
  refine hi_in 15 ([(0, iV v), (1, iV lo), (2, iV hi)] : Fr) Try.func65 (by kernel_rfl) Try.ntmps65 rfl rfl ?_
  intro g w0 R h0
  change WP _ _ (CA Try.f65 []) _ _ _
  refine zSq (by kernel_rfl) ?_
  refine zPl [0] (by kernel_rfl) ?_
  refine zB0 [] [0] [(6, .bool false)] (by kernel_rfl) ?_
  refine PO.mk ?_
  change WP _ _ (CA Try.f65 [1]) _ _ _
  refine fk_cut ([(0, iV v), (1, iV lo), (2, iV hi)] : Fr) (by kernel_rfl) (fun a => WP _ _ _ _ a _) (fun lr1 => ?_)
  refine zSq (by kernel_rfl) ?_
  refine zPl [0, 1, 2, 3, 4, 5, 6, 7, 8] (by kernel_rfl) ?_
  refine zBb [] [(6, .bool true), (14, .bool true), (13, .bool true), (12, iV hi), (11, iV v), (10, .bool true), (9, .bool true), (8, iV lo), (7, iV v)] [⟨0, [], none⟩, ⟨1, [], none⟩, ⟨2, [], some (.bool true)⟩, ⟨3, [], none⟩, ⟨4, [], none⟩, ⟨5, [], none⟩, ⟨6, [], some (.bool true)⟩, ⟨7, [], none⟩, ⟨8, [], none⟩] [] [(.bool (decide (v ≥ lo)), .bool true), (.bool (decide (v ≤ hi)), .bool true)] (by kernel_rfl) ⟨(ov_t (by omega)), (ov_t (by omega)), trivial⟩ (AllC_nil _) ?_
  refine PO.mk ?_
  change WP _ _ (CA Try.f65 [1, 1]) _ _ _
  refine fk_cut ([(6, .bool true)] : Fr) (by kernel_rfl) (fun a => WP _ _ _ _ a _) (fun lr2 => ?_)
  refine gi_rt (by kernel_rfl) ?_
  repeat (first | simp only [Exit.inBlock] | simp only [Exit.then])
  refine hi_out [] (.bool true) [] (by kernel_rfl) (by intro q hq; cases hq) ?_
  exact ⟨.bool true, [], rfl, ⟨rfl, rfl⟩, h0⟩

set_option maxHeartbeats 4000000 in
theorem in_f (v lo hi : Int) (h : v < lo ∨ hi < v) : HT Try.prog 65 [Value.int IntKind.i64 v, Value.int IntKind.i64 lo, Value.int IntKind.i64 hi] [] (fun r K => r = Value.bool false ∧ K = []) := by
  refine hi_in 15 ([(0, iV v), (1, iV lo), (2, iV hi)] : Fr) Try.func65 (by kernel_rfl) Try.ntmps65 rfl rfl ?_
  intro g w0 R h0
  change WP _ _ (CA Try.f65 []) _ _ _
  refine zSq (by kernel_rfl) ?_
  refine zPl [0] (by kernel_rfl) ?_
  refine zB0 [] [0] [(6, .bool false)] (by kernel_rfl) ?_
  refine PO.mk ?_
  change WP _ _ (CA Try.f65 [1]) _ _ _
  refine fk_cut ([(0, iV v), (1, iV lo), (2, iV hi)] : Fr) (by kernel_rfl) (fun a => WP _ _ _ _ a _) (fun lr1 => ?_)
  refine zSq (by kernel_rfl) ?_
  refine zPl [0, 1, 2, 3, 4, 5, 6, 7, 8] (by kernel_rfl) ?_
  refine zB0 [2, 3, 4, 5, 6, 7, 8] [0, 1] [(8, iV lo), (7, iV v)] (by kernel_rfl) ?_
  by_cases c2 : v ≥ lo
  ·
    refine zBb [] [(6, .bool false), (14, .bool false), (13, .bool false), (12, iV hi), (11, iV v), (10, .bool true), (9, .bool true)] [⟨2, [], some (.bool true)⟩, ⟨3, [], none⟩, ⟨4, [], none⟩, ⟨5, [], none⟩, ⟨6, [], some (.bool false)⟩, ⟨7, [], none⟩, ⟨8, [], none⟩] [] [(.bool (decide (v ≥ lo)), .bool true), (.bool (decide (v ≤ hi)), .bool false)] (by kernel_rfl) ⟨(ov_t (by omega)), (ov_f (by omega)), trivial⟩ (AllC_nil _) ?_
    refine PO.mk ?_
    change WP _ _ (CA Try.f65 [1, 1]) _ _ _
    refine fk_cut ([(6, .bool false)] : Fr) (by kernel_rfl) (fun a => WP _ _ _ _ a _) (fun lr3 => ?_)
    refine gi_rt (by kernel_rfl) ?_
    repeat (first | simp only [Exit.inBlock] | simp only [Exit.then])
    refine hi_out [] (.bool false) [] (by kernel_rfl) (by intro q hq; cases hq) ?_
    exact ⟨.bool false, [], rfl, ⟨rfl, rfl⟩, h0⟩
  ·
    refine zBb [] [(6, .bool false), (14, .bool false), (13, undef), (12, undef), (11, undef), (10, .bool false), (9, .bool false)] [⟨2, [], some (.bool false)⟩, ⟨3, [], none⟩, ⟨4, [], none⟩, ⟨5, [], none⟩, ⟨6, [], none⟩, ⟨7, [], none⟩, ⟨8, [], none⟩] [] [(.bool (decide (v ≥ lo)), .bool false)] (by kernel_rfl) ⟨(ov_f (by omega)), trivial⟩ (AllC_nil _) ?_
    refine PO.mk ?_
    change WP _ _ (CA Try.f65 [1, 1]) _ _ _
    refine fk_cut ([(6, .bool false)] : Fr) (by kernel_rfl) (fun a => WP _ _ _ _ a _) (fun lr4 => ?_)
    refine gi_rt (by kernel_rfl) ?_
    repeat (first | simp only [Exit.inBlock] | simp only [Exit.then])
    refine hi_out [] (.bool false) [] (by kernel_rfl) (by intro q hq; cases hq) ?_
    exact ⟨.bool false, [], rfl, ⟨rfl, rfl⟩, h0⟩

set_option maxHeartbeats 4000000 in
theorem time_t (v : Int) (h : 0 ≤ v ∧ v ≤ 1099511627776) : HT Try.prog 66 [Value.int IntKind.i64 v] [] (fun r K => r = Value.bool true ∧ K = []) := by
  refine hi_in 5 ([(0, iV v)] : Fr) Try.func66 (by kernel_rfl) Try.ntmps66 rfl rfl ?_
  intro g w0 R h0
  change WP _ _ (CA Try.f66 []) _ _ _
  refine zSq (by kernel_rfl) ?_
  refine zPl [0] (by kernel_rfl) ?_
  refine zB0 [] [0] [(2, .bool false)] (by kernel_rfl) ?_
  refine PO.mk ?_
  change WP _ _ (CA Try.f66 [1]) _ _ _
  refine fk_cut ([(0, iV v)] : Fr) (by kernel_rfl) (fun a => WP _ _ _ _ a _) (fun lr1 => ?_)
  refine zSq (by kernel_rfl) ?_
  refine zPl [0, 1, 2] (by kernel_rfl) ?_
  refine zB0 [1, 2] [0] [(3, iV v)] (by kernel_rfl) ?_
  refine plain_act (i := 1) (by kernel_rfl) ?_
  refine zCl 4 Try.call65 (in_t v 0 1099511627776 (by omega)) h0 (by kernel_rfl) ?_
  rintro v K w2 (⟨rfl, rfl⟩) h3
  refine ⟨_, rfl, ?_⟩
  have h4 : sat g w2 [R] := h3
  refine zB0 [] [2] [(2, .bool true)] (by kernel_rfl) ?_
  refine PO.mk ?_
  change WP _ _ (CA Try.f66 [1, 1]) _ _ _
  refine fk_cut ([(2, .bool true)] : Fr) (by kernel_rfl) (fun a => WP _ _ _ _ a _) (fun lr5 => ?_)
  refine gi_rt (by kernel_rfl) ?_
  repeat (first | simp only [Exit.inBlock] | simp only [Exit.then])
  refine hi_out [] (.bool true) [] (by kernel_rfl) (by intro q hq; cases hq) ?_
  exact ⟨.bool true, [], rfl, ⟨rfl, rfl⟩, h4⟩

set_option maxHeartbeats 4000000 in
theorem time_f (v : Int) (h : v < 0 ∨ 1099511627776 < v) : HT Try.prog 66 [Value.int IntKind.i64 v] [] (fun r K => r = Value.bool false ∧ K = []) := by
  refine hi_in 5 ([(0, iV v)] : Fr) Try.func66 (by kernel_rfl) Try.ntmps66 rfl rfl ?_
  intro g w0 R h0
  change WP _ _ (CA Try.f66 []) _ _ _
  refine zSq (by kernel_rfl) ?_
  refine zPl [0] (by kernel_rfl) ?_
  refine zB0 [] [0] [(2, .bool false)] (by kernel_rfl) ?_
  refine PO.mk ?_
  change WP _ _ (CA Try.f66 [1]) _ _ _
  refine fk_cut ([(0, iV v)] : Fr) (by kernel_rfl) (fun a => WP _ _ _ _ a _) (fun lr1 => ?_)
  refine zSq (by kernel_rfl) ?_
  refine zPl [0, 1, 2] (by kernel_rfl) ?_
  refine zB0 [1, 2] [0] [(3, iV v)] (by kernel_rfl) ?_
  by_cases c2 : 0 ≤ v
  ·
    refine plain_act (i := 1) (by kernel_rfl) ?_
    refine zCl 4 Try.call65 (in_f v 0 1099511627776 (by omega)) h0 (by kernel_rfl) ?_
    rintro v K w3 (⟨rfl, rfl⟩) h4
    refine ⟨_, rfl, ?_⟩
    have h5 : sat g w3 [R] := h4
    refine zB0 [] [2] [(2, .bool false)] (by kernel_rfl) ?_
    refine PO.mk ?_
    change WP _ _ (CA Try.f66 [1, 1]) _ _ _
    refine fk_cut ([(2, .bool false)] : Fr) (by kernel_rfl) (fun a => WP _ _ _ _ a _) (fun lr6 => ?_)
    refine gi_rt (by kernel_rfl) ?_
    repeat (first | simp only [Exit.inBlock] | simp only [Exit.then])
    refine hi_out [] (.bool false) [] (by kernel_rfl) (by intro q hq; cases hq) ?_
    exact ⟨.bool false, [], rfl, ⟨rfl, rfl⟩, h5⟩
  ·
    refine plain_act (i := 1) (by kernel_rfl) ?_
    refine zCl 4 Try.call65 (in_f v 0 1099511627776 (by omega)) h0 (by kernel_rfl) ?_
    rintro v K w7 (⟨rfl, rfl⟩) h8
    refine ⟨_, rfl, ?_⟩
    have h9 : sat g w7 [R] := h8
    refine zB0 [] [2] [(2, .bool false)] (by kernel_rfl) ?_
    refine PO.mk ?_
    change WP _ _ (CA Try.f66 [1, 1]) _ _ _
    refine fk_cut ([(2, .bool false)] : Fr) (by kernel_rfl) (fun a => WP _ _ _ _ a _) (fun lr10 => ?_)
    refine gi_rt (by kernel_rfl) ?_
    repeat (first | simp only [Exit.inBlock] | simp only [Exit.then])
    refine hi_out [] (.bool false) [] (by kernel_rfl) (by intro q hq; cases hq) ?_
    exact ⟨.bool false, [], rfl, ⟨rfl, rfl⟩, h9⟩

set_option maxHeartbeats 4000000 in
theorem shapes_ht  : HT Try.prog 64 [] [] (fun v K => v = Value.agg #[Value.string (St []), Value.int IntKind.i64 0, Value.bool false, Value.string (St [108, 105, 118, 101]), Value.int IntKind.i64 0, Value.bool false, Value.string (St [99, 108, 111, 115, 105, 110, 103]), Value.int IntKind.i64 3, Value.bool true, Value.string (St [114, 101, 108, 101, 97, 115, 101, 100]), Value.int IntKind.i64 3, Value.bool false, Value.string (St [113, 117, 97, 114, 97, 110, 116, 105, 110, 101]), Value.int IntKind.i64 3, Value.bool false] ∧ K = []) := by
  refine hi_in 6 ([] : Fr) Try.func64 (by kernel_rfl) Try.ntmps64 rfl rfl ?_
  intro g w0 R h0
  change WP _ _ (CA Try.f64 []) _ _ _
  refine zSq (by kernel_rfl) ?_
  refine zPl [0] (by kernel_rfl) ?_
  refine plain_act (i := 0) (by kernel_rfl) ?_
  refine an_new (d := 0) (fun xb_ => pV xb_) (fun xb_ => Obj.cells [.string (St []), iV 0, .bool false, .string (St []), iV 0, .bool false, .string (St []), iV 0, .bool false, .string (St []), iV 0, .bool false, .string (St []), iV 0, .bool false].toArray 124 (0, 0)) (fun xb_ => by kernel_rfl) (by kernel_rfl) rfl h0 ?_
  intro r1 w2 (h3 : sat g w2 [Cl r1 [.string (St []), iV 0, .bool false, .string (St []), iV 0, .bool false, .string (St []), iV 0, .bool false, .string (St []), iV 0, .bool false, .string (St []), iV 0, .bool false] 124, R])
  refine PO.mk ?_
  change WP _ _ (CA Try.f64 [1]) _ _ _
  refine fk_cut ([(0, pV r1)] : Fr) (by kernel_rfl) (fun a => WP _ _ _ _ a _) (fun lr4 => ?_)
  refine zSq (by kernel_rfl) ?_
  refine zPl [0, 1, 2, 3, 4, 5] (by kernel_rfl) ?_
  refine zB0 [5] [0, 1, 2, 3, 4] [(5, .agg #[.string (St []), iV 0, .bool false, .string (St [108, 105, 118, 101]), iV 0, .bool false, .string (St [99, 108, 111, 115, 105, 110, 103]), iV 3, .bool true, .string (St [114, 101, 108, 101, 97, 115, 101, 100]), iV 3, .bool false, .string (St [113, 117, 97, 114, 97, 110, 116, 105, 110, 101]), iV 3, .bool false]), (4, .agg #[.string (St [113, 117, 97, 114, 97, 110, 116, 105, 110, 101]), iV 3, .bool false]), (3, .agg #[.string (St [114, 101, 108, 101, 97, 115, 101, 100]), iV 3, .bool false]), (2, .agg #[.string (St [99, 108, 111, 115, 105, 110, 103]), iV 3, .bool true]), (1, .agg #[.string (St [108, 105, 118, 101]), iV 0, .bool false])] (by kernel_rfl) ?_
  refine plain_act (i := 5) (by kernel_rfl) ?_
  refine an_store [(0, .string (St [])), (1, iV 0), (2, .bool false), (3, .string (St [108, 105, 118, 101])), (4, iV 0), (5, .bool false), (6, .string (St [99, 108, 111, 115, 105, 110, 103])), (7, iV 3), (8, .bool true), (9, .string (St [114, 101, 108, 101, 97, 115, 101, 100])), (10, iV 3), (11, .bool false), (12, .string (St [113, 117, 97, 114, 97, 110, 116, 105, 110, 101])), (13, iV 3), (14, .bool false)] (cs' := [.string (St []), iV 0, .bool false, .string (St [108, 105, 118, 101]), iV 0, .bool false, .string (St [99, 108, 111, 115, 105, 110, 103]), iV 3, .bool true, .string (St [114, 101, 108, 101, 97, 115, 101, 100]), iV 3, .bool false, .string (St [113, 117, 97, 114, 97, 110, 116, 105, 110, 101]), iV 3, .bool false]) (by kernel_rfl) (by kernel_rfl) (allq ⟨⟨by simp, rfl⟩, ⟨by simp, rfl⟩, ⟨by simp, rfl⟩, ⟨by simp, rfl⟩, ⟨by simp, rfl⟩, ⟨by simp, rfl⟩, ⟨by simp, rfl⟩, ⟨by simp, rfl⟩, ⟨by simp, rfl⟩, ⟨by simp, rfl⟩, ⟨by simp, rfl⟩, ⟨by simp, rfl⟩, ⟨by simp, rfl⟩, ⟨by simp, rfl⟩, ⟨by simp, rfl⟩, trivial⟩) rfl h3 ?_
  intro w5 (h6 : sat g w5 [Cl r1 [.string (St []), iV 0, .bool false, .string (St [108, 105, 118, 101]), iV 0, .bool false, .string (St [99, 108, 111, 115, 105, 110, 103]), iV 3, .bool true, .string (St [114, 101, 108, 101, 97, 115, 101, 100]), iV 3, .bool false, .string (St [113, 117, 97, 114, 97, 110, 116, 105, 110, 101]), iV 3, .bool false] 124, R])
  refine PO.mk ?_
  change WP _ _ (CA Try.f64 [1, 1]) _ _ _
  refine fk_cut ([(0, pV r1)] : Fr) (by kernel_rfl) (fun a => WP _ _ _ _ a _) (fun lr7 => ?_)
  refine gi_rt (by kernel_rfl) ?_
  repeat (first | simp only [Exit.inBlock] | simp only [Exit.then])
  have h8 : sat g w5 [R] := sat_sel [1] rfl h6
  refine hi_out [.string (St []), iV 0, .bool false, .string (St [108, 105, 118, 101]), iV 0, .bool false, .string (St [99, 108, 111, 115, 105, 110, 103]), iV 3, .bool true, .string (St [114, 101, 108, 101, 97, 115, 101, 100]), iV 3, .bool false, .string (St [113, 117, 97, 114, 97, 110, 116, 105, 110, 101]), iV 3, .bool false] (.agg #[.string (St []), iV 0, .bool false, .string (St [108, 105, 118, 101]), iV 0, .bool false, .string (St [99, 108, 111, 115, 105, 110, 103]), iV 3, .bool true, .string (St [114, 101, 108, 101, 97, 115, 101, 100]), iV 3, .bool false, .string (St [113, 117, 97, 114, 97, 110, 116, 105, 110, 101]), iV 3, .bool false]) [(⟨r1, 0, none⟩, .string (St [])), (⟨r1, 1, none⟩, iV 0), (⟨r1, 2, none⟩, .bool false), (⟨r1, 3, none⟩, .string (St [108, 105, 118, 101])), (⟨r1, 4, none⟩, iV 0), (⟨r1, 5, none⟩, .bool false), (⟨r1, 6, none⟩, .string (St [99, 108, 111, 115, 105, 110, 103])), (⟨r1, 7, none⟩, iV 3), (⟨r1, 8, none⟩, .bool true), (⟨r1, 9, none⟩, .string (St [114, 101, 108, 101, 97, 115, 101, 100])), (⟨r1, 10, none⟩, iV 3), (⟨r1, 11, none⟩, .bool false), (⟨r1, 12, none⟩, .string (St [113, 117, 97, 114, 97, 110, 116, 105, 110, 101])), (⟨r1, 13, none⟩, iV 3), (⟨r1, 14, none⟩, .bool false)] (by kernel_rfl) (allq ⟨sat_cell h6 0 rfl rfl, sat_cell h6 0 rfl rfl, sat_cell h6 0 rfl rfl, sat_cell h6 0 rfl rfl, sat_cell h6 0 rfl rfl, sat_cell h6 0 rfl rfl, sat_cell h6 0 rfl rfl, sat_cell h6 0 rfl rfl, sat_cell h6 0 rfl rfl, sat_cell h6 0 rfl rfl, sat_cell h6 0 rfl rfl, sat_cell h6 0 rfl rfl, sat_cell h6 0 rfl rfl, sat_cell h6 0 rfl rfl, sat_cell h6 0 rfl rfl, trivial⟩) ?_
  exact ⟨.agg #[.string (St []), iV 0, .bool false, .string (St [108, 105, 118, 101]), iV 0, .bool false, .string (St [99, 108, 111, 115, 105, 110, 103]), iV 3, .bool true, .string (St [114, 101, 108, 101, 97, 115, 101, 100]), iV 3, .bool false, .string (St [113, 117, 97, 114, 97, 110, 116, 105, 110, 101]), iV 3, .bool false], [], rfl, ⟨rfl, rfl⟩, h8⟩

set_option maxHeartbeats 4000000 in
theorem poss_ht (x y z st why tr nx : Int) (L : List UInt8) (hz0 : 0 ≤ z) (hz1 : z ≤ 4294967295) : HT Try.prog 49 [Value.agg #[Value.int IntKind.i64 x, Value.int IntKind.i64 y, Value.int IntKind.u32 z, Value.int IntKind.i64 st, Value.int IntKind.i64 why, Value.int IntKind.i64 tr, Value.int IntKind.i64 nx, Value.string (St L)]] [] (fun v K => v = Value.bool (decide (posP x y z st why tr nx)) ∧ K = []) := by
  refine hi_in 53 ([(0, .agg #[iV x, iV y, uV z, iV st, iV why, iV tr, iV nx, .string (St L)])] : Fr) Try.func49 (by kernel_rfl) Try.ntmps49 rfl rfl ?_
  intro g w0 R h0
  change WP _ _ (CA Try.f49 []) _ _ _
  refine zSq (by kernel_rfl) ?_
  refine zPl [0, 1] (by kernel_rfl) ?_
  refine plain_act (i := 0) (by kernel_rfl) ?_
  refine an_new (d := 1) (fun xb_ => pV xb_) (fun xb_ => Obj.cells [iV x, iV y, uV z, iV st, iV why, iV tr, iV nx, .string (St L)].toArray 42 (0, 0)) (fun xb_ => by kernel_rfl) (by kernel_rfl) rfl h0 ?_
  intro r1 w2 (h3 : sat g w2 [Cl r1 [iV x, iV y, uV z, iV st, iV why, iV tr, iV nx, .string (St L)] 42, R])
  refine zB0 [] [1] [(2, .bool false)] (by kernel_rfl) ?_
  refine PO.mk ?_
  change WP _ _ (CA Try.f49 [1]) _ _ _
  refine fk_cut ([(1, pV r1)] : Fr) (by kernel_rfl) (fun a => WP _ _ _ _ a _) (fun lr4 => ?_)
  refine zSq (by kernel_rfl) ?_
  refine zSq (by kernel_rfl) ?_
  refine zPl [0, 1, 2, 3, 4, 5, 6, 7, 8, 9, 10, 11, 12, 13] (by kernel_rfl) ?_
  refine zBb [2, 3, 4, 5, 6, 7, 8, 9, 10, 11, 12, 13] [(6, .agg #[iV x, iV y, uV z]), (5, pV r1)] [⟨0, [], none⟩, ⟨1, [iV x, iV y, uV z], none⟩] [(1, ⟨r1, 0, none⟩, iV x), (1, ⟨r1, 1, none⟩, iV y), (1, ⟨r1, 2, none⟩, uV z)] [] (by kernel_rfl) trivial (AllC_cons (sat_cell h3 0 rfl rfl) (AllC_cons (sat_cell h3 0 rfl rfl) (AllC_cons (sat_cell h3 0 rfl rfl) (AllC_nil _)))) ?_
  by_cases c5 : 1 ≤ x
  ·
    by_cases c6 : x ≤ 3
    ·
      by_cases c7 : 0 ≤ y
      ·
        by_cases c8 : y ≤ 63
        ·
          by_cases c9 : 1 ≤ z
          ·
            refine plain_act (i := 2) (by kernel_rfl) ?_
            refine zCl 7 Try.call63 (couter_ok x y z (by omega) (by omega) (by omega)) h3 (by kernel_rfl) ?_
            rintro v K w10 (⟨rfl, rfl⟩) h11
            refine ⟨_, rfl, ?_⟩
            have h12 : sat g w10 [Cl r1 [iV x, iV y, uV z, iV st, iV why, iV tr, iV nx, .string (St L)] 42, R] := h11
            refine zBb [7, 8, 9, 10, 11, 12, 13] [(11, iV st), (10, .pointer (some ⟨r1, 3, none⟩)), (9, .bool false), (8, .bool false)] [⟨3, [], none⟩, ⟨4, [], none⟩, ⟨5, [], none⟩, ⟨6, [iV st], none⟩] [(6, ⟨r1, 3, none⟩, iV st)] [] (by kernel_rfl) trivial (AllC_cons (sat_cell h12 0 rfl rfl) (AllC_nil _)) ?_
            by_cases c13 : st < 1
            ·
              refine zBb [] [(18, .bool true), (17, undef), (16, undef), (15, undef), (14, .bool true), (13, .bool true), (12, .bool true)] [⟨7, [], some (.bool true)⟩, ⟨8, [], none⟩, ⟨9, [], none⟩, ⟨10, [], none⟩, ⟨11, [], none⟩, ⟨12, [], none⟩, ⟨13, [], none⟩] [] [(.bool (decide (st < 1)), .bool true)] (by kernel_rfl) ⟨(ov_t (by omega)), trivial⟩ (AllC_nil _) ?_
              refine PO.mk ?_
              change WP _ _ (CA Try.f49 [1, 0, 1]) _ _ _
              refine fk_cut ([(1, pV r1), (18, .bool true)] : Fr) (by kernel_rfl) (fun a => WP _ _ _ _ a _) (fun lr14 => ?_)
              refine zCt (by kernel_rfl) ?_
              refine zSq (by kernel_rfl) ?_
              refine zPl [0] (by kernel_rfl) ?_
              refine zB0 [] [0] [(2, .bool false)] (by kernel_rfl) ?_
              refine PO.mk ?_
              change WP _ _ (CA Try.f49 [1, 0, 1, 0, 1]) _ _ _
              refine fk_cut ([(2, .bool false)] : Fr) (by kernel_rfl) (fun a => WP _ _ _ _ a _) (fun lr15 => ?_)
              refine gi_rt (by kernel_rfl) ?_
              repeat (first | simp only [Exit.inBlock] | simp only [Exit.then])
              have h16 : sat g w10 [R] := sat_sel [1] rfl h12
              refine hi_out [] (.bool false) [] (by kernel_rfl) (by intro q hq; cases hq) ?_
              exact ⟨.bool false, [], rfl, ⟨by rw [decide_eq_false (by unfold posP; omega)], rfl⟩, h16⟩
            ·
              refine zBb [12, 13] [(16, iV st), (15, .pointer (some ⟨r1, 3, none⟩)), (14, .bool false), (13, .bool false), (12, .bool false)] [⟨7, [], some (.bool false)⟩, ⟨8, [], none⟩, ⟨9, [], none⟩, ⟨10, [], none⟩, ⟨11, [iV st], none⟩] [(11, ⟨r1, 3, none⟩, iV st)] [(.bool (decide (st < 1)), .bool false)] (by kernel_rfl) ⟨(ov_f (by omega)), trivial⟩ (AllC_cons (sat_cell h12 0 rfl rfl) (AllC_nil _)) ?_
              by_cases c17 : st > 4
              ·
                refine zBb [] [(18, .bool true), (17, .bool true)] [⟨12, [], some (.bool true)⟩, ⟨13, [], none⟩] [] [(.bool (decide (st > 4)), .bool true)] (by kernel_rfl) ⟨(ov_t (by omega)), trivial⟩ (AllC_nil _) ?_
                refine PO.mk ?_
                change WP _ _ (CA Try.f49 [1, 0, 1]) _ _ _
                refine fk_cut ([(1, pV r1), (18, .bool true)] : Fr) (by kernel_rfl) (fun a => WP _ _ _ _ a _) (fun lr18 => ?_)
                refine zCt (by kernel_rfl) ?_
                refine zSq (by kernel_rfl) ?_
                refine zPl [0] (by kernel_rfl) ?_
                refine zB0 [] [0] [(2, .bool false)] (by kernel_rfl) ?_
                refine PO.mk ?_
                change WP _ _ (CA Try.f49 [1, 0, 1, 0, 1]) _ _ _
                refine fk_cut ([(2, .bool false)] : Fr) (by kernel_rfl) (fun a => WP _ _ _ _ a _) (fun lr19 => ?_)
                refine gi_rt (by kernel_rfl) ?_
                repeat (first | simp only [Exit.inBlock] | simp only [Exit.then])
                have h20 : sat g w10 [R] := sat_sel [1] rfl h12
                refine hi_out [] (.bool false) [] (by kernel_rfl) (by intro q hq; cases hq) ?_
                exact ⟨.bool false, [], rfl, ⟨by rw [decide_eq_false (by unfold posP; omega)], rfl⟩, h20⟩
              ·
                refine zBb [] [(18, .bool false), (17, .bool false)] [⟨12, [], some (.bool false)⟩, ⟨13, [], none⟩] [] [(.bool (decide (st > 4)), .bool false)] (by kernel_rfl) ⟨(ov_f (by omega)), trivial⟩ (AllC_nil _) ?_
                refine PO.mk ?_
                change WP _ _ (CA Try.f49 [1, 0, 1]) _ _ _
                refine fk_cut ([(1, pV r1), (18, .bool false)] : Fr) (by kernel_rfl) (fun a => WP _ _ _ _ a _) (fun lr21 => ?_)
                refine zCf (by kernel_rfl) ?_
                refine gi_skp (by kernel_rfl) ?_
                change WP _ _ (CA Try.f49 [1, 1]) _ _ _
                refine gi_join (x := CA Try.f49 [1, 1, 0]) (y := CA Try.f49 [1, 1, 1]) (fun a w => ∃ rb : Nat, ∃ hi : Int, ∃ bb : Bool, ∃ wd : List UInt8, ∃ lr : Fr, ((st = 1 ∧ hi = 0) ∨ ((st = 2 ∨ st = 3 ∨ st = 4) ∧ hi = 3)) ∧ (bb = decide (st = 2)) ∧ a = mk 53 (([(1, pV r1), (3, pV rb)] : Fr) ++ lr) ∧ sat g w [Cl rb [.string (St wd), iV hi, .bool (bb)] 123, Cl r1 [iV x, iV y, uV z, iV st, iV why, iV tr, iV nx, .string (St L)] 42, R]) (by kernel_rfl) ?_ ?_
                ·
                  refine gi_drw (id := 3) (ops := RA Try.f49 [1, 1, 0]) (Tr.fl 1 (Tr.fl 2 (Tr.an2 0 (Tr.fl 3 (Tr.an 4 (Tr.an 5 Tr.nil))) 4 (Tr.an 0 (Tr.fl 3 (Tr.an 5 Tr.nil)))))) (by kernel_rfl) (by kernel_rfl) (by kernel_rfl) (by kernel_rfl) (by kernel_rfl) (fun _ _ d _ _ h => by cases d <;> exact h) h12 ?_
                  intro w22 h23
                  refine draw_batch (t := (Tr.an2 0 (Tr.fl 3 (Tr.an 4 (Tr.an 5 Tr.nil))) 4 (Tr.an 0 (Tr.fl 3 (Tr.an 5 Tr.nil))))) [⟨1, [], none⟩, ⟨2, [iV st], none⟩] (l' := ([(21, iV st), (20, .pointer (some ⟨r1, 3, none⟩)), (1, pV r1), (18, .bool false)] : Fr) ++ lr21) (pts' := [(2, ⟨r1, 3, none⟩, iV st)]) (eqs := []) (by kernel_rfl) trivial (AllC_cons (sat_cell h23 0 rfl rfl) (AllC_nil _)) ?_
                  refine ⟨?_, ?_⟩
                  ·
                    refine draw_act (i := 0) [(2, ⟨r1, 3, none⟩, iV st)] (by kernel_rfl) (by kernel_rfl) ?_
                    refine zCl 19 Try.call64 (shapes_ht) h23 (by kernel_rfl) ?_
                    rintro v K w24 (⟨rfl, rfl⟩) h25
                    refine ⟨_, rfl, ?_⟩
                    have h26 : sat g w24 [Cl r1 [iV x, iV y, uV z, iV st, iV why, iV tr, iV nx, .string (St L)] 42, R] := h25
                    refine ⟨(AllC_cons (sat_cell h26 0 rfl rfl) (AllC_nil _)), ?_⟩
                    by_cases c27 : st = 1
                    ·
                      refine draw_law (i := 3) 22 (.agg #[.string (St [108, 105, 118, 101]), iV 0, .bool false]) [] (by kernel_rfl) (fun _ _ => law_index (o := opA (RA Try.f49 [1, 1, 0]) 3) (t := 124) (x := (Operand.tmp 19)) (y := (Operand.tmp 21)) (z := st) (cs := #[.string (St []), iV 0, .bool false, .string (St [108, 105, 118, 101]), iV 0, .bool false, .string (St [99, 108, 111, 115, 105, 110, 103]), iV 3, .bool true, .string (St [114, 101, 108, 101, 97, 115, 101, 100]), iV 3, .bool false, .string (St [113, 117, 97, 114, 97, 110, 116, 105, 110, 101]), iV 3, .bool false]) (by kernel_rfl) Try.underlying124 Try.underlying123 3 (by kernel_rfl) (by kernel_rfl) (by kernel_rfl) 1 (by omega) (by decide) (by rfl) _) (by intro q hq; cases hq) ?_
                      refine draw_act (i := 4) [(2, ⟨r1, 3, none⟩, iV st)] (by kernel_rfl) (by kernel_rfl) ?_
                      refine an_new (d := 3) (fun xb_ => pV xb_) (fun xb_ => Obj.cells [.string (St []), iV 0, .bool false].toArray 123 (0, 0)) (fun xb_ => by kernel_rfl) (by kernel_rfl) rfl h26 ?_
                      intro r28 w29 (h30 : sat g w29 [Cl r28 [.string (St []), iV 0, .bool false] 123, Cl r1 [iV x, iV y, uV z, iV st, iV why, iV tr, iV nx, .string (St L)] 42, R])
                      refine ⟨(AllC_cons (sat_cell h30 1 rfl rfl) (AllC_nil _)), ?_⟩
                      refine draw_act (i := 5) [] (by kernel_rfl) (by kernel_rfl) ?_
                      refine an_store [(0, .string (St [108, 105, 118, 101])), (1, iV 0), (2, .bool false)] (cs' := [.string (St [108, 105, 118, 101]), iV 0, .bool false]) (by kernel_rfl) (by kernel_rfl) (allq ⟨⟨by simp, rfl⟩, ⟨by simp, rfl⟩, ⟨by simp, rfl⟩, trivial⟩) rfl h30 ?_
                      intro w31 (h32 : sat g w31 [Cl r28 [.string (St [108, 105, 118, 101]), iV 0, .bool false] 123, Cl r1 [iV x, iV y, uV z, iV st, iV why, iV tr, iV nx, .string (St L)] 42, R])
                      refine ⟨(AllC_nil _), ?_⟩
                      exact ⟨r28, 0, false, [108, 105, 118, 101], _, (by omega), (by rw [decide_eq_false (by omega)]), (mk_live [(1, pV r1), (3, pV r28)] ⟨rfl, rfl, trivial⟩), h32⟩
                    ·
                      by_cases c33 : st = 2
                      ·
                        refine draw_law (i := 3) 22 (.agg #[.string (St [99, 108, 111, 115, 105, 110, 103]), iV 3, .bool true]) [] (by kernel_rfl) (fun _ _ => law_index (o := opA (RA Try.f49 [1, 1, 0]) 3) (t := 124) (x := (Operand.tmp 19)) (y := (Operand.tmp 21)) (z := st) (cs := #[.string (St []), iV 0, .bool false, .string (St [108, 105, 118, 101]), iV 0, .bool false, .string (St [99, 108, 111, 115, 105, 110, 103]), iV 3, .bool true, .string (St [114, 101, 108, 101, 97, 115, 101, 100]), iV 3, .bool false, .string (St [113, 117, 97, 114, 97, 110, 116, 105, 110, 101]), iV 3, .bool false]) (by kernel_rfl) Try.underlying124 Try.underlying123 3 (by kernel_rfl) (by kernel_rfl) (by kernel_rfl) 2 (by omega) (by decide) (by rfl) _) (by intro q hq; cases hq) ?_
                        refine draw_act (i := 4) [(2, ⟨r1, 3, none⟩, iV st)] (by kernel_rfl) (by kernel_rfl) ?_
                        refine an_new (d := 3) (fun xb_ => pV xb_) (fun xb_ => Obj.cells [.string (St []), iV 0, .bool false].toArray 123 (0, 0)) (fun xb_ => by kernel_rfl) (by kernel_rfl) rfl h26 ?_
                        intro r34 w35 (h36 : sat g w35 [Cl r34 [.string (St []), iV 0, .bool false] 123, Cl r1 [iV x, iV y, uV z, iV st, iV why, iV tr, iV nx, .string (St L)] 42, R])
                        refine ⟨(AllC_cons (sat_cell h36 1 rfl rfl) (AllC_nil _)), ?_⟩
                        refine draw_act (i := 5) [] (by kernel_rfl) (by kernel_rfl) ?_
                        refine an_store [(0, .string (St [99, 108, 111, 115, 105, 110, 103])), (1, iV 3), (2, .bool true)] (cs' := [.string (St [99, 108, 111, 115, 105, 110, 103]), iV 3, .bool true]) (by kernel_rfl) (by kernel_rfl) (allq ⟨⟨by simp, rfl⟩, ⟨by simp, rfl⟩, ⟨by simp, rfl⟩, trivial⟩) rfl h36 ?_
                        intro w37 (h38 : sat g w37 [Cl r34 [.string (St [99, 108, 111, 115, 105, 110, 103]), iV 3, .bool true] 123, Cl r1 [iV x, iV y, uV z, iV st, iV why, iV tr, iV nx, .string (St L)] 42, R])
                        refine ⟨(AllC_nil _), ?_⟩
                        exact ⟨r34, 3, true, [99, 108, 111, 115, 105, 110, 103], _, (by omega), (by rw [decide_eq_true (by omega)]), (mk_live [(1, pV r1), (3, pV r34)] ⟨rfl, rfl, trivial⟩), h38⟩
                      ·
                        by_cases c39 : st = 3
                        ·
                          refine draw_law (i := 3) 22 (.agg #[.string (St [114, 101, 108, 101, 97, 115, 101, 100]), iV 3, .bool false]) [] (by kernel_rfl) (fun _ _ => law_index (o := opA (RA Try.f49 [1, 1, 0]) 3) (t := 124) (x := (Operand.tmp 19)) (y := (Operand.tmp 21)) (z := st) (cs := #[.string (St []), iV 0, .bool false, .string (St [108, 105, 118, 101]), iV 0, .bool false, .string (St [99, 108, 111, 115, 105, 110, 103]), iV 3, .bool true, .string (St [114, 101, 108, 101, 97, 115, 101, 100]), iV 3, .bool false, .string (St [113, 117, 97, 114, 97, 110, 116, 105, 110, 101]), iV 3, .bool false]) (by kernel_rfl) Try.underlying124 Try.underlying123 3 (by kernel_rfl) (by kernel_rfl) (by kernel_rfl) 3 (by omega) (by decide) (by rfl) _) (by intro q hq; cases hq) ?_
                          refine draw_act (i := 4) [(2, ⟨r1, 3, none⟩, iV st)] (by kernel_rfl) (by kernel_rfl) ?_
                          refine an_new (d := 3) (fun xb_ => pV xb_) (fun xb_ => Obj.cells [.string (St []), iV 0, .bool false].toArray 123 (0, 0)) (fun xb_ => by kernel_rfl) (by kernel_rfl) rfl h26 ?_
                          intro r40 w41 (h42 : sat g w41 [Cl r40 [.string (St []), iV 0, .bool false] 123, Cl r1 [iV x, iV y, uV z, iV st, iV why, iV tr, iV nx, .string (St L)] 42, R])
                          refine ⟨(AllC_cons (sat_cell h42 1 rfl rfl) (AllC_nil _)), ?_⟩
                          refine draw_act (i := 5) [] (by kernel_rfl) (by kernel_rfl) ?_
                          refine an_store [(0, .string (St [114, 101, 108, 101, 97, 115, 101, 100])), (1, iV 3), (2, .bool false)] (cs' := [.string (St [114, 101, 108, 101, 97, 115, 101, 100]), iV 3, .bool false]) (by kernel_rfl) (by kernel_rfl) (allq ⟨⟨by simp, rfl⟩, ⟨by simp, rfl⟩, ⟨by simp, rfl⟩, trivial⟩) rfl h42 ?_
                          intro w43 (h44 : sat g w43 [Cl r40 [.string (St [114, 101, 108, 101, 97, 115, 101, 100]), iV 3, .bool false] 123, Cl r1 [iV x, iV y, uV z, iV st, iV why, iV tr, iV nx, .string (St L)] 42, R])
                          refine ⟨(AllC_nil _), ?_⟩
                          exact ⟨r40, 3, false, [114, 101, 108, 101, 97, 115, 101, 100], _, (by omega), (by rw [decide_eq_false (by omega)]), (mk_live [(1, pV r1), (3, pV r40)] ⟨rfl, rfl, trivial⟩), h44⟩
                        ·
                          refine draw_law (i := 3) 22 (.agg #[.string (St [113, 117, 97, 114, 97, 110, 116, 105, 110, 101]), iV 3, .bool false]) [] (by kernel_rfl) (fun _ _ => law_index (o := opA (RA Try.f49 [1, 1, 0]) 3) (t := 124) (x := (Operand.tmp 19)) (y := (Operand.tmp 21)) (z := st) (cs := #[.string (St []), iV 0, .bool false, .string (St [108, 105, 118, 101]), iV 0, .bool false, .string (St [99, 108, 111, 115, 105, 110, 103]), iV 3, .bool true, .string (St [114, 101, 108, 101, 97, 115, 101, 100]), iV 3, .bool false, .string (St [113, 117, 97, 114, 97, 110, 116, 105, 110, 101]), iV 3, .bool false]) (by kernel_rfl) Try.underlying124 Try.underlying123 3 (by kernel_rfl) (by kernel_rfl) (by kernel_rfl) 4 (by omega) (by decide) (by rfl) _) (by intro q hq; cases hq) ?_
                          refine draw_act (i := 4) [(2, ⟨r1, 3, none⟩, iV st)] (by kernel_rfl) (by kernel_rfl) ?_
                          refine an_new (d := 3) (fun xb_ => pV xb_) (fun xb_ => Obj.cells [.string (St []), iV 0, .bool false].toArray 123 (0, 0)) (fun xb_ => by kernel_rfl) (by kernel_rfl) rfl h26 ?_
                          intro r45 w46 (h47 : sat g w46 [Cl r45 [.string (St []), iV 0, .bool false] 123, Cl r1 [iV x, iV y, uV z, iV st, iV why, iV tr, iV nx, .string (St L)] 42, R])
                          refine ⟨(AllC_cons (sat_cell h47 1 rfl rfl) (AllC_nil _)), ?_⟩
                          refine draw_act (i := 5) [] (by kernel_rfl) (by kernel_rfl) ?_
                          refine an_store [(0, .string (St [113, 117, 97, 114, 97, 110, 116, 105, 110, 101])), (1, iV 3), (2, .bool false)] (cs' := [.string (St [113, 117, 97, 114, 97, 110, 116, 105, 110, 101]), iV 3, .bool false]) (by kernel_rfl) (by kernel_rfl) (allq ⟨⟨by simp, rfl⟩, ⟨by simp, rfl⟩, ⟨by simp, rfl⟩, trivial⟩) rfl h47 ?_
                          intro w48 (h49 : sat g w48 [Cl r45 [.string (St [113, 117, 97, 114, 97, 110, 116, 105, 110, 101]), iV 3, .bool false] 123, Cl r1 [iV x, iV y, uV z, iV st, iV why, iV tr, iV nx, .string (St L)] 42, R])
                          refine ⟨(AllC_nil _), ?_⟩
                          exact ⟨r45, 3, false, [113, 117, 97, 114, 97, 110, 116, 105, 110, 101], _, (by omega), (by rw [decide_eq_false (by omega)]), (mk_live [(1, pV r1), (3, pV r45)] ⟨rfl, rfl, trivial⟩), h49⟩
                  ·
                    refine draw_act (i := 4) [(2, ⟨r1, 3, none⟩, iV st)] (by kernel_rfl) (by kernel_rfl) ?_
                    refine an_new (d := 3) (fun xb_ => pV xb_) (fun xb_ => Obj.cells [.string (St []), iV 0, .bool false].toArray 123 (0, 0)) (fun xb_ => by kernel_rfl) (by kernel_rfl) rfl h23 ?_
                    intro r50 w51 (h52 : sat g w51 [Cl r50 [.string (St []), iV 0, .bool false] 123, Cl r1 [iV x, iV y, uV z, iV st, iV why, iV tr, iV nx, .string (St L)] 42, R])
                    refine ⟨(AllC_cons (sat_cell h52 1 rfl rfl) (AllC_nil _)), ?_⟩
                    refine draw_act (i := 0) [(2, ⟨r1, 3, none⟩, iV st)] (by kernel_rfl) (by kernel_rfl) ?_
                    refine zCl 19 Try.call64 (shapes_ht) h52 (by kernel_rfl) ?_
                    rintro v K w53 (⟨rfl, rfl⟩) h54
                    refine ⟨_, rfl, ?_⟩
                    have h55 : sat g w53 [Cl r50 [.string (St []), iV 0, .bool false] 123, Cl r1 [iV x, iV y, uV z, iV st, iV why, iV tr, iV nx, .string (St L)] 42, R] := h54
                    refine ⟨(AllC_cons (sat_cell h55 1 rfl rfl) (AllC_nil _)), ?_⟩
                    by_cases c56 : st = 1
                    ·
                      refine draw_law (i := 3) 22 (.agg #[.string (St [108, 105, 118, 101]), iV 0, .bool false]) [] (by kernel_rfl) (fun _ _ => law_index (o := opA (RA Try.f49 [1, 1, 0]) 3) (t := 124) (x := (Operand.tmp 19)) (y := (Operand.tmp 21)) (z := st) (cs := #[.string (St []), iV 0, .bool false, .string (St [108, 105, 118, 101]), iV 0, .bool false, .string (St [99, 108, 111, 115, 105, 110, 103]), iV 3, .bool true, .string (St [114, 101, 108, 101, 97, 115, 101, 100]), iV 3, .bool false, .string (St [113, 117, 97, 114, 97, 110, 116, 105, 110, 101]), iV 3, .bool false]) (by kernel_rfl) Try.underlying124 Try.underlying123 3 (by kernel_rfl) (by kernel_rfl) (by kernel_rfl) 1 (by omega) (by decide) (by rfl) _) (by intro q hq; cases hq) ?_
                      refine draw_act (i := 5) [] (by kernel_rfl) (by kernel_rfl) ?_
                      refine an_store [(0, .string (St [108, 105, 118, 101])), (1, iV 0), (2, .bool false)] (cs' := [.string (St [108, 105, 118, 101]), iV 0, .bool false]) (by kernel_rfl) (by kernel_rfl) (allq ⟨⟨by simp, rfl⟩, ⟨by simp, rfl⟩, ⟨by simp, rfl⟩, trivial⟩) rfl h55 ?_
                      intro w57 (h58 : sat g w57 [Cl r50 [.string (St [108, 105, 118, 101]), iV 0, .bool false] 123, Cl r1 [iV x, iV y, uV z, iV st, iV why, iV tr, iV nx, .string (St L)] 42, R])
                      refine ⟨(AllC_nil _), ?_⟩
                      exact ⟨r50, 0, false, [108, 105, 118, 101], _, (by omega), (by rw [decide_eq_false (by omega)]), (mk_live [(1, pV r1), (3, pV r50)] ⟨rfl, rfl, trivial⟩), h58⟩
                    ·
                      by_cases c59 : st = 2
                      ·
                        refine draw_law (i := 3) 22 (.agg #[.string (St [99, 108, 111, 115, 105, 110, 103]), iV 3, .bool true]) [] (by kernel_rfl) (fun _ _ => law_index (o := opA (RA Try.f49 [1, 1, 0]) 3) (t := 124) (x := (Operand.tmp 19)) (y := (Operand.tmp 21)) (z := st) (cs := #[.string (St []), iV 0, .bool false, .string (St [108, 105, 118, 101]), iV 0, .bool false, .string (St [99, 108, 111, 115, 105, 110, 103]), iV 3, .bool true, .string (St [114, 101, 108, 101, 97, 115, 101, 100]), iV 3, .bool false, .string (St [113, 117, 97, 114, 97, 110, 116, 105, 110, 101]), iV 3, .bool false]) (by kernel_rfl) Try.underlying124 Try.underlying123 3 (by kernel_rfl) (by kernel_rfl) (by kernel_rfl) 2 (by omega) (by decide) (by rfl) _) (by intro q hq; cases hq) ?_
                        refine draw_act (i := 5) [] (by kernel_rfl) (by kernel_rfl) ?_
                        refine an_store [(0, .string (St [99, 108, 111, 115, 105, 110, 103])), (1, iV 3), (2, .bool true)] (cs' := [.string (St [99, 108, 111, 115, 105, 110, 103]), iV 3, .bool true]) (by kernel_rfl) (by kernel_rfl) (allq ⟨⟨by simp, rfl⟩, ⟨by simp, rfl⟩, ⟨by simp, rfl⟩, trivial⟩) rfl h55 ?_
                        intro w60 (h61 : sat g w60 [Cl r50 [.string (St [99, 108, 111, 115, 105, 110, 103]), iV 3, .bool true] 123, Cl r1 [iV x, iV y, uV z, iV st, iV why, iV tr, iV nx, .string (St L)] 42, R])
                        refine ⟨(AllC_nil _), ?_⟩
                        exact ⟨r50, 3, true, [99, 108, 111, 115, 105, 110, 103], _, (by omega), (by rw [decide_eq_true (by omega)]), (mk_live [(1, pV r1), (3, pV r50)] ⟨rfl, rfl, trivial⟩), h61⟩
                      ·
                        by_cases c62 : st = 3
                        ·
                          refine draw_law (i := 3) 22 (.agg #[.string (St [114, 101, 108, 101, 97, 115, 101, 100]), iV 3, .bool false]) [] (by kernel_rfl) (fun _ _ => law_index (o := opA (RA Try.f49 [1, 1, 0]) 3) (t := 124) (x := (Operand.tmp 19)) (y := (Operand.tmp 21)) (z := st) (cs := #[.string (St []), iV 0, .bool false, .string (St [108, 105, 118, 101]), iV 0, .bool false, .string (St [99, 108, 111, 115, 105, 110, 103]), iV 3, .bool true, .string (St [114, 101, 108, 101, 97, 115, 101, 100]), iV 3, .bool false, .string (St [113, 117, 97, 114, 97, 110, 116, 105, 110, 101]), iV 3, .bool false]) (by kernel_rfl) Try.underlying124 Try.underlying123 3 (by kernel_rfl) (by kernel_rfl) (by kernel_rfl) 3 (by omega) (by decide) (by rfl) _) (by intro q hq; cases hq) ?_
                          refine draw_act (i := 5) [] (by kernel_rfl) (by kernel_rfl) ?_
                          refine an_store [(0, .string (St [114, 101, 108, 101, 97, 115, 101, 100])), (1, iV 3), (2, .bool false)] (cs' := [.string (St [114, 101, 108, 101, 97, 115, 101, 100]), iV 3, .bool false]) (by kernel_rfl) (by kernel_rfl) (allq ⟨⟨by simp, rfl⟩, ⟨by simp, rfl⟩, ⟨by simp, rfl⟩, trivial⟩) rfl h55 ?_
                          intro w63 (h64 : sat g w63 [Cl r50 [.string (St [114, 101, 108, 101, 97, 115, 101, 100]), iV 3, .bool false] 123, Cl r1 [iV x, iV y, uV z, iV st, iV why, iV tr, iV nx, .string (St L)] 42, R])
                          refine ⟨(AllC_nil _), ?_⟩
                          exact ⟨r50, 3, false, [114, 101, 108, 101, 97, 115, 101, 100], _, (by omega), (by rw [decide_eq_false (by omega)]), (mk_live [(1, pV r1), (3, pV r50)] ⟨rfl, rfl, trivial⟩), h64⟩
                        ·
                          refine draw_law (i := 3) 22 (.agg #[.string (St [113, 117, 97, 114, 97, 110, 116, 105, 110, 101]), iV 3, .bool false]) [] (by kernel_rfl) (fun _ _ => law_index (o := opA (RA Try.f49 [1, 1, 0]) 3) (t := 124) (x := (Operand.tmp 19)) (y := (Operand.tmp 21)) (z := st) (cs := #[.string (St []), iV 0, .bool false, .string (St [108, 105, 118, 101]), iV 0, .bool false, .string (St [99, 108, 111, 115, 105, 110, 103]), iV 3, .bool true, .string (St [114, 101, 108, 101, 97, 115, 101, 100]), iV 3, .bool false, .string (St [113, 117, 97, 114, 97, 110, 116, 105, 110, 101]), iV 3, .bool false]) (by kernel_rfl) Try.underlying124 Try.underlying123 3 (by kernel_rfl) (by kernel_rfl) (by kernel_rfl) 4 (by omega) (by decide) (by rfl) _) (by intro q hq; cases hq) ?_
                          refine draw_act (i := 5) [] (by kernel_rfl) (by kernel_rfl) ?_
                          refine an_store [(0, .string (St [113, 117, 97, 114, 97, 110, 116, 105, 110, 101])), (1, iV 3), (2, .bool false)] (cs' := [.string (St [113, 117, 97, 114, 97, 110, 116, 105, 110, 101]), iV 3, .bool false]) (by kernel_rfl) (by kernel_rfl) (allq ⟨⟨by simp, rfl⟩, ⟨by simp, rfl⟩, ⟨by simp, rfl⟩, trivial⟩) rfl h55 ?_
                          intro w65 (h66 : sat g w65 [Cl r50 [.string (St [113, 117, 97, 114, 97, 110, 116, 105, 110, 101]), iV 3, .bool false] 123, Cl r1 [iV x, iV y, uV z, iV st, iV why, iV tr, iV nx, .string (St L)] 42, R])
                          refine ⟨(AllC_nil _), ?_⟩
                          exact ⟨r50, 3, false, [113, 117, 97, 114, 97, 110, 116, 105, 110, 101], _, (by omega), (by rw [decide_eq_false (by omega)]), (mk_live [(1, pV r1), (3, pV r50)] ⟨rfl, rfl, trivial⟩), h66⟩
                ·
                  rintro a67 w68 ⟨rb, hi, bb, wd, lr70, hlh_, hg_, rfl, h69⟩
                  refine zSq (by kernel_rfl) ?_
                  refine zPl [0, 1, 2, 3] (by kernel_rfl) ?_
                  refine zBb [2, 3] [(24, iV hi), (23, .pointer (some ⟨rb, 1, none⟩))] [⟨0, [], none⟩, ⟨1, [iV hi], none⟩] [(1, ⟨rb, 1, none⟩, iV hi)] [] (by kernel_rfl) trivial (AllC_cons (sat_cell h69 0 rfl rfl) (AllC_nil _)) ?_
                  by_cases c71 : 1 < hi
                  ·
                    refine zBb [] [(4, iV 1), (25, iV 1)] [⟨2, [], some (iV 1)⟩, ⟨3, [], none⟩] [] [(iV (if 1 < hi then 1 else hi), iV 1)] (by kernel_rfl) ⟨(ov_int (if_pos (by omega))), trivial⟩ (AllC_nil _) ?_
                    refine PO.mk ?_
                    change WP _ _ (CA Try.f49 [1, 1, 1, 1]) _ _ _
                    refine fk_cut ([(1, pV r1), (3, pV rb), (4, iV 1)] : Fr) (by kernel_rfl) (fun a => WP _ _ _ _ a _) (fun lr72 => ?_)
                    refine zSq (by kernel_rfl) ?_
                    refine zPl [0, 1, 2, 3, 4, 5, 6, 7, 8, 9, 10, 11, 12, 13, 14, 15, 16, 17, 18, 19, 20, 21, 22, 23, 24, 25, 26, 27] (by kernel_rfl) ?_
                    refine zBb [5, 6, 7, 8, 9, 10, 11, 12, 13, 14, 15, 16, 17, 18, 19, 20, 21, 22, 23, 24, 25, 26, 27] [(30, iV hi), (29, .pointer (some ⟨rb, 1, none⟩)), (28, iV 1), (27, iV why), (26, .pointer (some ⟨r1, 4, none⟩))] [⟨0, [], none⟩, ⟨1, [iV why], none⟩, ⟨2, [], none⟩, ⟨3, [], none⟩, ⟨4, [iV hi], none⟩] [(4, ⟨rb, 1, none⟩, iV hi), (1, ⟨r1, 4, none⟩, iV why)] [] (by kernel_rfl) trivial (AllC_cons (sat_cell h69 0 rfl rfl) (AllC_cons (sat_cell h69 1 rfl rfl) (AllC_nil _))) ?_
                    by_cases c73 : 1 ≤ why
                    ·
                      by_cases c74 : why ≤ hi
                      ·
                        refine plain_act (i := 5) (by kernel_rfl) ?_
                        refine zCl 31 Try.call65 (in_t why 1 hi (by omega)) h69 (by kernel_rfl) ?_
                        rintro v K w75 (⟨rfl, rfl⟩) h76
                        refine ⟨_, rfl, ?_⟩
                        have h77 : sat g w75 [Cl rb [.string (St wd), iV hi, .bool (bb)] 123, Cl r1 [iV x, iV y, uV z, iV st, iV why, iV tr, iV nx, .string (St L)] 42, R] := h76
                        refine zBb [11, 12, 13, 14, 15, 16, 17, 18, 19, 20, 21, 22, 23, 24, 25, 26, 27] [(36, iV 10000), (35, iV 1), (34, iV tr), (33, .pointer (some ⟨r1, 5, none⟩)), (32, .bool true)] [⟨6, [], none⟩, ⟨7, [], none⟩, ⟨8, [iV tr], none⟩, ⟨9, [], none⟩, ⟨10, [], none⟩] [(8, ⟨r1, 5, none⟩, iV tr)] [] (by kernel_rfl) trivial (AllC_cons (sat_cell h77 1 rfl rfl) (AllC_nil _)) ?_
                        by_cases c78 : 0 ≤ tr
                        ·
                          by_cases c79 : tr ≤ 10000
                          ·
                            refine plain_act (i := 11) (by kernel_rfl) ?_
                            refine zCl 37 Try.call65 (in_t tr 0 10000 (by omega)) h77 (by kernel_rfl) ?_
                            rintro v K w80 (⟨rfl, rfl⟩) h81
                            refine ⟨_, rfl, ?_⟩
                            have h82 : sat g w80 [Cl rb [.string (St wd), iV hi, .bool (bb)] 123, Cl r1 [iV x, iV y, uV z, iV st, iV why, iV tr, iV nx, .string (St L)] 42, R] := h81
                            refine zBb [16, 17, 18, 19, 20, 21, 22, 23, 24, 25, 26, 27] [(41, iV nx), (40, .pointer (some ⟨r1, 6, none⟩)), (39, .bool true), (38, .bool true)] [⟨12, [], none⟩, ⟨13, [], none⟩, ⟨14, [], none⟩, ⟨15, [iV nx], none⟩] [(15, ⟨r1, 6, none⟩, iV nx)] [] (by kernel_rfl) trivial (AllC_cons (sat_cell h82 1 rfl rfl) (AllC_nil _)) ?_
                            by_cases c83 : 0 ≤ nx
                            ·
                              by_cases c84 : nx ≤ 1099511627776
                              ·
                                refine plain_act (i := 16) (by kernel_rfl) ?_
                                refine zCl 42 Try.call66 (time_t nx (by omega)) h82 (by kernel_rfl) ?_
                                rintro v K w85 (⟨rfl, rfl⟩) h86
                                refine ⟨_, rfl, ?_⟩
                                have h87 : sat g w85 [Cl rb [.string (St wd), iV hi, .bool (bb)] 123, Cl r1 [iV x, iV y, uV z, iV st, iV why, iV tr, iV nx, .string (St L)] 42, R] := h86
                                refine zB0 [20, 21, 22, 23, 24, 25, 26, 27] [17, 18, 19] [(45, .pointer (some ⟨rb, 2, none⟩)), (44, .bool true), (43, .bool true)] (by kernel_rfl) ?_
                                rcases Bool.eq_false_or_eq_true bb with cb88 | cb88
                                ·
                                  refine zBb [] [(2, .bool true), (52, .bool true), (51, .bool true), (50, undef), (49, undef), (48, undef), (47, .bool true), (46, .bool true)] [⟨20, [.bool (bb)], some (.bool true)⟩, ⟨21, [], none⟩, ⟨22, [], none⟩, ⟨23, [], none⟩, ⟨24, [], none⟩, ⟨25, [], none⟩, ⟨26, [], none⟩, ⟨27, [], none⟩] [(20, ⟨rb, 2, none⟩, .bool (bb))] [(.bool (bb), .bool true)] (by kernel_rfl) ⟨(ov_b cb88), trivial⟩ (AllC_cons (sat_cell h87 0 rfl rfl) (AllC_nil _)) ?_
                                  refine PO.mk ?_
                                  change WP _ _ (CA Try.f49 [1, 1, 1, 1, 1]) _ _ _
                                  refine fk_cut ([(2, .bool true)] : Fr) (by kernel_rfl) (fun a => WP _ _ _ _ a _) (fun lr89 => ?_)
                                  refine gi_rt (by kernel_rfl) ?_
                                  repeat (first | simp only [Exit.inBlock] | simp only [Exit.then])
                                  have hbb_ := of_decide_eq_true (hg_.symm.trans cb88)
                                  have h90 : sat g w85 [R] := sat_sel [2] rfl h87
                                  refine hi_out [] (.bool true) [] (by kernel_rfl) (by intro q hq; cases hq) ?_
                                  exact ⟨.bool true, [], rfl, ⟨by rw [decide_eq_true (by unfold posP; omega)], rfl⟩, h90⟩
                                ·
                                  refine zBb [24, 25, 26, 27] [(49, iV nx), (48, .pointer (some ⟨r1, 6, none⟩)), (47, .bool false), (46, .bool false)] [⟨20, [.bool (bb)], some (.bool false)⟩, ⟨21, [], none⟩, ⟨22, [], none⟩, ⟨23, [iV nx], none⟩] [(23, ⟨r1, 6, none⟩, iV nx), (20, ⟨rb, 2, none⟩, .bool (bb))] [(.bool (bb), .bool false)] (by kernel_rfl) ⟨(ov_b cb88), trivial⟩ (AllC_cons (sat_cell h87 1 rfl rfl) (AllC_cons (sat_cell h87 0 rfl rfl) (AllC_nil _))) ?_
                                  refine fk_cut ([(49, iV nx), (47, .bool false), (44, .bool true), (1, pV r1), (3, pV rb), (4, iV 1)] : Fr) (by kernel_rfl) (fun a => PO _ _ _ _ a _) (fun lr91 => ?_)
                                  by_cases c92 : nx = 0
                                  ·
                                    refine zBb [] [(2, .bool true), (52, .bool true), (51, .bool true), (50, .bool true)] [⟨24, [], some (.bool true)⟩, ⟨25, [], none⟩, ⟨26, [], none⟩, ⟨27, [], none⟩] [] [(.bool (nx == 0), .bool true)] (by kernel_rfl) ⟨(ov_et (by omega)), trivial⟩ (AllC_nil _) ?_
                                    refine PO.mk ?_
                                    change WP _ _ (CA Try.f49 [1, 1, 1, 1, 1]) _ _ _
                                    refine fk_cut ([(2, .bool true)] : Fr) (by kernel_rfl) (fun a => WP _ _ _ _ a _) (fun lr93 => ?_)
                                    refine gi_rt (by kernel_rfl) ?_
                                    repeat (first | simp only [Exit.inBlock] | simp only [Exit.then])
                                    have hbb_ := of_decide_eq_false (hg_.symm.trans cb88)
                                    have h94 : sat g w85 [R] := sat_sel [2] rfl h87
                                    refine hi_out [] (.bool true) [] (by kernel_rfl) (by intro q hq; cases hq) ?_
                                    exact ⟨.bool true, [], rfl, ⟨by rw [decide_eq_true (by unfold posP; omega)], rfl⟩, h94⟩
                                  ·
                                    refine zBb [] [(2, .bool false), (52, .bool false), (51, .bool false), (50, .bool false)] [⟨24, [], some (.bool false)⟩, ⟨25, [], none⟩, ⟨26, [], none⟩, ⟨27, [], none⟩] [] [(.bool (nx == 0), .bool false)] (by kernel_rfl) ⟨(ov_ef (by omega)), trivial⟩ (AllC_nil _) ?_
                                    refine PO.mk ?_
                                    change WP _ _ (CA Try.f49 [1, 1, 1, 1, 1]) _ _ _
                                    refine fk_cut ([(2, .bool false)] : Fr) (by kernel_rfl) (fun a => WP _ _ _ _ a _) (fun lr95 => ?_)
                                    refine gi_rt (by kernel_rfl) ?_
                                    repeat (first | simp only [Exit.inBlock] | simp only [Exit.then])
                                    have hbb_ := of_decide_eq_false (hg_.symm.trans cb88)
                                    have h96 : sat g w85 [R] := sat_sel [2] rfl h87
                                    refine hi_out [] (.bool false) [] (by kernel_rfl) (by intro q hq; cases hq) ?_
                                    exact ⟨.bool false, [], rfl, ⟨by rw [decide_eq_false (by unfold posP; omega)], rfl⟩, h96⟩
                              ·
                                refine plain_act (i := 16) (by kernel_rfl) ?_
                                refine zCl 42 Try.call66 (time_f nx (by omega)) h82 (by kernel_rfl) ?_
                                rintro v K w97 (⟨rfl, rfl⟩) h98
                                refine ⟨_, rfl, ?_⟩
                                have h99 : sat g w97 [Cl rb [.string (St wd), iV hi, .bool (bb)] 123, Cl r1 [iV x, iV y, uV z, iV st, iV why, iV tr, iV nx, .string (St L)] 42, R] := h98
                                refine zB0 [] [17, 18, 19, 20, 21, 22, 23, 24, 25, 26, 27] [(2, .bool false), (52, .bool false), (51, undef), (50, undef), (49, undef), (48, undef), (47, undef), (46, undef), (45, undef), (44, .bool false), (43, .bool false)] (by kernel_rfl) ?_
                                refine PO.mk ?_
                                change WP _ _ (CA Try.f49 [1, 1, 1, 1, 1]) _ _ _
                                refine fk_cut ([(2, .bool false)] : Fr) (by kernel_rfl) (fun a => WP _ _ _ _ a _) (fun lr100 => ?_)
                                refine gi_rt (by kernel_rfl) ?_
                                repeat (first | simp only [Exit.inBlock] | simp only [Exit.then])
                                have h101 : sat g w97 [R] := sat_sel [2] rfl h99
                                refine hi_out [] (.bool false) [] (by kernel_rfl) (by intro q hq; cases hq) ?_
                                exact ⟨.bool false, [], rfl, ⟨by rw [decide_eq_false (by unfold posP; omega)], rfl⟩, h101⟩
                            ·
                              refine plain_act (i := 16) (by kernel_rfl) ?_
                              refine zCl 42 Try.call66 (time_f nx (by omega)) h82 (by kernel_rfl) ?_
                              rintro v K w102 (⟨rfl, rfl⟩) h103
                              refine ⟨_, rfl, ?_⟩
                              have h104 : sat g w102 [Cl rb [.string (St wd), iV hi, .bool (bb)] 123, Cl r1 [iV x, iV y, uV z, iV st, iV why, iV tr, iV nx, .string (St L)] 42, R] := h103
                              refine zB0 [] [17, 18, 19, 20, 21, 22, 23, 24, 25, 26, 27] [(2, .bool false), (52, .bool false), (51, undef), (50, undef), (49, undef), (48, undef), (47, undef), (46, undef), (45, undef), (44, .bool false), (43, .bool false)] (by kernel_rfl) ?_
                              refine PO.mk ?_
                              change WP _ _ (CA Try.f49 [1, 1, 1, 1, 1]) _ _ _
                              refine fk_cut ([(2, .bool false)] : Fr) (by kernel_rfl) (fun a => WP _ _ _ _ a _) (fun lr105 => ?_)
                              refine gi_rt (by kernel_rfl) ?_
                              repeat (first | simp only [Exit.inBlock] | simp only [Exit.then])
                              have h106 : sat g w102 [R] := sat_sel [2] rfl h104
                              refine hi_out [] (.bool false) [] (by kernel_rfl) (by intro q hq; cases hq) ?_
                              exact ⟨.bool false, [], rfl, ⟨by rw [decide_eq_false (by unfold posP; omega)], rfl⟩, h106⟩
                          ·
                            refine plain_act (i := 11) (by kernel_rfl) ?_
                            refine zCl 37 Try.call65 (in_f tr 0 10000 (by omega)) h77 (by kernel_rfl) ?_
                            rintro v K w107 (⟨rfl, rfl⟩) h108
                            refine ⟨_, rfl, ?_⟩
                            have h109 : sat g w107 [Cl rb [.string (St wd), iV hi, .bool (bb)] 123, Cl r1 [iV x, iV y, uV z, iV st, iV why, iV tr, iV nx, .string (St L)] 42, R] := h108
                            refine zB0 [16, 17, 18, 19, 20, 21, 22, 23, 24, 25, 26, 27] [12, 13, 14, 15] [(41, undef), (40, undef), (39, .bool false), (38, .bool false)] (by kernel_rfl) ?_
                            refine plain_skip (by kernel_rfl : chkN (RA Try.f49 [1, 1, 1, 1, 0]) 53 _ 16 = some (some 42)) rfl ?_
                            refine zB0 [] [17, 18, 19, 20, 21, 22, 23, 24, 25, 26, 27] [(2, .bool false), (52, .bool false), (51, undef), (50, undef), (49, undef), (48, undef), (47, undef), (46, undef), (45, undef), (44, .bool false), (43, .bool false)] (by kernel_rfl) ?_
                            refine PO.mk ?_
                            change WP _ _ (CA Try.f49 [1, 1, 1, 1, 1]) _ _ _
                            refine fk_cut ([(2, .bool false)] : Fr) (by kernel_rfl) (fun a => WP _ _ _ _ a _) (fun lr110 => ?_)
                            refine gi_rt (by kernel_rfl) ?_
                            repeat (first | simp only [Exit.inBlock] | simp only [Exit.then])
                            have h111 : sat g w107 [R] := sat_sel [2] rfl h109
                            refine hi_out [] (.bool false) [] (by kernel_rfl) (by intro q hq; cases hq) ?_
                            exact ⟨.bool false, [], rfl, ⟨by rw [decide_eq_false (by unfold posP; omega)], rfl⟩, h111⟩
                        ·
                          refine plain_act (i := 11) (by kernel_rfl) ?_
                          refine zCl 37 Try.call65 (in_f tr 0 10000 (by omega)) h77 (by kernel_rfl) ?_
                          rintro v K w112 (⟨rfl, rfl⟩) h113
                          refine ⟨_, rfl, ?_⟩
                          have h114 : sat g w112 [Cl rb [.string (St wd), iV hi, .bool (bb)] 123, Cl r1 [iV x, iV y, uV z, iV st, iV why, iV tr, iV nx, .string (St L)] 42, R] := h113
                          refine zB0 [16, 17, 18, 19, 20, 21, 22, 23, 24, 25, 26, 27] [12, 13, 14, 15] [(41, undef), (40, undef), (39, .bool false), (38, .bool false)] (by kernel_rfl) ?_
                          refine plain_skip (by kernel_rfl : chkN (RA Try.f49 [1, 1, 1, 1, 0]) 53 _ 16 = some (some 42)) rfl ?_
                          refine zB0 [] [17, 18, 19, 20, 21, 22, 23, 24, 25, 26, 27] [(2, .bool false), (52, .bool false), (51, undef), (50, undef), (49, undef), (48, undef), (47, undef), (46, undef), (45, undef), (44, .bool false), (43, .bool false)] (by kernel_rfl) ?_
                          refine PO.mk ?_
                          change WP _ _ (CA Try.f49 [1, 1, 1, 1, 1]) _ _ _
                          refine fk_cut ([(2, .bool false)] : Fr) (by kernel_rfl) (fun a => WP _ _ _ _ a _) (fun lr115 => ?_)
                          refine gi_rt (by kernel_rfl) ?_
                          repeat (first | simp only [Exit.inBlock] | simp only [Exit.then])
                          have h116 : sat g w112 [R] := sat_sel [2] rfl h114
                          refine hi_out [] (.bool false) [] (by kernel_rfl) (by intro q hq; cases hq) ?_
                          exact ⟨.bool false, [], rfl, ⟨by rw [decide_eq_false (by unfold posP; omega)], rfl⟩, h116⟩
                      ·
                        refine plain_act (i := 5) (by kernel_rfl) ?_
                        refine zCl 31 Try.call65 (in_f why 1 hi (by omega)) h69 (by kernel_rfl) ?_
                        rintro v K w117 (⟨rfl, rfl⟩) h118
                        refine ⟨_, rfl, ?_⟩
                        have h119 : sat g w117 [Cl rb [.string (St wd), iV hi, .bool (bb)] 123, Cl r1 [iV x, iV y, uV z, iV st, iV why, iV tr, iV nx, .string (St L)] 42, R] := h118
                        refine zB0 [11, 12, 13, 14, 15, 16, 17, 18, 19, 20, 21, 22, 23, 24, 25, 26, 27] [6, 7, 8, 9, 10] [(36, undef), (35, undef), (34, undef), (33, undef), (32, .bool false)] (by kernel_rfl) ?_
                        refine plain_skip (by kernel_rfl : chkN (RA Try.f49 [1, 1, 1, 1, 0]) 53 _ 11 = some (some 37)) rfl ?_
                        refine zB0 [16, 17, 18, 19, 20, 21, 22, 23, 24, 25, 26, 27] [12, 13, 14, 15] [(41, undef), (40, undef), (39, .bool false), (38, .bool false)] (by kernel_rfl) ?_
                        refine plain_skip (by kernel_rfl : chkN (RA Try.f49 [1, 1, 1, 1, 0]) 53 _ 16 = some (some 42)) rfl ?_
                        refine zB0 [] [17, 18, 19, 20, 21, 22, 23, 24, 25, 26, 27] [(2, .bool false), (52, .bool false), (51, undef), (50, undef), (49, undef), (48, undef), (47, undef), (46, undef), (45, undef), (44, .bool false), (43, .bool false)] (by kernel_rfl) ?_
                        refine PO.mk ?_
                        change WP _ _ (CA Try.f49 [1, 1, 1, 1, 1]) _ _ _
                        refine fk_cut ([(2, .bool false)] : Fr) (by kernel_rfl) (fun a => WP _ _ _ _ a _) (fun lr120 => ?_)
                        refine gi_rt (by kernel_rfl) ?_
                        repeat (first | simp only [Exit.inBlock] | simp only [Exit.then])
                        have h121 : sat g w117 [R] := sat_sel [2] rfl h119
                        refine hi_out [] (.bool false) [] (by kernel_rfl) (by intro q hq; cases hq) ?_
                        exact ⟨.bool false, [], rfl, ⟨by rw [decide_eq_false (by unfold posP; omega)], rfl⟩, h121⟩
                    ·
                      refine plain_act (i := 5) (by kernel_rfl) ?_
                      refine zCl 31 Try.call65 (in_f why 1 hi (by omega)) h69 (by kernel_rfl) ?_
                      rintro v K w122 (⟨rfl, rfl⟩) h123
                      refine ⟨_, rfl, ?_⟩
                      have h124 : sat g w122 [Cl rb [.string (St wd), iV hi, .bool (bb)] 123, Cl r1 [iV x, iV y, uV z, iV st, iV why, iV tr, iV nx, .string (St L)] 42, R] := h123
                      refine zB0 [11, 12, 13, 14, 15, 16, 17, 18, 19, 20, 21, 22, 23, 24, 25, 26, 27] [6, 7, 8, 9, 10] [(36, undef), (35, undef), (34, undef), (33, undef), (32, .bool false)] (by kernel_rfl) ?_
                      refine plain_skip (by kernel_rfl : chkN (RA Try.f49 [1, 1, 1, 1, 0]) 53 _ 11 = some (some 37)) rfl ?_
                      refine zB0 [16, 17, 18, 19, 20, 21, 22, 23, 24, 25, 26, 27] [12, 13, 14, 15] [(41, undef), (40, undef), (39, .bool false), (38, .bool false)] (by kernel_rfl) ?_
                      refine plain_skip (by kernel_rfl : chkN (RA Try.f49 [1, 1, 1, 1, 0]) 53 _ 16 = some (some 42)) rfl ?_
                      refine zB0 [] [17, 18, 19, 20, 21, 22, 23, 24, 25, 26, 27] [(2, .bool false), (52, .bool false), (51, undef), (50, undef), (49, undef), (48, undef), (47, undef), (46, undef), (45, undef), (44, .bool false), (43, .bool false)] (by kernel_rfl) ?_
                      refine PO.mk ?_
                      change WP _ _ (CA Try.f49 [1, 1, 1, 1, 1]) _ _ _
                      refine fk_cut ([(2, .bool false)] : Fr) (by kernel_rfl) (fun a => WP _ _ _ _ a _) (fun lr125 => ?_)
                      refine gi_rt (by kernel_rfl) ?_
                      repeat (first | simp only [Exit.inBlock] | simp only [Exit.then])
                      have h126 : sat g w122 [R] := sat_sel [2] rfl h124
                      refine hi_out [] (.bool false) [] (by kernel_rfl) (by intro q hq; cases hq) ?_
                      exact ⟨.bool false, [], rfl, ⟨by rw [decide_eq_false (by unfold posP; omega)], rfl⟩, h126⟩
                  ·
                    refine zBb [] [(4, iV hi), (25, iV hi)] [⟨2, [], some (iV hi)⟩, ⟨3, [], none⟩] [] [(iV (if 1 < hi then 1 else hi), iV hi)] (by kernel_rfl) ⟨(ov_int (if_neg (by omega))), trivial⟩ (AllC_nil _) ?_
                    refine PO.mk ?_
                    change WP _ _ (CA Try.f49 [1, 1, 1, 1]) _ _ _
                    refine fk_cut ([(1, pV r1), (3, pV rb), (4, iV hi)] : Fr) (by kernel_rfl) (fun a => WP _ _ _ _ a _) (fun lr127 => ?_)
                    refine zSq (by kernel_rfl) ?_
                    refine zPl [0, 1, 2, 3, 4, 5, 6, 7, 8, 9, 10, 11, 12, 13, 14, 15, 16, 17, 18, 19, 20, 21, 22, 23, 24, 25, 26, 27] (by kernel_rfl) ?_
                    refine zBb [5, 6, 7, 8, 9, 10, 11, 12, 13, 14, 15, 16, 17, 18, 19, 20, 21, 22, 23, 24, 25, 26, 27] [(30, iV hi), (29, .pointer (some ⟨rb, 1, none⟩)), (28, iV hi), (27, iV why), (26, .pointer (some ⟨r1, 4, none⟩))] [⟨0, [], none⟩, ⟨1, [iV why], none⟩, ⟨2, [], none⟩, ⟨3, [], none⟩, ⟨4, [iV hi], none⟩] [(4, ⟨rb, 1, none⟩, iV hi), (1, ⟨r1, 4, none⟩, iV why)] [] (by kernel_rfl) trivial (AllC_cons (sat_cell h69 0 rfl rfl) (AllC_cons (sat_cell h69 1 rfl rfl) (AllC_nil _))) ?_
                    by_cases c128 : hi ≤ why
                    ·
                      by_cases c129 : why ≤ hi
                      ·
                        refine plain_act (i := 5) (by kernel_rfl) ?_
                        refine zCl 31 Try.call65 (in_t why hi hi (by omega)) h69 (by kernel_rfl) ?_
                        rintro v K w130 (⟨rfl, rfl⟩) h131
                        refine ⟨_, rfl, ?_⟩
                        have h132 : sat g w130 [Cl rb [.string (St wd), iV hi, .bool (bb)] 123, Cl r1 [iV x, iV y, uV z, iV st, iV why, iV tr, iV nx, .string (St L)] 42, R] := h131
                        refine zBb [11, 12, 13, 14, 15, 16, 17, 18, 19, 20, 21, 22, 23, 24, 25, 26, 27] [(36, iV (10000 * hi)), (35, iV hi), (34, iV tr), (33, .pointer (some ⟨r1, 5, none⟩)), (32, .bool true)] [⟨6, [], none⟩, ⟨7, [], none⟩, ⟨8, [iV tr], none⟩, ⟨9, [], none⟩, ⟨10, [], some (iV (10000 * hi))⟩] [(8, ⟨r1, 5, none⟩, iV tr)] [(iV (IntKind.wrap .i64 (10000 * hi)), iV (10000 * hi))] (by kernel_rfl) ⟨(ov_i64 (by omega) (by omega) (by omega)), trivial⟩ (AllC_cons (sat_cell h132 1 rfl rfl) (AllC_nil _)) ?_
                        by_cases c133 : 0 ≤ tr
                        ·
                          by_cases c134 : tr ≤ 10000 * hi
                          ·
                            refine plain_act (i := 11) (by kernel_rfl) ?_
                            refine zCl 37 Try.call65 (in_t tr 0 (10000 * hi) (by omega)) h132 (by kernel_rfl) ?_
                            rintro v K w135 (⟨rfl, rfl⟩) h136
                            refine ⟨_, rfl, ?_⟩
                            have h137 : sat g w135 [Cl rb [.string (St wd), iV hi, .bool (bb)] 123, Cl r1 [iV x, iV y, uV z, iV st, iV why, iV tr, iV nx, .string (St L)] 42, R] := h136
                            refine zBb [16, 17, 18, 19, 20, 21, 22, 23, 24, 25, 26, 27] [(41, iV nx), (40, .pointer (some ⟨r1, 6, none⟩)), (39, .bool true), (38, .bool true)] [⟨12, [], none⟩, ⟨13, [], none⟩, ⟨14, [], none⟩, ⟨15, [iV nx], none⟩] [(15, ⟨r1, 6, none⟩, iV nx)] [] (by kernel_rfl) trivial (AllC_cons (sat_cell h137 1 rfl rfl) (AllC_nil _)) ?_
                            by_cases c138 : 0 ≤ nx
                            ·
                              by_cases c139 : nx ≤ 1099511627776
                              ·
                                refine plain_act (i := 16) (by kernel_rfl) ?_
                                refine zCl 42 Try.call66 (time_t nx (by omega)) h137 (by kernel_rfl) ?_
                                rintro v K w140 (⟨rfl, rfl⟩) h141
                                refine ⟨_, rfl, ?_⟩
                                have h142 : sat g w140 [Cl rb [.string (St wd), iV hi, .bool (bb)] 123, Cl r1 [iV x, iV y, uV z, iV st, iV why, iV tr, iV nx, .string (St L)] 42, R] := h141
                                refine zB0 [20, 21, 22, 23, 24, 25, 26, 27] [17, 18, 19] [(45, .pointer (some ⟨rb, 2, none⟩)), (44, .bool true), (43, .bool true)] (by kernel_rfl) ?_
                                rcases Bool.eq_false_or_eq_true bb with cb143 | cb143
                                ·
                                  refine zBb [] [(2, .bool true), (52, .bool true), (51, .bool true), (50, undef), (49, undef), (48, undef), (47, .bool true), (46, .bool true)] [⟨20, [.bool (bb)], some (.bool true)⟩, ⟨21, [], none⟩, ⟨22, [], none⟩, ⟨23, [], none⟩, ⟨24, [], none⟩, ⟨25, [], none⟩, ⟨26, [], none⟩, ⟨27, [], none⟩] [(20, ⟨rb, 2, none⟩, .bool (bb))] [(.bool (bb), .bool true)] (by kernel_rfl) ⟨(ov_b cb143), trivial⟩ (AllC_cons (sat_cell h142 0 rfl rfl) (AllC_nil _)) ?_
                                  refine PO.mk ?_
                                  change WP _ _ (CA Try.f49 [1, 1, 1, 1, 1]) _ _ _
                                  refine fk_cut ([(2, .bool true)] : Fr) (by kernel_rfl) (fun a => WP _ _ _ _ a _) (fun lr144 => ?_)
                                  refine gi_rt (by kernel_rfl) ?_
                                  repeat (first | simp only [Exit.inBlock] | simp only [Exit.then])
                                  have hbb_ := of_decide_eq_true (hg_.symm.trans cb143)
                                  have h145 : sat g w140 [R] := sat_sel [2] rfl h142
                                  refine hi_out [] (.bool true) [] (by kernel_rfl) (by intro q hq; cases hq) ?_
                                  exact ⟨.bool true, [], rfl, ⟨by rw [decide_eq_true (by unfold posP; omega)], rfl⟩, h145⟩
                                ·
                                  refine zBb [24, 25, 26, 27] [(49, iV nx), (48, .pointer (some ⟨r1, 6, none⟩)), (47, .bool false), (46, .bool false)] [⟨20, [.bool (bb)], some (.bool false)⟩, ⟨21, [], none⟩, ⟨22, [], none⟩, ⟨23, [iV nx], none⟩] [(23, ⟨r1, 6, none⟩, iV nx), (20, ⟨rb, 2, none⟩, .bool (bb))] [(.bool (bb), .bool false)] (by kernel_rfl) ⟨(ov_b cb143), trivial⟩ (AllC_cons (sat_cell h142 1 rfl rfl) (AllC_cons (sat_cell h142 0 rfl rfl) (AllC_nil _))) ?_
                                  refine fk_cut ([(49, iV nx), (47, .bool false), (44, .bool true), (1, pV r1), (3, pV rb), (4, iV hi)] : Fr) (by kernel_rfl) (fun a => PO _ _ _ _ a _) (fun lr146 => ?_)
                                  by_cases c147 : nx = 0
                                  ·
                                    refine zBb [] [(2, .bool true), (52, .bool true), (51, .bool true), (50, .bool true)] [⟨24, [], some (.bool true)⟩, ⟨25, [], none⟩, ⟨26, [], none⟩, ⟨27, [], none⟩] [] [(.bool (nx == 0), .bool true)] (by kernel_rfl) ⟨(ov_et (by omega)), trivial⟩ (AllC_nil _) ?_
                                    refine PO.mk ?_
                                    change WP _ _ (CA Try.f49 [1, 1, 1, 1, 1]) _ _ _
                                    refine fk_cut ([(2, .bool true)] : Fr) (by kernel_rfl) (fun a => WP _ _ _ _ a _) (fun lr148 => ?_)
                                    refine gi_rt (by kernel_rfl) ?_
                                    repeat (first | simp only [Exit.inBlock] | simp only [Exit.then])
                                    have hbb_ := of_decide_eq_false (hg_.symm.trans cb143)
                                    have h149 : sat g w140 [R] := sat_sel [2] rfl h142
                                    refine hi_out [] (.bool true) [] (by kernel_rfl) (by intro q hq; cases hq) ?_
                                    exact ⟨.bool true, [], rfl, ⟨by rw [decide_eq_true (by unfold posP; omega)], rfl⟩, h149⟩
                                  ·
                                    refine zBb [] [(2, .bool false), (52, .bool false), (51, .bool false), (50, .bool false)] [⟨24, [], some (.bool false)⟩, ⟨25, [], none⟩, ⟨26, [], none⟩, ⟨27, [], none⟩] [] [(.bool (nx == 0), .bool false)] (by kernel_rfl) ⟨(ov_ef (by omega)), trivial⟩ (AllC_nil _) ?_
                                    refine PO.mk ?_
                                    change WP _ _ (CA Try.f49 [1, 1, 1, 1, 1]) _ _ _
                                    refine fk_cut ([(2, .bool false)] : Fr) (by kernel_rfl) (fun a => WP _ _ _ _ a _) (fun lr150 => ?_)
                                    refine gi_rt (by kernel_rfl) ?_
                                    repeat (first | simp only [Exit.inBlock] | simp only [Exit.then])
                                    have hbb_ := of_decide_eq_false (hg_.symm.trans cb143)
                                    have h151 : sat g w140 [R] := sat_sel [2] rfl h142
                                    refine hi_out [] (.bool false) [] (by kernel_rfl) (by intro q hq; cases hq) ?_
                                    exact ⟨.bool false, [], rfl, ⟨by rw [decide_eq_false (by unfold posP; omega)], rfl⟩, h151⟩
                              ·
                                refine plain_act (i := 16) (by kernel_rfl) ?_
                                refine zCl 42 Try.call66 (time_f nx (by omega)) h137 (by kernel_rfl) ?_
                                rintro v K w152 (⟨rfl, rfl⟩) h153
                                refine ⟨_, rfl, ?_⟩
                                have h154 : sat g w152 [Cl rb [.string (St wd), iV hi, .bool (bb)] 123, Cl r1 [iV x, iV y, uV z, iV st, iV why, iV tr, iV nx, .string (St L)] 42, R] := h153
                                refine zB0 [] [17, 18, 19, 20, 21, 22, 23, 24, 25, 26, 27] [(2, .bool false), (52, .bool false), (51, undef), (50, undef), (49, undef), (48, undef), (47, undef), (46, undef), (45, undef), (44, .bool false), (43, .bool false)] (by kernel_rfl) ?_
                                refine PO.mk ?_
                                change WP _ _ (CA Try.f49 [1, 1, 1, 1, 1]) _ _ _
                                refine fk_cut ([(2, .bool false)] : Fr) (by kernel_rfl) (fun a => WP _ _ _ _ a _) (fun lr155 => ?_)
                                refine gi_rt (by kernel_rfl) ?_
                                repeat (first | simp only [Exit.inBlock] | simp only [Exit.then])
                                have h156 : sat g w152 [R] := sat_sel [2] rfl h154
                                refine hi_out [] (.bool false) [] (by kernel_rfl) (by intro q hq; cases hq) ?_
                                exact ⟨.bool false, [], rfl, ⟨by rw [decide_eq_false (by unfold posP; omega)], rfl⟩, h156⟩
                            ·
                              refine plain_act (i := 16) (by kernel_rfl) ?_
                              refine zCl 42 Try.call66 (time_f nx (by omega)) h137 (by kernel_rfl) ?_
                              rintro v K w157 (⟨rfl, rfl⟩) h158
                              refine ⟨_, rfl, ?_⟩
                              have h159 : sat g w157 [Cl rb [.string (St wd), iV hi, .bool (bb)] 123, Cl r1 [iV x, iV y, uV z, iV st, iV why, iV tr, iV nx, .string (St L)] 42, R] := h158
                              refine zB0 [] [17, 18, 19, 20, 21, 22, 23, 24, 25, 26, 27] [(2, .bool false), (52, .bool false), (51, undef), (50, undef), (49, undef), (48, undef), (47, undef), (46, undef), (45, undef), (44, .bool false), (43, .bool false)] (by kernel_rfl) ?_
                              refine PO.mk ?_
                              change WP _ _ (CA Try.f49 [1, 1, 1, 1, 1]) _ _ _
                              refine fk_cut ([(2, .bool false)] : Fr) (by kernel_rfl) (fun a => WP _ _ _ _ a _) (fun lr160 => ?_)
                              refine gi_rt (by kernel_rfl) ?_
                              repeat (first | simp only [Exit.inBlock] | simp only [Exit.then])
                              have h161 : sat g w157 [R] := sat_sel [2] rfl h159
                              refine hi_out [] (.bool false) [] (by kernel_rfl) (by intro q hq; cases hq) ?_
                              exact ⟨.bool false, [], rfl, ⟨by rw [decide_eq_false (by unfold posP; omega)], rfl⟩, h161⟩
                          ·
                            refine plain_act (i := 11) (by kernel_rfl) ?_
                            refine zCl 37 Try.call65 (in_f tr 0 (10000 * hi) (by omega)) h132 (by kernel_rfl) ?_
                            rintro v K w162 (⟨rfl, rfl⟩) h163
                            refine ⟨_, rfl, ?_⟩
                            have h164 : sat g w162 [Cl rb [.string (St wd), iV hi, .bool (bb)] 123, Cl r1 [iV x, iV y, uV z, iV st, iV why, iV tr, iV nx, .string (St L)] 42, R] := h163
                            refine zB0 [16, 17, 18, 19, 20, 21, 22, 23, 24, 25, 26, 27] [12, 13, 14, 15] [(41, undef), (40, undef), (39, .bool false), (38, .bool false)] (by kernel_rfl) ?_
                            refine plain_skip (by kernel_rfl : chkN (RA Try.f49 [1, 1, 1, 1, 0]) 53 _ 16 = some (some 42)) rfl ?_
                            refine zB0 [] [17, 18, 19, 20, 21, 22, 23, 24, 25, 26, 27] [(2, .bool false), (52, .bool false), (51, undef), (50, undef), (49, undef), (48, undef), (47, undef), (46, undef), (45, undef), (44, .bool false), (43, .bool false)] (by kernel_rfl) ?_
                            refine PO.mk ?_
                            change WP _ _ (CA Try.f49 [1, 1, 1, 1, 1]) _ _ _
                            refine fk_cut ([(2, .bool false)] : Fr) (by kernel_rfl) (fun a => WP _ _ _ _ a _) (fun lr165 => ?_)
                            refine gi_rt (by kernel_rfl) ?_
                            repeat (first | simp only [Exit.inBlock] | simp only [Exit.then])
                            have h166 : sat g w162 [R] := sat_sel [2] rfl h164
                            refine hi_out [] (.bool false) [] (by kernel_rfl) (by intro q hq; cases hq) ?_
                            exact ⟨.bool false, [], rfl, ⟨by rw [decide_eq_false (by unfold posP; omega)], rfl⟩, h166⟩
                        ·
                          refine plain_act (i := 11) (by kernel_rfl) ?_
                          refine zCl 37 Try.call65 (in_f tr 0 (10000 * hi) (by omega)) h132 (by kernel_rfl) ?_
                          rintro v K w167 (⟨rfl, rfl⟩) h168
                          refine ⟨_, rfl, ?_⟩
                          have h169 : sat g w167 [Cl rb [.string (St wd), iV hi, .bool (bb)] 123, Cl r1 [iV x, iV y, uV z, iV st, iV why, iV tr, iV nx, .string (St L)] 42, R] := h168
                          refine zB0 [16, 17, 18, 19, 20, 21, 22, 23, 24, 25, 26, 27] [12, 13, 14, 15] [(41, undef), (40, undef), (39, .bool false), (38, .bool false)] (by kernel_rfl) ?_
                          refine plain_skip (by kernel_rfl : chkN (RA Try.f49 [1, 1, 1, 1, 0]) 53 _ 16 = some (some 42)) rfl ?_
                          refine zB0 [] [17, 18, 19, 20, 21, 22, 23, 24, 25, 26, 27] [(2, .bool false), (52, .bool false), (51, undef), (50, undef), (49, undef), (48, undef), (47, undef), (46, undef), (45, undef), (44, .bool false), (43, .bool false)] (by kernel_rfl) ?_
                          refine PO.mk ?_
                          change WP _ _ (CA Try.f49 [1, 1, 1, 1, 1]) _ _ _
                          refine fk_cut ([(2, .bool false)] : Fr) (by kernel_rfl) (fun a => WP _ _ _ _ a _) (fun lr170 => ?_)
                          refine gi_rt (by kernel_rfl) ?_
                          repeat (first | simp only [Exit.inBlock] | simp only [Exit.then])
                          have h171 : sat g w167 [R] := sat_sel [2] rfl h169
                          refine hi_out [] (.bool false) [] (by kernel_rfl) (by intro q hq; cases hq) ?_
                          exact ⟨.bool false, [], rfl, ⟨by rw [decide_eq_false (by unfold posP; omega)], rfl⟩, h171⟩
                      ·
                        refine plain_act (i := 5) (by kernel_rfl) ?_
                        refine zCl 31 Try.call65 (in_f why hi hi (by omega)) h69 (by kernel_rfl) ?_
                        rintro v K w172 (⟨rfl, rfl⟩) h173
                        refine ⟨_, rfl, ?_⟩
                        have h174 : sat g w172 [Cl rb [.string (St wd), iV hi, .bool (bb)] 123, Cl r1 [iV x, iV y, uV z, iV st, iV why, iV tr, iV nx, .string (St L)] 42, R] := h173
                        refine zB0 [11, 12, 13, 14, 15, 16, 17, 18, 19, 20, 21, 22, 23, 24, 25, 26, 27] [6, 7, 8, 9, 10] [(36, undef), (35, undef), (34, undef), (33, undef), (32, .bool false)] (by kernel_rfl) ?_
                        refine plain_skip (by kernel_rfl : chkN (RA Try.f49 [1, 1, 1, 1, 0]) 53 _ 11 = some (some 37)) rfl ?_
                        refine zB0 [16, 17, 18, 19, 20, 21, 22, 23, 24, 25, 26, 27] [12, 13, 14, 15] [(41, undef), (40, undef), (39, .bool false), (38, .bool false)] (by kernel_rfl) ?_
                        refine plain_skip (by kernel_rfl : chkN (RA Try.f49 [1, 1, 1, 1, 0]) 53 _ 16 = some (some 42)) rfl ?_
                        refine zB0 [] [17, 18, 19, 20, 21, 22, 23, 24, 25, 26, 27] [(2, .bool false), (52, .bool false), (51, undef), (50, undef), (49, undef), (48, undef), (47, undef), (46, undef), (45, undef), (44, .bool false), (43, .bool false)] (by kernel_rfl) ?_
                        refine PO.mk ?_
                        change WP _ _ (CA Try.f49 [1, 1, 1, 1, 1]) _ _ _
                        refine fk_cut ([(2, .bool false)] : Fr) (by kernel_rfl) (fun a => WP _ _ _ _ a _) (fun lr175 => ?_)
                        refine gi_rt (by kernel_rfl) ?_
                        repeat (first | simp only [Exit.inBlock] | simp only [Exit.then])
                        have h176 : sat g w172 [R] := sat_sel [2] rfl h174
                        refine hi_out [] (.bool false) [] (by kernel_rfl) (by intro q hq; cases hq) ?_
                        exact ⟨.bool false, [], rfl, ⟨by rw [decide_eq_false (by unfold posP; omega)], rfl⟩, h176⟩
                    ·
                      refine plain_act (i := 5) (by kernel_rfl) ?_
                      refine zCl 31 Try.call65 (in_f why hi hi (by omega)) h69 (by kernel_rfl) ?_
                      rintro v K w177 (⟨rfl, rfl⟩) h178
                      refine ⟨_, rfl, ?_⟩
                      have h179 : sat g w177 [Cl rb [.string (St wd), iV hi, .bool (bb)] 123, Cl r1 [iV x, iV y, uV z, iV st, iV why, iV tr, iV nx, .string (St L)] 42, R] := h178
                      refine zB0 [11, 12, 13, 14, 15, 16, 17, 18, 19, 20, 21, 22, 23, 24, 25, 26, 27] [6, 7, 8, 9, 10] [(36, undef), (35, undef), (34, undef), (33, undef), (32, .bool false)] (by kernel_rfl) ?_
                      refine plain_skip (by kernel_rfl : chkN (RA Try.f49 [1, 1, 1, 1, 0]) 53 _ 11 = some (some 37)) rfl ?_
                      refine zB0 [16, 17, 18, 19, 20, 21, 22, 23, 24, 25, 26, 27] [12, 13, 14, 15] [(41, undef), (40, undef), (39, .bool false), (38, .bool false)] (by kernel_rfl) ?_
                      refine plain_skip (by kernel_rfl : chkN (RA Try.f49 [1, 1, 1, 1, 0]) 53 _ 16 = some (some 42)) rfl ?_
                      refine zB0 [] [17, 18, 19, 20, 21, 22, 23, 24, 25, 26, 27] [(2, .bool false), (52, .bool false), (51, undef), (50, undef), (49, undef), (48, undef), (47, undef), (46, undef), (45, undef), (44, .bool false), (43, .bool false)] (by kernel_rfl) ?_
                      refine PO.mk ?_
                      change WP _ _ (CA Try.f49 [1, 1, 1, 1, 1]) _ _ _
                      refine fk_cut ([(2, .bool false)] : Fr) (by kernel_rfl) (fun a => WP _ _ _ _ a _) (fun lr180 => ?_)
                      refine gi_rt (by kernel_rfl) ?_
                      repeat (first | simp only [Exit.inBlock] | simp only [Exit.then])
                      have h181 : sat g w177 [R] := sat_sel [2] rfl h179
                      refine hi_out [] (.bool false) [] (by kernel_rfl) (by intro q hq; cases hq) ?_
                      exact ⟨.bool false, [], rfl, ⟨by rw [decide_eq_false (by unfold posP; omega)], rfl⟩, h181⟩
          ·
            refine plain_act (i := 2) (by kernel_rfl) ?_
            refine zCl 7 Try.call63 (couter_no x y z (by omega) (by omega) (by omega)) h3 (by kernel_rfl) ?_
            rintro v K w182 (⟨rfl, rfl⟩) h183
            refine ⟨_, rfl, ?_⟩
            have h184 : sat g w182 [Cl r1 [iV x, iV y, uV z, iV st, iV why, iV tr, iV nx, .string (St L)] 42, R] := h183
            refine zB0 [] [3, 4, 5, 6, 7, 8, 9, 10, 11, 12, 13] [(18, .bool true), (17, undef), (16, undef), (15, undef), (14, .bool true), (13, .bool true), (12, undef), (11, undef), (10, undef), (9, .bool true), (8, .bool true)] (by kernel_rfl) ?_
            refine PO.mk ?_
            change WP _ _ (CA Try.f49 [1, 0, 1]) _ _ _
            refine fk_cut ([(1, pV r1), (18, .bool true)] : Fr) (by kernel_rfl) (fun a => WP _ _ _ _ a _) (fun lr185 => ?_)
            refine zCt (by kernel_rfl) ?_
            refine zSq (by kernel_rfl) ?_
            refine zPl [0] (by kernel_rfl) ?_
            refine zB0 [] [0] [(2, .bool false)] (by kernel_rfl) ?_
            refine PO.mk ?_
            change WP _ _ (CA Try.f49 [1, 0, 1, 0, 1]) _ _ _
            refine fk_cut ([(2, .bool false)] : Fr) (by kernel_rfl) (fun a => WP _ _ _ _ a _) (fun lr186 => ?_)
            refine gi_rt (by kernel_rfl) ?_
            repeat (first | simp only [Exit.inBlock] | simp only [Exit.then])
            have h187 : sat g w182 [R] := sat_sel [1] rfl h184
            refine hi_out [] (.bool false) [] (by kernel_rfl) (by intro q hq; cases hq) ?_
            exact ⟨.bool false, [], rfl, ⟨by rw [decide_eq_false (by unfold posP; omega)], rfl⟩, h187⟩
        ·
          refine plain_act (i := 2) (by kernel_rfl) ?_
          refine zCl 7 Try.call63 (couter_no x y z (by omega) (by omega) (by omega)) h3 (by kernel_rfl) ?_
          rintro v K w188 (⟨rfl, rfl⟩) h189
          refine ⟨_, rfl, ?_⟩
          have h190 : sat g w188 [Cl r1 [iV x, iV y, uV z, iV st, iV why, iV tr, iV nx, .string (St L)] 42, R] := h189
          refine zB0 [] [3, 4, 5, 6, 7, 8, 9, 10, 11, 12, 13] [(18, .bool true), (17, undef), (16, undef), (15, undef), (14, .bool true), (13, .bool true), (12, undef), (11, undef), (10, undef), (9, .bool true), (8, .bool true)] (by kernel_rfl) ?_
          refine PO.mk ?_
          change WP _ _ (CA Try.f49 [1, 0, 1]) _ _ _
          refine fk_cut ([(1, pV r1), (18, .bool true)] : Fr) (by kernel_rfl) (fun a => WP _ _ _ _ a _) (fun lr191 => ?_)
          refine zCt (by kernel_rfl) ?_
          refine zSq (by kernel_rfl) ?_
          refine zPl [0] (by kernel_rfl) ?_
          refine zB0 [] [0] [(2, .bool false)] (by kernel_rfl) ?_
          refine PO.mk ?_
          change WP _ _ (CA Try.f49 [1, 0, 1, 0, 1]) _ _ _
          refine fk_cut ([(2, .bool false)] : Fr) (by kernel_rfl) (fun a => WP _ _ _ _ a _) (fun lr192 => ?_)
          refine gi_rt (by kernel_rfl) ?_
          repeat (first | simp only [Exit.inBlock] | simp only [Exit.then])
          have h193 : sat g w188 [R] := sat_sel [1] rfl h190
          refine hi_out [] (.bool false) [] (by kernel_rfl) (by intro q hq; cases hq) ?_
          exact ⟨.bool false, [], rfl, ⟨by rw [decide_eq_false (by unfold posP; omega)], rfl⟩, h193⟩
      ·
        refine plain_act (i := 2) (by kernel_rfl) ?_
        refine zCl 7 Try.call63 (couter_no x y z (by omega) (by omega) (by omega)) h3 (by kernel_rfl) ?_
        rintro v K w194 (⟨rfl, rfl⟩) h195
        refine ⟨_, rfl, ?_⟩
        have h196 : sat g w194 [Cl r1 [iV x, iV y, uV z, iV st, iV why, iV tr, iV nx, .string (St L)] 42, R] := h195
        refine zB0 [] [3, 4, 5, 6, 7, 8, 9, 10, 11, 12, 13] [(18, .bool true), (17, undef), (16, undef), (15, undef), (14, .bool true), (13, .bool true), (12, undef), (11, undef), (10, undef), (9, .bool true), (8, .bool true)] (by kernel_rfl) ?_
        refine PO.mk ?_
        change WP _ _ (CA Try.f49 [1, 0, 1]) _ _ _
        refine fk_cut ([(1, pV r1), (18, .bool true)] : Fr) (by kernel_rfl) (fun a => WP _ _ _ _ a _) (fun lr197 => ?_)
        refine zCt (by kernel_rfl) ?_
        refine zSq (by kernel_rfl) ?_
        refine zPl [0] (by kernel_rfl) ?_
        refine zB0 [] [0] [(2, .bool false)] (by kernel_rfl) ?_
        refine PO.mk ?_
        change WP _ _ (CA Try.f49 [1, 0, 1, 0, 1]) _ _ _
        refine fk_cut ([(2, .bool false)] : Fr) (by kernel_rfl) (fun a => WP _ _ _ _ a _) (fun lr198 => ?_)
        refine gi_rt (by kernel_rfl) ?_
        repeat (first | simp only [Exit.inBlock] | simp only [Exit.then])
        have h199 : sat g w194 [R] := sat_sel [1] rfl h196
        refine hi_out [] (.bool false) [] (by kernel_rfl) (by intro q hq; cases hq) ?_
        exact ⟨.bool false, [], rfl, ⟨by rw [decide_eq_false (by unfold posP; omega)], rfl⟩, h199⟩
    ·
      refine plain_act (i := 2) (by kernel_rfl) ?_
      refine zCl 7 Try.call63 (couter_no x y z (by omega) (by omega) (by omega)) h3 (by kernel_rfl) ?_
      rintro v K w200 (⟨rfl, rfl⟩) h201
      refine ⟨_, rfl, ?_⟩
      have h202 : sat g w200 [Cl r1 [iV x, iV y, uV z, iV st, iV why, iV tr, iV nx, .string (St L)] 42, R] := h201
      refine zB0 [] [3, 4, 5, 6, 7, 8, 9, 10, 11, 12, 13] [(18, .bool true), (17, undef), (16, undef), (15, undef), (14, .bool true), (13, .bool true), (12, undef), (11, undef), (10, undef), (9, .bool true), (8, .bool true)] (by kernel_rfl) ?_
      refine PO.mk ?_
      change WP _ _ (CA Try.f49 [1, 0, 1]) _ _ _
      refine fk_cut ([(1, pV r1), (18, .bool true)] : Fr) (by kernel_rfl) (fun a => WP _ _ _ _ a _) (fun lr203 => ?_)
      refine zCt (by kernel_rfl) ?_
      refine zSq (by kernel_rfl) ?_
      refine zPl [0] (by kernel_rfl) ?_
      refine zB0 [] [0] [(2, .bool false)] (by kernel_rfl) ?_
      refine PO.mk ?_
      change WP _ _ (CA Try.f49 [1, 0, 1, 0, 1]) _ _ _
      refine fk_cut ([(2, .bool false)] : Fr) (by kernel_rfl) (fun a => WP _ _ _ _ a _) (fun lr204 => ?_)
      refine gi_rt (by kernel_rfl) ?_
      repeat (first | simp only [Exit.inBlock] | simp only [Exit.then])
      have h205 : sat g w200 [R] := sat_sel [1] rfl h202
      refine hi_out [] (.bool false) [] (by kernel_rfl) (by intro q hq; cases hq) ?_
      exact ⟨.bool false, [], rfl, ⟨by rw [decide_eq_false (by unfold posP; omega)], rfl⟩, h205⟩
  ·
    refine plain_act (i := 2) (by kernel_rfl) ?_
    refine zCl 7 Try.call63 (couter_no x y z (by omega) (by omega) (by omega)) h3 (by kernel_rfl) ?_
    rintro v K w206 (⟨rfl, rfl⟩) h207
    refine ⟨_, rfl, ?_⟩
    have h208 : sat g w206 [Cl r1 [iV x, iV y, uV z, iV st, iV why, iV tr, iV nx, .string (St L)] 42, R] := h207
    refine zB0 [] [3, 4, 5, 6, 7, 8, 9, 10, 11, 12, 13] [(18, .bool true), (17, undef), (16, undef), (15, undef), (14, .bool true), (13, .bool true), (12, undef), (11, undef), (10, undef), (9, .bool true), (8, .bool true)] (by kernel_rfl) ?_
    refine PO.mk ?_
    change WP _ _ (CA Try.f49 [1, 0, 1]) _ _ _
    refine fk_cut ([(1, pV r1), (18, .bool true)] : Fr) (by kernel_rfl) (fun a => WP _ _ _ _ a _) (fun lr209 => ?_)
    refine zCt (by kernel_rfl) ?_
    refine zSq (by kernel_rfl) ?_
    refine zPl [0] (by kernel_rfl) ?_
    refine zB0 [] [0] [(2, .bool false)] (by kernel_rfl) ?_
    refine PO.mk ?_
    change WP _ _ (CA Try.f49 [1, 0, 1, 0, 1]) _ _ _
    refine fk_cut ([(2, .bool false)] : Fr) (by kernel_rfl) (fun a => WP _ _ _ _ a _) (fun lr210 => ?_)
    refine gi_rt (by kernel_rfl) ?_
    repeat (first | simp only [Exit.inBlock] | simp only [Exit.then])
    have h211 : sat g w206 [R] := sat_sel [1] rfl h208
    refine hi_out [] (.bool false) [] (by kernel_rfl) (by intro q hq; cases hq) ?_
    exact ⟨.bool false, [], rfl, ⟨by rw [decide_eq_false (by unfold posP; omega)], rfl⟩, h211⟩

set_option maxHeartbeats 4000000 in
theorem rchk_ht (x y z st why tr nx : Int) (L : List UInt8) (hz0 : 0 ≤ z) (hz1 : z ≤ 4294967295) (hm : L.length ≤ 1099511627776) : HT Try.prog 23 [Value.agg #[Value.int IntKind.i64 x, Value.int IntKind.i64 y, Value.int IntKind.u32 z, Value.int IntKind.i64 st, Value.int IntKind.i64 why, Value.int IntKind.i64 tr, Value.int IntKind.i64 nx, Value.string (St L)]] [] (fun v K => v = Value.int .i64 (resE x y z st why tr nx L) ∧ K = []) := by
  refine hi_in 9 ([(0, .agg #[iV x, iV y, uV z, iV st, iV why, iV tr, iV nx, .string (St L)])] : Fr) Try.func23 (by kernel_rfl) Try.ntmps23 rfl rfl ?_
  intro g w0 R h0
  change WP _ _ (CA Try.f23 []) _ _ _
  refine zSq (by kernel_rfl) ?_
  refine zPl [0, 1] (by kernel_rfl) ?_
  refine plain_act (i := 0) (by kernel_rfl) ?_
  refine an_new (d := 1) (fun xb_ => pV xb_) (fun xb_ => Obj.cells [iV x, iV y, uV z, iV st, iV why, iV tr, iV nx, .string (St L)].toArray 42 (0, 0)) (fun xb_ => by kernel_rfl) (by kernel_rfl) rfl h0 ?_
  intro r1 w2 (h3 : sat g w2 [Cl r1 [iV x, iV y, uV z, iV st, iV why, iV tr, iV nx, .string (St L)] 42, R])
  refine zB0 [] [1] [(2, iV 0)] (by kernel_rfl) ?_
  refine PO.mk ?_
  change WP _ _ (CA Try.f23 [1]) _ _ _
  refine fk_cut ([(1, pV r1)] : Fr) (by kernel_rfl) (fun a => WP _ _ _ _ a _) (fun lr4 => ?_)
  refine zSq (by kernel_rfl) ?_
  refine zSq (by kernel_rfl) ?_
  refine zPl [0, 1, 2] (by kernel_rfl) ?_
  refine zBb [1, 2] [(3, .agg #[iV x, iV y, uV z, iV st, iV why, iV tr, iV nx, .string (St L)])] [⟨0, [iV x, iV y, uV z, iV st, iV why, iV tr, iV nx, .string (St L)], none⟩] [(0, ⟨r1, 0, none⟩, iV x), (0, ⟨r1, 1, none⟩, iV y), (0, ⟨r1, 2, none⟩, uV z), (0, ⟨r1, 3, none⟩, iV st), (0, ⟨r1, 4, none⟩, iV why), (0, ⟨r1, 5, none⟩, iV tr), (0, ⟨r1, 6, none⟩, iV nx), (0, ⟨r1, 7, none⟩, .string (St L))] [] (by kernel_rfl) trivial (AllC_cons (sat_cell h3 0 rfl rfl) (AllC_cons (sat_cell h3 0 rfl rfl) (AllC_cons (sat_cell h3 0 rfl rfl) (AllC_cons (sat_cell h3 0 rfl rfl) (AllC_cons (sat_cell h3 0 rfl rfl) (AllC_cons (sat_cell h3 0 rfl rfl) (AllC_cons (sat_cell h3 0 rfl rfl) (AllC_cons (sat_cell h3 0 rfl rfl) (AllC_nil _))))))))) ?_
  rcases Bool.eq_false_or_eq_true (decide (posP x y z st why tr nx)) with cb5 | cb5
  ·
    refine plain_act (i := 1) (by kernel_rfl) ?_
    refine zCl 4 Try.call49 ((by have h_ := poss_ht x y z st why tr nx L (by omega) (by omega); rw [cb5] at h_; exact h_)) h3 (by kernel_rfl) ?_
    rintro v K w6 (⟨rfl, rfl⟩) h7
    refine ⟨_, rfl, ?_⟩
    have h8 : sat g w6 [Cl r1 [iV x, iV y, uV z, iV st, iV why, iV tr, iV nx, .string (St L)] 42, R] := h7
    refine zB0 [] [2] [(5, .bool false)] (by kernel_rfl) ?_
    refine PO.mk ?_
    change WP _ _ (CA Try.f23 [1, 0, 1]) _ _ _
    refine fk_cut ([(1, pV r1), (5, .bool false)] : Fr) (by kernel_rfl) (fun a => WP _ _ _ _ a _) (fun lr9 => ?_)
    refine zCf (by kernel_rfl) ?_
    refine gi_skp (by kernel_rfl) ?_
    change WP _ _ (CA Try.f23 [1, 1]) _ _ _
    refine zSq (by kernel_rfl) ?_
    refine zPl [0, 1, 2, 3] (by kernel_rfl) ?_
    refine zBb [2, 3] [(7, .string (St L)), (6, .pointer (some ⟨r1, 7, none⟩))] [⟨0, [], none⟩, ⟨1, [.string (St L)], none⟩] [(1, ⟨r1, 7, none⟩, .string (St L))] [] (by kernel_rfl) trivial (AllC_cons (sat_cell h8 0 rfl rfl) (AllC_nil _)) ?_
    refine plain_act (i := 2) (by kernel_rfl) ?_
    refine zCl 8 Try.call50 (tag_ht L (by omega)) h8 (by kernel_rfl) ?_
    rintro v K w10 (⟨rfl, rfl⟩) h11
    refine ⟨_, rfl, ?_⟩
    have h12 : sat g w10 [Cl r1 [iV x, iV y, uV z, iV st, iV why, iV tr, iV nx, .string (St L)] 42, R] := h11
    refine zB0 [] [3] [(2, iV ((tagE L)))] (by kernel_rfl) ?_
    refine PO.mk ?_
    change WP _ _ (CA Try.f23 [1, 1, 1]) _ _ _
    refine fk_cut ([(2, iV ((tagE L)))] : Fr) (by kernel_rfl) (fun a => WP _ _ _ _ a _) (fun lr13 => ?_)
    refine gi_rt (by kernel_rfl) ?_
    repeat (first | simp only [Exit.inBlock] | simp only [Exit.then])
    have h14 : sat g w10 [R] := sat_sel [1] rfl h12
    refine hi_out [] (iV ((tagE L))) [] (by kernel_rfl) (by intro q hq; cases hq) ?_
    exact ⟨iV ((tagE L)), [], rfl, ⟨by unfold resE; rw [if_pos (of_decide_eq_true cb5)], rfl⟩, h14⟩
  ·
    refine plain_act (i := 1) (by kernel_rfl) ?_
    refine zCl 4 Try.call49 ((by have h_ := poss_ht x y z st why tr nx L (by omega) (by omega); rw [cb5] at h_; exact h_)) h3 (by kernel_rfl) ?_
    rintro v K w15 (⟨rfl, rfl⟩) h16
    refine ⟨_, rfl, ?_⟩
    have h17 : sat g w15 [Cl r1 [iV x, iV y, uV z, iV st, iV why, iV tr, iV nx, .string (St L)] 42, R] := h16
    refine zB0 [] [2] [(5, .bool true)] (by kernel_rfl) ?_
    refine PO.mk ?_
    change WP _ _ (CA Try.f23 [1, 0, 1]) _ _ _
    refine fk_cut ([(1, pV r1), (5, .bool true)] : Fr) (by kernel_rfl) (fun a => WP _ _ _ _ a _) (fun lr18 => ?_)
    refine zCt (by kernel_rfl) ?_
    refine zSq (by kernel_rfl) ?_
    refine zPl [0] (by kernel_rfl) ?_
    refine zB0 [] [0] [(2, iV 2)] (by kernel_rfl) ?_
    refine PO.mk ?_
    change WP _ _ (CA Try.f23 [1, 0, 1, 0, 1]) _ _ _
    refine fk_cut ([(2, iV 2)] : Fr) (by kernel_rfl) (fun a => WP _ _ _ _ a _) (fun lr19 => ?_)
    refine gi_rt (by kernel_rfl) ?_
    repeat (first | simp only [Exit.inBlock] | simp only [Exit.then])
    have h20 : sat g w15 [R] := sat_sel [1] rfl h17
    refine hi_out [] (iV 2) [] (by kernel_rfl) (by intro q hq; cases hq) ?_
    exact ⟨iV 2, [], rfl, ⟨by unfold resE; rw [if_neg (of_decide_eq_false cb5)], rfl⟩, h20⟩

set_option maxHeartbeats 4000000 in
theorem rnew_ok (x y z : Int) (L : List UInt8) (hz0 : 0 ≤ z) (hz1 : z ≤ 4294967295) (hm : L.length ≤ 1099511627776) (ho : 1 ≤ x ∧ x ≤ 3 ∧ 0 ≤ y ∧ y ≤ 63 ∧ 1 ≤ z) (ht : tagE L = 0) : HT Try.prog 37 [Value.agg #[Value.int IntKind.i64 x, Value.int IntKind.i64 y, Value.int IntKind.u32 z], Value.string (St L)] [] (fun v K => v = Value.tuple #[Value.agg #[Value.int IntKind.i64 x, Value.int IntKind.i64 y, Value.int IntKind.u32 z, Value.int IntKind.i64 1, Value.int IntKind.i64 0, Value.int IntKind.i64 0, Value.int IntKind.i64 0, Value.string (St L)], Value.int IntKind.i64 0] ∧ K = []) := by
  refine hi_in 18 ([(0, .agg #[iV x, iV y, uV z]), (1, .string (St L))] : Fr) Try.func37 (by kernel_rfl) Try.ntmps37 rfl rfl ?_
  intro g w0 R h0
  change WP _ _ (CA Try.f37 []) _ _ _
  refine zSq (by kernel_rfl) ?_
  refine zPl [0, 1, 2] (by kernel_rfl) ?_
  refine plain_act (i := 0) (by kernel_rfl) ?_
  refine an_new (d := 2) (fun xb_ => pV xb_) (fun xb_ => Obj.cells [iV x, iV y, uV z].toArray 32 (0, 0)) (fun xb_ => by kernel_rfl) (by kernel_rfl) rfl h0 ?_
  intro r1 w2 (h3 : sat g w2 [Cl r1 [iV x, iV y, uV z] 32, R])
  refine plain_act (i := 1) (by kernel_rfl) ?_
  refine an_new (d := 4) (fun xb_ => pV xb_) (fun xb_ => Obj.cells [iV 0, iV 0, uV 0, iV 0, iV 0, iV 0, iV 0, .string (St [])].toArray 42 (0, 0)) (fun xb_ => by kernel_rfl) (by kernel_rfl) rfl h3 ?_
  intro r4 w5 (h6 : sat g w5 [Cl r4 [iV 0, iV 0, uV 0, iV 0, iV 0, iV 0, iV 0, .string (St [])] 42, Cl r1 [iV x, iV y, uV z] 32, R])
  refine zB0 [] [2] [(5, iV 0)] (by kernel_rfl) ?_
  refine PO.mk ?_
  change WP _ _ (CA Try.f37 [1]) _ _ _
  refine fk_cut ([(1, .string (St L)), (2, pV r1), (4, pV r4)] : Fr) (by kernel_rfl) (fun a => WP _ _ _ _ a _) (fun lr7 => ?_)
  refine zSq (by kernel_rfl) ?_
  refine zPl [0, 1, 2, 3, 4] (by kernel_rfl) ?_
  refine zBb [3, 4] [(10, .agg #[iV x, iV y, uV z, iV 1, iV 0, iV 0, iV 0, .string (St L)]), (9, .string (St L)), (8, .agg #[iV x, iV y, uV z])] [⟨0, [iV x, iV y, uV z], none⟩, ⟨1, [], none⟩, ⟨2, [], none⟩] [(0, ⟨r1, 0, none⟩, iV x), (0, ⟨r1, 1, none⟩, iV y), (0, ⟨r1, 2, none⟩, uV z)] [] (by kernel_rfl) trivial (AllC_cons (sat_cell h6 1 rfl rfl) (AllC_cons (sat_cell h6 1 rfl rfl) (AllC_cons (sat_cell h6 1 rfl rfl) (AllC_nil _)))) ?_
  refine plain_act (i := 3) (by kernel_rfl) ?_
  refine an_new (d := 6) (fun xb_ => pV xb_) (fun xb_ => Obj.cells [iV 0, iV 0, uV 0, iV 0, iV 0, iV 0, iV 0, .string (St [])].toArray 42 (0, 0)) (fun xb_ => by kernel_rfl) (by kernel_rfl) rfl h6 ?_
  intro r8 w9 (h10 : sat g w9 [Cl r8 [iV 0, iV 0, uV 0, iV 0, iV 0, iV 0, iV 0, .string (St [])] 42, Cl r4 [iV 0, iV 0, uV 0, iV 0, iV 0, iV 0, iV 0, .string (St [])] 42, Cl r1 [iV x, iV y, uV z] 32, R])
  refine plain_act (i := 4) (by kernel_rfl) ?_
  refine an_store [(0, iV x), (1, iV y), (2, uV z), (3, iV 1), (4, iV 0), (5, iV 0), (6, iV 0), (7, .string (St L))] (cs' := [iV x, iV y, uV z, iV 1, iV 0, iV 0, iV 0, .string (St L)]) (by kernel_rfl) (by kernel_rfl) (allq ⟨⟨by simp, rfl⟩, ⟨by simp, rfl⟩, ⟨by simp, rfl⟩, ⟨by simp, rfl⟩, ⟨by simp, rfl⟩, ⟨by simp, rfl⟩, ⟨by simp, rfl⟩, ⟨by simp, rfl⟩, trivial⟩) rfl h10 ?_
  intro w11 (h12 : sat g w11 [Cl r8 [iV x, iV y, uV z, iV 1, iV 0, iV 0, iV 0, .string (St L)] 42, Cl r4 [iV 0, iV 0, uV 0, iV 0, iV 0, iV 0, iV 0, .string (St [])] 42, Cl r1 [iV x, iV y, uV z] 32, R])
  refine PO.mk ?_
  change WP _ _ (CA Try.f37 [1, 1]) _ _ _
  refine fk_cut ([(4, pV r4), (6, pV r8)] : Fr) (by kernel_rfl) (fun a => WP _ _ _ _ a _) (fun lr13 => ?_)
  refine zSq (by kernel_rfl) ?_
  refine zSq (by kernel_rfl) ?_
  refine zPl [0, 1, 2] (by kernel_rfl) ?_
  refine zBb [1, 2] [(11, .agg #[iV x, iV y, uV z, iV 1, iV 0, iV 0, iV 0, .string (St L)])] [⟨0, [iV x, iV y, uV z, iV 1, iV 0, iV 0, iV 0, .string (St L)], none⟩] [(0, ⟨r8, 0, none⟩, iV x), (0, ⟨r8, 1, none⟩, iV y), (0, ⟨r8, 2, none⟩, uV z), (0, ⟨r8, 3, none⟩, iV 1), (0, ⟨r8, 4, none⟩, iV 0), (0, ⟨r8, 5, none⟩, iV 0), (0, ⟨r8, 6, none⟩, iV 0), (0, ⟨r8, 7, none⟩, .string (St L))] [] (by kernel_rfl) trivial (AllC_cons (sat_cell h12 0 rfl rfl) (AllC_cons (sat_cell h12 0 rfl rfl) (AllC_cons (sat_cell h12 0 rfl rfl) (AllC_cons (sat_cell h12 0 rfl rfl) (AllC_cons (sat_cell h12 0 rfl rfl) (AllC_cons (sat_cell h12 0 rfl rfl) (AllC_cons (sat_cell h12 0 rfl rfl) (AllC_cons (sat_cell h12 0 rfl rfl) (AllC_nil _))))))))) ?_
  refine plain_act (i := 1) (by kernel_rfl) ?_
  refine zCl 12 Try.call23 ((by have h_ := rchk_ht x y z 1 0 0 0 L (by omega) (by omega) (by omega); rw [show resE x y z 1 0 0 0 L = 0 from (if_pos (by unfold posP; omega)).trans (show tagE L = 0 from by omega)] at h_; exact h_)) h12 (by kernel_rfl) ?_
  rintro v K w14 (⟨rfl, rfl⟩) h15
  refine ⟨_, rfl, ?_⟩
  have h16 : sat g w14 [Cl r8 [iV x, iV y, uV z, iV 1, iV 0, iV 0, iV 0, .string (St L)] 42, Cl r4 [iV 0, iV 0, uV 0, iV 0, iV 0, iV 0, iV 0, .string (St [])] 42, Cl r1 [iV x, iV y, uV z] 32, R] := h15
  refine zB0 [] [2] [(7, iV 0)] (by kernel_rfl) ?_
  refine PO.mk ?_
  change WP _ _ (CA Try.f37 [1, 1, 0, 1]) _ _ _
  refine fk_cut ([(4, pV r4), (6, pV r8), (7, iV 0)] : Fr) (by kernel_rfl) (fun a => WP _ _ _ _ a _) (fun lr17 => ?_)
  refine zSq (by kernel_rfl) ?_
  refine zPl [0, 1] (by kernel_rfl) ?_
  refine zB0 [] [0, 1] [(14, .bool false), (13, iV 0)] (by kernel_rfl) ?_
  refine PO.mk ?_
  change WP _ _ (CA Try.f37 [1, 1, 0, 1, 1]) _ _ _
  refine fk_cut ([(4, pV r4), (6, pV r8), (7, iV 0), (14, .bool false)] : Fr) (by kernel_rfl) (fun a => WP _ _ _ _ a _) (fun lr18 => ?_)
  refine zCf (by kernel_rfl) ?_
  refine gi_skp (by kernel_rfl) ?_
  change WP _ _ (CA Try.f37 [1, 1, 1]) _ _ _
  refine zSq (by kernel_rfl) ?_
  refine zPl [0, 1, 2] (by kernel_rfl) ?_
  refine zBb [1, 2] [(17, .agg #[iV x, iV y, uV z, iV 1, iV 0, iV 0, iV 0, .string (St L)])] [⟨0, [iV x, iV y, uV z, iV 1, iV 0, iV 0, iV 0, .string (St L)], none⟩] [(0, ⟨r8, 0, none⟩, iV x), (0, ⟨r8, 1, none⟩, iV y), (0, ⟨r8, 2, none⟩, uV z), (0, ⟨r8, 3, none⟩, iV 1), (0, ⟨r8, 4, none⟩, iV 0), (0, ⟨r8, 5, none⟩, iV 0), (0, ⟨r8, 6, none⟩, iV 0), (0, ⟨r8, 7, none⟩, .string (St L))] [] (by kernel_rfl) trivial (AllC_cons (sat_cell h16 0 rfl rfl) (AllC_cons (sat_cell h16 0 rfl rfl) (AllC_cons (sat_cell h16 0 rfl rfl) (AllC_cons (sat_cell h16 0 rfl rfl) (AllC_cons (sat_cell h16 0 rfl rfl) (AllC_cons (sat_cell h16 0 rfl rfl) (AllC_cons (sat_cell h16 0 rfl rfl) (AllC_cons (sat_cell h16 0 rfl rfl) (AllC_nil _))))))))) ?_
  have h19 : sat g w14 [Cl r4 [iV 0, iV 0, uV 0, iV 0, iV 0, iV 0, iV 0, .string (St [])] 42, Cl r8 [iV x, iV y, uV z, iV 1, iV 0, iV 0, iV 0, .string (St L)] 42, Cl r1 [iV x, iV y, uV z] 32, R] := sat_sel [1, 0, 2, 3] rfl h16
  refine plain_act (i := 1) (by kernel_rfl) ?_
  refine an_store [(0, iV x), (1, iV y), (2, uV z), (3, iV 1), (4, iV 0), (5, iV 0), (6, iV 0), (7, .string (St L))] (cs' := [iV x, iV y, uV z, iV 1, iV 0, iV 0, iV 0, .string (St L)]) (by kernel_rfl) (by kernel_rfl) (allq ⟨⟨by simp, rfl⟩, ⟨by simp, rfl⟩, ⟨by simp, rfl⟩, ⟨by simp, rfl⟩, ⟨by simp, rfl⟩, ⟨by simp, rfl⟩, ⟨by simp, rfl⟩, ⟨by simp, rfl⟩, trivial⟩) rfl h19 ?_
  intro w20 (h21 : sat g w20 [Cl r4 [iV x, iV y, uV z, iV 1, iV 0, iV 0, iV 0, .string (St L)] 42, Cl r8 [iV x, iV y, uV z, iV 1, iV 0, iV 0, iV 0, .string (St L)] 42, Cl r1 [iV x, iV y, uV z] 32, R])
  refine zB0 [] [2] [(5, iV 0)] (by kernel_rfl) ?_
  refine PO.mk ?_
  change WP _ _ (CA Try.f37 [1, 1, 1, 1]) _ _ _
  refine fk_cut ([(4, pV r4), (5, iV 0)] : Fr) (by kernel_rfl) (fun a => WP _ _ _ _ a _) (fun lr22 => ?_)
  refine gi_rt (by kernel_rfl) ?_
  repeat (first | simp only [Exit.inBlock] | simp only [Exit.then])
  have h23 : sat g w20 [R] := sat_sel [3] rfl h21
  refine hi_out [iV x, iV y, uV z, iV 1, iV 0, iV 0, iV 0, .string (St L)] (.tuple #[.agg #[iV x, iV y, uV z, iV 1, iV 0, iV 0, iV 0, .string (St L)], iV 0]) [(⟨r4, 0, none⟩, iV x), (⟨r4, 1, none⟩, iV y), (⟨r4, 2, none⟩, uV z), (⟨r4, 3, none⟩, iV 1), (⟨r4, 4, none⟩, iV 0), (⟨r4, 5, none⟩, iV 0), (⟨r4, 6, none⟩, iV 0), (⟨r4, 7, none⟩, .string (St L))] (by kernel_rfl) (allq ⟨sat_cell h21 0 rfl rfl, sat_cell h21 0 rfl rfl, sat_cell h21 0 rfl rfl, sat_cell h21 0 rfl rfl, sat_cell h21 0 rfl rfl, sat_cell h21 0 rfl rfl, sat_cell h21 0 rfl rfl, sat_cell h21 0 rfl rfl, trivial⟩) ?_
  exact ⟨.tuple #[.agg #[iV x, iV y, uV z, iV 1, iV 0, iV 0, iV 0, .string (St L)], iV 0], [], rfl, ⟨rfl, rfl⟩, h23⟩

end Go.Proofs.Ytjjpmehiolejgaa
