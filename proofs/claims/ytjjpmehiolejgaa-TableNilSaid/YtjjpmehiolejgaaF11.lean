/- Walks, printed by my generator gen11.py. -/
import Derived.Test.YtjjpmehiolejgaaF10
namespace Go.Proofs.Ytjjpmehiolejgaa
theorem take_j (b n : Nat) (A : List Sl2) (j : Nat) (gj : Int) (h : (inS 0 A 0)[0]? = some (j, gj)) : HT Try.prog 59 [Value.pointer (some ⟨b, 0, none⟩)] [Tb b n A] (fun v K => v = Value.tuple #[Value.agg #[Value.int .i64 (j : Int), Value.int .u32 gj], Value.int .i64 0] ∧ K = [Tb b n (A.set j (1, gj))]) :=
  (take_ht b n A).mono fun v K hP => by
    have hl := (List.getElem?_eq_some_iff.1 h).1
    rw [(take_some hl).1, (take_some hl).2, getD_some h] at hP
    exact hP
set_option maxHeartbeats 4000000 in
theorem tat_n (vn : Int) : HT Try.prog 34 [Value.pointer none, Value.int IntKind.i64 vn] [] (fun v K => v = Value.tuple #[Value.agg #[Value.int IntKind.i64 0, Value.int IntKind.i64 0, Value.int IntKind.u32 0], Value.bool false] ∧ K = []) := by
  refine hi_in 24 ([(0, .pointer none), (1, iV vn)] : Fr) Try.func34 (by kernel_rfl) Try.ntmps34 rfl rfl ?_
  intro g w0 R h0
  change WP _ _ (CA Try.f34 []) _ _ _
  refine zSq (by kernel_rfl) ?_
  refine zPl [0, 1] (by kernel_rfl) ?_
  refine plain_act (i := 0) (by kernel_rfl) ?_
  refine an_new (d := 4) (fun xb_ => pV xb_) (fun xb_ => Obj.cells [iV 0, iV 0, uV 0].toArray 28 (0, 0)) (fun xb_ => by kernel_rfl) (by kernel_rfl) rfl h0 ?_
  intro r1 w2 (h3 : sat g w2 [Cl r1 [iV 0, iV 0, uV 0] 28, R])
  refine zB0 [] [1] [(5, .bool false)] (by kernel_rfl) ?_
  refine PO.mk ?_
  change WP _ _ (CA Try.f34 [1]) _ _ _
  refine fk_cut ([(0, .pointer none), (1, iV vn), (4, pV r1)] : Fr) (by kernel_rfl) (fun a => WP _ _ _ _ a _) (fun lr4 => ?_)
  refine zSq (by kernel_rfl) ?_
  refine zSq (by kernel_rfl) ?_
  refine zPl [0, 1, 2] (by kernel_rfl) ?_
  refine zB0 [1, 2] [0] [(8, .pointer none)] (by kernel_rfl) ?_
  refine plain_act (i := 1) (by kernel_rfl) ?_
  refine zCl 9 Try.call36 (tvalid_n) h3 (by kernel_rfl) ?_
  rintro v K w5 (⟨rfl, rfl⟩) h6
  refine ⟨_, rfl, ?_⟩
  have h7 : sat g w5 [Cl r1 [iV 0, iV 0, uV 0] 28, R] := h6
  refine zB0 [] [2] [(10, .bool true)] (by kernel_rfl) ?_
  refine PO.mk ?_
  change WP _ _ (CA Try.f34 [1, 0, 1]) _ _ _
  refine fk_cut ([(0, .pointer none), (1, iV vn), (4, pV r1), (10, .bool true)] : Fr) (by kernel_rfl) (fun a => WP _ _ _ _ a _) (fun lr8 => ?_)
  refine zCt (by kernel_rfl) ?_
  refine zSq (by kernel_rfl) ?_
  refine zPl [0, 1, 2] (by kernel_rfl) ?_
  refine zB0 [1, 2] [0] [(11, .agg #[iV 0, iV 0, uV 0])] (by kernel_rfl) ?_
  refine plain_act (i := 1) (by kernel_rfl) ?_
  refine an_store [(0, iV 0), (1, iV 0), (2, uV 0)] (cs' := [iV 0, iV 0, uV 0]) (by kernel_rfl) (by kernel_rfl) (allq ⟨⟨by simp, rfl⟩, ⟨by simp, rfl⟩, ⟨by simp, rfl⟩, trivial⟩) rfl h7 ?_
  intro w9 (h10 : sat g w9 [Cl r1 [iV 0, iV 0, uV 0] 28, R])
  refine zB0 [] [2] [(5, .bool false)] (by kernel_rfl) ?_
  refine PO.mk ?_
  change WP _ _ (CA Try.f34 [1, 0, 1, 0, 1]) _ _ _
  refine fk_cut ([(4, pV r1), (5, .bool false)] : Fr) (by kernel_rfl) (fun a => WP _ _ _ _ a _) (fun lr11 => ?_)
  refine gi_rt (by kernel_rfl) ?_
  repeat (first | simp only [Exit.inBlock] | simp only [Exit.then])
  have h12 : sat g w9 [R] := sat_sel [1] rfl h10
  refine hi_out [iV 0, iV 0, uV 0] (.tuple #[.agg #[iV 0, iV 0, uV 0], .bool false]) [(⟨r1, 0, none⟩, iV 0), (⟨r1, 1, none⟩, iV 0), (⟨r1, 2, none⟩, uV 0)] (by kernel_rfl) (allq ⟨sat_cell h10 0 rfl rfl, sat_cell h10 0 rfl rfl, sat_cell h10 0 rfl rfl, trivial⟩) ?_
  exact ⟨.tuple #[.agg #[iV 0, iV 0, uV 0], .bool false], [], rfl, ⟨rfl, rfl⟩, h12⟩

set_option maxHeartbeats 4000000 in
theorem tat_z (b : Nat) (vn : Int) : HT Try.prog 34 [Value.pointer (some ⟨b, 0, none⟩), Value.int IntKind.i64 vn] [Cl b [Value.pointer none, Value.map none, Value.slice none 0 0] 76] (fun v K => v = Value.tuple #[Value.agg #[Value.int IntKind.i64 0, Value.int IntKind.i64 0, Value.int IntKind.u32 0], Value.bool false] ∧ K = [Cl b [Value.pointer none, Value.map none, Value.slice none 0 0] 76]) := by
  refine hi_in 24 ([(0, pV b), (1, iV vn)] : Fr) Try.func34 (by kernel_rfl) Try.ntmps34 rfl rfl ?_
  intro g w0 R h0
  change WP _ _ (CA Try.f34 []) _ _ _
  refine zSq (by kernel_rfl) ?_
  refine zPl [0, 1] (by kernel_rfl) ?_
  refine plain_act (i := 0) (by kernel_rfl) ?_
  refine an_new (d := 4) (fun xb_ => pV xb_) (fun xb_ => Obj.cells [iV 0, iV 0, uV 0].toArray 28 (0, 0)) (fun xb_ => by kernel_rfl) (by kernel_rfl) rfl h0 ?_
  intro r1 w2 (h3 : sat g w2 [Cl r1 [iV 0, iV 0, uV 0] 28, Cl b [.pointer none, .map none, .slice none 0 0] 76, R])
  refine zB0 [] [1] [(5, .bool false)] (by kernel_rfl) ?_
  refine PO.mk ?_
  change WP _ _ (CA Try.f34 [1]) _ _ _
  refine fk_cut ([(0, pV b), (1, iV vn), (4, pV r1)] : Fr) (by kernel_rfl) (fun a => WP _ _ _ _ a _) (fun lr4 => ?_)
  refine zSq (by kernel_rfl) ?_
  refine zSq (by kernel_rfl) ?_
  refine zPl [0, 1, 2] (by kernel_rfl) ?_
  refine zB0 [1, 2] [0] [(8, pV b)] (by kernel_rfl) ?_
  have h5 : sat g w2 [Cl b [.pointer none, .map none, .slice none 0 0] 76, Cl r1 [iV 0, iV 0, uV 0] 28, R] := sat_sel [1, 0, 2] rfl h3
  refine plain_act (i := 1) (by kernel_rfl) ?_
  refine zCl 9 Try.call36 (tvalid_z b) h5 (by kernel_rfl) ?_
  rintro v K w6 (⟨rfl, rfl⟩) h7
  refine ⟨_, rfl, ?_⟩
  have h8 : sat g w6 [Cl b [.pointer none, .map none, .slice none 0 0] 76, Cl r1 [iV 0, iV 0, uV 0] 28, R] := h7
  refine zB0 [] [2] [(10, .bool true)] (by kernel_rfl) ?_
  refine PO.mk ?_
  change WP _ _ (CA Try.f34 [1, 0, 1]) _ _ _
  refine fk_cut ([(0, pV b), (1, iV vn), (4, pV r1), (10, .bool true)] : Fr) (by kernel_rfl) (fun a => WP _ _ _ _ a _) (fun lr9 => ?_)
  refine zCt (by kernel_rfl) ?_
  refine zSq (by kernel_rfl) ?_
  refine zPl [0, 1, 2] (by kernel_rfl) ?_
  refine zB0 [1, 2] [0] [(11, .agg #[iV 0, iV 0, uV 0])] (by kernel_rfl) ?_
  have h10 : sat g w6 [Cl r1 [iV 0, iV 0, uV 0] 28, Cl b [.pointer none, .map none, .slice none 0 0] 76, R] := sat_sel [1, 0, 2] rfl h8
  refine plain_act (i := 1) (by kernel_rfl) ?_
  refine an_store [(0, iV 0), (1, iV 0), (2, uV 0)] (cs' := [iV 0, iV 0, uV 0]) (by kernel_rfl) (by kernel_rfl) (allq ⟨⟨by simp, rfl⟩, ⟨by simp, rfl⟩, ⟨by simp, rfl⟩, trivial⟩) rfl h10 ?_
  intro w11 (h12 : sat g w11 [Cl r1 [iV 0, iV 0, uV 0] 28, Cl b [.pointer none, .map none, .slice none 0 0] 76, R])
  refine zB0 [] [2] [(5, .bool false)] (by kernel_rfl) ?_
  refine PO.mk ?_
  change WP _ _ (CA Try.f34 [1, 0, 1, 0, 1]) _ _ _
  refine fk_cut ([(4, pV r1), (5, .bool false)] : Fr) (by kernel_rfl) (fun a => WP _ _ _ _ a _) (fun lr13 => ?_)
  refine gi_rt (by kernel_rfl) ?_
  repeat (first | simp only [Exit.inBlock] | simp only [Exit.then])
  have h14 : sat g w11 [Cl b [.pointer none, .map none, .slice none 0 0] 76, Cl r1 [iV 0, iV 0, uV 0] 28, R] := sat_sel [1, 0, 2] rfl h12
  have h15 : sat g w11 [Cl b [.pointer none, .map none, .slice none 0 0] 76, R] := sat_sel [0, 2] rfl h14
  refine hi_out [iV 0, iV 0, uV 0] (.tuple #[.agg #[iV 0, iV 0, uV 0], .bool false]) [(⟨r1, 0, none⟩, iV 0), (⟨r1, 1, none⟩, iV 0), (⟨r1, 2, none⟩, uV 0)] (by kernel_rfl) (allq ⟨sat_cell h12 0 rfl rfl, sat_cell h12 0 rfl rfl, sat_cell h12 0 rfl rfl, trivial⟩) ?_
  exact ⟨.tuple #[.agg #[iV 0, iV 0, uV 0], .bool false], [Cl b [.pointer none, .map none, .slice none 0 0] 76], rfl, ⟨rfl, rfl⟩, h15⟩

set_option maxHeartbeats 4000000 in
theorem tget_n (vn : Int) : HT Try.prog 20 [Value.pointer none, Value.int IntKind.i64 vn] [] (fun v K => v = Value.tuple #[Value.agg #[Value.int IntKind.i64 0, Value.int IntKind.i64 0, Value.int IntKind.u32 0, Value.int IntKind.i64 0, Value.int IntKind.i64 0, Value.int IntKind.i64 0, Value.int IntKind.i64 0, Value.string (St [])], Value.int IntKind.i64 1] ∧ K = []) := by
  refine hi_in 22 ([(0, .pointer none), (1, iV vn)] : Fr) Try.func20 (by kernel_rfl) Try.ntmps20 rfl rfl ?_
  intro g w0 R h0
  change WP _ _ (CA Try.f20 []) _ _ _
  refine zSq (by kernel_rfl) ?_
  refine zPl [0, 1] (by kernel_rfl) ?_
  refine plain_act (i := 0) (by kernel_rfl) ?_
  refine an_new (d := 4) (fun xb_ => pV xb_) (fun xb_ => Obj.cells [iV 0, iV 0, uV 0, iV 0, iV 0, iV 0, iV 0, .string (St [])].toArray 42 (0, 0)) (fun xb_ => by kernel_rfl) (by kernel_rfl) rfl h0 ?_
  intro r1 w2 (h3 : sat g w2 [Cl r1 [iV 0, iV 0, uV 0, iV 0, iV 0, iV 0, iV 0, .string (St [])] 42, R])
  refine zB0 [] [1] [(5, iV 0)] (by kernel_rfl) ?_
  refine PO.mk ?_
  change WP _ _ (CA Try.f20 [1]) _ _ _
  refine fk_cut ([(0, .pointer none), (1, iV vn), (4, pV r1)] : Fr) (by kernel_rfl) (fun a => WP _ _ _ _ a _) (fun lr4 => ?_)
  refine zSq (by kernel_rfl) ?_
  refine zSq (by kernel_rfl) ?_
  refine zPl [0, 1, 2, 3] (by kernel_rfl) ?_
  refine zB0 [2, 3] [0, 1] [(8, iV vn), (7, .pointer none)] (by kernel_rfl) ?_
  refine plain_act (i := 2) (by kernel_rfl) ?_
  refine zCl 9 Try.call47 (tcheck_n vn) h3 (by kernel_rfl) ?_
  rintro v K w5 (⟨rfl, rfl⟩) h6
  refine ⟨_, rfl, ?_⟩
  have h7 : sat g w5 [Cl r1 [iV 0, iV 0, uV 0, iV 0, iV 0, iV 0, iV 0, .string (St [])] 42, R] := h6
  refine zB0 [] [3] [(6, iV 1)] (by kernel_rfl) ?_
  refine PO.mk ?_
  change WP _ _ (CA Try.f20 [1, 0, 1]) _ _ _
  refine fk_cut ([(0, .pointer none), (1, iV vn), (4, pV r1), (6, iV 1)] : Fr) (by kernel_rfl) (fun a => WP _ _ _ _ a _) (fun lr8 => ?_)
  refine zSq (by kernel_rfl) ?_
  refine zPl [0, 1] (by kernel_rfl) ?_
  refine zB0 [] [0, 1] [(11, .bool true), (10, iV 1)] (by kernel_rfl) ?_
  refine PO.mk ?_
  change WP _ _ (CA Try.f20 [1, 0, 1, 1]) _ _ _
  refine fk_cut ([(0, .pointer none), (1, iV vn), (4, pV r1), (6, iV 1), (11, .bool true)] : Fr) (by kernel_rfl) (fun a => WP _ _ _ _ a _) (fun lr9 => ?_)
  refine zCt (by kernel_rfl) ?_
  refine zSq (by kernel_rfl) ?_
  refine zPl [0, 1, 2, 3] (by kernel_rfl) ?_
  refine zB0 [2, 3] [0, 1] [(13, iV 1), (12, .agg #[iV 0, iV 0, uV 0, iV 0, iV 0, iV 0, iV 0, .string (St [])])] (by kernel_rfl) ?_
  refine plain_act (i := 2) (by kernel_rfl) ?_
  refine an_store [(0, iV 0), (1, iV 0), (2, uV 0), (3, iV 0), (4, iV 0), (5, iV 0), (6, iV 0), (7, .string (St []))] (cs' := [iV 0, iV 0, uV 0, iV 0, iV 0, iV 0, iV 0, .string (St [])]) (by kernel_rfl) (by kernel_rfl) (allq ⟨⟨by simp, rfl⟩, ⟨by simp, rfl⟩, ⟨by simp, rfl⟩, ⟨by simp, rfl⟩, ⟨by simp, rfl⟩, ⟨by simp, rfl⟩, ⟨by simp, rfl⟩, ⟨by simp, rfl⟩, trivial⟩) rfl h7 ?_
  intro w10 (h11 : sat g w10 [Cl r1 [iV 0, iV 0, uV 0, iV 0, iV 0, iV 0, iV 0, .string (St [])] 42, R])
  refine zB0 [] [3] [(5, iV 1)] (by kernel_rfl) ?_
  refine PO.mk ?_
  change WP _ _ (CA Try.f20 [1, 0, 1, 1, 0, 1]) _ _ _
  refine fk_cut ([(4, pV r1), (5, iV 1)] : Fr) (by kernel_rfl) (fun a => WP _ _ _ _ a _) (fun lr12 => ?_)
  refine gi_rt (by kernel_rfl) ?_
  repeat (first | simp only [Exit.inBlock] | simp only [Exit.then])
  have h13 : sat g w10 [R] := sat_sel [1] rfl h11
  refine hi_out [iV 0, iV 0, uV 0, iV 0, iV 0, iV 0, iV 0, .string (St [])] (.tuple #[.agg #[iV 0, iV 0, uV 0, iV 0, iV 0, iV 0, iV 0, .string (St [])], iV 1]) [(⟨r1, 0, none⟩, iV 0), (⟨r1, 1, none⟩, iV 0), (⟨r1, 2, none⟩, uV 0), (⟨r1, 3, none⟩, iV 0), (⟨r1, 4, none⟩, iV 0), (⟨r1, 5, none⟩, iV 0), (⟨r1, 6, none⟩, iV 0), (⟨r1, 7, none⟩, .string (St []))] (by kernel_rfl) (allq ⟨sat_cell h11 0 rfl rfl, sat_cell h11 0 rfl rfl, sat_cell h11 0 rfl rfl, sat_cell h11 0 rfl rfl, sat_cell h11 0 rfl rfl, sat_cell h11 0 rfl rfl, sat_cell h11 0 rfl rfl, sat_cell h11 0 rfl rfl, trivial⟩) ?_
  exact ⟨.tuple #[.agg #[iV 0, iV 0, uV 0, iV 0, iV 0, iV 0, iV 0, .string (St [])], iV 1], [], rfl, ⟨rfl, rfl⟩, h13⟩

set_option maxHeartbeats 4000000 in
theorem tget_z (b : Nat) (vn : Int) : HT Try.prog 20 [Value.pointer (some ⟨b, 0, none⟩), Value.int IntKind.i64 vn] [Cl b [Value.pointer none, Value.map none, Value.slice none 0 0] 76] (fun v K => v = Value.tuple #[Value.agg #[Value.int IntKind.i64 0, Value.int IntKind.i64 0, Value.int IntKind.u32 0, Value.int IntKind.i64 0, Value.int IntKind.i64 0, Value.int IntKind.i64 0, Value.int IntKind.i64 0, Value.string (St [])], Value.int IntKind.i64 1] ∧ K = [Cl b [Value.pointer none, Value.map none, Value.slice none 0 0] 76]) := by
  refine hi_in 22 ([(0, pV b), (1, iV vn)] : Fr) Try.func20 (by kernel_rfl) Try.ntmps20 rfl rfl ?_
  intro g w0 R h0
  change WP _ _ (CA Try.f20 []) _ _ _
  refine zSq (by kernel_rfl) ?_
  refine zPl [0, 1] (by kernel_rfl) ?_
  refine plain_act (i := 0) (by kernel_rfl) ?_
  refine an_new (d := 4) (fun xb_ => pV xb_) (fun xb_ => Obj.cells [iV 0, iV 0, uV 0, iV 0, iV 0, iV 0, iV 0, .string (St [])].toArray 42 (0, 0)) (fun xb_ => by kernel_rfl) (by kernel_rfl) rfl h0 ?_
  intro r1 w2 (h3 : sat g w2 [Cl r1 [iV 0, iV 0, uV 0, iV 0, iV 0, iV 0, iV 0, .string (St [])] 42, Cl b [.pointer none, .map none, .slice none 0 0] 76, R])
  refine zB0 [] [1] [(5, iV 0)] (by kernel_rfl) ?_
  refine PO.mk ?_
  change WP _ _ (CA Try.f20 [1]) _ _ _
  refine fk_cut ([(0, pV b), (1, iV vn), (4, pV r1)] : Fr) (by kernel_rfl) (fun a => WP _ _ _ _ a _) (fun lr4 => ?_)
  refine zSq (by kernel_rfl) ?_
  refine zSq (by kernel_rfl) ?_
  refine zPl [0, 1, 2, 3] (by kernel_rfl) ?_
  refine zB0 [2, 3] [0, 1] [(8, iV vn), (7, pV b)] (by kernel_rfl) ?_
  have h5 : sat g w2 [Cl b [.pointer none, .map none, .slice none 0 0] 76, Cl r1 [iV 0, iV 0, uV 0, iV 0, iV 0, iV 0, iV 0, .string (St [])] 42, R] := sat_sel [1, 0, 2] rfl h3
  refine plain_act (i := 2) (by kernel_rfl) ?_
  refine zCl 9 Try.call47 (tcheck_z b vn) h5 (by kernel_rfl) ?_
  rintro v K w6 (⟨rfl, rfl⟩) h7
  refine ⟨_, rfl, ?_⟩
  have h8 : sat g w6 [Cl b [.pointer none, .map none, .slice none 0 0] 76, Cl r1 [iV 0, iV 0, uV 0, iV 0, iV 0, iV 0, iV 0, .string (St [])] 42, R] := h7
  refine zB0 [] [3] [(6, iV 1)] (by kernel_rfl) ?_
  refine PO.mk ?_
  change WP _ _ (CA Try.f20 [1, 0, 1]) _ _ _
  refine fk_cut ([(0, pV b), (1, iV vn), (4, pV r1), (6, iV 1)] : Fr) (by kernel_rfl) (fun a => WP _ _ _ _ a _) (fun lr9 => ?_)
  refine zSq (by kernel_rfl) ?_
  refine zPl [0, 1] (by kernel_rfl) ?_
  refine zB0 [] [0, 1] [(11, .bool true), (10, iV 1)] (by kernel_rfl) ?_
  refine PO.mk ?_
  change WP _ _ (CA Try.f20 [1, 0, 1, 1]) _ _ _
  refine fk_cut ([(0, pV b), (1, iV vn), (4, pV r1), (6, iV 1), (11, .bool true)] : Fr) (by kernel_rfl) (fun a => WP _ _ _ _ a _) (fun lr10 => ?_)
  refine zCt (by kernel_rfl) ?_
  refine zSq (by kernel_rfl) ?_
  refine zPl [0, 1, 2, 3] (by kernel_rfl) ?_
  refine zB0 [2, 3] [0, 1] [(13, iV 1), (12, .agg #[iV 0, iV 0, uV 0, iV 0, iV 0, iV 0, iV 0, .string (St [])])] (by kernel_rfl) ?_
  have h11 : sat g w6 [Cl r1 [iV 0, iV 0, uV 0, iV 0, iV 0, iV 0, iV 0, .string (St [])] 42, Cl b [.pointer none, .map none, .slice none 0 0] 76, R] := sat_sel [1, 0, 2] rfl h8
  refine plain_act (i := 2) (by kernel_rfl) ?_
  refine an_store [(0, iV 0), (1, iV 0), (2, uV 0), (3, iV 0), (4, iV 0), (5, iV 0), (6, iV 0), (7, .string (St []))] (cs' := [iV 0, iV 0, uV 0, iV 0, iV 0, iV 0, iV 0, .string (St [])]) (by kernel_rfl) (by kernel_rfl) (allq ⟨⟨by simp, rfl⟩, ⟨by simp, rfl⟩, ⟨by simp, rfl⟩, ⟨by simp, rfl⟩, ⟨by simp, rfl⟩, ⟨by simp, rfl⟩, ⟨by simp, rfl⟩, ⟨by simp, rfl⟩, trivial⟩) rfl h11 ?_
  intro w12 (h13 : sat g w12 [Cl r1 [iV 0, iV 0, uV 0, iV 0, iV 0, iV 0, iV 0, .string (St [])] 42, Cl b [.pointer none, .map none, .slice none 0 0] 76, R])
  refine zB0 [] [3] [(5, iV 1)] (by kernel_rfl) ?_
  refine PO.mk ?_
  change WP _ _ (CA Try.f20 [1, 0, 1, 1, 0, 1]) _ _ _
  refine fk_cut ([(4, pV r1), (5, iV 1)] : Fr) (by kernel_rfl) (fun a => WP _ _ _ _ a _) (fun lr14 => ?_)
  refine gi_rt (by kernel_rfl) ?_
  repeat (first | simp only [Exit.inBlock] | simp only [Exit.then])
  have h15 : sat g w12 [Cl b [.pointer none, .map none, .slice none 0 0] 76, Cl r1 [iV 0, iV 0, uV 0, iV 0, iV 0, iV 0, iV 0, .string (St [])] 42, R] := sat_sel [1, 0, 2] rfl h13
  have h16 : sat g w12 [Cl b [.pointer none, .map none, .slice none 0 0] 76, R] := sat_sel [0, 2] rfl h15
  refine hi_out [iV 0, iV 0, uV 0, iV 0, iV 0, iV 0, iV 0, .string (St [])] (.tuple #[.agg #[iV 0, iV 0, uV 0, iV 0, iV 0, iV 0, iV 0, .string (St [])], iV 1]) [(⟨r1, 0, none⟩, iV 0), (⟨r1, 1, none⟩, iV 0), (⟨r1, 2, none⟩, uV 0), (⟨r1, 3, none⟩, iV 0), (⟨r1, 4, none⟩, iV 0), (⟨r1, 5, none⟩, iV 0), (⟨r1, 6, none⟩, iV 0), (⟨r1, 7, none⟩, .string (St []))] (by kernel_rfl) (allq ⟨sat_cell h13 0 rfl rfl, sat_cell h13 0 rfl rfl, sat_cell h13 0 rfl rfl, sat_cell h13 0 rfl rfl, sat_cell h13 0 rfl rfl, sat_cell h13 0 rfl rfl, sat_cell h13 0 rfl rfl, sat_cell h13 0 rfl rfl, trivial⟩) ?_
  exact ⟨.tuple #[.agg #[iV 0, iV 0, uV 0, iV 0, iV 0, iV 0, iV 0, .string (St [])], iV 1], [Cl b [.pointer none, .map none, .slice none 0 0] 76], rfl, ⟨rfl, rfl⟩, h16⟩

set_option maxHeartbeats 4000000 in
theorem tdrop_ht (b n : Nat) (A : List Sl2) (E : Tm) (RL : List Rs) (x y z : Int) (hz0 : 0 ≤ z) (hz1 : z ≤ 4294967295) (q : Nat) (s : Sl2) (hs : A[q]? = some s) (hd_ : y = (q : Int) ∧ s.1 = 1 ∧ s.2 = z) : HT Try.prog 45 [Value.pointer (some ⟨b, 0, none⟩), Value.agg #[Value.int IntKind.i64 x, Value.int IntKind.i64 y, Value.int IntKind.u32 z]] [Tab b n A E RL] (fun v K => v = Value.tuple #[] ∧ K = [Tab b n (giveA A q z) (gdel E y) RL]) := by
  refine hi_in 20 ([(0, pV b), (1, .agg #[iV x, iV y, uV z])] : Fr) Try.func45 (by kernel_rfl) Try.ntmps45 rfl rfl ?_
  intro g w0 R h0
  change WP _ _ (CA Try.f45 []) _ _ _
  refine zSq (by kernel_rfl) ?_
  refine zPl [0] (by kernel_rfl) ?_
  refine plain_act (i := 0) (by kernel_rfl) ?_
  refine an_new (d := 3) (fun xb_ => pV xb_) (fun xb_ => Obj.cells [iV x, iV y, uV z].toArray 28 (0, 0)) (fun xb_ => by kernel_rfl) (by kernel_rfl) rfl h0 ?_
  intro r1 w2 (h3 : sat g w2 [Cl r1 [iV x, iV y, uV z] 28, Tab b n A E RL, R])
  refine PO.mk ?_
  change WP _ _ (CA Try.f45 [1]) _ _ _
  refine fk_cut ([(0, pV b), (3, pV r1)] : Fr) (by kernel_rfl) (fun a => WP _ _ _ _ a _) (fun lr4 => ?_)
  refine zSq (by kernel_rfl) ?_
  refine gi_drw (id := 1) (ops := RA Try.f45 [1, 0]) (Tr.fl 0 (Tr.fl 1 (Tr.fl 2 (Tr.fl 3 (Tr.fl 4 (Tr.fl 5 (Tr.an 6 Tr.nil))))))) (by kernel_rfl) (by kernel_rfl) (by kernel_rfl) (by kernel_rfl) (by kernel_rfl) (fun _ _ d _ _ h => by cases d <;> exact h) h3 ?_
  intro w5 h6
  have h7 : sat g w5 [Tab b n A E RL, Cl r1 [iV x, iV y, uV z] 28, R] := sat_sel [1, 0, 2] rfl h6
  obtain ⟨s8, m9, p10, c11, E12, hM13, h14⟩ := tab_open h7
  have hRl_ := hM13.2
  refine draw_batch (t := (Tr.an 6 Tr.nil)) [⟨0, [], none⟩, ⟨1, [], none⟩, ⟨2, [], none⟩, ⟨3, [.map (some m9)], none⟩, ⟨4, [], none⟩, ⟨5, [iV y], none⟩] (l' := ([(9, iV y), (8, .pointer (some ⟨r1, 1, none⟩)), (7, .map (some m9)), (6, .pointer (some ⟨b, 1, none⟩)), (5, pV b), (4, pV b), (0, pV b), (3, pV r1)] : Fr) ++ lr4) (pts' := [(5, ⟨r1, 1, none⟩, iV y), (3, ⟨b, 1, none⟩, .map (some m9))]) (eqs := []) (by kernel_rfl) trivial (AllC_cons (sat_cell h14 4 rfl rfl) (AllC_cons (sat_cell h14 0 rfl rfl) (AllC_nil _))) ?_
  have h15 : sat g w5 [Gp kI vE m9 E12, Cl b [pV s8, .map (some m9), .slice p10 RL.length c11] 76, Tb s8 n A, Sl 42 8 p10 RL.length c11 (fl eRs RL), Cl r1 [iV x, iV y, uV z] 28, R] := sat_sel [2, 0, 1, 3, 4, 5] rfl h14
  refine draw_act (i := 6) [] (by kernel_rfl) (by kernel_rfl) ?_
  refine ag_delete (t := 73) (t2 := 3) (d := none) (m := (Operand.tmp 7)) (x := (Operand.tmp 9)) (kv := kI) (ve := vE) (by kernel_rfl) Try.underlying73 kyI y (by kernel_rfl) (by kernel_rfl) h15 (by kernel_rfl) (gdel E12 y) rfl ?_
  intro w16 h17
  refine ⟨_, rfl, ?_⟩
  have h18 : sat g w16 [Gp kI vE m9 (gdel E12 y), Cl b [pV s8, .map (some m9), .slice p10 RL.length c11] 76, Tb s8 n A, Sl 42 8 p10 RL.length c11 (fl eRs RL), Cl r1 [iV x, iV y, uV z] 28, R] := h17
  refine ⟨(AllC_nil _), ?_⟩
  change WP _ _ (CA Try.f45 [1, 1]) _ _ _
  refine fk_cut ([(0, pV b), (3, pV r1)] : Fr) (by kernel_rfl) (fun a => WP _ _ _ _ a _) (fun lr19 => ?_)
  refine gi_drw (id := 2) (ops := RA Try.f45 [1, 1]) (Tr.fl 0 (Tr.fl 1 (Tr.fl 2 (Tr.fl 3 (Tr.fl 4 (Tr.fl 5 (Tr.fl 6 (Tr.fl 7 (Tr.fl 8 (Tr.an 9 Tr.nil)))))))))) (by kernel_rfl) (by kernel_rfl) (by kernel_rfl) (by kernel_rfl) (by kernel_rfl) (fun _ _ d _ _ h => by cases d <;> exact h) h18 ?_
  intro w20 h21
  refine draw_batch (t := (Tr.an 9 Tr.nil)) [⟨0, [], none⟩, ⟨1, [], none⟩, ⟨2, [], none⟩, ⟨3, [pV s8], none⟩, ⟨4, [], none⟩, ⟨5, [iV y], none⟩, ⟨6, [], none⟩, ⟨7, [uV z], none⟩, ⟨8, [], none⟩] (l' := ([(18, .agg #[iV y, uV z]), (17, uV z), (16, .pointer (some ⟨r1, 2, none⟩)), (15, iV y), (14, .pointer (some ⟨r1, 1, none⟩)), (13, pV s8), (12, pV b), (11, pV b), (10, pV b), (0, pV b), (3, pV r1)] : Fr) ++ lr19) (pts' := [(7, ⟨r1, 2, none⟩, uV z), (5, ⟨r1, 1, none⟩, iV y), (3, ⟨b, 0, none⟩, pV s8)]) (eqs := []) (by kernel_rfl) trivial (AllC_cons (sat_cell h21 4 rfl rfl) (AllC_cons (sat_cell h21 4 rfl rfl) (AllC_cons (sat_cell h21 1 rfl rfl) (AllC_nil _)))) ?_
  have h22 : sat g w20 [Tb s8 n A, Gp kI vE m9 (gdel E12 y), Cl b [pV s8, .map (some m9), .slice p10 RL.length c11] 76, Sl 42 8 p10 RL.length c11 (fl eRs RL), Cl r1 [iV x, iV y, uV z] 28, R] := sat_sel [2, 0, 1, 3, 4, 5] rfl h21
  refine draw_act (i := 9) [(7, ⟨r1, 2, none⟩, uV z), (5, ⟨r1, 1, none⟩, iV y)] (by kernel_rfl) (by kernel_rfl) ?_
  refine zCl 19 Try.call60 (give_ht s8 n A q s hs y z (by omega)) h22 (by kernel_rfl) ?_
  rintro v K w23 (⟨rfl, rfl⟩) h24
  refine ⟨_, rfl, ?_⟩
  have h25 : sat g w23 [Tb s8 n (giveA A q z), Gp kI vE m9 (gdel E12 y), Cl b [pV s8, .map (some m9), .slice p10 RL.length c11] 76, Sl 42 8 p10 RL.length c11 (fl eRs RL), Cl r1 [iV x, iV y, uV z] 28, R] := h24
  refine ⟨(AllC_cons (sat_cell h25 4 rfl rfl) (AllC_cons (sat_cell h25 4 rfl rfl) (AllC_nil _))), ?_⟩
  repeat (first | simp only [Exit.inBlock] | simp only [Exit.then])
  have h26 : sat g w23 [Cl b [pV s8, .map (some m9), .slice p10 RL.length c11] 76, Tb s8 n (giveA A q z), Gp kI vE m9 (gdel E12 y), Sl 42 8 p10 RL.length c11 (fl eRs RL), Cl r1 [iV x, iV y, uV z] 28, R] := sat_sel [2, 0, 1, 3, 4, 5] rfl h25
  have h27 : sat g w23 [Tab b n (giveA A q z) (gdel E y) RL, Cl r1 [iV x, iV y, uV z] 28, R] := tab_close (meq_del hM13.1 y) (by omega) (by first | rfl | omega) h26
  have h28 : sat g w23 [Tab b n (giveA A q z) (gdel E y) RL, R] := sat_sel [0, 2] rfl h27
  refine hi_outn [] (.tuple #[]) [] (by kernel_rfl) (by intro q hq; cases hq) ?_
  exact ⟨.tuple #[], [Tab b n (giveA A q z) (gdel E y) RL], rfl, ⟨rfl, rfl⟩, h28⟩

set_option maxHeartbeats 4000000 in
theorem tadd_ok (b n : Nat) (A : List Sl2) (E : Tm) (RL : List Rs) (vn hx hy : Int) (q : Nat) (r : Rs) (hr : RL[q]? = some r) (hv : vn = (q : Int) + 1) (j : Nat) (gj : Int) (hj : (inS 0 A 0)[0]? = some (j, gj)) : HT Try.prog 43 [Value.pointer (some ⟨b, 0, none⟩), Value.int IntKind.i64 vn, Value.agg #[Value.int IntKind.i64 hx, Value.int IntKind.u32 hy]] [Tab b n A E RL] (fun v K => v = Value.tuple #[Value.agg #[Value.int IntKind.i64 r.out.1, Value.int IntKind.i64 (((j : Nat) : Int)), Value.int IntKind.u32 gj], Value.int IntKind.i64 0] ∧ K = [Tab b n (A.set j (1, gj)) (gset E (j : Int) ⟨(r.out.1, (j : Int), gj), vn, (hx, hy)⟩) RL]) := by
  have hfl_ := (List.getElem?_eq_some_iff.1 hj).1
  refine hi_in 49 ([(0, pV b), (1, iV vn), (2, .agg #[iV hx, uV hy])] : Fr) Try.func43 (by kernel_rfl) Try.ntmps43 rfl rfl ?_
  intro g w0 R h0
  change WP _ _ (CA Try.f43 []) _ _ _
  have hq_ := (List.getElem?_eq_some_iff.1 hr).1
  refine zSq (by kernel_rfl) ?_
  refine zPl [0, 1, 2] (by kernel_rfl) ?_
  refine plain_act (i := 0) (by kernel_rfl) ?_
  refine an_new (d := 5) (fun xb_ => pV xb_) (fun xb_ => Obj.cells [iV hx, uV hy].toArray 34 (0, 0)) (fun xb_ => by kernel_rfl) (by kernel_rfl) rfl h0 ?_
  intro r1 w2 (h3 : sat g w2 [Cl r1 [iV hx, uV hy] 34, Tab b n A E RL, R])
  refine plain_act (i := 1) (by kernel_rfl) ?_
  refine an_new (d := 6) (fun xb_ => pV xb_) (fun xb_ => Obj.cells [iV 0, iV 0, uV 0].toArray 28 (0, 0)) (fun xb_ => by kernel_rfl) (by kernel_rfl) rfl h3 ?_
  intro r4 w5 (h6 : sat g w5 [Cl r4 [iV 0, iV 0, uV 0] 28, Cl r1 [iV hx, uV hy] 34, Tab b n A E RL, R])
  refine zB0 [] [2] [(7, iV 0)] (by kernel_rfl) ?_
  refine PO.mk ?_
  change WP _ _ (CA Try.f43 [1]) _ _ _
  refine fk_cut ([(0, pV b), (1, iV vn), (5, pV r1), (6, pV r4)] : Fr) (by kernel_rfl) (fun a => WP _ _ _ _ a _) (fun lr7 => ?_)
  refine zSq (by kernel_rfl) ?_
  refine zPl [0, 1, 2, 3, 4, 5, 6, 7, 8, 9, 10] (by kernel_rfl) ?_
  have h8 : sat g w5 [Tab b n A E RL, Cl r4 [iV 0, iV 0, uV 0] 28, Cl r1 [iV hx, uV hy] 34, R] := sat_sel [2, 0, 1, 3] rfl h6
  obtain ⟨s9, m10, p11, c12, E13, hM14, h15⟩ := tab_open h8
  have hRl_ := hM14.2
  refine zBb [4, 5, 6, 7, 8, 9, 10] [(15, pV s9), (14, pV b), (13, pV b), (12, pV b)] [⟨0, [], none⟩, ⟨1, [], none⟩, ⟨2, [], none⟩, ⟨3, [pV s9], none⟩] [(3, ⟨b, 0, none⟩, pV s9)] [] (by kernel_rfl) trivial (AllC_cons (sat_cell h15 0 rfl rfl) (AllC_nil _)) ?_
  have h16 : sat g w5 [Tb s9 n A, Cl b [pV s9, .map (some m10), .slice p11 RL.length c12] 76, Gp kI vE m10 E13, Sl 42 8 p11 RL.length c12 (fl eRs RL), Cl r4 [iV 0, iV 0, uV 0] 28, Cl r1 [iV hx, uV hy] 34, R] := sat_sel [1, 0, 2, 3, 4, 5, 6] rfl h15
  refine plain_act (i := 4) (by kernel_rfl) ?_
  refine zCl 16 Try.call59 (take_j s9 n A j gj hj) h16 (by kernel_rfl) ?_
  rintro v K w17 (⟨rfl, rfl⟩) h18
  refine ⟨_, rfl, ?_⟩
  have h19 : sat g w17 [Tb s9 n (A.set j (1, gj)), Cl b [pV s9, .map (some m10), .slice p11 RL.length c12] 76, Gp kI vE m10 E13, Sl 42 8 p11 RL.length c12 (fl eRs RL), Cl r4 [iV 0, iV 0, uV 0] 28, Cl r1 [iV hx, uV hy] 34, R] := h18
  refine zB0 [8, 9, 10] [5, 6, 7] [(18, iV 0), (17, .agg #[iV (((j : Nat) : Int)), uV gj]), (11, .tuple #[.agg #[iV (((j : Nat) : Int)), uV gj], iV 0])] (by kernel_rfl) ?_
  refine plain_act (i := 8) (by kernel_rfl) ?_
  refine an_new (d := 8) (fun xb_ => pV xb_) (fun xb_ => Obj.cells [iV 0, uV 0].toArray 34 (0, 0)) (fun xb_ => by kernel_rfl) (by kernel_rfl) rfl h19 ?_
  intro r20 w21 (h22 : sat g w21 [Cl r20 [iV 0, uV 0] 34, Tb s9 n (A.set j (1, gj)), Cl b [pV s9, .map (some m10), .slice p11 RL.length c12] 76, Gp kI vE m10 E13, Sl 42 8 p11 RL.length c12 (fl eRs RL), Cl r4 [iV 0, iV 0, uV 0] 28, Cl r1 [iV hx, uV hy] 34, R])
  refine plain_act (i := 9) (by kernel_rfl) ?_
  refine an_store [(0, iV (((j : Nat) : Int))), (1, uV gj)] (cs' := [iV (((j : Nat) : Int)), uV gj]) (by kernel_rfl) (by kernel_rfl) (allq ⟨⟨by simp, rfl⟩, ⟨by simp, rfl⟩, trivial⟩) rfl h22 ?_
  intro w23 (h24 : sat g w23 [Cl r20 [iV (((j : Nat) : Int)), uV gj] 34, Tb s9 n (A.set j (1, gj)), Cl b [pV s9, .map (some m10), .slice p11 RL.length c12] 76, Gp kI vE m10 E13, Sl 42 8 p11 RL.length c12 (fl eRs RL), Cl r4 [iV 0, iV 0, uV 0] 28, Cl r1 [iV hx, uV hy] 34, R])
  refine zB0 [] [10] [(9, iV 0)] (by kernel_rfl) ?_
  refine PO.mk ?_
  change WP _ _ (CA Try.f43 [1, 1]) _ _ _
  refine fk_cut ([(0, pV b), (1, iV vn), (5, pV r1), (6, pV r4), (8, pV r20), (9, iV 0)] : Fr) (by kernel_rfl) (fun a => WP _ _ _ _ a _) (fun lr25 => ?_)
  refine zSq (by kernel_rfl) ?_
  refine zSq (by kernel_rfl) ?_
  refine zPl [0, 1] (by kernel_rfl) ?_
  refine zB0 [] [0, 1] [(20, .bool false), (19, iV 0)] (by kernel_rfl) ?_
  refine PO.mk ?_
  change WP _ _ (CA Try.f43 [1, 1, 0, 1]) _ _ _
  refine fk_cut ([(0, pV b), (1, iV vn), (5, pV r1), (6, pV r4), (8, pV r20), (9, iV 0), (20, .bool false)] : Fr) (by kernel_rfl) (fun a => WP _ _ _ _ a _) (fun lr26 => ?_)
  refine zCf (by kernel_rfl) ?_
  refine gi_skp (by kernel_rfl) ?_
  change WP _ _ (CA Try.f43 [1, 1, 1]) _ _ _
  refine zSq (by kernel_rfl) ?_
  refine gi_drw (id := 4) (ops := RA Try.f43 [1, 1, 1, 0]) (Tr.fl 0 (Tr.fl 1 (Tr.fl 2 (Tr.fl 3 (Tr.fl 4 (Tr.fl 5 (Tr.fl 6 (Tr.fl 7 (Tr.fl 8 (Tr.fl 9 (Tr.fl 10 (Tr.fl 11 (Tr.fl 12 (Tr.fl 13 (Tr.fl 14 (Tr.an 15 (Tr.an 16 Tr.nil))))))))))))))))) (by kernel_rfl) (by kernel_rfl) (by kernel_rfl) (by kernel_rfl) (by kernel_rfl) (fun _ _ d _ _ h => by cases d <;> exact h) h24 ?_
  intro w27 h28
  obtain ⟨b29, hp30⟩ := sl_ptr0 (j := 4) h28 rfl (by omega)
  refine draw_batch (t := (Tr.fl 6 (Tr.fl 7 (Tr.fl 8 (Tr.fl 9 (Tr.fl 10 (Tr.fl 11 (Tr.fl 12 (Tr.fl 13 (Tr.fl 14 (Tr.an 15 (Tr.an 16 Tr.nil)))))))))))) [⟨0, [], none⟩, ⟨1, [], none⟩, ⟨2, [], none⟩, ⟨3, [.slice p11 RL.length c12], none⟩, ⟨4, [], none⟩, ⟨5, [], some (iV (vn - 1))⟩] (l' := ([(28, iV (vn - 1)), (27, iV vn), (26, .slice p11 RL.length c12), (25, .pointer (some ⟨b, 2, none⟩)), (24, pV b), (23, pV b), (0, pV b), (1, iV vn), (5, pV r1), (6, pV r4), (8, pV r20), (9, iV 0), (20, .bool false)] : Fr) ++ lr26) (pts' := [(3, ⟨b, 2, none⟩, .slice p11 RL.length c12)]) (eqs := [(iV (IntKind.wrap .i64 (vn - 1)), iV (vn - 1))]) (by kernel_rfl) ⟨(ov_i64 (by omega) (by omega) (by omega)), trivial⟩ (AllC_cons (sat_cell h28 2 rfl rfl) (AllC_nil _)) ?_
  refine draw_law (i := 6) 29 (.pointer (some ⟨b29, q * 8, none⟩)) [] (by kernel_rfl) (fun _ _ => law_indexSlP (o := opA (RA Try.f43 [1, 1, 1, 0]) 6) (x := (Operand.tmp 26)) (i := (Operand.tmp 28)) (p := p11) (b := b29) (off := 0) (z := (vn - 1)) (len := RL.length) (cap := c12) (by kernel_rfl) Try.underlying74 8 (by kernel_rfl) q (by kernel_rfl) hp30 (by kernel_rfl) (by omega) (by omega) (q * 8) (by omega) _) (by intro q hq; cases hq) ?_
  have h31 : sat g w27 [Sl 42 8 p11 RL.length c12 (fl eRs RL), Cl r20 [iV (((j : Nat) : Int)), uV gj] 34, Tb s9 n (A.set j (1, gj)), Cl b [pV s9, .map (some m10), .slice p11 RL.length c12] 76, Gp kI vE m10 E13, Cl r4 [iV 0, iV 0, uV 0] 28, Cl r1 [iV hx, uV hy] 34, R] := sat_sel [4, 0, 1, 2, 3, 5, 6, 7] rfl h28
  have hl32 := fl_n eRs_ok (by decide) h31
  refine draw_batch (t := (Tr.an 15 (Tr.an 16 Tr.nil))) [⟨7, [], none⟩, ⟨8, [], none⟩, ⟨9, [iV r.out.1], none⟩, ⟨10, [], none⟩, ⟨11, [iV (((j : Nat) : Int))], none⟩, ⟨12, [], none⟩, ⟨13, [uV gj], none⟩, ⟨14, [], none⟩] (l' := ([(37, .agg #[iV r.out.1, iV (((j : Nat) : Int)), uV gj]), (36, uV gj), (35, .pointer (some ⟨r20, 1, none⟩)), (34, iV (((j : Nat) : Int))), (33, pV r20), (32, iV r.out.1), (31, .pointer (some ⟨b29, q * 8, none⟩)), (30, .pointer (some ⟨b29, q * 8, none⟩)), (29, .pointer (some ⟨b29, q * 8, none⟩)), (28, iV (vn - 1)), (27, iV vn), (26, .slice p11 RL.length c12), (25, .pointer (some ⟨b, 2, none⟩)), (24, pV b), (23, pV b), (0, pV b), (1, iV vn), (5, pV r1), (6, pV r4), (8, pV r20), (9, iV 0), (20, .bool false)] : Fr) ++ lr26) (pts' := [(13, ⟨r20, 1, none⟩, uV gj), (11, ⟨r20, 0, none⟩, iV (((j : Nat) : Int))), (9, ⟨b29, q * 8, none⟩, iV r.out.1)]) (eqs := []) (by kernel_rfl) trivial (AllC_cons (sat_cell h31 1 rfl rfl) (AllC_cons (sat_cell h31 1 rfl rfl) (AllC_cons (gv_cell (j := 0) h31 rfl (gv_sl _ _ _) hp30 (fl_get eRs_ok (j := 0) (v := iV r.out.1) hr rfl) (q * 8) (by omega)) (AllC_nil _)))) ?_
  refine draw_act (i := 15) [(13, ⟨r20, 1, none⟩, uV gj), (11, ⟨r20, 0, none⟩, iV (((j : Nat) : Int))), (9, ⟨b29, q * 8, none⟩, iV r.out.1), (3, ⟨b, 2, none⟩, .slice p11 RL.length c12)] (by kernel_rfl) (by kernel_rfl) ?_
  refine an_new (d := 10) (fun xb_ => pV xb_) (fun xb_ => Obj.cells [iV 0, iV 0, uV 0].toArray 28 (0, 0)) (fun xb_ => by kernel_rfl) (by kernel_rfl) rfl h31 ?_
  intro r33 w34 (h35 : sat g w34 [Cl r33 [iV 0, iV 0, uV 0] 28, Sl 42 8 p11 RL.length c12 (fl eRs RL), Cl r20 [iV (((j : Nat) : Int)), uV gj] 34, Tb s9 n (A.set j (1, gj)), Cl b [pV s9, .map (some m10), .slice p11 RL.length c12] 76, Gp kI vE m10 E13, Cl r4 [iV 0, iV 0, uV 0] 28, Cl r1 [iV hx, uV hy] 34, R])
  refine ⟨(AllC_cons (sat_cell h35 2 rfl rfl) (AllC_cons (sat_cell h35 2 rfl rfl) (AllC_cons (gv_cell (j := 1) h35 rfl (gv_sl _ _ _) hp30 (fl_get eRs_ok (j := 0) (v := iV r.out.1) hr rfl) (q * 8) (by omega)) (AllC_cons (sat_cell h35 4 rfl rfl) (AllC_nil _))))), ?_⟩
  refine draw_act (i := 16) [] (by kernel_rfl) (by kernel_rfl) ?_
  refine an_store [(0, iV r.out.1), (1, iV (((j : Nat) : Int))), (2, uV gj)] (cs' := [iV r.out.1, iV (((j : Nat) : Int)), uV gj]) (by kernel_rfl) (by kernel_rfl) (allq ⟨⟨by simp, rfl⟩, ⟨by simp, rfl⟩, ⟨by simp, rfl⟩, trivial⟩) rfl h35 ?_
  intro w36 (h37 : sat g w36 [Cl r33 [iV r.out.1, iV (((j : Nat) : Int)), uV gj] 28, Sl 42 8 p11 RL.length c12 (fl eRs RL), Cl r20 [iV (((j : Nat) : Int)), uV gj] 34, Tb s9 n (A.set j (1, gj)), Cl b [pV s9, .map (some m10), .slice p11 RL.length c12] 76, Gp kI vE m10 E13, Cl r4 [iV 0, iV 0, uV 0] 28, Cl r1 [iV hx, uV hy] 34, R])
  refine ⟨(AllC_nil _), ?_⟩
  change WP _ _ (CA Try.f43 [1, 1, 1, 1]) _ _ _
  refine fk_cut ([(0, pV b), (1, iV vn), (5, pV r1), (6, pV r4), (8, pV r20), (10, pV r33)] : Fr) (by kernel_rfl) (fun a => WP _ _ _ _ a _) (fun lr38 => ?_)
  refine zSq (by kernel_rfl) ?_
  refine gi_drw (id := 5) (ops := RA Try.f43 [1, 1, 1, 1, 0]) (Tr.fl 0 (Tr.fl 1 (Tr.fl 2 (Tr.fl 3 (Tr.fl 4 (Tr.fl 5 (Tr.fl 6 (Tr.fl 7 (Tr.fl 8 (Tr.fl 9 (Tr.an 10 Tr.nil))))))))))) (by kernel_rfl) (by kernel_rfl) (by kernel_rfl) (by kernel_rfl) (by kernel_rfl) (fun _ _ d _ _ h => by cases d <;> exact h) h37 ?_
  intro w39 h40
  refine draw_batch (t := (Tr.an 10 Tr.nil)) [⟨0, [], none⟩, ⟨1, [], none⟩, ⟨2, [], none⟩, ⟨3, [.map (some m10)], none⟩, ⟨4, [], none⟩, ⟨5, [iV (((j : Nat) : Int))], none⟩, ⟨6, [iV r.out.1, iV (((j : Nat) : Int)), uV gj], none⟩, ⟨7, [], none⟩, ⟨8, [iV hx, uV hy], none⟩, ⟨9, [], none⟩] (l' := ([(47, .agg #[iV r.out.1, iV (((j : Nat) : Int)), uV gj, iV vn, iV hx, uV hy]), (46, .agg #[iV hx, uV hy]), (45, iV vn), (44, .agg #[iV r.out.1, iV (((j : Nat) : Int)), uV gj]), (43, iV (((j : Nat) : Int))), (42, pV r20), (41, .map (some m10)), (40, .pointer (some ⟨b, 1, none⟩)), (39, pV b), (38, pV b), (0, pV b), (1, iV vn), (5, pV r1), (6, pV r4), (8, pV r20), (10, pV r33)] : Fr) ++ lr38) (pts' := [(8, ⟨r1, 0, none⟩, iV hx), (8, ⟨r1, 1, none⟩, uV hy), (6, ⟨r33, 0, none⟩, iV r.out.1), (6, ⟨r33, 1, none⟩, iV (((j : Nat) : Int))), (6, ⟨r33, 2, none⟩, uV gj), (5, ⟨r20, 0, none⟩, iV (((j : Nat) : Int))), (3, ⟨b, 1, none⟩, .map (some m10))]) (eqs := []) (by kernel_rfl) trivial (AllC_cons (sat_cell h40 7 rfl rfl) (AllC_cons (sat_cell h40 7 rfl rfl) (AllC_cons (sat_cell h40 0 rfl rfl) (AllC_cons (sat_cell h40 0 rfl rfl) (AllC_cons (sat_cell h40 0 rfl rfl) (AllC_cons (sat_cell h40 2 rfl rfl) (AllC_cons (sat_cell h40 4 rfl rfl) (AllC_nil _)))))))) ?_
  have h41 : sat g w39 [Gp kI vE m10 E13, Cl r33 [iV r.out.1, iV (((j : Nat) : Int)), uV gj] 28, Sl 42 8 p11 RL.length c12 (fl eRs RL), Cl r20 [iV (((j : Nat) : Int)), uV gj] 34, Tb s9 n (A.set j (1, gj)), Cl b [pV s9, .map (some m10), .slice p11 RL.length c12] 76, Cl r4 [iV 0, iV 0, uV 0] 28, Cl r1 [iV hx, uV hy] 34, R] := sat_sel [5, 0, 1, 2, 3, 4, 6, 7, 8] rfl h40
  refine draw_act (i := 10) [] (by kernel_rfl) (by kernel_rfl) ?_
  refine ag_mapUpdate (t := 73) (m := (Operand.tmp 41)) (x := (Operand.tmp 43)) (y := (Operand.tmp 47)) (kv := kI) (ve := vE) (by kernel_rfl) (by kernel_rfl) Try.underlying73 kyI (((j : Nat) : Int)) (⟨(r.out.1, ((j : Nat) : Int), gj), vn, (hx, hy)⟩ : Ety) (by kernel_rfl) (by kernel_rfl) (by kernel_rfl) h41 (gset E13 (((j : Nat) : Int)) ⟨(r.out.1, ((j : Nat) : Int), gj), vn, (hx, hy)⟩) rfl ?_
  intro w42 (h43 : sat g w42 [Gp kI vE m10 (gset E13 (((j : Nat) : Int)) ⟨(r.out.1, ((j : Nat) : Int), gj), vn, (hx, hy)⟩), Cl r33 [iV r.out.1, iV (((j : Nat) : Int)), uV gj] 28, Sl 42 8 p11 RL.length c12 (fl eRs RL), Cl r20 [iV (((j : Nat) : Int)), uV gj] 34, Tb s9 n (A.set j (1, gj)), Cl b [pV s9, .map (some m10), .slice p11 RL.length c12] 76, Cl r4 [iV 0, iV 0, uV 0] 28, Cl r1 [iV hx, uV hy] 34, R])
  refine ⟨(AllC_nil _), ?_⟩
  change WP _ _ (CA Try.f43 [1, 1, 1, 1, 1]) _ _ _
  refine fk_cut ([(6, pV r4), (10, pV r33)] : Fr) (by kernel_rfl) (fun a => WP _ _ _ _ a _) (fun lr44 => ?_)
  refine zSq (by kernel_rfl) ?_
  refine zPl [0, 1, 2] (by kernel_rfl) ?_
  refine zBb [1, 2] [(48, .agg #[iV r.out.1, iV (((j : Nat) : Int)), uV gj])] [⟨0, [iV r.out.1, iV (((j : Nat) : Int)), uV gj], none⟩] [(0, ⟨r33, 0, none⟩, iV r.out.1), (0, ⟨r33, 1, none⟩, iV (((j : Nat) : Int))), (0, ⟨r33, 2, none⟩, uV gj)] [] (by kernel_rfl) trivial (AllC_cons (sat_cell h43 1 rfl rfl) (AllC_cons (sat_cell h43 1 rfl rfl) (AllC_cons (sat_cell h43 1 rfl rfl) (AllC_nil _)))) ?_
  have h45 : sat g w42 [Cl r4 [iV 0, iV 0, uV 0] 28, Gp kI vE m10 (gset E13 (((j : Nat) : Int)) ⟨(r.out.1, ((j : Nat) : Int), gj), vn, (hx, hy)⟩), Cl r33 [iV r.out.1, iV (((j : Nat) : Int)), uV gj] 28, Sl 42 8 p11 RL.length c12 (fl eRs RL), Cl r20 [iV (((j : Nat) : Int)), uV gj] 34, Tb s9 n (A.set j (1, gj)), Cl b [pV s9, .map (some m10), .slice p11 RL.length c12] 76, Cl r1 [iV hx, uV hy] 34, R] := sat_sel [6, 0, 1, 2, 3, 4, 5, 7, 8] rfl h43
  refine plain_act (i := 1) (by kernel_rfl) ?_
  refine an_store [(0, iV r.out.1), (1, iV (((j : Nat) : Int))), (2, uV gj)] (cs' := [iV r.out.1, iV (((j : Nat) : Int)), uV gj]) (by kernel_rfl) (by kernel_rfl) (allq ⟨⟨by simp, rfl⟩, ⟨by simp, rfl⟩, ⟨by simp, rfl⟩, trivial⟩) rfl h45 ?_
  intro w46 (h47 : sat g w46 [Cl r4 [iV r.out.1, iV (((j : Nat) : Int)), uV gj] 28, Gp kI vE m10 (gset E13 (((j : Nat) : Int)) ⟨(r.out.1, ((j : Nat) : Int), gj), vn, (hx, hy)⟩), Cl r33 [iV r.out.1, iV (((j : Nat) : Int)), uV gj] 28, Sl 42 8 p11 RL.length c12 (fl eRs RL), Cl r20 [iV (((j : Nat) : Int)), uV gj] 34, Tb s9 n (A.set j (1, gj)), Cl b [pV s9, .map (some m10), .slice p11 RL.length c12] 76, Cl r1 [iV hx, uV hy] 34, R])
  refine zB0 [] [2] [(7, iV 0)] (by kernel_rfl) ?_
  refine PO.mk ?_
  change WP _ _ (CA Try.f43 [1, 1, 1, 1, 1, 1]) _ _ _
  refine fk_cut ([(6, pV r4), (7, iV 0)] : Fr) (by kernel_rfl) (fun a => WP _ _ _ _ a _) (fun lr48 => ?_)
  refine gi_rt (by kernel_rfl) ?_
  repeat (first | simp only [Exit.inBlock] | simp only [Exit.then])
  have h49 : sat g w46 [Cl b [pV s9, .map (some m10), .slice p11 RL.length c12] 76, Tb s9 n (A.set j (1, gj)), Gp kI vE m10 (gset E13 (((j : Nat) : Int)) ⟨(r.out.1, ((j : Nat) : Int), gj), vn, (hx, hy)⟩), Sl 42 8 p11 RL.length c12 (fl eRs RL), Cl r4 [iV r.out.1, iV (((j : Nat) : Int)), uV gj] 28, Cl r33 [iV r.out.1, iV (((j : Nat) : Int)), uV gj] 28, Cl r20 [iV (((j : Nat) : Int)), uV gj] 34, Cl r1 [iV hx, uV hy] 34, R] := sat_sel [6, 5, 1, 3, 0, 2, 4, 7, 8] rfl h47
  have h50 : sat g w46 [Tab b n (A.set j (1, gj)) (gset E (((j : Nat) : Int)) ⟨(r.out.1, ((j : Nat) : Int), gj), vn, (hx, hy)⟩) RL, Cl r4 [iV r.out.1, iV (((j : Nat) : Int)), uV gj] 28, Cl r33 [iV r.out.1, iV (((j : Nat) : Int)), uV gj] 28, Cl r20 [iV (((j : Nat) : Int)), uV gj] 34, Cl r1 [iV hx, uV hy] 34, R] := tab_close (meq_set hM14.1 (((j : Nat) : Int)) ⟨(r.out.1, ((j : Nat) : Int), gj), vn, (hx, hy)⟩) (by omega) (by first | rfl | omega) h49
  have h51 : sat g w46 [Tab b n (A.set j (1, gj)) (gset E (((j : Nat) : Int)) ⟨(r.out.1, ((j : Nat) : Int), gj), vn, (hx, hy)⟩) RL, R] := sat_sel [0, 5] rfl h50
  refine hi_out [iV r.out.1, iV (((j : Nat) : Int)), uV gj] (.tuple #[.agg #[iV r.out.1, iV (((j : Nat) : Int)), uV gj], iV 0]) [(⟨r4, 0, none⟩, iV r.out.1), (⟨r4, 1, none⟩, iV (((j : Nat) : Int))), (⟨r4, 2, none⟩, uV gj)] (by kernel_rfl) (allq ⟨sat_cell h47 0 rfl rfl, sat_cell h47 0 rfl rfl, sat_cell h47 0 rfl rfl, trivial⟩) ?_
  exact ⟨.tuple #[.agg #[iV r.out.1, iV (((j : Nat) : Int)), uV gj], iV 0], [Tab b n (A.set j (1, gj)) (gset E (((j : Nat) : Int)) ⟨(r.out.1, ((j : Nat) : Int), gj), vn, (hx, hy)⟩) RL], rfl, ⟨rfl, rfl⟩, h51⟩

set_option maxHeartbeats 4000000 in
theorem taddx_ok (p0 : Option Addr) (k0 c0 : Nat) (b n : Nat) (A : List Sl2) (E : Tm) (RL : List Rs) (vn hx hy : Int) (q : Nat) (r : Rs) (hr : RL[q]? = some r) (hv : vn = (q : Int) + 1) (j : Nat) (gj : Int) (hj : (inS 0 A 0)[0]? = some (j, gj)) : HT Try.prog 43 [Value.pointer (some ⟨b, 0, none⟩), Value.int IntKind.i64 vn, Value.agg #[Value.int IntKind.i64 hx, Value.int IntKind.u32 hy]] [TabX b n A E RL p0 k0 c0] (fun v K => v = Value.tuple #[Value.agg #[Value.int IntKind.i64 r.out.1, Value.int IntKind.i64 (((j : Nat) : Int)), Value.int IntKind.u32 gj], Value.int IntKind.i64 0] ∧ K = [TabX b n (A.set j (1, gj)) (gset E (j : Int) ⟨(r.out.1, (j : Int), gj), vn, (hx, hy)⟩) RL p0 k0 c0]) := by
  have hfl_ := (List.getElem?_eq_some_iff.1 hj).1
  refine hi_in 49 ([(0, pV b), (1, iV vn), (2, .agg #[iV hx, uV hy])] : Fr) Try.func43 (by kernel_rfl) Try.ntmps43 rfl rfl ?_
  intro g w0 R h0
  change WP _ _ (CA Try.f43 []) _ _ _
  have hq_ := (List.getElem?_eq_some_iff.1 hr).1
  refine zSq (by kernel_rfl) ?_
  refine zPl [0, 1, 2] (by kernel_rfl) ?_
  refine plain_act (i := 0) (by kernel_rfl) ?_
  refine an_new (d := 5) (fun xb_ => pV xb_) (fun xb_ => Obj.cells [iV hx, uV hy].toArray 34 (0, 0)) (fun xb_ => by kernel_rfl) (by kernel_rfl) rfl h0 ?_
  intro r1 w2 (h3 : sat g w2 [Cl r1 [iV hx, uV hy] 34, TabX b n A E RL p0 k0 c0, R])
  refine plain_act (i := 1) (by kernel_rfl) ?_
  refine an_new (d := 6) (fun xb_ => pV xb_) (fun xb_ => Obj.cells [iV 0, iV 0, uV 0].toArray 28 (0, 0)) (fun xb_ => by kernel_rfl) (by kernel_rfl) rfl h3 ?_
  intro r4 w5 (h6 : sat g w5 [Cl r4 [iV 0, iV 0, uV 0] 28, Cl r1 [iV hx, uV hy] 34, TabX b n A E RL p0 k0 c0, R])
  refine zB0 [] [2] [(7, iV 0)] (by kernel_rfl) ?_
  refine PO.mk ?_
  change WP _ _ (CA Try.f43 [1]) _ _ _
  refine fk_cut ([(0, pV b), (1, iV vn), (5, pV r1), (6, pV r4)] : Fr) (by kernel_rfl) (fun a => WP _ _ _ _ a _) (fun lr7 => ?_)
  refine zSq (by kernel_rfl) ?_
  refine zPl [0, 1, 2, 3, 4, 5, 6, 7, 8, 9, 10] (by kernel_rfl) ?_
  have h8 : sat g w5 [TabX b n A E RL p0 k0 c0, Cl r4 [iV 0, iV 0, uV 0] 28, Cl r1 [iV hx, uV hy] 34, R] := sat_sel [2, 0, 1, 3] rfl h6
  obtain ⟨s9, m10, E13, hM14, h15⟩ := tabx_open h8
  have hRl_ := hM14.2
  have h16 : sat g w5 [Sl 42 8 p0 k0 c0 (fl eRs RL), Cl b [pV s9, .map (some m10), .slice p0 k0 c0] 76, Tb s9 n A, Gp kI vE m10 E13, Cl r4 [iV 0, iV 0, uV 0] 28, Cl r1 [iV hx, uV hy] 34, R] := sat_sel [3, 0, 1, 2, 4, 5, 6] rfl h15
  have hl17 := fl_n eRs_ok (by decide) h16
  have h18 : sat g w5 [Cl b [pV s9, .map (some m10), .slice p0 k0 c0] 76, Tb s9 n A, Gp kI vE m10 E13, Sl 42 8 p0 k0 c0 (fl eRs RL), Cl r4 [iV 0, iV 0, uV 0] 28, Cl r1 [iV hx, uV hy] 34, R] := sat_sel [1, 2, 3, 0, 4, 5, 6] rfl h16
  refine zBb [4, 5, 6, 7, 8, 9, 10] [(15, pV s9), (14, pV b), (13, pV b), (12, pV b)] [⟨0, [], none⟩, ⟨1, [], none⟩, ⟨2, [], none⟩, ⟨3, [pV s9], none⟩] [(3, ⟨b, 0, none⟩, pV s9)] [] (by kernel_rfl) trivial (AllC_cons (sat_cell h18 0 rfl rfl) (AllC_nil _)) ?_
  have h19 : sat g w5 [Tb s9 n A, Cl b [pV s9, .map (some m10), .slice p0 k0 c0] 76, Gp kI vE m10 E13, Sl 42 8 p0 k0 c0 (fl eRs RL), Cl r4 [iV 0, iV 0, uV 0] 28, Cl r1 [iV hx, uV hy] 34, R] := sat_sel [1, 0, 2, 3, 4, 5, 6] rfl h18
  refine plain_act (i := 4) (by kernel_rfl) ?_
  refine zCl 16 Try.call59 (take_j s9 n A j gj hj) h19 (by kernel_rfl) ?_
  rintro v K w20 (⟨rfl, rfl⟩) h21
  refine ⟨_, rfl, ?_⟩
  have h22 : sat g w20 [Tb s9 n (A.set j (1, gj)), Cl b [pV s9, .map (some m10), .slice p0 k0 c0] 76, Gp kI vE m10 E13, Sl 42 8 p0 k0 c0 (fl eRs RL), Cl r4 [iV 0, iV 0, uV 0] 28, Cl r1 [iV hx, uV hy] 34, R] := h21
  refine zB0 [8, 9, 10] [5, 6, 7] [(18, iV 0), (17, .agg #[iV (((j : Nat) : Int)), uV gj]), (11, .tuple #[.agg #[iV (((j : Nat) : Int)), uV gj], iV 0])] (by kernel_rfl) ?_
  refine plain_act (i := 8) (by kernel_rfl) ?_
  refine an_new (d := 8) (fun xb_ => pV xb_) (fun xb_ => Obj.cells [iV 0, uV 0].toArray 34 (0, 0)) (fun xb_ => by kernel_rfl) (by kernel_rfl) rfl h22 ?_
  intro r23 w24 (h25 : sat g w24 [Cl r23 [iV 0, uV 0] 34, Tb s9 n (A.set j (1, gj)), Cl b [pV s9, .map (some m10), .slice p0 k0 c0] 76, Gp kI vE m10 E13, Sl 42 8 p0 k0 c0 (fl eRs RL), Cl r4 [iV 0, iV 0, uV 0] 28, Cl r1 [iV hx, uV hy] 34, R])
  refine plain_act (i := 9) (by kernel_rfl) ?_
  refine an_store [(0, iV (((j : Nat) : Int))), (1, uV gj)] (cs' := [iV (((j : Nat) : Int)), uV gj]) (by kernel_rfl) (by kernel_rfl) (allq ⟨⟨by simp, rfl⟩, ⟨by simp, rfl⟩, trivial⟩) rfl h25 ?_
  intro w26 (h27 : sat g w26 [Cl r23 [iV (((j : Nat) : Int)), uV gj] 34, Tb s9 n (A.set j (1, gj)), Cl b [pV s9, .map (some m10), .slice p0 k0 c0] 76, Gp kI vE m10 E13, Sl 42 8 p0 k0 c0 (fl eRs RL), Cl r4 [iV 0, iV 0, uV 0] 28, Cl r1 [iV hx, uV hy] 34, R])
  refine zB0 [] [10] [(9, iV 0)] (by kernel_rfl) ?_
  refine PO.mk ?_
  change WP _ _ (CA Try.f43 [1, 1]) _ _ _
  refine fk_cut ([(0, pV b), (1, iV vn), (5, pV r1), (6, pV r4), (8, pV r23), (9, iV 0)] : Fr) (by kernel_rfl) (fun a => WP _ _ _ _ a _) (fun lr28 => ?_)
  refine zSq (by kernel_rfl) ?_
  refine zSq (by kernel_rfl) ?_
  refine zPl [0, 1] (by kernel_rfl) ?_
  refine zB0 [] [0, 1] [(20, .bool false), (19, iV 0)] (by kernel_rfl) ?_
  refine PO.mk ?_
  change WP _ _ (CA Try.f43 [1, 1, 0, 1]) _ _ _
  refine fk_cut ([(0, pV b), (1, iV vn), (5, pV r1), (6, pV r4), (8, pV r23), (9, iV 0), (20, .bool false)] : Fr) (by kernel_rfl) (fun a => WP _ _ _ _ a _) (fun lr29 => ?_)
  refine zCf (by kernel_rfl) ?_
  refine gi_skp (by kernel_rfl) ?_
  change WP _ _ (CA Try.f43 [1, 1, 1]) _ _ _
  refine zSq (by kernel_rfl) ?_
  refine gi_drw (id := 4) (ops := RA Try.f43 [1, 1, 1, 0]) (Tr.fl 0 (Tr.fl 1 (Tr.fl 2 (Tr.fl 3 (Tr.fl 4 (Tr.fl 5 (Tr.fl 6 (Tr.fl 7 (Tr.fl 8 (Tr.fl 9 (Tr.fl 10 (Tr.fl 11 (Tr.fl 12 (Tr.fl 13 (Tr.fl 14 (Tr.an 15 (Tr.an 16 Tr.nil))))))))))))))))) (by kernel_rfl) (by kernel_rfl) (by kernel_rfl) (by kernel_rfl) (by kernel_rfl) (fun _ _ d _ _ h => by cases d <;> exact h) h27 ?_
  intro w30 h31
  obtain ⟨b32, hp33⟩ := sl_ptr0 (j := 4) h31 rfl (by omega)
  refine draw_batch (t := (Tr.fl 6 (Tr.fl 7 (Tr.fl 8 (Tr.fl 9 (Tr.fl 10 (Tr.fl 11 (Tr.fl 12 (Tr.fl 13 (Tr.fl 14 (Tr.an 15 (Tr.an 16 Tr.nil)))))))))))) [⟨0, [], none⟩, ⟨1, [], none⟩, ⟨2, [], none⟩, ⟨3, [.slice p0 k0 c0], none⟩, ⟨4, [], none⟩, ⟨5, [], some (iV (vn - 1))⟩] (l' := ([(28, iV (vn - 1)), (27, iV vn), (26, .slice p0 k0 c0), (25, .pointer (some ⟨b, 2, none⟩)), (24, pV b), (23, pV b), (0, pV b), (1, iV vn), (5, pV r1), (6, pV r4), (8, pV r23), (9, iV 0), (20, .bool false)] : Fr) ++ lr29) (pts' := [(3, ⟨b, 2, none⟩, .slice p0 k0 c0)]) (eqs := [(iV (IntKind.wrap .i64 (vn - 1)), iV (vn - 1))]) (by kernel_rfl) ⟨(ov_i64 (by omega) (by omega) (by omega)), trivial⟩ (AllC_cons (sat_cell h31 2 rfl rfl) (AllC_nil _)) ?_
  refine draw_law (i := 6) 29 (.pointer (some ⟨b32, q * 8, none⟩)) [] (by kernel_rfl) (fun _ _ => law_indexSlP (o := opA (RA Try.f43 [1, 1, 1, 0]) 6) (x := (Operand.tmp 26)) (i := (Operand.tmp 28)) (p := p0) (b := b32) (off := 0) (z := (vn - 1)) (len := k0) (cap := c0) (by kernel_rfl) Try.underlying74 8 (by kernel_rfl) q (by kernel_rfl) hp33 (by kernel_rfl) (by omega) (by omega) (q * 8) (by omega) _) (by intro q hq; cases hq) ?_
  refine draw_batch (t := (Tr.an 15 (Tr.an 16 Tr.nil))) [⟨7, [], none⟩, ⟨8, [], none⟩, ⟨9, [iV r.out.1], none⟩, ⟨10, [], none⟩, ⟨11, [iV (((j : Nat) : Int))], none⟩, ⟨12, [], none⟩, ⟨13, [uV gj], none⟩, ⟨14, [], none⟩] (l' := ([(37, .agg #[iV r.out.1, iV (((j : Nat) : Int)), uV gj]), (36, uV gj), (35, .pointer (some ⟨r23, 1, none⟩)), (34, iV (((j : Nat) : Int))), (33, pV r23), (32, iV r.out.1), (31, .pointer (some ⟨b32, q * 8, none⟩)), (30, .pointer (some ⟨b32, q * 8, none⟩)), (29, .pointer (some ⟨b32, q * 8, none⟩)), (28, iV (vn - 1)), (27, iV vn), (26, .slice p0 k0 c0), (25, .pointer (some ⟨b, 2, none⟩)), (24, pV b), (23, pV b), (0, pV b), (1, iV vn), (5, pV r1), (6, pV r4), (8, pV r23), (9, iV 0), (20, .bool false)] : Fr) ++ lr29) (pts' := [(13, ⟨r23, 1, none⟩, uV gj), (11, ⟨r23, 0, none⟩, iV (((j : Nat) : Int))), (9, ⟨b32, q * 8, none⟩, iV r.out.1)]) (eqs := []) (by kernel_rfl) trivial (AllC_cons (sat_cell h31 0 rfl rfl) (AllC_cons (sat_cell h31 0 rfl rfl) (AllC_cons (gv_cell (j := 4) h31 rfl (gv_sl _ _ _) hp33 (fl_get eRs_ok (j := 0) (v := iV r.out.1) hr rfl) (q * 8) (by omega)) (AllC_nil _)))) ?_
  refine draw_act (i := 15) [(13, ⟨r23, 1, none⟩, uV gj), (11, ⟨r23, 0, none⟩, iV (((j : Nat) : Int))), (9, ⟨b32, q * 8, none⟩, iV r.out.1), (3, ⟨b, 2, none⟩, .slice p0 k0 c0)] (by kernel_rfl) (by kernel_rfl) ?_
  refine an_new (d := 10) (fun xb_ => pV xb_) (fun xb_ => Obj.cells [iV 0, iV 0, uV 0].toArray 28 (0, 0)) (fun xb_ => by kernel_rfl) (by kernel_rfl) rfl h31 ?_
  intro r34 w35 (h36 : sat g w35 [Cl r34 [iV 0, iV 0, uV 0] 28, Cl r23 [iV (((j : Nat) : Int)), uV gj] 34, Tb s9 n (A.set j (1, gj)), Cl b [pV s9, .map (some m10), .slice p0 k0 c0] 76, Gp kI vE m10 E13, Sl 42 8 p0 k0 c0 (fl eRs RL), Cl r4 [iV 0, iV 0, uV 0] 28, Cl r1 [iV hx, uV hy] 34, R])
  refine ⟨(AllC_cons (sat_cell h36 1 rfl rfl) (AllC_cons (sat_cell h36 1 rfl rfl) (AllC_cons (gv_cell (j := 5) h36 rfl (gv_sl _ _ _) hp33 (fl_get eRs_ok (j := 0) (v := iV r.out.1) hr rfl) (q * 8) (by omega)) (AllC_cons (sat_cell h36 3 rfl rfl) (AllC_nil _))))), ?_⟩
  refine draw_act (i := 16) [] (by kernel_rfl) (by kernel_rfl) ?_
  refine an_store [(0, iV r.out.1), (1, iV (((j : Nat) : Int))), (2, uV gj)] (cs' := [iV r.out.1, iV (((j : Nat) : Int)), uV gj]) (by kernel_rfl) (by kernel_rfl) (allq ⟨⟨by simp, rfl⟩, ⟨by simp, rfl⟩, ⟨by simp, rfl⟩, trivial⟩) rfl h36 ?_
  intro w37 (h38 : sat g w37 [Cl r34 [iV r.out.1, iV (((j : Nat) : Int)), uV gj] 28, Cl r23 [iV (((j : Nat) : Int)), uV gj] 34, Tb s9 n (A.set j (1, gj)), Cl b [pV s9, .map (some m10), .slice p0 k0 c0] 76, Gp kI vE m10 E13, Sl 42 8 p0 k0 c0 (fl eRs RL), Cl r4 [iV 0, iV 0, uV 0] 28, Cl r1 [iV hx, uV hy] 34, R])
  refine ⟨(AllC_nil _), ?_⟩
  change WP _ _ (CA Try.f43 [1, 1, 1, 1]) _ _ _
  refine fk_cut ([(0, pV b), (1, iV vn), (5, pV r1), (6, pV r4), (8, pV r23), (10, pV r34)] : Fr) (by kernel_rfl) (fun a => WP _ _ _ _ a _) (fun lr39 => ?_)
  refine zSq (by kernel_rfl) ?_
  refine gi_drw (id := 5) (ops := RA Try.f43 [1, 1, 1, 1, 0]) (Tr.fl 0 (Tr.fl 1 (Tr.fl 2 (Tr.fl 3 (Tr.fl 4 (Tr.fl 5 (Tr.fl 6 (Tr.fl 7 (Tr.fl 8 (Tr.fl 9 (Tr.an 10 Tr.nil))))))))))) (by kernel_rfl) (by kernel_rfl) (by kernel_rfl) (by kernel_rfl) (by kernel_rfl) (fun _ _ d _ _ h => by cases d <;> exact h) h38 ?_
  intro w40 h41
  refine draw_batch (t := (Tr.an 10 Tr.nil)) [⟨0, [], none⟩, ⟨1, [], none⟩, ⟨2, [], none⟩, ⟨3, [.map (some m10)], none⟩, ⟨4, [], none⟩, ⟨5, [iV (((j : Nat) : Int))], none⟩, ⟨6, [iV r.out.1, iV (((j : Nat) : Int)), uV gj], none⟩, ⟨7, [], none⟩, ⟨8, [iV hx, uV hy], none⟩, ⟨9, [], none⟩] (l' := ([(47, .agg #[iV r.out.1, iV (((j : Nat) : Int)), uV gj, iV vn, iV hx, uV hy]), (46, .agg #[iV hx, uV hy]), (45, iV vn), (44, .agg #[iV r.out.1, iV (((j : Nat) : Int)), uV gj]), (43, iV (((j : Nat) : Int))), (42, pV r23), (41, .map (some m10)), (40, .pointer (some ⟨b, 1, none⟩)), (39, pV b), (38, pV b), (0, pV b), (1, iV vn), (5, pV r1), (6, pV r4), (8, pV r23), (10, pV r34)] : Fr) ++ lr39) (pts' := [(8, ⟨r1, 0, none⟩, iV hx), (8, ⟨r1, 1, none⟩, uV hy), (6, ⟨r34, 0, none⟩, iV r.out.1), (6, ⟨r34, 1, none⟩, iV (((j : Nat) : Int))), (6, ⟨r34, 2, none⟩, uV gj), (5, ⟨r23, 0, none⟩, iV (((j : Nat) : Int))), (3, ⟨b, 1, none⟩, .map (some m10))]) (eqs := []) (by kernel_rfl) trivial (AllC_cons (sat_cell h41 7 rfl rfl) (AllC_cons (sat_cell h41 7 rfl rfl) (AllC_cons (sat_cell h41 0 rfl rfl) (AllC_cons (sat_cell h41 0 rfl rfl) (AllC_cons (sat_cell h41 0 rfl rfl) (AllC_cons (sat_cell h41 1 rfl rfl) (AllC_cons (sat_cell h41 3 rfl rfl) (AllC_nil _)))))))) ?_
  have h42 : sat g w40 [Gp kI vE m10 E13, Cl r34 [iV r.out.1, iV (((j : Nat) : Int)), uV gj] 28, Cl r23 [iV (((j : Nat) : Int)), uV gj] 34, Tb s9 n (A.set j (1, gj)), Cl b [pV s9, .map (some m10), .slice p0 k0 c0] 76, Sl 42 8 p0 k0 c0 (fl eRs RL), Cl r4 [iV 0, iV 0, uV 0] 28, Cl r1 [iV hx, uV hy] 34, R] := sat_sel [4, 0, 1, 2, 3, 5, 6, 7, 8] rfl h41
  refine draw_act (i := 10) [] (by kernel_rfl) (by kernel_rfl) ?_
  refine ag_mapUpdate (t := 73) (m := (Operand.tmp 41)) (x := (Operand.tmp 43)) (y := (Operand.tmp 47)) (kv := kI) (ve := vE) (by kernel_rfl) (by kernel_rfl) Try.underlying73 kyI (((j : Nat) : Int)) (⟨(r.out.1, ((j : Nat) : Int), gj), vn, (hx, hy)⟩ : Ety) (by kernel_rfl) (by kernel_rfl) (by kernel_rfl) h42 (gset E13 (((j : Nat) : Int)) ⟨(r.out.1, ((j : Nat) : Int), gj), vn, (hx, hy)⟩) rfl ?_
  intro w43 (h44 : sat g w43 [Gp kI vE m10 (gset E13 (((j : Nat) : Int)) ⟨(r.out.1, ((j : Nat) : Int), gj), vn, (hx, hy)⟩), Cl r34 [iV r.out.1, iV (((j : Nat) : Int)), uV gj] 28, Cl r23 [iV (((j : Nat) : Int)), uV gj] 34, Tb s9 n (A.set j (1, gj)), Cl b [pV s9, .map (some m10), .slice p0 k0 c0] 76, Sl 42 8 p0 k0 c0 (fl eRs RL), Cl r4 [iV 0, iV 0, uV 0] 28, Cl r1 [iV hx, uV hy] 34, R])
  refine ⟨(AllC_nil _), ?_⟩
  change WP _ _ (CA Try.f43 [1, 1, 1, 1, 1]) _ _ _
  refine fk_cut ([(6, pV r4), (10, pV r34)] : Fr) (by kernel_rfl) (fun a => WP _ _ _ _ a _) (fun lr45 => ?_)
  refine zSq (by kernel_rfl) ?_
  refine zPl [0, 1, 2] (by kernel_rfl) ?_
  refine zBb [1, 2] [(48, .agg #[iV r.out.1, iV (((j : Nat) : Int)), uV gj])] [⟨0, [iV r.out.1, iV (((j : Nat) : Int)), uV gj], none⟩] [(0, ⟨r34, 0, none⟩, iV r.out.1), (0, ⟨r34, 1, none⟩, iV (((j : Nat) : Int))), (0, ⟨r34, 2, none⟩, uV gj)] [] (by kernel_rfl) trivial (AllC_cons (sat_cell h44 1 rfl rfl) (AllC_cons (sat_cell h44 1 rfl rfl) (AllC_cons (sat_cell h44 1 rfl rfl) (AllC_nil _)))) ?_
  have h46 : sat g w43 [Cl r4 [iV 0, iV 0, uV 0] 28, Gp kI vE m10 (gset E13 (((j : Nat) : Int)) ⟨(r.out.1, ((j : Nat) : Int), gj), vn, (hx, hy)⟩), Cl r34 [iV r.out.1, iV (((j : Nat) : Int)), uV gj] 28, Cl r23 [iV (((j : Nat) : Int)), uV gj] 34, Tb s9 n (A.set j (1, gj)), Cl b [pV s9, .map (some m10), .slice p0 k0 c0] 76, Sl 42 8 p0 k0 c0 (fl eRs RL), Cl r1 [iV hx, uV hy] 34, R] := sat_sel [6, 0, 1, 2, 3, 4, 5, 7, 8] rfl h44
  refine plain_act (i := 1) (by kernel_rfl) ?_
  refine an_store [(0, iV r.out.1), (1, iV (((j : Nat) : Int))), (2, uV gj)] (cs' := [iV r.out.1, iV (((j : Nat) : Int)), uV gj]) (by kernel_rfl) (by kernel_rfl) (allq ⟨⟨by simp, rfl⟩, ⟨by simp, rfl⟩, ⟨by simp, rfl⟩, trivial⟩) rfl h46 ?_
  intro w47 (h48 : sat g w47 [Cl r4 [iV r.out.1, iV (((j : Nat) : Int)), uV gj] 28, Gp kI vE m10 (gset E13 (((j : Nat) : Int)) ⟨(r.out.1, ((j : Nat) : Int), gj), vn, (hx, hy)⟩), Cl r34 [iV r.out.1, iV (((j : Nat) : Int)), uV gj] 28, Cl r23 [iV (((j : Nat) : Int)), uV gj] 34, Tb s9 n (A.set j (1, gj)), Cl b [pV s9, .map (some m10), .slice p0 k0 c0] 76, Sl 42 8 p0 k0 c0 (fl eRs RL), Cl r1 [iV hx, uV hy] 34, R])
  refine zB0 [] [2] [(7, iV 0)] (by kernel_rfl) ?_
  refine PO.mk ?_
  change WP _ _ (CA Try.f43 [1, 1, 1, 1, 1, 1]) _ _ _
  refine fk_cut ([(6, pV r4), (7, iV 0)] : Fr) (by kernel_rfl) (fun a => WP _ _ _ _ a _) (fun lr49 => ?_)
  refine gi_rt (by kernel_rfl) ?_
  repeat (first | simp only [Exit.inBlock] | simp only [Exit.then])
  have h50 : sat g w47 [Cl b [pV s9, .map (some m10), .slice p0 k0 c0] 76, Tb s9 n (A.set j (1, gj)), Gp kI vE m10 (gset E13 (((j : Nat) : Int)) ⟨(r.out.1, ((j : Nat) : Int), gj), vn, (hx, hy)⟩), Sl 42 8 p0 k0 c0 (fl eRs RL), Cl r4 [iV r.out.1, iV (((j : Nat) : Int)), uV gj] 28, Cl r34 [iV r.out.1, iV (((j : Nat) : Int)), uV gj] 28, Cl r23 [iV (((j : Nat) : Int)), uV gj] 34, Cl r1 [iV hx, uV hy] 34, R] := sat_sel [5, 4, 1, 6, 0, 2, 3, 7, 8] rfl h48
  have h51 : sat g w47 [TabX b n (A.set j (1, gj)) (gset E (((j : Nat) : Int)) ⟨(r.out.1, ((j : Nat) : Int), gj), vn, (hx, hy)⟩) RL p0 k0 c0, Cl r4 [iV r.out.1, iV (((j : Nat) : Int)), uV gj] 28, Cl r34 [iV r.out.1, iV (((j : Nat) : Int)), uV gj] 28, Cl r23 [iV (((j : Nat) : Int)), uV gj] 34, Cl r1 [iV hx, uV hy] 34, R] := tabx_close (meq_set hM14.1 (((j : Nat) : Int)) ⟨(r.out.1, ((j : Nat) : Int), gj), vn, (hx, hy)⟩) (by omega)  h50
  have h52 : sat g w47 [TabX b n (A.set j (1, gj)) (gset E (((j : Nat) : Int)) ⟨(r.out.1, ((j : Nat) : Int), gj), vn, (hx, hy)⟩) RL p0 k0 c0, R] := sat_sel [0, 5] rfl h51
  refine hi_out [iV r.out.1, iV (((j : Nat) : Int)), uV gj] (.tuple #[.agg #[iV r.out.1, iV (((j : Nat) : Int)), uV gj], iV 0]) [(⟨r4, 0, none⟩, iV r.out.1), (⟨r4, 1, none⟩, iV (((j : Nat) : Int))), (⟨r4, 2, none⟩, uV gj)] (by kernel_rfl) (allq ⟨sat_cell h48 0 rfl rfl, sat_cell h48 0 rfl rfl, sat_cell h48 0 rfl rfl, trivial⟩) ?_
  exact ⟨.tuple #[.agg #[iV r.out.1, iV (((j : Nat) : Int)), uV gj], iV 0], [TabX b n (A.set j (1, gj)) (gset E (((j : Nat) : Int)) ⟨(r.out.1, ((j : Nat) : Int), gj), vn, (hx, hy)⟩) RL p0 k0 c0], rfl, ⟨rfl, rfl⟩, h52⟩

end Go.Proofs.Ytjjpmehiolejgaa
