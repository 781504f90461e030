/- Walks, printed by my generator gen11.py. -/
import Derived.Test.YtjjpmehiolejgaaF10
namespace Go.Proofs.Ytjjpmehiolejgaa
theorem take_n (b n : Nat) (A : List Sl2) (h : (inS 0 A 0).length = 0) : HT Try.prog 59 [Value.pointer (some ⟨b, 0, none⟩)] [Tb b n A] (fun v K => v = Value.tuple #[Value.agg #[Value.int .i64 0, Value.int .u32 0], Value.int .i64 4] ∧ K = [Tb b n A]) :=
  (take_ht b n A).mono fun v K hP => by
    rw [(take_none h).1, (take_none h).2] at hP
    exact hP
theorem take_j (b n : Nat) (A : List Sl2) (j : Nat) (gj : Int) (h : (inS 0 A 0)[0]? = some (j, gj)) : HT Try.prog 59 [Value.pointer (some ⟨b, 0, none⟩)] [Tb b n A] (fun v K => v = Value.tuple #[Value.agg #[Value.int .i64 (j : Int), Value.int .u32 gj], Value.int .i64 0] ∧ K = [Tb b n (A.set j (1, gj))]) :=
  (take_ht b n A).mono fun v K hP => by
    have hl := (List.getElem?_eq_some_iff.1 h).1
    rw [(take_some hl).1, (take_some hl).2, getD_some h] at hP
    exact hP
set_option maxHeartbeats 4000000 in
theorem tat_none (b n : Nat) (A : List Sl2) (E : Tm) (RL : List Rs) (vn : Int) (hg_ : gget E vn = none) : HT Try.prog 34 [Value.pointer (some ⟨b, 0, none⟩), Value.int IntKind.i64 vn] [Tab b n A E RL] (fun v K => v = Value.tuple #[Value.agg #[Value.int IntKind.i64 0, Value.int IntKind.i64 0, Value.int IntKind.u32 0], Value.bool false] ∧ K = [Tab b n A E RL]) := by
 refine hi_in 24 ([(0, pV b), (1, iV vn)] : Fr) Try.func34 (by kernel_rfl) Try.ntmps34 rfl rfl ?_
 intro g w0 R h0
 refine ySq ?_
 refine yPl [0, 1] ?_
 refine yA ?_
 refine yNp 4 28 [iV 0, iV 0, uV 0] h0 fun r1 w2 h3 => ?_
 refine yB0 [] [1] [(5, .bool false)] (.mk ?_)
 refine yK [(0, pV b), (1, iV vn), (4, pV r1)] fun lr4 => ?_
 refine ySq ?_
 refine ySq ?_
 refine yPl [0, 1, 2] ?_
 refine yB0 [1, 2] [0] [(8, pV b)] ?_
 have h5 := tk3 (sf2 (sf1 (sf2 h3)))
 refine yA ?_
 refine yCl 9 Try.call36 (tvalid_ht b n A E RL) h5 ?_
 rintro v K w6 (⟨rfl, rfl⟩) h7
 refine ⟨_, rfl, ?_⟩
 have h8 := ap1 h7
 refine yB0 [] [2] [(10, .bool false)] (.mk ?_)
 refine yK [(0, pV b), (1, iV vn), (4, pV r1), (10, .bool false)] fun lr9 => ?_
 refine yCf ?_
 refine ySk ?_
 refine ySq ?_
 refine yPl [0, 1, 2, 3, 4, 5, 6, 7, 8, 9, 10, 11] ?_
 obtain ⟨s10, m11, p12, c13, E14, hM15, h16⟩ := tab_open h8
 have hRl_ := hM15.2
 refine yBb [5, 6, 7, 8, 9, 10, 11] [(17, iV vn), (16, .map (some m11)), (15, .pointer (some ⟨b, 1, none⟩)), (14, pV b), (13, pV b)] [e0 0, e0 1, e0 2, e2 3 [.map (some m11)], e0 4] [(3, ⟨b, 1, none⟩, .map (some m11))] [] trivial (kC (sat_cell h16 0 rfl rfl) nC) ?_
 refine yA ?_
 refine act_law (d := 18) (.tuple #[.agg #[iV 0, iV 0, uV 0, iV 0, iV 0, uV 0], .bool false]) (by kernel_rfl) rfl (law_lookupOk (t := 73) (z := .agg #[iV 0, iV 0, uV 0, iV 0, iV 0, uV 0]) (m := (Operand.tmp 16)) (x := (Operand.tmp 17)) (kv := kI) (ve := vE) (by kernel_rfl) Try.underlying73 kyI (by kernel_rfl) vn (by kernel_rfl) (by kernel_rfl) (j := 2) h16 rfl (.agg #[iV 0, iV 0, uV 0, iV 0, iV 0, uV 0]) false (by rw [hM15.1.2.2 vn, hg_]; exact ⟨rfl, rfl⟩)) ?_
 refine yB0 [9, 10, 11] [6, 7, 8] [(20, .bool false), (19, .agg #[iV 0, iV 0, uV 0, iV 0, iV 0, uV 0]), (12, .tuple #[.agg #[iV 0, iV 0, uV 0, iV 0, iV 0, uV 0], .bool false])] ?_
 refine yA ?_
 refine yNp 6 90 [iV 0, iV 0, uV 0, iV 0, iV 0, uV 0] h16 fun r17 w18 h19 => ?_
 refine yA ?_
 refine yS [(0, iV 0), (1, iV 0), (2, uV 0), (3, iV 0), (4, iV 0), (5, uV 0)] [iV 0, iV 0, uV 0, iV 0, iV 0, uV 0] h19 fun w20 h21 => ?_
 refine yB0 [] [11] [(7, .bool false)] (.mk ?_)
 refine yK [(4, pV r1), (6, pV r17), (7, .bool false)] fun lr22 => ?_
 refine ySq ?_
 refine yPl [0, 1, 2, 3, 4] ?_
 refine yBb [3, 4] [(23, .bool false), (22, .agg #[iV 0, iV 0, uV 0]), (21, pV r17)] [e0 0, e2 1 [iV 0, iV 0, uV 0], e0 2] [(1, ⟨r17, 0, none⟩, iV 0), (1, ⟨r17, 1, none⟩, iV 0), (1, ⟨r17, 2, none⟩, uV 0)] [] trivial (kC (sat_cell h21 0 rfl rfl) (kC (sat_cell h21 0 rfl rfl) (kC (sat_cell h21 0 rfl rfl) nC))) ?_
 have h23 := tk7 (sf6 (sf5 (sf5 (sf5 (sf5 (sf5 (sf6 h21)))))))
 refine yA ?_
 refine yS [(0, iV 0), (1, iV 0), (2, uV 0)] [iV 0, iV 0, uV 0] h23 fun w24 h25 => ?_
 refine yB0 [] [4] [(5, .bool false)] (.mk ?_)
 refine yK [(4, pV r1), (5, .bool false)] fun lr26 => ?_
 refine yRt ?_
 repeat (first | simp only [Exit.inBlock] | simp only [Exit.then])
 have h27 := tk7 (sf6 (sf6 (sf6 (sf6 (sf2 (sf2 (sf6 h25)))))))
 have h28 : sat g w24 [Tab b n A E RL, Cl r1 [iV 0, iV 0, uV 0] 28, Cl r17 [iV 0, iV 0, uV 0, iV 0, iV 0, uV 0] 90, R] := tab_close hM15.1 (by omega) (by first | rfl | omega) h27
 have h29 := tk2 (sf1 (sf3 h28))
 refine hi_out [iV 0, iV 0, uV 0] (.tuple #[.agg #[iV 0, iV 0, uV 0], .bool false]) [(⟨r1, 0, none⟩, iV 0), (⟨r1, 1, none⟩, iV 0), (⟨r1, 2, none⟩, uV 0)] (by kernel_rfl) (allq ⟨sat_cell h25 0 rfl rfl, sat_cell h25 0 rfl rfl, sat_cell h25 0 rfl rfl, trivial⟩) ?_
 exact ⟨.tuple #[.agg #[iV 0, iV 0, uV 0], .bool false], [Tab b n A E RL], rfl, ⟨rfl, rfl⟩, h29⟩

set_option maxHeartbeats 4000000 in
theorem tat_ok (b n : Nat) (A : List Sl2) (E : Tm) (RL : List Rs) (vn : Int) (e : Ety) (hg_ : gget E vn = some e) : HT Try.prog 34 [Value.pointer (some ⟨b, 0, none⟩), Value.int IntKind.i64 vn] [Tab b n A E RL] (fun v K => v = Value.tuple #[Value.agg #[Value.int IntKind.i64 e.d.1, Value.int IntKind.i64 e.d.2.1, Value.int IntKind.u32 e.d.2.2], Value.bool true] ∧ K = [Tab b n A E RL]) := by
 refine hi_in 24 ([(0, pV b), (1, iV vn)] : Fr) Try.func34 (by kernel_rfl) Try.ntmps34 rfl rfl ?_
 intro g w0 R h0
 refine ySq ?_
 refine yPl [0, 1] ?_
 refine yA ?_
 refine yNp 4 28 [iV 0, iV 0, uV 0] h0 fun r1 w2 h3 => ?_
 refine yB0 [] [1] [(5, .bool false)] (.mk ?_)
 refine yK [(0, pV b), (1, iV vn), (4, pV r1)] fun lr4 => ?_
 refine ySq ?_
 refine ySq ?_
 refine yPl [0, 1, 2] ?_
 refine yB0 [1, 2] [0] [(8, pV b)] ?_
 have h5 := tk3 (sf2 (sf1 (sf2 h3)))
 refine yA ?_
 refine yCl 9 Try.call36 (tvalid_ht b n A E RL) h5 ?_
 rintro v K w6 (⟨rfl, rfl⟩) h7
 refine ⟨_, rfl, ?_⟩
 have h8 := ap1 h7
 refine yB0 [] [2] [(10, .bool false)] (.mk ?_)
 refine yK [(0, pV b), (1, iV vn), (4, pV r1), (10, .bool false)] fun lr9 => ?_
 refine yCf ?_
 refine ySk ?_
 refine ySq ?_
 refine yPl [0, 1, 2, 3, 4, 5, 6, 7, 8, 9, 10, 11] ?_
 obtain ⟨s10, m11, p12, c13, E14, hM15, h16⟩ := tab_open h8
 have hRl_ := hM15.2
 refine yBb [5, 6, 7, 8, 9, 10, 11] [(17, iV vn), (16, .map (some m11)), (15, .pointer (some ⟨b, 1, none⟩)), (14, pV b), (13, pV b)] [e0 0, e0 1, e0 2, e2 3 [.map (some m11)], e0 4] [(3, ⟨b, 1, none⟩, .map (some m11))] [] trivial (kC (sat_cell h16 0 rfl rfl) nC) ?_
 refine yA ?_
 refine act_law (d := 18) (.tuple #[.agg #[iV e.d.1, iV e.d.2.1, uV e.d.2.2, iV e.num, iV e.h.1, uV e.h.2], .bool true]) (by kernel_rfl) rfl (law_lookupOk (t := 73) (z := .agg #[iV 0, iV 0, uV 0, iV 0, iV 0, uV 0]) (m := (Operand.tmp 16)) (x := (Operand.tmp 17)) (kv := kI) (ve := vE) (by kernel_rfl) Try.underlying73 kyI (by kernel_rfl) vn (by kernel_rfl) (by kernel_rfl) (j := 2) h16 rfl (.agg #[iV e.d.1, iV e.d.2.1, uV e.d.2.2, iV e.num, iV e.h.1, uV e.h.2]) true (by rw [hM15.1.2.2 vn, hg_]; exact ⟨rfl, rfl⟩)) ?_
 refine yB0 [9, 10, 11] [6, 7, 8] [(20, .bool true), (19, .agg #[iV e.d.1, iV e.d.2.1, uV e.d.2.2, iV e.num, iV e.h.1, uV e.h.2]), (12, .tuple #[.agg #[iV e.d.1, iV e.d.2.1, uV e.d.2.2, iV e.num, iV e.h.1, uV e.h.2], .bool true])] ?_
 refine yA ?_
 refine yNp 6 90 [iV 0, iV 0, uV 0, iV 0, iV 0, uV 0] h16 fun r17 w18 h19 => ?_
 refine yA ?_
 refine yS [(0, iV e.d.1), (1, iV e.d.2.1), (2, uV e.d.2.2), (3, iV e.num), (4, iV e.h.1), (5, uV e.h.2)] [iV e.d.1, iV e.d.2.1, uV e.d.2.2, iV e.num, iV e.h.1, uV e.h.2] h19 fun w20 h21 => ?_
 refine yB0 [] [11] [(7, .bool true)] (.mk ?_)
 refine yK [(4, pV r1), (6, pV r17), (7, .bool true)] fun lr22 => ?_
 refine ySq ?_
 refine yPl [0, 1, 2, 3, 4] ?_
 refine yBb [3, 4] [(23, .bool true), (22, .agg #[iV e.d.1, iV e.d.2.1, uV e.d.2.2]), (21, pV r17)] [e0 0, e2 1 [iV e.d.1, iV e.d.2.1, uV e.d.2.2], e0 2] [(1, ⟨r17, 0, none⟩, iV e.d.1), (1, ⟨r17, 1, none⟩, iV e.d.2.1), (1, ⟨r17, 2, none⟩, uV e.d.2.2)] [] trivial (kC (sat_cell h21 0 rfl rfl) (kC (sat_cell h21 0 rfl rfl) (kC (sat_cell h21 0 rfl rfl) nC))) ?_
 have h23 := tk7 (sf6 (sf5 (sf5 (sf5 (sf5 (sf5 (sf6 h21)))))))
 refine yA ?_
 refine yS [(0, iV e.d.1), (1, iV e.d.2.1), (2, uV e.d.2.2)] [iV e.d.1, iV e.d.2.1, uV e.d.2.2] h23 fun w24 h25 => ?_
 refine yB0 [] [4] [(5, .bool true)] (.mk ?_)
 refine yK [(4, pV r1), (5, .bool true)] fun lr26 => ?_
 refine yRt ?_
 repeat (first | simp only [Exit.inBlock] | simp only [Exit.then])
 have h27 := tk7 (sf6 (sf6 (sf6 (sf6 (sf2 (sf2 (sf6 h25)))))))
 have h28 : sat g w24 [Tab b n A E RL, Cl r1 [iV e.d.1, iV e.d.2.1, uV e.d.2.2] 28, Cl r17 [iV e.d.1, iV e.d.2.1, uV e.d.2.2, iV e.num, iV e.h.1, uV e.h.2] 90, R] := tab_close hM15.1 (by omega) (by first | rfl | omega) h27
 have h29 := tk2 (sf1 (sf3 h28))
 refine hi_out [iV e.d.1, iV e.d.2.1, uV e.d.2.2] (.tuple #[.agg #[iV e.d.1, iV e.d.2.1, uV e.d.2.2], .bool true]) [(⟨r1, 0, none⟩, iV e.d.1), (⟨r1, 1, none⟩, iV e.d.2.1), (⟨r1, 2, none⟩, uV e.d.2.2)] (by kernel_rfl) (allq ⟨sat_cell h25 0 rfl rfl, sat_cell h25 0 rfl rfl, sat_cell h25 0 rfl rfl, trivial⟩) ?_
 exact ⟨.tuple #[.agg #[iV e.d.1, iV e.d.2.1, uV e.d.2.2], .bool true], [Tab b n A E RL], rfl, ⟨rfl, rfl⟩, h29⟩

set_option maxHeartbeats 4000000 in
theorem tget_no (b n : Nat) (A : List Sl2) (E : Tm) (RL : List Rs) (vn : Int) (h : vn < 1 ∨ (RL.length : Int) < vn) : HT Try.prog 20 [Value.pointer (some ⟨b, 0, none⟩), Value.int IntKind.i64 vn] [Tab b n A E RL] (fun v K => v = Value.tuple #[Value.agg #[Value.int IntKind.i64 0, Value.int IntKind.i64 0, Value.int IntKind.u32 0, Value.int IntKind.i64 0, Value.int IntKind.i64 0, Value.int IntKind.i64 0, Value.int IntKind.i64 0, Value.string (St [])], Value.int IntKind.i64 3] ∧ K = [Tab b n A E RL]) := by
 refine hi_in 22 ([(0, pV b), (1, iV vn)] : Fr) Try.func20 (by kernel_rfl) Try.ntmps20 rfl rfl ?_
 intro g w0 R h0
 refine ySq ?_
 refine yPl [0, 1] ?_
 refine yA ?_
 refine yNp 4 42 [iV 0, iV 0, uV 0, iV 0, iV 0, iV 0, iV 0, .string (St [])] h0 fun r1 w2 h3 => ?_
 refine yB0 [] [1] [(5, iV 0)] (.mk ?_)
 refine yK [(0, pV b), (1, iV vn), (4, pV r1)] fun lr4 => ?_
 refine ySq ?_
 refine ySq ?_
 refine yPl [0, 1, 2, 3] ?_
 refine yB0 [2, 3] [0, 1] [(8, iV vn), (7, pV b)] ?_
 by_cases c5 : 1 ≤ vn
 ·
  have h6 := tk3 (sf2 (sf1 (sf2 h3)))
  refine yA ?_
  refine yCl 9 Try.call47 (tcheck_no b n A E RL vn (by omega)) h6 ?_
  rintro v K w7 (⟨rfl, rfl⟩) h8
  refine ⟨_, rfl, ?_⟩
  have h9 := ap1 h8
  refine yB0 [] [3] [(6, iV 3)] (.mk ?_)
  refine yK [(0, pV b), (1, iV vn), (4, pV r1), (6, iV 3)] fun lr10 => ?_
  refine ySq ?_
  refine yPl [0, 1] ?_
  refine yB0 [] [0, 1] [(11, .bool true), (10, iV 3)] (.mk ?_)
  refine yK [(0, pV b), (1, iV vn), (4, pV r1), (6, iV 3), (11, .bool true)] fun lr11 => ?_
  refine yCt ?_
  refine ySq ?_
  refine yPl [0, 1, 2, 3] ?_
  refine yB0 [2, 3] [0, 1] [(13, iV 3), (12, .agg #[iV 0, iV 0, uV 0, iV 0, iV 0, iV 0, iV 0, .string (St [])])] ?_
  have h12 := tk3 (sf2 (sf1 (sf2 h9)))
  refine yA ?_
  refine yS [(0, iV 0), (1, iV 0), (2, uV 0), (3, iV 0), (4, iV 0), (5, iV 0), (6, iV 0), (7, .string (St []))] [iV 0, iV 0, uV 0, iV 0, iV 0, iV 0, iV 0, .string (St [])] h12 fun w13 h14 => ?_
  refine yB0 [] [3] [(5, iV 3)] (.mk ?_)
  refine yK [(4, pV r1), (5, iV 3)] fun lr15 => ?_
  refine yRt ?_
  repeat (first | simp only [Exit.inBlock] | simp only [Exit.then])
  have h16 := tk3 (sf2 (sf1 (sf2 h14)))
  have h17 := tk2 (sf1 (sf2 h16))
  refine hi_out [iV 0, iV 0, uV 0, iV 0, iV 0, iV 0, iV 0, .string (St [])] (.tuple #[.agg #[iV 0, iV 0, uV 0, iV 0, iV 0, iV 0, iV 0, .string (St [])], iV 3]) [(⟨r1, 0, none⟩, iV 0), (⟨r1, 1, none⟩, iV 0), (⟨r1, 2, none⟩, uV 0), (⟨r1, 3, none⟩, iV 0), (⟨r1, 4, none⟩, iV 0), (⟨r1, 5, none⟩, iV 0), (⟨r1, 6, none⟩, iV 0), (⟨r1, 7, none⟩, .string (St []))] (by kernel_rfl) (allq ⟨sat_cell h14 0 rfl rfl, sat_cell h14 0 rfl rfl, sat_cell h14 0 rfl rfl, sat_cell h14 0 rfl rfl, sat_cell h14 0 rfl rfl, sat_cell h14 0 rfl rfl, sat_cell h14 0 rfl rfl, sat_cell h14 0 rfl rfl, trivial⟩) ?_
  exact ⟨.tuple #[.agg #[iV 0, iV 0, uV 0, iV 0, iV 0, iV 0, iV 0, .string (St [])], iV 3], [Tab b n A E RL], rfl, ⟨rfl, rfl⟩, h17⟩
 ·
  have h18 := tk3 (sf2 (sf1 (sf2 h3)))
  refine yA ?_
  refine yCl 9 Try.call47 (tcheck_no b n A E RL vn (by omega)) h18 ?_
  rintro v K w19 (⟨rfl, rfl⟩) h20
  refine ⟨_, rfl, ?_⟩
  have h21 := ap1 h20
  refine yB0 [] [3] [(6, iV 3)] (.mk ?_)
  refine yK [(0, pV b), (1, iV vn), (4, pV r1), (6, iV 3)] fun lr22 => ?_
  refine ySq ?_
  refine yPl [0, 1] ?_
  refine yB0 [] [0, 1] [(11, .bool true), (10, iV 3)] (.mk ?_)
  refine yK [(0, pV b), (1, iV vn), (4, pV r1), (6, iV 3), (11, .bool true)] fun lr23 => ?_
  refine yCt ?_
  refine ySq ?_
  refine yPl [0, 1, 2, 3] ?_
  refine yB0 [2, 3] [0, 1] [(13, iV 3), (12, .agg #[iV 0, iV 0, uV 0, iV 0, iV 0, iV 0, iV 0, .string (St [])])] ?_
  have h24 := tk3 (sf2 (sf1 (sf2 h21)))
  refine yA ?_
  refine yS [(0, iV 0), (1, iV 0), (2, uV 0), (3, iV 0), (4, iV 0), (5, iV 0), (6, iV 0), (7, .string (St []))] [iV 0, iV 0, uV 0, iV 0, iV 0, iV 0, iV 0, .string (St [])] h24 fun w25 h26 => ?_
  refine yB0 [] [3] [(5, iV 3)] (.mk ?_)
  refine yK [(4, pV r1), (5, iV 3)] fun lr27 => ?_
  refine yRt ?_
  repeat (first | simp only [Exit.inBlock] | simp only [Exit.then])
  have h28 := tk3 (sf2 (sf1 (sf2 h26)))
  have h29 := tk2 (sf1 (sf2 h28))
  refine hi_out [iV 0, iV 0, uV 0, iV 0, iV 0, iV 0, iV 0, .string (St [])] (.tuple #[.agg #[iV 0, iV 0, uV 0, iV 0, iV 0, iV 0, iV 0, .string (St [])], iV 3]) [(⟨r1, 0, none⟩, iV 0), (⟨r1, 1, none⟩, iV 0), (⟨r1, 2, none⟩, uV 0), (⟨r1, 3, none⟩, iV 0), (⟨r1, 4, none⟩, iV 0), (⟨r1, 5, none⟩, iV 0), (⟨r1, 6, none⟩, iV 0), (⟨r1, 7, none⟩, .string (St []))] (by kernel_rfl) (allq ⟨sat_cell h26 0 rfl rfl, sat_cell h26 0 rfl rfl, sat_cell h26 0 rfl rfl, sat_cell h26 0 rfl rfl, sat_cell h26 0 rfl rfl, sat_cell h26 0 rfl rfl, sat_cell h26 0 rfl rfl, sat_cell h26 0 rfl rfl, trivial⟩) ?_
  exact ⟨.tuple #[.agg #[iV 0, iV 0, uV 0, iV 0, iV 0, iV 0, iV 0, .string (St [])], iV 3], [Tab b n A E RL], rfl, ⟨rfl, rfl⟩, h29⟩

set_option maxHeartbeats 4000000 in
theorem tget_ok (b n : Nat) (A : List Sl2) (E : Tm) (RL : List Rs) (vn : Int) (q : Nat) (r : Rs) (hr : RL[q]? = some r) (hv : vn = (q : Int) + 1) : HT Try.prog 20 [Value.pointer (some ⟨b, 0, none⟩), Value.int IntKind.i64 vn] [Tab b n A E RL] (fun v K => v = Value.tuple #[Value.agg #[Value.int IntKind.i64 r.out.1, Value.int IntKind.i64 r.out.2.1, Value.int IntKind.u32 r.out.2.2, Value.int IntKind.i64 r.st, Value.int IntKind.i64 r.why, Value.int IntKind.i64 r.tr, Value.int IntKind.i64 r.nx, Value.string (St r.tag)], Value.int IntKind.i64 0] ∧ K = [Tab b n A E RL]) := by
 refine hi_in 22 ([(0, pV b), (1, iV vn)] : Fr) Try.func20 (by kernel_rfl) Try.ntmps20 rfl rfl ?_
 intro g w0 R h0
 have hq_ := (List.getElem?_eq_some_iff.1 hr).1
 refine ySq ?_
 refine yPl [0, 1] ?_
 refine yA ?_
 refine yNp 4 42 [iV 0, iV 0, uV 0, iV 0, iV 0, iV 0, iV 0, .string (St [])] h0 fun r1 w2 h3 => ?_
 refine yB0 [] [1] [(5, iV 0)] (.mk ?_)
 refine yK [(0, pV b), (1, iV vn), (4, pV r1)] fun lr4 => ?_
 refine ySq ?_
 refine ySq ?_
 refine yPl [0, 1, 2, 3] ?_
 refine yB0 [2, 3] [0, 1] [(8, iV vn), (7, pV b)] ?_
 have h5 := tk3 (sf2 (sf1 (sf2 h3)))
 refine yA ?_
 refine yCl 9 Try.call47 (tcheck_ok b n A E RL vn (by omega)) h5 ?_
 rintro v K w6 (⟨rfl, rfl⟩) h7
 refine ⟨_, rfl, ?_⟩
 have h8 := ap1 h7
 refine yB0 [] [3] [(6, iV 0)] (.mk ?_)
 refine yK [(0, pV b), (1, iV vn), (4, pV r1), (6, iV 0)] fun lr9 => ?_
 refine ySq ?_
 refine yPl [0, 1] ?_
 refine yB0 [] [0, 1] [(11, .bool false), (10, iV 0)] (.mk ?_)
 refine yK [(0, pV b), (1, iV vn), (4, pV r1), (6, iV 0), (11, .bool false)] fun lr10 => ?_
 refine yCf ?_
 refine ySk ?_
 refine ySq ?_
 refine yPl [0, 1, 2, 3, 4, 5, 6, 7, 8, 9] ?_
 obtain ⟨s11, m12, p13, c14, E15, hM16, h17⟩ := tab_open h8
 have hRl_ := hM16.2
 obtain ⟨b18, hp19⟩ := sl_ptr0 (j := 3) h17 rfl (by omega)
 refine yBb [6, 7, 8, 9] [(19, iV (vn - 1)), (18, iV vn), (17, .slice p13 RL.length c14), (16, .pointer (some ⟨b, 2, none⟩)), (15, pV b), (14, pV b)] [e0 0, e0 1, e0 2, e2 3 [.slice p13 RL.length c14], e0 4, e1 5 (iV (vn - 1))] [(3, ⟨b, 2, none⟩, .slice p13 RL.length c14)] [(iV (IntKind.wrap .i64 (vn - 1)), iV (vn - 1))] ⟨(ov_i64 (by omega) (by omega) (by omega)), trivial⟩ (kC (sat_cell h17 0 rfl rfl) nC) ?_
 refine plain_law (i := 6) 20 (.pointer (some ⟨b18, q * 8, none⟩)) (by kernel_rfl) (law_indexSlP (o := opA (RA Try.f20 [1, 1, 0]) 6) (x := (Operand.tmp 17)) (i := (Operand.tmp 19)) (p := p13) (b := b18) (off := 0) (z := (vn - 1)) (len := RL.length) (cap := c14) (by kernel_rfl) Try.underlying74 8 (by kernel_rfl) q (by kernel_rfl) hp19 (by kernel_rfl) (by omega) (by omega) (q * 8) (by omega) _) ?_
 have h20 := tk6 (sf5 (sf4 (sf4 (sf4 (sf5 (sf5 h17))))))
 have hl21 := fl_n eRs_ok (by decide) h20
 refine yBb [8, 9] [(21, .agg #[iV r.out.1, iV r.out.2.1, uV r.out.2.2, iV r.st, iV r.why, iV r.tr, iV r.nx, .string (St r.tag)])] [e2 7 [iV r.out.1, iV r.out.2.1, uV r.out.2.2, iV r.st, iV r.why, iV r.tr, iV r.nx, .string (St r.tag)]] [(7, ⟨b18, q * 8, none⟩, iV r.out.1), (7, ⟨b18, q * 8 + 1, none⟩, iV r.out.2.1), (7, ⟨b18, q * 8 + 2, none⟩, uV r.out.2.2), (7, ⟨b18, q * 8 + 3, none⟩, iV r.st), (7, ⟨b18, q * 8 + 4, none⟩, iV r.why), (7, ⟨b18, q * 8 + 5, none⟩, iV r.tr), (7, ⟨b18, q * 8 + 6, none⟩, iV r.nx), (7, ⟨b18, q * 8 + 7, none⟩, .string (St r.tag))] [] trivial (kC (gv_cell (j := 0) h20 rfl (gv_sl _ _ _) hp19 (fl_get eRs_ok (j := 0) (v := iV r.out.1) hr rfl) (q * 8) (by omega)) (kC (gv_cell (j := 0) h20 rfl (gv_sl _ _ _) hp19 (fl_get eRs_ok (j := 1) (v := iV r.out.2.1) hr rfl) (q * 8 + 1) (by omega)) (kC (gv_cell (j := 0) h20 rfl (gv_sl _ _ _) hp19 (fl_get eRs_ok (j := 2) (v := uV r.out.2.2) hr rfl) (q * 8 + 2) (by omega)) (kC (gv_cell (j := 0) h20 rfl (gv_sl _ _ _) hp19 (fl_get eRs_ok (j := 3) (v := iV r.st) hr rfl) (q * 8 + 3) (by omega)) (kC (gv_cell (j := 0) h20 rfl (gv_sl _ _ _) hp19 (fl_get eRs_ok (j := 4) (v := iV r.why) hr rfl) (q * 8 + 4) (by omega)) (kC (gv_cell (j := 0) h20 rfl (gv_sl _ _ _) hp19 (fl_get eRs_ok (j := 5) (v := iV r.tr) hr rfl) (q * 8 + 5) (by omega)) (kC (gv_cell (j := 0) h20 rfl (gv_sl _ _ _) hp19 (fl_get eRs_ok (j := 6) (v := iV r.nx) hr rfl) (q * 8 + 6) (by omega)) (kC (gv_cell (j := 0) h20 rfl (gv_sl _ _ _) hp19 (fl_get eRs_ok (j := 7) (v := .string (St r.tag)) hr rfl) (q * 8 + 7) (by omega)) nC)))))))) ?_
 have h22 := tk6 (sf5 (sf4 (sf4 (sf4 (sf4 (sf5 h20))))))
 refine yA ?_
 refine yS [(0, iV r.out.1), (1, iV r.out.2.1), (2, uV r.out.2.2), (3, iV r.st), (4, iV r.why), (5, iV r.tr), (6, iV r.nx), (7, .string (St r.tag))] [iV r.out.1, iV r.out.2.1, uV r.out.2.2, iV r.st, iV r.why, iV r.tr, iV r.nx, .string (St r.tag)] h22 fun w23 h24 => ?_
 refine yB0 [] [9] [(5, iV 0)] (.mk ?_)
 refine yK [(4, pV r1), (5, iV 0)] fun lr25 => ?_
 refine yRt ?_
 repeat (first | simp only [Exit.inBlock] | simp only [Exit.then])
 have h26 := tk6 (sf5 (sf5 (sf5 (sf2 (sf1 (sf5 h24))))))
 have h27 : sat g w23 [Tab b n A E RL, Cl r1 [iV r.out.1, iV r.out.2.1, uV r.out.2.2, iV r.st, iV r.why, iV r.tr, iV r.nx, .string (St r.tag)] 42, R] := tab_close hM16.1 (by omega) (by first | rfl | omega) h26
 have h28 := tk2 (sf1 (sf2 h27))
 refine hi_out [iV r.out.1, iV r.out.2.1, uV r.out.2.2, iV r.st, iV r.why, iV r.tr, iV r.nx, .string (St r.tag)] (.tuple #[.agg #[iV r.out.1, iV r.out.2.1, uV r.out.2.2, iV r.st, iV r.why, iV r.tr, iV r.nx, .string (St r.tag)], iV 0]) [(⟨r1, 0, none⟩, iV r.out.1), (⟨r1, 1, none⟩, iV r.out.2.1), (⟨r1, 2, none⟩, uV r.out.2.2), (⟨r1, 3, none⟩, iV r.st), (⟨r1, 4, none⟩, iV r.why), (⟨r1, 5, none⟩, iV r.tr), (⟨r1, 6, none⟩, iV r.nx), (⟨r1, 7, none⟩, .string (St r.tag))] (by kernel_rfl) (allq ⟨sat_cell h24 0 rfl rfl, sat_cell h24 0 rfl rfl, sat_cell h24 0 rfl rfl, sat_cell h24 0 rfl rfl, sat_cell h24 0 rfl rfl, sat_cell h24 0 rfl rfl, sat_cell h24 0 rfl rfl, sat_cell h24 0 rfl rfl, trivial⟩) ?_
 exact ⟨.tuple #[.agg #[iV r.out.1, iV r.out.2.1, uV r.out.2.2, iV r.st, iV r.why, iV r.tr, iV r.nx, .string (St r.tag)], iV 0], [Tab b n A E RL], rfl, ⟨rfl, rfl⟩, h28⟩

set_option maxHeartbeats 4000000 in
theorem tdrop_ht (b n : Nat) (A : List Sl2) (E : Tm) (RL : List Rs) (x y z : Int) (hz0 : 0 ≤ z) (hz1 : z ≤ 4294967295) (q : Nat) (s : Sl2) (hs : A[q]? = some s) (hd_ : y = (q : Int) ∧ s.1 = 1 ∧ s.2 = z) : HT Try.prog 45 [Value.pointer (some ⟨b, 0, none⟩), Value.agg #[Value.int IntKind.i64 x, Value.int IntKind.i64 y, Value.int IntKind.u32 z]] [Tab b n A E RL] (fun v K => v = Value.tuple #[] ∧ K = [Tab b n (giveA A q z) (gdel E y) RL]) := by
 refine hi_in 20 ([(0, pV b), (1, .agg #[iV x, iV y, uV z])] : Fr) Try.func45 (by kernel_rfl) Try.ntmps45 rfl rfl ?_
 intro g w0 R h0
 refine ySq ?_
 refine yPl [0] ?_
 refine yA ?_
 refine yNp 3 28 [iV x, iV y, uV z] h0 fun r1 w2 h3 => ?_
 refine PO.mk ?_
 refine yK [(0, pV b), (3, pV r1)] fun lr4 => ?_
 refine ySq ?_
 refine gi_drw (id := 1) (ops := RA Try.f45 [1, 0]) (Tr.fl 0 (Tr.fl 1 (Tr.fl 2 (Tr.fl 3 (Tr.fl 4 (Tr.fl 5 (Tr.an 6 Tr.nil))))))) (by kernel_rfl) (by kernel_rfl) (by kernel_rfl) (by kernel_rfl) (by kernel_rfl) (fun _ _ d _ _ h => by cases d <;> exact h) h3 ?_
 intro w5 h6
 have h7 := tk3 (sf2 (sf1 (sf2 h6)))
 obtain ⟨s8, m9, p10, c11, E12, hM13, h14⟩ := tab_open h7
 have hRl_ := hM13.2
 refine yD _ [(9, iV y), (8, .pointer (some ⟨r1, 1, none⟩)), (7, .map (some m9)), (6, .pointer (some ⟨b, 1, none⟩)), (5, pV b), (4, pV b)] [e0 0, e0 1, e0 2, e2 3 [.map (some m9)], e0 4, e2 5 [iV y]] [(5, ⟨r1, 1, none⟩, iV y), (3, ⟨b, 1, none⟩, .map (some m9))] [] trivial (kC (sat_cell h14 4 rfl rfl) (kC (sat_cell h14 0 rfl rfl) nC)) ?_
 have h15 := tk6 (sf5 (sf4 (sf4 (sf5 (sf5 (sf5 h14))))))
 refine draw_act (i := 6) [] (by kernel_rfl) (by kernel_rfl) ?_
 refine ag_delete (t := 73) (t2 := 3) (d := none) (m := (Operand.tmp 7)) (x := (Operand.tmp 9)) (kv := kI) (ve := vE) (by kernel_rfl) Try.underlying73 kyI y (by kernel_rfl) (by kernel_rfl) h15 (by kernel_rfl) (gdel E12 y) rfl ?_
 intro w16 h17
 refine ⟨_, rfl, ?_⟩
 have h18 : sat g w16 [Gp kI vE m9 (gdel E12 y), Cl b [pV s8, .map (some m9), .slice p10 RL.length c11] 76, Tb s8 n A, Sl 42 8 p10 RL.length c11 (fl eRs RL), Cl r1 [iV x, iV y, uV z] 28, R] := h17
 refine ⟨(AllC_nil _), ?_⟩
 refine yK [(0, pV b), (3, pV r1)] fun lr19 => ?_
 refine gi_drw (id := 2) (ops := RA Try.f45 [1, 1]) (Tr.fl 0 (Tr.fl 1 (Tr.fl 2 (Tr.fl 3 (Tr.fl 4 (Tr.fl 5 (Tr.fl 6 (Tr.fl 7 (Tr.fl 8 (Tr.an 9 Tr.nil)))))))))) (by kernel_rfl) (by kernel_rfl) (by kernel_rfl) (by kernel_rfl) (by kernel_rfl) (fun _ _ d _ _ h => by cases d <;> exact h) h18 ?_
 intro w20 h21
 refine yD _ [(18, .agg #[iV y, uV z]), (17, uV z), (16, .pointer (some ⟨r1, 2, none⟩)), (15, iV y), (14, .pointer (some ⟨r1, 1, none⟩)), (13, pV s8), (12, pV b), (11, pV b), (10, pV b)] [e0 0, e0 1, e0 2, e2 3 [pV s8], e0 4, e2 5 [iV y], e0 6, e2 7 [uV z], e0 8] [(7, ⟨r1, 2, none⟩, uV z), (5, ⟨r1, 1, none⟩, iV y), (3, ⟨b, 0, none⟩, pV s8)] [] trivial (kC (sat_cell h21 4 rfl rfl) (kC (sat_cell h21 4 rfl rfl) (kC (sat_cell h21 1 rfl rfl) nC))) ?_
 have h22 := tk6 (sf5 (sf4 (sf4 (sf5 (sf5 (sf5 h21))))))
 refine draw_act (i := 9) [(7, ⟨r1, 2, none⟩, uV z), (5, ⟨r1, 1, none⟩, iV y)] (by kernel_rfl) (by kernel_rfl) ?_
 refine yCl 19 Try.call60 (give_ht s8 n A q s hs y z (by omega)) h22 ?_
 rintro v K w23 (⟨rfl, rfl⟩) h24
 refine ⟨_, rfl, ?_⟩
 have h25 := ap1 h24
 refine ⟨(AllC_cons (sat_cell h25 4 rfl rfl) (AllC_cons (sat_cell h25 4 rfl rfl) (AllC_nil _))), ?_⟩
 repeat (first | simp only [Exit.inBlock] | simp only [Exit.then])
 have h26 := tk6 (sf5 (sf4 (sf4 (sf5 (sf5 (sf5 h25))))))
 have h27 : sat g w23 [Tab b n (giveA A q z) (gdel E y) RL, Cl r1 [iV x, iV y, uV z] 28, R] := tab_close (meq_del hM13.1 y) (by omega) (by first | rfl | omega) h26
 have h28 := tk2 (sf1 (sf2 h27))
 refine hi_outn [] (.tuple #[]) [] (by kernel_rfl) (by intro q hq; cases hq) ?_
 exact ⟨.tuple #[], [Tab b n (giveA A q z) (gdel E y) RL], rfl, ⟨rfl, rfl⟩, h28⟩

set_option maxHeartbeats 4000000 in
theorem tadd_full (b n : Nat) (A : List Sl2) (E : Tm) (RL : List Rs) (vn hx hy : Int) (q : Nat) (r : Rs) (hr : RL[q]? = some r) (hv : vn = (q : Int) + 1) (hf : (inS 0 A 0).length = 0) : HT Try.prog 43 [Value.pointer (some ⟨b, 0, none⟩), Value.int IntKind.i64 vn, Value.agg #[Value.int IntKind.i64 hx, Value.int IntKind.u32 hy]] [Tab b n A E RL] (fun v K => v = Value.tuple #[Value.agg #[Value.int IntKind.i64 0, Value.int IntKind.i64 0, Value.int IntKind.u32 0], Value.int IntKind.i64 4] ∧ K = [Tab b n A E RL]) := by
 refine hi_in 49 ([(0, pV b), (1, iV vn), (2, .agg #[iV hx, uV hy])] : Fr) Try.func43 (by kernel_rfl) Try.ntmps43 rfl rfl ?_
 intro g w0 R h0
 have hq_ := (List.getElem?_eq_some_iff.1 hr).1
 refine ySq ?_
 refine yPl [0, 1, 2] ?_
 refine yA ?_
 refine yNp 5 34 [iV hx, uV hy] h0 fun r1 w2 h3 => ?_
 refine yA ?_
 refine yNp 6 28 [iV 0, iV 0, uV 0] h3 fun r4 w5 h6 => ?_
 refine yB0 [] [2] [(7, iV 0)] (.mk ?_)
 refine yK [(0, pV b), (1, iV vn), (5, pV r1), (6, pV r4)] fun lr7 => ?_
 refine ySq ?_
 refine yPl [0, 1, 2, 3, 4, 5, 6, 7, 8, 9, 10] ?_
 have h8 := tk4 (sf3 (sf2 (sf2 (sf3 h6))))
 obtain ⟨s9, m10, p11, c12, E13, hM14, h15⟩ := tab_open h8
 have hRl_ := hM14.2
 refine yBb [4, 5, 6, 7, 8, 9, 10] [(15, pV s9), (14, pV b), (13, pV b), (12, pV b)] [e0 0, e0 1, e0 2, e2 3 [pV s9]] [(3, ⟨b, 0, none⟩, pV s9)] [] trivial (kC (sat_cell h15 0 rfl rfl) nC) ?_
 have h16 := tk7 (sf6 (sf5 (sf6 (sf6 (sf6 (sf6 (sf6 h15)))))))
 refine yA ?_
 refine yCl 16 Try.call59 (take_n s9 n A (by omega)) h16 ?_
 rintro v K w17 (⟨rfl, rfl⟩) h18
 refine ⟨_, rfl, ?_⟩
 have h19 := ap1 h18
 refine yB0 [8, 9, 10] [5, 6, 7] [(18, iV 4), (17, .agg #[iV 0, uV 0]), (11, .tuple #[.agg #[iV 0, uV 0], iV 4])] ?_
 refine yA ?_
 refine yNp 8 34 [iV 0, uV 0] h19 fun r20 w21 h22 => ?_
 refine yA ?_
 refine yS [(0, iV 0), (1, uV 0)] [iV 0, uV 0] h22 fun w23 h24 => ?_
 refine yB0 [] [10] [(9, iV 4)] (.mk ?_)
 refine yK [(0, pV b), (1, iV vn), (5, pV r1), (6, pV r4), (8, pV r20), (9, iV 4)] fun lr25 => ?_
 refine ySq ?_
 refine ySq ?_
 refine yPl [0, 1] ?_
 refine yB0 [] [0, 1] [(20, .bool true), (19, iV 4)] (.mk ?_)
 refine yK [(0, pV b), (1, iV vn), (5, pV r1), (6, pV r4), (8, pV r20), (9, iV 4), (20, .bool true)] fun lr26 => ?_
 refine yCt ?_
 refine ySq ?_
 refine yPl [0, 1, 2, 3] ?_
 refine yB0 [2, 3] [0, 1] [(22, iV 4), (21, .agg #[iV 0, iV 0, uV 0])] ?_
 have h27 := tk8 (sf7 (sf6 (sf6 (sf6 (sf6 (sf6 (sf7 (sf7 h24))))))))
 refine yA ?_
 refine yS [(0, iV 0), (1, iV 0), (2, uV 0)] [iV 0, iV 0, uV 0] h27 fun w28 h29 => ?_
 refine yB0 [] [3] [(7, iV 4)] (.mk ?_)
 refine yK [(6, pV r4), (7, iV 4)] fun lr30 => ?_
 refine yRt ?_
 repeat (first | simp only [Exit.inBlock] | simp only [Exit.then])
 have h31 := tk8 (sf7 (sf6 (sf7 (sf7 (sf3 (sf3 (sf7 (sf7 h29))))))))
 have h32 : sat g w28 [Tab b n A E RL, Cl r4 [iV 0, iV 0, uV 0] 28, Cl r20 [iV 0, uV 0] 34, Cl r1 [iV hx, uV hy] 34, R] := tab_close hM14.1 (by omega) (by first | rfl | omega) h31
 have h33 := tk2 (sf1 (sf4 h32))
 refine hi_out [iV 0, iV 0, uV 0] (.tuple #[.agg #[iV 0, iV 0, uV 0], iV 4]) [(⟨r4, 0, none⟩, iV 0), (⟨r4, 1, none⟩, iV 0), (⟨r4, 2, none⟩, uV 0)] (by kernel_rfl) (allq ⟨sat_cell h29 0 rfl rfl, sat_cell h29 0 rfl rfl, sat_cell h29 0 rfl rfl, trivial⟩) ?_
 exact ⟨.tuple #[.agg #[iV 0, iV 0, uV 0], iV 4], [Tab b n A E RL], rfl, ⟨rfl, rfl⟩, h33⟩

set_option maxHeartbeats 4000000 in
theorem tadd_ok (b n : Nat) (A : List Sl2) (E : Tm) (RL : List Rs) (vn hx hy : Int) (q : Nat) (r : Rs) (hr : RL[q]? = some r) (hv : vn = (q : Int) + 1) (j : Nat) (gj : Int) (hj : (inS 0 A 0)[0]? = some (j, gj)) : HT Try.prog 43 [Value.pointer (some ⟨b, 0, none⟩), Value.int IntKind.i64 vn, Value.agg #[Value.int IntKind.i64 hx, Value.int IntKind.u32 hy]] [Tab b n A E RL] (fun v K => v = Value.tuple #[Value.agg #[Value.int IntKind.i64 r.out.1, Value.int IntKind.i64 (((j : Nat) : Int)), Value.int IntKind.u32 gj], Value.int IntKind.i64 0] ∧ K = [Tab b n (A.set j (1, gj)) (gset E (j : Int) ⟨(r.out.1, (j : Int), gj), vn, (hx, hy)⟩) RL]) := by
 have hfl_ := (List.getElem?_eq_some_iff.1 hj).1
 refine hi_in 49 ([(0, pV b), (1, iV vn), (2, .agg #[iV hx, uV hy])] : Fr) Try.func43 (by kernel_rfl) Try.ntmps43 rfl rfl ?_
 intro g w0 R h0
 have hq_ := (List.getElem?_eq_some_iff.1 hr).1
 refine ySq ?_
 refine yPl [0, 1, 2] ?_
 refine yA ?_
 refine yNp 5 34 [iV hx, uV hy] h0 fun r1 w2 h3 => ?_
 refine yA ?_
 refine yNp 6 28 [iV 0, iV 0, uV 0] h3 fun r4 w5 h6 => ?_
 refine yB0 [] [2] [(7, iV 0)] (.mk ?_)
 refine yK [(0, pV b), (1, iV vn), (5, pV r1), (6, pV r4)] fun lr7 => ?_
 refine ySq ?_
 refine yPl [0, 1, 2, 3, 4, 5, 6, 7, 8, 9, 10] ?_
 have h8 := tk4 (sf3 (sf2 (sf2 (sf3 h6))))
 obtain ⟨s9, m10, p11, c12, E13, hM14, h15⟩ := tab_open h8
 have hRl_ := hM14.2
 refine yBb [4, 5, 6, 7, 8, 9, 10] [(15, pV s9), (14, pV b), (13, pV b), (12, pV b)] [e0 0, e0 1, e0 2, e2 3 [pV s9]] [(3, ⟨b, 0, none⟩, pV s9)] [] trivial (kC (sat_cell h15 0 rfl rfl) nC) ?_
 have h16 := tk7 (sf6 (sf5 (sf6 (sf6 (sf6 (sf6 (sf6 h15)))))))
 refine yA ?_
 refine yCl 16 Try.call59 (take_j s9 n A j gj hj) h16 ?_
 rintro v K w17 (⟨rfl, rfl⟩) h18
 refine ⟨_, rfl, ?_⟩
 have h19 := ap1 h18
 refine yB0 [8, 9, 10] [5, 6, 7] [(18, iV 0), (17, .agg #[iV (j : Int), uV gj]), (11, .tuple #[.agg #[iV (j : Int), uV gj], iV 0])] ?_
 refine yA ?_
 refine yNp 8 34 [iV 0, uV 0] h19 fun r20 w21 h22 => ?_
 refine yA ?_
 refine yS [(0, iV (j : Int)), (1, uV gj)] [iV (j : Int), uV gj] h22 fun w23 h24 => ?_
 refine yB0 [] [10] [(9, iV 0)] (.mk ?_)
 refine yK [(0, pV b), (1, iV vn), (5, pV r1), (6, pV r4), (8, pV r20), (9, iV 0)] fun lr25 => ?_
 refine ySq ?_
 refine ySq ?_
 refine yPl [0, 1] ?_
 refine yB0 [] [0, 1] [(20, .bool false), (19, iV 0)] (.mk ?_)
 refine yK [(0, pV b), (1, iV vn), (5, pV r1), (6, pV r4), (8, pV r20), (9, iV 0), (20, .bool false)] fun lr26 => ?_
 refine yCf ?_
 refine ySk ?_
 refine ySq ?_
 refine gi_drw (id := 4) (ops := RA Try.f43 [1, 1, 1, 0]) (Tr.fl 0 (Tr.fl 1 (Tr.fl 2 (Tr.fl 3 (Tr.fl 4 (Tr.fl 5 (Tr.fl 6 (Tr.fl 7 (Tr.fl 8 (Tr.fl 9 (Tr.fl 10 (Tr.fl 11 (Tr.fl 12 (Tr.fl 13 (Tr.fl 14 (Tr.an 15 (Tr.an 16 Tr.nil))))))))))))))))) (by kernel_rfl) (by kernel_rfl) (by kernel_rfl) (by kernel_rfl) (by kernel_rfl) (fun _ _ d _ _ h => by cases d <;> exact h) h24 ?_
 intro w27 h28
 obtain ⟨b29, hp30⟩ := sl_ptr0 (j := 4) h28 rfl (by omega)
 refine yD _ [(28, iV (vn - 1)), (27, iV vn), (26, .slice p11 RL.length c12), (25, .pointer (some ⟨b, 2, none⟩)), (24, pV b), (23, pV b)] [e0 0, e0 1, e0 2, e2 3 [.slice p11 RL.length c12], e0 4, e1 5 (iV (vn - 1))] [(3, ⟨b, 2, none⟩, .slice p11 RL.length c12)] [(iV (IntKind.wrap .i64 (vn - 1)), iV (vn - 1))] ⟨(ov_i64 (by omega) (by omega) (by omega)), trivial⟩ (kC (sat_cell h28 2 rfl rfl) nC) ?_
 refine draw_law (i := 6) 29 (.pointer (some ⟨b29, q * 8, none⟩)) [] (by kernel_rfl) (fun _ _ => law_indexSlP (o := opA (RA Try.f43 [1, 1, 1, 0]) 6) (x := (Operand.tmp 26)) (i := (Operand.tmp 28)) (p := p11) (b := b29) (off := 0) (z := (vn - 1)) (len := RL.length) (cap := c12) (by kernel_rfl) Try.underlying74 8 (by kernel_rfl) q (by kernel_rfl) hp30 (by kernel_rfl) (by omega) (by omega) (q * 8) (by omega) _) (by intro q hq; cases hq) ?_
 have h31 := tk8 (sf7 (sf6 (sf6 (sf6 (sf6 (sf7 (sf7 (sf7 h28))))))))
 have hl32 := fl_n eRs_ok (by decide) h31
 refine yD _ [(37, .agg #[iV r.out.1, iV (j : Int), uV gj]), (36, uV gj), (35, .pointer (some ⟨r20, 1, none⟩)), (34, iV (j : Int)), (33, pV r20), (32, iV r.out.1), (31, .pointer (some ⟨b29, q * 8, none⟩)), (30, .pointer (some ⟨b29, q * 8, none⟩))] [e0 7, e0 8, e2 9 [iV r.out.1], e0 10, e2 11 [iV (j : Int)], e0 12, e2 13 [uV gj], e0 14] [(13, ⟨r20, 1, none⟩, uV gj), (11, ⟨r20, 0, none⟩, iV (j : Int)), (9, ⟨b29, q * 8, none⟩, iV r.out.1)] [] trivial (kC (sat_cell h31 1 rfl rfl) (kC (sat_cell h31 1 rfl rfl) (kC (gv_cell (j := 0) h31 rfl (gv_sl _ _ _) hp30 (fl_get eRs_ok (j := 0) (v := iV r.out.1) hr rfl) (q * 8) (by omega)) nC))) ?_
 refine draw_act (i := 15) [(13, ⟨r20, 1, none⟩, uV gj), (11, ⟨r20, 0, none⟩, iV (j : Int)), (9, ⟨b29, q * 8, none⟩, iV r.out.1), (3, ⟨b, 2, none⟩, .slice p11 RL.length c12)] (by kernel_rfl) (by kernel_rfl) ?_
 refine yNp 10 28 [iV 0, iV 0, uV 0] h31 fun r33 w34 h35 => ?_
 refine ⟨(AllC_cons (sat_cell h35 2 rfl rfl) (AllC_cons (sat_cell h35 2 rfl rfl) (AllC_cons (gv_cell (j := 1) h35 rfl (gv_sl _ _ _) hp30 (fl_get eRs_ok (j := 0) (v := iV r.out.1) hr rfl) (q * 8) (by omega)) (AllC_cons (sat_cell h35 4 rfl rfl) (AllC_nil _))))), ?_⟩
 refine draw_act (i := 16) [] (by kernel_rfl) (by kernel_rfl) ?_
 refine yS [(0, iV r.out.1), (1, iV (j : Int)), (2, uV gj)] [iV r.out.1, iV (j : Int), uV gj] h35 fun w36 h37 => ?_
 refine ⟨(AllC_nil _), ?_⟩
 refine yK [(0, pV b), (1, iV vn), (5, pV r1), (6, pV r4), (8, pV r20), (10, pV r33)] fun lr38 => ?_
 refine ySq ?_
 refine gi_drw (id := 5) (ops := RA Try.f43 [1, 1, 1, 1, 0]) (Tr.fl 0 (Tr.fl 1 (Tr.fl 2 (Tr.fl 3 (Tr.fl 4 (Tr.fl 5 (Tr.fl 6 (Tr.fl 7 (Tr.fl 8 (Tr.fl 9 (Tr.an 10 Tr.nil))))))))))) (by kernel_rfl) (by kernel_rfl) (by kernel_rfl) (by kernel_rfl) (by kernel_rfl) (fun _ _ d _ _ h => by cases d <;> exact h) h37 ?_
 intro w39 h40
 refine yD _ [(47, .agg #[iV r.out.1, iV (j : Int), uV gj, iV vn, iV hx, uV hy]), (46, .agg #[iV hx, uV hy]), (45, iV vn), (44, .agg #[iV r.out.1, iV (j : Int), uV gj]), (43, iV (j : Int)), (42, pV r20), (41, .map (some m10)), (40, .pointer (some ⟨b, 1, none⟩)), (39, pV b), (38, pV b)] [e0 0, e0 1, e0 2, e2 3 [.map (some m10)], e0 4, e2 5 [iV (j : Int)], e2 6 [iV r.out.1, iV (j : Int), uV gj], e0 7, e2 8 [iV hx, uV hy], e0 9] [(8, ⟨r1, 0, none⟩, iV hx), (8, ⟨r1, 1, none⟩, uV hy), (6, ⟨r33, 0, none⟩, iV r.out.1), (6, ⟨r33, 1, none⟩, iV (j : Int)), (6, ⟨r33, 2, none⟩, uV gj), (5, ⟨r20, 0, none⟩, iV (j : Int)), (3, ⟨b, 1, none⟩, .map (some m10))] [] trivial (kC (sat_cell h40 7 rfl rfl) (kC (sat_cell h40 7 rfl rfl) (kC (sat_cell h40 0 rfl rfl) (kC (sat_cell h40 0 rfl rfl) (kC (sat_cell h40 0 rfl rfl) (kC (sat_cell h40 2 rfl rfl) (kC (sat_cell h40 4 rfl rfl) nC))))))) ?_
 have h41 := tk9 (sf8 (sf7 (sf7 (sf7 (sf7 (sf7 (sf8 (sf8 (sf8 h40)))))))))
 refine draw_act (i := 10) [] (by kernel_rfl) (by kernel_rfl) ?_
 refine ag_mapUpdate (t := 73) (m := (Operand.tmp 41)) (x := (Operand.tmp 43)) (y := (Operand.tmp 47)) (kv := kI) (ve := vE) (by kernel_rfl) (by kernel_rfl) Try.underlying73 kyI (j : Int) (⟨(r.out.1, (j : Int), gj), vn, (hx, hy)⟩ : Ety) (by kernel_rfl) (by kernel_rfl) (by kernel_rfl) h41 (gset E13 (j : Int) ⟨(r.out.1, (j : Int), gj), vn, (hx, hy)⟩) rfl ?_
 intro w42 h43
 refine ⟨(AllC_nil _), ?_⟩
 refine yK [(6, pV r4), (10, pV r33)] fun lr44 => ?_
 refine ySq ?_
 refine yPl [0, 1, 2] ?_
 refine yBb [1, 2] [(48, .agg #[iV r.out.1, iV (j : Int), uV gj])] [e2 0 [iV r.out.1, iV (j : Int), uV gj]] [(0, ⟨r33, 0, none⟩, iV r.out.1), (0, ⟨r33, 1, none⟩, iV (j : Int)), (0, ⟨r33, 2, none⟩, uV gj)] [] trivial (kC (sat_cell h43 1 rfl rfl) (kC (sat_cell h43 1 rfl rfl) (kC (sat_cell h43 1 rfl rfl) nC))) ?_
 have h45 := tk9 (sf8 (sf7 (sf7 (sf7 (sf7 (sf7 (sf7 (sf8 (sf8 h43)))))))))
 refine yA ?_
 refine yS [(0, iV r.out.1), (1, iV (j : Int)), (2, uV gj)] [iV r.out.1, iV (j : Int), uV gj] h45 fun w46 h47 => ?_
 refine yB0 [] [2] [(7, iV 0)] (.mk ?_)
 refine yK [(6, pV r4), (7, iV 0)] fun lr48 => ?_
 refine yRt ?_
 repeat (first | simp only [Exit.inBlock] | simp only [Exit.then])
 have h49 := tk9 (sf8 (sf7 (sf6 (sf6 (sf4 (sf5 (sf6 (sf8 (sf8 h47)))))))))
 have h50 : sat g w46 [Tab b n (A.set j (1, gj)) (gset E (j : Int) ⟨(r.out.1, (j : Int), gj), vn, (hx, hy)⟩) RL, Cl r4 [iV r.out.1, iV (j : Int), uV gj] 28, Cl r33 [iV r.out.1, iV (j : Int), uV gj] 28, Cl r20 [iV (j : Int), uV gj] 34, Cl r1 [iV hx, uV hy] 34, R] := tab_close (meq_set hM14.1 (j : Int) ⟨(r.out.1, (j : Int), gj), vn, (hx, hy)⟩) (by omega) (by first | rfl | omega) h49
 have h51 := tk2 (sf1 (sf5 h50))
 refine hi_out [iV r.out.1, iV (j : Int), uV gj] (.tuple #[.agg #[iV r.out.1, iV (j : Int), uV gj], iV 0]) [(⟨r4, 0, none⟩, iV r.out.1), (⟨r4, 1, none⟩, iV (j : Int)), (⟨r4, 2, none⟩, uV gj)] (by kernel_rfl) (allq ⟨sat_cell h47 0 rfl rfl, sat_cell h47 0 rfl rfl, sat_cell h47 0 rfl rfl, trivial⟩) ?_
 exact ⟨.tuple #[.agg #[iV r.out.1, iV (j : Int), uV gj], iV 0], [Tab b n (A.set j (1, gj)) (gset E (j : Int) ⟨(r.out.1, (j : Int), gj), vn, (hx, hy)⟩) RL], rfl, ⟨rfl, rfl⟩, h51⟩

set_option maxHeartbeats 4000000 in
theorem taddx_ok (p0 : Option Addr) (k0 c0 : Nat) (b n : Nat) (A : List Sl2) (E : Tm) (RL : List Rs) (vn hx hy : Int) (q : Nat) (r : Rs) (hr : RL[q]? = some r) (hv : vn = (q : Int) + 1) (j : Nat) (gj : Int) (hj : (inS 0 A 0)[0]? = some (j, gj)) : HT Try.prog 43 [Value.pointer (some ⟨b, 0, none⟩), Value.int IntKind.i64 vn, Value.agg #[Value.int IntKind.i64 hx, Value.int IntKind.u32 hy]] [TabX b n A E RL p0 k0 c0] (fun v K => v = Value.tuple #[Value.agg #[Value.int IntKind.i64 r.out.1, Value.int IntKind.i64 (((j : Nat) : Int)), Value.int IntKind.u32 gj], Value.int IntKind.i64 0] ∧ K = [TabX b n (A.set j (1, gj)) (gset E (j : Int) ⟨(r.out.1, (j : Int), gj), vn, (hx, hy)⟩) RL p0 k0 c0]) := by
 have hfl_ := (List.getElem?_eq_some_iff.1 hj).1
 refine hi_in 49 ([(0, pV b), (1, iV vn), (2, .agg #[iV hx, uV hy])] : Fr) Try.func43 (by kernel_rfl) Try.ntmps43 rfl rfl ?_
 intro g w0 R h0
 have hq_ := (List.getElem?_eq_some_iff.1 hr).1
 refine ySq ?_
 refine yPl [0, 1, 2] ?_
 refine yA ?_
 refine yNp 5 34 [iV hx, uV hy] h0 fun r1 w2 h3 => ?_
 refine yA ?_
 refine yNp 6 28 [iV 0, iV 0, uV 0] h3 fun r4 w5 h6 => ?_
 refine yB0 [] [2] [(7, iV 0)] (.mk ?_)
 refine yK [(0, pV b), (1, iV vn), (5, pV r1), (6, pV r4)] fun lr7 => ?_
 refine ySq ?_
 refine yPl [0, 1, 2, 3, 4, 5, 6, 7, 8, 9, 10] ?_
 have h8 := tk4 (sf3 (sf2 (sf2 (sf3 h6))))
 obtain ⟨s9, m10, E13, hM14, h15⟩ := tabx_open h8
 have hRl_ := hM14.2
 have h16 := tk7 (sf6 (sf5 (sf5 (sf5 (sf6 (sf6 (sf6 h15)))))))
 have hl17 := fl_n eRs_ok (by decide) h16
 have h18 := tk7 (sf6 (sf6 (sf6 (sf3 (sf6 (sf6 (sf6 h16)))))))
 refine yBb [4, 5, 6, 7, 8, 9, 10] [(15, pV s9), (14, pV b), (13, pV b), (12, pV b)] [e0 0, e0 1, e0 2, e2 3 [pV s9]] [(3, ⟨b, 0, none⟩, pV s9)] [] trivial (kC (sat_cell h18 0 rfl rfl) nC) ?_
 have h19 := tk7 (sf6 (sf5 (sf6 (sf6 (sf6 (sf6 (sf6 h18)))))))
 refine yA ?_
 refine yCl 16 Try.call59 (take_j s9 n A j gj hj) h19 ?_
 rintro v K w20 (⟨rfl, rfl⟩) h21
 refine ⟨_, rfl, ?_⟩
 have h22 := ap1 h21
 refine yB0 [8, 9, 10] [5, 6, 7] [(18, iV 0), (17, .agg #[iV (j : Int), uV gj]), (11, .tuple #[.agg #[iV (j : Int), uV gj], iV 0])] ?_
 refine yA ?_
 refine yNp 8 34 [iV 0, uV 0] h22 fun r23 w24 h25 => ?_
 refine yA ?_
 refine yS [(0, iV (j : Int)), (1, uV gj)] [iV (j : Int), uV gj] h25 fun w26 h27 => ?_
 refine yB0 [] [10] [(9, iV 0)] (.mk ?_)
 refine yK [(0, pV b), (1, iV vn), (5, pV r1), (6, pV r4), (8, pV r23), (9, iV 0)] fun lr28 => ?_
 refine ySq ?_
 refine ySq ?_
 refine yPl [0, 1] ?_
 refine yB0 [] [0, 1] [(20, .bool false), (19, iV 0)] (.mk ?_)
 refine yK [(0, pV b), (1, iV vn), (5, pV r1), (6, pV r4), (8, pV r23), (9, iV 0), (20, .bool false)] fun lr29 => ?_
 refine yCf ?_
 refine ySk ?_
 refine ySq ?_
 refine gi_drw (id := 4) (ops := RA Try.f43 [1, 1, 1, 0]) (Tr.fl 0 (Tr.fl 1 (Tr.fl 2 (Tr.fl 3 (Tr.fl 4 (Tr.fl 5 (Tr.fl 6 (Tr.fl 7 (Tr.fl 8 (Tr.fl 9 (Tr.fl 10 (Tr.fl 11 (Tr.fl 12 (Tr.fl 13 (Tr.fl 14 (Tr.an 15 (Tr.an 16 Tr.nil))))))))))))))))) (by kernel_rfl) (by kernel_rfl) (by kernel_rfl) (by kernel_rfl) (by kernel_rfl) (fun _ _ d _ _ h => by cases d <;> exact h) h27 ?_
 intro w30 h31
 obtain ⟨b32, hp33⟩ := sl_ptr0 (j := 4) h31 rfl (by omega)
 refine yD _ [(28, iV (vn - 1)), (27, iV vn), (26, .slice p0 k0 c0), (25, .pointer (some ⟨b, 2, none⟩)), (24, pV b), (23, pV b)] [e0 0, e0 1, e0 2, e2 3 [.slice p0 k0 c0], e0 4, e1 5 (iV (vn - 1))] [(3, ⟨b, 2, none⟩, .slice p0 k0 c0)] [(iV (IntKind.wrap .i64 (vn - 1)), iV (vn - 1))] ⟨(ov_i64 (by omega) (by omega) (by omega)), trivial⟩ (kC (sat_cell h31 2 rfl rfl) nC) ?_
 refine draw_law (i := 6) 29 (.pointer (some ⟨b32, q * 8, none⟩)) [] (by kernel_rfl) (fun _ _ => law_indexSlP (o := opA (RA Try.f43 [1, 1, 1, 0]) 6) (x := (Operand.tmp 26)) (i := (Operand.tmp 28)) (p := p0) (b := b32) (off := 0) (z := (vn - 1)) (len := k0) (cap := c0) (by kernel_rfl) Try.underlying74 8 (by kernel_rfl) q (by kernel_rfl) hp33 (by kernel_rfl) (by omega) (by omega) (q * 8) (by omega) _) (by intro q hq; cases hq) ?_
 refine yD _ [(37, .agg #[iV r.out.1, iV (j : Int), uV gj]), (36, uV gj), (35, .pointer (some ⟨r23, 1, none⟩)), (34, iV (j : Int)), (33, pV r23), (32, iV r.out.1), (31, .pointer (some ⟨b32, q * 8, none⟩)), (30, .pointer (some ⟨b32, q * 8, none⟩))] [e0 7, e0 8, e2 9 [iV r.out.1], e0 10, e2 11 [iV (j : Int)], e0 12, e2 13 [uV gj], e0 14] [(13, ⟨r23, 1, none⟩, uV gj), (11, ⟨r23, 0, none⟩, iV (j : Int)), (9, ⟨b32, q * 8, none⟩, iV r.out.1)] [] trivial (kC (sat_cell h31 0 rfl rfl) (kC (sat_cell h31 0 rfl rfl) (kC (gv_cell (j := 4) h31 rfl (gv_sl _ _ _) hp33 (fl_get eRs_ok (j := 0) (v := iV r.out.1) hr rfl) (q * 8) (by omega)) nC))) ?_
 refine draw_act (i := 15) [(13, ⟨r23, 1, none⟩, uV gj), (11, ⟨r23, 0, none⟩, iV (j : Int)), (9, ⟨b32, q * 8, none⟩, iV r.out.1), (3, ⟨b, 2, none⟩, .slice p0 k0 c0)] (by kernel_rfl) (by kernel_rfl) ?_
 refine yNp 10 28 [iV 0, iV 0, uV 0] h31 fun r34 w35 h36 => ?_
 refine ⟨(AllC_cons (sat_cell h36 1 rfl rfl) (AllC_cons (sat_cell h36 1 rfl rfl) (AllC_cons (gv_cell (j := 5) h36 rfl (gv_sl _ _ _) hp33 (fl_get eRs_ok (j := 0) (v := iV r.out.1) hr rfl) (q * 8) (by omega)) (AllC_cons (sat_cell h36 3 rfl rfl) (AllC_nil _))))), ?_⟩
 refine draw_act (i := 16) [] (by kernel_rfl) (by kernel_rfl) ?_
 refine yS [(0, iV r.out.1), (1, iV (j : Int)), (2, uV gj)] [iV r.out.1, iV (j : Int), uV gj] h36 fun w37 h38 => ?_
 refine ⟨(AllC_nil _), ?_⟩
 refine yK [(0, pV b), (1, iV vn), (5, pV r1), (6, pV r4), (8, pV r23), (10, pV r34)] fun lr39 => ?_
 refine ySq ?_
 refine gi_drw (id := 5) (ops := RA Try.f43 [1, 1, 1, 1, 0]) (Tr.fl 0 (Tr.fl 1 (Tr.fl 2 (Tr.fl 3 (Tr.fl 4 (Tr.fl 5 (Tr.fl 6 (Tr.fl 7 (Tr.fl 8 (Tr.fl 9 (Tr.an 10 Tr.nil))))))))))) (by kernel_rfl) (by kernel_rfl) (by kernel_rfl) (by kernel_rfl) (by kernel_rfl) (fun _ _ d _ _ h => by cases d <;> exact h) h38 ?_
 intro w40 h41
 refine yD _ [(47, .agg #[iV r.out.1, iV (j : Int), uV gj, iV vn, iV hx, uV hy]), (46, .agg #[iV hx, uV hy]), (45, iV vn), (44, .agg #[iV r.out.1, iV (j : Int), uV gj]), (43, iV (j : Int)), (42, pV r23), (41, .map (some m10)), (40, .pointer (some ⟨b, 1, none⟩)), (39, pV b), (38, pV b)] [e0 0, e0 1, e0 2, e2 3 [.map (some m10)], e0 4, e2 5 [iV (j : Int)], e2 6 [iV r.out.1, iV (j : Int), uV gj], e0 7, e2 8 [iV hx, uV hy], e0 9] [(8, ⟨r1, 0, none⟩, iV hx), (8, ⟨r1, 1, none⟩, uV hy), (6, ⟨r34, 0, none⟩, iV r.out.1), (6, ⟨r34, 1, none⟩, iV (j : Int)), (6, ⟨r34, 2, none⟩, uV gj), (5, ⟨r23, 0, none⟩, iV (j : Int)), (3, ⟨b, 1, none⟩, .map (some m10))] [] trivial (kC (sat_cell h41 7 rfl rfl) (kC (sat_cell h41 7 rfl rfl) (kC (sat_cell h41 0 rfl rfl) (kC (sat_cell h41 0 rfl rfl) (kC (sat_cell h41 0 rfl rfl) (kC (sat_cell h41 1 rfl rfl) (kC (sat_cell h41 3 rfl rfl) nC))))))) ?_
 have h42 := tk9 (sf8 (sf7 (sf7 (sf7 (sf7 (sf8 (sf8 (sf8 (sf8 h41)))))))))
 refine draw_act (i := 10) [] (by kernel_rfl) (by kernel_rfl) ?_
 refine ag_mapUpdate (t := 73) (m := (Operand.tmp 41)) (x := (Operand.tmp 43)) (y := (Operand.tmp 47)) (kv := kI) (ve := vE) (by kernel_rfl) (by kernel_rfl) Try.underlying73 kyI (j : Int) (⟨(r.out.1, (j : Int), gj), vn, (hx, hy)⟩ : Ety) (by kernel_rfl) (by kernel_rfl) (by kernel_rfl) h42 (gset E13 (j : Int) ⟨(r.out.1, (j : Int), gj), vn, (hx, hy)⟩) rfl ?_
 intro w43 h44
 refine ⟨(AllC_nil _), ?_⟩
 refine yK [(6, pV r4), (10, pV r34)] fun lr45 => ?_
 refine ySq ?_
 refine yPl [0, 1, 2] ?_
 refine yBb [1, 2] [(48, .agg #[iV r.out.1, iV (j : Int), uV gj])] [e2 0 [iV r.out.1, iV (j : Int), uV gj]] [(0, ⟨r34, 0, none⟩, iV r.out.1), (0, ⟨r34, 1, none⟩, iV (j : Int)), (0, ⟨r34, 2, none⟩, uV gj)] [] trivial (kC (sat_cell h44 1 rfl rfl) (kC (sat_cell h44 1 rfl rfl) (kC (sat_cell h44 1 rfl rfl) nC))) ?_
 have h46 := tk9 (sf8 (sf7 (sf7 (sf7 (sf7 (sf7 (sf7 (sf8 (sf8 h44)))))))))
 refine yA ?_
 refine yS [(0, iV r.out.1), (1, iV (j : Int)), (2, uV gj)] [iV r.out.1, iV (j : Int), uV gj] h46 fun w47 h48 => ?_
 refine yB0 [] [2] [(7, iV 0)] (.mk ?_)
 refine yK [(6, pV r4), (7, iV 0)] fun lr49 => ?_
 refine yRt ?_
 repeat (first | simp only [Exit.inBlock] | simp only [Exit.then])
 have h50 := tk9 (sf8 (sf7 (sf6 (sf8 (sf4 (sf5 (sf5 (sf8 (sf8 h48)))))))))
 have h51 : sat g w47 [TabX b n (A.set j (1, gj)) (gset E (j : Int) ⟨(r.out.1, (j : Int), gj), vn, (hx, hy)⟩) RL p0 k0 c0, Cl r4 [iV r.out.1, iV (j : Int), uV gj] 28, Cl r34 [iV r.out.1, iV (j : Int), uV gj] 28, Cl r23 [iV (j : Int), uV gj] 34, Cl r1 [iV hx, uV hy] 34, R] := tabx_close (meq_set hM14.1 (j : Int) ⟨(r.out.1, (j : Int), gj), vn, (hx, hy)⟩) (by omega)  h50
 have h52 := tk2 (sf1 (sf5 h51))
 refine hi_out [iV r.out.1, iV (j : Int), uV gj] (.tuple #[.agg #[iV r.out.1, iV (j : Int), uV gj], iV 0]) [(⟨r4, 0, none⟩, iV r.out.1), (⟨r4, 1, none⟩, iV (j : Int)), (⟨r4, 2, none⟩, uV gj)] (by kernel_rfl) (allq ⟨sat_cell h48 0 rfl rfl, sat_cell h48 0 rfl rfl, sat_cell h48 0 rfl rfl, trivial⟩) ?_
 exact ⟨.tuple #[.agg #[iV r.out.1, iV (j : Int), uV gj], iV 0], [TabX b n (A.set j (1, gj)) (gset E (j : Int) ⟨(r.out.1, (j : Int), gj), vn, (hx, hy)⟩) RL p0 k0 c0], rfl, ⟨rfl, rfl⟩, h52⟩

end Go.Proofs.Ytjjpmehiolejgaa
