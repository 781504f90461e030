/- Walks, printed by my generator ../fds/gen1.py. -/
import Derived.Test.YtjjpmehiolejgaaFdsB
import Derived.Test.YtjjpmehiolejgaaSh2
namespace Go.Proofs.Ytjjpmehiolejgaa
set_option maxHeartbeats 4000000 in
theorem gcheck_ok (gn : Int) (hg1 : 1 ≤ gn) (hg : gn ≤ 4294967295) : HT Try.prog 55 [Value.int IntKind.u32 gn] [] (fun v K => v = Value.int IntKind.i64 0 ∧ K = []) := by
 refine hi_in 9 ([(0, uV gn)] : Fr) Try.func55 (by kernel_rfl) Try.ntmps55 rfl rfl ?_
 intro g w0 R h0
 refine ySq ?_
 refine yPl [0] ?_
 refine yB0 [] [0] [(2, iV 0)] (.mk ?_)
 refine yK [(0, uV gn)] fun lr1 => ?_
 refine ySq ?_
 refine ySq ?_
 refine yPl [0, 1, 2, 3, 4, 5] ?_
 refine yBb [] [(8, .bool false), (7, .bool false), (6, uV gn), (5, .bool false), (4, .bool false), (3, uV gn)] [e0 0, e1 1 (.bool false), e0 2, e0 3, e1 4 (.bool false), e0 5] [] [(.bool (decide (gn < 1)), .bool false), (.bool (decide (gn > 4294967295)), .bool false)] ⟨(ov_f (by omega)), (ov_f (by omega)), trivial⟩ nC (.mk ?_)
 refine yK [(8, .bool false)] fun lr2 => ?_
 refine yCf ?_
 refine ySk ?_
 refine ySq ?_
 refine yPl [0] ?_
 refine yB0 [] [0] [(2, iV 0)] (.mk ?_)
 refine yK [(2, iV 0)] fun lr3 => ?_
 refine yRt ?_
 repeat (first | simp only [Exit.inBlock] | simp only [Exit.then])
 refine hi_out [] (iV 0) [] (by kernel_rfl) (by intro q hq; cases hq) ?_
 exact ⟨iV 0, [], rfl, ⟨rfl, rfl⟩, h0⟩

set_option maxHeartbeats 4000000 in
theorem gcheck_no (gn : Int) (hg0 : gn ≤ 0) : HT Try.prog 55 [Value.int IntKind.u32 gn] [] (fun v K => v = Value.int IntKind.i64 2 ∧ K = []) := by
 refine hi_in 9 ([(0, uV gn)] : Fr) Try.func55 (by kernel_rfl) Try.ntmps55 rfl rfl ?_
 intro g w0 R h0
 refine ySq ?_
 refine yPl [0] ?_
 refine yB0 [] [0] [(2, iV 0)] (.mk ?_)
 refine yK [(0, uV gn)] fun lr1 => ?_
 refine ySq ?_
 refine ySq ?_
 refine yPl [0, 1, 2, 3, 4, 5] ?_
 refine yBb [] [(8, .bool true), (7, undef), (6, undef), (5, .bool true), (4, .bool true), (3, uV gn)] [e0 0, e1 1 (.bool true), e0 2, e0 3, e0 4, e0 5] [] [(.bool (decide (gn < 1)), .bool true)] ⟨(ov_t (by omega)), trivial⟩ nC (.mk ?_)
 refine yK [(8, .bool true)] fun lr2 => ?_
 refine yCt ?_
 refine ySq ?_
 refine yPl [0] ?_
 refine yB0 [] [0] [(2, iV 2)] (.mk ?_)
 refine yK [(2, iV 2)] fun lr3 => ?_
 refine yRt ?_
 repeat (first | simp only [Exit.inBlock] | simp only [Exit.then])
 refine hi_out [] (iV 2) [] (by kernel_rfl) (by intro q hq; cases hq) ?_
 exact ⟨iV 2, [], rfl, ⟨rfl, rfl⟩, h0⟩

set_option maxHeartbeats 4000000 in
theorem gleft1_ht (b : Nat) (gn : Int) (hg0 : 0 ≤ gn) (hg : gn ≤ 4294967295) : HT Try.prog 81 [Value.pointer (some ⟨b, 0, none⟩)] [Cl b [Value.int IntKind.u32 gn] 26] (fun v K => v = Value.int IntKind.u32 (-gn + 4294967295) ∧ K = [Cl b [Value.int IntKind.u32 gn] 26]) := by
 refine hi_in 4 ([(0, pV b)] : Fr) Try.func81 (by kernel_rfl) Try.ntmps81 rfl rfl ?_
 intro g w0 R h0
 refine ySq ?_
 refine yPl [0] ?_
 refine yB0 [] [0] [(1, uV 0)] (.mk ?_)
 refine yK [(0, pV b)] fun lr1 => ?_
 refine ySq ?_
 refine yPl [0, 1, 2] ?_
 refine yBb [] [(1, uV (-gn + 4294967295)), (3, uV (-gn + 4294967295)), (2, uV gn)] [e2 0 [uV gn], e1 1 (uV (-gn + 4294967295)), e0 2] [(0, ⟨b, 0, none⟩, uV gn)] [(uV (IntKind.wrap .u32 (4294967295 - gn)), uV (-gn + 4294967295))] ⟨(ov_u32 (by omega) (by omega) (by omega)), trivial⟩ (kC (sat_cell h0 0 rfl rfl) nC) (.mk ?_)
 refine yK [(1, uV (-gn + 4294967295))] fun lr2 => ?_
 refine yRt ?_
 repeat (first | simp only [Exit.inBlock] | simp only [Exit.then])
 refine hi_out [] (uV (-gn + 4294967295)) [] (by kernel_rfl) (by intro q hq; cases hq) ?_
 exact ⟨uV (-gn + 4294967295), [Cl b [uV gn] 26], rfl, ⟨rfl, rfl⟩, h0⟩

set_option maxHeartbeats 4000000 in
theorem of_ok (b r : Nat) (gn : Int) (hg1 : 1 ≤ gn) (hg : gn ≤ 4294967295) : HT Try.prog 80 [Value.func (Fn.func 81) #[] #[Value.pointer (some ⟨b, 0, none⟩)], Value.slice (some ⟨r, 0, none⟩) 1 1] [Cl b [Value.int IntKind.u32 gn] 26, Cl r [Value.int IntKind.u32 gn] 26] (fun v K => v = Value.tuple #[Value.int IntKind.u32 (-gn + 4294967295), Value.int IntKind.i64 0] ∧ K = [Cl b [Value.int IntKind.u32 gn] 26, Cl r [Value.int IntKind.u32 gn] 26]) := by
 refine hi_in 25 ([(0, .func (Fn.func 81) #[] #[pV b]), (1, .slice (some ⟨r, 0, none⟩) 1 1)] : Fr) Try.func80 (by kernel_rfl) Try.ntmps80 rfl rfl ?_
 intro g w0 R h0
 refine ySq ?_
 refine yPl [0, 1] ?_
 refine yB0 [] [0, 1] [(5, iV 0), (4, uV 0)] (.mk ?_)
 refine yK [(0, .func (Fn.func 81) #[] #[pV b]), (1, .slice (some ⟨r, 0, none⟩) 1 1)] fun lr1 => ?_
 refine ySq ?_
 refine yPl [0] ?_
 refine yB0 [] [0] [(6, uV 0)] (.mk ?_)
 refine yK [(0, .func (Fn.func 81) #[] #[pV b]), (1, .slice (some ⟨r, 0, none⟩) 1 1), (6, uV 0)] fun lr2 => ?_
 refine ySq ?_
 refine ySq ?_
 refine yPl [0, 1, 2] ?_
 refine yBb [] [(12, iV 0), (11, iV 1), (10, .slice (some ⟨r, 0, none⟩) 1 1)] [e0 0, e1 1 (iV 1), e0 2] [] [(iV (1 : Int), iV 1)] ⟨(ov_int (by omega)), trivial⟩ nC (.mk ?_)
 refine yK [(0, .func (Fn.func 81) #[] #[pV b]), (6, uV 0), (10, .slice (some ⟨r, 0, none⟩) 1 1), (11, iV 1), (12, iV 0)] fun lr3 => ?_
 refine yBk 0 ?_
 refine gi_unr (x := CA Try.f80 [1, 1, 0, 1, 0, 0]) 2 (by kernel_rfl) ?_
 refine ySq ?_
 refine yPl [0] ?_
 refine yB0 [] [0] [(13, .bool true)] (.mk ?_)
 refine yK [(0, .func (Fn.func 81) #[] #[pV b]), (6, uV 0), (10, .slice (some ⟨r, 0, none⟩) 1 1), (11, iV 1), (12, iV 0), (13, .bool true)] fun lr4 => ?_
 refine ySq ?_
 refine yCt ?_
 refine ySk ?_
 refine ySq ?_
 refine yBk 1 ?_
 refine ySq ?_
 refine yPl [0, 1, 2] ?_
 refine plain_law (i := 0) 14 (pV r) (by kernel_rfl) (law_indexSl (o := opA (RA Try.f80 [1, 1, 0, 1, 0, 0, 1, 1, 0, 0, 0]) 0) (x := (Operand.tmp 10)) (i := (Operand.tmp 12)) (b := r) (off := 0) (z := 0) (len := 1) (cap := 1) (by kernel_rfl) Try.underlying147 1 (by kernel_rfl) 0 (by kernel_rfl) (by kernel_rfl) (by omega) (by omega) 0 (by omega) _) ?_
 refine yBb [] [(8, uV gn), (15, uV gn)] [e2 1 [uV gn], e0 2] [(1, ⟨r, 0, none⟩, uV gn)] [] trivial (kC (sat_cell h0 1 rfl rfl) nC) (.mk ?_)
 refine yK [(0, .func (Fn.func 81) #[] #[pV b]), (6, uV 0), (8, uV gn), (10, .slice (some ⟨r, 0, none⟩) 1 1), (11, iV 1), (12, iV 0)] fun lr5 => ?_
 refine ySq ?_
 refine yPl [0, 1, 2] ?_
 refine yB0 [1, 2] [0] [(16, uV gn)] ?_
 refine yA ?_
 refine yCl 17 Try.call55 (gcheck_ok gn (by omega) (by omega)) h0 ?_
 rintro v K w6 (⟨rfl, rfl⟩) h7
 refine ⟨_, rfl, ?_⟩
 have h8 := ap0 h7
 refine yB0 [] [2] [(9, iV 0)] (.mk ?_)
 refine yK [(0, .func (Fn.func 81) #[] #[pV b]), (6, uV 0), (9, iV 0), (10, .slice (some ⟨r, 0, none⟩) 1 1), (11, iV 1), (12, iV 0)] fun lr9 => ?_
 refine ySq ?_
 refine yPl [0, 1] ?_
 refine yB0 [] [0, 1] [(19, .bool false), (18, iV 0)] (.mk ?_)
 refine yK [(0, .func (Fn.func 81) #[] #[pV b]), (6, uV 0), (9, iV 0), (10, .slice (some ⟨r, 0, none⟩) 1 1), (11, iV 1), (12, iV 0), (19, .bool false)] fun lr10 => ?_
 refine yCf ?_
 refine ySk ?_
 refine yPl [0, 1] ?_
 refine yB0 [] [0, 1] [(12, iV 1), (22, iV 1)] (.mk ?_)
 refine yK [(0, .func (Fn.func 81) #[] #[pV b]), (6, uV 0), (9, iV 0), (10, .slice (some ⟨r, 0, none⟩) 1 1), (11, iV 1), (12, iV 1), (19, .bool false)] fun lr11 => ?_
 refine ySq ?_
 refine yPl [0] ?_
 refine yB0 [] [0] [(13, .bool false)] (.mk ?_)
 refine yK [(0, .func (Fn.func 81) #[] #[pV b]), (6, uV 0), (10, .slice (some ⟨r, 0, none⟩) 1 1), (11, iV 1), (12, iV 1), (13, .bool false)] fun lr12 => ?_
 refine ySq ?_
 refine yCf ?_
 refine yEx 0 ?_
 refine ySq ?_
 refine yPl [0, 1, 2, 3] ?_
 refine yB0 [1, 2, 3] [0] [(23, .func (Fn.func 81) #[] #[pV b])] ?_
 refine yA ?_
 refine yCl 24 Try.call81 (gleft1_ht b gn (by omega) (by omega)) h8 ?_
 rintro v K w13 (⟨rfl, rfl⟩) h14
 refine ⟨_, rfl, ?_⟩
 have h15 := ap1 h14
 refine yB0 [] [2, 3] [(5, iV 0), (4, uV (-gn + 4294967295))] (.mk ?_)
 refine yK [(4, uV (-gn + 4294967295)), (5, iV 0)] fun lr16 => ?_
 refine yRt ?_
 repeat (first | simp only [Exit.inBlock] | simp only [Exit.then])
 refine hi_out [] (.tuple #[uV (-gn + 4294967295), iV 0]) [] (by kernel_rfl) (by intro q hq; cases hq) ?_
 exact ⟨.tuple #[uV (-gn + 4294967295), iV 0], [Cl b [uV gn] 26, Cl r [uV gn] 26], rfl, ⟨rfl, rfl⟩, h15⟩

set_option maxHeartbeats 4000000 in
theorem gleft_ok (gn : Int) (hg1 : 1 ≤ gn) (hg : gn ≤ 4294967295) : HT Try.prog 79 [Value.int IntKind.u32 gn] [] (fun v K => v = Value.tuple #[Value.int IntKind.u32 (-gn + 4294967295), Value.int IntKind.i64 0] ∧ K = []) := by
 refine hi_in 10 ([(0, uV gn)] : Fr) Try.func79 (by kernel_rfl) Try.ntmps79 rfl rfl ?_
 intro g w0 R h0
 refine ySq ?_
 refine yPl [0, 1, 2] ?_
 refine yA ?_
 refine yNp 1 26 [uV gn] h0 fun r1 w2 h3 => ?_
 refine yB0 [] [1, 2] [(3, iV 0), (2, uV 0)] (.mk ?_)
 refine yK [(1, pV r1)] fun lr4 => ?_
 refine ySq ?_
 refine yPl [0, 1, 2, 3, 4, 5, 6, 7] ?_
 refine yBb [2, 3, 4, 5, 6, 7] [(5, uV gn), (4, .func (Fn.func 81) #[] #[pV r1])] [e0 0, e2 1 [uV gn]] [(1, ⟨r1, 0, none⟩, uV gn)] [] trivial (kC (sat_cell h3 0 rfl rfl) nC) ?_
 refine yA ?_
 refine an_new (d := 6) (fun xb_ => .slice (some ⟨xb_, 0, none⟩) 1 1) (fun xb_ => Obj.cells [uV gn].toArray 26 (0, 0)) (fun xb_ => by kernel_rfl) (by kernel_rfl) rfl h3 ?_
 intro r5 w6 (h7 : sat g w6 [Cl r5 [uV gn] 26, Cl r1 [uV gn] 26, R])
 have h8 := tk3 (sf2 (sf1 (sf2 h7)))
 refine yA ?_
 refine yCl 7 Try.call80 (of_ok r1 r5 gn (by omega) (by omega)) h8 ?_
 rintro v K w9 (⟨rfl, rfl⟩) h10
 refine ⟨_, rfl, ?_⟩
 have h11 := ap2 h10
 refine yB0 [] [4, 5, 6, 7] [(3, iV 0), (2, uV (-gn + 4294967295)), (9, iV 0), (8, uV (-gn + 4294967295))] (.mk ?_)
 refine yK [(2, uV (-gn + 4294967295)), (3, iV 0)] fun lr12 => ?_
 refine yRt ?_
 repeat (first | simp only [Exit.inBlock] | simp only [Exit.then])
 have h13 := tk1 (sf2 h11)
 refine hi_out [] (.tuple #[uV (-gn + 4294967295), iV 0]) [] (by kernel_rfl) (by intro q hq; cases hq) ?_
 exact ⟨.tuple #[uV (-gn + 4294967295), iV 0], [], rfl, ⟨rfl, rfl⟩, h13⟩

set_option maxHeartbeats 4000000 in
theorem after_ok (gn : Int) (hg1 : 1 ≤ gn) (hg : gn < 4294967295) : HT Try.prog 77 [Value.int IntKind.u32 gn, Value.int IntKind.u64 1] [] (fun v K => v = Value.tuple #[Value.int IntKind.u32 (gn + 1), Value.bool true, Value.int IntKind.i64 0] ∧ K = []) := by
 refine hi_in 27 ([(0, uV gn), (1, .int .u64 1)] : Fr) Try.func77 (by kernel_rfl) Try.ntmps77 rfl rfl ?_
 intro g w0 R h0
 refine ySq ?_
 refine yPl [0, 1, 2] ?_
 refine yB0 [] [0, 1, 2] [(6, iV 0), (5, .bool false), (4, uV 0)] (.mk ?_)
 refine yK [(0, uV gn), (1, .int .u64 1)] fun lr1 => ?_
 refine ySq ?_
 refine yPl [0, 1, 2, 3, 4, 5, 6] ?_
 refine yB0 [1, 2, 3, 4, 5, 6] [0] [(10, uV gn)] ?_
 refine yA ?_
 refine yCl 11 Try.call79 (gleft_ok gn (by omega) (by omega)) h0 ?_
 rintro v K w2 (⟨rfl, rfl⟩) h3
 refine ⟨_, rfl, ?_⟩
 have h4 := ap0 h3
 refine yB0 [] [2, 3, 4, 5, 6] [(8, iV 0), (7, uV (-gn + 4294967295)), (13, iV 0), (12, uV (-gn + 4294967295)), (9, .tuple #[uV (-gn + 4294967295), iV 0])] (.mk ?_)
 refine yK [(0, uV gn), (1, .int .u64 1), (7, uV (-gn + 4294967295)), (8, iV 0)] fun lr5 => ?_
 refine ySq ?_
 refine ySq ?_
 refine yPl [0, 1, 2, 3, 4, 5, 6, 7] ?_
 refine yBb [] [(21, .bool false), (20, .bool false), (19, .int .u64 (-gn + 4294967295)), (18, uV (-gn + 4294967295)), (17, .int .u64 1), (16, .bool false), (15, .bool false), (14, iV 0)] [e0 0, e0 1, e0 2, e0 3, e0 4, e1 5 (.int .u64 (-gn + 4294967295)), e1 6 (.bool false), e0 7] [] [(.int .u64 (IntKind.wrap .u64 (-gn + 4294967295)), .int .u64 (-gn + 4294967295)), (.bool (decide (1 > -gn + 4294967295)), .bool false)] ⟨(ov_u64 rfl (by omega) (by omega)), (ov_f (by omega)), trivial⟩ nC (.mk ?_)
 refine yK [(0, uV gn), (1, .int .u64 1), (8, iV 0), (21, .bool false)] fun lr6 => ?_
 refine yCf ?_
 refine ySk ?_
 refine ySq ?_
 refine yPl [0, 1, 2, 3, 4, 5, 6] ?_
 refine yBb [] [(6, iV 0), (5, .bool true), (4, uV (gn + 1)), (26, uV (gn + 1)), (25, uV 1), (24, .int .u64 1), (23, uV gn)] [e0 0, e0 1, e1 2 (uV 1), e1 3 (uV (gn + 1)), e0 4, e0 5, e0 6] [] [(uV (IntKind.wrap .u32 1), uV 1), (uV (IntKind.wrap .u32 (gn + 1)), uV (gn + 1))] ⟨(ov_u32 rfl (by omega) (by omega)), (ov_u32 (by omega) (by omega) (by omega)), trivial⟩ nC (.mk ?_)
 refine yK [(4, uV (gn + 1)), (5, .bool true), (6, iV 0)] fun lr7 => ?_
 refine yRt ?_
 repeat (first | simp only [Exit.inBlock] | simp only [Exit.then])
 refine hi_out [] (.tuple #[uV (gn + 1), .bool true, iV 0]) [] (by kernel_rfl) (by intro q hq; cases hq) ?_
 exact ⟨.tuple #[uV (gn + 1), .bool true, iV 0], [], rfl, ⟨rfl, rfl⟩, h4⟩

set_option maxHeartbeats 4000000 in
theorem after_no (gn : Int) (hg : gn = 4294967295) : HT Try.prog 77 [Value.int IntKind.u32 gn, Value.int IntKind.u64 1] [] (fun v K => v = Value.tuple #[Value.int IntKind.u32 0, Value.bool false, Value.int IntKind.i64 0] ∧ K = []) := by
 refine hi_in 27 ([(0, uV gn), (1, .int .u64 1)] : Fr) Try.func77 (by kernel_rfl) Try.ntmps77 rfl rfl ?_
 intro g w0 R h0
 refine ySq ?_
 refine yPl [0, 1, 2] ?_
 refine yB0 [] [0, 1, 2] [(6, iV 0), (5, .bool false), (4, uV 0)] (.mk ?_)
 refine yK [(0, uV gn), (1, .int .u64 1)] fun lr1 => ?_
 refine ySq ?_
 refine yPl [0, 1, 2, 3, 4, 5, 6] ?_
 refine yB0 [1, 2, 3, 4, 5, 6] [0] [(10, uV gn)] ?_
 refine yA ?_
 refine yCl 11 Try.call79 (gleft_ok gn (by omega) (by omega)) h0 ?_
 rintro v K w2 (⟨rfl, rfl⟩) h3
 refine ⟨_, rfl, ?_⟩
 have h4 := ap0 h3
 refine yB0 [] [2, 3, 4, 5, 6] [(8, iV 0), (7, uV (-gn + 4294967295)), (13, iV 0), (12, uV (-gn + 4294967295)), (9, .tuple #[uV (-gn + 4294967295), iV 0])] (.mk ?_)
 refine yK [(0, uV gn), (1, .int .u64 1), (7, uV (-gn + 4294967295)), (8, iV 0)] fun lr5 => ?_
 refine ySq ?_
 refine ySq ?_
 refine yPl [0, 1, 2, 3, 4, 5, 6, 7] ?_
 refine yBb [] [(21, .bool true), (20, .bool true), (19, .int .u64 (-gn + 4294967295)), (18, uV (-gn + 4294967295)), (17, .int .u64 1), (16, .bool false), (15, .bool false), (14, iV 0)] [e0 0, e0 1, e0 2, e0 3, e0 4, e1 5 (.int .u64 (-gn + 4294967295)), e1 6 (.bool true), e0 7] [] [(.int .u64 (IntKind.wrap .u64 (-gn + 4294967295)), .int .u64 (-gn + 4294967295)), (.bool (decide (1 > -gn + 4294967295)), .bool true)] ⟨(ov_u64 rfl (by omega) (by omega)), (ov_t (by omega)), trivial⟩ nC (.mk ?_)
 refine yK [(0, uV gn), (1, .int .u64 1), (8, iV 0), (21, .bool true)] fun lr6 => ?_
 refine yCt ?_
 refine ySq ?_
 refine yPl [0, 1, 2, 3] ?_
 refine yB0 [] [0, 1, 2, 3] [(6, iV 0), (5, .bool false), (4, uV 0), (22, iV 0)] (.mk ?_)
 refine yK [(4, uV 0), (5, .bool false), (6, iV 0)] fun lr7 => ?_
 refine yRt ?_
 repeat (first | simp only [Exit.inBlock] | simp only [Exit.then])
 refine hi_out [] (.tuple #[uV 0, .bool false, iV 0]) [] (by kernel_rfl) (by intro q hq; cases hq) ?_
 exact ⟨.tuple #[uV 0, .bool false, iV 0], [], rfl, ⟨rfl, rfl⟩, h4⟩

set_option maxHeartbeats 4000000 in
theorem next_ok (gn : Int) (hg1 : 1 ≤ gn) (hg : gn < 4294967295) : HT Try.prog 72 [Value.int IntKind.u32 gn] [] (fun v K => v = Value.tuple #[Value.int IntKind.u32 (gn + 1), Value.bool true, Value.int IntKind.i64 0] ∧ K = []) := by
 refine hi_in 10 ([(0, uV gn)] : Fr) Try.func72 (by kernel_rfl) Try.ntmps72 rfl rfl ?_
 intro g w0 R h0
 refine ySq ?_
 refine yPl [0, 1, 2] ?_
 refine yB0 [] [0, 1, 2] [(4, iV 0), (3, .bool false), (2, uV 0)] (.mk ?_)
 refine yK [(0, uV gn)] fun lr1 => ?_
 refine ySq ?_
 refine yPl [0, 1, 2, 3, 4, 5, 6, 7] ?_
 refine yB0 [1, 2, 3, 4, 5, 6, 7] [0] [(5, uV gn)] ?_
 refine yA ?_
 refine yCl 6 Try.call77 (after_ok gn (by omega) (by omega)) h0 ?_
 rintro v K w2 (⟨rfl, rfl⟩) h3
 refine ⟨_, rfl, ?_⟩
 have h4 := ap0 h3
 refine yB0 [] [2, 3, 4, 5, 6, 7] [(4, iV 0), (3, .bool true), (2, uV (gn + 1)), (9, iV 0), (8, .bool true), (7, uV (gn + 1))] (.mk ?_)
 refine yK [(2, uV (gn + 1)), (3, .bool true), (4, iV 0)] fun lr5 => ?_
 refine yRt ?_
 repeat (first | simp only [Exit.inBlock] | simp only [Exit.then])
 refine hi_out [] (.tuple #[uV (gn + 1), .bool true, iV 0]) [] (by kernel_rfl) (by intro q hq; cases hq) ?_
 exact ⟨.tuple #[uV (gn + 1), .bool true, iV 0], [], rfl, ⟨rfl, rfl⟩, h4⟩

set_option maxHeartbeats 4000000 in
theorem next_no (gn : Int) (hg : gn = 4294967295) : HT Try.prog 72 [Value.int IntKind.u32 gn] [] (fun v K => v = Value.tuple #[Value.int IntKind.u32 0, Value.bool false, Value.int IntKind.i64 0] ∧ K = []) := by
 refine hi_in 10 ([(0, uV gn)] : Fr) Try.func72 (by kernel_rfl) Try.ntmps72 rfl rfl ?_
 intro g w0 R h0
 refine ySq ?_
 refine yPl [0, 1, 2] ?_
 refine yB0 [] [0, 1, 2] [(4, iV 0), (3, .bool false), (2, uV 0)] (.mk ?_)
 refine yK [(0, uV gn)] fun lr1 => ?_
 refine ySq ?_
 refine yPl [0, 1, 2, 3, 4, 5, 6, 7] ?_
 refine yB0 [1, 2, 3, 4, 5, 6, 7] [0] [(5, uV gn)] ?_
 refine yA ?_
 refine yCl 6 Try.call77 (after_no gn (by omega)) h0 ?_
 rintro v K w2 (⟨rfl, rfl⟩) h3
 refine ⟨_, rfl, ?_⟩
 have h4 := ap0 h3
 refine yB0 [] [2, 3, 4, 5, 6, 7] [(4, iV 0), (3, .bool false), (2, uV 0), (9, iV 0), (8, .bool false), (7, uV 0)] (.mk ?_)
 refine yK [(2, uV 0), (3, .bool false), (4, iV 0)] fun lr5 => ?_
 refine yRt ?_
 repeat (first | simp only [Exit.inBlock] | simp only [Exit.then])
 refine hi_out [] (.tuple #[uV 0, .bool false, iV 0]) [] (by kernel_rfl) (by intro q hq; cases hq) ?_
 exact ⟨.tuple #[uV 0, .bool false, iV 0], [], rfl, ⟨rfl, rfl⟩, h4⟩

set_option maxHeartbeats 4000000 in
theorem ofouter_ht (x y z : Int) (hz0 : 0 ≤ z) (hz1 : z ≤ 4294967295) : HT Try.prog 74 [Value.agg #[Value.int IntKind.i64 x, Value.int IntKind.i64 y, Value.int IntKind.u32 z]] [] (fun v K => v = Value.agg #[Value.int IntKind.i64 x, Value.int IntKind.i64 y, Value.int IntKind.i64 z] ∧ K = []) := by
 refine hi_in 11 ([(0, .agg #[iV x, iV y, uV z])] : Fr) Try.func74 (by kernel_rfl) Try.ntmps74 rfl rfl ?_
 intro g w0 R h0
 refine ySq ?_
 refine yPl [0, 1] ?_
 refine yA ?_
 refine yNp 1 32 [iV x, iV y, uV z] h0 fun r1 w2 h3 => ?_
 refine yA ?_
 refine yNp 2 103 [iV 0, iV 0, iV 0] h3 fun r4 w5 h6 => ?_
 refine PO.mk ?_
 refine yK [(1, pV r1), (2, pV r4)] fun lr7 => ?_
 refine ySq ?_
 refine yPl [0, 1, 2, 3, 4, 5, 6, 7, 8] ?_
 refine yBb [8] [(10, .agg #[iV x, iV y, iV z]), (9, iV z), (8, uV z), (7, .pointer (some ⟨r1, 2, none⟩)), (6, iV y), (5, .pointer (some ⟨r1, 1, none⟩)), (4, iV x), (3, pV r1)] [e0 0, e2 1 [iV x], e0 2, e2 3 [iV y], e0 4, e2 5 [uV z], e1 6 (iV z), e0 7] [(5, ⟨r1, 2, none⟩, uV z), (3, ⟨r1, 1, none⟩, iV y), (1, ⟨r1, 0, none⟩, iV x)] [(iV (IntKind.wrap .i64 z), iV z)] ⟨(ov_i64 rfl (by omega) (by omega)), trivial⟩ (kC (sat_cell h6 1 rfl rfl) (kC (sat_cell h6 1 rfl rfl) (kC (sat_cell h6 1 rfl rfl) nC))) ?_
 refine yA ?_
 refine yS [(0, iV x), (1, iV y), (2, iV z)] [iV x, iV y, iV z] h6 fun w8 h9 => ?_
 refine PO.mk ?_
 refine yK [(2, pV r4)] fun lr10 => ?_
 refine yRt ?_
 repeat (first | simp only [Exit.inBlock] | simp only [Exit.then])
 have h11 := tk1 (sf2 h9)
 refine hi_out [iV x, iV y, iV z] (.agg #[iV x, iV y, iV z]) [(⟨r4, 0, none⟩, iV x), (⟨r4, 1, none⟩, iV y), (⟨r4, 2, none⟩, iV z)] (by kernel_rfl) (allq ⟨sat_cell h9 0 rfl rfl, sat_cell h9 0 rfl rfl, sat_cell h9 0 rfl rfl, trivial⟩) ?_
 exact ⟨.agg #[iV x, iV y, iV z], [], rfl, ⟨rfl, rfl⟩, h11⟩

set_option maxHeartbeats 4000000 in
theorem ofdesc_ht (x y z : Int) (hz0 : 0 ≤ z) (hz1 : z ≤ 4294967295) : HT Try.prog 51 [Value.agg #[Value.int IntKind.i64 x, Value.int IntKind.i64 y, Value.int IntKind.u32 z]] [] (fun v K => v = Value.agg #[Value.int IntKind.i64 x, Value.int IntKind.i64 y, Value.int IntKind.i64 z] ∧ K = []) := by
 refine hi_in 11 ([(0, .agg #[iV x, iV y, uV z])] : Fr) Try.func51 (by kernel_rfl) Try.ntmps51 rfl rfl ?_
 intro g w0 R h0
 refine ySq ?_
 refine yPl [0, 1] ?_
 refine yA ?_
 refine yNp 1 28 [iV x, iV y, uV z] h0 fun r1 w2 h3 => ?_
 refine yA ?_
 refine yNp 2 103 [iV 0, iV 0, iV 0] h3 fun r4 w5 h6 => ?_
 refine PO.mk ?_
 refine yK [(1, pV r1), (2, pV r4)] fun lr7 => ?_
 refine ySq ?_
 refine yPl [0, 1, 2, 3, 4, 5, 6, 7, 8] ?_
 refine yBb [8] [(10, .agg #[iV x, iV y, iV z]), (9, iV z), (8, uV z), (7, .pointer (some ⟨r1, 2, none⟩)), (6, iV y), (5, .pointer (some ⟨r1, 1, none⟩)), (4, iV x), (3, pV r1)] [e0 0, e2 1 [iV x], e0 2, e2 3 [iV y], e0 4, e2 5 [uV z], e1 6 (iV z), e0 7] [(5, ⟨r1, 2, none⟩, uV z), (3, ⟨r1, 1, none⟩, iV y), (1, ⟨r1, 0, none⟩, iV x)] [(iV (IntKind.wrap .i64 z), iV z)] ⟨(ov_i64 rfl (by omega) (by omega)), trivial⟩ (kC (sat_cell h6 1 rfl rfl) (kC (sat_cell h6 1 rfl rfl) (kC (sat_cell h6 1 rfl rfl) nC))) ?_
 refine yA ?_
 refine yS [(0, iV x), (1, iV y), (2, iV z)] [iV x, iV y, iV z] h6 fun w8 h9 => ?_
 refine PO.mk ?_
 refine yK [(2, pV r4)] fun lr10 => ?_
 refine yRt ?_
 repeat (first | simp only [Exit.inBlock] | simp only [Exit.then])
 have h11 := tk1 (sf2 h9)
 refine hi_out [iV x, iV y, iV z] (.agg #[iV x, iV y, iV z]) [(⟨r4, 0, none⟩, iV x), (⟨r4, 1, none⟩, iV y), (⟨r4, 2, none⟩, iV z)] (by kernel_rfl) (allq ⟨sat_cell h9 0 rfl rfl, sat_cell h9 0 rfl rfl, sat_cell h9 0 rfl rfl, trivial⟩) ?_
 exact ⟨.agg #[iV x, iV y, iV z], [], rfl, ⟨rfl, rfl⟩, h11⟩

set_option maxHeartbeats 4000000 in
theorem dcheck_ok (x y z : Int) (hz0 : 0 ≤ z) (hz1 : z ≤ 4294967295) (ho : 1 ≤ x ∧ x ≤ 3 ∧ 0 ≤ y ∧ y ≤ 63 ∧ 1 ≤ z) : HT Try.prog 52 [Value.agg #[Value.int IntKind.i64 x, Value.int IntKind.i64 y, Value.int IntKind.i64 z], Value.int IntKind.i64 64] [] (fun v K => v = Value.int IntKind.i64 0 ∧ K = []) := by
 refine hi_in 28 ([(0, .agg #[iV x, iV y, iV z]), (1, iV 64)] : Fr) Try.func52 (by kernel_rfl) Try.ntmps52 rfl rfl ?_
 intro g w0 R h0
 refine ySq ?_
 refine yPl [0, 1] ?_
 refine yA ?_
 refine yNp 2 103 [iV x, iV y, iV z] h0 fun r1 w2 h3 => ?_
 refine yB0 [] [1] [(4, iV 0)] (.mk ?_)
 refine yK [(1, iV 64), (2, pV r1)] fun lr4 => ?_
 refine ySq ?_
 refine ySq ?_
 refine yPl [0, 1, 2, 3, 4, 5, 6, 7, 8, 9, 10, 11, 12, 13, 14, 15, 16, 17, 18] ?_
 refine plain_law (i := 0) 5 (pV r1) (by kernel_rfl) (law_indexArr (o := opA (RA Try.f52 [1, 0, 0]) 0) (x := (Operand.tmp 2)) (i := (Operand.const (iV 0))) (b := r1) (off := 0) (z := 0) (by kernel_rfl) Try.underlying103 1 (by kernel_rfl) 0 (by kernel_rfl) (by kernel_rfl) (by omega) (by omega) 0 (by omega) _) ?_
 refine yBb [4, 5, 6, 7, 8, 9, 10, 11, 12, 13, 14, 15, 16, 17, 18] [(8, .bool false), (7, .bool false), (6, iV x)] [e2 1 [iV x], e1 2 (.bool false), e0 3] [(1, ⟨r1, 0, none⟩, iV x)] [(.bool (decide (x < 1)), .bool false)] ⟨(ov_f (by omega)), trivial⟩ (kC (sat_cell h3 0 rfl rfl) nC) ?_
 refine plain_law (i := 4) 9 (pV r1) (by kernel_rfl) (law_indexArr (o := opA (RA Try.f52 [1, 0, 0]) 4) (x := (Operand.tmp 2)) (i := (Operand.const (iV 0))) (b := r1) (off := 0) (z := 0) (by kernel_rfl) Try.underlying103 1 (by kernel_rfl) 0 (by kernel_rfl) (by kernel_rfl) (by omega) (by omega) 0 (by omega) _) ?_
 refine yBb [9, 10, 11, 12, 13, 14, 15, 16, 17, 18] [(13, .bool false), (12, .bool false), (11, .bool false), (10, iV x)] [e2 5 [iV x], e1 6 (.bool false), e0 7, e0 8] [(5, ⟨r1, 0, none⟩, iV x)] [(.bool (decide (x > 3)), .bool false)] ⟨(ov_f (by omega)), trivial⟩ (kC (sat_cell h3 0 rfl rfl) nC) ?_
 refine plain_law (i := 9) 14 (.pointer (some ⟨r1, 1, none⟩)) (by kernel_rfl) (law_indexArr (o := opA (RA Try.f52 [1, 0, 0]) 9) (x := (Operand.tmp 2)) (i := (Operand.const (iV 1))) (b := r1) (off := 0) (z := 1) (by kernel_rfl) Try.underlying103 1 (by kernel_rfl) 1 (by kernel_rfl) (by kernel_rfl) (by omega) (by omega) 1 (by omega) _) ?_
 refine yBb [14, 15, 16, 17, 18] [(18, .bool false), (17, .bool false), (16, .bool false), (15, iV y)] [e2 10 [iV y], e1 11 (.bool false), e0 12, e0 13] [(10, ⟨r1, 1, none⟩, iV y)] [(.bool (decide (y < 0)), .bool false)] ⟨(ov_f (by omega)), trivial⟩ (kC (sat_cell h3 0 rfl rfl) nC) ?_
 refine plain_law (i := 14) 19 (.pointer (some ⟨r1, 1, none⟩)) (by kernel_rfl) (law_indexArr (o := opA (RA Try.f52 [1, 0, 0]) 14) (x := (Operand.tmp 2)) (i := (Operand.const (iV 1))) (b := r1) (off := 0) (z := 1) (by kernel_rfl) Try.underlying103 1 (by kernel_rfl) 1 (by kernel_rfl) (by kernel_rfl) (by omega) (by omega) 1 (by omega) _) ?_
 refine yBb [] [(23, .bool false), (22, .bool false), (21, iV 64), (20, iV y)] [e2 15 [iV y], e0 16, e1 17 (.bool false), e0 18] [(15, ⟨r1, 1, none⟩, iV y)] [(.bool (decide (y ≥ 64)), .bool false)] ⟨(ov_f (by omega)), trivial⟩ (kC (sat_cell h3 0 rfl rfl) nC) (.mk ?_)
 refine yK [(2, pV r1), (23, .bool false)] fun lr5 => ?_
 refine yCf ?_
 refine ySk ?_
 refine ySq ?_
 refine yPl [0, 1, 2, 3, 4] ?_
 refine plain_law (i := 0) 24 (.pointer (some ⟨r1, 2, none⟩)) (by kernel_rfl) (law_indexArr (o := opA (RA Try.f52 [1, 1, 0]) 0) (x := (Operand.tmp 2)) (i := (Operand.const (iV 2))) (b := r1) (off := 0) (z := 2) (by kernel_rfl) Try.underlying103 1 (by kernel_rfl) 2 (by kernel_rfl) (by kernel_rfl) (by omega) (by omega) 2 (by omega) _) ?_
 refine yBb [3, 4] [(26, uV z), (25, iV z)] [e2 1 [iV z], e1 2 (uV z)] [(1, ⟨r1, 2, none⟩, iV z)] [(uV (IntKind.wrap .u32 z), uV z)] ⟨(ov_u32 rfl (by omega) (by omega)), trivial⟩ (kC (sat_cell h3 0 rfl rfl) nC) ?_
 refine yA ?_
 refine yCl 27 Try.call55 (gcheck_ok z (by omega) (by omega)) h3 ?_
 rintro v K w6 (⟨rfl, rfl⟩) h7
 refine ⟨_, rfl, ?_⟩
 have h8 := ap0 h7
 refine yB0 [] [4] [(4, iV 0)] (.mk ?_)
 refine yK [(4, iV 0)] fun lr9 => ?_
 refine yRt ?_
 repeat (first | simp only [Exit.inBlock] | simp only [Exit.then])
 have h10 := tk1 (sf1 h8)
 refine hi_out [] (iV 0) [] (by kernel_rfl) (by intro q hq; cases hq) ?_
 exact ⟨iV 0, [], rfl, ⟨rfl, rfl⟩, h10⟩

set_option maxHeartbeats 4000000 in
theorem dcheck_no (x y z : Int) (hz0 : 0 ≤ z) (hz1 : z ≤ 4294967295) (ho : ¬ (1 ≤ x ∧ x ≤ 3 ∧ 0 ≤ y ∧ y ≤ 63 ∧ 1 ≤ z)) : HT Try.prog 52 [Value.agg #[Value.int IntKind.i64 x, Value.int IntKind.i64 y, Value.int IntKind.i64 z], Value.int IntKind.i64 64] [] (fun v K => v = Value.int IntKind.i64 2 ∧ K = []) := by
 refine hi_in 28 ([(0, .agg #[iV x, iV y, iV z]), (1, iV 64)] : Fr) Try.func52 (by kernel_rfl) Try.ntmps52 rfl rfl ?_
 intro g w0 R h0
 refine ySq ?_
 refine yPl [0, 1] ?_
 refine yA ?_
 refine yNp 2 103 [iV x, iV y, iV z] h0 fun r1 w2 h3 => ?_
 refine yB0 [] [1] [(4, iV 0)] (.mk ?_)
 refine yK [(1, iV 64), (2, pV r1)] fun lr4 => ?_
 refine ySq ?_
 refine ySq ?_
 refine yPl [0, 1, 2, 3, 4, 5, 6, 7, 8, 9, 10, 11, 12, 13, 14, 15, 16, 17, 18] ?_
 refine plain_law (i := 0) 5 (pV r1) (by kernel_rfl) (law_indexArr (o := opA (RA Try.f52 [1, 0, 0]) 0) (x := (Operand.tmp 2)) (i := (Operand.const (iV 0))) (b := r1) (off := 0) (z := 0) (by kernel_rfl) Try.underlying103 1 (by kernel_rfl) 0 (by kernel_rfl) (by kernel_rfl) (by omega) (by omega) 0 (by omega) _) ?_
 refine yBb [2, 3, 4, 5, 6, 7, 8, 9, 10, 11, 12, 13, 14, 15, 16, 17, 18] [(6, iV x)] [e2 1 [iV x]] [(1, ⟨r1, 0, none⟩, iV x)] [] trivial (kC (sat_cell h3 0 rfl rfl) nC) ?_
 by_cases c5 : x < 1
 ·
  refine yBb [] [(23, .bool true), (22, undef), (21, undef), (20, undef), (19, undef), (18, .bool true), (17, .bool true), (16, undef), (15, undef), (14, undef), (13, .bool true), (12, .bool true), (11, undef), (10, undef), (9, undef), (8, .bool true), (7, .bool true)] [e1 2 (.bool true), e0 3, e0 4, e0 5, e0 6, e0 7, e0 8, e0 9, e0 10, e0 11, e0 12, e0 13, e0 14, e0 15, e0 16, e0 17, e0 18] [] [(.bool (decide (x < 1)), .bool true)] ⟨(ov_t (by omega)), trivial⟩ nC (.mk ?_)
  refine yK [(2, pV r1), (23, .bool true)] fun lr6 => ?_
  refine yCt ?_
  refine ySq ?_
  refine yPl [0] ?_
  refine yB0 [] [0] [(4, iV 2)] (.mk ?_)
  refine yK [(4, iV 2)] fun lr7 => ?_
  refine yRt ?_
  repeat (first | simp only [Exit.inBlock] | simp only [Exit.then])
  have h8 := tk1 (sf1 h3)
  refine hi_out [] (iV 2) [] (by kernel_rfl) (by intro q hq; cases hq) ?_
  exact ⟨iV 2, [], rfl, ⟨rfl, rfl⟩, h8⟩
 ·
  refine yBb [4, 5, 6, 7, 8, 9, 10, 11, 12, 13, 14, 15, 16, 17, 18] [(8, .bool false), (7, .bool false)] [e1 2 (.bool false), e0 3] [] [(.bool (decide (x < 1)), .bool false)] ⟨(ov_f (by omega)), trivial⟩ nC ?_
  refine plain_law (i := 4) 9 (pV r1) (by kernel_rfl) (law_indexArr (o := opA (RA Try.f52 [1, 0, 0]) 4) (x := (Operand.tmp 2)) (i := (Operand.const (iV 0))) (b := r1) (off := 0) (z := 0) (by kernel_rfl) Try.underlying103 1 (by kernel_rfl) 0 (by kernel_rfl) (by kernel_rfl) (by omega) (by omega) 0 (by omega) _) ?_
  refine yBb [6, 7, 8, 9, 10, 11, 12, 13, 14, 15, 16, 17, 18] [(10, iV x)] [e2 5 [iV x]] [(5, ⟨r1, 0, none⟩, iV x)] [] trivial (kC (sat_cell h3 0 rfl rfl) nC) ?_
  by_cases c9 : x > 3
  ·
   refine yBb [] [(23, .bool true), (22, undef), (21, undef), (20, undef), (19, undef), (18, .bool true), (17, .bool true), (16, undef), (15, undef), (14, undef), (13, .bool true), (12, .bool true), (11, .bool true)] [e1 6 (.bool true), e0 7, e0 8, e0 9, e0 10, e0 11, e0 12, e0 13, e0 14, e0 15, e0 16, e0 17, e0 18] [] [(.bool (decide (x > 3)), .bool true)] ⟨(ov_t (by omega)), trivial⟩ nC (.mk ?_)
   refine yK [(2, pV r1), (23, .bool true)] fun lr10 => ?_
   refine yCt ?_
   refine ySq ?_
   refine yPl [0] ?_
   refine yB0 [] [0] [(4, iV 2)] (.mk ?_)
   refine yK [(4, iV 2)] fun lr11 => ?_
   refine yRt ?_
   repeat (first | simp only [Exit.inBlock] | simp only [Exit.then])
   have h12 := tk1 (sf1 h3)
   refine hi_out [] (iV 2) [] (by kernel_rfl) (by intro q hq; cases hq) ?_
   exact ⟨iV 2, [], rfl, ⟨rfl, rfl⟩, h12⟩
  ·
   refine yBb [9, 10, 11, 12, 13, 14, 15, 16, 17, 18] [(13, .bool false), (12, .bool false), (11, .bool false)] [e1 6 (.bool false), e0 7, e0 8] [] [(.bool (decide (x > 3)), .bool false)] ⟨(ov_f (by omega)), trivial⟩ nC ?_
   refine plain_law (i := 9) 14 (.pointer (some ⟨r1, 1, none⟩)) (by kernel_rfl) (law_indexArr (o := opA (RA Try.f52 [1, 0, 0]) 9) (x := (Operand.tmp 2)) (i := (Operand.const (iV 1))) (b := r1) (off := 0) (z := 1) (by kernel_rfl) Try.underlying103 1 (by kernel_rfl) 1 (by kernel_rfl) (by kernel_rfl) (by omega) (by omega) 1 (by omega) _) ?_
   refine yBb [11, 12, 13, 14, 15, 16, 17, 18] [(15, iV y)] [e2 10 [iV y]] [(10, ⟨r1, 1, none⟩, iV y)] [] trivial (kC (sat_cell h3 0 rfl rfl) nC) ?_
   by_cases c13 : y < 0
   ·
    refine yBb [] [(23, .bool true), (22, undef), (21, undef), (20, undef), (19, undef), (18, .bool true), (17, .bool true), (16, .bool true)] [e1 11 (.bool true), e0 12, e0 13, e0 14, e0 15, e0 16, e0 17, e0 18] [] [(.bool (decide (y < 0)), .bool true)] ⟨(ov_t (by omega)), trivial⟩ nC (.mk ?_)
    refine yK [(2, pV r1), (23, .bool true)] fun lr14 => ?_
    refine yCt ?_
    refine ySq ?_
    refine yPl [0] ?_
    refine yB0 [] [0] [(4, iV 2)] (.mk ?_)
    refine yK [(4, iV 2)] fun lr15 => ?_
    refine yRt ?_
    repeat (first | simp only [Exit.inBlock] | simp only [Exit.then])
    have h16 := tk1 (sf1 h3)
    refine hi_out [] (iV 2) [] (by kernel_rfl) (by intro q hq; cases hq) ?_
    exact ⟨iV 2, [], rfl, ⟨rfl, rfl⟩, h16⟩
   ·
    refine yBb [14, 15, 16, 17, 18] [(18, .bool false), (17, .bool false), (16, .bool false)] [e1 11 (.bool false), e0 12, e0 13] [] [(.bool (decide (y < 0)), .bool false)] ⟨(ov_f (by omega)), trivial⟩ nC ?_
    refine plain_law (i := 14) 19 (.pointer (some ⟨r1, 1, none⟩)) (by kernel_rfl) (law_indexArr (o := opA (RA Try.f52 [1, 0, 0]) 14) (x := (Operand.tmp 2)) (i := (Operand.const (iV 1))) (b := r1) (off := 0) (z := 1) (by kernel_rfl) Try.underlying103 1 (by kernel_rfl) 1 (by kernel_rfl) (by kernel_rfl) (by omega) (by omega) 1 (by omega) _) ?_
    refine yBb [17, 18] [(21, iV 64), (20, iV y)] [e2 15 [iV y], e0 16] [(15, ⟨r1, 1, none⟩, iV y)] [] trivial (kC (sat_cell h3 0 rfl rfl) nC) ?_
    by_cases c17 : y ≥ 64
    ·
     refine yBb [] [(23, .bool true), (22, .bool true)] [e1 17 (.bool true), e0 18] [] [(.bool (decide (y ≥ 64)), .bool true)] ⟨(ov_t (by omega)), trivial⟩ nC (.mk ?_)
     refine yK [(2, pV r1), (23, .bool true)] fun lr18 => ?_
     refine yCt ?_
     refine ySq ?_
     refine yPl [0] ?_
     refine yB0 [] [0] [(4, iV 2)] (.mk ?_)
     refine yK [(4, iV 2)] fun lr19 => ?_
     refine yRt ?_
     repeat (first | simp only [Exit.inBlock] | simp only [Exit.then])
     have h20 := tk1 (sf1 h3)
     refine hi_out [] (iV 2) [] (by kernel_rfl) (by intro q hq; cases hq) ?_
     exact ⟨iV 2, [], rfl, ⟨rfl, rfl⟩, h20⟩
    ·
     refine yBb [] [(23, .bool false), (22, .bool false)] [e1 17 (.bool false), e0 18] [] [(.bool (decide (y ≥ 64)), .bool false)] ⟨(ov_f (by omega)), trivial⟩ nC (.mk ?_)
     refine yK [(2, pV r1), (23, .bool false)] fun lr21 => ?_
     refine yCf ?_
     refine ySk ?_
     refine ySq ?_
     refine yPl [0, 1, 2, 3, 4] ?_
     refine plain_law (i := 0) 24 (.pointer (some ⟨r1, 2, none⟩)) (by kernel_rfl) (law_indexArr (o := opA (RA Try.f52 [1, 1, 0]) 0) (x := (Operand.tmp 2)) (i := (Operand.const (iV 2))) (b := r1) (off := 0) (z := 2) (by kernel_rfl) Try.underlying103 1 (by kernel_rfl) 2 (by kernel_rfl) (by kernel_rfl) (by omega) (by omega) 2 (by omega) _) ?_
     refine yBb [3, 4] [(26, uV z), (25, iV z)] [e2 1 [iV z], e1 2 (uV z)] [(1, ⟨r1, 2, none⟩, iV z)] [(uV (IntKind.wrap .u32 z), uV z)] ⟨(ov_u32 rfl (by omega) (by omega)), trivial⟩ (kC (sat_cell h3 0 rfl rfl) nC) ?_
     refine yA ?_
     refine yCl 27 Try.call55 (gcheck_no z (by omega)) h3 ?_
     rintro v K w22 (⟨rfl, rfl⟩) h23
     refine ⟨_, rfl, ?_⟩
     have h24 := ap0 h23
     refine yB0 [] [4] [(4, iV 2)] (.mk ?_)
     refine yK [(4, iV 2)] fun lr25 => ?_
     refine yRt ?_
     repeat (first | simp only [Exit.inBlock] | simp only [Exit.then])
     have h26 := tk1 (sf1 h24)
     refine hi_out [] (iV 2) [] (by kernel_rfl) (by intro q hq; cases hq) ?_
     exact ⟨iV 2, [], rfl, ⟨rfl, rfl⟩, h26⟩

set_option maxHeartbeats 4000000 in
theorem couter_ok (x y z : Int) (hz0 : 0 ≤ z) (hz1 : z ≤ 4294967295) (ho : 1 ≤ x ∧ x ≤ 3 ∧ 0 ≤ y ∧ y ≤ 63 ∧ 1 ≤ z) : HT Try.prog 63 [Value.agg #[Value.int IntKind.i64 x, Value.int IntKind.i64 y, Value.int IntKind.u32 z]] [] (fun v K => v = Value.int IntKind.i64 0 ∧ K = []) := by
 refine hi_in 6 ([(0, .agg #[iV x, iV y, uV z])] : Fr) Try.func63 (by kernel_rfl) Try.ntmps63 rfl rfl ?_
 intro g w0 R h0
 refine ySq ?_
 refine yPl [0, 1] ?_
 refine yA ?_
 refine yNp 1 32 [iV x, iV y, uV z] h0 fun r1 w2 h3 => ?_
 refine yB0 [] [1] [(2, iV 0)] (.mk ?_)
 refine yK [(1, pV r1)] fun lr4 => ?_
 refine ySq ?_
 refine yPl [0, 1, 2, 3] ?_
 refine yBb [1, 2, 3] [(3, .agg #[iV x, iV y, uV z])] [e2 0 [iV x, iV y, uV z]] [(0, ⟨r1, 0, none⟩, iV x), (0, ⟨r1, 1, none⟩, iV y), (0, ⟨r1, 2, none⟩, uV z)] [] trivial (kC (sat_cell h3 0 rfl rfl) (kC (sat_cell h3 0 rfl rfl) (kC (sat_cell h3 0 rfl rfl) nC))) ?_
 refine yA ?_
 refine yCl 4 Try.call74 (ofouter_ht x y z (by omega) (by omega)) h3 ?_
 rintro v K w5 (⟨rfl, rfl⟩) h6
 refine ⟨_, rfl, ?_⟩
 have h7 := ap0 h6
 refine yA ?_
 refine yCl 5 Try.call52 (dcheck_ok x y z (by omega) (by omega) (by omega)) h7 ?_
 rintro v K w8 (⟨rfl, rfl⟩) h9
 refine ⟨_, rfl, ?_⟩
 have h10 := ap0 h9
 refine yB0 [] [3] [(2, iV 0)] (.mk ?_)
 refine yK [(2, iV 0)] fun lr11 => ?_
 refine yRt ?_
 repeat (first | simp only [Exit.inBlock] | simp only [Exit.then])
 have h12 := tk1 (sf1 h10)
 refine hi_out [] (iV 0) [] (by kernel_rfl) (by intro q hq; cases hq) ?_
 exact ⟨iV 0, [], rfl, ⟨rfl, rfl⟩, h12⟩

set_option maxHeartbeats 4000000 in
theorem couter_no (x y z : Int) (hz0 : 0 ≤ z) (hz1 : z ≤ 4294967295) (ho : ¬ (1 ≤ x ∧ x ≤ 3 ∧ 0 ≤ y ∧ y ≤ 63 ∧ 1 ≤ z)) : HT Try.prog 63 [Value.agg #[Value.int IntKind.i64 x, Value.int IntKind.i64 y, Value.int IntKind.u32 z]] [] (fun v K => v = Value.int IntKind.i64 2 ∧ K = []) := by
 refine hi_in 6 ([(0, .agg #[iV x, iV y, uV z])] : Fr) Try.func63 (by kernel_rfl) Try.ntmps63 rfl rfl ?_
 intro g w0 R h0
 refine ySq ?_
 refine yPl [0, 1] ?_
 refine yA ?_
 refine yNp 1 32 [iV x, iV y, uV z] h0 fun r1 w2 h3 => ?_
 refine yB0 [] [1] [(2, iV 0)] (.mk ?_)
 refine yK [(1, pV r1)] fun lr4 => ?_
 refine ySq ?_
 refine yPl [0, 1, 2, 3] ?_
 refine yBb [1, 2, 3] [(3, .agg #[iV x, iV y, uV z])] [e2 0 [iV x, iV y, uV z]] [(0, ⟨r1, 0, none⟩, iV x), (0, ⟨r1, 1, none⟩, iV y), (0, ⟨r1, 2, none⟩, uV z)] [] trivial (kC (sat_cell h3 0 rfl rfl) (kC (sat_cell h3 0 rfl rfl) (kC (sat_cell h3 0 rfl rfl) nC))) ?_
 refine yA ?_
 refine yCl 4 Try.call74 (ofouter_ht x y z (by omega) (by omega)) h3 ?_
 rintro v K w5 (⟨rfl, rfl⟩) h6
 refine ⟨_, rfl, ?_⟩
 have h7 := ap0 h6
 by_cases c8 : 1 ≤ x
 ·
  by_cases c9 : x ≤ 3
  ·
   by_cases c10 : 0 ≤ y
   ·
    by_cases c11 : y ≤ 63
    ·
     refine yA ?_
     refine yCl 5 Try.call52 (dcheck_no x y z (by omega) (by omega) (by omega)) h7 ?_
     rintro v K w12 (⟨rfl, rfl⟩) h13
     refine ⟨_, rfl, ?_⟩
     have h14 := ap0 h13
     refine yB0 [] [3] [(2, iV 2)] (.mk ?_)
     refine yK [(2, iV 2)] fun lr15 => ?_
     refine yRt ?_
     repeat (first | simp only [Exit.inBlock] | simp only [Exit.then])
     have h16 := tk1 (sf1 h14)
     refine hi_out [] (iV 2) [] (by kernel_rfl) (by intro q hq; cases hq) ?_
     exact ⟨iV 2, [], rfl, ⟨rfl, rfl⟩, h16⟩
    ·
     refine yA ?_
     refine yCl 5 Try.call52 (dcheck_no x y z (by omega) (by omega) (by omega)) h7 ?_
     rintro v K w17 (⟨rfl, rfl⟩) h18
     refine ⟨_, rfl, ?_⟩
     have h19 := ap0 h18
     refine yB0 [] [3] [(2, iV 2)] (.mk ?_)
     refine yK [(2, iV 2)] fun lr20 => ?_
     refine yRt ?_
     repeat (first | simp only [Exit.inBlock] | simp only [Exit.then])
     have h21 := tk1 (sf1 h19)
     refine hi_out [] (iV 2) [] (by kernel_rfl) (by intro q hq; cases hq) ?_
     exact ⟨iV 2, [], rfl, ⟨rfl, rfl⟩, h21⟩
   ·
    refine yA ?_
    refine yCl 5 Try.call52 (dcheck_no x y z (by omega) (by omega) (by omega)) h7 ?_
    rintro v K w22 (⟨rfl, rfl⟩) h23
    refine ⟨_, rfl, ?_⟩
    have h24 := ap0 h23
    refine yB0 [] [3] [(2, iV 2)] (.mk ?_)
    refine yK [(2, iV 2)] fun lr25 => ?_
    refine yRt ?_
    repeat (first | simp only [Exit.inBlock] | simp only [Exit.then])
    have h26 := tk1 (sf1 h24)
    refine hi_out [] (iV 2) [] (by kernel_rfl) (by intro q hq; cases hq) ?_
    exact ⟨iV 2, [], rfl, ⟨rfl, rfl⟩, h26⟩
  ·
   refine yA ?_
   refine yCl 5 Try.call52 (dcheck_no x y z (by omega) (by omega) (by omega)) h7 ?_
   rintro v K w27 (⟨rfl, rfl⟩) h28
   refine ⟨_, rfl, ?_⟩
   have h29 := ap0 h28
   refine yB0 [] [3] [(2, iV 2)] (.mk ?_)
   refine yK [(2, iV 2)] fun lr30 => ?_
   refine yRt ?_
   repeat (first | simp only [Exit.inBlock] | simp only [Exit.then])
   have h31 := tk1 (sf1 h29)
   refine hi_out [] (iV 2) [] (by kernel_rfl) (by intro q hq; cases hq) ?_
   exact ⟨iV 2, [], rfl, ⟨rfl, rfl⟩, h31⟩
 ·
  refine yA ?_
  refine yCl 5 Try.call52 (dcheck_no x y z (by omega) (by omega) (by omega)) h7 ?_
  rintro v K w32 (⟨rfl, rfl⟩) h33
  refine ⟨_, rfl, ?_⟩
  have h34 := ap0 h33
  refine yB0 [] [3] [(2, iV 2)] (.mk ?_)
  refine yK [(2, iV 2)] fun lr35 => ?_
  refine yRt ?_
  repeat (first | simp only [Exit.inBlock] | simp only [Exit.then])
  have h36 := tk1 (sf1 h34)
  refine hi_out [] (iV 2) [] (by kernel_rfl) (by intro q hq; cases hq) ?_
  exact ⟨iV 2, [], rfl, ⟨rfl, rfl⟩, h36⟩

set_option maxHeartbeats 4000000 in
theorem dcheckd_ok (x y z : Int) (hz0 : 0 ≤ z) (hz1 : z ≤ 4294967295) (ho : 1 ≤ x ∧ x ≤ 3 ∧ 0 ≤ y ∧ y ≤ 255 ∧ 1 ≤ z) : HT Try.prog 52 [Value.agg #[Value.int IntKind.i64 x, Value.int IntKind.i64 y, Value.int IntKind.i64 z], Value.int IntKind.i64 256] [] (fun v K => v = Value.int IntKind.i64 0 ∧ K = []) := by
 refine hi_in 28 ([(0, .agg #[iV x, iV y, iV z]), (1, iV 256)] : Fr) Try.func52 (by kernel_rfl) Try.ntmps52 rfl rfl ?_
 intro g w0 R h0
 refine ySq ?_
 refine yPl [0, 1] ?_
 refine yA ?_
 refine yNp 2 103 [iV x, iV y, iV z] h0 fun r1 w2 h3 => ?_
 refine yB0 [] [1] [(4, iV 0)] (.mk ?_)
 refine yK [(1, iV 256), (2, pV r1)] fun lr4 => ?_
 refine ySq ?_
 refine ySq ?_
 refine yPl [0, 1, 2, 3, 4, 5, 6, 7, 8, 9, 10, 11, 12, 13, 14, 15, 16, 17, 18] ?_
 refine plain_law (i := 0) 5 (pV r1) (by kernel_rfl) (law_indexArr (o := opA (RA Try.f52 [1, 0, 0]) 0) (x := (Operand.tmp 2)) (i := (Operand.const (iV 0))) (b := r1) (off := 0) (z := 0) (by kernel_rfl) Try.underlying103 1 (by kernel_rfl) 0 (by kernel_rfl) (by kernel_rfl) (by omega) (by omega) 0 (by omega) _) ?_
 refine yBb [4, 5, 6, 7, 8, 9, 10, 11, 12, 13, 14, 15, 16, 17, 18] [(8, .bool false), (7, .bool false), (6, iV x)] [e2 1 [iV x], e1 2 (.bool false), e0 3] [(1, ⟨r1, 0, none⟩, iV x)] [(.bool (decide (x < 1)), .bool false)] ⟨(ov_f (by omega)), trivial⟩ (kC (sat_cell h3 0 rfl rfl) nC) ?_
 refine plain_law (i := 4) 9 (pV r1) (by kernel_rfl) (law_indexArr (o := opA (RA Try.f52 [1, 0, 0]) 4) (x := (Operand.tmp 2)) (i := (Operand.const (iV 0))) (b := r1) (off := 0) (z := 0) (by kernel_rfl) Try.underlying103 1 (by kernel_rfl) 0 (by kernel_rfl) (by kernel_rfl) (by omega) (by omega) 0 (by omega) _) ?_
 refine yBb [9, 10, 11, 12, 13, 14, 15, 16, 17, 18] [(13, .bool false), (12, .bool false), (11, .bool false), (10, iV x)] [e2 5 [iV x], e1 6 (.bool false), e0 7, e0 8] [(5, ⟨r1, 0, none⟩, iV x)] [(.bool (decide (x > 3)), .bool false)] ⟨(ov_f (by omega)), trivial⟩ (kC (sat_cell h3 0 rfl rfl) nC) ?_
 refine plain_law (i := 9) 14 (.pointer (some ⟨r1, 1, none⟩)) (by kernel_rfl) (law_indexArr (o := opA (RA Try.f52 [1, 0, 0]) 9) (x := (Operand.tmp 2)) (i := (Operand.const (iV 1))) (b := r1) (off := 0) (z := 1) (by kernel_rfl) Try.underlying103 1 (by kernel_rfl) 1 (by kernel_rfl) (by kernel_rfl) (by omega) (by omega) 1 (by omega) _) ?_
 refine yBb [14, 15, 16, 17, 18] [(18, .bool false), (17, .bool false), (16, .bool false), (15, iV y)] [e2 10 [iV y], e1 11 (.bool false), e0 12, e0 13] [(10, ⟨r1, 1, none⟩, iV y)] [(.bool (decide (y < 0)), .bool false)] ⟨(ov_f (by omega)), trivial⟩ (kC (sat_cell h3 0 rfl rfl) nC) ?_
 refine plain_law (i := 14) 19 (.pointer (some ⟨r1, 1, none⟩)) (by kernel_rfl) (law_indexArr (o := opA (RA Try.f52 [1, 0, 0]) 14) (x := (Operand.tmp 2)) (i := (Operand.const (iV 1))) (b := r1) (off := 0) (z := 1) (by kernel_rfl) Try.underlying103 1 (by kernel_rfl) 1 (by kernel_rfl) (by kernel_rfl) (by omega) (by omega) 1 (by omega) _) ?_
 refine yBb [] [(23, .bool false), (22, .bool false), (21, iV 256), (20, iV y)] [e2 15 [iV y], e0 16, e1 17 (.bool false), e0 18] [(15, ⟨r1, 1, none⟩, iV y)] [(.bool (decide (y ≥ 256)), .bool false)] ⟨(ov_f (by omega)), trivial⟩ (kC (sat_cell h3 0 rfl rfl) nC) (.mk ?_)
 refine yK [(2, pV r1), (23, .bool false)] fun lr5 => ?_
 refine yCf ?_
 refine ySk ?_
 refine ySq ?_
 refine yPl [0, 1, 2, 3, 4] ?_
 refine plain_law (i := 0) 24 (.pointer (some ⟨r1, 2, none⟩)) (by kernel_rfl) (law_indexArr (o := opA (RA Try.f52 [1, 1, 0]) 0) (x := (Operand.tmp 2)) (i := (Operand.const (iV 2))) (b := r1) (off := 0) (z := 2) (by kernel_rfl) Try.underlying103 1 (by kernel_rfl) 2 (by kernel_rfl) (by kernel_rfl) (by omega) (by omega) 2 (by omega) _) ?_
 refine yBb [3, 4] [(26, uV z), (25, iV z)] [e2 1 [iV z], e1 2 (uV z)] [(1, ⟨r1, 2, none⟩, iV z)] [(uV (IntKind.wrap .u32 z), uV z)] ⟨(ov_u32 rfl (by omega) (by omega)), trivial⟩ (kC (sat_cell h3 0 rfl rfl) nC) ?_
 refine yA ?_
 refine yCl 27 Try.call55 (gcheck_ok z (by omega) (by omega)) h3 ?_
 rintro v K w6 (⟨rfl, rfl⟩) h7
 refine ⟨_, rfl, ?_⟩
 have h8 := ap0 h7
 refine yB0 [] [4] [(4, iV 0)] (.mk ?_)
 refine yK [(4, iV 0)] fun lr9 => ?_
 refine yRt ?_
 repeat (first | simp only [Exit.inBlock] | simp only [Exit.then])
 have h10 := tk1 (sf1 h8)
 refine hi_out [] (iV 0) [] (by kernel_rfl) (by intro q hq; cases hq) ?_
 exact ⟨iV 0, [], rfl, ⟨rfl, rfl⟩, h10⟩

set_option maxHeartbeats 4000000 in
theorem dcheckd_no (x y z : Int) (hz0 : 0 ≤ z) (hz1 : z ≤ 4294967295) (ho : ¬ (1 ≤ x ∧ x ≤ 3 ∧ 0 ≤ y ∧ y ≤ 255 ∧ 1 ≤ z)) : HT Try.prog 52 [Value.agg #[Value.int IntKind.i64 x, Value.int IntKind.i64 y, Value.int IntKind.i64 z], Value.int IntKind.i64 256] [] (fun v K => v = Value.int IntKind.i64 2 ∧ K = []) := by
 refine hi_in 28 ([(0, .agg #[iV x, iV y, iV z]), (1, iV 256)] : Fr) Try.func52 (by kernel_rfl) Try.ntmps52 rfl rfl ?_
 intro g w0 R h0
 refine ySq ?_
 refine yPl [0, 1] ?_
 refine yA ?_
 refine yNp 2 103 [iV x, iV y, iV z] h0 fun r1 w2 h3 => ?_
 refine yB0 [] [1] [(4, iV 0)] (.mk ?_)
 refine yK [(1, iV 256), (2, pV r1)] fun lr4 => ?_
 refine ySq ?_
 refine ySq ?_
 refine yPl [0, 1, 2, 3, 4, 5, 6, 7, 8, 9, 10, 11, 12, 13, 14, 15, 16, 17, 18] ?_
 refine plain_law (i := 0) 5 (pV r1) (by kernel_rfl) (law_indexArr (o := opA (RA Try.f52 [1, 0, 0]) 0) (x := (Operand.tmp 2)) (i := (Operand.const (iV 0))) (b := r1) (off := 0) (z := 0) (by kernel_rfl) Try.underlying103 1 (by kernel_rfl) 0 (by kernel_rfl) (by kernel_rfl) (by omega) (by omega) 0 (by omega) _) ?_
 refine yBb [2, 3, 4, 5, 6, 7, 8, 9, 10, 11, 12, 13, 14, 15, 16, 17, 18] [(6, iV x)] [e2 1 [iV x]] [(1, ⟨r1, 0, none⟩, iV x)] [] trivial (kC (sat_cell h3 0 rfl rfl) nC) ?_
 by_cases c5 : x < 1
 ·
  refine yBb [] [(23, .bool true), (22, undef), (21, undef), (20, undef), (19, undef), (18, .bool true), (17, .bool true), (16, undef), (15, undef), (14, undef), (13, .bool true), (12, .bool true), (11, undef), (10, undef), (9, undef), (8, .bool true), (7, .bool true)] [e1 2 (.bool true), e0 3, e0 4, e0 5, e0 6, e0 7, e0 8, e0 9, e0 10, e0 11, e0 12, e0 13, e0 14, e0 15, e0 16, e0 17, e0 18] [] [(.bool (decide (x < 1)), .bool true)] ⟨(ov_t (by omega)), trivial⟩ nC (.mk ?_)
  refine yK [(2, pV r1), (23, .bool true)] fun lr6 => ?_
  refine yCt ?_
  refine ySq ?_
  refine yPl [0] ?_
  refine yB0 [] [0] [(4, iV 2)] (.mk ?_)
  refine yK [(4, iV 2)] fun lr7 => ?_
  refine yRt ?_
  repeat (first | simp only [Exit.inBlock] | simp only [Exit.then])
  have h8 := tk1 (sf1 h3)
  refine hi_out [] (iV 2) [] (by kernel_rfl) (by intro q hq; cases hq) ?_
  exact ⟨iV 2, [], rfl, ⟨rfl, rfl⟩, h8⟩
 ·
  refine yBb [4, 5, 6, 7, 8, 9, 10, 11, 12, 13, 14, 15, 16, 17, 18] [(8, .bool false), (7, .bool false)] [e1 2 (.bool false), e0 3] [] [(.bool (decide (x < 1)), .bool false)] ⟨(ov_f (by omega)), trivial⟩ nC ?_
  refine plain_law (i := 4) 9 (pV r1) (by kernel_rfl) (law_indexArr (o := opA (RA Try.f52 [1, 0, 0]) 4) (x := (Operand.tmp 2)) (i := (Operand.const (iV 0))) (b := r1) (off := 0) (z := 0) (by kernel_rfl) Try.underlying103 1 (by kernel_rfl) 0 (by kernel_rfl) (by kernel_rfl) (by omega) (by omega) 0 (by omega) _) ?_
  refine yBb [6, 7, 8, 9, 10, 11, 12, 13, 14, 15, 16, 17, 18] [(10, iV x)] [e2 5 [iV x]] [(5, ⟨r1, 0, none⟩, iV x)] [] trivial (kC (sat_cell h3 0 rfl rfl) nC) ?_
  by_cases c9 : x > 3
  ·
   refine yBb [] [(23, .bool true), (22, undef), (21, undef), (20, undef), (19, undef), (18, .bool true), (17, .bool true), (16, undef), (15, undef), (14, undef), (13, .bool true), (12, .bool true), (11, .bool true)] [e1 6 (.bool true), e0 7, e0 8, e0 9, e0 10, e0 11, e0 12, e0 13, e0 14, e0 15, e0 16, e0 17, e0 18] [] [(.bool (decide (x > 3)), .bool true)] ⟨(ov_t (by omega)), trivial⟩ nC (.mk ?_)
   refine yK [(2, pV r1), (23, .bool true)] fun lr10 => ?_
   refine yCt ?_
   refine ySq ?_
   refine yPl [0] ?_
   refine yB0 [] [0] [(4, iV 2)] (.mk ?_)
   refine yK [(4, iV 2)] fun lr11 => ?_
   refine yRt ?_
   repeat (first | simp only [Exit.inBlock] | simp only [Exit.then])
   have h12 := tk1 (sf1 h3)
   refine hi_out [] (iV 2) [] (by kernel_rfl) (by intro q hq; cases hq) ?_
   exact ⟨iV 2, [], rfl, ⟨rfl, rfl⟩, h12⟩
  ·
   refine yBb [9, 10, 11, 12, 13, 14, 15, 16, 17, 18] [(13, .bool false), (12, .bool false), (11, .bool false)] [e1 6 (.bool false), e0 7, e0 8] [] [(.bool (decide (x > 3)), .bool false)] ⟨(ov_f (by omega)), trivial⟩ nC ?_
   refine plain_law (i := 9) 14 (.pointer (some ⟨r1, 1, none⟩)) (by kernel_rfl) (law_indexArr (o := opA (RA Try.f52 [1, 0, 0]) 9) (x := (Operand.tmp 2)) (i := (Operand.const (iV 1))) (b := r1) (off := 0) (z := 1) (by kernel_rfl) Try.underlying103 1 (by kernel_rfl) 1 (by kernel_rfl) (by kernel_rfl) (by omega) (by omega) 1 (by omega) _) ?_
   refine yBb [11, 12, 13, 14, 15, 16, 17, 18] [(15, iV y)] [e2 10 [iV y]] [(10, ⟨r1, 1, none⟩, iV y)] [] trivial (kC (sat_cell h3 0 rfl rfl) nC) ?_
   by_cases c13 : y < 0
   ·
    refine yBb [] [(23, .bool true), (22, undef), (21, undef), (20, undef), (19, undef), (18, .bool true), (17, .bool true), (16, .bool true)] [e1 11 (.bool true), e0 12, e0 13, e0 14, e0 15, e0 16, e0 17, e0 18] [] [(.bool (decide (y < 0)), .bool true)] ⟨(ov_t (by omega)), trivial⟩ nC (.mk ?_)
    refine yK [(2, pV r1), (23, .bool true)] fun lr14 => ?_
    refine yCt ?_
    refine ySq ?_
    refine yPl [0] ?_
    refine yB0 [] [0] [(4, iV 2)] (.mk ?_)
    refine yK [(4, iV 2)] fun lr15 => ?_
    refine yRt ?_
    repeat (first | simp only [Exit.inBlock] | simp only [Exit.then])
    have h16 := tk1 (sf1 h3)
    refine hi_out [] (iV 2) [] (by kernel_rfl) (by intro q hq; cases hq) ?_
    exact ⟨iV 2, [], rfl, ⟨rfl, rfl⟩, h16⟩
   ·
    refine yBb [14, 15, 16, 17, 18] [(18, .bool false), (17, .bool false), (16, .bool false)] [e1 11 (.bool false), e0 12, e0 13] [] [(.bool (decide (y < 0)), .bool false)] ⟨(ov_f (by omega)), trivial⟩ nC ?_
    refine plain_law (i := 14) 19 (.pointer (some ⟨r1, 1, none⟩)) (by kernel_rfl) (law_indexArr (o := opA (RA Try.f52 [1, 0, 0]) 14) (x := (Operand.tmp 2)) (i := (Operand.const (iV 1))) (b := r1) (off := 0) (z := 1) (by kernel_rfl) Try.underlying103 1 (by kernel_rfl) 1 (by kernel_rfl) (by kernel_rfl) (by omega) (by omega) 1 (by omega) _) ?_
    refine yBb [17, 18] [(21, iV 256), (20, iV y)] [e2 15 [iV y], e0 16] [(15, ⟨r1, 1, none⟩, iV y)] [] trivial (kC (sat_cell h3 0 rfl rfl) nC) ?_
    by_cases c17 : y ≥ 256
    ·
     refine yBb [] [(23, .bool true), (22, .bool true)] [e1 17 (.bool true), e0 18] [] [(.bool (decide (y ≥ 256)), .bool true)] ⟨(ov_t (by omega)), trivial⟩ nC (.mk ?_)
     refine yK [(2, pV r1), (23, .bool true)] fun lr18 => ?_
     refine yCt ?_
     refine ySq ?_
     refine yPl [0] ?_
     refine yB0 [] [0] [(4, iV 2)] (.mk ?_)
     refine yK [(4, iV 2)] fun lr19 => ?_
     refine yRt ?_
     repeat (first | simp only [Exit.inBlock] | simp only [Exit.then])
     have h20 := tk1 (sf1 h3)
     refine hi_out [] (iV 2) [] (by kernel_rfl) (by intro q hq; cases hq) ?_
     exact ⟨iV 2, [], rfl, ⟨rfl, rfl⟩, h20⟩
    ·
     refine yBb [] [(23, .bool false), (22, .bool false)] [e1 17 (.bool false), e0 18] [] [(.bool (decide (y ≥ 256)), .bool false)] ⟨(ov_f (by omega)), trivial⟩ nC (.mk ?_)
     refine yK [(2, pV r1), (23, .bool false)] fun lr21 => ?_
     refine yCf ?_
     refine ySk ?_
     refine ySq ?_
     refine yPl [0, 1, 2, 3, 4] ?_
     refine plain_law (i := 0) 24 (.pointer (some ⟨r1, 2, none⟩)) (by kernel_rfl) (law_indexArr (o := opA (RA Try.f52 [1, 1, 0]) 0) (x := (Operand.tmp 2)) (i := (Operand.const (iV 2))) (b := r1) (off := 0) (z := 2) (by kernel_rfl) Try.underlying103 1 (by kernel_rfl) 2 (by kernel_rfl) (by kernel_rfl) (by omega) (by omega) 2 (by omega) _) ?_
     refine yBb [3, 4] [(26, uV z), (25, iV z)] [e2 1 [iV z], e1 2 (uV z)] [(1, ⟨r1, 2, none⟩, iV z)] [(uV (IntKind.wrap .u32 z), uV z)] ⟨(ov_u32 rfl (by omega) (by omega)), trivial⟩ (kC (sat_cell h3 0 rfl rfl) nC) ?_
     refine yA ?_
     refine yCl 27 Try.call55 (gcheck_no z (by omega)) h3 ?_
     rintro v K w22 (⟨rfl, rfl⟩) h23
     refine ⟨_, rfl, ?_⟩
     have h24 := ap0 h23
     refine yB0 [] [4] [(4, iV 2)] (.mk ?_)
     refine yK [(4, iV 2)] fun lr25 => ?_
     refine yRt ?_
     repeat (first | simp only [Exit.inBlock] | simp only [Exit.then])
     have h26 := tk1 (sf1 h24)
     refine hi_out [] (iV 2) [] (by kernel_rfl) (by intro q hq; cases hq) ?_
     exact ⟨iV 2, [], rfl, ⟨rfl, rfl⟩, h26⟩

set_option maxHeartbeats 4000000 in
theorem cdesc_ok (x y z : Int) (hz0 : 0 ≤ z) (hz1 : z ≤ 4294967295) (ho : 1 ≤ x ∧ x ≤ 3 ∧ 0 ≤ y ∧ y ≤ 255 ∧ 1 ≤ z) : HT Try.prog 27 [Value.agg #[Value.int IntKind.i64 x, Value.int IntKind.i64 y, Value.int IntKind.u32 z]] [] (fun v K => v = Value.int IntKind.i64 0 ∧ K = []) := by
 refine hi_in 6 ([(0, .agg #[iV x, iV y, uV z])] : Fr) Try.func27 (by kernel_rfl) Try.ntmps27 rfl rfl ?_
 intro g w0 R h0
 refine ySq ?_
 refine yPl [0, 1] ?_
 refine yA ?_
 refine yNp 1 28 [iV x, iV y, uV z] h0 fun r1 w2 h3 => ?_
 refine yB0 [] [1] [(2, iV 0)] (.mk ?_)
 refine yK [(1, pV r1)] fun lr4 => ?_
 refine ySq ?_
 refine yPl [0, 1, 2, 3] ?_
 refine yBb [1, 2, 3] [(3, .agg #[iV x, iV y, uV z])] [e2 0 [iV x, iV y, uV z]] [(0, ⟨r1, 0, none⟩, iV x), (0, ⟨r1, 1, none⟩, iV y), (0, ⟨r1, 2, none⟩, uV z)] [] trivial (kC (sat_cell h3 0 rfl rfl) (kC (sat_cell h3 0 rfl rfl) (kC (sat_cell h3 0 rfl rfl) nC))) ?_
 refine yA ?_
 refine yCl 4 Try.call51 (ofdesc_ht x y z (by omega) (by omega)) h3 ?_
 rintro v K w5 (⟨rfl, rfl⟩) h6
 refine ⟨_, rfl, ?_⟩
 have h7 := ap0 h6
 refine yA ?_
 refine yCl 5 Try.call52 (dcheckd_ok x y z (by omega) (by omega) (by omega)) h7 ?_
 rintro v K w8 (⟨rfl, rfl⟩) h9
 refine ⟨_, rfl, ?_⟩
 have h10 := ap0 h9
 refine yB0 [] [3] [(2, iV 0)] (.mk ?_)
 refine yK [(2, iV 0)] fun lr11 => ?_
 refine yRt ?_
 repeat (first | simp only [Exit.inBlock] | simp only [Exit.then])
 have h12 := tk1 (sf1 h10)
 refine hi_out [] (iV 0) [] (by kernel_rfl) (by intro q hq; cases hq) ?_
 exact ⟨iV 0, [], rfl, ⟨rfl, rfl⟩, h12⟩

set_option maxHeartbeats 4000000 in
theorem cdesc_no (x y z : Int) (hz0 : 0 ≤ z) (hz1 : z ≤ 4294967295) (ho : ¬ (1 ≤ x ∧ x ≤ 3 ∧ 0 ≤ y ∧ y ≤ 255 ∧ 1 ≤ z)) : HT Try.prog 27 [Value.agg #[Value.int IntKind.i64 x, Value.int IntKind.i64 y, Value.int IntKind.u32 z]] [] (fun v K => v = Value.int IntKind.i64 2 ∧ K = []) := by
 refine hi_in 6 ([(0, .agg #[iV x, iV y, uV z])] : Fr) Try.func27 (by kernel_rfl) Try.ntmps27 rfl rfl ?_
 intro g w0 R h0
 refine ySq ?_
 refine yPl [0, 1] ?_
 refine yA ?_
 refine yNp 1 28 [iV x, iV y, uV z] h0 fun r1 w2 h3 => ?_
 refine yB0 [] [1] [(2, iV 0)] (.mk ?_)
 refine yK [(1, pV r1)] fun lr4 => ?_
 refine ySq ?_
 refine yPl [0, 1, 2, 3] ?_
 refine yBb [1, 2, 3] [(3, .agg #[iV x, iV y, uV z])] [e2 0 [iV x, iV y, uV z]] [(0, ⟨r1, 0, none⟩, iV x), (0, ⟨r1, 1, none⟩, iV y), (0, ⟨r1, 2, none⟩, uV z)] [] trivial (kC (sat_cell h3 0 rfl rfl) (kC (sat_cell h3 0 rfl rfl) (kC (sat_cell h3 0 rfl rfl) nC))) ?_
 refine yA ?_
 refine yCl 4 Try.call51 (ofdesc_ht x y z (by omega) (by omega)) h3 ?_
 rintro v K w5 (⟨rfl, rfl⟩) h6
 refine ⟨_, rfl, ?_⟩
 have h7 := ap0 h6
 by_cases c8 : 1 ≤ x
 ·
  by_cases c9 : x ≤ 3
  ·
   by_cases c10 : 0 ≤ y
   ·
    by_cases c11 : y ≤ 255
    ·
     refine yA ?_
     refine yCl 5 Try.call52 (dcheckd_no x y z (by omega) (by omega) (by omega)) h7 ?_
     rintro v K w12 (⟨rfl, rfl⟩) h13
     refine ⟨_, rfl, ?_⟩
     have h14 := ap0 h13
     refine yB0 [] [3] [(2, iV 2)] (.mk ?_)
     refine yK [(2, iV 2)] fun lr15 => ?_
     refine yRt ?_
     repeat (first | simp only [Exit.inBlock] | simp only [Exit.then])
     have h16 := tk1 (sf1 h14)
     refine hi_out [] (iV 2) [] (by kernel_rfl) (by intro q hq; cases hq) ?_
     exact ⟨iV 2, [], rfl, ⟨rfl, rfl⟩, h16⟩
    ·
     refine yA ?_
     refine yCl 5 Try.call52 (dcheckd_no x y z (by omega) (by omega) (by omega)) h7 ?_
     rintro v K w17 (⟨rfl, rfl⟩) h18
     refine ⟨_, rfl, ?_⟩
     have h19 := ap0 h18
     refine yB0 [] [3] [(2, iV 2)] (.mk ?_)
     refine yK [(2, iV 2)] fun lr20 => ?_
     refine yRt ?_
     repeat (first | simp only [Exit.inBlock] | simp only [Exit.then])
     have h21 := tk1 (sf1 h19)
     refine hi_out [] (iV 2) [] (by kernel_rfl) (by intro q hq; cases hq) ?_
     exact ⟨iV 2, [], rfl, ⟨rfl, rfl⟩, h21⟩
   ·
    refine yA ?_
    refine yCl 5 Try.call52 (dcheckd_no x y z (by omega) (by omega) (by omega)) h7 ?_
    rintro v K w22 (⟨rfl, rfl⟩) h23
    refine ⟨_, rfl, ?_⟩
    have h24 := ap0 h23
    refine yB0 [] [3] [(2, iV 2)] (.mk ?_)
    refine yK [(2, iV 2)] fun lr25 => ?_
    refine yRt ?_
    repeat (first | simp only [Exit.inBlock] | simp only [Exit.then])
    have h26 := tk1 (sf1 h24)
    refine hi_out [] (iV 2) [] (by kernel_rfl) (by intro q hq; cases hq) ?_
    exact ⟨iV 2, [], rfl, ⟨rfl, rfl⟩, h26⟩
  ·
   refine yA ?_
   refine yCl 5 Try.call52 (dcheckd_no x y z (by omega) (by omega) (by omega)) h7 ?_
   rintro v K w27 (⟨rfl, rfl⟩) h28
   refine ⟨_, rfl, ?_⟩
   have h29 := ap0 h28
   refine yB0 [] [3] [(2, iV 2)] (.mk ?_)
   refine yK [(2, iV 2)] fun lr30 => ?_
   refine yRt ?_
   repeat (first | simp only [Exit.inBlock] | simp only [Exit.then])
   have h31 := tk1 (sf1 h29)
   refine hi_out [] (iV 2) [] (by kernel_rfl) (by intro q hq; cases hq) ?_
   exact ⟨iV 2, [], rfl, ⟨rfl, rfl⟩, h31⟩
 ·
  refine yA ?_
  refine yCl 5 Try.call52 (dcheckd_no x y z (by omega) (by omega) (by omega)) h7 ?_
  rintro v K w32 (⟨rfl, rfl⟩) h33
  refine ⟨_, rfl, ?_⟩
  have h34 := ap0 h33
  refine yB0 [] [3] [(2, iV 2)] (.mk ?_)
  refine yK [(2, iV 2)] fun lr35 => ?_
  refine yRt ?_
  repeat (first | simp only [Exit.inBlock] | simp only [Exit.then])
  have h36 := tk1 (sf1 h34)
  refine hi_out [] (iV 2) [] (by kernel_rfl) (by intro q hq; cases hq) ?_
  exact ⟨iV 2, [], rfl, ⟨rfl, rfl⟩, h36⟩

end Go.Proofs.Ytjjpmehiolejgaa
