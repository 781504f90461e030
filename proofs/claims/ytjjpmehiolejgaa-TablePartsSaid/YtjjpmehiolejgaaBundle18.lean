/- Walks, printed by my generator ../fds/gen1.py. -/
import Derived.Test.YtjjpmehiolejgaaFdsB
import Derived.Test.YtjjpmehiolejgaaSh2
namespace Go.Proofs.Ytjjpmehiolejgaa
set_option maxHeartbeats 4000000 in
theorem gcheck_ok (gn : Int) (hg1 : 1 ≤ gn) (hg : gn ≤ 4294967295) : HT Try.prog 55 [Value.int IntKind.u32 gn] [] (fun v K => v = Value.int IntKind.i64 0 ∧ K = []) := by
 refine hi_in 9 ([(0, uV gn)] : Fr) Try.func55 (by kernel_rfl) Try.ntmps55 rfl rfl ?_
 intro g w0 R h0
 refine ySq ?_
 refine yPl [0] ?_
 refine yB0 [] [0] [(2, iV 0)] (.mk ?_)
 refine yK [(0, uV gn)] fun lr1 => ?_
 refine ySq ?_
 refine ySq ?_
 refine yPl [0, 1, 2, 3, 4, 5] ?_
 refine yBb [] [(8, .bool false), (7, .bool false), (6, uV gn), (5, .bool false), (4, .bool false), (3, uV gn)] [e0 0, e1 1 (.bool false), e0 2, e0 3, e1 4 (.bool false), e0 5] [] [(.bool (decide (gn < 1)), .bool false), (.bool (decide (gn > 4294967295)), .bool false)] ⟨(ov_f (by omega)), (ov_f (by omega)), trivial⟩ nC (.mk ?_)
 refine yK [(8, .bool false)] fun lr2 => ?_
 refine yCf ?_
 refine ySk ?_
 refine ySq ?_
 refine yPl [0] ?_
 refine yB0 [] [0] [(2, iV 0)] (.mk ?_)
 refine yK [(2, iV 0)] fun lr3 => ?_
 refine yRt ?_
 repeat (first | simp only [Exit.inBlock] | simp only [Exit.then])
 refine hi_out [] (iV 0) [] (by kernel_rfl) (by intro q hq; cases hq) ?_
 exact ⟨iV 0, [], rfl, ⟨rfl, rfl⟩, h0⟩

set_option maxHeartbeats 4000000 in
theorem gcheck_no (gn : Int) (hg0 : gn ≤ 0) : HT Try.prog 55 [Value.int IntKind.u32 gn] [] (fun v K => v = Value.int IntKind.i64 2 ∧ K = []) := by
 refine hi_in 9 ([(0, uV gn)] : Fr) Try.func55 (by kernel_rfl) Try.ntmps55 rfl rfl ?_
 intro g w0 R h0
 refine ySq ?_
 refine yPl [0] ?_
 refine yB0 [] [0] [(2, iV 0)] (.mk ?_)
 refine yK [(0, uV gn)] fun lr1 => ?_
 refine ySq ?_
 refine ySq ?_
 refine yPl [0, 1, 2, 3, 4, 5] ?_
 refine yBb [] [(8, .bool true), (7, undef), (6, undef), (5, .bool true), (4, .bool true), (3, uV gn)] [e0 0, e1 1 (.bool true), e0 2, e0 3, e0 4, e0 5] [] [(.bool (decide (gn < 1)), .bool true)] ⟨(ov_t (by omega)), trivial⟩ nC (.mk ?_)
 refine yK [(8, .bool true)] fun lr2 => ?_
 refine yCt ?_
 refine ySq ?_
 refine yPl [0] ?_
 refine yB0 [] [0] [(2, iV 2)] (.mk ?_)
 refine yK [(2, iV 2)] fun lr3 => ?_
 refine yRt ?_
 repeat (first | simp only [Exit.inBlock] | simp only [Exit.then])
 refine hi_out [] (iV 2) [] (by kernel_rfl) (by intro q hq; cases hq) ?_
 exact ⟨iV 2, [], rfl, ⟨rfl, rfl⟩, h0⟩

set_option maxHeartbeats 4000000 in
theorem gleft1_ht (b : Nat) (gn : Int) (hg0 : 0 ≤ gn) (hg : gn ≤ 4294967295) : HT Try.prog 81 [Value.pointer (some ⟨b, 0, none⟩)] [Cl b [Value.int IntKind.u32 gn] 26] (fun v K => v = Value.int IntKind.u32 (-gn + 4294967295) ∧ K = [Cl b [Value.int IntKind.u32 gn] 26]) := by
 refine hi_in 4 ([(0, pV b)] : Fr) Try.func81 (by kernel_rfl) Try.ntmps81 rfl rfl ?_
 intro g w0 R h0
 refine ySq ?_
 refine yPl [0] ?_
 refine yB0 [] [0] [(1, uV 0)] (.mk ?_)
 refine yK [(0, pV b)] fun lr1 => ?_
 refine ySq ?_
 refine yPl [0, 1, 2] ?_
 refine yBb [] [(1, uV (-gn + 4294967295)), (3, uV (-gn + 4294967295)), (2, uV gn)] [e2 0 [uV gn], e1 1 (uV (-gn + 4294967295)), e0 2] [(0, ⟨b, 0, none⟩, uV gn)] [(uV (IntKind.wrap .u32 (4294967295 - gn)), uV (-gn + 4294967295))] ⟨(ov_u32 (by omega) (by omega) (by omega)), trivial⟩ (kC (sat_cell h0 0 rfl rfl) nC) (.mk ?_)
 refine yK [(1, uV (-gn + 4294967295))] fun lr2 => ?_
 refine yRt ?_
 repeat (first | simp only [Exit.inBlock] | simp only [Exit.then])
 refine hi_out [] (uV (-gn + 4294967295)) [] (by kernel_rfl) (by intro q hq; cases hq) ?_
 exact ⟨uV (-gn + 4294967295), [Cl b [uV gn] 26], rfl, ⟨rfl, rfl⟩, h0⟩

set_option maxHeartbeats 4000000 in
theorem of_ok (b r : Nat) (gn : Int) (hg1 : 1 ≤ gn) (hg : gn ≤ 4294967295) : HT Try.prog 80 [Value.func (Fn.func 81) #[] #[Value.pointer (some ⟨b, 0, none⟩)], Value.slice (some ⟨r, 0, none⟩) 1 1] [Cl b [Value.int IntKind.u32 gn] 26, Cl r [Value.int IntKind.u32 gn] 26] (fun v K => v = Value.tuple #[Value.int IntKind.u32 (-gn + 4294967295), Value.int IntKind.i64 0] ∧ K = [Cl b [Value.int IntKind.u32 gn] 26, Cl r [Value.int IntKind.u32 gn] 26]) := by
 refine hi_in 25 ([(0, .func (Fn.func 81) #[] #[pV b]), (1, .slice (some ⟨r, 0, none⟩) 1 1)] : Fr) Try.func80 (by kernel_rfl) Try.ntmps80 rfl rfl ?_
 intro g w0 R h0
 refine ySq ?_
 refine yPl [0, 1] ?_
 refine yB0 [] [0, 1] [(5, iV 0), (4, uV 0)] (.mk ?_)
 refine yK [(0, .func (Fn.func 81) #[] #[pV b]), (1, .slice (some ⟨r, 0, none⟩) 1 1)] fun lr1 => ?_
 refine ySq ?_
 refine yPl [0] ?_
 refine yB0 [] [0] [(6, uV 0)] (.mk ?_)
 refine yK [(0, .func (Fn.func 81) #[] #[pV b]), (1, .slice (some ⟨r, 0, none⟩) 1 1), (6, uV 0)] fun lr2 => ?_
 refine ySq ?_
 refine ySq ?_
 refine yPl [0, 1, 2] ?_
 refine yBb [] [(12, iV 0), (11, iV 1), (10, .slice (some ⟨r, 0, none⟩) 1 1)] [e0 0, e1 1 (iV 1), e0 2] [] [(iV (1 : Int), iV 1)] ⟨(ov_int (by omega)), trivial⟩ nC (.mk ?_)
 refine yK [(0, .func (Fn.func 81) #[] #[pV b]), (6, uV 0), (10, .slice (some ⟨r, 0, none⟩) 1 1), (11, iV 1), (12, iV 0)] fun lr3 => ?_
 refine yBk 0 ?_
 refine gi_unr (x := CA Try.f80 [1, 1, 0, 1, 0, 0]) 2 (by kernel_rfl) ?_
 refine ySq ?_
 refine yPl [0] ?_
 refine yB0 [] [0] [(13, .bool true)] (.mk ?_)
 refine yK [(0, .func (Fn.func 81) #[] #[pV b]), (6, uV 0), (10, .slice (some ⟨r, 0, none⟩) 1 1), (11, iV 1), (12, iV 0), (13, .bool true)] fun lr4 => ?_
 refine ySq ?_
 refine yCt ?_
 refine ySk ?_
 refine ySq ?_
 refine yBk 1 ?_
 refine ySq ?_
 refine yPl [0, 1, 2] ?_
 refine plain_law (i := 0) 14 (pV r) (by kernel_rfl) (law_indexSl (o := opA (RA Try.f80 [1, 1, 0, 1, 0, 0, 1, 1, 0, 0, 0]) 0) (x := (Operand.tmp 10)) (i := (Operand.tmp 12)) (b := r) (off := 0) (z := 0) (len := 1) (cap := 1) (by kernel_rfl) Try.underlying147 1 (by kernel_rfl) 0 (by kernel_rfl) (by kernel_rfl) (by omega) (by omega) 0 (by omega) _) ?_
 refine yBb [] [(8, uV gn), (15, uV gn)] [e2 1 [uV gn], e0 2] [(1, ⟨r, 0, none⟩, uV gn)] [] trivial (kC (sat_cell h0 1 rfl rfl) nC) (.mk ?_)
 refine yK [(0, .func (Fn.func 81) #[] #[pV b]), (6, uV 0), (8, uV gn), (10, .slice (some ⟨r, 0, none⟩) 1 1), (11, iV 1), (12, iV 0)] fun lr5 => ?_
 refine ySq ?_
 refine yPl [0, 1, 2] ?_
 refine yB0 [1, 2] [0] [(16, uV gn)] ?_
 refine yA ?_
 refine yCl 17 Try.call55 (gcheck_ok gn (by omega) (by omega)) h0 ?_
 rintro v K w6 (⟨rfl, rfl⟩) h7
 refine ⟨_, rfl, ?_⟩
 have h8 := ap0 h7
 refine yB0 [] [2] [(9, iV 0)] (.mk ?_)
 refine yK [(0, .func (Fn.func 81) #[] #[pV b]), (6, uV 0), (9, iV 0), (10, .slice (some ⟨r, 0, none⟩) 1 1), (11, iV 1), (12, iV 0)] fun lr9 => ?_
 refine ySq ?_
 refine yPl [0, 1] ?_
 refine yB0 [] [0, 1] [(19, .bool false), (18, iV 0)] (.mk ?_)
 refine yK [(0, .func (Fn.func 81) #[] #[pV b]), (6, uV 0), (9, iV 0), (10, .slice (some ⟨r, 0, none⟩) 1 1), (11, iV 1), (12, iV 0), (19, .bool false)] fun lr10 => ?_
 refine yCf ?_
 refine ySk ?_
 refine yPl [0, 1] ?_
 refine yB0 [] [0, 1] [(12, iV 1), (22, iV 1)] (.mk ?_)
 refine yK [(0, .func (Fn.func 81) #[] #[pV b]), (6, uV 0), (9, iV 0), (10, .slice (some ⟨r, 0, none⟩) 1 1), (11, iV 1), (12, iV 1), (19, .bool false)] fun lr11 => ?_
 refine ySq ?_
 refine yPl [0] ?_
 refine yB0 [] [0] [(13, .bool false)] (.mk ?_)
 refine yK [(0, .func (Fn.func 81) #[] #[pV b]), (6, uV 0), (10, .slice (some ⟨r, 0, none⟩) 1 1), (11, iV 1), (12, iV 1), (13, .bool false)] fun lr12 => ?_
 refine ySq ?_
 refine yCf ?_
 refine yEx 0 ?_
 refine ySq ?_
 refine yPl [0, 1, 2, 3] ?_
 refine yB0 [1, 2, 3] [0] [(23, .func (Fn.func 81) #[] #[pV b])] ?_
 refine yA ?_
 refine yCl 24 Try.call81 (gleft1_ht b gn (by omega) (by omega)) h8 ?_
 rintro v K w13 (⟨rfl, rfl⟩) h14
 refine ⟨_, rfl, ?_⟩
 have h15 := ap1 h14
 refine yB0 [] [2, 3] [(5, iV 0), (4, uV (-gn + 4294967295))] (.mk ?_)
 refine yK [(4, uV (-gn + 4294967295)), (5, iV 0)] fun lr16 => ?_
 refine yRt ?_
 repeat (first | simp only [Exit.inBlock] | simp only [Exit.then])
 refine hi_out [] (.tuple #[uV (-gn + 4294967295), iV 0]) [] (by kernel_rfl) (by intro q hq; cases hq) ?_
 exact ⟨.tuple #[uV (-gn + 4294967295), iV 0], [Cl b [uV gn] 26, Cl r [uV gn] 26], rfl, ⟨rfl, rfl⟩, h15⟩

set_option maxHeartbeats 4000000 in
theorem gleft_ok (gn : Int) (hg1 : 1 ≤ gn) (hg : gn ≤ 4294967295) : HT Try.prog 79 [Value.int IntKind.u32 gn] [] (fun v K => v = Value.tuple #[Value.int IntKind.u32 (-gn + 4294967295), Value.int IntKind.i64 0] ∧ K = []) := by
 refine hi_in 10 ([(0, uV gn)] : Fr) Try.func79 (by kernel_rfl) Try.ntmps79 rfl rfl ?_
 intro g w0 R h0
 refine ySq ?_
 refine yPl [0, 1, 2] ?_
 refine yA ?_
 refine yNp 1 26 [uV gn] h0 fun r1 w2 h3 => ?_
 refine yB0 [] [1, 2] [(3, iV 0), (2, uV 0)] (.mk ?_)
 refine yK [(1, pV r1)] fun lr4 => ?_
 refine ySq ?_
 refine yPl [0, 1, 2, 3, 4, 5, 6, 7] ?_
 refine yBb [2, 3, 4, 5, 6, 7] [(5, uV gn), (4, .func (Fn.func 81) #[] #[pV r1])] [e0 0, e2 1 [uV gn]] [(1, ⟨r1, 0, none⟩, uV gn)] [] trivial (kC (sat_cell h3 0 rfl rfl) nC) ?_
 refine yA ?_
 refine an_new (d := 6) (fun xb_ => .slice (some ⟨xb_, 0, none⟩) 1 1) (fun xb_ => Obj.cells [uV gn].toArray 26 (0, 0)) (fun xb_ => by kernel_rfl) (by kernel_rfl) rfl h3 ?_
 intro r5 w6 (h7 : sat g w6 [Cl r5 [uV gn] 26, Cl r1 [uV gn] 26, R])
 have h8 := tk3 (sf2 (sf1 (sf2 h7)))
 refine yA ?_
 refine yCl 7 Try.call80 (of_ok r1 r5 gn (by omega) (by omega)) h8 ?_
 rintro v K w9 (⟨rfl, rfl⟩) h10
 refine ⟨_, rfl, ?_⟩
 have h11 := ap2 h10
 refine yB0 [] [4, 5, 6, 7] [(3, iV 0), (2, uV (-gn + 4294967295)), (9, iV 0), (8, uV (-gn + 4294967295))] (.mk ?_)
 refine yK [(2, uV (-gn + 4294967295)), (3, iV 0)] fun lr12 => ?_
 refine yRt ?_
 repeat (first | simp only [Exit.inBlock] | simp only [Exit.then])
 have h13 := tk1 (sf2 h11)
 refine hi_out [] (.tuple #[uV (-gn + 4294967295), iV 0]) [] (by kernel_rfl) (by intro q hq; cases hq) ?_
 exact ⟨.tuple #[uV (-gn + 4294967295), iV 0], [], rfl, ⟨rfl, rfl⟩, h13⟩

set_option maxHeartbeats 4000000 in
theorem after_ok (gn : Int) (hg1 : 1 ≤ gn) (hg : gn < 4294967295) : HT Try.prog 77 [Value.int IntKind.u32 gn, Value.int IntKind.u64 1] [] (fun v K => v = Value.tuple #[Value.int IntKind.u32 (gn + 1), Value.bool true, Value.int IntKind.i64 0] ∧ K = []) := by
 refine hi_in 27 ([(0, uV gn), (1, .int .u64 1)] : Fr) Try.func77 (by kernel_rfl) Try.ntmps77 rfl rfl ?_
 intro g w0 R h0
 refine ySq ?_
 refine yPl [0, 1, 2] ?_
 refine yB0 [] [0, 1, 2] [(6, iV 0), (5, .bool false), (4, uV 0)] (.mk ?_)
 refine yK [(0, uV gn), (1, .int .u64 1)] fun lr1 => ?_
 refine ySq ?_
 refine yPl [0, 1, 2, 3, 4, 5, 6] ?_
 refine yB0 [1, 2, 3, 4, 5, 6] [0] [(10, uV gn)] ?_
 refine yA ?_
 refine yCl 11 Try.call79 (gleft_ok gn (by omega) (by omega)) h0 ?_
 rintro v K w2 (⟨rfl, rfl⟩) h3
 refine ⟨_, rfl, ?_⟩
 have h4 := ap0 h3
 refine yB0 [] [2, 3, 4, 5, 6] [(8, iV 0), (7, uV (-gn + 4294967295)), (13, iV 0), (12, uV (-gn + 4294967295)), (9, .tuple #[uV (-gn + 4294967295), iV 0])] (.mk ?_)
 refine yK [(0, uV gn), (1, .int .u64 1), (7, uV (-gn + 4294967295)), (8, iV 0)] fun lr5 => ?_
 refine ySq ?_
 refine ySq ?_
 refine yPl [0, 1, 2, 3, 4, 5, 6, 7] ?_
 refine yBb [] [(21, .bool false), (20, .bool false), (19, .int .u64 (-gn + 4294967295)), (18, uV (-gn + 4294967295)), (17, .int .u64 1), (16, .bool false), (15, .bool false), (14, iV 0)] [e0 0, e0 1, e0 2, e0 3, e0 4, e1 5 (.int .u64 (-gn + 4294967295)), e1 6 (.bool false), e0 7] [] [(.int .u64 (IntKind.wrap .u64 (-gn + 4294967295)), .int .u64 (-gn + 4294967295)), (.bool (decide (1 > -gn + 4294967295)), .bool false)] ⟨(ov_u64 rfl (by omega) (by omega)), (ov_f (by omega)), trivial⟩ nC (.mk ?_)
 refine yK [(0, uV gn), (1, .int .u64 1), (8, iV 0), (21, .bool false)] fun lr6 => ?_
 refine yCf ?_
 refine ySk ?_
 refine ySq ?_
 refine yPl [0, 1, 2, 3, 4, 5, 6] ?_
 refine yBb [] [(6, iV 0), (5, .bool true), (4, uV (gn + 1)), (26, uV (gn + 1)), (25, uV 1), (24, .int .u64 1), (23, uV gn)] [e0 0, e0 1, e1 2 (uV 1), e1 3 (uV (gn + 1)), e0 4, e0 5, e0 6] [] [(uV (IntKind.wrap .u32 1), uV 1), (uV (IntKind.wrap .u32 (gn + 1)), uV (gn + 1))] ⟨(ov_u32 rfl (by omega) (by omega)), (ov_u32 (by omega) (by omega) (by omega)), trivial⟩ nC (.mk ?_)
 refine yK [(4, uV (gn + 1)), (5, .bool true), (6, iV 0)] fun lr7 => ?_
 refine yRt ?_
 repeat (first | simp only [Exit.inBlock] | simp only [Exit.then])
 refine hi_out [] (.tuple #[uV (gn + 1), .bool true, iV 0]) [] (by kernel_rfl) (by intro q hq; cases hq) ?_
 exact ⟨.tuple #[uV (gn + 1), .bool true, iV 0], [], rfl, ⟨rfl, rfl⟩, h4⟩

set_option maxHeartbeats 4000000 in
theorem after_no (gn : Int) (hg : gn = 4294967295) : HT Try.prog 77 [Value.int IntKind.u32 gn, Value.int IntKind.u64 1] [] (fun v K => v = Value.tuple #[Value.int IntKind.u32 0, Value.bool false, Value.int IntKind.i64 0] ∧ K = []) := by
 refine hi_in 27 ([(0, uV gn), (1, .int .u64 1)] : Fr) Try.func77 (by kernel_rfl) Try.ntmps77 rfl rfl ?_
 intro g w0 R h0
 refine ySq ?_
 refine yPl [0, 1, 2] ?_
 refine yB0 [] [0, 1, 2] [(6, iV 0), (5, .bool false), (4, uV 0)] (.mk ?_)
 refine yK [(0, uV gn), (1, .int .u64 1)] fun lr1 => ?_
 refine ySq ?_
 refine yPl [0, 1, 2, 3, 4, 5, 6] ?_
 refine yB0 [1, 2, 3, 4, 5, 6] [0] [(10, uV gn)] ?_
 refine yA ?_
 refine yCl 11 Try.call79 (gleft_ok gn (by omega) (by omega)) h0 ?_
 rintro v K w2 (⟨rfl, rfl⟩) h3
 refine ⟨_, rfl, ?_⟩
 have h4 := ap0 h3
 refine yB0 [] [2, 3, 4, 5, 6] [(8, iV 0), (7, uV (-gn + 4294967295)), (13, iV 0), (12, uV (-gn + 4294967295)), (9, .tuple #[uV (-gn + 4294967295), iV 0])] (.mk ?_)
 refine yK [(0, uV gn), (1, .int .u64 1), (7, uV (-gn + 4294967295)), (8, iV 0)] fun lr5 => ?_
 refine ySq ?_
 refine ySq ?_
 refine yPl [0, 1, 2, 3, 4, 5, 6, 7] ?_
 refine yBb [] [(21, .bool true), (20, .bool true), (19, .int .u64 (-gn + 4294967295)), (18, uV (-gn + 4294967295)), (17, .int .u64 1), (16, .bool false), (15, .bool false), (14, iV 0)] [e0 0, e0 1, e0 2, e0 3, e0 4, e1 5 (.int .u64 (-gn + 4294967295)), e1 6 (.bool true), e0 7] [] [(.int .u64 (IntKind.wrap .u64 (-gn + 4294967295)), .int .u64 (-gn + 4294967295)), (.bool (decide (1 > -gn + 4294967295)), .bool true)] ⟨(ov_u64 rfl (by omega) (by omega)), (ov_t (by omega)), trivial⟩ nC (.mk ?_)
 refine yK [(0, uV gn), (1, .int .u64 1), (8, iV 0), (21, .bool true)] fun lr6 => ?_
 refine yCt ?_
 refine ySq ?_
 refine yPl [0, 1, 2, 3] ?_
 refine yB0 [] [0, 1, 2, 3] [(6, iV 0), (5, .bool false), (4, uV 0), (22, iV 0)] (.mk ?_)
 refine yK [(4, uV 0), (5, .bool false), (6, iV 0)] fun lr7 => ?_
 refine yRt ?_
 repeat (first | simp only [Exit.inBlock] | simp only [Exit.then])
 refine hi_out [] (.tuple #[uV 0, .bool false, iV 0]) [] (by kernel_rfl) (by intro q hq; cases hq) ?_
 exact ⟨.tuple #[uV 0, .bool false, iV 0], [], rfl, ⟨rfl, rfl⟩, h4⟩

set_option maxHeartbeats 4000000 in
theorem next_ok (gn : Int) (hg1 : 1 ≤ gn) (hg : gn < 4294967295) : HT Try.prog 72 [Value.int IntKind.u32 gn] [] (fun v K => v = Value.tuple #[Value.int IntKind.u32 (gn + 1), Value.bool true, Value.int IntKind.i64 0] ∧ K = []) := by
 refine hi_in 10 ([(0, uV gn)] : Fr) Try.func72 (by kernel_rfl) Try.ntmps72 rfl rfl ?_
 intro g w0 R h0
 refine ySq ?_
 refine yPl [0, 1, 2] ?_
 refine yB0 [] [0, 1, 2] [(4, iV 0), (3, .bool false), (2, uV 0)] (.mk ?_)
 refine yK [(0, uV gn)] fun lr1 => ?_
 refine ySq ?_
 refine yPl [0, 1, 2, 3, 4, 5, 6, 7] ?_
 refine yB0 [1, 2, 3, 4, 5, 6, 7] [0] [(5, uV gn)] ?_
 refine yA ?_
 refine yCl 6 Try.call77 (after_ok gn (by omega) (by omega)) h0 ?_
 rintro v K w2 (⟨rfl, rfl⟩) h3
 refine ⟨_, rfl, ?_⟩
 have h4 := ap0 h3
 refine yB0 [] [2, 3, 4, 5, 6, 7] [(4, iV 0), (3, .bool true), (2, uV (gn + 1)), (9, iV 0), (8, .bool true), (7, uV (gn + 1))] (.mk ?_)
 refine yK [(2, uV (gn + 1)), (3, .bool true), (4, iV 0)] fun lr5 => ?_
 refine yRt ?_
 repeat (first | simp only [Exit.inBlock] | simp only [Exit.then])
 refine hi_out [] (.tuple #[uV (gn + 1), .bool true, iV 0]) [] (by kernel_rfl) (by intro q hq; cases hq) ?_
 exact ⟨.tuple #[uV (gn + 1), .bool true, iV 0], [], rfl, ⟨rfl, rfl⟩, h4⟩

set_option maxHeartbeats 4000000 in
theorem next_no (gn : Int) (hg : gn = 4294967295) : HT Try.prog 72 [Value.int IntKind.u32 gn] [] (fun v K => v = Value.tuple #[Value.int IntKind.u32 0, Value.bool false, Value.int IntKind.i64 0] ∧ K = []) := by
 refine hi_in 10 ([(0, uV gn)] : Fr) Try.func72 (by kernel_rfl) Try.ntmps72 rfl rfl ?_
 intro g w0 R h0
 refine ySq ?_
 refine yPl [0, 1, 2] ?_
 refine yB0 [] [0, 1, 2] [(4, iV 0), (3, .bool false), (2, uV 0)] (.mk ?_)
 refine yK [(0, uV gn)] fun lr1 => ?_
 refine ySq ?_
 refine yPl [0, 1, 2, 3, 4, 5, 6, 7] ?_
 refine yB0 [1, 2, 3, 4, 5, 6, 7] [0] [(5, uV gn)] ?_
 refine yA ?_
 refine yCl 6 Try.call77 (after_no gn (by omega)) h0 ?_
 rintro v K w2 (⟨rfl, rfl⟩) h3
 refine ⟨_, rfl, ?_⟩
 have h4 := ap0 h3
 refine yB0 [] [2, 3, 4, 5, 6, 7] [(4, iV 0), (3, .bool false), (2, uV 0), (9, iV 0), (8, .bool false), (7, uV 0)] (.mk ?_)
 refine yK [(2, uV 0), (3, .bool false), (4, iV 0)] fun lr5 => ?_
 refine yRt ?_
 repeat (first | simp only [Exit.inBlock] | simp only [Exit.then])
 refine hi_out [] (.tuple #[uV 0, .bool false, iV 0]) [] (by kernel_rfl) (by intro q hq; cases hq) ?_
 exact ⟨.tuple #[uV 0, .bool false, iV 0], [], rfl, ⟨rfl, rfl⟩, h4⟩

set_option maxHeartbeats 4000000 in
theorem ofouter_ht (x y z : Int) (hz0 : 0 ≤ z) (hz1 : z ≤ 4294967295) : HT Try.prog 74 [Value.agg #[Value.int IntKind.i64 x, Value.int IntKind.i64 y, Value.int IntKind.u32 z]] [] (fun v K => v = Value.agg #[Value.int IntKind.i64 x, Value.int IntKind.i64 y, Value.int IntKind.i64 z] ∧ K = []) := by
 refine hi_in 11 ([(0, .agg #[iV x, iV y, uV z])] : Fr) Try.func74 (by kernel_rfl) Try.ntmps74 rfl rfl ?_
 intro g w0 R h0
 refine ySq ?_
 refine yPl [0, 1] ?_
 refine yA ?_
 refine yNp 1 32 [iV x, iV y, uV z] h0 fun r1 w2 h3 => ?_
 refine yA ?_
 refine yNp 2 103 [iV 0, iV 0, iV 0] h3 fun r4 w5 h6 => ?_
 refine PO.mk ?_
 refine yK [(1, pV r1), (2, pV r4)] fun lr7 => ?_
 refine ySq ?_
 refine yPl [0, 1, 2, 3, 4, 5, 6, 7, 8] ?_
 refine yBb [8] [(10, .agg #[iV x, iV y, iV z]), (9, iV z), (8, uV z), (7, .pointer (some ⟨r1, 2, none⟩)), (6, iV y), (5, .pointer (some ⟨r1, 1, none⟩)), (4, iV x), (3, pV r1)] [e0 0, e2 1 [iV x], e0 2, e2 3 [iV y], e0 4, e2 5 [uV z], e1 6 (iV z), e0 7] [(5, ⟨r1, 2, none⟩, uV z), (3, ⟨r1, 1, none⟩, iV y), (1, ⟨r1, 0, none⟩, iV x)] [(iV (IntKind.wrap .i64 z), iV z)] ⟨(ov_i64 rfl (by omega) (by omega)), trivial⟩ (kC (sat_cell h6 1 rfl rfl) (kC (sat_cell h6 1 rfl rfl) (kC (sat_cell h6 1 rfl rfl) nC))) ?_
 refine yA ?_
 refine yS [(0, iV x), (1, iV y), (2, iV z)] [iV x, iV y, iV z] h6 fun w8 h9 => ?_
 refine PO.mk ?_
 refine yK [(2, pV r4)] fun lr10 => ?_
 refine yRt ?_
 repeat (first | simp only [Exit.inBlock] | simp only [Exit.then])
 have h11 := tk1 (sf2 h9)
 refine hi_out [iV x, iV y, iV z] (.agg #[iV x, iV y, iV z]) [(⟨r4, 0, none⟩, iV x), (⟨r4, 1, none⟩, iV y), (⟨r4, 2, none⟩, iV z)] (by kernel_rfl) (allq ⟨sat_cell h9 0 rfl rfl, sat_cell h9 0 rfl rfl, sat_cell h9 0 rfl rfl, trivial⟩) ?_
 exact ⟨.agg #[iV x, iV y, iV z], [], rfl, ⟨rfl, rfl⟩, h11⟩

set_option maxHeartbeats 4000000 in
theorem ofdesc_ht (x y z : Int) (hz0 : 0 ≤ z) (hz1 : z ≤ 4294967295) : HT Try.prog 51 [Value.agg #[Value.int IntKind.i64 x, Value.int IntKind.i64 y, Value.int IntKind.u32 z]] [] (fun v K => v = Value.agg #[Value.int IntKind.i64 x, Value.int IntKind.i64 y, Value.int IntKind.i64 z] ∧ K = []) := by
 refine hi_in 11 ([(0, .agg #[iV x, iV y, uV z])] : Fr) Try.func51 (by kernel_rfl) Try.ntmps51 rfl rfl ?_
 intro g w0 R h0
 refine ySq ?_
 refine yPl [0, 1] ?_
 refine yA ?_
 refine yNp 1 28 [iV x, iV y, uV z] h0 fun r1 w2 h3 => ?_
 refine yA ?_
 refine yNp 2 103 [iV 0, iV 0, iV 0] h3 fun r4 w5 h6 => ?_
 refine PO.mk ?_
 refine yK [(1, pV r1), (2, pV r4)] fun lr7 => ?_
 refine ySq ?_
 refine yPl [0, 1, 2, 3, 4, 5, 6, 7, 8] ?_
 refine yBb [8] [(10, .agg #[iV x, iV y, iV z]), (9, iV z), (8, uV z), (7, .pointer (some ⟨r1, 2, none⟩)), (6, iV y), (5, .pointer (some ⟨r1, 1, none⟩)), (4, iV x), (3, pV r1)] [e0 0, e2 1 [iV x], e0 2, e2 3 [iV y], e0 4, e2 5 [uV z], e1 6 (iV z), e0 7] [(5, ⟨r1, 2, none⟩, uV z), (3, ⟨r1, 1, none⟩, iV y), (1, ⟨r1, 0, none⟩, iV x)] [(iV (IntKind.wrap .i64 z), iV z)] ⟨(ov_i64 rfl (by omega) (by omega)), trivial⟩ (kC (sat_cell h6 1 rfl rfl) (kC (sat_cell h6 1 rfl rfl) (kC (sat_cell h6 1 rfl rfl) nC))) ?_
 refine yA ?_
 refine yS [(0, iV x), (1, iV y), (2, iV z)] [iV x, iV y, iV z] h6 fun w8 h9 => ?_
 refine PO.mk ?_
 refine yK [(2, pV r4)] fun lr10 => ?_
 refine yRt ?_
 repeat (first | simp only [Exit.inBlock] | simp only [Exit.then])
 have h11 := tk1 (sf2 h9)
 refine hi_out [iV x, iV y, iV z] (.agg #[iV x, iV y, iV z]) [(⟨r4, 0, none⟩, iV x), (⟨r4, 1, none⟩, iV y), (⟨r4, 2, none⟩, iV z)] (by kernel_rfl) (allq ⟨sat_cell h9 0 rfl rfl, sat_cell h9 0 rfl rfl, sat_cell h9 0 rfl rfl, trivial⟩) ?_
 exact ⟨.agg #[iV x, iV y, iV z], [], rfl, ⟨rfl, rfl⟩, h11⟩

set_option maxHeartbeats 4000000 in
theorem dcheck_ok (x y z : Int) (hz0 : 0 ≤ z) (hz1 : z ≤ 4294967295) (ho : 1 ≤ x ∧ x ≤ 3 ∧ 0 ≤ y ∧ y ≤ 63 ∧ 1 ≤ z) : HT Try.prog 52 [Value.agg #[Value.int IntKind.i64 x, Value.int IntKind.i64 y, Value.int IntKind.i64 z], Value.int IntKind.i64 64] [] (fun v K => v = Value.int IntKind.i64 0 ∧ K = []) := by
 refine hi_in 28 ([(0, .agg #[iV x, iV y, iV z]), (1, iV 64)] : Fr) Try.func52 (by kernel_rfl) Try.ntmps52 rfl rfl ?_
 intro g w0 R h0
 refine ySq ?_
 refine yPl [0, 1] ?_
 refine yA ?_
 refine yNp 2 103 [iV x, iV y, iV z] h0 fun r1 w2 h3 => ?_
 refine yB0 [] [1] [(4, iV 0)] (.mk ?_)
 refine yK [(1, iV 64), (2, pV r1)] fun lr4 => ?_
 refine ySq ?_
 refine ySq ?_
 refine yPl [0, 1, 2, 3, 4, 5, 6, 7, 8, 9, 10, 11, 12, 13, 14, 15, 16, 17, 18] ?_
 refine plain_law (i := 0) 5 (pV r1) (by kernel_rfl) (law_indexArr (o := opA (RA Try.f52 [1, 0, 0]) 0) (x := (Operand.tmp 2)) (i := (Operand.const (iV 0))) (b := r1) (off := 0) (z := 0) (by kernel_rfl) Try.underlying103 1 (by kernel_rfl) 0 (by kernel_rfl) (by kernel_rfl) (by omega) (by omega) 0 (by omega) _) ?_
 refine yBb [4, 5, 6, 7, 8, 9, 10, 11, 12, 13, 14, 15, 16, 17, 18] [(8, .bool false), (7, .bool false), (6, iV x)] [e2 1 [iV x], e1 2 (.bool false), e0 3] [(1, ⟨r1, 0, none⟩, iV x)] [(.bool (decide (x < 1)), .bool false)] ⟨(ov_f (by omega)), trivial⟩ (kC (sat_cell h3 0 rfl rfl) nC) ?_
 refine plain_law (i := 4) 9 (pV r1) (by kernel_rfl) (law_indexArr (o := opA (RA Try.f52 [1, 0, 0]) 4) (x := (Operand.tmp 2)) (i := (Operand.const (iV 0))) (b := r1) (off := 0) (z := 0) (by kernel_rfl) Try.underlying103 1 (by kernel_rfl) 0 (by kernel_rfl) (by kernel_rfl) (by omega) (by omega) 0 (by omega) _) ?_
 refine yBb [9, 10, 11, 12, 13, 14, 15, 16, 17, 18] [(13, .bool false), (12, .bool false), (11, .bool false), (10, iV x)] [e2 5 [iV x], e1 6 (.bool false), e0 7, e0 8] [(5, ⟨r1, 0, none⟩, iV x)] [(.bool (decide (x > 3)), .bool false)] ⟨(ov_f (by omega)), trivial⟩ (kC (sat_cell h3 0 rfl rfl) nC) ?_
 refine plain_law (i := 9) 14 (.pointer (some ⟨r1, 1, none⟩)) (by kernel_rfl) (law_indexArr (o := opA (RA Try.f52 [1, 0, 0]) 9) (x := (Operand.tmp 2)) (i := (Operand.const (iV 1))) (b := r1) (off := 0) (z := 1) (by kernel_rfl) Try.underlying103 1 (by kernel_rfl) 1 (by kernel_rfl) (by kernel_rfl) (by omega) (by omega) 1 (by omega) _) ?_
 refine yBb [14, 15, 16, 17, 18] [(18, .bool false), (17, .bool false), (16, .bool false), (15, iV y)] [e2 10 [iV y], e1 11 (.bool false), e0 12, e0 13] [(10, ⟨r1, 1, none⟩, iV y)] [(.bool (decide (y < 0)), .bool false)] ⟨(ov_f (by omega)), trivial⟩ (kC (sat_cell h3 0 rfl rfl) nC) ?_
 refine plain_law (i := 14) 19 (.pointer (some ⟨r1, 1, none⟩)) (by kernel_rfl) (law_indexArr (o := opA (RA Try.f52 [1, 0, 0]) 14) (x := (Operand.tmp 2)) (i := (Operand.const (iV 1))) (b := r1) (off := 0) (z := 1) (by kernel_rfl) Try.underlying103 1 (by kernel_rfl) 1 (by kernel_rfl) (by kernel_rfl) (by omega) (by omega) 1 (by omega) _) ?_
 refine yBb [] [(23, .bool false), (22, .bool false), (21, iV 64), (20, iV y)] [e2 15 [iV y], e0 16, e1 17 (.bool false), e0 18] [(15, ⟨r1, 1, none⟩, iV y)] [(.bool (decide (y ≥ 64)), .bool false)] ⟨(ov_f (by omega)), trivial⟩ (kC (sat_cell h3 0 rfl rfl) nC) (.mk ?_)
 refine yK [(2, pV r1), (23, .bool false)] fun lr5 => ?_
 refine yCf ?_
 refine ySk ?_
 refine ySq ?_
 refine yPl [0, 1, 2, 3, 4] ?_
 refine plain_law (i := 0) 24 (.pointer (some ⟨r1, 2, none⟩)) (by kernel_rfl) (law_indexArr (o := opA (RA Try.f52 [1, 1, 0]) 0) (x := (Operand.tmp 2)) (i := (Operand.const (iV 2))) (b := r1) (off := 0) (z := 2) (by kernel_rfl) Try.underlying103 1 (by kernel_rfl) 2 (by kernel_rfl) (by kernel_rfl) (by omega) (by omega) 2 (by omega) _) ?_
 refine yBb [3, 4] [(26, uV z), (25, iV z)] [e2 1 [iV z], e1 2 (uV z)] [(1, ⟨r1, 2, none⟩, iV z)] [(uV (IntKind.wrap .u32 z), uV z)] ⟨(ov_u32 rfl (by omega) (by omega)), trivial⟩ (kC (sat_cell h3 0 rfl rfl) nC) ?_
 refine yA ?_
 refine yCl 27 Try.call55 (gcheck_ok z (by omega) (by omega)) h3 ?_
 rintro v K w6 (⟨rfl, rfl⟩) h7
 refine ⟨_, rfl, ?_⟩
 have h8 := ap0 h7
 refine yB0 [] [4] [(4, iV 0)] (.mk ?_)
 refine yK [(4, iV 0)] fun lr9 => ?_
 refine yRt ?_
 repeat (first | simp only [Exit.inBlock] | simp only [Exit.then])
 have h10 := tk1 (sf1 h8)
 refine hi_out [] (iV 0) [] (by kernel_rfl) (by intro q hq; cases hq) ?_
 exact ⟨iV 0, [], rfl, ⟨rfl, rfl⟩, h10⟩

set_option maxHeartbeats 4000000 in
theorem dcheck_no (x y z : Int) (hz0 : 0 ≤ z) (hz1 : z ≤ 4294967295) (ho : ¬ (1 ≤ x ∧ x ≤ 3 ∧ 0 ≤ y ∧ y ≤ 63 ∧ 1 ≤ z)) : HT Try.prog 52 [Value.agg #[Value.int IntKind.i64 x, Value.int IntKind.i64 y, Value.int IntKind.i64 z], Value.int IntKind.i64 64] [] (fun v K => v = Value.int IntKind.i64 2 ∧ K = []) := by
 refine hi_in 28 ([(0, .agg #[iV x, iV y, iV z]), (1, iV 64)] : Fr) Try.func52 (by kernel_rfl) Try.ntmps52 rfl rfl ?_
 intro g w0 R h0
 refine ySq ?_
 refine yPl [0, 1] ?_
 refine yA ?_
 refine yNp 2 103 [iV x, iV y, iV z] h0 fun r1 w2 h3 => ?_
 refine yB0 [] [1] [(4, iV 0)] (.mk ?_)
 refine yK [(1, iV 64), (2, pV r1)] fun lr4 => ?_
 refine ySq ?_
 refine ySq ?_
 refine yPl [0, 1, 2, 3, 4, 5, 6, 7, 8, 9, 10, 11, 12, 13, 14, 15, 16, 17, 18] ?_
 refine plain_law (i := 0) 5 (pV r1) (by kernel_rfl) (law_indexArr (o := opA (RA Try.f52 [1, 0, 0]) 0) (x := (Operand.tmp 2)) (i := (Operand.const (iV 0))) (b := r1) (off := 0) (z := 0) (by kernel_rfl) Try.underlying103 1 (by kernel_rfl) 0 (by kernel_rfl) (by kernel_rfl) (by omega) (by omega) 0 (by omega) _) ?_
 refine yBb [2, 3, 4, 5, 6, 7, 8, 9, 10, 11, 12, 13, 14, 15, 16, 17, 18] [(6, iV x)] [e2 1 [iV x]] [(1, ⟨r1, 0, none⟩, iV x)] [] trivial (kC (sat_cell h3 0 rfl rfl) nC) ?_
 by_cases c5 : x < 1
 ·
  refine yBb [] [(23, .bool true), (22, undef), (21, undef), (20, undef), (19, undef), (18, .bool true), (17, .bool true), (16, undef), (15, undef), (14, undef), (13, .bool true), (12, .bool true), (11, undef), (10, undef), (9, undef), (8, .bool true), (7, .bool true)] [e1 2 (.bool true), e0 3, e0 4, e0 5, e0 6, e0 7, e0 8, e0 9, e0 10, e0 11, e0 12, e0 13, e0 14, e0 15, e0 16, e0 17, e0 18] [] [(.bool (decide (x < 1)), .bool true)] ⟨(ov_t (by omega)), trivial⟩ nC (.mk ?_)
  refine yK [(2, pV r1), (23, .bool true)] fun lr6 => ?_
  refine yCt ?_
  refine ySq ?_
  refine yPl [0] ?_
  refine yB0 [] [0] [(4, iV 2)] (.mk ?_)
  refine yK [(4, iV 2)] fun lr7 => ?_
  refine yRt ?_
  repeat (first | simp only [Exit.inBlock] | simp only [Exit.then])
  have h8 := tk1 (sf1 h3)
  refine hi_out [] (iV 2) [] (by kernel_rfl) (by intro q hq; cases hq) ?_
  exact ⟨iV 2, [], rfl, ⟨rfl, rfl⟩, h8⟩
 ·
  refine yBb [4, 5, 6, 7, 8, 9, 10, 11, 12, 13, 14, 15, 16, 17, 18] [(8, .bool false), (7, .bool false)] [e1 2 (.bool false), e0 3] [] [(.bool (decide (x < 1)), .bool false)] ⟨(ov_f (by omega)), trivial⟩ nC ?_
  refine plain_law (i := 4) 9 (pV r1) (by kernel_rfl) (law_indexArr (o := opA (RA Try.f52 [1, 0, 0]) 4) (x := (Operand.tmp 2)) (i := (Operand.const (iV 0))) (b := r1) (off := 0) (z := 0) (by kernel_rfl) Try.underlying103 1 (by kernel_rfl) 0 (by kernel_rfl) (by kernel_rfl) (by omega) (by omega) 0 (by omega) _) ?_
  refine yBb [6, 7, 8, 9, 10, 11, 12, 13, 14, 15, 16, 17, 18] [(10, iV x)] [e2 5 [iV x]] [(5, ⟨r1, 0, none⟩, iV x)] [] trivial (kC (sat_cell h3 0 rfl rfl) nC) ?_
  by_cases c9 : x > 3
  ·
   refine yBb [] [(23, .bool true), (22, undef), (21, undef), (20, undef), (19, undef), (18, .bool true), (17, .bool true), (16, undef), (15, undef), (14, undef), (13, .bool true), (12, .bool true), (11, .bool true)] [e1 6 (.bool true), e0 7, e0 8, e0 9, e0 10, e0 11, e0 12, e0 13, e0 14, e0 15, e0 16, e0 17, e0 18] [] [(.bool (decide (x > 3)), .bool true)] ⟨(ov_t (by omega)), trivial⟩ nC (.mk ?_)
   refine yK [(2, pV r1), (23, .bool true)] fun lr10 => ?_
   refine yCt ?_
   refine ySq ?_
   refine yPl [0] ?_
   refine yB0 [] [0] [(4, iV 2)] (.mk ?_)
   refine yK [(4, iV 2)] fun lr11 => ?_
   refine yRt ?_
   repeat (first | simp only [Exit.inBlock] | simp only [Exit.then])
   have h12 := tk1 (sf1 h3)
   refine hi_out [] (iV 2) [] (by kernel_rfl) (by intro q hq; cases hq) ?_
   exact ⟨iV 2, [], rfl, ⟨rfl, rfl⟩, h12⟩
  ·
   refine yBb [9, 10, 11, 12, 13, 14, 15, 16, 17, 18] [(13, .bool false), (12, .bool false), (11, .bool false)] [e1 6 (.bool false), e0 7, e0 8] [] [(.bool (decide (x > 3)), .bool false)] ⟨(ov_f (by omega)), trivial⟩ nC ?_
   refine plain_law (i := 9) 14 (.pointer (some ⟨r1, 1, none⟩)) (by kernel_rfl) (law_indexArr (o := opA (RA Try.f52 [1, 0, 0]) 9) (x := (Operand.tmp 2)) (i := (Operand.const (iV 1))) (b := r1) (off := 0) (z := 1) (by kernel_rfl) Try.underlying103 1 (by kernel_rfl) 1 (by kernel_rfl) (by kernel_rfl) (by omega) (by omega) 1 (by omega) _) ?_
   refine yBb [11, 12, 13, 14, 15, 16, 17, 18] [(15, iV y)] [e2 10 [iV y]] [(10, ⟨r1, 1, none⟩, iV y)] [] trivial (kC (sat_cell h3 0 rfl rfl) nC) ?_
   by_cases c13 : y < 0
   ·
    refine yBb [] [(23, .bool true), (22, undef), (21, undef), (20, undef), (19, undef), (18, .bool true), (17, .bool true), (16, .bool true)] [e1 11 (.bool true), e0 12, e0 13, e0 14, e0 15, e0 16, e0 17, e0 18] [] [(.bool (decide (y < 0)), .bool true)] ⟨(ov_t (by omega)), trivial⟩ nC (.mk ?_)
    refine yK [(2, pV r1), (23, .bool true)] fun lr14 => ?_
    refine yCt ?_
    refine ySq ?_
    refine yPl [0] ?_
    refine yB0 [] [0] [(4, iV 2)] (.mk ?_)
    refine yK [(4, iV 2)] fun lr15 => ?_
    refine yRt ?_
    repeat (first | simp only [Exit.inBlock] | simp only [Exit.then])
    have h16 := tk1 (sf1 h3)
    refine hi_out [] (iV 2) [] (by kernel_rfl) (by intro q hq; cases hq) ?_
    exact ⟨iV 2, [], rfl, ⟨rfl, rfl⟩, h16⟩
   ·
    refine yBb [14, 15, 16, 17, 18] [(18, .bool false), (17, .bool false), (16, .bool false)] [e1 11 (.bool false), e0 12, e0 13] [] [(.bool (decide (y < 0)), .bool false)] ⟨(ov_f (by omega)), trivial⟩ nC ?_
    refine plain_law (i := 14) 19 (.pointer (some ⟨r1, 1, none⟩)) (by kernel_rfl) (law_indexArr (o := opA (RA Try.f52 [1, 0, 0]) 14) (x := (Operand.tmp 2)) (i := (Operand.const (iV 1))) (b := r1) (off := 0) (z := 1) (by kernel_rfl) Try.underlying103 1 (by kernel_rfl) 1 (by kernel_rfl) (by kernel_rfl) (by omega) (by omega) 1 (by omega) _) ?_
    refine yBb [17, 18] [(21, iV 64), (20, iV y)] [e2 15 [iV y], e0 16] [(15, ⟨r1, 1, none⟩, iV y)] [] trivial (kC (sat_cell h3 0 rfl rfl) nC) ?_
    by_cases c17 : y ≥ 64
    ·
     refine yBb [] [(23, .bool true), (22, .bool true)] [e1 17 (.bool true), e0 18] [] [(.bool (decide (y ≥ 64)), .bool true)] ⟨(ov_t (by omega)), trivial⟩ nC (.mk ?_)
     refine yK [(2, pV r1), (23, .bool true)] fun lr18 => ?_
     refine yCt ?_
     refine ySq ?_
     refine yPl [0] ?_
     refine yB0 [] [0] [(4, iV 2)] (.mk ?_)
     refine yK [(4, iV 2)] fun lr19 => ?_
     refine yRt ?_
     repeat (first | simp only [Exit.inBlock] | simp only [Exit.then])
     have h20 := tk1 (sf1 h3)
     refine hi_out [] (iV 2) [] (by kernel_rfl) (by intro q hq; cases hq) ?_
     exact ⟨iV 2, [], rfl, ⟨rfl, rfl⟩, h20⟩
    ·
     refine yBb [] [(23, .bool false), (22, .bool false)] [e1 17 (.bool false), e0 18] [] [(.bool (decide (y ≥ 64)), .bool false)] ⟨(ov_f (by omega)), trivial⟩ nC (.mk ?_)
     refine yK [(2, pV r1), (23, .bool false)] fun lr21 => ?_
     refine yCf ?_
     refine ySk ?_
     refine ySq ?_
     refine yPl [0, 1, 2, 3, 4] ?_
     refine plain_law (i := 0) 24 (.pointer (some ⟨r1, 2, none⟩)) (by kernel_rfl) (law_indexArr (o := opA (RA Try.f52 [1, 1, 0]) 0) (x := (Operand.tmp 2)) (i := (Operand.const (iV 2))) (b := r1) (off := 0) (z := 2) (by kernel_rfl) Try.underlying103 1 (by kernel_rfl) 2 (by kernel_rfl) (by kernel_rfl) (by omega) (by omega) 2 (by omega) _) ?_
     refine yBb [3, 4] [(26, uV z), (25, iV z)] [e2 1 [iV z], e1 2 (uV z)] [(1, ⟨r1, 2, none⟩, iV z)] [(uV (IntKind.wrap .u32 z), uV z)] ⟨(ov_u32 rfl (by omega) (by omega)), trivial⟩ (kC (sat_cell h3 0 rfl rfl) nC) ?_
     refine yA ?_
     refine yCl 27 Try.call55 (gcheck_no z (by omega)) h3 ?_
     rintro v K w22 (⟨rfl, rfl⟩) h23
     refine ⟨_, rfl, ?_⟩
     have h24 := ap0 h23
     refine yB0 [] [4] [(4, iV 2)] (.mk ?_)
     refine yK [(4, iV 2)] fun lr25 => ?_
     refine yRt ?_
     repeat (first | simp only [Exit.inBlock] | simp only [Exit.then])
     have h26 := tk1 (sf1 h24)
     refine hi_out [] (iV 2) [] (by kernel_rfl) (by intro q hq; cases hq) ?_
     exact ⟨iV 2, [], rfl, ⟨rfl, rfl⟩, h26⟩

set_option maxHeartbeats 4000000 in
theorem couter_ok (x y z : Int) (hz0 : 0 ≤ z) (hz1 : z ≤ 4294967295) (ho : 1 ≤ x ∧ x ≤ 3 ∧ 0 ≤ y ∧ y ≤ 63 ∧ 1 ≤ z) : HT Try.prog 63 [Value.agg #[Value.int IntKind.i64 x, Value.int IntKind.i64 y, Value.int IntKind.u32 z]] [] (fun v K => v = Value.int IntKind.i64 0 ∧ K = []) := by
 refine hi_in 6 ([(0, .agg #[iV x, iV y, uV z])] : Fr) Try.func63 (by kernel_rfl) Try.ntmps63 rfl rfl ?_
 intro g w0 R h0
 refine ySq ?_
 refine yPl [0, 1] ?_
 refine yA ?_
 refine yNp 1 32 [iV x, iV y, uV z] h0 fun r1 w2 h3 => ?_
 refine yB0 [] [1] [(2, iV 0)] (.mk ?_)
 refine yK [(1, pV r1)] fun lr4 => ?_
 refine ySq ?_
 refine yPl [0, 1, 2, 3] ?_
 refine yBb [1, 2, 3] [(3, .agg #[iV x, iV y, uV z])] [e2 0 [iV x, iV y, uV z]] [(0, ⟨r1, 0, none⟩, iV x), (0, ⟨r1, 1, none⟩, iV y), (0, ⟨r1, 2, none⟩, uV z)] [] trivial (kC (sat_cell h3 0 rfl rfl) (kC (sat_cell h3 0 rfl rfl) (kC (sat_cell h3 0 rfl rfl) nC))) ?_
 refine yA ?_
 refine yCl 4 Try.call74 (ofouter_ht x y z (by omega) (by omega)) h3 ?_
 rintro v K w5 (⟨rfl, rfl⟩) h6
 refine ⟨_, rfl, ?_⟩
 have h7 := ap0 h6
 refine yA ?_
 refine yCl 5 Try.call52 (dcheck_ok x y z (by omega) (by omega) (by omega)) h7 ?_
 rintro v K w8 (⟨rfl, rfl⟩) h9
 refine ⟨_, rfl, ?_⟩
 have h10 := ap0 h9
 refine yB0 [] [3] [(2, iV 0)] (.mk ?_)
 refine yK [(2, iV 0)] fun lr11 => ?_
 refine yRt ?_
 repeat (first | simp only [Exit.inBlock] | simp only [Exit.then])
 have h12 := tk1 (sf1 h10)
 refine hi_out [] (iV 0) [] (by kernel_rfl) (by intro q hq; cases hq) ?_
 exact ⟨iV 0, [], rfl, ⟨rfl, rfl⟩, h12⟩

set_option maxHeartbeats 4000000 in
theorem couter_no (x y z : Int) (hz0 : 0 ≤ z) (hz1 : z ≤ 4294967295) (ho : ¬ (1 ≤ x ∧ x ≤ 3 ∧ 0 ≤ y ∧ y ≤ 63 ∧ 1 ≤ z)) : HT Try.prog 63 [Value.agg #[Value.int IntKind.i64 x, Value.int IntKind.i64 y, Value.int IntKind.u32 z]] [] (fun v K => v = Value.int IntKind.i64 2 ∧ K = []) := by
 refine hi_in 6 ([(0, .agg #[iV x, iV y, uV z])] : Fr) Try.func63 (by kernel_rfl) Try.ntmps63 rfl rfl ?_
 intro g w0 R h0
 refine ySq ?_
 refine yPl [0, 1] ?_
 refine yA ?_
 refine yNp 1 32 [iV x, iV y, uV z] h0 fun r1 w2 h3 => ?_
 refine yB0 [] [1] [(2, iV 0)] (.mk ?_)
 refine yK [(1, pV r1)] fun lr4 => ?_
 refine ySq ?_
 refine yPl [0, 1, 2, 3] ?_
 refine yBb [1, 2, 3] [(3, .agg #[iV x, iV y, uV z])] [e2 0 [iV x, iV y, uV z]] [(0, ⟨r1, 0, none⟩, iV x), (0, ⟨r1, 1, none⟩, iV y), (0, ⟨r1, 2, none⟩, uV z)] [] trivial (kC (sat_cell h3 0 rfl rfl) (kC (sat_cell h3 0 rfl rfl) (kC (sat_cell h3 0 rfl rfl) nC))) ?_
 refine yA ?_
 refine yCl 4 Try.call74 (ofouter_ht x y z (by omega) (by omega)) h3 ?_
 rintro v K w5 (⟨rfl, rfl⟩) h6
 refine ⟨_, rfl, ?_⟩
 have h7 := ap0 h6
 by_cases c8 : 1 ≤ x
 ·
  by_cases c9 : x ≤ 3
  ·
   by_cases c10 : 0 ≤ y
   ·
    by_cases c11 : y ≤ 63
    ·
     refine yA ?_
     refine yCl 5 Try.call52 (dcheck_no x y z (by omega) (by omega) (by omega)) h7 ?_
     rintro v K w12 (⟨rfl, rfl⟩) h13
     refine ⟨_, rfl, ?_⟩
     have h14 := ap0 h13
     refine yB0 [] [3] [(2, iV 2)] (.mk ?_)
     refine yK [(2, iV 2)] fun lr15 => ?_
     refine yRt ?_
     repeat (first | simp only [Exit.inBlock] | simp only [Exit.then])
     have h16 := tk1 (sf1 h14)
     refine hi_out [] (iV 2) [] (by kernel_rfl) (by intro q hq; cases hq) ?_
     exact ⟨iV 2, [], rfl, ⟨rfl, rfl⟩, h16⟩
    ·
     refine yA ?_
     refine yCl 5 Try.call52 (dcheck_no x y z (by omega) (by omega) (by omega)) h7 ?_
     rintro v K w17 (⟨rfl, rfl⟩) h18
     refine ⟨_, rfl, ?_⟩
     have h19 := ap0 h18
     refine yB0 [] [3] [(2, iV 2)] (.mk ?_)
     refine yK [(2, iV 2)] fun lr20 => ?_
     refine yRt ?_
     repeat (first | simp only [Exit.inBlock] | simp only [Exit.then])
     have h21 := tk1 (sf1 h19)
     refine hi_out [] (iV 2) [] (by kernel_rfl) (by intro q hq; cases hq) ?_
     exact ⟨iV 2, [], rfl, ⟨rfl, rfl⟩, h21⟩
   ·
    refine yA ?_
    refine yCl 5 Try.call52 (dcheck_no x y z (by omega) (by omega) (by omega)) h7 ?_
    rintro v K w22 (⟨rfl, rfl⟩) h23
    refine ⟨_, rfl, ?_⟩
    have h24 := ap0 h23
    refine yB0 [] [3] [(2, iV 2)] (.mk ?_)
    refine yK [(2, iV 2)] fun lr25 => ?_
    refine yRt ?_
    repeat (first | simp only [Exit.inBlock] | simp only [Exit.then])
    have h26 := tk1 (sf1 h24)
    refine hi_out [] (iV 2) [] (by kernel_rfl) (by intro q hq; cases hq) ?_
    exact ⟨iV 2, [], rfl, ⟨rfl, rfl⟩, h26⟩
  ·
   refine yA ?_
   refine yCl 5 Try.call52 (dcheck_no x y z (by omega) (by omega) (by omega)) h7 ?_
   rintro v K w27 (⟨rfl, rfl⟩) h28
   refine ⟨_, rfl, ?_⟩
   have h29 := ap0 h28
   refine yB0 [] [3] [(2, iV 2)] (.mk ?_)
   refine yK [(2, iV 2)] fun lr30 => ?_
   refine yRt ?_
   repeat (first | simp only [Exit.inBlock] | simp only [Exit.then])
   have h31 := tk1 (sf1 h29)
   refine hi_out [] (iV 2) [] (by kernel_rfl) (by intro q hq; cases hq) ?_
   exact ⟨iV 2, [], rfl, ⟨rfl, rfl⟩, h31⟩
 ·
  refine yA ?_
  refine yCl 5 Try.call52 (dcheck_no x y z (by omega) (by omega) (by omega)) h7 ?_
  rintro v K w32 (⟨rfl, rfl⟩) h33
  refine ⟨_, rfl, ?_⟩
  have h34 := ap0 h33
  refine yB0 [] [3] [(2, iV 2)] (.mk ?_)
  refine yK [(2, iV 2)] fun lr35 => ?_
  refine yRt ?_
  repeat (first | simp only [Exit.inBlock] | simp only [Exit.then])
  have h36 := tk1 (sf1 h34)
  refine hi_out [] (iV 2) [] (by kernel_rfl) (by intro q hq; cases hq) ?_
  exact ⟨iV 2, [], rfl, ⟨rfl, rfl⟩, h36⟩

set_option maxHeartbeats 4000000 in
theorem dcheckd_ok (x y z : Int) (hz0 : 0 ≤ z) (hz1 : z ≤ 4294967295) (ho : 1 ≤ x ∧ x ≤ 3 ∧ 0 ≤ y ∧ y ≤ 255 ∧ 1 ≤ z) : HT Try.prog 52 [Value.agg #[Value.int IntKind.i64 x, Value.int IntKind.i64 y, Value.int IntKind.i64 z], Value.int IntKind.i64 256] [] (fun v K => v = Value.int IntKind.i64 0 ∧ K = []) := by
 refine hi_in 28 ([(0, .agg #[iV x, iV y, iV z]), (1, iV 256)] : Fr) Try.func52 (by kernel_rfl) Try.ntmps52 rfl rfl ?_
 intro g w0 R h0
 refine ySq ?_
 refine yPl [0, 1] ?_
 refine yA ?_
 refine yNp 2 103 [iV x, iV y, iV z] h0 fun r1 w2 h3 => ?_
 refine yB0 [] [1] [(4, iV 0)] (.mk ?_)
 refine yK [(1, iV 256), (2, pV r1)] fun lr4 => ?_
 refine ySq ?_
 refine ySq ?_
 refine yPl [0, 1, 2, 3, 4, 5, 6, 7, 8, 9, 10, 11, 12, 13, 14, 15, 16, 17, 18] ?_
 refine plain_law (i := 0) 5 (pV r1) (by kernel_rfl) (law_indexArr (o := opA (RA Try.f52 [1, 0, 0]) 0) (x := (Operand.tmp 2)) (i := (Operand.const (iV 0))) (b := r1) (off := 0) (z := 0) (by kernel_rfl) Try.underlying103 1 (by kernel_rfl) 0 (by kernel_rfl) (by kernel_rfl) (by omega) (by omega) 0 (by omega) _) ?_
 refine yBb [4, 5, 6, 7, 8, 9, 10, 11, 12, 13, 14, 15, 16, 17, 18] [(8, .bool false), (7, .bool false), (6, iV x)] [e2 1 [iV x], e1 2 (.bool false), e0 3] [(1, ⟨r1, 0, none⟩, iV x)] [(.bool (decide (x < 1)), .bool false)] ⟨(ov_f (by omega)), trivial⟩ (kC (sat_cell h3 0 rfl rfl) nC) ?_
 refine plain_law (i := 4) 9 (pV r1) (by kernel_rfl) (law_indexArr (o := opA (RA Try.f52 [1, 0, 0]) 4) (x := (Operand.tmp 2)) (i := (Operand.const (iV 0))) (b := r1) (off := 0) (z := 0) (by kernel_rfl) Try.underlying103 1 (by kernel_rfl) 0 (by kernel_rfl) (by kernel_rfl) (by omega) (by omega) 0 (by omega) _) ?_
 refine yBb [9, 10, 11, 12, 13, 14, 15, 16, 17, 18] [(13, .bool false), (12, .bool false), (11, .bool false), (10, iV x)] [e2 5 [iV x], e1 6 (.bool false), e0 7, e0 8] [(5, ⟨r1, 0, none⟩, iV x)] [(.bool (decide (x > 3)), .bool false)] ⟨(ov_f (by omega)), trivial⟩ (kC (sat_cell h3 0 rfl rfl) nC) ?_
 refine plain_law (i := 9) 14 (.pointer (some ⟨r1, 1, none⟩)) (by kernel_rfl) (law_indexArr (o := opA (RA Try.f52 [1, 0, 0]) 9) (x := (Operand.tmp 2)) (i := (Operand.const (iV 1))) (b := r1) (off := 0) (z := 1) (by kernel_rfl) Try.underlying103 1 (by kernel_rfl) 1 (by kernel_rfl) (by kernel_rfl) (by omega) (by omega) 1 (by omega) _) ?_
 refine yBb [14, 15, 16, 17, 18] [(18, .bool false), (17, .bool false), (16, .bool false), (15, iV y)] [e2 10 [iV y], e1 11 (.bool false), e0 12, e0 13] [(10, ⟨r1, 1, none⟩, iV y)] [(.bool (decide (y < 0)), .bool false)] ⟨(ov_f (by omega)), trivial⟩ (kC (sat_cell h3 0 rfl rfl) nC) ?_
 refine plain_law (i := 14) 19 (.pointer (some ⟨r1, 1, none⟩)) (by kernel_rfl) (law_indexArr (o := opA (RA Try.f52 [1, 0, 0]) 14) (x := (Operand.tmp 2)) (i := (Operand.const (iV 1))) (b := r1) (off := 0) (z := 1) (by kernel_rfl) Try.underlying103 1 (by kernel_rfl) 1 (by kernel_rfl) (by kernel_rfl) (by omega) (by omega) 1 (by omega) _) ?_
 refine yBb [] [(23, .bool false), (22, .bool false), (21, iV 256), (20, iV y)] [e2 15 [iV y], e0 16, e1 17 (.bool false), e0 18] [(15, ⟨r1, 1, none⟩, iV y)] [(.bool (decide (y ≥ 256)), .bool false)] ⟨(ov_f (by omega)), trivial⟩ (kC (sat_cell h3 0 rfl rfl) nC) (.mk ?_)
 refine yK [(2, pV r1), (23, .bool false)] fun lr5 => ?_
 refine yCf ?_
 refine ySk ?_
 refine ySq ?_
 refine yPl [0, 1, 2, 3, 4] ?_
 refine plain_law (i := 0) 24 (.pointer (some ⟨r1, 2, none⟩)) (by kernel_rfl) (law_indexArr (o := opA (RA Try.f52 [1, 1, 0]) 0) (x := (Operand.tmp 2)) (i := (Operand.const (iV 2))) (b := r1) (off := 0) (z := 2) (by kernel_rfl) Try.underlying103 1 (by kernel_rfl) 2 (by kernel_rfl) (by kernel_rfl) (by omega) (by omega) 2 (by omega) _) ?_
 refine yBb [3, 4] [(26, uV z), (25, iV z)] [e2 1 [iV z], e1 2 (uV z)] [(1, ⟨r1, 2, none⟩, iV z)] [(uV (IntKind.wrap .u32 z), uV z)] ⟨(ov_u32 rfl (by omega) (by omega)), trivial⟩ (kC (sat_cell h3 0 rfl rfl) nC) ?_
 refine yA ?_
 refine yCl 27 Try.call55 (gcheck_ok z (by omega) (by omega)) h3 ?_
 rintro v K w6 (⟨rfl, rfl⟩) h7
 refine ⟨_, rfl, ?_⟩
 have h8 := ap0 h7
 refine yB0 [] [4] [(4, iV 0)] (.mk ?_)
 refine yK [(4, iV 0)] fun lr9 => ?_
 refine yRt ?_
 repeat (first | simp only [Exit.inBlock] | simp only [Exit.then])
 have h10 := tk1 (sf1 h8)
 refine hi_out [] (iV 0) [] (by kernel_rfl) (by intro q hq; cases hq) ?_
 exact ⟨iV 0, [], rfl, ⟨rfl, rfl⟩, h10⟩

set_option maxHeartbeats 4000000 in
theorem dcheckd_no (x y z : Int) (hz0 : 0 ≤ z) (hz1 : z ≤ 4294967295) (ho : ¬ (1 ≤ x ∧ x ≤ 3 ∧ 0 ≤ y ∧ y ≤ 255 ∧ 1 ≤ z)) : HT Try.prog 52 [Value.agg #[Value.int IntKind.i64 x, Value.int IntKind.i64 y, Value.int IntKind.i64 z], Value.int IntKind.i64 256] [] (fun v K => v = Value.int IntKind.i64 2 ∧ K = []) := by
 refine hi_in 28 ([(0, .agg #[iV x, iV y, iV z]), (1, iV 256)] : Fr) Try.func52 (by kernel_rfl) Try.ntmps52 rfl rfl ?_
 intro g w0 R h0
 refine ySq ?_
 refine yPl [0, 1] ?_
 refine yA ?_
 refine yNp 2 103 [iV x, iV y, iV z] h0 fun r1 w2 h3 => ?_
 refine yB0 [] [1] [(4, iV 0)] (.mk ?_)
 refine yK [(1, iV 256), (2, pV r1)] fun lr4 => ?_
 refine ySq ?_
 refine ySq ?_
 refine yPl [0, 1, 2, 3, 4, 5, 6, 7, 8, 9, 10, 11, 12, 13, 14, 15, 16, 17, 18] ?_
 refine plain_law (i := 0) 5 (pV r1) (by kernel_rfl) (law_indexArr (o := opA (RA Try.f52 [1, 0, 0]) 0) (x := (Operand.tmp 2)) (i := (Operand.const (iV 0))) (b := r1) (off := 0) (z := 0) (by kernel_rfl) Try.underlying103 1 (by kernel_rfl) 0 (by kernel_rfl) (by kernel_rfl) (by omega) (by omega) 0 (by omega) _) ?_
 refine yBb [2, 3, 4, 5, 6, 7, 8, 9, 10, 11, 12, 13, 14, 15, 16, 17, 18] [(6, iV x)] [e2 1 [iV x]] [(1, ⟨r1, 0, none⟩, iV x)] [] trivial (kC (sat_cell h3 0 rfl rfl) nC) ?_
 by_cases c5 : x < 1
 ·
  refine yBb [] [(23, .bool true), (22, undef), (21, undef), (20, undef), (19, undef), (18, .bool true), (17, .bool true), (16, undef), (15, undef), (14, undef), (13, .bool true), (12, .bool true), (11, undef), (10, undef), (9, undef), (8, .bool true), (7, .bool true)] [e1 2 (.bool true), e0 3, e0 4, e0 5, e0 6, e0 7, e0 8, e0 9, e0 10, e0 11, e0 12, e0 13, e0 14, e0 15, e0 16, e0 17, e0 18] [] [(.bool (decide (x < 1)), .bool true)] ⟨(ov_t (by omega)), trivial⟩ nC (.mk ?_)
  refine yK [(2, pV r1), (23, .bool true)] fun lr6 => ?_
  refine yCt ?_
  refine ySq ?_
  refine yPl [0] ?_
  refine yB0 [] [0] [(4, iV 2)] (.mk ?_)
  refine yK [(4, iV 2)] fun lr7 => ?_
  refine yRt ?_
  repeat (first | simp only [Exit.inBlock] | simp only [Exit.then])
  have h8 := tk1 (sf1 h3)
  refine hi_out [] (iV 2) [] (by kernel_rfl) (by intro q hq; cases hq) ?_
  exact ⟨iV 2, [], rfl, ⟨rfl, rfl⟩, h8⟩
 ·
  refine yBb [4, 5, 6, 7, 8, 9, 10, 11, 12, 13, 14, 15, 16, 17, 18] [(8, .bool false), (7, .bool false)] [e1 2 (.bool false), e0 3] [] [(.bool (decide (x < 1)), .bool false)] ⟨(ov_f (by omega)), trivial⟩ nC ?_
  refine plain_law (i := 4) 9 (pV r1) (by kernel_rfl) (law_indexArr (o := opA (RA Try.f52 [1, 0, 0]) 4) (x := (Operand.tmp 2)) (i := (Operand.const (iV 0))) (b := r1) (off := 0) (z := 0) (by kernel_rfl) Try.underlying103 1 (by kernel_rfl) 0 (by kernel_rfl) (by kernel_rfl) (by omega) (by omega) 0 (by omega) _) ?_
  refine yBb [6, 7, 8, 9, 10, 11, 12, 13, 14, 15, 16, 17, 18] [(10, iV x)] [e2 5 [iV x]] [(5, ⟨r1, 0, none⟩, iV x)] [] trivial (kC (sat_cell h3 0 rfl rfl) nC) ?_
  by_cases c9 : x > 3
  ·
   refine yBb [] [(23, .bool true), (22, undef), (21, undef), (20, undef), (19, undef), (18, .bool true), (17, .bool true), (16, undef), (15, undef), (14, undef), (13, .bool true), (12, .bool true), (11, .bool true)] [e1 6 (.bool true), e0 7, e0 8, e0 9, e0 10, e0 11, e0 12, e0 13, e0 14, e0 15, e0 16, e0 17, e0 18] [] [(.bool (decide (x > 3)), .bool true)] ⟨(ov_t (by omega)), trivial⟩ nC (.mk ?_)
   refine yK [(2, pV r1), (23, .bool true)] fun lr10 => ?_
   refine yCt ?_
   refine ySq ?_
   refine yPl [0] ?_
   refine yB0 [] [0] [(4, iV 2)] (.mk ?_)
   refine yK [(4, iV 2)] fun lr11 => ?_
   refine yRt ?_
   repeat (first | simp only [Exit.inBlock] | simp only [Exit.then])
   have h12 := tk1 (sf1 h3)
   refine hi_out [] (iV 2) [] (by kernel_rfl) (by intro q hq; cases hq) ?_
   exact ⟨iV 2, [], rfl, ⟨rfl, rfl⟩, h12⟩
  ·
   refine yBb [9, 10, 11, 12, 13, 14, 15, 16, 17, 18] [(13, .bool false), (12, .bool false), (11, .bool false)] [e1 6 (.bool false), e0 7, e0 8] [] [(.bool (decide (x > 3)), .bool false)] ⟨(ov_f (by omega)), trivial⟩ nC ?_
   refine plain_law (i := 9) 14 (.pointer (some ⟨r1, 1, none⟩)) (by kernel_rfl) (law_indexArr (o := opA (RA Try.f52 [1, 0, 0]) 9) (x := (Operand.tmp 2)) (i := (Operand.const (iV 1))) (b := r1) (off := 0) (z := 1) (by kernel_rfl) Try.underlying103 1 (by kernel_rfl) 1 (by kernel_rfl) (by kernel_rfl) (by omega) (by omega) 1 (by omega) _) ?_
   refine yBb [11, 12, 13, 14, 15, 16, 17, 18] [(15, iV y)] [e2 10 [iV y]] [(10, ⟨r1, 1, none⟩, iV y)] [] trivial (kC (sat_cell h3 0 rfl rfl) nC) ?_
   by_cases c13 : y < 0
   ·
    refine yBb [] [(23, .bool true), (22, undef), (21, undef), (20, undef), (19, undef), (18, .bool true), (17, .bool true), (16, .bool true)] [e1 11 (.bool true), e0 12, e0 13, e0 14, e0 15, e0 16, e0 17, e0 18] [] [(.bool (decide (y < 0)), .bool true)] ⟨(ov_t (by omega)), trivial⟩ nC (.mk ?_)
    refine yK [(2, pV r1), (23, .bool true)] fun lr14 => ?_
    refine yCt ?_
    refine ySq ?_
    refine yPl [0] ?_
    refine yB0 [] [0] [(4, iV 2)] (.mk ?_)
    refine yK [(4, iV 2)] fun lr15 => ?_
    refine yRt ?_
    repeat (first | simp only [Exit.inBlock] | simp only [Exit.then])
    have h16 := tk1 (sf1 h3)
    refine hi_out [] (iV 2) [] (by kernel_rfl) (by intro q hq; cases hq) ?_
    exact ⟨iV 2, [], rfl, ⟨rfl, rfl⟩, h16⟩
   ·
    refine yBb [14, 15, 16, 17, 18] [(18, .bool false), (17, .bool false), (16, .bool false)] [e1 11 (.bool false), e0 12, e0 13] [] [(.bool (decide (y < 0)), .bool false)] ⟨(ov_f (by omega)), trivial⟩ nC ?_
    refine plain_law (i := 14) 19 (.pointer (some ⟨r1, 1, none⟩)) (by kernel_rfl) (law_indexArr (o := opA (RA Try.f52 [1, 0, 0]) 14) (x := (Operand.tmp 2)) (i := (Operand.const (iV 1))) (b := r1) (off := 0) (z := 1) (by kernel_rfl) Try.underlying103 1 (by kernel_rfl) 1 (by kernel_rfl) (by kernel_rfl) (by omega) (by omega) 1 (by omega) _) ?_
    refine yBb [17, 18] [(21, iV 256), (20, iV y)] [e2 15 [iV y], e0 16] [(15, ⟨r1, 1, none⟩, iV y)] [] trivial (kC (sat_cell h3 0 rfl rfl) nC) ?_
    by_cases c17 : y ≥ 256
    ·
     refine yBb [] [(23, .bool true), (22, .bool true)] [e1 17 (.bool true), e0 18] [] [(.bool (decide (y ≥ 256)), .bool true)] ⟨(ov_t (by omega)), trivial⟩ nC (.mk ?_)
     refine yK [(2, pV r1), (23, .bool true)] fun lr18 => ?_
     refine yCt ?_
     refine ySq ?_
     refine yPl [0] ?_
     refine yB0 [] [0] [(4, iV 2)] (.mk ?_)
     refine yK [(4, iV 2)] fun lr19 => ?_
     refine yRt ?_
     repeat (first | simp only [Exit.inBlock] | simp only [Exit.then])
     have h20 := tk1 (sf1 h3)
     refine hi_out [] (iV 2) [] (by kernel_rfl) (by intro q hq; cases hq) ?_
     exact ⟨iV 2, [], rfl, ⟨rfl, rfl⟩, h20⟩
    ·
     refine yBb [] [(23, .bool false), (22, .bool false)] [e1 17 (.bool false), e0 18] [] [(.bool (decide (y ≥ 256)), .bool false)] ⟨(ov_f (by omega)), trivial⟩ nC (.mk ?_)
     refine yK [(2, pV r1), (23, .bool false)] fun lr21 => ?_
     refine yCf ?_
     refine ySk ?_
     refine ySq ?_
     refine yPl [0, 1, 2, 3, 4] ?_
     refine plain_law (i := 0) 24 (.pointer (some ⟨r1, 2, none⟩)) (by kernel_rfl) (law_indexArr (o := opA (RA Try.f52 [1, 1, 0]) 0) (x := (Operand.tmp 2)) (i := (Operand.const (iV 2))) (b := r1) (off := 0) (z := 2) (by kernel_rfl) Try.underlying103 1 (by kernel_rfl) 2 (by kernel_rfl) (by kernel_rfl) (by omega) (by omega) 2 (by omega) _) ?_
     refine yBb [3, 4] [(26, uV z), (25, iV z)] [e2 1 [iV z], e1 2 (uV z)] [(1, ⟨r1, 2, none⟩, iV z)] [(uV (IntKind.wrap .u32 z), uV z)] ⟨(ov_u32 rfl (by omega) (by omega)), trivial⟩ (kC (sat_cell h3 0 rfl rfl) nC) ?_
     refine yA ?_
     refine yCl 27 Try.call55 (gcheck_no z (by omega)) h3 ?_
     rintro v K w22 (⟨rfl, rfl⟩) h23
     refine ⟨_, rfl, ?_⟩
     have h24 := ap0 h23
     refine yB0 [] [4] [(4, iV 2)] (.mk ?_)
     refine yK [(4, iV 2)] fun lr25 => ?_
     refine yRt ?_
     repeat (first | simp only [Exit.inBlock] | simp only [Exit.then])
     have h26 := tk1 (sf1 h24)
     refine hi_out [] (iV 2) [] (by kernel_rfl) (by intro q hq; cases hq) ?_
     exact ⟨iV 2, [], rfl, ⟨rfl, rfl⟩, h26⟩

set_option maxHeartbeats 4000000 in
theorem cdesc_ok (x y z : Int) (hz0 : 0 ≤ z) (hz1 : z ≤ 4294967295) (ho : 1 ≤ x ∧ x ≤ 3 ∧ 0 ≤ y ∧ y ≤ 255 ∧ 1 ≤ z) : HT Try.prog 27 [Value.agg #[Value.int IntKind.i64 x, Value.int IntKind.i64 y, Value.int IntKind.u32 z]] [] (fun v K => v = Value.int IntKind.i64 0 ∧ K = []) := by
 refine hi_in 6 ([(0, .agg #[iV x, iV y, uV z])] : Fr) Try.func27 (by kernel_rfl) Try.ntmps27 rfl rfl ?_
 intro g w0 R h0
 refine ySq ?_
 refine yPl [0, 1] ?_
 refine yA ?_
 refine yNp 1 28 [iV x, iV y, uV z] h0 fun r1 w2 h3 => ?_
 refine yB0 [] [1] [(2, iV 0)] (.mk ?_)
 refine yK [(1, pV r1)] fun lr4 => ?_
 refine ySq ?_
 refine yPl [0, 1, 2, 3] ?_
 refine yBb [1, 2, 3] [(3, .agg #[iV x, iV y, uV z])] [e2 0 [iV x, iV y, uV z]] [(0, ⟨r1, 0, none⟩, iV x), (0, ⟨r1, 1, none⟩, iV y), (0, ⟨r1, 2, none⟩, uV z)] [] trivial (kC (sat_cell h3 0 rfl rfl) (kC (sat_cell h3 0 rfl rfl) (kC (sat_cell h3 0 rfl rfl) nC))) ?_
 refine yA ?_
 refine yCl 4 Try.call51 (ofdesc_ht x y z (by omega) (by omega)) h3 ?_
 rintro v K w5 (⟨rfl, rfl⟩) h6
 refine ⟨_, rfl, ?_⟩
 have h7 := ap0 h6
 refine yA ?_
 refine yCl 5 Try.call52 (dcheckd_ok x y z (by omega) (by omega) (by omega)) h7 ?_
 rintro v K w8 (⟨rfl, rfl⟩) h9
 refine ⟨_, rfl, ?_⟩
 have h10 := ap0 h9
 refine yB0 [] [3] [(2, iV 0)] (.mk ?_)
 refine yK [(2, iV 0)] fun lr11 => ?_
 refine yRt ?_
 repeat (first | simp only [Exit.inBlock] | simp only [Exit.then])
 have h12 := tk1 (sf1 h10)
 refine hi_out [] (iV 0) [] (by kernel_rfl) (by intro q hq; cases hq) ?_
 exact ⟨iV 0, [], rfl, ⟨rfl, rfl⟩, h12⟩

set_option maxHeartbeats 4000000 in
theorem cdesc_no (x y z : Int) (hz0 : 0 ≤ z) (hz1 : z ≤ 4294967295) (ho : ¬ (1 ≤ x ∧ x ≤ 3 ∧ 0 ≤ y ∧ y ≤ 255 ∧ 1 ≤ z)) : HT Try.prog 27 [Value.agg #[Value.int IntKind.i64 x, Value.int IntKind.i64 y, Value.int IntKind.u32 z]] [] (fun v K => v = Value.int IntKind.i64 2 ∧ K = []) := by
 refine hi_in 6 ([(0, .agg #[iV x, iV y, uV z])] : Fr) Try.func27 (by kernel_rfl) Try.ntmps27 rfl rfl ?_
 intro g w0 R h0
 refine ySq ?_
 refine yPl [0, 1] ?_
 refine yA ?_
 refine yNp 1 28 [iV x, iV y, uV z] h0 fun r1 w2 h3 => ?_
 refine yB0 [] [1] [(2, iV 0)] (.mk ?_)
 refine yK [(1, pV r1)] fun lr4 => ?_
 refine ySq ?_
 refine yPl [0, 1, 2, 3] ?_
 refine yBb [1, 2, 3] [(3, .agg #[iV x, iV y, uV z])] [e2 0 [iV x, iV y, uV z]] [(0, ⟨r1, 0, none⟩, iV x), (0, ⟨r1, 1, none⟩, iV y), (0, ⟨r1, 2, none⟩, uV z)] [] trivial (kC (sat_cell h3 0 rfl rfl) (kC (sat_cell h3 0 rfl rfl) (kC (sat_cell h3 0 rfl rfl) nC))) ?_
 refine yA ?_
 refine yCl 4 Try.call51 (ofdesc_ht x y z (by omega) (by omega)) h3 ?_
 rintro v K w5 (⟨rfl, rfl⟩) h6
 refine ⟨_, rfl, ?_⟩
 have h7 := ap0 h6
 by_cases c8 : 1 ≤ x
 ·
  by_cases c9 : x ≤ 3
  ·
   by_cases c10 : 0 ≤ y
   ·
    by_cases c11 : y ≤ 255
    ·
     refine yA ?_
     refine yCl 5 Try.call52 (dcheckd_no x y z (by omega) (by omega) (by omega)) h7 ?_
     rintro v K w12 (⟨rfl, rfl⟩) h13
     refine ⟨_, rfl, ?_⟩
     have h14 := ap0 h13
     refine yB0 [] [3] [(2, iV 2)] (.mk ?_)
     refine yK [(2, iV 2)] fun lr15 => ?_
     refine yRt ?_
     repeat (first | simp only [Exit.inBlock] | simp only [Exit.then])
     have h16 := tk1 (sf1 h14)
     refine hi_out [] (iV 2) [] (by kernel_rfl) (by intro q hq; cases hq) ?_
     exact ⟨iV 2, [], rfl, ⟨rfl, rfl⟩, h16⟩
    ·
     refine yA ?_
     refine yCl 5 Try.call52 (dcheckd_no x y z (by omega) (by omega) (by omega)) h7 ?_
     rintro v K w17 (⟨rfl, rfl⟩) h18
     refine ⟨_, rfl, ?_⟩
     have h19 := ap0 h18
     refine yB0 [] [3] [(2, iV 2)] (.mk ?_)
     refine yK [(2, iV 2)] fun lr20 => ?_
     refine yRt ?_
     repeat (first | simp only [Exit.inBlock] | simp only [Exit.then])
     have h21 := tk1 (sf1 h19)
     refine hi_out [] (iV 2) [] (by kernel_rfl) (by intro q hq; cases hq) ?_
     exact ⟨iV 2, [], rfl, ⟨rfl, rfl⟩, h21⟩
   ·
    refine yA ?_
    refine yCl 5 Try.call52 (dcheckd_no x y z (by omega) (by omega) (by omega)) h7 ?_
    rintro v K w22 (⟨rfl, rfl⟩) h23
    refine ⟨_, rfl, ?_⟩
    have h24 := ap0 h23
    refine yB0 [] [3] [(2, iV 2)] (.mk ?_)
    refine yK [(2, iV 2)] fun lr25 => ?_
    refine yRt ?_
    repeat (first | simp only [Exit.inBlock] | simp only [Exit.then])
    have h26 := tk1 (sf1 h24)
    refine hi_out [] (iV 2) [] (by kernel_rfl) (by intro q hq; cases hq) ?_
    exact ⟨iV 2, [], rfl, ⟨rfl, rfl⟩, h26⟩
  ·
   refine yA ?_
   refine yCl 5 Try.call52 (dcheckd_no x y z (by omega) (by omega) (by omega)) h7 ?_
   rintro v K w27 (⟨rfl, rfl⟩) h28
   refine ⟨_, rfl, ?_⟩
   have h29 := ap0 h28
   refine yB0 [] [3] [(2, iV 2)] (.mk ?_)
   refine yK [(2, iV 2)] fun lr30 => ?_
   refine yRt ?_
   repeat (first | simp only [Exit.inBlock] | simp only [Exit.then])
   have h31 := tk1 (sf1 h29)
   refine hi_out [] (iV 2) [] (by kernel_rfl) (by intro q hq; cases hq) ?_
   exact ⟨iV 2, [], rfl, ⟨rfl, rfl⟩, h31⟩
 ·
  refine yA ?_
  refine yCl 5 Try.call52 (dcheckd_no x y z (by omega) (by omega) (by omega)) h7 ?_
  rintro v K w32 (⟨rfl, rfl⟩) h33
  refine ⟨_, rfl, ?_⟩
  have h34 := ap0 h33
  refine yB0 [] [3] [(2, iV 2)] (.mk ?_)
  refine yK [(2, iV 2)] fun lr35 => ?_
  refine yRt ?_
  repeat (first | simp only [Exit.inBlock] | simp only [Exit.then])
  have h36 := tk1 (sf1 h34)
  refine hi_out [] (iV 2) [] (by kernel_rfl) (by intro q hq; cases hq) ?_
  exact ⟨iV 2, [], rfl, ⟨rfl, rfl⟩, h36⟩

end Go.Proofs.Ytjjpmehiolejgaa

/- Walks, printed by my generator ../fds/gen2.py. -/
namespace Go.Proofs.Ytjjpmehiolejgaa
theorem seq110_neq_t {n : Nat} {l : Fr} {o : Oper} {x y : Operand} (a0 : Int) (a1 : Int) (c0 : Int) (c1 : Int) (ho : o.op = .binOp .neq 110 x y 110) (hx : fe n l x = .agg #[.int .i64 a0, .int .u32 a1]) (hy : fe n l y = .agg #[.int .i64 c0, .int .u32 c1]) (h : a0 = c0 ∧ a1 = c1) (w : World) : (execOp (fe n l) o).run Try.prog w = .ok (.value (.bool false)) w := by
  obtain ⟨rfl, rfl⟩ := h
  simp [execOp, ho, hx, hy, go_sem]
set_option maxHeartbeats 4000000 in
theorem svalid_ht (b n : Nat) (A : List Sl2) : HT Try.prog 69 [Value.pointer (some ⟨b, 0, none⟩)] [Tb b n A] (fun v K => v = Value.bool true ∧ K = [Tb b n A]) := by
 refine hi_in 12 ([(0, pV b)] : Fr) Try.func69 (by kernel_rfl) Try.ntmps69 rfl rfl ?_
 intro g w0 R h0
 obtain ⟨T1, hp2, h3⟩ := tb_open h0
 have hq4 := hp2.2.1; have hq5 := hp2.2.2.1; have hq6 := hp2.2.2.2.2
 refine ySq ?_
 refine yPl [0] ?_
 refine yB0 [] [0] [(2, .bool false)] (.mk ?_)
 refine yK [(0, pV b)] fun lr7 => ?_
 refine ySq ?_
 refine yPl [0, 1, 2, 3, 4, 5, 6, 7, 8, 9] ?_
 refine yBb [] [(2, .bool true), (11, .bool true), (10, .bool true), (9, iV (n : Int)), (8, pV b), (7, pV b), (6, pV b), (5, .bool true), (4, .bool true), (3, pV b)] [e0 0, e0 1, e0 2, e0 3, e0 4, e0 5, e2 6 [iV (n : Int)], e1 7 (.bool true), e0 8, e0 9] [(6, ⟨b, 0, none⟩, iV (n : Int))] [(.bool (decide ((n : Int) > 0)), .bool true)] ⟨(ov_t (by omega)), trivial⟩ (kC (sat_cell h3 0 rfl rfl) nC) (.mk ?_)
 refine yK [(2, .bool true)] fun lr8 => ?_
 refine yRt ?_
 repeat (first | simp only [Exit.inBlock] | simp only [Exit.then])
 have h9 : sat g w0 [Tb b n A, R] := tb_close hp2 h3
 refine hi_out [] (.bool true) [] (by kernel_rfl) (by intro q hq; cases hq) ?_
 exact ⟨.bool true, [Tb b n A], rfl, ⟨rfl, rfl⟩, h9⟩

set_option maxHeartbeats 4000000 in
theorem svalid_cl (b n : Nat) (B : List Sl2) (hn : 1 ≤ n) : HT Try.prog 69 [Value.pointer (some ⟨b, 0, none⟩)] [Cl b (tbl n B) 113] (fun v K => v = Value.bool true ∧ K = [Cl b (tbl n B) 113]) := by
 refine hi_in 12 ([(0, pV b)] : Fr) Try.func69 (by kernel_rfl) Try.ntmps69 rfl rfl ?_
 intro g w0 R h0
 refine ySq ?_
 refine yPl [0] ?_
 refine yB0 [] [0] [(2, .bool false)] (.mk ?_)
 refine yK [(0, pV b)] fun lr1 => ?_
 refine ySq ?_
 refine yPl [0, 1, 2, 3, 4, 5, 6, 7, 8, 9] ?_
 refine yBb [] [(2, .bool true), (11, .bool true), (10, .bool true), (9, iV (n : Int)), (8, pV b), (7, pV b), (6, pV b), (5, .bool true), (4, .bool true), (3, pV b)] [e0 0, e0 1, e0 2, e0 3, e0 4, e0 5, e2 6 [iV (n : Int)], e1 7 (.bool true), e0 8, e0 9] [(6, ⟨b, 0, none⟩, iV (n : Int))] [(.bool (decide ((n : Int) > 0)), .bool true)] ⟨(ov_t (by omega)), trivial⟩ (kC (sat_cell h0 0 rfl rfl) nC) (.mk ?_)
 refine yK [(2, .bool true)] fun lr2 => ?_
 refine yRt ?_
 repeat (first | simp only [Exit.inBlock] | simp only [Exit.then])
 refine hi_out [] (.bool true) [] (by kernel_rfl) (by intro q hq; cases hq) ?_
 exact ⟨.bool true, [Cl b (tbl n B) 113], rfl, ⟨rfl, rfl⟩, h0⟩

set_option maxHeartbeats 4000000 in
theorem check_ok (b n : Nat) (A : List Sl2) (q : Nat) (x : Sl2) (hx : A[q]? = some x) (i gn : Int) (hc : i = (q : Int) ∧ x.1 = 1 ∧ x.2 = gn) : HT Try.prog 71 [Value.pointer (some ⟨b, 0, none⟩), Value.agg #[Value.int IntKind.i64 i, Value.int IntKind.u32 gn]] [Tb b n A] (fun v K => v = Value.int .i64 0 ∧ K = [Tb b n A]) := by
 refine hi_in 34 ([(0, pV b), (1, .agg #[iV i, uV gn])] : Fr) Try.func71 (by kernel_rfl) Try.ntmps71 rfl rfl ?_
 intro g w0 R h0
 obtain ⟨T1, hp2, h3⟩ := tb_open h0
 have hq4 := hp2.2.1; have hq5 := hp2.2.2.1; have hq6 := hp2.2.2.2.2
 have hx_ := hp2.2.2.2.1 x (List.mem_of_getElem? hx)
 have hq_ : q < n := by have h_ := (List.getElem?_eq_some_iff.1 hx).1; rw [hp2.1] at h_; exact h_
 refine ySq ?_
 refine yPl [0, 1] ?_
 refine yA ?_
 refine yNp 3 34 [iV i, uV gn] h3 fun r7 w8 h9 => ?_
 refine yB0 [] [1] [(4, iV 0)] (.mk ?_)
 refine yK [(0, pV b), (3, pV r7)] fun lr10 => ?_
 refine ySq ?_
 refine yBk 0 ?_
 refine ySq ?_
 refine yPl [0, 1, 2, 3] ?_
 refine yB0 [1, 2, 3] [0] [(6, pV b)] ?_
 have h11 := tk3 (sf2 (sf1 (sf2 h9)))
 refine yA ?_
 refine yCl 7 Try.call69 (svalid_cl b n _ (by omega)) h11 ?_
 rintro v K w12 (⟨rfl, rfl⟩) h13
 refine ⟨_, rfl, ?_⟩
 have h14 := ap1 h13
 refine yB0 [] [2, 3] [(5, .bool false), (8, .bool false)] (.mk ?_)
 refine yK [(0, pV b), (3, pV r7), (5, .bool false)] fun lr15 => ?_
 refine yCf ?_
 refine ySq ?_
 refine gi_drw (id := 3) (ops := RA Try.f71 [1, 0, 0, 1, 1, 0]) (Tr.fl 0 (Tr.fl 1 (Tr.fl 2 (Tr.fl 3 (Tr.fl 4 (Tr.fl 5 (Tr.fl 6 (Tr.fl 7 (Tr.fl 8 (Tr.fl 9 (Tr.fl 10 (Tr.fl 11 (Tr.fl 12 Tr.nil))))))))))))) (by kernel_rfl) (by kernel_rfl) (by kernel_rfl) (by kernel_rfl) (by kernel_rfl) (fun _ _ d _ _ h => by cases d <;> exact h) h14 ?_
 intro w16 h17
 refine yD _ [(9, .bool false), (21, .bool false), (20, .bool false), (19, iV (n : Int)), (18, pV b), (17, pV b), (16, pV b), (15, iV i), (14, pV r7), (13, .bool false), (12, .bool false), (11, iV i), (10, pV r7)] [e0 0, e2 1 [iV i], e1 2 (.bool false), e0 3, e0 4, e2 5 [iV i], e0 6, e0 7, e0 8, e2 9 [iV (n : Int)], e1 10 (.bool false), e0 11, e0 12] [(9, ⟨b, 0, none⟩, iV (n : Int)), (5, ⟨r7, 0, none⟩, iV i), (1, ⟨r7, 0, none⟩, iV i)] [(.bool (decide (i < 0)), .bool false), (.bool (decide (i ≥ (n : Int))), .bool false)] ⟨(ov_f (by omega)), (ov_f (by omega)), trivial⟩ (kC (sat_cell h17 0 rfl rfl) (kC (sat_cell h17 1 rfl rfl) (kC (sat_cell h17 1 rfl rfl) nC))) ?_
 refine yK [(0, pV b), (3, pV r7), (9, .bool false)] fun lr18 => ?_
 refine yCf ?_
 refine ySq ?_
 refine gi_drw (id := 5) (ops := RA Try.f71 [1, 0, 0, 1, 1, 1, 1, 0]) (Tr.fl 0 (Tr.fl 1 (Tr.fl 2 (Tr.fl 3 (Tr.fl 4 (Tr.fl 5 (Tr.fl 6 (Tr.fl 7 (Tr.fl 8 (Tr.fl 9 (Tr.fl 10 (Tr.fl 11 Tr.nil)))))))))))) (by kernel_rfl) (by kernel_rfl) (by kernel_rfl) (by kernel_rfl) (by kernel_rfl) (fun _ _ d _ _ h => by cases d <;> exact h) h17 ?_
 intro w19 h20
 refine yD _ [(27, .pointer (some ⟨b, 1, none⟩)), (26, pV b), (25, iV i), (24, pV r7), (23, pV b)] [e0 0, e0 1, e2 2 [iV i], e0 3, e0 4] [(2, ⟨r7, 0, none⟩, iV i)] [] trivial (kC (sat_cell h20 1 rfl rfl) nC) ?_
 refine draw_law (i := 5) 28 (.pointer (some ⟨b, q * 2 + 1, none⟩)) [] (by kernel_rfl) (fun _ _ => law_indexArr (o := opA (RA Try.f71 [1, 0, 0, 1, 1, 1, 1, 0]) 5) (x := (Operand.tmp 27)) (i := (Operand.tmp 25)) (b := b) (off := 1) (z := i) (by kernel_rfl) Try.underlying111 2 (by kernel_rfl) q (by kernel_rfl) (by kernel_rfl) (by omega) (by omega) (q * 2 + 1) (by omega) _) (by intro q hq; cases hq) ?_
 refine yD _ [(32, .agg #[iV 1, uV gn]), (31, uV gn), (30, .pointer (some ⟨r7, 1, none⟩)), (29, .agg #[iV x.1, uV x.2])] [e2 6 [iV x.1, uV x.2], e0 7, e2 8 [uV gn], e0 9] [(8, ⟨r7, 1, none⟩, uV gn), (6, ⟨b, q * 2 + 1, none⟩, iV x.1), (6, ⟨b, q * 2 + 2, none⟩, uV x.2)] [] trivial (kC (sat_cell h20 1 rfl rfl) (kC (sat_cell h20 0 rfl (tbl_stk (app_get hx) (by omega))) (kC (sat_cell h20 0 rfl (tbl_genk (app_get hx) (by omega))) nC))) ?_
 refine draw_law (i := 10) 33 (.bool false) [] (by kernel_rfl) (fun _ _ => seq110_neq_t (o := opA (RA Try.f71 [1, 0, 0, 1, 1, 1, 1, 0]) 10) (x := (Operand.tmp 29)) (y := (Operand.tmp 32)) x.1 x.2 1 gn (by kernel_rfl) (by kernel_rfl) (by kernel_rfl) ⟨(by omega), (by omega)⟩ _) (by intro q hq; cases hq) ?_
 refine yD _ [(22, .bool false)] [e0 11] [] [] trivial nC ?_
 refine yK [(22, .bool false)] fun lr21 => ?_
 refine yCf ?_
 refine ySk ?_
 refine ySq ?_
 refine yPl [0] ?_
 refine yB0 [] [0] [(4, iV 0)] (.mk ?_)
 refine yK [(4, iV 0)] fun lr22 => ?_
 refine yRt ?_
 repeat (first | simp only [Exit.inBlock] | simp only [Exit.then])
 have h23 : sat g w19 [Tb b n A, Cl r7 [iV i, uV gn] 34, R] := tb_close hp2 h20
 have h24 := tk2 (sf1 (sf2 h23))
 refine hi_out [] (iV 0) [] (by kernel_rfl) (by intro q hq; cases hq) ?_
 exact ⟨iV 0, [Tb b n A], rfl, ⟨rfl, rfl⟩, h24⟩

end Go.Proofs.Ytjjpmehiolejgaa

/- Walks, printed by my generator ../fds/gen3.py. -/
namespace Go.Proofs.Ytjjpmehiolejgaa
set_option maxHeartbeats 4000000 in
theorem in_ht (b : Nat) (q : Int) : HT Try.prog 70 [Value.pointer (some ⟨b, 0, none⟩), Value.int IntKind.i64 q] [] (fun v K => ∃ c d, v = Value.func (Fn.func 76) #[] #[Value.pointer (some ⟨c, 0, none⟩), Value.pointer (some ⟨d, 0, none⟩)] ∧ K = [Cl c [Value.pointer (some ⟨b, 0, none⟩)] 72, Cl d [Value.int IntKind.i64 q] 3]) := by
 refine hi_in 6 ([(0, pV b), (1, iV q)] : Fr) Try.func70 (by kernel_rfl) Try.ntmps70 rfl rfl ?_
 intro g w0 R h0
 refine ySq ?_
 refine yPl [0, 1, 2] ?_
 refine yA ?_
 refine yNp 2 72 [pV b] h0 fun r1 w2 h3 => ?_
 refine yA ?_
 refine yNp 3 3 [iV q] h3 fun r4 w5 h6 => ?_
 refine yB0 [] [2] [(4, Value.nilFunc)] (.mk ?_)
 refine yK [(2, pV r1), (3, pV r4)] fun lr7 => ?_
 refine ySq ?_
 refine yPl [0, 1] ?_
 refine yB0 [] [0, 1] [(4, .func (Fn.func 76) #[] #[pV r1, pV r4]), (5, .func (Fn.func 76) #[] #[pV r1, pV r4])] (.mk ?_)
 refine yK [(4, .func (Fn.func 76) #[] #[pV r1, pV r4])] fun lr8 => ?_
 refine yRt ?_
 repeat (first | simp only [Exit.inBlock] | simp only [Exit.then])
 have h9 := tk3 (sf2 (sf1 (sf2 h6)))
 refine hi_out [] (.func (Fn.func 76) #[] #[pV r1, pV r4]) [] (by kernel_rfl) (by intro q hq; cases hq) ?_
 exact ⟨.func (Fn.func 76) #[] #[pV r1, pV r4], [Cl r1 [pV b] 72, Cl r4 [iV q] 3], rfl, ⟨r1, r4, rfl, rfl⟩, h9⟩

set_option maxHeartbeats 4000000 in
theorem in_it (c d b n : Nat) (q : Int) (A : List Sl2) (hn1 : 1 ≤ n) (hn2 : n ≤ 256) : IT Try.prog 76 [Value.pointer (some ⟨c, 0, none⟩), Value.pointer (some ⟨d, 0, none⟩)] (((inS q A 0).length)) ((fun i => [Value.int IntKind.i64 ((((inS q A 0).getD i (0, 0)).1 : Nat) : Int), Value.int IntKind.u32 ((inS q A 0).getD i (0, 0)).2])) [Cl c [Value.pointer (some ⟨b, 0, none⟩)] 72, Cl d [Value.int IntKind.i64 q] 3, Tb b n A] := by
 refine it_in 36 (fun k_ => ([(0, .func (Fn.yield k_) #[] #[]), (1, pV c), (2, pV d)] : Fr)) Try.func76 (by kernel_rfl) Try.ntmps76 rfl (fun _ => rfl) ?_
 intro g w0 R k_ J_ E_ hY h0
 have h1 : sat g w0 [J_ 0, Cl c [pV b] 72, Cl d [iV q] 3, Tb b n A, R] := h0
 change WP _ _ (CA Try.f76 []) _ (mk 36 (([(0, .func (Fn.yield k_) #[] #[]), (1, pV c), (2, pV d)] : Fr))) _
 refine ySq ?_
 refine ySq ?_
 refine yPl [0, 1, 2] ?_
 refine yBb [1, 2] [(6, pV b)] [e2 0 [pV b]] [(0, ⟨c, 0, none⟩, pV b)] [] trivial (kC (sat_cell h1 1 rfl rfl) nC) ?_
 have h2 := tk5 (sf4 (sf3 (sf3 (sf3 (sf4 h1)))))
 refine yA ?_
 refine yCl 7 Try.call69 (svalid_ht b n A) h2 ?_
 rintro v K w3 (⟨rfl, rfl⟩) h4
 refine ⟨_, rfl, ?_⟩
 have h5 := ap1 h4
 refine yB0 [] [2] [(8, .bool false)] (.mk ?_)
 refine yK [(0, .func (Fn.yield k_) #[] #[]), (1, pV c), (2, pV d), (8, .bool false)] fun lr6 => ?_
 refine yCf ?_
 refine ySk ?_
 refine ySq ?_
 obtain ⟨T7, hp8, h9⟩ := tb_open h5
 have hq10 := hp8.2.1; have hq11 := hp8.2.2.1; have hq12 := hp8.2.2.2.2
 have hAl := hp8.1
 refine gi_drw (id := 1) (ops := RA Try.f76 [1, 0]) (Tr.fl 0 (Tr.fl 1 (Tr.fl 2 (Tr.fl 3 (Tr.fl 4 (Tr.fl 5 (Tr.fl 6 (Tr.fl 7 (Tr.fl 8 (Tr.fl 9 Tr.nil)))))))))) (by kernel_rfl) (by kernel_rfl) (by kernel_rfl) (by kernel_rfl) (by kernel_rfl) (fun _ _ d _ _ h => by cases d <;> exact h) h9 ?_
 intro w13 h14
 refine yD _ [(15, iV (n : Int)), (14, pV b), (13, pV b), (12, pV b), (11, .pointer (some ⟨b, 1, none⟩)), (10, pV b), (9, pV b)] [e2 0 [pV b], e0 1, e0 2, e2 3 [pV b], e0 4, e0 5, e2 6 [iV (n : Int)]] [(6, ⟨b, 0, none⟩, iV (n : Int)), (3, ⟨c, 0, none⟩, pV b), (0, ⟨c, 0, none⟩, pV b)] [] trivial (kC (sat_cell h14 0 rfl rfl) (kC (sat_cell h14 2 rfl rfl) (kC (sat_cell h14 2 rfl rfl) nC))) ?_
 refine draw_law (i := 7) 16 (.slice (some ⟨b, 1, none⟩) n 256) [] (by kernel_rfl) (fun _ _ => law_sliceArr (o := opA (RA Try.f76 [1, 0]) 7) (x := (Operand.tmp 11)) (lo := none) (hi := (some (Operand.tmp 15))) (b := b) (off := 1) (by kernel_rfl) Try.underlying111 2 (by kernel_rfl) 0 (n : Int) 0 n (by kernel_rfl) rfl (show fe _ _ (Operand.tmp 15) = _ from by kernel_rfl) (by omega) (by omega) (by omega) (by omega) 1 (by split <;> omega) n 256 (by omega) (by omega) _) (by intro q hq; cases hq) ?_
 refine yD _ [(18, iV 0), (17, iV (n : Int))] [e0 8, e0 9] [] [] trivial nC ?_
 have h15 : sat g w13 [Tb b n A, J_ 0, Cl c [pV b] 72, Cl d [iV q] 3, R] := tb_close hp8 h14
 refine yK [(0, .func (Fn.yield k_) #[] #[]), (2, pV d), (16, .slice (some ⟨b, 1, none⟩) n 256), (17, iV (n : Int)), (18, iV 0)] fun lr16 => ?_
 refine yBk 0 ?_
 have h17 := tk5 (sf4 (sf4 (sf4 (sf1 (sf4 h15)))))
 refine gi_lp (x := CA Try.f76 [1, 1, 0, 0]) (by kernel_rfl) (fun mz_ a w => ∃ i : Nat, ∃ lr : Fr, mz_ = n - i ∧ (i ≤ n) ∧ a = mk 36 (([(0, .func (Fn.yield k_) #[] #[]), (2, pV d), (16, .slice (some ⟨b, 1, none⟩) n 256), (17, iV (n : Int)), (18, iV (i : Int))] : Fr) ++ lr) ∧ sat g w [J_ ((cnt q A i)), Cl c [pV b] 72, Cl d [iV q] 3, Tb b n A, R]) (n - 0) ⟨0, _, rfl, (Nat.zero_le _), (mk_live [(0, .func (Fn.yield k_) #[] #[]), (2, pV d), (16, .slice (some ⟨b, 1, none⟩) n 256), (17, iV (n : Int)), (18, iV (0 : Int))] ⟨rfl, rfl, rfl, rfl, (ov_int (by omega)), trivial⟩), h17⟩ ?_
 rintro m19 a20 w21 ⟨i, lr18, rfl, hi, rfl, h22⟩
 refine ySq ?_
 refine yPl [0] ?_
 by_cases c23 : (i : Int) < (n : Int)
 ·
  refine yBb [] [(19, .bool true)] [e1 0 (.bool true)] [] [(.bool (decide ((i : Int) < (n : Int))), .bool true)] ⟨(ov_t (by omega)), trivial⟩ nC (.mk ?_)
  refine yK [(0, .func (Fn.yield k_) #[] #[]), (2, pV d), (16, .slice (some ⟨b, 1, none⟩) n 256), (17, iV (n : Int)), (18, iV (i : Int)), (19, .bool true)] fun lr24 => ?_
  refine ySq ?_
  refine yCt ?_
  refine ySk ?_
  refine ySq ?_
  refine yBk 1 ?_
  refine ySq ?_
  have h25 := tk5 (sf4 (sf3 (sf3 (sf3 (sf4 h22)))))
  obtain ⟨T26, hp27, h28⟩ := tb_open h25
  have hq29 := hp27.2.1; have hq30 := hp27.2.2.1; have hq31 := hp27.2.2.2.2
  refine yPl [0, 1, 2, 3, 4, 5] ?_
  refine yB0 [1, 2, 3, 4, 5] [0] [(20, iV (i : Int))] ?_
  refine plain_law (i := 1) 21 (.pointer (some ⟨b, i * 2 + 1, none⟩)) (by kernel_rfl) (law_indexSl (o := opA (RA Try.f76 [1, 1, 0, 0, 1, 1, 0, 0, 0]) 1) (x := (Operand.tmp 16)) (i := (Operand.tmp 18)) (b := b) (off := 1) (z := (i : Int)) (len := n) (cap := 256) (by kernel_rfl) Try.underlying131 2 (by kernel_rfl) i (by kernel_rfl) (by kernel_rfl) (by omega) (by omega) (i * 2 + 1) (by omega) _) ?_
  obtain ⟨x32, hx33⟩ : ∃ x : Sl2, A[i]? = some x := ⟨_, List.getElem?_eq_getElem (by rw [hp27.1]; omega)⟩
  have hb34 := hp27.2.2.2.1 x32 (List.mem_of_getElem? hx33)
  refine yBb [3, 4, 5] [(22, .agg #[iV x32.1, uV x32.2])] [e2 2 [iV x32.1, uV x32.2]] [(2, ⟨b, i * 2 + 1, none⟩, iV x32.1), (2, ⟨b, i * 2 + 2, none⟩, uV x32.2)] [] trivial (kC (sat_cell h28 0 rfl (tbl_stk (app_get hx33) (by omega))) (kC (sat_cell h28 0 rfl (tbl_genk (app_get hx33) (by omega))) nC)) ?_
  refine yA ?_
  refine yNp 5 110 [iV 0, uV 0] h28 fun r35 w36 h37 => ?_
  refine yB0 [5] [4] [(4, iV (i : Int))] ?_
  refine yA ?_
  refine yS [(0, iV x32.1), (1, uV x32.2)] [iV x32.1, uV x32.2] h37 fun w38 h39 => ?_
  refine PO.mk ?_
  have h40 := tk6 (sf5 (sf4 (sf5 (sf5 (sf5 (sf5 h39))))))
  have h41 : sat g w38 [Tb b n A, Cl r35 [iV x32.1, uV x32.2] 110, J_ ((cnt q A i)), Cl c [pV b] 72, Cl d [iV q] 3, R] := tb_close hp27 h40
  refine yK [(0, .func (Fn.yield k_) #[] #[]), (2, pV d), (4, iV (i : Int)), (5, pV r35), (16, .slice (some ⟨b, 1, none⟩) n 256), (17, iV (n : Int)), (18, iV (i : Int))] fun lr42 => ?_
  refine ySq ?_
  refine gi_ply (id := 4) (ops := RA Try.f76 [1, 1, 0, 0, 1, 1, 0, 0, 1, 0]) [0, 1, 2, 3, 4, 5, 6, 7, 8] [9, 10, 11] (by kernel_rfl) (by kernel_rfl) (by kernel_rfl) ?_
  refine yBb [3, 4, 5, 6, 7, 8] [(25, iV q), (24, iV x32.1), (23, pV r35)] [e0 0, e2 1 [iV x32.1], e2 2 [iV q]] [(2, ⟨d, 0, none⟩, iV q), (1, ⟨r35, 0, none⟩, iV x32.1)] [] trivial (kC (sat_cell h41 4 rfl rfl) (kC (sat_cell h41 1 rfl rfl) nC)) ?_
  by_cases c43 : x32.1 = q
  ·
   refine yBb [] [(31, uV x32.2), (30, .pointer (some ⟨r35, 1, none⟩)), (29, iV (i : Int)), (28, .func (Fn.yield k_) #[] #[]), (27, .bool true), (26, .bool true)] [e1 3 (.bool true), e0 4, e0 5, e0 6, e0 7, e2 8 [uV x32.2]] [(8, ⟨r35, 1, none⟩, uV x32.2)] [(.bool (x32.1 == q), .bool true)] ⟨(ov_et (by omega)), trivial⟩ (kC (sat_cell h41 1 rfl rfl) nC) (.mk ?_)
   have h44 := tk6 (sf5 (sf5 (sf5 (sf2 (sf2 (sf5 h41))))))
   change YP _ (RA Try.f76 [1, 1, 0, 0, 1, 1, 0, 0, 1, 0]) _ [9, 10, 11] (mk 36 (([(31, uV x32.2), (30, .pointer (some ⟨r35, 1, none⟩)), (29, iV (i : Int)), (28, .func (Fn.yield k_) #[] #[]), (27, .bool true), (26, .bool true), (25, iV q), (24, iV x32.1), (23, pV r35), (0, .func (Fn.yield k_) #[] #[]), (2, pV d), (4, iV (i : Int)), (5, pV r35), (16, .slice (some ⟨b, 1, none⟩) n 256), (17, iV (n : Int)), (18, iV (i : Int))] : Fr) ++ lr42)) _
   refine yp_yield (d := some 32) (k := k_) (args := [Value.int IntKind.i64 (i : Int), Value.int IntKind.u32 x32.2]) (xa := ((fun i => [Value.int IntKind.i64 ((((inS q A 0).getD i (0, 0)).1 : Nat) : Int), Value.int IntKind.u32 ((inS q A 0).getD i (0, 0)).2])) ((cnt q A i))) (S1 := fun w => sat g w [J_ ((cnt q A i) + 1), Cl c [Value.pointer (some ⟨b, 0, none⟩)] 72, Cl d [Value.int IntKind.i64 q] 3, Tb b n A, Cl r35 [Value.int IntKind.i64 x32.1, Value.int IntKind.u32 x32.2] 110, R]) (S2 := fun w => sat g w [E_ ((cnt q A i)), Cl r35 [Value.int IntKind.i64 x32.1, Value.int IntKind.u32 x32.2] 110, R]) (by kernel_rfl) (by kernel_rfl) (by kernel_rfl) ((by show [Value.int IntKind.i64 ((((inS q A 0).getD ((cnt q A i)) (0, 0)).1 : Nat) : Int), Value.int IntKind.u32 ((inS q A 0).getD ((cnt q A i)) (0, 0)).2] = _; rw [getD_some (inS_at hx33 (by omega))])) (hY ((cnt q A i)) ((List.getElem?_eq_some_iff.1 (inS_at (q := q) hx33 (by omega))).1) _ [Cl r35 [Value.int IntKind.i64 x32.1, Value.int IntKind.u32 x32.2] 110, R] h44) ?_ ?_
   ·
    intro w45 h46
    refine ⟨_, rfl, ?_⟩
    have h47 : sat g w45 [J_ ((cnt q A i) + 1), Cl c [pV b] 72, Cl d [iV q] 3, Tb b n A, Cl r35 [iV x32.1, uV x32.2] 110, R] := h46
    have hlt48 := ((List.getElem?_eq_some_iff.1 (inS_at (q := q) hx33 (by omega))).1 : (cnt q A i) < ((inS q A 0).length))
    refine yB0 [] [10, 11] [(34, .bool false), (33, .bool false)] (.mk ?_)
    refine yK [(0, .func (Fn.yield k_) #[] #[]), (2, pV d), (16, .slice (some ⟨b, 1, none⟩) n 256), (17, iV (n : Int)), (18, iV (i : Int)), (34, .bool false)] fun lr49 => ?_
    refine yCf ?_
    refine ySk ?_
    refine yPl [0, 1] ?_
    refine yBb [] [(18, iV ((i : Int) + 1)), (35, iV ((i : Int) + 1))] [e1 0 (iV ((i : Int) + 1)), e0 1] [] [(iV (IntKind.wrap .i64 ((i : Int) + 1)), iV ((i : Int) + 1))] ⟨(ov_i64 (by omega) (by omega) (by omega)), trivial⟩ nC (.mk ?_)
    have h50 : sat g w45 [J_ ((cnt q A (i + 1))), Cl c [pV b] 72, Cl d [iV q] 3, Tb b n A, Cl r35 [iV x32.1, uV x32.2] 110, R] := (show (cnt q A i) + 1 = (cnt q A (i + 1)) from (cnt_go hx33 (by omega)).symm) ▸ h47
    have h51 := tk6 (sf5 (sf5 (sf5 (sf5 (sf5 (sf4 h50))))))
    have h52 := tk5 h51
    change ∃ n', n' < _ ∧ _
    refine ⟨(n - (i + 1)), by omega, (i + 1), _, rfl, (by omega), (mk_live [(0, .func (Fn.yield k_) #[] #[]), (2, pV d), (16, .slice (some ⟨b, 1, none⟩) n 256), (17, iV (n : Int)), (18, iV ((((i + 1) : Nat) : Int)))] ⟨rfl, rfl, rfl, rfl, (ov_int (by omega)), trivial⟩), h52⟩
   ·
    intro w53 h54
    refine ⟨_, rfl, ?_⟩
    have h55 : sat g w53 [E_ ((cnt q A i)), Cl r35 [iV x32.1, uV x32.2] 110, R] := h54
    have hlt56 := ((List.getElem?_eq_some_iff.1 (inS_at (q := q) hx33 (by omega))).1 : (cnt q A i) < ((inS q A 0).length))
    refine yB0 [] [10, 11] [(34, .bool true), (33, .bool true)] (.mk ?_)
    refine yK [(0, .func (Fn.yield k_) #[] #[]), (2, pV d), (16, .slice (some ⟨b, 1, none⟩) n 256), (17, iV (n : Int)), (18, iV (i : Int)), (34, .bool true)] fun lr57 => ?_
    refine yCt ?_
    refine yRt ?_
    repeat (first | simp only [Exit.inBlock] | simp only [Exit.then])
    refine hi_out [] (.tuple #[]) [] (by kernel_rfl) (by intro q hq; cases hq) ⟨⟨_, rfl⟩, ?_⟩
    have h58 := tk3 (sf2 (sf2 (sf1 h55)))
    have h59 := tk2 h58
    exact .inr ⟨(cnt q A i), (by omega), h59⟩
  ·
   refine yBb [] [(31, undef), (30, undef), (29, undef), (28, undef), (27, .bool false), (26, .bool false)] [e1 3 (.bool false), e0 4, e0 5, e0 6, e0 7, e0 8] [] [(.bool (x32.1 == q), .bool false)] ⟨(ov_ef (by omega)), trivial⟩ nC (.mk ?_)
   refine yp_skip (by kernel_rfl) ?_
   refine plain_skip (by kernel_rfl : chkN (RA Try.f76 [1, 1, 0, 0, 1, 1, 0, 0, 1, 0]) 36 _ 9 = some (some 32)) rfl ?_
   refine yB0 [] [10, 11] [(34, .bool false), (33, undef)] (.mk ?_)
   refine yK [(0, .func (Fn.yield k_) #[] #[]), (2, pV d), (16, .slice (some ⟨b, 1, none⟩) n 256), (17, iV (n : Int)), (18, iV (i : Int)), (34, .bool false)] fun lr60 => ?_
   refine yCf ?_
   refine ySk ?_
   refine yPl [0, 1] ?_
   refine yBb [] [(18, iV ((i : Int) + 1)), (35, iV ((i : Int) + 1))] [e1 0 (iV ((i : Int) + 1)), e0 1] [] [(iV (IntKind.wrap .i64 ((i : Int) + 1)), iV ((i : Int) + 1))] ⟨(ov_i64 (by omega) (by omega) (by omega)), trivial⟩ nC (.mk ?_)
   have h61 := tk6 (sf5 (sf4 (sf4 (sf5 (sf5 (sf5 h41))))))
   have h62 : sat g w38 [J_ ((cnt q A (i + 1))), Tb b n A, Cl r35 [iV x32.1, uV x32.2] 110, Cl c [pV b] 72, Cl d [iV q] 3, R] := (show (cnt q A i) = (cnt q A (i + 1)) from (cnt_no hx33 (by omega)).symm) ▸ h61
   have h63 := tk6 (sf5 (sf5 (sf5 (sf3 (sf5 (sf2 h62))))))
   have h64 := tk5 h63
   change ∃ n', n' < _ ∧ _
   refine ⟨(n - (i + 1)), by omega, (i + 1), _, rfl, (by omega), (mk_live [(0, .func (Fn.yield k_) #[] #[]), (2, pV d), (16, .slice (some ⟨b, 1, none⟩) n 256), (17, iV (n : Int)), (18, iV ((((i + 1) : Nat) : Int)))] ⟨rfl, rfl, rfl, rfl, (ov_int (by omega)), trivial⟩), h64⟩
 ·
  refine yBb [] [(19, .bool false)] [e1 0 (.bool false)] [] [(.bool (decide ((i : Int) < (n : Int))), .bool false)] ⟨(ov_f (by omega)), trivial⟩ nC (.mk ?_)
  refine yK [(0, .func (Fn.yield k_) #[] #[]), (2, pV d), (16, .slice (some ⟨b, 1, none⟩) n 256), (17, iV (n : Int)), (18, iV (i : Int)), (19, .bool false)] fun lr65 => ?_
  refine ySq ?_
  refine yCf ?_
  refine yEx 0 ?_
  repeat (first | simp only [Exit.inBlock] | simp only [Exit.then])
  refine hi_outn [] (.tuple #[]) [] (by kernel_rfl) (by intro q hq; cases hq) ⟨⟨_, rfl⟩, ?_⟩
  have he_ : (cnt q A i) = ((inS q A 0).length) := (cnt_all q (by omega))
  exact .inl (he_ ▸ h22)

end Go.Proofs.Ytjjpmehiolejgaa

/- Walks, printed by my generator ../fds/gen4.py. -/
namespace Go.Proofs.Ytjjpmehiolejgaa
set_option maxHeartbeats 4000000 in
theorem take_ht (b n : Nat) (A : List Sl2) : HT Try.prog 59 [Value.pointer (some ⟨b, 0, none⟩)] [Tb b n A] (fun v K => v = Value.tuple #[Value.agg #[Value.int .i64 (takeV A).1, Value.int .u32 (takeV A).2.1], Value.int .i64 (takeV A).2.2] ∧ K = [Tb b n (takeA A)]) := by
 refine hi_in 24 ([(0, pV b)] : Fr) Try.func59 (by kernel_rfl) Try.ntmps59 rfl rfl ?_
 intro g w0 R h0
 refine ySq ?_
 refine yPl [0, 1, 2] ?_
 refine yA ?_
 refine yNp 1 72 [pV b] h0 fun r1 w2 h3 => ?_
 refine yA ?_
 refine yNp 2 34 [iV 0, uV 0] h3 fun r4 w5 h6 => ?_
 refine yA ?_
 refine yNp 3 23 [iV 0] h6 fun r7 w8 h9 => ?_
 refine PO.mk ?_
 refine yK [(0, pV b), (1, pV r1), (2, pV r4), (3, pV r7)] fun lr10 => ?_
 refine ySq ?_
 refine ySq ?_
 refine yPl [0, 1, 2] ?_
 refine yBb [1, 2] [(6, pV b)] [e2 0 [pV b]] [(0, ⟨r1, 0, none⟩, pV b)] [] trivial (kC (sat_cell h9 2 rfl rfl) nC) ?_
 have h11 := tk5 (sf4 (sf3 (sf3 (sf3 (sf4 h9)))))
 refine yA ?_
 refine yCl 7 Try.call69 (svalid_ht b n A) h11 ?_
 rintro v K w12 (⟨rfl, rfl⟩) h13
 refine ⟨_, rfl, ?_⟩
 have h14 := ap1 h13
 refine yB0 [] [2] [(8, .bool false)] (.mk ?_)
 refine yK [(0, pV b), (1, pV r1), (2, pV r4), (3, pV r7), (8, .bool false)] fun lr15 => ?_
 refine yCf ?_
 refine ySk ?_
 refine ySq ?_
 refine ySq ?_
 refine yPl [0, 1] ?_
 refine yBb [1] [(10, pV b)] [e2 0 [pV b]] [(0, ⟨r1, 0, none⟩, pV b)] [] trivial (kC (sat_cell h14 3 rfl rfl) nC) ?_
 refine yA ?_
 refine yCl 11 Try.call70 (in_ht b 0) h14 ?_
 rintro v K w18 (⟨b16, b17, rfl, rfl⟩) h19
 refine ⟨_, rfl, ?_⟩
 have h20 := ap2 h19
 refine PO.mk ?_
 refine yK [(0, pV b), (1, pV r1), (2, pV r4), (3, pV r7), (8, .bool false), (11, .func (Fn.func 76) #[] #[pV b16, pV b17])] fun lr21 => ?_
 refine yBk 0 ?_
 have hb22 := tb_bd (j := 2) h20 rfl
 have hb23 := hb22.2.1; have hb24 := hb22.2.2.1
 have h25 := tk7 (sf6 (sf5 (sf4 (sf3 (sf3 (sf3 (sf6 h20)))))))
 refine gi_rf (x := (Operand.tmp 11)) (ps := #[12, 13]) (asg := CA Try.f59 [1, 1, 0, 1, 0, 1]) (bd := CA Try.f59 [1, 1, 0, 1, 0, 0]) (gf := 76) (cap := [pV b16, pV b17]) (N := ((inS 0 A 0).length)) (xs := fun i => [iV (((((inS 0 A 0).getD i (0, 0)).1 : Nat) : Int)), uV (((inS 0 A 0).getD i (0, 0)).2)]) (At := [Cl b16 [pV b] 72, Cl b17 [iV 0] 3, Tb b n A]) (K0 := [Cl r1 [pV b] 72, Cl r4 [iV 0, uV 0] 34, Cl r7 [iV 0] 23]) (L := [R]) (fun i => [(13, uV (((inS 0 A 0).getD i (0, 0)).2)), (12, iV (((((inS 0 A 0).getD i (0, 0)).1 : Nat) : Int)))] ++ (([(0, pV b), (1, pV r1), (2, pV r4), (3, pV r7), (8, .bool false), (11, .func (Fn.func 76) #[] #[pV b16, pV b17])] : Fr) ++ lr21)) (fun i => ([(5, uV (((inS 0 A 0).getD i (0, 0)).2)), (4, iV (((((inS 0 A 0).getD i (0, 0)).1 : Nat) : Int))), (13, uV (((inS 0 A 0).getD i (0, 0)).2)), (12, iV (((((inS 0 A 0).getD i (0, 0)).1 : Nat) : Int)))] : Fr) ++ (([(0, pV b), (1, pV r1), (2, pV r4), (3, pV r7), (8, .bool false), (11, .func (Fn.func 76) #[] #[pV b16, pV b17])] : Fr) ++ lr21)) (fun i K => (i = 0) ∧ K = [Cl r1 [pV b] 72, Cl r4 [iV 0, uV 0] 34, Cl r7 [iV 0] 23]) (fun c i K => (c = Code.ret ∧ (i = 0) ∧ K = [Cl r1 [pV b] 72, Cl r4 [iV (((((inS 0 A 0).getD i (0, 0)).1 : Nat) : Int)), uV (((inS 0 A 0).getD i (0, 0)).2)] 34, Cl r7 [iV 0] 23, Tb b n (A.set ((inS 0 A 0).getD i (0, 0)).1 (1, ((inS 0 A 0).getD i (0, 0)).2))])) (by kernel_rfl) (by kernel_rfl) Try.call76 (in_it b16 b17 b n 0 A (by omega) (by omega)) ⟨rfl, rfl⟩ h25 (fun _ _ => rfl) (fun _ _ => rf_frame2 rfl rfl) ?_ ?_ ?_ ?_
 ·
  intro i hi_ lp_ w26 K_ hk27
  change WP _ _ (CA Try.f59 [1, 1, 0, 1, 0, 1]) _ (mk 24 (([(13, uV (((inS 0 A 0).getD i (0, 0)).2)), (12, iV (((((inS 0 A 0).getD i (0, 0)).1 : Nat) : Int))), (0, pV b), (1, pV r1), (2, pV r4), (3, pV r7), (8, .bool false), (11, .func (Fn.func 76) #[] #[pV b16, pV b17])] : Fr) ++ lr21)) _
  refine ySq ?_
  refine yPl [0] ?_
  refine yB0 [] [0] [(4, iV (((((inS 0 A 0).getD i (0, 0)).1 : Nat) : Int)))] (.mk ?_)
  refine yPl [0] ?_
  refine yB0 [] [0] [(5, uV (((inS 0 A 0).getD i (0, 0)).2))] (.mk ?_)
  exact hk27
 ·
  rintro i hi30 lp_ w28 K_ G ⟨hz0, rfl⟩ h29
  have h31 : sat g w28 [Cl r1 [pV b] 72, Cl r4 [iV 0, uV 0] 34, Cl r7 [iV 0] 23, Cl b16 [pV b] 72, Cl b17 [iV 0] 3, Tb b n A, G] := h29
  change WP _ _ (CA Try.f59 [1, 1, 0, 1, 0, 0]) _ (mk 24 (([(5, uV (((inS 0 A 0).getD i (0, 0)).2)), (4, iV (((((inS 0 A 0).getD i (0, 0)).1 : Nat) : Int))), (13, uV (((inS 0 A 0).getD i (0, 0)).2)), (12, iV (((((inS 0 A 0).getD i (0, 0)).1 : Nat) : Int))), (0, pV b), (1, pV r1), (2, pV r4), (3, pV r7), (8, .bool false), (11, .func (Fn.func 76) #[] #[pV b16, pV b17])] : Fr) ++ lr21)) _
  obtain ⟨x0, hx0, hx1, hx2⟩ : ∃ x : Sl2, A[((inS 0 A 0).getD i (0, 0)).1]? = some x ∧ x.1 = 0 ∧ x.2 = ((inS 0 A 0).getD i (0, 0)).2 := ⟨_, inS_get hi30, rfl, rfl⟩
  have hlt_ : ((inS 0 A 0).getD i (0, 0)).1 < n := by have h_ := (List.getElem?_eq_some_iff.1 hx0).1; rw [hb22.1] at h_; exact h_
  refine yBk 1 ?_
  refine ySq ?_
  have h32 := tk7 (sf6 (sf5 (sf5 (sf5 (sf5 (sf5 (sf6 h31)))))))
  obtain ⟨T33, hp34, h35⟩ := tb_open h32
  have hq36 := hp34.2.1; have hq37 := hp34.2.2.1; have hq38 := hp34.2.2.2.2
  refine yPl [0, 1, 2, 3, 4, 5, 6] ?_
  refine yBb [4, 5, 6] [(17, .pointer (some ⟨b, 1, none⟩)), (16, pV b), (15, iV (((((inS 0 A 0).getD i (0, 0)).1 : Nat) : Int))), (14, pV b)] [e2 0 [pV b], e0 1, e0 2, e0 3] [(0, ⟨r1, 0, none⟩, pV b)] [] trivial (kC (sat_cell h35 1 rfl rfl) nC) ?_
  refine plain_law (i := 4) 18 (.pointer (some ⟨b, (((inS 0 A 0).getD i (0, 0)).1) * 2 + 1, none⟩)) (by kernel_rfl) (law_indexArr (o := opA (RA Try.f59 [1, 1, 0, 1, 0, 0, 0, 0]) 4) (x := (Operand.tmp 17)) (i := (Operand.tmp 15)) (b := b) (off := 1) (z := (((((inS 0 A 0).getD i (0, 0)).1 : Nat) : Int))) (by kernel_rfl) Try.underlying111 2 (by kernel_rfl) ((((inS 0 A 0).getD i (0, 0)).1)) (by kernel_rfl) (by kernel_rfl) (by omega) (by omega) ((((inS 0 A 0).getD i (0, 0)).1) * 2 + 1) (by omega) _) ?_
  refine yB0 [6] [5] [(19, .pointer (some ⟨b, (((inS 0 A 0).getD i (0, 0)).1) * 2 + 1, none⟩))] ?_
  refine yA ?_
  refine an_store [((((inS 0 A 0).getD i (0, 0)).1) * 2 + 1, iV 1)] (cs' := (tbl n ((A.set ((((inS 0 A 0).getD i (0, 0)).1)) (1, x0.2)) ++ T33))) (by kernel_rfl) (by kernel_rfl) (allq ⟨⟨by rw [tbl_len]; omega, rfl⟩, trivial⟩) (tbl_putSk hx0 1 (by omega)) h35 ?_
  intro w39 h40
  refine PO.mk ?_
  have h41 : sat g w39 [Tb b n (A.set ((((inS 0 A 0).getD i (0, 0)).1)) (1, x0.2)), Cl r1 [pV b] 72, Cl r4 [iV 0, uV 0] 34, Cl r7 [iV 0] 23, Cl b16 [pV b] 72, Cl b17 [iV 0] 3, G] := tb_close ⟨by simp only [List.length_set]; exact hp34.1, hp34.2.1, hp34.2.2.1, (slOk_set hp34.2.2.2.1 (by have hk_ := hp34.2.2.2.1 _ (List.mem_of_getElem? hx0); omega)), by have h_ := hp34.2.2.2.2; simpa using h_⟩ h40
  refine yK [(0, pV b), (1, pV r1), (2, pV r4), (3, pV r7), (4, iV (((((inS 0 A 0).getD i (0, 0)).1 : Nat) : Int))), (5, uV (((inS 0 A 0).getD i (0, 0)).2)), (8, .bool false), (11, .func (Fn.func 76) #[] #[pV b16, pV b17]), (12, iV (((((inS 0 A 0).getD i (0, 0)).1 : Nat) : Int))), (13, uV (((inS 0 A 0).getD i (0, 0)).2))] fun lr42 => ?_
  refine ySq ?_
  refine yPl [0, 1, 2, 3, 4] ?_
  refine yB0 [3, 4] [0, 1, 2] [(22, .agg #[iV (((((inS 0 A 0).getD i (0, 0)).1 : Nat) : Int)), uV (((inS 0 A 0).getD i (0, 0)).2)]), (21, uV (((inS 0 A 0).getD i (0, 0)).2)), (20, iV (((((inS 0 A 0).getD i (0, 0)).1 : Nat) : Int)))] ?_
  have h43 := tk7 (sf6 (sf5 (sf5 (sf6 (sf6 (sf6 (sf6 h41)))))))
  refine yA ?_
  refine yS [(0, iV (((((inS 0 A 0).getD i (0, 0)).1 : Nat) : Int))), (1, uV (((inS 0 A 0).getD i (0, 0)).2))] [iV (((((inS 0 A 0).getD i (0, 0)).1 : Nat) : Int)), uV (((inS 0 A 0).getD i (0, 0)).2)] h43 fun w44 h45 => ?_
  have h46 := tk7 (sf6 (sf5 (sf5 (sf5 (sf6 (sf6 (sf6 h45)))))))
  refine yA ?_
  refine yS [(0, iV 0)] [iV 0] h46 fun w47 h48 => ?_
  refine PO.mk ?_
  refine yK [(0, pV b), (1, pV r1), (2, pV r4), (3, pV r7), (4, iV (((((inS 0 A 0).getD i (0, 0)).1 : Nat) : Int))), (5, uV (((inS 0 A 0).getD i (0, 0)).2)), (8, .bool false), (11, .func (Fn.func 76) #[] #[pV b16, pV b17]), (12, iV (((((inS 0 A 0).getD i (0, 0)).1 : Nat) : Int))), (13, uV (((inS 0 A 0).getD i (0, 0)).2))] fun lr49 => ?_
  refine yRt ?_
  repeat (first | simp only [Exit.inBlock] | simp only [Exit.then])
  have h50 := tk7 (sf6 (sf5 (sf5 (sf6 (sf6 (sf6 (sf6 h48)))))))
  have h51 : sat g w47 [Tb b n (A.set ((inS 0 A 0).getD i (0, 0)).1 (1, ((inS 0 A 0).getD i (0, 0)).2)), Cl r7 [iV 0] 23, Cl r4 [iV (((((inS 0 A 0).getD i (0, 0)).1 : Nat) : Int)), uV (((inS 0 A 0).getD i (0, 0)).2)] 34, Cl r1 [pV b] 72, Cl b16 [pV b] 72, Cl b17 [iV 0] 3, G] := (show (1, x0.2) = ((1, ((inS 0 A 0).getD i (0, 0)).2) : Sl2) from by rw [hx2]) ▸ h50
  have h52 := tk7 (sf6 (sf5 (sf4 (sf3 (sf6 (sf5 (sf5 h51)))))))
  have h53 := tk5 h52
  exact ⟨_, ⟨rfl, hz0, rfl⟩, h53⟩
 ·
  rintro D54 w55 K_ ⟨hz0, rfl⟩ h56
  have h57 : sat g w55 [pt D54 (Obj.deferred (some [])), Cl r1 [pV b] 72, Cl r4 [iV 0, uV 0] 34, Cl r7 [iV 0] 23, Cl b16 [pV b] 72, Cl b17 [iV 0] 3, Tb b n A, R] := h56
  refine yK [(2, pV r4), (3, pV r7)] fun lr58 => ?_
  refine ySq ?_
  refine yPl [0, 1, 2] ?_
  refine yB0 [1, 2] [0] [(23, .agg #[iV 0, uV 0])] ?_
  have h59 := tk8 (sf7 (sf6 (sf6 (sf7 (sf7 (sf7 (sf7 (sf7 h57))))))))
  refine yA ?_
  refine yS [(0, iV 0), (1, uV 0)] [iV 0, uV 0] h59 fun w60 h61 => ?_
  have h62 := tk8 (sf7 (sf6 (sf6 (sf6 (sf7 (sf7 (sf7 (sf7 h61))))))))
  refine yA ?_
  refine yS [(0, iV 4)] [iV 4] h62 fun w63 h64 => ?_
  refine PO.mk ?_
  refine yK [(2, pV r4), (3, pV r7)] fun lr65 => ?_
  refine yRt ?_
  repeat (first | simp only [Exit.inBlock] | simp only [Exit.then])
  have h66 := tk8 (sf7 (sf6 (sf6 (sf7 (sf7 (sf7 (sf7 (sf7 h64))))))))
  refine hi_out1 h66 [iV 0, uV 0, iV 4] (.tuple #[.agg #[iV 0, uV 0], iV 4]) [(⟨r4, 0, none⟩, iV 0), (⟨r4, 1, none⟩, uV 0), (⟨r7, 0, none⟩, iV 4)] (by kernel_rfl) (fun w68 h67 => ⟨?_, ?_⟩)
  · exact (allq ⟨sat_cell h67 2 rfl rfl, sat_cell h67 2 rfl rfl, sat_cell h67 1 rfl rfl, trivial⟩)
  ·
   have h69 : sat g w68 [pt D54 (Obj.deferred none), Cl r7 [iV 4] 23, Cl r4 [iV 0, uV 0] 34, Cl r1 [pV b] 72, Cl b16 [pV b] 72, Cl b17 [iV 0] 3, Tb b n A, R] := h67
   have h70 := tk8 (sf7 (sf6 (sf6 (sf6 (sf6 (sf6 (sf6 (sf7 h69))))))))
   have h71 := tk2 (sf1 (sf7 h70))
   exact ⟨.tuple #[.agg #[iV 0, uV 0], iV 4], [Tb b n A], rfl, ⟨by rw [(take_none (by omega)).1], by rw [(take_none (by omega)).2]⟩, h71⟩
 ·
  rintro D72 w73 ex_ i K_ hi75 (⟨rfl, hz0, rfl⟩) h74
  ·
   have h76 : sat g w73 [pt D72 (Obj.deferred (some [])), Cl r1 [pV b] 72, Cl r4 [iV (((((inS 0 A 0).getD i (0, 0)).1 : Nat) : Int)), uV (((inS 0 A 0).getD i (0, 0)).2)] 34, Cl r7 [iV 0] 23, Tb b n (A.set ((inS 0 A 0).getD i (0, 0)).1 (1, ((inS 0 A 0).getD i (0, 0)).2)), R] := h74
   refine gi_rt rfl ?_
   repeat (first | simp only [Exit.inBlock] | simp only [Exit.then])
   refine hi_out1 h76 [iV (((((inS 0 A 0).getD i (0, 0)).1 : Nat) : Int)), uV (((inS 0 A 0).getD i (0, 0)).2), iV 0] (.tuple #[.agg #[iV (((((inS 0 A 0).getD i (0, 0)).1 : Nat) : Int)), uV (((inS 0 A 0).getD i (0, 0)).2)], iV 0]) [(⟨r4, 0, none⟩, iV (((((inS 0 A 0).getD i (0, 0)).1 : Nat) : Int))), (⟨r4, 1, none⟩, uV (((inS 0 A 0).getD i (0, 0)).2)), (⟨r7, 0, none⟩, iV 0)] (by kernel_rfl) (fun w78 h77 => ⟨?_, ?_⟩)
   · exact (allq ⟨sat_cell h77 2 rfl rfl, sat_cell h77 2 rfl rfl, sat_cell h77 3 rfl rfl, trivial⟩)
   ·
    have h79 : sat g w78 [pt D72 (Obj.deferred none), Cl r1 [pV b] 72, Cl r4 [iV (((((inS 0 A 0).getD i (0, 0)).1 : Nat) : Int)), uV (((inS 0 A 0).getD i (0, 0)).2)] 34, Cl r7 [iV 0] 23, Tb b n (A.set ((inS 0 A 0).getD i (0, 0)).1 (1, ((inS 0 A 0).getD i (0, 0)).2)), R] := h77
    have h80 := tk6 (sf5 (sf4 (sf4 (sf4 (sf4 (sf5 h79))))))
    have h81 := tk2 (sf1 (sf5 h80))
    exact ⟨.tuple #[.agg #[iV (((((inS 0 A 0).getD i (0, 0)).1 : Nat) : Int)), uV (((inS 0 A 0).getD i (0, 0)).2)], iV 0], [Tb b n (A.set ((inS 0 A 0).getD i (0, 0)).1 (1, ((inS 0 A 0).getD i (0, 0)).2))], rfl, ⟨by obtain rfl : i = 0 := (by omega); rw [(take_some (by omega)).1], by obtain rfl : i = 0 := (by omega); rw [(take_some (by omega)).2]⟩, h81⟩

end Go.Proofs.Ytjjpmehiolejgaa

/- Walks, printed by my generator ../fds/gen5.py. -/
namespace Go.Proofs.Ytjjpmehiolejgaa
set_option maxHeartbeats 4000000 in
theorem snew_ok (n : Nat) (hn : 1 ≤ n ∧ n ≤ 256) (gn : Int) (hgn : 1 ≤ gn ∧ gn ≤ 4294967295) : HT Try.prog 35 [Value.int IntKind.i64 (((n : Nat) : Int)), Value.int IntKind.u32 gn] [] (fun v K => ∃ b : Nat, v = Value.tuple #[Value.pointer (some ⟨b, 0, none⟩), Value.int .i64 0] ∧ K = [Tb b n (List.replicate n (0, gn))]) := by
 refine hi_in 35 ([(0, iV (n : Int)), (1, uV gn)] : Fr) Try.func35 (by kernel_rfl) Try.ntmps35 rfl rfl ?_
 intro g w0 R h0
 refine ySq ?_
 refine yPl [0, 1] ?_
 refine yB0 [] [0, 1] [(5, iV 0), (4, .pointer none)] (.mk ?_)
 refine yK [(0, iV (n : Int)), (1, uV gn)] fun lr1 => ?_
 refine ySq ?_
 refine ySq ?_
 refine yPl [0, 1, 2, 3, 4, 5, 6, 7, 8, 9, 10] ?_
 refine yBb [8, 9, 10] [(15, uV gn), (14, .bool false), (13, .bool false), (12, .bool false), (11, iV (n : Int)), (10, .bool false), (9, .bool false), (8, iV (n : Int))] [e0 0, e1 1 (.bool false), e0 2, e0 3, e1 4 (.bool false), e0 5, e0 6, e0 7] [] [(.bool (decide ((n : Int) < 1)), .bool false), (.bool (decide ((n : Int) > 256)), .bool false)] ⟨(ov_f (by omega)), (ov_f (by omega)), trivial⟩ nC ?_
 refine yA ?_
 refine yCl 16 Try.call55 (gcheck_ok gn (by omega) (by omega)) h0 ?_
 rintro v K w2 (⟨rfl, rfl⟩) h3
 refine ⟨_, rfl, ?_⟩
 have h4 := ap0 h3
 refine yB0 [] [9, 10] [(18, .bool false), (17, .bool false)] (.mk ?_)
 refine yK [(0, iV (n : Int)), (1, uV gn), (18, .bool false)] fun lr5 => ?_
 refine yCf ?_
 refine ySk ?_
 refine ySq ?_
 refine yPl [0, 1, 2, 3] ?_
 refine yB0 [2, 3] [0, 1] [(20, .agg (tbl n (List.replicate 256 (0, 0))).toArray), (19, iV (n : Int))] ?_
 refine yA ?_
 refine an_new (d := 21) (fun xb_ => pV xb_) (fun xb_ => Obj.cells (tbl n (List.replicate 256 (0, 0))).toArray 113 (0, 0)) (fun xb_ => by kernel_rfl) (by kernel_rfl) rfl h4 ?_
 intro r6 w7 (h8 : sat g w7 [Cl r6 (tbl n (List.replicate 0 (0, gn) ++ List.replicate (256 - 0) (0, 0))) 113, R])
 refine yB0 [] [3] [(6, pV r6)] (.mk ?_)
 refine yK [(0, iV (n : Int)), (1, uV gn), (6, pV r6)] fun lr9 => ?_
 refine ySq ?_
 refine ySq ?_
 refine yPl [0, 1] ?_
 refine yB0 [] [0, 1] [(23, iV 0), (22, iV (n : Int))] (.mk ?_)
 refine yK [(1, uV gn), (6, pV r6), (22, iV (n : Int)), (23, iV 0)] fun lr10 => ?_
 refine yBk 0 ?_
 refine gi_lp (x := CA Try.f35 [1, 1, 1, 0, 1, 0, 0]) (by kernel_rfl) (fun mz_ a w => ∃ i : Nat, ∃ lr : Fr, mz_ = n - i ∧ (i ≤ n) ∧ a = mk 35 (([(1, uV gn), (6, pV r6), (22, iV (n : Int)), (23, iV (i : Int))] : Fr) ++ lr) ∧ sat g w [Cl r6 (tbl n (List.replicate i (0, gn) ++ List.replicate (256 - i) (0, 0))) 113, R]) (n - 0) ⟨0, _, rfl, (Nat.zero_le _), (mk_live [(1, uV gn), (6, pV r6), (22, iV (n : Int)), (23, iV (0 : Int))] ⟨rfl, rfl, rfl, (ov_int (by omega)), trivial⟩), h8⟩ ?_
 rintro m12 a13 w14 ⟨i, lr11, rfl, hi, rfl, h15⟩
 refine ySq ?_
 refine yPl [0] ?_
 by_cases c16 : (i : Int) < (n : Int)
 ·
  refine yBb [] [(24, .bool true)] [e1 0 (.bool true)] [] [(.bool (decide ((i : Int) < (n : Int))), .bool true)] ⟨(ov_t (by omega)), trivial⟩ nC (.mk ?_)
  refine yK [(1, uV gn), (6, pV r6), (22, iV (n : Int)), (23, iV (i : Int)), (24, .bool true)] fun lr17 => ?_
  refine ySq ?_
  refine yCt ?_
  refine ySk ?_
  refine ySq ?_
  refine yBk 1 ?_
  refine ySq ?_
  refine yPl [0, 1] ?_
  refine yB0 [] [0, 1] [(7, iV (i : Int)), (25, iV (i : Int))] (.mk ?_)
  refine yK [(1, uV gn), (6, pV r6), (7, iV (i : Int)), (22, iV (n : Int)), (23, iV (i : Int))] fun lr18 => ?_
  refine yPl [0, 1, 2, 3, 4, 5, 6, 7] ?_
  refine yB0 [5, 6, 7] [0, 1, 2, 3, 4] [(30, .pointer (some ⟨r6, 1, none⟩)), (29, pV r6), (28, uV gn), (27, iV (i : Int)), (26, pV r6)] ?_
  refine plain_law (i := 5) 31 (.pointer (some ⟨r6, i * 2 + 1, none⟩)) (by kernel_rfl) (law_indexArr (o := opA (RA Try.f35 [1, 1, 1, 0, 1, 0, 0, 1, 1, 0, 0, 1]) 5) (x := (Operand.tmp 30)) (i := (Operand.tmp 27)) (b := r6) (off := 1) (z := (i : Int)) (by kernel_rfl) Try.underlying111 2 (by kernel_rfl) i (by kernel_rfl) (by kernel_rfl) (by omega) (by omega) (i * 2 + 1) (by omega) _) ?_
  refine yB0 [7] [6] [(32, .pointer (some ⟨r6, i * 2 + 2, none⟩))] ?_
  refine yA ?_
  refine an_store [(i * 2 + 2, uV gn)] (cs' := (tbl n (List.replicate (i + 1) (0, gn) ++ List.replicate (256 - (i + 1)) (0, 0)))) (by kernel_rfl) (by kernel_rfl) (allq ⟨⟨by rw [tbl_len, List.length_append, List.length_replicate, List.length_replicate]; omega, rfl⟩, trivial⟩) (new_put (i := i) (by omega) (by omega)) h15 ?_
  intro w19 h20
  refine PO.mk ?_
  refine yK [(1, uV gn), (6, pV r6), (22, iV (n : Int)), (23, iV (i : Int))] fun lr21 => ?_
  refine yPl [0, 1] ?_
  refine yBb [] [(23, iV ((i : Int) + 1)), (33, iV ((i : Int) + 1))] [e1 0 (iV ((i : Int) + 1)), e0 1] [] [(iV (IntKind.wrap .i64 ((i : Int) + 1)), iV ((i : Int) + 1))] ⟨(ov_i64 (by omega) (by omega) (by omega)), trivial⟩ nC (.mk ?_)
  change ∃ n', n' < _ ∧ _
  refine ⟨(n - (i + 1)), by omega, (i + 1), _, rfl, (by omega), (mk_live [(1, uV gn), (6, pV r6), (22, iV (n : Int)), (23, iV ((((i + 1) : Nat) : Int)))] ⟨rfl, rfl, rfl, (ov_int (by omega)), trivial⟩), h20⟩
 ·
  refine yBb [] [(24, .bool false)] [e1 0 (.bool false)] [] [(.bool (decide ((i : Int) < (n : Int))), .bool false)] ⟨(ov_f (by omega)), trivial⟩ nC (.mk ?_)
  refine yK [(1, uV gn), (6, pV r6), (22, iV (n : Int)), (23, iV (i : Int)), (24, .bool false)] fun lr22 => ?_
  refine ySq ?_
  refine yCf ?_
  refine yEx 0 ?_
  refine ySq ?_
  refine yPl [0, 1, 2] ?_
  refine yB0 [] [0, 1, 2] [(5, iV 0), (4, pV r6), (34, pV r6)] (.mk ?_)
  refine yK [(4, pV r6), (5, iV 0)] fun lr23 => ?_
  refine yRt ?_
  repeat (first | simp only [Exit.inBlock] | simp only [Exit.then])
  obtain rfl : i = n := by omega
  have h24 : sat g w14 [Tb r6 i (List.replicate i (0, gn)), R] := tb_close (new_ok (by omega) (by omega) (by omega) (by omega)) h15
  refine hi_out [] (.tuple #[pV r6, iV 0]) [] (by kernel_rfl) (by intro q hq; cases hq) ?_
  exact ⟨.tuple #[pV r6, iV 0], [Tb r6 i (List.replicate i (0, gn))], rfl, ⟨r6, rfl, rfl⟩, h24⟩

set_option maxHeartbeats 4000000 in
theorem free1_y (s gn : Int) (hs : s = 0) : HT Try.prog 58 [Value.agg #[Value.int IntKind.i64 s, Value.int IntKind.u32 gn]] [] (fun v K => v = Value.bool true ∧ K = []) := by
 refine hi_in 6 ([(0, .agg #[iV s, uV gn])] : Fr) Try.func58 (by kernel_rfl) Try.ntmps58 rfl rfl ?_
 intro g w0 R h0
 refine ySq ?_
 refine yPl [0, 1] ?_
 refine yA ?_
 refine yNp 1 110 [iV s, uV gn] h0 fun r1 w2 h3 => ?_
 refine yB0 [] [1] [(2, .bool false)] (.mk ?_)
 refine yK [(1, pV r1)] fun lr4 => ?_
 refine ySq ?_
 refine yPl [0, 1, 2, 3] ?_
 refine yBb [] [(2, .bool true), (5, .bool true), (4, iV s), (3, pV r1)] [e0 0, e2 1 [iV s], e1 2 (.bool true), e0 3] [(1, ⟨r1, 0, none⟩, iV s)] [(.bool (s == 0), .bool true)] ⟨(ov_et (by omega)), trivial⟩ (kC (sat_cell h3 0 rfl rfl) nC) (.mk ?_)
 refine yK [(2, .bool true)] fun lr5 => ?_
 refine yRt ?_
 repeat (first | simp only [Exit.inBlock] | simp only [Exit.then])
 have h6 := tk1 (sf1 h3)
 refine hi_out [] (.bool true) [] (by kernel_rfl) (by intro q hq; cases hq) ?_
 exact ⟨.bool true, [], rfl, ⟨rfl, rfl⟩, h6⟩

set_option maxHeartbeats 4000000 in
theorem free1_n (s gn : Int) (hs : ¬ s = 0) : HT Try.prog 58 [Value.agg #[Value.int IntKind.i64 s, Value.int IntKind.u32 gn]] [] (fun v K => v = Value.bool false ∧ K = []) := by
 refine hi_in 6 ([(0, .agg #[iV s, uV gn])] : Fr) Try.func58 (by kernel_rfl) Try.ntmps58 rfl rfl ?_
 intro g w0 R h0
 refine ySq ?_
 refine yPl [0, 1] ?_
 refine yA ?_
 refine yNp 1 110 [iV s, uV gn] h0 fun r1 w2 h3 => ?_
 refine yB0 [] [1] [(2, .bool false)] (.mk ?_)
 refine yK [(1, pV r1)] fun lr4 => ?_
 refine ySq ?_
 refine yPl [0, 1, 2, 3] ?_
 refine yBb [] [(2, .bool false), (5, .bool false), (4, iV s), (3, pV r1)] [e0 0, e2 1 [iV s], e1 2 (.bool false), e0 3] [(1, ⟨r1, 0, none⟩, iV s)] [(.bool (s == 0), .bool false)] ⟨(ov_ef (by omega)), trivial⟩ (kC (sat_cell h3 0 rfl rfl) nC) (.mk ?_)
 refine yK [(2, .bool false)] fun lr5 => ?_
 refine yRt ?_
 repeat (first | simp only [Exit.inBlock] | simp only [Exit.then])
 have h6 := tk1 (sf1 h3)
 refine hi_out [] (.bool false) [] (by kernel_rfl) (by intro q hq; cases hq) ?_
 exact ⟨.bool false, [], rfl, ⟨rfl, rfl⟩, h6⟩

set_option maxHeartbeats 4000000 in
theorem count0_ht (b n : Nat) (A : List Sl2) : HT Try.prog 57 [Value.pointer (some ⟨b, 0, none⟩), Value.func (Fn.func 58) #[] #[]] [Tb b n A] (fun v K => v = Value.int IntKind.i64 ((((inS 0 A 0).length : Nat) : Int)) ∧ K = [Tb b n A]) := by
 refine hi_in 31 ([(0, pV b), (1, .func (Fn.func 58) #[] #[])] : Fr) Try.func57 (by kernel_rfl) Try.ntmps57 rfl rfl ?_
 intro g w0 R h0
 obtain ⟨T1, hp2, h3⟩ := tb_open h0
 have hq4 := hp2.2.1; have hq5 := hp2.2.2.1; have hq6 := hp2.2.2.2.2
 have hAl := hp2.1
 refine ySq ?_
 refine yPl [0] ?_
 refine yB0 [] [0] [(4, iV 0)] (.mk ?_)
 refine yK [(0, pV b), (1, .func (Fn.func 58) #[] #[])] fun lr7 => ?_
 refine ySq ?_
 refine ySq ?_
 refine yPl [0, 1, 2] ?_
 refine yB0 [1, 2] [0] [(8, pV b)] ?_
 refine yA ?_
 refine yCl 9 Try.call69 (svalid_cl b n _ (by omega)) h3 ?_
 rintro v K w8 (⟨rfl, rfl⟩) h9
 refine ⟨_, rfl, ?_⟩
 have h10 := ap1 h9
 refine yB0 [] [2] [(10, .bool false)] (.mk ?_)
 refine yK [(0, pV b), (1, .func (Fn.func 58) #[] #[]), (10, .bool false)] fun lr11 => ?_
 refine yCf ?_
 refine ySk ?_
 refine ySq ?_
 refine yPl [0] ?_
 refine yB0 [] [0] [(5, iV 0)] (.mk ?_)
 refine yK [(0, pV b), (1, .func (Fn.func 58) #[] #[]), (5, iV 0)] fun lr12 => ?_
 refine ySq ?_
 refine ySq ?_
 refine gi_drw (id := 4) (ops := RA Try.f57 [1, 1, 1, 0, 0]) (Tr.fl 0 (Tr.fl 1 (Tr.fl 2 (Tr.fl 3 (Tr.fl 4 (Tr.fl 5 (Tr.fl 6 (Tr.fl 7 (Tr.fl 8 (Tr.fl 9 Tr.nil)))))))))) (by kernel_rfl) (by kernel_rfl) (by kernel_rfl) (by kernel_rfl) (by kernel_rfl) (fun _ _ d _ _ h => by cases d <;> exact h) h10 ?_
 intro w13 h14
 refine yD _ [(17, iV (n : Int)), (16, pV b), (15, pV b), (14, pV b), (13, .pointer (some ⟨b, 1, none⟩)), (12, pV b), (11, pV b)] [e0 0, e0 1, e0 2, e0 3, e0 4, e0 5, e2 6 [iV (n : Int)]] [(6, ⟨b, 0, none⟩, iV (n : Int))] [] trivial (kC (sat_cell h14 0 rfl rfl) nC) ?_
 refine draw_law (i := 7) 18 (.slice (some ⟨b, 1, none⟩) n 256) [] (by kernel_rfl) (fun _ _ => law_sliceArr (o := opA (RA Try.f57 [1, 1, 1, 0, 0]) 7) (x := (Operand.tmp 13)) (lo := none) (hi := (some (Operand.tmp 17))) (b := b) (off := 1) (by kernel_rfl) Try.underlying111 2 (by kernel_rfl) 0 (n : Int) 0 n (by kernel_rfl) rfl (show fe _ _ (Operand.tmp 17) = _ from by kernel_rfl) (by omega) (by omega) (by omega) (by omega) 1 (by split <;> omega) n 256 (by omega) (by omega) _) (by intro q hq; cases hq) ?_
 refine yD _ [(20, iV 0), (19, iV (n : Int))] [e0 8, e0 9] [] [] trivial nC ?_
 refine yK [(1, .func (Fn.func 58) #[] #[]), (5, iV 0), (18, .slice (some ⟨b, 1, none⟩) n 256), (19, iV (n : Int)), (20, iV 0)] fun lr15 => ?_
 refine yBk 0 ?_
 have hc0_ : cnt 0 A 0 = 0 := rfl
 refine gi_lp (x := CA Try.f57 [1, 1, 1, 0, 1, 0, 0]) (by kernel_rfl) (fun mz_ a w => ∃ i : Nat, ∃ lr : Fr, mz_ = n - i ∧ (i ≤ n) ∧ a = mk 31 (([(1, .func (Fn.func 58) #[] #[]), (5, iV (((cnt 0 A i : Nat) : Int))), (18, .slice (some ⟨b, 1, none⟩) n 256), (19, iV (n : Int)), (20, iV (i : Int))] : Fr) ++ lr) ∧ sat g w [Cl b (tbl n (A ++ T1)) 113, R]) (n - 0) ⟨0, _, rfl, (Nat.zero_le _), (mk_live [(1, .func (Fn.func 58) #[] #[]), (5, iV (((cnt 0 A 0 : Nat) : Int))), (18, .slice (some ⟨b, 1, none⟩) n 256), (19, iV (n : Int)), (20, iV (0 : Int))] ⟨rfl, (ov_int (by omega)), rfl, rfl, (ov_int (by omega)), trivial⟩), h14⟩ ?_
 rintro m17 a18 w19 ⟨i, lr16, rfl, hi, rfl, h20⟩
 have hc1_ := cnt_le 0 A i; have hc2_ := inS_len 0 A 0
 have hc3_ : cnt 0 A i ≤ n := by omega
 refine ySq ?_
 refine yPl [0] ?_
 by_cases c21 : (i : Int) < (n : Int)
 ·
  refine yBb [] [(21, .bool true)] [e1 0 (.bool true)] [] [(.bool (decide ((i : Int) < (n : Int))), .bool true)] ⟨(ov_t (by omega)), trivial⟩ nC (.mk ?_)
  refine yK [(1, .func (Fn.func 58) #[] #[]), (5, iV (((cnt 0 A i : Nat) : Int))), (18, .slice (some ⟨b, 1, none⟩) n 256), (19, iV (n : Int)), (20, iV (i : Int)), (21, .bool true)] fun lr22 => ?_
  refine ySq ?_
  refine yCt ?_
  refine ySk ?_
  refine ySq ?_
  refine yBk 1 ?_
  refine ySq ?_
  refine yPl [0, 1, 2, 3] ?_
  refine plain_law (i := 0) 22 (.pointer (some ⟨b, i * 2 + 1, none⟩)) (by kernel_rfl) (law_indexSl (o := opA (RA Try.f57 [1, 1, 1, 0, 1, 0, 0, 1, 1, 0, 0, 0]) 0) (x := (Operand.tmp 18)) (i := (Operand.tmp 20)) (b := b) (off := 1) (z := (i : Int)) (len := n) (cap := 256) (by kernel_rfl) Try.underlying131 2 (by kernel_rfl) i (by kernel_rfl) (by kernel_rfl) (by omega) (by omega) (i * 2 + 1) (by omega) _) ?_
  obtain ⟨x23, hx24⟩ : ∃ x : Sl2, A[i]? = some x := ⟨_, List.getElem?_eq_getElem (by rw [hp2.1]; omega)⟩
  have hb25 := hp2.2.2.2.1 x23 (List.mem_of_getElem? hx24)
  refine yBb [2, 3] [(23, .agg #[iV x23.1, uV x23.2])] [e2 1 [iV x23.1, uV x23.2]] [(1, ⟨b, i * 2 + 1, none⟩, iV x23.1), (1, ⟨b, i * 2 + 2, none⟩, uV x23.2)] [] trivial (kC (sat_cell h20 0 rfl (tbl_stk (app_get hx24) (by omega))) (kC (sat_cell h20 0 rfl (tbl_genk (app_get hx24) (by omega))) nC)) ?_
  refine yA ?_
  refine yNp 7 110 [iV 0, uV 0] h20 fun r26 w27 h28 => ?_
  refine yA ?_
  refine yS [(0, iV x23.1), (1, uV x23.2)] [iV x23.1, uV x23.2] h28 fun w29 h30 => ?_
  refine PO.mk ?_
  refine yK [(1, .func (Fn.func 58) #[] #[]), (5, iV (((cnt 0 A i : Nat) : Int))), (7, pV r26), (18, .slice (some ⟨b, 1, none⟩) n 256), (19, iV (n : Int)), (20, iV (i : Int))] fun lr31 => ?_
  refine ySq ?_
  refine yPl [0, 1, 2] ?_
  refine yBb [2] [(25, .agg #[iV x23.1, uV x23.2]), (24, .func (Fn.func 58) #[] #[])] [e0 0, e2 1 [iV x23.1, uV x23.2]] [(1, ⟨r26, 0, none⟩, iV x23.1), (1, ⟨r26, 1, none⟩, uV x23.2)] [] trivial (kC (sat_cell h30 0 rfl rfl) (kC (sat_cell h30 0 rfl rfl) nC)) ?_
  by_cases c32 : x23.1 = 0
  ·
   refine yA ?_
   refine yCl 26 Try.call58 (free1_y x23.1 x23.2 (by omega)) h30 ?_
   rintro v K w33 (⟨rfl, rfl⟩) h34
   refine ⟨_, rfl, ?_⟩
   have h35 := ap0 h34
   refine PO.mk ?_
   refine yK [(1, .func (Fn.func 58) #[] #[]), (5, iV (((cnt 0 A i : Nat) : Int))), (18, .slice (some ⟨b, 1, none⟩) n 256), (19, iV (n : Int)), (20, iV (i : Int)), (26, .bool true)] fun lr36 => ?_
   refine yCt ?_
   refine yPl [0, 1, 2] ?_
   refine yBb [] [(5, iV (((cnt 0 A i : Nat) : Int) + 1)), (28, iV (((cnt 0 A i : Nat) : Int) + 1)), (27, iV (((cnt 0 A i : Nat) : Int)))] [e0 0, e1 1 (iV (((cnt 0 A i : Nat) : Int) + 1)), e0 2] [] [(iV (IntKind.wrap .i64 ((((cnt 0 A i : Nat) : Int)) + 1)), iV (((cnt 0 A i : Nat) : Int) + 1))] ⟨(ov_i64 (by omega) (by omega) (by omega)), trivial⟩ nC (.mk ?_)
   refine yK [(1, .func (Fn.func 58) #[] #[]), (5, iV (((cnt 0 A i : Nat) : Int) + 1)), (18, .slice (some ⟨b, 1, none⟩) n 256), (19, iV (n : Int)), (20, iV (i : Int))] fun lr37 => ?_
   refine yPl [0, 1] ?_
   refine yBb [] [(20, iV ((i : Int) + 1)), (29, iV ((i : Int) + 1))] [e1 0 (iV ((i : Int) + 1)), e0 1] [] [(iV (IntKind.wrap .i64 ((i : Int) + 1)), iV ((i : Int) + 1))] ⟨(ov_i64 (by omega) (by omega) (by omega)), trivial⟩ nC (.mk ?_)
   have hc_ : cnt 0 A (i + 1) = (cnt 0 A i) + 1 := cnt_go hx24 (by omega)
   have h38 := tk3 (sf2 (sf2 h35))
   have h39 := tk2 h38
   change ∃ n', n' < _ ∧ _
   refine ⟨(n - (i + 1)), by omega, (i + 1), _, rfl, (by omega), (mk_live [(1, .func (Fn.func 58) #[] #[]), (5, iV (((cnt 0 A (i + 1) : Nat) : Int))), (18, .slice (some ⟨b, 1, none⟩) n 256), (19, iV (n : Int)), (20, iV ((((i + 1) : Nat) : Int)))] ⟨rfl, (ov_int (by omega)), rfl, rfl, (ov_int (by omega)), trivial⟩), h39⟩
  ·
   refine yA ?_
   refine yCl 26 Try.call58 (free1_n x23.1 x23.2 (by omega)) h30 ?_
   rintro v K w40 (⟨rfl, rfl⟩) h41
   refine ⟨_, rfl, ?_⟩
   have h42 := ap0 h41
   refine PO.mk ?_
   refine yK [(1, .func (Fn.func 58) #[] #[]), (5, iV (((cnt 0 A i : Nat) : Int))), (18, .slice (some ⟨b, 1, none⟩) n 256), (19, iV (n : Int)), (20, iV (i : Int)), (26, .bool false)] fun lr43 => ?_
   refine yCf ?_
   refine ySk ?_
   refine yPl [0, 1] ?_
   refine yBb [] [(20, iV ((i : Int) + 1)), (29, iV ((i : Int) + 1))] [e1 0 (iV ((i : Int) + 1)), e0 1] [] [(iV (IntKind.wrap .i64 ((i : Int) + 1)), iV ((i : Int) + 1))] ⟨(ov_i64 (by omega) (by omega) (by omega)), trivial⟩ nC (.mk ?_)
   have hc_ : cnt 0 A (i + 1) = (cnt 0 A i) := cnt_no hx24 (by omega)
   have h44 := tk3 (sf2 (sf2 h42))
   have h45 := tk2 h44
   change ∃ n', n' < _ ∧ _
   refine ⟨(n - (i + 1)), by omega, (i + 1), _, rfl, (by omega), (mk_live [(1, .func (Fn.func 58) #[] #[]), (5, iV (((cnt 0 A (i + 1) : Nat) : Int))), (18, .slice (some ⟨b, 1, none⟩) n 256), (19, iV (n : Int)), (20, iV ((((i + 1) : Nat) : Int)))] ⟨rfl, (ov_int (by omega)), rfl, rfl, (ov_int (by omega)), trivial⟩), h45⟩
 ·
  refine yBb [] [(21, .bool false)] [e1 0 (.bool false)] [] [(.bool (decide ((i : Int) < (n : Int))), .bool false)] ⟨(ov_f (by omega)), trivial⟩ nC (.mk ?_)
  refine yK [(1, .func (Fn.func 58) #[] #[]), (5, iV (((cnt 0 A i : Nat) : Int))), (18, .slice (some ⟨b, 1, none⟩) n 256), (19, iV (n : Int)), (20, iV (i : Int)), (21, .bool false)] fun lr46 => ?_
  refine ySq ?_
  refine yCf ?_
  refine yEx 0 ?_
  refine ySq ?_
  refine yPl [0, 1] ?_
  refine yB0 [] [0, 1] [(4, iV (((cnt 0 A i : Nat) : Int))), (30, iV (((cnt 0 A i : Nat) : Int)))] (.mk ?_)
  refine yK [(4, iV (((cnt 0 A i : Nat) : Int)))] fun lr47 => ?_
  refine yRt ?_
  repeat (first | simp only [Exit.inBlock] | simp only [Exit.then])
  have hc_ : cnt 0 A i = (inS 0 A 0).length := cnt_all 0 (by omega)
  have h48 : sat g w19 [Tb b n A, R] := tb_close hp2 h20
  refine hi_out [] (iV (((cnt 0 A i : Nat) : Int))) [] (by kernel_rfl) (by intro q hq; cases hq) ?_
  exact ⟨iV (((cnt 0 A i : Nat) : Int)), [Tb b n A], rfl, ⟨by rw [hc_], rfl⟩, h48⟩

set_option maxHeartbeats 4000000 in
theorem sfree_ht (b n : Nat) (A : List Sl2) : HT Try.prog 42 [Value.pointer (some ⟨b, 0, none⟩)] [Tb b n A] (fun v K => v = Value.int IntKind.i64 ((((inS 0 A 0).length : Nat) : Int)) ∧ K = [Tb b n A]) := by
 refine hi_in 5 ([(0, pV b)] : Fr) Try.func42 (by kernel_rfl) Try.ntmps42 rfl rfl ?_
 intro g w0 R h0
 refine ySq ?_
 refine yPl [0] ?_
 refine yB0 [] [0] [(2, iV 0)] (.mk ?_)
 refine yK [(0, pV b)] fun lr1 => ?_
 refine ySq ?_
 refine yPl [0, 1, 2] ?_
 refine yB0 [1, 2] [0] [(3, pV b)] ?_
 refine yA ?_
 refine yCl 4 Try.call57 (count0_ht b n A) h0 ?_
 rintro v K w2 (⟨rfl, rfl⟩) h3
 refine ⟨_, rfl, ?_⟩
 have h4 := ap1 h3
 refine yB0 [] [2] [(2, iV ((((inS 0 A 0).length : Nat) : Int)))] (.mk ?_)
 refine yK [(2, iV ((((inS 0 A 0).length : Nat) : Int)))] fun lr5 => ?_
 refine yRt ?_
 repeat (first | simp only [Exit.inBlock] | simp only [Exit.then])
 refine hi_out [] (iV ((((inS 0 A 0).length : Nat) : Int))) [] (by kernel_rfl) (by intro q hq; cases hq) ?_
 exact ⟨iV ((((inS 0 A 0).length : Nat) : Int)), [Tb b n A], rfl, ⟨rfl, rfl⟩, h4⟩

end Go.Proofs.Ytjjpmehiolejgaa

/- Walks, printed by my generator ../fds/gen6.py. -/
namespace Go.Proofs.Ytjjpmehiolejgaa
set_option maxHeartbeats 4000000 in
theorem give_ht (b n : Nat) (A : List Sl2) (q : Nat) (x : Sl2) (hx : A[q]? = some x) (ix gn : Int) (hc : ix = (q : Int) ∧ x.1 = 1 ∧ x.2 = gn) : HT Try.prog 60 [Value.pointer (some ⟨b, 0, none⟩), Value.agg #[Value.int IntKind.i64 ix, Value.int IntKind.u32 gn]] [Tb b n A] (fun v K => v = Value.int .i64 0 ∧ K = [Tb b n (giveA A q gn)]) := by
 refine hi_in 38 ([(0, pV b), (1, .agg #[iV ix, uV gn])] : Fr) Try.func60 (by kernel_rfl) Try.ntmps60 rfl rfl ?_
 intro g w0 R h0
 have hb1 := tb_bd (j := 0) h0 rfl
 have hq_ : q < n := by have h_ := (List.getElem?_eq_some_iff.1 hx).1; rw [hb1.1] at h_; exact h_
 have hx_ := hb1.2.2.2 x (List.mem_of_getElem? hx)
 have hb1_ := hb1.2.1; have hb2_ := hb1.2.2.1; have hb3_ := hb1.2.2.2
 refine ySq ?_
 refine yPl [0, 1] ?_
 refine yA ?_
 refine yNp 3 34 [iV ix, uV gn] h0 fun r2 w3 h4 => ?_
 refine yB0 [] [1] [(4, iV 0)] (.mk ?_)
 refine yK [(0, pV b), (3, pV r2)] fun lr5 => ?_
 refine ySq ?_
 refine ySq ?_
 refine yPl [0, 1, 2, 3] ?_
 refine yBb [2, 3] [(10, .agg #[iV ix, uV gn]), (9, pV b)] [e0 0, e2 1 [iV ix, uV gn]] [(1, ⟨r2, 0, none⟩, iV ix), (1, ⟨r2, 1, none⟩, uV gn)] [] trivial (kC (sat_cell h4 0 rfl rfl) (kC (sat_cell h4 0 rfl rfl) nC)) ?_
 have h6 := tk3 (sf2 (sf1 (sf2 h4)))
 refine yA ?_
 refine yCl 11 Try.call71 (check_ok b n A q x hx ix gn (by omega)) h6 ?_
 rintro v K w7 (⟨rfl, rfl⟩) h8
 refine ⟨_, rfl, ?_⟩
 have h9 := ap1 h8
 refine yB0 [] [3] [(5, iV 0)] (.mk ?_)
 refine yK [(0, pV b), (3, pV r2), (5, iV 0)] fun lr10 => ?_
 refine ySq ?_
 refine yPl [0, 1] ?_
 refine yB0 [] [0, 1] [(13, .bool false), (12, iV 0)] (.mk ?_)
 refine yK [(0, pV b), (3, pV r2), (5, iV 0), (13, .bool false)] fun lr11 => ?_
 refine yCf ?_
 refine ySk ?_
 refine ySq ?_
 refine ySq ?_
 refine yPl [0, 1, 2, 3, 4, 5, 6, 7, 8, 9] ?_
 refine yBb [2, 3, 4, 5, 6, 7, 8, 9] [(17, uV gn), (16, .pointer (some ⟨r2, 1, none⟩))] [e0 0, e2 1 [uV gn]] [(1, ⟨r2, 1, none⟩, uV gn)] [] trivial (kC (sat_cell h9 1 rfl rfl) nC) ?_
 by_cases c12 : gn < 4294967295
 ·
  refine yA ?_
  refine yCl 18 Try.call72 (next_ok gn (by omega) (by omega)) h9 ?_
  rintro v K w13 (⟨rfl, rfl⟩) h14
  refine ⟨_, rfl, ?_⟩
  have h15 := ap0 h14
  refine yB0 [] [3, 4, 5, 6, 7, 8, 9] [(8, iV 0), (7, .bool true), (6, uV (gn + 1)), (21, iV 0), (20, .bool true), (19, uV (gn + 1)), (15, .tuple #[uV (gn + 1), .bool true, iV 0])] (.mk ?_)
  refine yK [(0, pV b), (3, pV r2), (6, uV (gn + 1)), (7, .bool true)] fun lr16 => ?_
  refine ySq ?_
  refine yPl [0] ?_
  refine yB0 [] [0] [(22, .bool true)] (.mk ?_)
  refine yK [(0, pV b), (3, pV r2), (6, uV (gn + 1)), (22, .bool true)] fun lr17 => ?_
  refine yCt ?_
  obtain ⟨T18, hp19, h20⟩ := tb_open h15
  have hq21 := hp19.2.1; have hq22 := hp19.2.2.1; have hq23 := hp19.2.2.2.2
  refine gi_drw (id := 6) (ops := RA Try.f60 [1, 1, 0, 1, 1, 0]) (Tr.fl 0 (Tr.fl 1 (Tr.fl 2 (Tr.fl 3 (Tr.fl 4 (Tr.fl 5 (Tr.fl 6 (Tr.fl 7 (Tr.an 8 Tr.nil))))))))) (by kernel_rfl) (by kernel_rfl) (by kernel_rfl) (by kernel_rfl) (by kernel_rfl) (fun _ _ d _ _ h => by cases d <;> exact h) h20 ?_
  intro w24 h25
  refine yD _ [(29, .pointer (some ⟨b, 1, none⟩)), (28, pV b), (27, .agg #[iV 0, uV (gn + 1)]), (26, uV (gn + 1)), (25, iV ix), (24, pV r2), (23, pV b)] [e0 0, e0 1, e2 2 [iV ix], e0 3, e0 4, e0 5, e0 6] [(2, ⟨r2, 0, none⟩, iV ix)] [] trivial (kC (sat_cell h25 1 rfl rfl) nC) ?_
  refine draw_law (i := 7) 30 (.pointer (some ⟨b, q * 2 + 1, none⟩)) [] (by kernel_rfl) (fun _ _ => law_indexArr (o := opA (RA Try.f60 [1, 1, 0, 1, 1, 0]) 7) (x := (Operand.tmp 29)) (i := (Operand.tmp 25)) (b := b) (off := 1) (z := ix) (by kernel_rfl) Try.underlying111 2 (by kernel_rfl) q (by kernel_rfl) (by kernel_rfl) (by omega) (by omega) (q * 2 + 1) (by omega) _) (by intro q hq; cases hq) ?_
  refine draw_act (i := 8) [] (by kernel_rfl) (by kernel_rfl) ?_
  refine an_store [(q * 2 + 1, iV 0), (q * 2 + 2, uV (gn + 1))] (cs' := (tbl n ((A.set q (0, gn + 1)) ++ T18))) (by kernel_rfl) (by kernel_rfl) (allq ⟨⟨by rw [tbl_len]; omega, rfl⟩, ⟨by rw [tbl_len]; omega, rfl⟩, trivial⟩) (tbl_put2k hx 0 (gn + 1) (by omega) (by omega)) h25 ?_
  intro w26 h27
  refine ⟨(AllC_nil _), ?_⟩
  have hA_ : (A.set q (0, gn + 1)) = giveA A q gn := by unfold giveA; rw [if_pos (by omega)]
  have h28 : sat g w26 [Cl b (tbl n ((giveA A q gn) ++ T18)) 113, Cl r2 [iV ix, uV gn] 34, R] := hA_ ▸ h27
  have h29 : sat g w26 [Tb b n (giveA A q gn), Cl r2 [iV ix, uV gn] 34, R] := tb_close ⟨by unfold giveA; split <;> (rw [List.length_set]; exact hp19.1), hp19.2.1, hp19.2.2.1, slOk_give hp19.2.2.2.1 hx (by omega), by have h_ := hp19.2.2.2.2; rw [List.length_append] at h_ ⊢; unfold giveA; split <;> (rw [List.length_set]; exact h_)⟩ h28
  refine yK [] fun lr30 => ?_
  refine ySq ?_
  refine yPl [0] ?_
  refine yB0 [] [0] [(4, iV 0)] (.mk ?_)
  refine yK [(4, iV 0)] fun lr31 => ?_
  refine yRt ?_
  repeat (first | simp only [Exit.inBlock] | simp only [Exit.then])
  have h32 := tk2 (sf1 (sf2 h29))
  refine hi_out [] (iV 0) [] (by kernel_rfl) (by intro q hq; cases hq) ?_
  exact ⟨iV 0, [Tb b n (giveA A q gn)], rfl, ⟨rfl, rfl⟩, h32⟩
 ·
  refine yA ?_
  refine yCl 18 Try.call72 (next_no gn (by omega)) h9 ?_
  rintro v K w33 (⟨rfl, rfl⟩) h34
  refine ⟨_, rfl, ?_⟩
  have h35 := ap0 h34
  refine yB0 [] [3, 4, 5, 6, 7, 8, 9] [(8, iV 0), (7, .bool false), (6, uV 0), (21, iV 0), (20, .bool false), (19, uV 0), (15, .tuple #[uV 0, .bool false, iV 0])] (.mk ?_)
  refine yK [(0, pV b), (3, pV r2), (6, uV 0), (7, .bool false)] fun lr36 => ?_
  refine ySq ?_
  refine yPl [0] ?_
  refine yB0 [] [0] [(22, .bool false)] (.mk ?_)
  refine yK [(0, pV b), (3, pV r2), (6, uV 0), (22, .bool false)] fun lr37 => ?_
  refine yCf ?_
  obtain ⟨T38, hp39, h40⟩ := tb_open h35
  have hq41 := hp39.2.1; have hq42 := hp39.2.2.1; have hq43 := hp39.2.2.2.2
  refine gi_drw (id := 7) (ops := RA Try.f60 [1, 1, 0, 1, 1, 1]) (Tr.fl 0 (Tr.fl 1 (Tr.fl 2 (Tr.fl 3 (Tr.fl 4 (Tr.fl 5 (Tr.fl 6 (Tr.an 7 Tr.nil)))))))) (by kernel_rfl) (by kernel_rfl) (by kernel_rfl) (by kernel_rfl) (by kernel_rfl) (fun _ _ d _ _ h => by cases d <;> exact h) h40 ?_
  intro w44 h45
  refine yD _ [(35, .pointer (some ⟨b, 1, none⟩)), (34, pV b), (33, iV ix), (32, pV r2), (31, pV b)] [e0 0, e0 1, e2 2 [iV ix], e0 3, e0 4] [(2, ⟨r2, 0, none⟩, iV ix)] [] trivial (kC (sat_cell h45 1 rfl rfl) nC) ?_
  refine draw_law (i := 5) 36 (.pointer (some ⟨b, q * 2 + 1, none⟩)) [] (by kernel_rfl) (fun _ _ => law_indexArr (o := opA (RA Try.f60 [1, 1, 0, 1, 1, 1]) 5) (x := (Operand.tmp 35)) (i := (Operand.tmp 33)) (b := b) (off := 1) (z := ix) (by kernel_rfl) Try.underlying111 2 (by kernel_rfl) q (by kernel_rfl) (by kernel_rfl) (by omega) (by omega) (q * 2 + 1) (by omega) _) (by intro q hq; cases hq) ?_
  refine yD _ [(37, .pointer (some ⟨b, q * 2 + 1, none⟩))] [e0 6] [] [] trivial nC ?_
  refine draw_act (i := 7) [] (by kernel_rfl) (by kernel_rfl) ?_
  refine an_store [(q * 2 + 1, iV 2)] (cs' := (tbl n ((A.set q (2, x.2)) ++ T38))) (by kernel_rfl) (by kernel_rfl) (allq ⟨⟨by rw [tbl_len]; omega, rfl⟩, trivial⟩) (tbl_putSk hx 2 (by omega)) h45 ?_
  intro w46 h47
  refine ⟨(AllC_nil _), ?_⟩
  have hA_ : (A.set q (2, x.2)) = giveA A q gn := by unfold giveA; rw [if_neg (by omega), show x.2 = gn from by omega]
  have h48 : sat g w46 [Cl b (tbl n ((giveA A q gn) ++ T38)) 113, Cl r2 [iV ix, uV gn] 34, R] := hA_ ▸ h47
  have h49 : sat g w46 [Tb b n (giveA A q gn), Cl r2 [iV ix, uV gn] 34, R] := tb_close ⟨by unfold giveA; split <;> (rw [List.length_set]; exact hp39.1), hp39.2.1, hp39.2.2.1, slOk_give hp39.2.2.2.1 hx (by omega), by have h_ := hp39.2.2.2.2; rw [List.length_append] at h_ ⊢; unfold giveA; split <;> (rw [List.length_set]; exact h_)⟩ h48
  refine yK [] fun lr50 => ?_
  refine ySq ?_
  refine yPl [0] ?_
  refine yB0 [] [0] [(4, iV 0)] (.mk ?_)
  refine yK [(4, iV 0)] fun lr51 => ?_
  refine yRt ?_
  repeat (first | simp only [Exit.inBlock] | simp only [Exit.then])
  have h52 := tk2 (sf1 (sf2 h49))
  refine hi_out [] (iV 0) [] (by kernel_rfl) (by intro q hq; cases hq) ?_
  exact ⟨iV 0, [Tb b n (giveA A q gn)], rfl, ⟨rfl, rfl⟩, h52⟩

end Go.Proofs.Ytjjpmehiolejgaa
