/- Walks, printed by my generator gen16.py. -/
import Derived.Test.YtjjpmehiolejgaaF15
namespace Go.Proofs.Ytjjpmehiolejgaa
set_option maxHeartbeats 4000000 in
theorem topen_tag (b n : Nat) (A : List Sl2) (E : Tm) (RL : List Rs) (x y z hx hy : Int) (L : List UInt8) (hz0 : 0 ≤ z) (hz1 : z ≤ 4294967295) (hm : L.length ≤ 1099511627776) (ho : 1 ≤ x ∧ x ≤ 3 ∧ 0 ≤ y ∧ y ≤ 63 ∧ 1 ≤ z) (ht : ¬ tagE L = 0) : HT Try.prog 12 [Value.pointer (some ⟨b, 0, none⟩), Value.agg #[Value.int IntKind.i64 x, Value.int IntKind.i64 y, Value.int IntKind.u32 z], Value.string (St L), Value.agg #[Value.int IntKind.i64 hx, Value.int IntKind.u32 hy]] [Tab b n A E RL] (fun v K => v = Value.tuple #[Value.agg #[Value.int IntKind.i64 0, Value.int IntKind.i64 0, Value.int IntKind.u32 0], Value.int IntKind.i64 16] ∧ K = [Tab b n A E RL]) := by
 refine hi_in 80 ([(0, pV b), (1, .agg #[iV x, iV y, uV z]), (2, .string (St L)), (3, .agg #[iV hx, uV hy])] : Fr) Try.func12 (by kernel_rfl) Try.ntmps12 rfl rfl ?_
 intro g w0 R h0
 refine ySq ?_
 refine yPl [0, 1, 2, 3] ?_
 refine yA ?_
 refine yNp 5 32 [iV x, iV y, uV z] h0 fun r1 w2 h3 => ?_
 refine yA ?_
 refine yNp 7 34 [iV hx, uV hy] h3 fun r4 w5 h6 => ?_
 refine yA ?_
 refine yNp 8 28 [iV 0, iV 0, uV 0] h6 fun r7 w8 h9 => ?_
 refine yB0 [] [3] [(9, iV 0)] (.mk ?_)
 refine yK [(0, pV b), (2, .string (St L)), (5, pV r1), (7, pV r4), (8, pV r7)] fun lr10 => ?_
 refine ySq ?_
 refine ySq ?_
 refine yPl [0, 1, 2] ?_
 refine yB0 [1, 2] [0] [(12, pV b)] ?_
 have h11 := tk5 (sf4 (sf3 (sf3 (sf3 (sf4 h9)))))
 refine yA ?_
 refine yCl 13 Try.call36 (tvalid_ht b n A E RL) h11 ?_
 rintro v K w12 (⟨rfl, rfl⟩) h13
 refine ⟨_, rfl, ?_⟩
 have h14 := ap1 h13
 refine yB0 [] [2] [(14, .bool false)] (.mk ?_)
 refine yK [(0, pV b), (2, .string (St L)), (5, pV r1), (7, pV r4), (8, pV r7), (14, .bool false)] fun lr15 => ?_
 refine yCf ?_
 refine ySk ?_
 refine ySq ?_
 refine yPl [0, 1, 2, 3, 4, 5, 6, 7, 8] ?_
 refine yBb [2, 3, 4, 5, 6, 7, 8] [(18, .string (St L)), (17, .agg #[iV x, iV y, uV z])] [e2 0 [iV x, iV y, uV z], e0 1] [(0, ⟨r1, 0, none⟩, iV x), (0, ⟨r1, 1, none⟩, iV y), (0, ⟨r1, 2, none⟩, uV z)] [] trivial (kC (sat_cell h14 3 rfl rfl) (kC (sat_cell h14 3 rfl rfl) (kC (sat_cell h14 3 rfl rfl) nC))) ?_
 refine yA ?_
 refine yCl 19 Try.call37 (rnew_tag x y z L (by omega) (by omega) (by omega) (by omega) (by omega)) h14 ?_
 rintro v K w16 (⟨rfl, rfl⟩) h17
 refine ⟨_, rfl, ?_⟩
 have h18 := ap0 h17
 refine yB0 [6, 7, 8] [3, 4, 5] [(21, iV 16), (20, .agg #[iV 0, iV 0, uV 0, iV 0, iV 0, iV 0, iV 0, .string (St [])]), (16, .tuple #[.agg #[iV 0, iV 0, uV 0, iV 0, iV 0, iV 0, iV 0, .string (St [])], iV 16])] ?_
 refine yA ?_
 refine yNp 10 42 [iV 0, iV 0, uV 0, iV 0, iV 0, iV 0, iV 0, .string (St [])] h18 fun r19 w20 h21 => ?_
 refine yA ?_
 refine yS [(0, iV 0), (1, iV 0), (2, uV 0), (3, iV 0), (4, iV 0), (5, iV 0), (6, iV 0), (7, .string (St []))] [iV 0, iV 0, uV 0, iV 0, iV 0, iV 0, iV 0, .string (St [])] h21 fun w22 h23 => ?_
 refine yB0 [] [8] [(11, iV 16)] (.mk ?_)
 refine yK [(0, pV b), (5, pV r1), (7, pV r4), (8, pV r7), (10, pV r19), (11, iV 16)] fun lr24 => ?_
 refine ySq ?_
 refine ySq ?_
 refine yPl [0, 1] ?_
 refine yB0 [] [0, 1] [(23, .bool true), (22, iV 16)] (.mk ?_)
 refine yK [(0, pV b), (5, pV r1), (7, pV r4), (8, pV r7), (10, pV r19), (11, iV 16), (23, .bool true)] fun lr25 => ?_
 refine yCt ?_
 refine ySq ?_
 refine yPl [0, 1, 2, 3] ?_
 refine yB0 [2, 3] [0, 1] [(25, iV 16), (24, .agg #[iV 0, iV 0, uV 0])] ?_
 have h26 := tk6 (sf5 (sf4 (sf4 (sf5 (sf5 (sf5 h23))))))
 refine yA ?_
 refine yS [(0, iV 0), (1, iV 0), (2, uV 0)] [iV 0, iV 0, uV 0] h26 fun w27 h28 => ?_
 refine yB0 [] [3] [(9, iV 16)] (.mk ?_)
 refine yK [(8, pV r7), (9, iV 16)] fun lr29 => ?_
 refine yRt ?_
 repeat (first | simp only [Exit.inBlock] | simp only [Exit.then])
 have h30 := tk6 (sf5 (sf4 (sf4 (sf5 (sf5 (sf5 h28))))))
 have h31 := tk2 (sf1 (sf5 h30))
 refine hi_out [iV 0, iV 0, uV 0] (.tuple #[.agg #[iV 0, iV 0, uV 0], iV 16]) [(⟨r7, 0, none⟩, iV 0), (⟨r7, 1, none⟩, iV 0), (⟨r7, 2, none⟩, uV 0)] (by kernel_rfl) (allq ⟨sat_cell h28 0 rfl rfl, sat_cell h28 0 rfl rfl, sat_cell h28 0 rfl rfl, trivial⟩) ?_
 exact ⟨.tuple #[.agg #[iV 0, iV 0, uV 0], iV 16], [Tab b n A E RL], rfl, ⟨rfl, rfl⟩, h31⟩

set_option maxHeartbeats 4000000 in
theorem topen_out (b n : Nat) (A : List Sl2) (E : Tm) (RL : List Rs) (x y z hx hy : Int) (L : List UInt8) (hz0 : 0 ≤ z) (hz1 : z ≤ 4294967295) (hm : L.length ≤ 1099511627776) (ho : ¬ (1 ≤ x ∧ x ≤ 3 ∧ 0 ≤ y ∧ y ≤ 63 ∧ 1 ≤ z)) : HT Try.prog 12 [Value.pointer (some ⟨b, 0, none⟩), Value.agg #[Value.int IntKind.i64 x, Value.int IntKind.i64 y, Value.int IntKind.u32 z], Value.string (St L), Value.agg #[Value.int IntKind.i64 hx, Value.int IntKind.u32 hy]] [Tab b n A E RL] (fun v K => v = Value.tuple #[Value.agg #[Value.int IntKind.i64 0, Value.int IntKind.i64 0, Value.int IntKind.u32 0], Value.int IntKind.i64 2] ∧ K = [Tab b n A E RL]) := by
 refine hi_in 80 ([(0, pV b), (1, .agg #[iV x, iV y, uV z]), (2, .string (St L)), (3, .agg #[iV hx, uV hy])] : Fr) Try.func12 (by kernel_rfl) Try.ntmps12 rfl rfl ?_
 intro g w0 R h0
 refine ySq ?_
 refine yPl [0, 1, 2, 3] ?_
 refine yA ?_
 refine yNp 5 32 [iV x, iV y, uV z] h0 fun r1 w2 h3 => ?_
 refine yA ?_
 refine yNp 7 34 [iV hx, uV hy] h3 fun r4 w5 h6 => ?_
 refine yA ?_
 refine yNp 8 28 [iV 0, iV 0, uV 0] h6 fun r7 w8 h9 => ?_
 refine yB0 [] [3] [(9, iV 0)] (.mk ?_)
 refine yK [(0, pV b), (2, .string (St L)), (5, pV r1), (7, pV r4), (8, pV r7)] fun lr10 => ?_
 refine ySq ?_
 refine ySq ?_
 refine yPl [0, 1, 2] ?_
 refine yB0 [1, 2] [0] [(12, pV b)] ?_
 have h11 := tk5 (sf4 (sf3 (sf3 (sf3 (sf4 h9)))))
 refine yA ?_
 refine yCl 13 Try.call36 (tvalid_ht b n A E RL) h11 ?_
 rintro v K w12 (⟨rfl, rfl⟩) h13
 refine ⟨_, rfl, ?_⟩
 have h14 := ap1 h13
 refine yB0 [] [2] [(14, .bool false)] (.mk ?_)
 refine yK [(0, pV b), (2, .string (St L)), (5, pV r1), (7, pV r4), (8, pV r7), (14, .bool false)] fun lr15 => ?_
 refine yCf ?_
 refine ySk ?_
 refine ySq ?_
 refine yPl [0, 1, 2, 3, 4, 5, 6, 7, 8] ?_
 refine yBb [2, 3, 4, 5, 6, 7, 8] [(18, .string (St L)), (17, .agg #[iV x, iV y, uV z])] [e2 0 [iV x, iV y, uV z], e0 1] [(0, ⟨r1, 0, none⟩, iV x), (0, ⟨r1, 1, none⟩, iV y), (0, ⟨r1, 2, none⟩, uV z)] [] trivial (kC (sat_cell h14 3 rfl rfl) (kC (sat_cell h14 3 rfl rfl) (kC (sat_cell h14 3 rfl rfl) nC))) ?_
 refine yA ?_
 refine yCl 19 Try.call37 (rnew_no x y z L (by omega) (by omega) (by omega) (by omega)) h14 ?_
 rintro v K w16 (⟨rfl, rfl⟩) h17
 refine ⟨_, rfl, ?_⟩
 have h18 := ap0 h17
 refine yB0 [6, 7, 8] [3, 4, 5] [(21, iV 2), (20, .agg #[iV 0, iV 0, uV 0, iV 0, iV 0, iV 0, iV 0, .string (St [])]), (16, .tuple #[.agg #[iV 0, iV 0, uV 0, iV 0, iV 0, iV 0, iV 0, .string (St [])], iV 2])] ?_
 refine yA ?_
 refine yNp 10 42 [iV 0, iV 0, uV 0, iV 0, iV 0, iV 0, iV 0, .string (St [])] h18 fun r19 w20 h21 => ?_
 refine yA ?_
 refine yS [(0, iV 0), (1, iV 0), (2, uV 0), (3, iV 0), (4, iV 0), (5, iV 0), (6, iV 0), (7, .string (St []))] [iV 0, iV 0, uV 0, iV 0, iV 0, iV 0, iV 0, .string (St [])] h21 fun w22 h23 => ?_
 refine yB0 [] [8] [(11, iV 2)] (.mk ?_)
 refine yK [(0, pV b), (5, pV r1), (7, pV r4), (8, pV r7), (10, pV r19), (11, iV 2)] fun lr24 => ?_
 refine ySq ?_
 refine ySq ?_
 refine yPl [0, 1] ?_
 refine yB0 [] [0, 1] [(23, .bool true), (22, iV 2)] (.mk ?_)
 refine yK [(0, pV b), (5, pV r1), (7, pV r4), (8, pV r7), (10, pV r19), (11, iV 2), (23, .bool true)] fun lr25 => ?_
 refine yCt ?_
 refine ySq ?_
 refine yPl [0, 1, 2, 3] ?_
 refine yB0 [2, 3] [0, 1] [(25, iV 2), (24, .agg #[iV 0, iV 0, uV 0])] ?_
 have h26 := tk6 (sf5 (sf4 (sf4 (sf5 (sf5 (sf5 h23))))))
 refine yA ?_
 refine yS [(0, iV 0), (1, iV 0), (2, uV 0)] [iV 0, iV 0, uV 0] h26 fun w27 h28 => ?_
 refine yB0 [] [3] [(9, iV 2)] (.mk ?_)
 refine yK [(8, pV r7), (9, iV 2)] fun lr29 => ?_
 refine yRt ?_
 repeat (first | simp only [Exit.inBlock] | simp only [Exit.then])
 have h30 := tk6 (sf5 (sf4 (sf4 (sf5 (sf5 (sf5 h28))))))
 have h31 := tk2 (sf1 (sf5 h30))
 refine hi_out [iV 0, iV 0, uV 0] (.tuple #[.agg #[iV 0, iV 0, uV 0], iV 2]) [(⟨r7, 0, none⟩, iV 0), (⟨r7, 1, none⟩, iV 0), (⟨r7, 2, none⟩, uV 0)] (by kernel_rfl) (allq ⟨sat_cell h28 0 rfl rfl, sat_cell h28 0 rfl rfl, sat_cell h28 0 rfl rfl, trivial⟩) ?_
 exact ⟨.tuple #[.agg #[iV 0, iV 0, uV 0], iV 2], [Tab b n A E RL], rfl, ⟨rfl, rfl⟩, h31⟩

set_option maxHeartbeats 4000000 in
theorem topen_arg (b n : Nat) (A : List Sl2) (E : Tm) (RL : List Rs) (x y z hx hy : Int) (L : List UInt8) (hz0 : 0 ≤ z) (hz1 : z ≤ 4294967295) (hm : L.length ≤ 1099511627776) (ho : 1 ≤ x ∧ x ≤ 3 ∧ 0 ≤ y ∧ y ≤ 63 ∧ 1 ≤ z) (ht : tagE L = 0) (hob : hx < 0 ∨ 255 < hx ∨ hy ≤ 0) : HT Try.prog 12 [Value.pointer (some ⟨b, 0, none⟩), Value.agg #[Value.int IntKind.i64 x, Value.int IntKind.i64 y, Value.int IntKind.u32 z], Value.string (St L), Value.agg #[Value.int IntKind.i64 hx, Value.int IntKind.u32 hy]] [Tab b n A E RL] (fun v K => v = Value.tuple #[Value.agg #[Value.int IntKind.i64 0, Value.int IntKind.i64 0, Value.int IntKind.u32 0], Value.int IntKind.i64 2] ∧ K = [Tab b n A E RL]) := by
 refine hi_in 80 ([(0, pV b), (1, .agg #[iV x, iV y, uV z]), (2, .string (St L)), (3, .agg #[iV hx, uV hy])] : Fr) Try.func12 (by kernel_rfl) Try.ntmps12 rfl rfl ?_
 intro g w0 R h0
 refine ySq ?_
 refine yPl [0, 1, 2, 3] ?_
 refine yA ?_
 refine yNp 5 32 [iV x, iV y, uV z] h0 fun r1 w2 h3 => ?_
 refine yA ?_
 refine yNp 7 34 [iV hx, uV hy] h3 fun r4 w5 h6 => ?_
 refine yA ?_
 refine yNp 8 28 [iV 0, iV 0, uV 0] h6 fun r7 w8 h9 => ?_
 refine yB0 [] [3] [(9, iV 0)] (.mk ?_)
 refine yK [(0, pV b), (2, .string (St L)), (5, pV r1), (7, pV r4), (8, pV r7)] fun lr10 => ?_
 refine ySq ?_
 refine ySq ?_
 refine yPl [0, 1, 2] ?_
 refine yB0 [1, 2] [0] [(12, pV b)] ?_
 have h11 := tk5 (sf4 (sf3 (sf3 (sf3 (sf4 h9)))))
 refine yA ?_
 refine yCl 13 Try.call36 (tvalid_ht b n A E RL) h11 ?_
 rintro v K w12 (⟨rfl, rfl⟩) h13
 refine ⟨_, rfl, ?_⟩
 have h14 := ap1 h13
 refine yB0 [] [2] [(14, .bool false)] (.mk ?_)
 refine yK [(0, pV b), (2, .string (St L)), (5, pV r1), (7, pV r4), (8, pV r7), (14, .bool false)] fun lr15 => ?_
 refine yCf ?_
 refine ySk ?_
 refine ySq ?_
 refine yPl [0, 1, 2, 3, 4, 5, 6, 7, 8] ?_
 refine yBb [2, 3, 4, 5, 6, 7, 8] [(18, .string (St L)), (17, .agg #[iV x, iV y, uV z])] [e2 0 [iV x, iV y, uV z], e0 1] [(0, ⟨r1, 0, none⟩, iV x), (0, ⟨r1, 1, none⟩, iV y), (0, ⟨r1, 2, none⟩, uV z)] [] trivial (kC (sat_cell h14 3 rfl rfl) (kC (sat_cell h14 3 rfl rfl) (kC (sat_cell h14 3 rfl rfl) nC))) ?_
 refine yA ?_
 refine yCl 19 Try.call37 (rnew_ok x y z L (by omega) (by omega) (by omega) (by omega) (by omega)) h14 ?_
 rintro v K w16 (⟨rfl, rfl⟩) h17
 refine ⟨_, rfl, ?_⟩
 have h18 := ap0 h17
 refine yB0 [6, 7, 8] [3, 4, 5] [(21, iV 0), (20, .agg #[iV x, iV y, uV z, iV 1, iV 0, iV 0, iV 0, .string (St L)]), (16, .tuple #[.agg #[iV x, iV y, uV z, iV 1, iV 0, iV 0, iV 0, .string (St L)], iV 0])] ?_
 refine yA ?_
 refine yNp 10 42 [iV 0, iV 0, uV 0, iV 0, iV 0, iV 0, iV 0, .string (St [])] h18 fun r19 w20 h21 => ?_
 refine yA ?_
 refine yS [(0, iV x), (1, iV y), (2, uV z), (3, iV 1), (4, iV 0), (5, iV 0), (6, iV 0), (7, .string (St L))] [iV x, iV y, uV z, iV 1, iV 0, iV 0, iV 0, .string (St L)] h21 fun w22 h23 => ?_
 refine yB0 [] [8] [(11, iV 0)] (.mk ?_)
 refine yK [(0, pV b), (5, pV r1), (7, pV r4), (8, pV r7), (10, pV r19), (11, iV 0)] fun lr24 => ?_
 refine ySq ?_
 refine ySq ?_
 refine yPl [0, 1] ?_
 refine yB0 [] [0, 1] [(23, .bool false), (22, iV 0)] (.mk ?_)
 refine yK [(0, pV b), (5, pV r1), (7, pV r4), (8, pV r7), (10, pV r19), (11, iV 0), (23, .bool false)] fun lr25 => ?_
 refine yCf ?_
 refine ySk ?_
 refine ySq ?_
 refine yBk 0 ?_
 refine ySq ?_
 refine yPl [0, 1, 2, 3] ?_
 refine yBb [1, 2, 3] [(27, .agg #[iV hx, uV hy])] [e2 0 [iV hx, uV hy]] [(0, ⟨r4, 0, none⟩, iV hx), (0, ⟨r4, 1, none⟩, uV hy)] [] trivial (kC (sat_cell h23 3 rfl rfl) (kC (sat_cell h23 3 rfl rfl) nC)) ?_
 by_cases c26 : 0 ≤ hx
 ·
  by_cases c27 : hx ≤ 255
  ·
   refine yA ?_
   refine yCl 28 Try.call38 (obj_f hx hy (by omega)) h23 ?_
   rintro v K w28 (⟨rfl, rfl⟩) h29
   refine ⟨_, rfl, ?_⟩
   have h30 := ap0 h29
   refine yB0 [] [2, 3] [(26, .bool true), (29, .bool true)] (.mk ?_)
   refine yK [(0, pV b), (5, pV r1), (7, pV r4), (8, pV r7), (10, pV r19), (26, .bool true)] fun lr31 => ?_
   refine yCt ?_
   refine ySq ?_
   refine yPl [0, 1, 2] ?_
   refine yB0 [1, 2] [0] [(30, .agg #[iV 0, iV 0, uV 0])] ?_
   have h32 := tk6 (sf5 (sf4 (sf4 (sf5 (sf5 (sf5 h30))))))
   refine yA ?_
   refine yS [(0, iV 0), (1, iV 0), (2, uV 0)] [iV 0, iV 0, uV 0] h32 fun w33 h34 => ?_
   refine yB0 [] [2] [(9, iV 2)] (.mk ?_)
   refine yK [(8, pV r7), (9, iV 2)] fun lr35 => ?_
   refine yRt ?_
   repeat (first | simp only [Exit.inBlock] | simp only [Exit.then])
   have h36 := tk6 (sf5 (sf4 (sf4 (sf5 (sf5 (sf5 h34))))))
   have h37 := tk2 (sf1 (sf5 h36))
   refine hi_out [iV 0, iV 0, uV 0] (.tuple #[.agg #[iV 0, iV 0, uV 0], iV 2]) [(⟨r7, 0, none⟩, iV 0), (⟨r7, 1, none⟩, iV 0), (⟨r7, 2, none⟩, uV 0)] (by kernel_rfl) (allq ⟨sat_cell h34 0 rfl rfl, sat_cell h34 0 rfl rfl, sat_cell h34 0 rfl rfl, trivial⟩) ?_
   exact ⟨.tuple #[.agg #[iV 0, iV 0, uV 0], iV 2], [Tab b n A E RL], rfl, ⟨rfl, rfl⟩, h37⟩
  ·
   refine yA ?_
   refine yCl 28 Try.call38 (obj_f hx hy (by omega)) h23 ?_
   rintro v K w38 (⟨rfl, rfl⟩) h39
   refine ⟨_, rfl, ?_⟩
   have h40 := ap0 h39
   refine yB0 [] [2, 3] [(26, .bool true), (29, .bool true)] (.mk ?_)
   refine yK [(0, pV b), (5, pV r1), (7, pV r4), (8, pV r7), (10, pV r19), (26, .bool true)] fun lr41 => ?_
   refine yCt ?_
   refine ySq ?_
   refine yPl [0, 1, 2] ?_
   refine yB0 [1, 2] [0] [(30, .agg #[iV 0, iV 0, uV 0])] ?_
   have h42 := tk6 (sf5 (sf4 (sf4 (sf5 (sf5 (sf5 h40))))))
   refine yA ?_
   refine yS [(0, iV 0), (1, iV 0), (2, uV 0)] [iV 0, iV 0, uV 0] h42 fun w43 h44 => ?_
   refine yB0 [] [2] [(9, iV 2)] (.mk ?_)
   refine yK [(8, pV r7), (9, iV 2)] fun lr45 => ?_
   refine yRt ?_
   repeat (first | simp only [Exit.inBlock] | simp only [Exit.then])
   have h46 := tk6 (sf5 (sf4 (sf4 (sf5 (sf5 (sf5 h44))))))
   have h47 := tk2 (sf1 (sf5 h46))
   refine hi_out [iV 0, iV 0, uV 0] (.tuple #[.agg #[iV 0, iV 0, uV 0], iV 2]) [(⟨r7, 0, none⟩, iV 0), (⟨r7, 1, none⟩, iV 0), (⟨r7, 2, none⟩, uV 0)] (by kernel_rfl) (allq ⟨sat_cell h44 0 rfl rfl, sat_cell h44 0 rfl rfl, sat_cell h44 0 rfl rfl, trivial⟩) ?_
   exact ⟨.tuple #[.agg #[iV 0, iV 0, uV 0], iV 2], [Tab b n A E RL], rfl, ⟨rfl, rfl⟩, h47⟩
 ·
  refine yA ?_
  refine yCl 28 Try.call38 (obj_f hx hy (by omega)) h23 ?_
  rintro v K w48 (⟨rfl, rfl⟩) h49
  refine ⟨_, rfl, ?_⟩
  have h50 := ap0 h49
  refine yB0 [] [2, 3] [(26, .bool true), (29, .bool true)] (.mk ?_)
  refine yK [(0, pV b), (5, pV r1), (7, pV r4), (8, pV r7), (10, pV r19), (26, .bool true)] fun lr51 => ?_
  refine yCt ?_
  refine ySq ?_
  refine yPl [0, 1, 2] ?_
  refine yB0 [1, 2] [0] [(30, .agg #[iV 0, iV 0, uV 0])] ?_
  have h52 := tk6 (sf5 (sf4 (sf4 (sf5 (sf5 (sf5 h50))))))
  refine yA ?_
  refine yS [(0, iV 0), (1, iV 0), (2, uV 0)] [iV 0, iV 0, uV 0] h52 fun w53 h54 => ?_
  refine yB0 [] [2] [(9, iV 2)] (.mk ?_)
  refine yK [(8, pV r7), (9, iV 2)] fun lr55 => ?_
  refine yRt ?_
  repeat (first | simp only [Exit.inBlock] | simp only [Exit.then])
  have h56 := tk6 (sf5 (sf4 (sf4 (sf5 (sf5 (sf5 h54))))))
  have h57 := tk2 (sf1 (sf5 h56))
  refine hi_out [iV 0, iV 0, uV 0] (.tuple #[.agg #[iV 0, iV 0, uV 0], iV 2]) [(⟨r7, 0, none⟩, iV 0), (⟨r7, 1, none⟩, iV 0), (⟨r7, 2, none⟩, uV 0)] (by kernel_rfl) (allq ⟨sat_cell h54 0 rfl rfl, sat_cell h54 0 rfl rfl, sat_cell h54 0 rfl rfl, trivial⟩) ?_
  exact ⟨.tuple #[.agg #[iV 0, iV 0, uV 0], iV 2], [Tab b n A E RL], rfl, ⟨rfl, rfl⟩, h57⟩

set_option maxHeartbeats 4000000 in
theorem topen_out2 (b n : Nat) (A : List Sl2) (E : Tm) (RL : List Rs) (x y z hx hy : Int) (L : List UInt8) (hz0 : 0 ≤ z) (hz1 : z ≤ 4294967295) (hm : L.length ≤ 1099511627776) (ho : 1 ≤ x ∧ x ≤ 3 ∧ 0 ≤ y ∧ y ≤ 63 ∧ 1 ≤ z) (ht : tagE L = 0) (hob : 0 ≤ hx ∧ hx ≤ 255 ∧ 1 ≤ hy) (hc : ∃ r ∈ RL, r.out = (x, y, z)) : HT Try.prog 12 [Value.pointer (some ⟨b, 0, none⟩), Value.agg #[Value.int IntKind.i64 x, Value.int IntKind.i64 y, Value.int IntKind.u32 z], Value.string (St L), Value.agg #[Value.int IntKind.i64 hx, Value.int IntKind.u32 hy]] [Tab b n A E RL] (fun v K => v = Value.tuple #[Value.agg #[Value.int IntKind.i64 0, Value.int IntKind.i64 0, Value.int IntKind.u32 0], Value.int IntKind.i64 6] ∧ K = [Tab b n A E RL]) := by
 refine hi_in 80 ([(0, pV b), (1, .agg #[iV x, iV y, uV z]), (2, .string (St L)), (3, .agg #[iV hx, uV hy])] : Fr) Try.func12 (by kernel_rfl) Try.ntmps12 rfl rfl ?_
 intro g w0 R h0
 refine ySq ?_
 refine yPl [0, 1, 2, 3] ?_
 refine yA ?_
 refine yNp 5 32 [iV x, iV y, uV z] h0 fun r1 w2 h3 => ?_
 refine yA ?_
 refine yNp 7 34 [iV hx, uV hy] h3 fun r4 w5 h6 => ?_
 refine yA ?_
 refine yNp 8 28 [iV 0, iV 0, uV 0] h6 fun r7 w8 h9 => ?_
 refine yB0 [] [3] [(9, iV 0)] (.mk ?_)
 refine yK [(0, pV b), (2, .string (St L)), (5, pV r1), (7, pV r4), (8, pV r7)] fun lr10 => ?_
 refine ySq ?_
 refine ySq ?_
 refine yPl [0, 1, 2] ?_
 refine yB0 [1, 2] [0] [(12, pV b)] ?_
 have h11 := tk5 (sf4 (sf3 (sf3 (sf3 (sf4 h9)))))
 refine yA ?_
 refine yCl 13 Try.call36 (tvalid_ht b n A E RL) h11 ?_
 rintro v K w12 (⟨rfl, rfl⟩) h13
 refine ⟨_, rfl, ?_⟩
 have h14 := ap1 h13
 refine yB0 [] [2] [(14, .bool false)] (.mk ?_)
 refine yK [(0, pV b), (2, .string (St L)), (5, pV r1), (7, pV r4), (8, pV r7), (14, .bool false)] fun lr15 => ?_
 refine yCf ?_
 refine ySk ?_
 refine ySq ?_
 refine yPl [0, 1, 2, 3, 4, 5, 6, 7, 8] ?_
 refine yBb [2, 3, 4, 5, 6, 7, 8] [(18, .string (St L)), (17, .agg #[iV x, iV y, uV z])] [e2 0 [iV x, iV y, uV z], e0 1] [(0, ⟨r1, 0, none⟩, iV x), (0, ⟨r1, 1, none⟩, iV y), (0, ⟨r1, 2, none⟩, uV z)] [] trivial (kC (sat_cell h14 3 rfl rfl) (kC (sat_cell h14 3 rfl rfl) (kC (sat_cell h14 3 rfl rfl) nC))) ?_
 refine yA ?_
 refine yCl 19 Try.call37 (rnew_ok x y z L (by omega) (by omega) (by omega) (by omega) (by omega)) h14 ?_
 rintro v K w16 (⟨rfl, rfl⟩) h17
 refine ⟨_, rfl, ?_⟩
 have h18 := ap0 h17
 refine yB0 [6, 7, 8] [3, 4, 5] [(21, iV 0), (20, .agg #[iV x, iV y, uV z, iV 1, iV 0, iV 0, iV 0, .string (St L)]), (16, .tuple #[.agg #[iV x, iV y, uV z, iV 1, iV 0, iV 0, iV 0, .string (St L)], iV 0])] ?_
 refine yA ?_
 refine yNp 10 42 [iV 0, iV 0, uV 0, iV 0, iV 0, iV 0, iV 0, .string (St [])] h18 fun r19 w20 h21 => ?_
 refine yA ?_
 refine yS [(0, iV x), (1, iV y), (2, uV z), (3, iV 1), (4, iV 0), (5, iV 0), (6, iV 0), (7, .string (St L))] [iV x, iV y, uV z, iV 1, iV 0, iV 0, iV 0, .string (St L)] h21 fun w22 h23 => ?_
 refine yB0 [] [8] [(11, iV 0)] (.mk ?_)
 refine yK [(0, pV b), (5, pV r1), (7, pV r4), (8, pV r7), (10, pV r19), (11, iV 0)] fun lr24 => ?_
 refine ySq ?_
 refine ySq ?_
 refine yPl [0, 1] ?_
 refine yB0 [] [0, 1] [(23, .bool false), (22, iV 0)] (.mk ?_)
 refine yK [(0, pV b), (5, pV r1), (7, pV r4), (8, pV r7), (10, pV r19), (11, iV 0), (23, .bool false)] fun lr25 => ?_
 refine yCf ?_
 refine ySk ?_
 refine ySq ?_
 refine yBk 0 ?_
 refine ySq ?_
 refine yPl [0, 1, 2, 3] ?_
 refine yBb [1, 2, 3] [(27, .agg #[iV hx, uV hy])] [e2 0 [iV hx, uV hy]] [(0, ⟨r4, 0, none⟩, iV hx), (0, ⟨r4, 1, none⟩, uV hy)] [] trivial (kC (sat_cell h23 3 rfl rfl) (kC (sat_cell h23 3 rfl rfl) nC)) ?_
 refine yA ?_
 refine yCl 28 Try.call38 (obj_t hx hy (by omega)) h23 ?_
 rintro v K w26 (⟨rfl, rfl⟩) h27
 refine ⟨_, rfl, ?_⟩
 have h28 := ap0 h27
 refine yB0 [] [2, 3] [(26, .bool false), (29, .bool false)] (.mk ?_)
 refine yK [(0, pV b), (5, pV r1), (7, pV r4), (8, pV r7), (10, pV r19), (26, .bool false)] fun lr29 => ?_
 refine yCf ?_
 refine ySq ?_
 refine yPl [0, 1, 2, 3, 4, 5, 6, 7, 8, 9, 10, 11] ?_
 have h30 := tk6 (sf5 (sf4 (sf5 (sf5 (sf5 (sf5 h28))))))
 obtain ⟨s31, m32, p33, c34, E35, hM36, h37⟩ := tab_open h30
 have hRl_ := hM36.2
 refine yBb [5, 6, 7, 8, 9, 10, 11] [(36, .func (Fn.func 40) #[] #[pV r1]), (35, .slice p33 RL.length c34), (34, .pointer (some ⟨b, 2, none⟩)), (33, pV b), (32, pV b)] [e0 0, e0 1, e0 2, e2 3 [.slice p33 RL.length c34], e0 4] [(3, ⟨b, 2, none⟩, .slice p33 RL.length c34)] [] trivial (kC (sat_cell h37 0 rfl rfl) nC) ?_
 have h38 := tk9 (sf8 (sf8 (sf6 (sf6 (sf6 (sf7 (sf7 (sf7 (sf8 h37)))))))))
 refine yA ?_
 refine yCl 37 Try.call39 (rhas_t p33 RL.length c34 r1 RL x y z hc (by omega)) h38 ?_
 rintro v K w39 (⟨rfl, rfl⟩) h40
 refine ⟨_, rfl, ?_⟩
 have h41 := ap2 h40
 refine yB0 [9, 10, 11] [6, 7, 8] [(40, undef), (39, undef), (38, .bool true)] ?_
 refine plain_skip (by kernel_rfl : chkN (RA Try.f12 [1, 1, 1, 1, 0, 0, 1, 1, 0]) 80 _ 9 = some (some 41)) rfl ?_
 refine yB0 [] [10, 11] [(31, .bool true), (42, .bool true)] (.mk ?_)
 refine yK [(0, pV b), (7, pV r4), (8, pV r7), (10, pV r19), (31, .bool true)] fun lr42 => ?_
 refine yCt ?_
 refine ySq ?_
 refine yPl [0, 1, 2] ?_
 refine yB0 [1, 2] [0] [(43, .agg #[iV 0, iV 0, uV 0])] ?_
 have h43 := tk9 (sf8 (sf7 (sf7 (sf7 (sf7 (sf7 (sf7 (sf8 (sf8 h41)))))))))
 refine yA ?_
 refine yS [(0, iV 0), (1, iV 0), (2, uV 0)] [iV 0, iV 0, uV 0] h43 fun w44 h45 => ?_
 refine yB0 [] [2] [(9, iV 6)] (.mk ?_)
 refine yK [(8, pV r7), (9, iV 6)] fun lr46 => ?_
 refine yRt ?_
 repeat (first | simp only [Exit.inBlock] | simp only [Exit.then])
 have h47 := tk9 (sf8 (sf8 (sf8 (sf5 (sf4 (sf5 (sf8 (sf8 (sf8 h45)))))))))
 have h48 : sat g w44 [Tab b n A E RL, Cl r7 [iV 0, iV 0, uV 0] 28, Cl r1 [iV x, iV y, uV z] 32, Cl r19 [iV x, iV y, uV z, iV 1, iV 0, iV 0, iV 0, .string (St L)] 42, Cl r4 [iV hx, uV hy] 34, R] := tab_close hM36.1 (by omega) (by first | rfl | omega) h47
 have h49 := tk2 (sf1 (sf5 h48))
 refine hi_out [iV 0, iV 0, uV 0] (.tuple #[.agg #[iV 0, iV 0, uV 0], iV 6]) [(⟨r7, 0, none⟩, iV 0), (⟨r7, 1, none⟩, iV 0), (⟨r7, 2, none⟩, uV 0)] (by kernel_rfl) (allq ⟨sat_cell h45 0 rfl rfl, sat_cell h45 0 rfl rfl, sat_cell h45 0 rfl rfl, trivial⟩) ?_
 exact ⟨.tuple #[.agg #[iV 0, iV 0, uV 0], iV 6], [Tab b n A E RL], rfl, ⟨rfl, rfl⟩, h49⟩

set_option maxHeartbeats 4000000 in
theorem topen_have (b n : Nat) (A : List Sl2) (E : Tm) (RL : List Rs) (x y z hx hy : Int) (L : List UInt8) (hz0 : 0 ≤ z) (hz1 : z ≤ 4294967295) (hm : L.length ≤ 1099511627776) (ho : 1 ≤ x ∧ x ≤ 3 ∧ 0 ≤ y ∧ y ≤ 63 ∧ 1 ≤ z) (ht : tagE L = 0) (hob : 0 ≤ hx ∧ hx ≤ 255 ∧ 1 ≤ hy) (hc : ∀ r ∈ RL, r.out ≠ (x, y, z)) (hh : ∃ e ∈ allE E, e.h = (hx, hy)) : HT Try.prog 12 [Value.pointer (some ⟨b, 0, none⟩), Value.agg #[Value.int IntKind.i64 x, Value.int IntKind.i64 y, Value.int IntKind.u32 z], Value.string (St L), Value.agg #[Value.int IntKind.i64 hx, Value.int IntKind.u32 hy]] [Tab b n A E RL] (fun v K => v = Value.tuple #[Value.agg #[Value.int IntKind.i64 0, Value.int IntKind.i64 0, Value.int IntKind.u32 0], Value.int IntKind.i64 6] ∧ K = [Tab b n A E RL]) := by
 refine hi_in 80 ([(0, pV b), (1, .agg #[iV x, iV y, uV z]), (2, .string (St L)), (3, .agg #[iV hx, uV hy])] : Fr) Try.func12 (by kernel_rfl) Try.ntmps12 rfl rfl ?_
 intro g w0 R h0
 refine ySq ?_
 refine yPl [0, 1, 2, 3] ?_
 refine yA ?_
 refine yNp 5 32 [iV x, iV y, uV z] h0 fun r1 w2 h3 => ?_
 refine yA ?_
 refine yNp 7 34 [iV hx, uV hy] h3 fun r4 w5 h6 => ?_
 refine yA ?_
 refine yNp 8 28 [iV 0, iV 0, uV 0] h6 fun r7 w8 h9 => ?_
 refine yB0 [] [3] [(9, iV 0)] (.mk ?_)
 refine yK [(0, pV b), (2, .string (St L)), (5, pV r1), (7, pV r4), (8, pV r7)] fun lr10 => ?_
 refine ySq ?_
 refine ySq ?_
 refine yPl [0, 1, 2] ?_
 refine yB0 [1, 2] [0] [(12, pV b)] ?_
 have h11 := tk5 (sf4 (sf3 (sf3 (sf3 (sf4 h9)))))
 refine yA ?_
 refine yCl 13 Try.call36 (tvalid_ht b n A E RL) h11 ?_
 rintro v K w12 (⟨rfl, rfl⟩) h13
 refine ⟨_, rfl, ?_⟩
 have h14 := ap1 h13
 refine yB0 [] [2] [(14, .bool false)] (.mk ?_)
 refine yK [(0, pV b), (2, .string (St L)), (5, pV r1), (7, pV r4), (8, pV r7), (14, .bool false)] fun lr15 => ?_
 refine yCf ?_
 refine ySk ?_
 refine ySq ?_
 refine yPl [0, 1, 2, 3, 4, 5, 6, 7, 8] ?_
 refine yBb [2, 3, 4, 5, 6, 7, 8] [(18, .string (St L)), (17, .agg #[iV x, iV y, uV z])] [e2 0 [iV x, iV y, uV z], e0 1] [(0, ⟨r1, 0, none⟩, iV x), (0, ⟨r1, 1, none⟩, iV y), (0, ⟨r1, 2, none⟩, uV z)] [] trivial (kC (sat_cell h14 3 rfl rfl) (kC (sat_cell h14 3 rfl rfl) (kC (sat_cell h14 3 rfl rfl) nC))) ?_
 refine yA ?_
 refine yCl 19 Try.call37 (rnew_ok x y z L (by omega) (by omega) (by omega) (by omega) (by omega)) h14 ?_
 rintro v K w16 (⟨rfl, rfl⟩) h17
 refine ⟨_, rfl, ?_⟩
 have h18 := ap0 h17
 refine yB0 [6, 7, 8] [3, 4, 5] [(21, iV 0), (20, .agg #[iV x, iV y, uV z, iV 1, iV 0, iV 0, iV 0, .string (St L)]), (16, .tuple #[.agg #[iV x, iV y, uV z, iV 1, iV 0, iV 0, iV 0, .string (St L)], iV 0])] ?_
 refine yA ?_
 refine yNp 10 42 [iV 0, iV 0, uV 0, iV 0, iV 0, iV 0, iV 0, .string (St [])] h18 fun r19 w20 h21 => ?_
 refine yA ?_
 refine yS [(0, iV x), (1, iV y), (2, uV z), (3, iV 1), (4, iV 0), (5, iV 0), (6, iV 0), (7, .string (St L))] [iV x, iV y, uV z, iV 1, iV 0, iV 0, iV 0, .string (St L)] h21 fun w22 h23 => ?_
 refine yB0 [] [8] [(11, iV 0)] (.mk ?_)
 refine yK [(0, pV b), (5, pV r1), (7, pV r4), (8, pV r7), (10, pV r19), (11, iV 0)] fun lr24 => ?_
 refine ySq ?_
 refine ySq ?_
 refine yPl [0, 1] ?_
 refine yB0 [] [0, 1] [(23, .bool false), (22, iV 0)] (.mk ?_)
 refine yK [(0, pV b), (5, pV r1), (7, pV r4), (8, pV r7), (10, pV r19), (11, iV 0), (23, .bool false)] fun lr25 => ?_
 refine yCf ?_
 refine ySk ?_
 refine ySq ?_
 refine yBk 0 ?_
 refine ySq ?_
 refine yPl [0, 1, 2, 3] ?_
 refine yBb [1, 2, 3] [(27, .agg #[iV hx, uV hy])] [e2 0 [iV hx, uV hy]] [(0, ⟨r4, 0, none⟩, iV hx), (0, ⟨r4, 1, none⟩, uV hy)] [] trivial (kC (sat_cell h23 3 rfl rfl) (kC (sat_cell h23 3 rfl rfl) nC)) ?_
 refine yA ?_
 refine yCl 28 Try.call38 (obj_t hx hy (by omega)) h23 ?_
 rintro v K w26 (⟨rfl, rfl⟩) h27
 refine ⟨_, rfl, ?_⟩
 have h28 := ap0 h27
 refine yB0 [] [2, 3] [(26, .bool false), (29, .bool false)] (.mk ?_)
 refine yK [(0, pV b), (5, pV r1), (7, pV r4), (8, pV r7), (10, pV r19), (26, .bool false)] fun lr29 => ?_
 refine yCf ?_
 refine ySq ?_
 refine yPl [0, 1, 2, 3, 4, 5, 6, 7, 8, 9, 10, 11] ?_
 have h30 := tk6 (sf5 (sf4 (sf5 (sf5 (sf5 (sf5 h28))))))
 obtain ⟨s31, m32, p33, c34, E35, hM36, h37⟩ := tab_open h30
 have hRl_ := hM36.2
 refine yBb [5, 6, 7, 8, 9, 10, 11] [(36, .func (Fn.func 40) #[] #[pV r1]), (35, .slice p33 RL.length c34), (34, .pointer (some ⟨b, 2, none⟩)), (33, pV b), (32, pV b)] [e0 0, e0 1, e0 2, e2 3 [.slice p33 RL.length c34], e0 4] [(3, ⟨b, 2, none⟩, .slice p33 RL.length c34)] [] trivial (kC (sat_cell h37 0 rfl rfl) nC) ?_
 have h38 := tk9 (sf8 (sf8 (sf6 (sf6 (sf6 (sf7 (sf7 (sf7 (sf8 h37)))))))))
 refine yA ?_
 refine yCl 37 Try.call39 (rhas_f p33 RL.length c34 r1 RL x y z hc (by omega)) h38 ?_
 rintro v K w39 (⟨rfl, rfl⟩) h40
 refine ⟨_, rfl, ?_⟩
 have h41 := ap2 h40
 refine yBb [9, 10, 11] [(40, .agg #[iV hx, uV hy]), (39, pV b), (38, .bool false)] [e0 6, e0 7, e2 8 [iV hx, uV hy]] [(8, ⟨r4, 0, none⟩, iV hx), (8, ⟨r4, 1, none⟩, uV hy)] [] trivial (kC (sat_cell h41 7 rfl rfl) (kC (sat_cell h41 7 rfl rfl) nC)) ?_
 have h42 := tk9 (sf8 (sf8 (sf8 (sf5 (sf5 (sf8 (sf8 (sf8 (sf8 h41)))))))))
 have h43 : sat g w39 [Tab b n A E RL, Cl r1 [iV x, iV y, uV z] 32, Cl r19 [iV x, iV y, uV z, iV 1, iV 0, iV 0, iV 0, .string (St L)] 42, Cl r7 [iV 0, iV 0, uV 0] 28, Cl r4 [iV hx, uV hy] 34, R] := tab_close hM36.1 (by omega) (by first | rfl | omega) h42
 refine yA ?_
 refine yCl 41 Try.call41 (thas_t b n A E RL hx hy hh) h43 ?_
 rintro v K w44 (⟨rfl, rfl⟩) h45
 refine ⟨_, rfl, ?_⟩
 have h46 := ap1 h45
 refine yB0 [] [10, 11] [(31, .bool true), (42, .bool true)] (.mk ?_)
 refine yK [(0, pV b), (7, pV r4), (8, pV r7), (10, pV r19), (31, .bool true)] fun lr47 => ?_
 refine yCt ?_
 refine ySq ?_
 refine yPl [0, 1, 2] ?_
 refine yB0 [1, 2] [0] [(43, .agg #[iV 0, iV 0, uV 0])] ?_
 have h48 := tk6 (sf5 (sf4 (sf4 (sf4 (sf5 (sf5 h46))))))
 refine yA ?_
 refine yS [(0, iV 0), (1, iV 0), (2, uV 0)] [iV 0, iV 0, uV 0] h48 fun w49 h50 => ?_
 refine yB0 [] [2] [(9, iV 6)] (.mk ?_)
 refine yK [(8, pV r7), (9, iV 6)] fun lr51 => ?_
 refine yRt ?_
 repeat (first | simp only [Exit.inBlock] | simp only [Exit.then])
 have h52 := tk6 (sf5 (sf4 (sf5 (sf5 (sf5 (sf5 h50))))))
 have h53 := tk2 (sf1 (sf5 h52))
 refine hi_out [iV 0, iV 0, uV 0] (.tuple #[.agg #[iV 0, iV 0, uV 0], iV 6]) [(⟨r7, 0, none⟩, iV 0), (⟨r7, 1, none⟩, iV 0), (⟨r7, 2, none⟩, uV 0)] (by kernel_rfl) (allq ⟨sat_cell h50 0 rfl rfl, sat_cell h50 0 rfl rfl, sat_cell h50 0 rfl rfl, trivial⟩) ?_
 exact ⟨.tuple #[.agg #[iV 0, iV 0, uV 0], iV 6], [Tab b n A E RL], rfl, ⟨rfl, rfl⟩, h53⟩

set_option maxHeartbeats 4000000 in
theorem topen_full (b n : Nat) (A : List Sl2) (E : Tm) (RL : List Rs) (x y z hx hy : Int) (L : List UInt8) (hz0 : 0 ≤ z) (hz1 : z ≤ 4294967295) (hm : L.length ≤ 1099511627776) (ho : 1 ≤ x ∧ x ≤ 3 ∧ 0 ≤ y ∧ y ≤ 63 ∧ 1 ≤ z) (ht : tagE L = 0) (hob : 0 ≤ hx ∧ hx ≤ 255 ∧ 1 ≤ hy) (hc : ∀ r ∈ RL, r.out ≠ (x, y, z)) (hh : ∀ e ∈ allE E, e.h ≠ (hx, hy)) (hl : RL.length = 2000 ∨ (inS 0 A 0).length = 0) : HT Try.prog 12 [Value.pointer (some ⟨b, 0, none⟩), Value.agg #[Value.int IntKind.i64 x, Value.int IntKind.i64 y, Value.int IntKind.u32 z], Value.string (St L), Value.agg #[Value.int IntKind.i64 hx, Value.int IntKind.u32 hy]] [Tab b n A E RL] (fun v K => v = Value.tuple #[Value.agg #[Value.int IntKind.i64 0, Value.int IntKind.i64 0, Value.int IntKind.u32 0], Value.int IntKind.i64 4] ∧ K = [Tab b n A E RL]) := by
 refine hi_in 80 ([(0, pV b), (1, .agg #[iV x, iV y, uV z]), (2, .string (St L)), (3, .agg #[iV hx, uV hy])] : Fr) Try.func12 (by kernel_rfl) Try.ntmps12 rfl rfl ?_
 intro g w0 R h0
 refine ySq ?_
 refine yPl [0, 1, 2, 3] ?_
 refine yA ?_
 refine yNp 5 32 [iV x, iV y, uV z] h0 fun r1 w2 h3 => ?_
 refine yA ?_
 refine yNp 7 34 [iV hx, uV hy] h3 fun r4 w5 h6 => ?_
 refine yA ?_
 refine yNp 8 28 [iV 0, iV 0, uV 0] h6 fun r7 w8 h9 => ?_
 refine yB0 [] [3] [(9, iV 0)] (.mk ?_)
 refine yK [(0, pV b), (2, .string (St L)), (5, pV r1), (7, pV r4), (8, pV r7)] fun lr10 => ?_
 refine ySq ?_
 refine ySq ?_
 refine yPl [0, 1, 2] ?_
 refine yB0 [1, 2] [0] [(12, pV b)] ?_
 have h11 := tk5 (sf4 (sf3 (sf3 (sf3 (sf4 h9)))))
 refine yA ?_
 refine yCl 13 Try.call36 (tvalid_ht b n A E RL) h11 ?_
 rintro v K w12 (⟨rfl, rfl⟩) h13
 refine ⟨_, rfl, ?_⟩
 have h14 := ap1 h13
 refine yB0 [] [2] [(14, .bool false)] (.mk ?_)
 refine yK [(0, pV b), (2, .string (St L)), (5, pV r1), (7, pV r4), (8, pV r7), (14, .bool false)] fun lr15 => ?_
 refine yCf ?_
 refine ySk ?_
 refine ySq ?_
 refine yPl [0, 1, 2, 3, 4, 5, 6, 7, 8] ?_
 refine yBb [2, 3, 4, 5, 6, 7, 8] [(18, .string (St L)), (17, .agg #[iV x, iV y, uV z])] [e2 0 [iV x, iV y, uV z], e0 1] [(0, ⟨r1, 0, none⟩, iV x), (0, ⟨r1, 1, none⟩, iV y), (0, ⟨r1, 2, none⟩, uV z)] [] trivial (kC (sat_cell h14 3 rfl rfl) (kC (sat_cell h14 3 rfl rfl) (kC (sat_cell h14 3 rfl rfl) nC))) ?_
 refine yA ?_
 refine yCl 19 Try.call37 (rnew_ok x y z L (by omega) (by omega) (by omega) (by omega) (by omega)) h14 ?_
 rintro v K w16 (⟨rfl, rfl⟩) h17
 refine ⟨_, rfl, ?_⟩
 have h18 := ap0 h17
 refine yB0 [6, 7, 8] [3, 4, 5] [(21, iV 0), (20, .agg #[iV x, iV y, uV z, iV 1, iV 0, iV 0, iV 0, .string (St L)]), (16, .tuple #[.agg #[iV x, iV y, uV z, iV 1, iV 0, iV 0, iV 0, .string (St L)], iV 0])] ?_
 refine yA ?_
 refine yNp 10 42 [iV 0, iV 0, uV 0, iV 0, iV 0, iV 0, iV 0, .string (St [])] h18 fun r19 w20 h21 => ?_
 refine yA ?_
 refine yS [(0, iV x), (1, iV y), (2, uV z), (3, iV 1), (4, iV 0), (5, iV 0), (6, iV 0), (7, .string (St L))] [iV x, iV y, uV z, iV 1, iV 0, iV 0, iV 0, .string (St L)] h21 fun w22 h23 => ?_
 refine yB0 [] [8] [(11, iV 0)] (.mk ?_)
 refine yK [(0, pV b), (5, pV r1), (7, pV r4), (8, pV r7), (10, pV r19), (11, iV 0)] fun lr24 => ?_
 refine ySq ?_
 refine ySq ?_
 refine yPl [0, 1] ?_
 refine yB0 [] [0, 1] [(23, .bool false), (22, iV 0)] (.mk ?_)
 refine yK [(0, pV b), (5, pV r1), (7, pV r4), (8, pV r7), (10, pV r19), (11, iV 0), (23, .bool false)] fun lr25 => ?_
 refine yCf ?_
 refine ySk ?_
 refine ySq ?_
 refine yBk 0 ?_
 refine ySq ?_
 refine yPl [0, 1, 2, 3] ?_
 refine yBb [1, 2, 3] [(27, .agg #[iV hx, uV hy])] [e2 0 [iV hx, uV hy]] [(0, ⟨r4, 0, none⟩, iV hx), (0, ⟨r4, 1, none⟩, uV hy)] [] trivial (kC (sat_cell h23 3 rfl rfl) (kC (sat_cell h23 3 rfl rfl) nC)) ?_
 refine yA ?_
 refine yCl 28 Try.call38 (obj_t hx hy (by omega)) h23 ?_
 rintro v K w26 (⟨rfl, rfl⟩) h27
 refine ⟨_, rfl, ?_⟩
 have h28 := ap0 h27
 refine yB0 [] [2, 3] [(26, .bool false), (29, .bool false)] (.mk ?_)
 refine yK [(0, pV b), (5, pV r1), (7, pV r4), (8, pV r7), (10, pV r19), (26, .bool false)] fun lr29 => ?_
 refine yCf ?_
 refine ySq ?_
 refine yPl [0, 1, 2, 3, 4, 5, 6, 7, 8, 9, 10, 11] ?_
 have h30 := tk6 (sf5 (sf4 (sf5 (sf5 (sf5 (sf5 h28))))))
 obtain ⟨s31, m32, p33, c34, E35, hM36, h37⟩ := tab_open h30
 have hRl_ := hM36.2
 refine yBb [5, 6, 7, 8, 9, 10, 11] [(36, .func (Fn.func 40) #[] #[pV r1]), (35, .slice p33 RL.length c34), (34, .pointer (some ⟨b, 2, none⟩)), (33, pV b), (32, pV b)] [e0 0, e0 1, e0 2, e2 3 [.slice p33 RL.length c34], e0 4] [(3, ⟨b, 2, none⟩, .slice p33 RL.length c34)] [] trivial (kC (sat_cell h37 0 rfl rfl) nC) ?_
 have h38 := tk9 (sf8 (sf8 (sf6 (sf6 (sf6 (sf7 (sf7 (sf7 (sf8 h37)))))))))
 refine yA ?_
 refine yCl 37 Try.call39 (rhas_f p33 RL.length c34 r1 RL x y z hc (by omega)) h38 ?_
 rintro v K w39 (⟨rfl, rfl⟩) h40
 refine ⟨_, rfl, ?_⟩
 have h41 := ap2 h40
 refine yBb [9, 10, 11] [(40, .agg #[iV hx, uV hy]), (39, pV b), (38, .bool false)] [e0 6, e0 7, e2 8 [iV hx, uV hy]] [(8, ⟨r4, 0, none⟩, iV hx), (8, ⟨r4, 1, none⟩, uV hy)] [] trivial (kC (sat_cell h41 7 rfl rfl) (kC (sat_cell h41 7 rfl rfl) nC)) ?_
 have h42 := tk9 (sf8 (sf8 (sf8 (sf5 (sf5 (sf8 (sf8 (sf8 (sf8 h41)))))))))
 have h43 : sat g w39 [Tab b n A E RL, Cl r1 [iV x, iV y, uV z] 32, Cl r19 [iV x, iV y, uV z, iV 1, iV 0, iV 0, iV 0, .string (St L)] 42, Cl r7 [iV 0, iV 0, uV 0] 28, Cl r4 [iV hx, uV hy] 34, R] := tab_close hM36.1 (by omega) (by first | rfl | omega) h42
 refine yA ?_
 refine yCl 41 Try.call41 (thas_f b n A E RL hx hy hh) h43 ?_
 rintro v K w44 (⟨rfl, rfl⟩) h45
 refine ⟨_, rfl, ?_⟩
 have h46 := ap1 h45
 refine yB0 [] [10, 11] [(31, .bool false), (42, .bool false)] (.mk ?_)
 refine yK [(0, pV b), (7, pV r4), (8, pV r7), (10, pV r19), (31, .bool false)] fun lr47 => ?_
 refine yCf ?_
 refine ySq ?_
 refine yPl [0, 1, 2, 3, 4, 5, 6, 7, 8, 9, 10, 11, 12, 13, 14] ?_
 obtain ⟨s48, m49, p50, c51, E52, hM53, h54⟩ := tab_open h46
 have hRl_ := hM53.2
 refine yBb [5, 6, 7, 8, 9, 10, 11, 12, 13, 14] [(49, iV (((RL.length : Nat) : Int))), (48, .slice p50 RL.length c51), (47, .pointer (some ⟨b, 2, none⟩)), (46, pV b), (45, pV b)] [e0 0, e0 1, e0 2, e2 3 [.slice p50 RL.length c51], e0 4] [(3, ⟨b, 2, none⟩, .slice p50 RL.length c51)] [] trivial (kC (sat_cell h54 0 rfl rfl) nC) ?_
 by_cases c55 : ((RL.length : Nat) : Int) ≥ 2000
 ·
  refine yBb [11, 12, 13, 14] [(55, undef), (54, undef), (53, undef), (52, undef), (51, .bool true), (50, .bool true)] [e1 5 (.bool true), e0 6, e0 7, e0 8, e0 9, e0 10] [] [(.bool (decide (((RL.length : Nat) : Int) ≥ 2000)), .bool true)] ⟨(ov_t (by omega)), trivial⟩ nC ?_
  refine plain_skip (by kernel_rfl : chkN (RA Try.f12 [1, 1, 1, 1, 0, 0, 1, 1, 1, 1, 0]) 80 _ 11 = some (some 56)) rfl ?_
  refine yB0 [] [12, 13, 14] [(44, .bool true), (58, .bool true), (57, undef)] (.mk ?_)
  refine yK [(0, pV b), (7, pV r4), (8, pV r7), (10, pV r19), (44, .bool true)] fun lr56 => ?_
  refine yCt ?_
  refine ySq ?_
  refine yPl [0, 1, 2] ?_
  refine yB0 [1, 2] [0] [(59, .agg #[iV 0, iV 0, uV 0])] ?_
  have h57 := tk9 (sf8 (sf7 (sf7 (sf7 (sf7 (sf7 (sf7 (sf8 (sf8 h54)))))))))
  refine yA ?_
  refine yS [(0, iV 0), (1, iV 0), (2, uV 0)] [iV 0, iV 0, uV 0] h57 fun w58 h59 => ?_
  refine yB0 [] [2] [(9, iV 4)] (.mk ?_)
  refine yK [(8, pV r7), (9, iV 4)] fun lr60 => ?_
  refine yRt ?_
  repeat (first | simp only [Exit.inBlock] | simp only [Exit.then])
  have h61 := tk9 (sf8 (sf8 (sf8 (sf8 (sf4 (sf8 (sf8 (sf8 (sf8 h59)))))))))
  have h62 : sat g w58 [Tab b n A E RL, Cl r7 [iV 0, iV 0, uV 0] 28, Cl r1 [iV x, iV y, uV z] 32, Cl r19 [iV x, iV y, uV z, iV 1, iV 0, iV 0, iV 0, .string (St L)] 42, Cl r4 [iV hx, uV hy] 34, R] := tab_close hM53.1 (by omega) (by first | rfl | omega) h61
  have h63 := tk2 (sf1 (sf5 h62))
  refine hi_out [iV 0, iV 0, uV 0] (.tuple #[.agg #[iV 0, iV 0, uV 0], iV 4]) [(⟨r7, 0, none⟩, iV 0), (⟨r7, 1, none⟩, iV 0), (⟨r7, 2, none⟩, uV 0)] (by kernel_rfl) (allq ⟨sat_cell h59 0 rfl rfl, sat_cell h59 0 rfl rfl, sat_cell h59 0 rfl rfl, trivial⟩) ?_
  exact ⟨.tuple #[.agg #[iV 0, iV 0, uV 0], iV 4], [Tab b n A E RL], rfl, ⟨rfl, rfl⟩, h63⟩
 ·
  refine yBb [11, 12, 13, 14] [(55, pV s48), (54, pV b), (53, pV b), (52, pV b), (51, .bool false), (50, .bool false)] [e1 5 (.bool false), e0 6, e0 7, e0 8, e0 9, e2 10 [pV s48]] [(10, ⟨b, 0, none⟩, pV s48)] [(.bool (decide (((RL.length : Nat) : Int) ≥ 2000)), .bool false)] ⟨(ov_f (by omega)), trivial⟩ (kC (sat_cell h54 0 rfl rfl) nC) ?_
  have h64 := tk9 (sf8 (sf7 (sf8 (sf8 (sf8 (sf8 (sf8 (sf8 (sf8 h54)))))))))
  refine yA ?_
  refine yCl 56 Try.call42 (sfree_ht s48 n A) h64 ?_
  rintro v K w65 (⟨rfl, rfl⟩) h66
  refine ⟨_, rfl, ?_⟩
  have h67 := ap1 h66
  refine yBb [] [(44, .bool true), (58, .bool true), (57, .bool true)] [e1 12 (.bool true), e0 13, e0 14] [] [(.bool (((((inS 0 A 0).length : Nat) : Int)) == 0), .bool true)] ⟨(ov_et (by omega)), trivial⟩ nC (.mk ?_)
  refine yK [(0, pV b), (7, pV r4), (8, pV r7), (10, pV r19), (44, .bool true)] fun lr68 => ?_
  refine yCt ?_
  refine ySq ?_
  refine yPl [0, 1, 2] ?_
  refine yB0 [1, 2] [0] [(59, .agg #[iV 0, iV 0, uV 0])] ?_
  have h69 := tk9 (sf8 (sf7 (sf7 (sf7 (sf7 (sf7 (sf7 (sf8 (sf8 h67)))))))))
  refine yA ?_
  refine yS [(0, iV 0), (1, iV 0), (2, uV 0)] [iV 0, iV 0, uV 0] h69 fun w70 h71 => ?_
  refine yB0 [] [2] [(9, iV 4)] (.mk ?_)
  refine yK [(8, pV r7), (9, iV 4)] fun lr72 => ?_
  refine yRt ?_
  repeat (first | simp only [Exit.inBlock] | simp only [Exit.then])
  have h73 := tk9 (sf8 (sf7 (sf8 (sf8 (sf4 (sf8 (sf8 (sf8 (sf8 h71)))))))))
  have h74 : sat g w70 [Tab b n A E RL, Cl r7 [iV 0, iV 0, uV 0] 28, Cl r1 [iV x, iV y, uV z] 32, Cl r19 [iV x, iV y, uV z, iV 1, iV 0, iV 0, iV 0, .string (St L)] 42, Cl r4 [iV hx, uV hy] 34, R] := tab_close hM53.1 (by omega) (by first | rfl | omega) h73
  have h75 := tk2 (sf1 (sf5 h74))
  refine hi_out [iV 0, iV 0, uV 0] (.tuple #[.agg #[iV 0, iV 0, uV 0], iV 4]) [(⟨r7, 0, none⟩, iV 0), (⟨r7, 1, none⟩, iV 0), (⟨r7, 2, none⟩, uV 0)] (by kernel_rfl) (allq ⟨sat_cell h71 0 rfl rfl, sat_cell h71 0 rfl rfl, sat_cell h71 0 rfl rfl, trivial⟩) ?_
  exact ⟨.tuple #[.agg #[iV 0, iV 0, uV 0], iV 4], [Tab b n A E RL], rfl, ⟨rfl, rfl⟩, h75⟩

set_option maxHeartbeats 4000000 in
theorem topen_ok (b n : Nat) (A : List Sl2) (E : Tm) (RL : List Rs) (x y z hx hy : Int) (L : List UInt8) (hz0 : 0 ≤ z) (hz1 : z ≤ 4294967295) (hm : L.length ≤ 1099511627776) (ho : 1 ≤ x ∧ x ≤ 3 ∧ 0 ≤ y ∧ y ≤ 63 ∧ 1 ≤ z) (ht : tagE L = 0) (hob : 0 ≤ hx ∧ hx ≤ 255 ∧ 1 ≤ hy) (hc : ∀ r ∈ RL, r.out ≠ (x, y, z)) (hh : ∀ e ∈ allE E, e.h ≠ (hx, hy)) (hl : RL.length < 2000) (j : Nat) (gj : Int) (hj : (inS 0 A 0)[0]? = some (j, gj)) (hfl_ : 1 ≤ (inS 0 A 0).length) : HT Try.prog 12 [Value.pointer (some ⟨b, 0, none⟩), Value.agg #[Value.int IntKind.i64 x, Value.int IntKind.i64 y, Value.int IntKind.u32 z], Value.string (St L), Value.agg #[Value.int IntKind.i64 hx, Value.int IntKind.u32 hy]] [Tab b n A E RL] (fun v K => v = Value.tuple #[Value.agg #[Value.int IntKind.i64 x, Value.int IntKind.i64 (((j : Nat) : Int)), Value.int IntKind.u32 gj], Value.int IntKind.i64 0] ∧ K = [Tab b n (A.set j (1, gj)) (gset E (j : Int) ⟨(x, (j : Int), gj), (RL.length : Int) + 1, (hx, hy)⟩) (RL ++ [(⟨(x, y, z), 1, 0, 0, 0, L⟩ : Rs)])]) := by
 refine hi_in 80 ([(0, pV b), (1, .agg #[iV x, iV y, uV z]), (2, .string (St L)), (3, .agg #[iV hx, uV hy])] : Fr) Try.func12 (by kernel_rfl) Try.ntmps12 rfl rfl ?_
 intro g w0 R h0
 refine ySq ?_
 refine yPl [0, 1, 2, 3] ?_
 refine yA ?_
 refine yNp 5 32 [iV x, iV y, uV z] h0 fun r1 w2 h3 => ?_
 refine yA ?_
 refine yNp 7 34 [iV hx, uV hy] h3 fun r4 w5 h6 => ?_
 refine yA ?_
 refine yNp 8 28 [iV 0, iV 0, uV 0] h6 fun r7 w8 h9 => ?_
 refine yB0 [] [3] [(9, iV 0)] (.mk ?_)
 refine yK [(0, pV b), (2, .string (St L)), (5, pV r1), (7, pV r4), (8, pV r7)] fun lr10 => ?_
 refine ySq ?_
 refine ySq ?_
 refine yPl [0, 1, 2] ?_
 refine yB0 [1, 2] [0] [(12, pV b)] ?_
 have h11 := tk5 (sf4 (sf3 (sf3 (sf3 (sf4 h9)))))
 refine yA ?_
 refine yCl 13 Try.call36 (tvalid_ht b n A E RL) h11 ?_
 rintro v K w12 (⟨rfl, rfl⟩) h13
 refine ⟨_, rfl, ?_⟩
 have h14 := ap1 h13
 refine yB0 [] [2] [(14, .bool false)] (.mk ?_)
 refine yK [(0, pV b), (2, .string (St L)), (5, pV r1), (7, pV r4), (8, pV r7), (14, .bool false)] fun lr15 => ?_
 refine yCf ?_
 refine ySk ?_
 refine ySq ?_
 refine yPl [0, 1, 2, 3, 4, 5, 6, 7, 8] ?_
 refine yBb [2, 3, 4, 5, 6, 7, 8] [(18, .string (St L)), (17, .agg #[iV x, iV y, uV z])] [e2 0 [iV x, iV y, uV z], e0 1] [(0, ⟨r1, 0, none⟩, iV x), (0, ⟨r1, 1, none⟩, iV y), (0, ⟨r1, 2, none⟩, uV z)] [] trivial (kC (sat_cell h14 3 rfl rfl) (kC (sat_cell h14 3 rfl rfl) (kC (sat_cell h14 3 rfl rfl) nC))) ?_
 refine yA ?_
 refine yCl 19 Try.call37 (rnew_ok x y z L (by omega) (by omega) (by omega) (by omega) (by omega)) h14 ?_
 rintro v K w16 (⟨rfl, rfl⟩) h17
 refine ⟨_, rfl, ?_⟩
 have h18 := ap0 h17
 refine yB0 [6, 7, 8] [3, 4, 5] [(21, iV 0), (20, .agg #[iV x, iV y, uV z, iV 1, iV 0, iV 0, iV 0, .string (St L)]), (16, .tuple #[.agg #[iV x, iV y, uV z, iV 1, iV 0, iV 0, iV 0, .string (St L)], iV 0])] ?_
 refine yA ?_
 refine yNp 10 42 [iV 0, iV 0, uV 0, iV 0, iV 0, iV 0, iV 0, .string (St [])] h18 fun r19 w20 h21 => ?_
 refine yA ?_
 refine yS [(0, iV x), (1, iV y), (2, uV z), (3, iV 1), (4, iV 0), (5, iV 0), (6, iV 0), (7, .string (St L))] [iV x, iV y, uV z, iV 1, iV 0, iV 0, iV 0, .string (St L)] h21 fun w22 h23 => ?_
 refine yB0 [] [8] [(11, iV 0)] (.mk ?_)
 refine yK [(0, pV b), (5, pV r1), (7, pV r4), (8, pV r7), (10, pV r19), (11, iV 0)] fun lr24 => ?_
 refine ySq ?_
 refine ySq ?_
 refine yPl [0, 1] ?_
 refine yB0 [] [0, 1] [(23, .bool false), (22, iV 0)] (.mk ?_)
 refine yK [(0, pV b), (5, pV r1), (7, pV r4), (8, pV r7), (10, pV r19), (11, iV 0), (23, .bool false)] fun lr25 => ?_
 refine yCf ?_
 refine ySk ?_
 refine ySq ?_
 refine yBk 0 ?_
 refine ySq ?_
 refine yPl [0, 1, 2, 3] ?_
 refine yBb [1, 2, 3] [(27, .agg #[iV hx, uV hy])] [e2 0 [iV hx, uV hy]] [(0, ⟨r4, 0, none⟩, iV hx), (0, ⟨r4, 1, none⟩, uV hy)] [] trivial (kC (sat_cell h23 3 rfl rfl) (kC (sat_cell h23 3 rfl rfl) nC)) ?_
 refine yA ?_
 refine yCl 28 Try.call38 (obj_t hx hy (by omega)) h23 ?_
 rintro v K w26 (⟨rfl, rfl⟩) h27
 refine ⟨_, rfl, ?_⟩
 have h28 := ap0 h27
 refine yB0 [] [2, 3] [(26, .bool false), (29, .bool false)] (.mk ?_)
 refine yK [(0, pV b), (5, pV r1), (7, pV r4), (8, pV r7), (10, pV r19), (26, .bool false)] fun lr29 => ?_
 refine yCf ?_
 refine ySq ?_
 refine yPl [0, 1, 2, 3, 4, 5, 6, 7, 8, 9, 10, 11] ?_
 have h30 := tk6 (sf5 (sf4 (sf5 (sf5 (sf5 (sf5 h28))))))
 obtain ⟨s31, m32, p33, c34, E35, hM36, h37⟩ := tab_open h30
 have hRl_ := hM36.2
 refine yBb [5, 6, 7, 8, 9, 10, 11] [(36, .func (Fn.func 40) #[] #[pV r1]), (35, .slice p33 RL.length c34), (34, .pointer (some ⟨b, 2, none⟩)), (33, pV b), (32, pV b)] [e0 0, e0 1, e0 2, e2 3 [.slice p33 RL.length c34], e0 4] [(3, ⟨b, 2, none⟩, .slice p33 RL.length c34)] [] trivial (kC (sat_cell h37 0 rfl rfl) nC) ?_
 have h38 := tk9 (sf8 (sf8 (sf6 (sf6 (sf6 (sf7 (sf7 (sf7 (sf8 h37)))))))))
 refine yA ?_
 refine yCl 37 Try.call39 (rhas_f p33 RL.length c34 r1 RL x y z hc (by omega)) h38 ?_
 rintro v K w39 (⟨rfl, rfl⟩) h40
 refine ⟨_, rfl, ?_⟩
 have h41 := ap2 h40
 refine yBb [9, 10, 11] [(40, .agg #[iV hx, uV hy]), (39, pV b), (38, .bool false)] [e0 6, e0 7, e2 8 [iV hx, uV hy]] [(8, ⟨r4, 0, none⟩, iV hx), (8, ⟨r4, 1, none⟩, uV hy)] [] trivial (kC (sat_cell h41 7 rfl rfl) (kC (sat_cell h41 7 rfl rfl) nC)) ?_
 have h42 := tk9 (sf8 (sf8 (sf8 (sf5 (sf5 (sf8 (sf8 (sf8 (sf8 h41)))))))))
 have h43 : sat g w39 [Tab b n A E RL, Cl r1 [iV x, iV y, uV z] 32, Cl r19 [iV x, iV y, uV z, iV 1, iV 0, iV 0, iV 0, .string (St L)] 42, Cl r7 [iV 0, iV 0, uV 0] 28, Cl r4 [iV hx, uV hy] 34, R] := tab_close hM36.1 (by omega) (by first | rfl | omega) h42
 refine yA ?_
 refine yCl 41 Try.call41 (thas_f b n A E RL hx hy hh) h43 ?_
 rintro v K w44 (⟨rfl, rfl⟩) h45
 refine ⟨_, rfl, ?_⟩
 have h46 := ap1 h45
 refine yB0 [] [10, 11] [(31, .bool false), (42, .bool false)] (.mk ?_)
 refine yK [(0, pV b), (7, pV r4), (8, pV r7), (10, pV r19), (31, .bool false)] fun lr47 => ?_
 refine yCf ?_
 refine ySq ?_
 refine yPl [0, 1, 2, 3, 4, 5, 6, 7, 8, 9, 10, 11, 12, 13, 14] ?_
 obtain ⟨s48, m49, p50, c51, E52, hM53, h54⟩ := tab_open h46
 have hRl_ := hM53.2
 refine yBb [11, 12, 13, 14] [(55, pV s48), (54, pV b), (53, pV b), (52, pV b), (51, .bool false), (50, .bool false), (49, iV (((RL.length : Nat) : Int))), (48, .slice p50 RL.length c51), (47, .pointer (some ⟨b, 2, none⟩)), (46, pV b), (45, pV b)] [e0 0, e0 1, e0 2, e2 3 [.slice p50 RL.length c51], e0 4, e1 5 (.bool false), e0 6, e0 7, e0 8, e0 9, e2 10 [pV s48]] [(10, ⟨b, 0, none⟩, pV s48), (3, ⟨b, 2, none⟩, .slice p50 RL.length c51)] [(.bool (decide (((RL.length : Nat) : Int) ≥ 2000)), .bool false)] ⟨(ov_f (by omega)), trivial⟩ (kC (sat_cell h54 0 rfl rfl) (kC (sat_cell h54 0 rfl rfl) nC)) ?_
 have h55 := tk9 (sf8 (sf7 (sf8 (sf8 (sf8 (sf8 (sf8 (sf8 (sf8 h54)))))))))
 refine yA ?_
 refine yCl 56 Try.call42 (sfree_ht s48 n A) h55 ?_
 rintro v K w56 (⟨rfl, rfl⟩) h57
 refine ⟨_, rfl, ?_⟩
 have h58 := ap1 h57
 refine yBb [] [(44, .bool false), (58, .bool false), (57, .bool false)] [e1 12 (.bool false), e0 13, e0 14] [] [(.bool (((((inS 0 A 0).length : Nat) : Int)) == 0), .bool false)] ⟨(ov_ef (by omega)), trivial⟩ nC (.mk ?_)
 refine yK [(0, pV b), (7, pV r4), (8, pV r7), (10, pV r19), (44, .bool false)] fun lr59 => ?_
 refine yCf ?_
 refine ySk ?_
 refine ySq ?_
 refine gi_drw (id := 12) (ops := RA Try.f12 [1, 1, 1, 1, 1, 0]) (Tr.fl 0 (Tr.fl 1 (Tr.fl 2 (Tr.fl 3 (Tr.fl 4 (Tr.fl 5 (Tr.an 6 (Tr.an 7 (Tr.fl 8 (Tr.fl 9 (Tr.an 10 Tr.nil))))))))))) (by kernel_rfl) (by kernel_rfl) (by kernel_rfl) (by kernel_rfl) (by kernel_rfl) (fun _ _ d _ _ h => by cases d <;> exact h) h58 ?_
 intro w60 h61
 refine yD _ [(65, .agg #[iV x, iV y, uV z, iV 1, iV 0, iV 0, iV 0, .string (St L)]), (64, .slice p50 RL.length c51), (63, .pointer (some ⟨b, 2, none⟩)), (62, pV b), (61, pV b), (60, pV b)] [e0 0, e0 1, e0 2, e0 3, e2 4 [.slice p50 RL.length c51], e2 5 [iV x, iV y, uV z, iV 1, iV 0, iV 0, iV 0, .string (St L)]] [(5, ⟨r19, 0, none⟩, iV x), (5, ⟨r19, 1, none⟩, iV y), (5, ⟨r19, 2, none⟩, uV z), (5, ⟨r19, 3, none⟩, iV 1), (5, ⟨r19, 4, none⟩, iV 0), (5, ⟨r19, 5, none⟩, iV 0), (5, ⟨r19, 6, none⟩, iV 0), (5, ⟨r19, 7, none⟩, .string (St L)), (4, ⟨b, 2, none⟩, .slice p50 RL.length c51)] [] trivial (kC (sat_cell h61 5 rfl rfl) (kC (sat_cell h61 5 rfl rfl) (kC (sat_cell h61 5 rfl rfl) (kC (sat_cell h61 5 rfl rfl) (kC (sat_cell h61 5 rfl rfl) (kC (sat_cell h61 5 rfl rfl) (kC (sat_cell h61 5 rfl rfl) (kC (sat_cell h61 5 rfl rfl) (kC (sat_cell h61 1 rfl rfl) nC))))))))) ?_
 refine draw_act (i := 6) [(4, ⟨b, 2, none⟩, .slice p50 RL.length c51)] (by kernel_rfl) (by kernel_rfl) ?_
 refine an_new (d := 66) (fun xb_ => .slice (some ⟨xb_, 0, none⟩) 1 1) (fun xb_ => Obj.cells [iV x, iV y, uV z, iV 1, iV 0, iV 0, iV 0, .string (St L)].toArray 42 (0, 0)) (fun xb_ => by kernel_rfl) (by kernel_rfl) rfl h61 ?_
 intro r62 w63 (h64 : sat g w63 [Cl r62 [iV x, iV y, uV z, iV 1, iV 0, iV 0, iV 0, .string (St L)] 42, Tb s48 n A, Cl b [pV s48, .map (some m49), .slice p50 RL.length c51] 76, Gp kI vE m49 E52, Sl 42 8 p50 RL.length c51 (fl eRs RL), Cl r1 [iV x, iV y, uV z] 32, Cl r19 [iV x, iV y, uV z, iV 1, iV 0, iV 0, iV 0, .string (St L)] 42, Cl r7 [iV 0, iV 0, uV 0] 28, Cl r4 [iV hx, uV hy] 34, R])
 refine ⟨(AllC_cons (sat_cell h64 2 rfl rfl) (AllC_nil _)), ?_⟩
 have h65 := tk10 (sf9 (sf8 (sf8 (sf8 (sf8 (sf9 (sf9 (sf9 (sf9 (sf9 h64))))))))))
 refine draw_act (i := 7) [] (by kernel_rfl) (by kernel_rfl) ?_
 refine an_append (d := 67) (sz := 8) (s := (Operand.tmp 64)) (x := (Operand.tmp 66)) (z := .agg #[iV 0, iV 0, uV 0, iV 0, iV 0, iV 0, iV 0, .string (St [])]) (p := p50) (m := RL.length) (c := c51) (k := 1) (c2 := 1) (a := ⟨r62, 0, none⟩) (by_ := 72) (by kernel_rfl) (by kernel_rfl) rfl Try.underlying74 (by kernel_rfl) rfl (by decide) (by kernel_rfl) (by kernel_rfl) h65 (fl eRs [(⟨(x, y, z), 1, 0, 0, 0, L⟩ : Rs)]) rfl (fun j u hj => by rw [add_off]; exact sat_cell h65 1 rfl (by rw [Nat.zero_add]; exact hj)) (fl_one eRs_ok _) (by omega) (by omega) (RL.length + 1) (by omega) ?_
 intro p66 cap67 w68 h69
 have h70 : sat g w68 [Sl 42 8 p66 (RL.length + 1) cap67 (fl eRs (RL ++ [(⟨(x, y, z), 1, 0, 0, 0, L⟩ : Rs)])), Cl r62 [iV x, iV y, uV z, iV 1, iV 0, iV 0, iV 0, .string (St L)] 42, Tb s48 n A, Cl b [pV s48, .map (some m49), .slice p50 RL.length c51] 76, Gp kI vE m49 E52, Cl r1 [iV x, iV y, uV z] 32, Cl r19 [iV x, iV y, uV z, iV 1, iV 0, iV 0, iV 0, .string (St L)] 42, Cl r7 [iV 0, iV 0, uV 0] 28, Cl r4 [iV hx, uV hy] 34, R] := sat_imp h69 (fun _ hh => by rw [fl_app]; exact hh)
 obtain ⟨hn71, hn72⟩ := sl_le h70
 refine ⟨(AllC_nil _), ?_⟩
 refine yD _ [(69, .pointer (some ⟨b, 2, none⟩)), (68, pV b)] [e0 8, e0 9] [] [] trivial nC ?_
 have h73 := tk10 (sf9 (sf8 (sf8 (sf8 (sf9 (sf9 (sf9 (sf9 (sf9 (sf9 h70))))))))))
 refine draw_act (i := 10) [] (by kernel_rfl) (by kernel_rfl) ?_
 refine yS [(2, .slice p66 (RL.length + 1) cap67)] [pV s48, .map (some m49), .slice p66 (RL.length + 1) cap67] h73 fun w74 h75 => ?_
 refine ⟨(AllC_nil _), ?_⟩
 refine yK [(0, pV b), (7, pV r4), (8, pV r7)] fun lr76 => ?_
 refine ySq ?_
 refine gi_drw (id := 13) (ops := RA Try.f12 [1, 1, 1, 1, 1, 1, 0]) (Tr.fl 0 (Tr.fl 1 (Tr.fl 2 (Tr.fl 3 (Tr.fl 4 (Tr.fl 5 (Tr.fl 6 (Tr.an 7 (Tr.fl 8 (Tr.fl 9 (Tr.an 10 (Tr.fl 11 Tr.nil)))))))))))) (by kernel_rfl) (by kernel_rfl) (by kernel_rfl) (by kernel_rfl) (by kernel_rfl) (fun _ _ d _ _ h => by cases d <;> exact h) h75 ?_
 intro w77 h78
 refine yD _ [(76, .agg #[iV hx, uV hy]), (75, iV (((RL.length : Nat) : Int) + 1)), (74, .slice p66 (RL.length + 1) cap67), (73, .pointer (some ⟨b, 2, none⟩)), (72, pV b), (71, pV b), (70, pV b)] [e0 0, e0 1, e0 2, e0 3, e2 4 [.slice p66 (RL.length + 1) cap67], e1 5 (iV (((RL.length : Nat) : Int) + 1)), e2 6 [iV hx, uV hy]] [(6, ⟨r4, 0, none⟩, iV hx), (6, ⟨r4, 1, none⟩, uV hy), (4, ⟨b, 2, none⟩, .slice p66 (RL.length + 1) cap67)] [(iV ((RL.length + 1 : Nat) : Int), iV (((RL.length : Nat) : Int) + 1))] ⟨(ov_int (by omega)), trivial⟩ (kC (sat_cell h78 8 rfl rfl) (kC (sat_cell h78 8 rfl rfl) (kC (sat_cell h78 0 rfl rfl) nC))) ?_
 have h79 := tk10 (sf9 (sf9 (sf9 (sf7 (sf7 (sf9 (sf9 (sf9 (sf9 (sf9 h78))))))))))
 have h80 : sat g w77 [TabX b n A E (RL ++ [(⟨(x, y, z), 1, 0, 0, 0, L⟩ : Rs)]) p66 (RL.length + 1) cap67, Cl r62 [iV x, iV y, uV z, iV 1, iV 0, iV 0, iV 0, .string (St L)] 42, Cl r1 [iV x, iV y, uV z] 32, Cl r19 [iV x, iV y, uV z, iV 1, iV 0, iV 0, iV 0, .string (St L)] 42, Cl r7 [iV 0, iV 0, uV 0] 28, Cl r4 [iV hx, uV hy] 34, R] := tabx_close hM53.1 (by simp only [List.length_append, List.length_set, List.length_cons, List.length_nil]; omega)  h79
 refine draw_act (i := 7) [(4, ⟨b, 2, none⟩, .slice p66 (RL.length + 1) cap67)] (by kernel_rfl) (by kernel_rfl) ?_
 refine yCl 77 Try.call43 (taddx_ok p66 (RL.length + 1) cap67 b n A E (RL ++ [(⟨(x, y, z), 1, 0, 0, 0, L⟩ : Rs)]) (((RL.length : Nat) : Int) + 1) hx hy RL.length (⟨(x, y, z), 1, 0, 0, 0, L⟩ : Rs) (show (RL ++ [(⟨(x, y, z), 1, 0, 0, 0, L⟩ : Rs)])[RL.length]? = some ((⟨(x, y, z), 1, 0, 0, 0, L⟩ : Rs) : Rs) from List.getElem?_concat_length) (by omega) j gj hj) h80 ?_
 rintro v K w81 (⟨rfl, rfl⟩) h82
 refine ⟨_, rfl, ?_⟩
 have h83 := ap1 h82
 obtain ⟨s84, m85, E88, hM89, h90⟩ := tabx_open h83
 have hRl_ := hM89.2
 have h91 := tk10 (sf9 (sf8 (sf8 (sf8 (sf9 (sf9 (sf9 (sf9 (sf9 (sf9 h90))))))))))
 have hl92 := fl_n eRs_ok (by decide) h91
 have h93 := tk10 (sf9 (sf9 (sf9 (sf6 (sf9 (sf9 (sf9 (sf9 (sf9 (sf9 h91))))))))))
 refine ⟨(AllC_cons (sat_cell h93 0 rfl rfl) (AllC_nil _)), ?_⟩
 refine yD _ [(79, iV 0), (78, .agg #[iV x, iV (j : Int), uV gj])] [e0 8, e0 9] [] [] trivial nC ?_
 have h94 := tk10 (sf9 (sf8 (sf8 (sf8 (sf8 (sf8 (sf8 (sf8 (sf9 (sf9 h93))))))))))
 refine draw_act (i := 10) [] (by kernel_rfl) (by kernel_rfl) ?_
 refine yS [(0, iV x), (1, iV (j : Int)), (2, uV gj)] [iV x, iV (j : Int), uV gj] h94 fun w95 h96 => ?_
 refine ⟨(AllC_nil _), ?_⟩
 refine yD _ [(9, iV 0)] [e0 11] [] [] trivial nC ?_
 refine yK [(8, pV r7), (9, iV 0)] fun lr97 => ?_
 refine yRt ?_
 repeat (first | simp only [Exit.inBlock] | simp only [Exit.then])
 have h98 := tk10 (sf9 (sf9 (sf9 (sf9 (sf5 (sf9 (sf9 (sf9 (sf9 (sf9 h96))))))))))
 have h99 : sat g w95 [Tab b n (A.set j (1, gj)) (gset E (j : Int) ⟨(x, (j : Int), gj), ((RL.length : Nat) : Int) + 1, (hx, hy)⟩) (RL ++ [(⟨(x, y, z), 1, 0, 0, 0, L⟩ : Rs)]), Cl r7 [iV x, iV (j : Int), uV gj] 28, Cl r62 [iV x, iV y, uV z, iV 1, iV 0, iV 0, iV 0, .string (St L)] 42, Cl r1 [iV x, iV y, uV z] 32, Cl r19 [iV x, iV y, uV z, iV 1, iV 0, iV 0, iV 0, .string (St L)] 42, Cl r4 [iV hx, uV hy] 34, R] := tab_close hM89.1 (by simp only [List.length_append, List.length_set, List.length_cons, List.length_nil]; omega) (by simp only [List.length_append, List.length_set, List.length_cons, List.length_nil]) h98
 have h100 := tk2 (sf1 (sf6 h99))
 refine hi_out [iV x, iV (j : Int), uV gj] (.tuple #[.agg #[iV x, iV (j : Int), uV gj], iV 0]) [(⟨r7, 0, none⟩, iV x), (⟨r7, 1, none⟩, iV (j : Int)), (⟨r7, 2, none⟩, uV gj)] (by kernel_rfl) (allq ⟨sat_cell h96 0 rfl rfl, sat_cell h96 0 rfl rfl, sat_cell h96 0 rfl rfl, trivial⟩) ?_
 exact ⟨.tuple #[.agg #[iV x, iV (j : Int), uV gj], iV 0], [Tab b n (A.set j (1, gj)) (gset E (j : Int) ⟨(x, (j : Int), gj), ((RL.length : Nat) : Int) + 1, (hx, hy)⟩) (RL ++ [(⟨(x, y, z), 1, 0, 0, 0, L⟩ : Rs)])], rfl, ⟨rfl, rfl⟩, h100⟩

end Go.Proofs.Ytjjpmehiolejgaa
