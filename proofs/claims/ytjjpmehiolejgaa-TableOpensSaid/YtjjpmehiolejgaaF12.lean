/- Walks, printed by my generator gen12.py. -/
import Derived.Test.YtjjpmehiolejgaaF10
namespace Go.Proofs.Ytjjpmehiolejgaa
set_option maxHeartbeats 4000000 in
theorem tnum_bad (b n : Nat) (A : List Sl2) (E : Tm) (RL : List Rs) (x y z : Int) (hz0 : 0 ≤ z) (hz1 : z ≤ 4294967295) (ho : ¬ (1 ≤ x ∧ x ≤ 3 ∧ 0 ≤ y ∧ y ≤ 255 ∧ 1 ≤ z)) : HT Try.prog 25 [Value.pointer (some ⟨b, 0, none⟩), Value.agg #[Value.int IntKind.i64 x, Value.int IntKind.i64 y, Value.int IntKind.u32 z]] [Tab b n A E RL] (fun v K => v = Value.tuple #[Value.int IntKind.i64 0, Value.int IntKind.i64 2] ∧ K = [Tab b n A E RL]) := by
 refine hi_in 17 ([(0, pV b), (1, .agg #[iV x, iV y, uV z])] : Fr) Try.func25 (by kernel_rfl) Try.ntmps25 rfl rfl ?_
 intro g w0 R h0
 refine ySq ?_
 refine yPl [0, 1, 2] ?_
 refine yA ?_
 refine yNp 3 28 [iV x, iV y, uV z] h0 fun r1 w2 h3 => ?_
 refine yB0 [] [1, 2] [(5, iV 0), (4, iV 0)] (.mk ?_)
 refine yK [(0, pV b), (3, pV r1)] fun lr4 => ?_
 refine ySq ?_
 refine yPl [0, 1, 2, 3, 4, 5, 6, 7, 8] ?_
 refine yBb [2, 3, 4, 5, 6, 7, 8] [(10, .agg #[iV x, iV y, uV z]), (9, pV b)] [e0 0, e2 1 [iV x, iV y, uV z]] [(1, ⟨r1, 0, none⟩, iV x), (1, ⟨r1, 1, none⟩, iV y), (1, ⟨r1, 2, none⟩, uV z)] [] trivial (kC (sat_cell h3 0 rfl rfl) (kC (sat_cell h3 0 rfl rfl) (kC (sat_cell h3 0 rfl rfl) nC))) ?_
 have h5 := tk3 (sf2 (sf1 (sf2 h3)))
 refine yA ?_
 refine yCl 11 Try.call44 (tfind_bad b n A E RL x y z (by omega) (by omega) (by omega)) h5 ?_
 rintro v K w6 (⟨rfl, rfl⟩) h7
 refine ⟨_, rfl, ?_⟩
 have h8 := ap1 h7
 refine yB0 [6, 7, 8] [3, 4, 5] [(13, iV 2), (12, .agg #[iV 0, iV 0, uV 0, iV 0, iV 0, uV 0]), (8, .tuple #[.agg #[iV 0, iV 0, uV 0, iV 0, iV 0, uV 0], iV 2])] ?_
 refine yA ?_
 refine yNp 6 90 [iV 0, iV 0, uV 0, iV 0, iV 0, uV 0] h8 fun r9 w10 h11 => ?_
 refine yA ?_
 refine yS [(0, iV 0), (1, iV 0), (2, uV 0), (3, iV 0), (4, iV 0), (5, uV 0)] [iV 0, iV 0, uV 0, iV 0, iV 0, uV 0] h11 fun w12 h13 => ?_
 refine yB0 [] [8] [(7, iV 2)] (.mk ?_)
 refine yK [(6, pV r9), (7, iV 2)] fun lr14 => ?_
 refine ySq ?_
 refine yPl [0, 1, 2, 3, 4] ?_
 refine yBb [] [(5, iV 2), (4, iV 0), (16, iV 2), (15, iV 0), (14, .pointer (some ⟨r9, 3, none⟩))] [e0 0, e2 1 [iV 0], e0 2, e0 3, e0 4] [(1, ⟨r9, 3, none⟩, iV 0)] [] trivial (kC (sat_cell h13 0 rfl rfl) nC) (.mk ?_)
 refine yK [(4, iV 0), (5, iV 2)] fun lr15 => ?_
 refine yRt ?_
 repeat (first | simp only [Exit.inBlock] | simp only [Exit.then])
 have h16 := tk4 (sf3 (sf2 (sf3 (sf3 h13))))
 have h17 := tk2 (sf1 (sf3 h16))
 refine hi_out [] (.tuple #[iV 0, iV 2]) [] (by kernel_rfl) (by intro q hq; cases hq) ?_
 exact ⟨.tuple #[iV 0, iV 2], [Tab b n A E RL], rfl, ⟨rfl, rfl⟩, h17⟩

set_option maxHeartbeats 4000000 in
theorem tnum_none (b n : Nat) (A : List Sl2) (E : Tm) (RL : List Rs) (x y z : Int) (hz0 : 0 ≤ z) (hz1 : z ≤ 4294967295) (ho : 1 ≤ x ∧ x ≤ 3 ∧ 0 ≤ y ∧ y ≤ 255 ∧ 1 ≤ z) (hg_ : gget E y = none) : HT Try.prog 25 [Value.pointer (some ⟨b, 0, none⟩), Value.agg #[Value.int IntKind.i64 x, Value.int IntKind.i64 y, Value.int IntKind.u32 z]] [Tab b n A E RL] (fun v K => v = Value.tuple #[Value.int IntKind.i64 0, Value.int IntKind.i64 7] ∧ K = [Tab b n A E RL]) := by
 refine hi_in 17 ([(0, pV b), (1, .agg #[iV x, iV y, uV z])] : Fr) Try.func25 (by kernel_rfl) Try.ntmps25 rfl rfl ?_
 intro g w0 R h0
 refine ySq ?_
 refine yPl [0, 1, 2] ?_
 refine yA ?_
 refine yNp 3 28 [iV x, iV y, uV z] h0 fun r1 w2 h3 => ?_
 refine yB0 [] [1, 2] [(5, iV 0), (4, iV 0)] (.mk ?_)
 refine yK [(0, pV b), (3, pV r1)] fun lr4 => ?_
 refine ySq ?_
 refine yPl [0, 1, 2, 3, 4, 5, 6, 7, 8] ?_
 refine yBb [2, 3, 4, 5, 6, 7, 8] [(10, .agg #[iV x, iV y, uV z]), (9, pV b)] [e0 0, e2 1 [iV x, iV y, uV z]] [(1, ⟨r1, 0, none⟩, iV x), (1, ⟨r1, 1, none⟩, iV y), (1, ⟨r1, 2, none⟩, uV z)] [] trivial (kC (sat_cell h3 0 rfl rfl) (kC (sat_cell h3 0 rfl rfl) (kC (sat_cell h3 0 rfl rfl) nC))) ?_
 have h5 := tk3 (sf2 (sf1 (sf2 h3)))
 refine yA ?_
 refine yCl 11 Try.call44 (tfind_none b n A E RL x y z (by omega) (by omega) (by omega) hg_) h5 ?_
 rintro v K w6 (⟨rfl, rfl⟩) h7
 refine ⟨_, rfl, ?_⟩
 have h8 := ap1 h7
 refine yB0 [6, 7, 8] [3, 4, 5] [(13, iV 7), (12, .agg #[iV 0, iV 0, uV 0, iV 0, iV 0, uV 0]), (8, .tuple #[.agg #[iV 0, iV 0, uV 0, iV 0, iV 0, uV 0], iV 7])] ?_
 refine yA ?_
 refine yNp 6 90 [iV 0, iV 0, uV 0, iV 0, iV 0, uV 0] h8 fun r9 w10 h11 => ?_
 refine yA ?_
 refine yS [(0, iV 0), (1, iV 0), (2, uV 0), (3, iV 0), (4, iV 0), (5, uV 0)] [iV 0, iV 0, uV 0, iV 0, iV 0, uV 0] h11 fun w12 h13 => ?_
 refine yB0 [] [8] [(7, iV 7)] (.mk ?_)
 refine yK [(6, pV r9), (7, iV 7)] fun lr14 => ?_
 refine ySq ?_
 refine yPl [0, 1, 2, 3, 4] ?_
 refine yBb [] [(5, iV 7), (4, iV 0), (16, iV 7), (15, iV 0), (14, .pointer (some ⟨r9, 3, none⟩))] [e0 0, e2 1 [iV 0], e0 2, e0 3, e0 4] [(1, ⟨r9, 3, none⟩, iV 0)] [] trivial (kC (sat_cell h13 0 rfl rfl) nC) (.mk ?_)
 refine yK [(4, iV 0), (5, iV 7)] fun lr15 => ?_
 refine yRt ?_
 repeat (first | simp only [Exit.inBlock] | simp only [Exit.then])
 have h16 := tk4 (sf3 (sf2 (sf3 (sf3 h13))))
 have h17 := tk2 (sf1 (sf3 h16))
 refine hi_out [] (.tuple #[iV 0, iV 7]) [] (by kernel_rfl) (by intro q hq; cases hq) ?_
 exact ⟨.tuple #[iV 0, iV 7], [Tab b n A E RL], rfl, ⟨rfl, rfl⟩, h17⟩

set_option maxHeartbeats 4000000 in
theorem tnum_ok (b n : Nat) (A : List Sl2) (E : Tm) (RL : List Rs) (x y z : Int) (e : Ety) (hz0 : 0 ≤ z) (hz1 : z ≤ 4294967295) (ho : 1 ≤ x ∧ x ≤ 3 ∧ 0 ≤ y ∧ y ≤ 255 ∧ 1 ≤ z) (hg_ : gget E y = some e) (hd_ : e.d.1 = x ∧ e.d.2.1 = y ∧ e.d.2.2 = z) : HT Try.prog 25 [Value.pointer (some ⟨b, 0, none⟩), Value.agg #[Value.int IntKind.i64 x, Value.int IntKind.i64 y, Value.int IntKind.u32 z]] [Tab b n A E RL] (fun v K => v = Value.tuple #[Value.int IntKind.i64 e.num, Value.int IntKind.i64 0] ∧ K = [Tab b n A E RL]) := by
 refine hi_in 17 ([(0, pV b), (1, .agg #[iV x, iV y, uV z])] : Fr) Try.func25 (by kernel_rfl) Try.ntmps25 rfl rfl ?_
 intro g w0 R h0
 refine ySq ?_
 refine yPl [0, 1, 2] ?_
 refine yA ?_
 refine yNp 3 28 [iV x, iV y, uV z] h0 fun r1 w2 h3 => ?_
 refine yB0 [] [1, 2] [(5, iV 0), (4, iV 0)] (.mk ?_)
 refine yK [(0, pV b), (3, pV r1)] fun lr4 => ?_
 refine ySq ?_
 refine yPl [0, 1, 2, 3, 4, 5, 6, 7, 8] ?_
 refine yBb [2, 3, 4, 5, 6, 7, 8] [(10, .agg #[iV x, iV y, uV z]), (9, pV b)] [e0 0, e2 1 [iV x, iV y, uV z]] [(1, ⟨r1, 0, none⟩, iV x), (1, ⟨r1, 1, none⟩, iV y), (1, ⟨r1, 2, none⟩, uV z)] [] trivial (kC (sat_cell h3 0 rfl rfl) (kC (sat_cell h3 0 rfl rfl) (kC (sat_cell h3 0 rfl rfl) nC))) ?_
 have h5 := tk3 (sf2 (sf1 (sf2 h3)))
 refine yA ?_
 refine yCl 11 Try.call44 (tfind_ok b n A E RL x y z e (by omega) (by omega) (by omega) hg_ (by omega)) h5 ?_
 rintro v K w6 (⟨rfl, rfl⟩) h7
 refine ⟨_, rfl, ?_⟩
 have h8 := ap1 h7
 refine yB0 [6, 7, 8] [3, 4, 5] [(13, iV 0), (12, .agg #[iV e.d.1, iV e.d.2.1, uV e.d.2.2, iV e.num, iV e.h.1, uV e.h.2]), (8, .tuple #[.agg #[iV e.d.1, iV e.d.2.1, uV e.d.2.2, iV e.num, iV e.h.1, uV e.h.2], iV 0])] ?_
 refine yA ?_
 refine yNp 6 90 [iV 0, iV 0, uV 0, iV 0, iV 0, uV 0] h8 fun r9 w10 h11 => ?_
 refine yA ?_
 refine yS [(0, iV e.d.1), (1, iV e.d.2.1), (2, uV e.d.2.2), (3, iV e.num), (4, iV e.h.1), (5, uV e.h.2)] [iV e.d.1, iV e.d.2.1, uV e.d.2.2, iV e.num, iV e.h.1, uV e.h.2] h11 fun w12 h13 => ?_
 refine yB0 [] [8] [(7, iV 0)] (.mk ?_)
 refine yK [(6, pV r9), (7, iV 0)] fun lr14 => ?_
 refine ySq ?_
 refine yPl [0, 1, 2, 3, 4] ?_
 refine yBb [] [(5, iV 0), (4, iV e.num), (16, iV 0), (15, iV e.num), (14, .pointer (some ⟨r9, 3, none⟩))] [e0 0, e2 1 [iV e.num], e0 2, e0 3, e0 4] [(1, ⟨r9, 3, none⟩, iV e.num)] [] trivial (kC (sat_cell h13 0 rfl rfl) nC) (.mk ?_)
 refine yK [(4, iV e.num), (5, iV 0)] fun lr15 => ?_
 refine yRt ?_
 repeat (first | simp only [Exit.inBlock] | simp only [Exit.then])
 have h16 := tk4 (sf3 (sf2 (sf3 (sf3 h13))))
 have h17 := tk2 (sf1 (sf3 h16))
 refine hi_out [] (.tuple #[iV e.num, iV 0]) [] (by kernel_rfl) (by intro q hq; cases hq) ?_
 exact ⟨.tuple #[iV e.num, iV 0], [Tab b n A E RL], rfl, ⟨rfl, rfl⟩, h17⟩

set_option maxHeartbeats 4000000 in
theorem tnum_diff (b n : Nat) (A : List Sl2) (E : Tm) (RL : List Rs) (x y z : Int) (e : Ety) (hz0 : 0 ≤ z) (hz1 : z ≤ 4294967295) (ho : 1 ≤ x ∧ x ≤ 3 ∧ 0 ≤ y ∧ y ≤ 255 ∧ 1 ≤ z) (hg_ : gget E y = some e) (hd_ : ¬ (e.d.1 = x ∧ e.d.2.1 = y ∧ e.d.2.2 = z)) : HT Try.prog 25 [Value.pointer (some ⟨b, 0, none⟩), Value.agg #[Value.int IntKind.i64 x, Value.int IntKind.i64 y, Value.int IntKind.u32 z]] [Tab b n A E RL] (fun v K => v = Value.tuple #[Value.int IntKind.i64 0, Value.int IntKind.i64 7] ∧ K = [Tab b n A E RL]) := by
 refine hi_in 17 ([(0, pV b), (1, .agg #[iV x, iV y, uV z])] : Fr) Try.func25 (by kernel_rfl) Try.ntmps25 rfl rfl ?_
 intro g w0 R h0
 refine ySq ?_
 refine yPl [0, 1, 2] ?_
 refine yA ?_
 refine yNp 3 28 [iV x, iV y, uV z] h0 fun r1 w2 h3 => ?_
 refine yB0 [] [1, 2] [(5, iV 0), (4, iV 0)] (.mk ?_)
 refine yK [(0, pV b), (3, pV r1)] fun lr4 => ?_
 refine ySq ?_
 refine yPl [0, 1, 2, 3, 4, 5, 6, 7, 8] ?_
 refine yBb [2, 3, 4, 5, 6, 7, 8] [(10, .agg #[iV x, iV y, uV z]), (9, pV b)] [e0 0, e2 1 [iV x, iV y, uV z]] [(1, ⟨r1, 0, none⟩, iV x), (1, ⟨r1, 1, none⟩, iV y), (1, ⟨r1, 2, none⟩, uV z)] [] trivial (kC (sat_cell h3 0 rfl rfl) (kC (sat_cell h3 0 rfl rfl) (kC (sat_cell h3 0 rfl rfl) nC))) ?_
 have h5 := tk3 (sf2 (sf1 (sf2 h3)))
 refine yA ?_
 refine yCl 11 Try.call44 (tfind_diff b n A E RL x y z e (by omega) (by omega) (by omega) hg_ (by omega)) h5 ?_
 rintro v K w6 (⟨rfl, rfl⟩) h7
 refine ⟨_, rfl, ?_⟩
 have h8 := ap1 h7
 refine yB0 [6, 7, 8] [3, 4, 5] [(13, iV 7), (12, .agg #[iV 0, iV 0, uV 0, iV 0, iV 0, uV 0]), (8, .tuple #[.agg #[iV 0, iV 0, uV 0, iV 0, iV 0, uV 0], iV 7])] ?_
 refine yA ?_
 refine yNp 6 90 [iV 0, iV 0, uV 0, iV 0, iV 0, uV 0] h8 fun r9 w10 h11 => ?_
 refine yA ?_
 refine yS [(0, iV 0), (1, iV 0), (2, uV 0), (3, iV 0), (4, iV 0), (5, uV 0)] [iV 0, iV 0, uV 0, iV 0, iV 0, uV 0] h11 fun w12 h13 => ?_
 refine yB0 [] [8] [(7, iV 7)] (.mk ?_)
 refine yK [(6, pV r9), (7, iV 7)] fun lr14 => ?_
 refine ySq ?_
 refine yPl [0, 1, 2, 3, 4] ?_
 refine yBb [] [(5, iV 7), (4, iV 0), (16, iV 7), (15, iV 0), (14, .pointer (some ⟨r9, 3, none⟩))] [e0 0, e2 1 [iV 0], e0 2, e0 3, e0 4] [(1, ⟨r9, 3, none⟩, iV 0)] [] trivial (kC (sat_cell h13 0 rfl rfl) nC) (.mk ?_)
 refine yK [(4, iV 0), (5, iV 7)] fun lr15 => ?_
 refine yRt ?_
 repeat (first | simp only [Exit.inBlock] | simp only [Exit.then])
 have h16 := tk4 (sf3 (sf2 (sf3 (sf3 h13))))
 have h17 := tk2 (sf1 (sf3 h16))
 refine hi_out [] (.tuple #[iV 0, iV 7]) [] (by kernel_rfl) (by intro q hq; cases hq) ?_
 exact ⟨.tuple #[iV 0, iV 7], [Tab b n A E RL], rfl, ⟨rfl, rfl⟩, h17⟩

set_option maxHeartbeats 4000000 in
theorem thnd_bad (b n : Nat) (A : List Sl2) (E : Tm) (RL : List Rs) (x y z : Int) (hz0 : 0 ≤ z) (hz1 : z ≤ 4294967295) (ho : ¬ (1 ≤ x ∧ x ≤ 3 ∧ 0 ≤ y ∧ y ≤ 255 ∧ 1 ≤ z)) : HT Try.prog 26 [Value.pointer (some ⟨b, 0, none⟩), Value.agg #[Value.int IntKind.i64 x, Value.int IntKind.i64 y, Value.int IntKind.u32 z]] [Tab b n A E RL] (fun v K => v = Value.tuple #[Value.agg #[Value.int IntKind.i64 0, Value.int IntKind.u32 0], Value.int IntKind.i64 2] ∧ K = [Tab b n A E RL]) := by
 refine hi_in 17 ([(0, pV b), (1, .agg #[iV x, iV y, uV z])] : Fr) Try.func26 (by kernel_rfl) Try.ntmps26 rfl rfl ?_
 intro g w0 R h0
 refine ySq ?_
 refine yPl [0, 1, 2] ?_
 refine yA ?_
 refine yNp 3 28 [iV x, iV y, uV z] h0 fun r1 w2 h3 => ?_
 refine yA ?_
 refine yNp 4 34 [iV 0, uV 0] h3 fun r4 w5 h6 => ?_
 refine yB0 [] [2] [(5, iV 0)] (.mk ?_)
 refine yK [(0, pV b), (3, pV r1), (4, pV r4)] fun lr7 => ?_
 refine ySq ?_
 refine yPl [0, 1, 2, 3, 4, 5, 6, 7, 8] ?_
 refine yBb [2, 3, 4, 5, 6, 7, 8] [(10, .agg #[iV x, iV y, uV z]), (9, pV b)] [e0 0, e2 1 [iV x, iV y, uV z]] [(1, ⟨r1, 0, none⟩, iV x), (1, ⟨r1, 1, none⟩, iV y), (1, ⟨r1, 2, none⟩, uV z)] [] trivial (kC (sat_cell h6 1 rfl rfl) (kC (sat_cell h6 1 rfl rfl) (kC (sat_cell h6 1 rfl rfl) nC))) ?_
 have h8 := tk4 (sf3 (sf2 (sf2 (sf3 h6))))
 refine yA ?_
 refine yCl 11 Try.call44 (tfind_bad b n A E RL x y z (by omega) (by omega) (by omega)) h8 ?_
 rintro v K w9 (⟨rfl, rfl⟩) h10
 refine ⟨_, rfl, ?_⟩
 have h11 := ap1 h10
 refine yB0 [6, 7, 8] [3, 4, 5] [(13, iV 2), (12, .agg #[iV 0, iV 0, uV 0, iV 0, iV 0, uV 0]), (8, .tuple #[.agg #[iV 0, iV 0, uV 0, iV 0, iV 0, uV 0], iV 2])] ?_
 refine yA ?_
 refine yNp 6 90 [iV 0, iV 0, uV 0, iV 0, iV 0, uV 0] h11 fun r12 w13 h14 => ?_
 refine yA ?_
 refine yS [(0, iV 0), (1, iV 0), (2, uV 0), (3, iV 0), (4, iV 0), (5, uV 0)] [iV 0, iV 0, uV 0, iV 0, iV 0, uV 0] h14 fun w15 h16 => ?_
 refine yB0 [] [8] [(7, iV 2)] (.mk ?_)
 refine yK [(4, pV r4), (6, pV r12), (7, iV 2)] fun lr17 => ?_
 refine ySq ?_
 refine yPl [0, 1, 2, 3, 4] ?_
 refine yBb [3, 4] [(16, iV 2), (15, .agg #[iV 0, uV 0]), (14, .pointer (some ⟨r12, 4, none⟩))] [e0 0, e2 1 [iV 0, uV 0], e0 2] [(1, ⟨r12, 4, none⟩, iV 0), (1, ⟨r12, 5, none⟩, uV 0)] [] trivial (kC (sat_cell h16 0 rfl rfl) (kC (sat_cell h16 0 rfl rfl) nC)) ?_
 have h18 := tk5 (sf4 (sf3 (sf3 (sf4 (sf4 h16)))))
 refine yA ?_
 refine yS [(0, iV 0), (1, uV 0)] [iV 0, uV 0] h18 fun w19 h20 => ?_
 refine yB0 [] [4] [(5, iV 2)] (.mk ?_)
 refine yK [(4, pV r4), (5, iV 2)] fun lr21 => ?_
 refine yRt ?_
 repeat (first | simp only [Exit.inBlock] | simp only [Exit.then])
 have h22 := tk5 (sf4 (sf3 (sf3 (sf4 (sf4 h20)))))
 have h23 := tk2 (sf1 (sf4 h22))
 refine hi_out [iV 0, uV 0] (.tuple #[.agg #[iV 0, uV 0], iV 2]) [(⟨r4, 0, none⟩, iV 0), (⟨r4, 1, none⟩, uV 0)] (by kernel_rfl) (allq ⟨sat_cell h20 0 rfl rfl, sat_cell h20 0 rfl rfl, trivial⟩) ?_
 exact ⟨.tuple #[.agg #[iV 0, uV 0], iV 2], [Tab b n A E RL], rfl, ⟨rfl, rfl⟩, h23⟩

set_option maxHeartbeats 4000000 in
theorem thnd_none (b n : Nat) (A : List Sl2) (E : Tm) (RL : List Rs) (x y z : Int) (hz0 : 0 ≤ z) (hz1 : z ≤ 4294967295) (ho : 1 ≤ x ∧ x ≤ 3 ∧ 0 ≤ y ∧ y ≤ 255 ∧ 1 ≤ z) (hg_ : gget E y = none) : HT Try.prog 26 [Value.pointer (some ⟨b, 0, none⟩), Value.agg #[Value.int IntKind.i64 x, Value.int IntKind.i64 y, Value.int IntKind.u32 z]] [Tab b n A E RL] (fun v K => v = Value.tuple #[Value.agg #[Value.int IntKind.i64 0, Value.int IntKind.u32 0], Value.int IntKind.i64 7] ∧ K = [Tab b n A E RL]) := by
 refine hi_in 17 ([(0, pV b), (1, .agg #[iV x, iV y, uV z])] : Fr) Try.func26 (by kernel_rfl) Try.ntmps26 rfl rfl ?_
 intro g w0 R h0
 refine ySq ?_
 refine yPl [0, 1, 2] ?_
 refine yA ?_
 refine yNp 3 28 [iV x, iV y, uV z] h0 fun r1 w2 h3 => ?_
 refine yA ?_
 refine yNp 4 34 [iV 0, uV 0] h3 fun r4 w5 h6 => ?_
 refine yB0 [] [2] [(5, iV 0)] (.mk ?_)
 refine yK [(0, pV b), (3, pV r1), (4, pV r4)] fun lr7 => ?_
 refine ySq ?_
 refine yPl [0, 1, 2, 3, 4, 5, 6, 7, 8] ?_
 refine yBb [2, 3, 4, 5, 6, 7, 8] [(10, .agg #[iV x, iV y, uV z]), (9, pV b)] [e0 0, e2 1 [iV x, iV y, uV z]] [(1, ⟨r1, 0, none⟩, iV x), (1, ⟨r1, 1, none⟩, iV y), (1, ⟨r1, 2, none⟩, uV z)] [] trivial (kC (sat_cell h6 1 rfl rfl) (kC (sat_cell h6 1 rfl rfl) (kC (sat_cell h6 1 rfl rfl) nC))) ?_
 have h8 := tk4 (sf3 (sf2 (sf2 (sf3 h6))))
 refine yA ?_
 refine yCl 11 Try.call44 (tfind_none b n A E RL x y z (by omega) (by omega) (by omega) hg_) h8 ?_
 rintro v K w9 (⟨rfl, rfl⟩) h10
 refine ⟨_, rfl, ?_⟩
 have h11 := ap1 h10
 refine yB0 [6, 7, 8] [3, 4, 5] [(13, iV 7), (12, .agg #[iV 0, iV 0, uV 0, iV 0, iV 0, uV 0]), (8, .tuple #[.agg #[iV 0, iV 0, uV 0, iV 0, iV 0, uV 0], iV 7])] ?_
 refine yA ?_
 refine yNp 6 90 [iV 0, iV 0, uV 0, iV 0, iV 0, uV 0] h11 fun r12 w13 h14 => ?_
 refine yA ?_
 refine yS [(0, iV 0), (1, iV 0), (2, uV 0), (3, iV 0), (4, iV 0), (5, uV 0)] [iV 0, iV 0, uV 0, iV 0, iV 0, uV 0] h14 fun w15 h16 => ?_
 refine yB0 [] [8] [(7, iV 7)] (.mk ?_)
 refine yK [(4, pV r4), (6, pV r12), (7, iV 7)] fun lr17 => ?_
 refine ySq ?_
 refine yPl [0, 1, 2, 3, 4] ?_
 refine yBb [3, 4] [(16, iV 7), (15, .agg #[iV 0, uV 0]), (14, .pointer (some ⟨r12, 4, none⟩))] [e0 0, e2 1 [iV 0, uV 0], e0 2] [(1, ⟨r12, 4, none⟩, iV 0), (1, ⟨r12, 5, none⟩, uV 0)] [] trivial (kC (sat_cell h16 0 rfl rfl) (kC (sat_cell h16 0 rfl rfl) nC)) ?_
 have h18 := tk5 (sf4 (sf3 (sf3 (sf4 (sf4 h16)))))
 refine yA ?_
 refine yS [(0, iV 0), (1, uV 0)] [iV 0, uV 0] h18 fun w19 h20 => ?_
 refine yB0 [] [4] [(5, iV 7)] (.mk ?_)
 refine yK [(4, pV r4), (5, iV 7)] fun lr21 => ?_
 refine yRt ?_
 repeat (first | simp only [Exit.inBlock] | simp only [Exit.then])
 have h22 := tk5 (sf4 (sf3 (sf3 (sf4 (sf4 h20)))))
 have h23 := tk2 (sf1 (sf4 h22))
 refine hi_out [iV 0, uV 0] (.tuple #[.agg #[iV 0, uV 0], iV 7]) [(⟨r4, 0, none⟩, iV 0), (⟨r4, 1, none⟩, uV 0)] (by kernel_rfl) (allq ⟨sat_cell h20 0 rfl rfl, sat_cell h20 0 rfl rfl, trivial⟩) ?_
 exact ⟨.tuple #[.agg #[iV 0, uV 0], iV 7], [Tab b n A E RL], rfl, ⟨rfl, rfl⟩, h23⟩

set_option maxHeartbeats 4000000 in
theorem thnd_ok (b n : Nat) (A : List Sl2) (E : Tm) (RL : List Rs) (x y z : Int) (e : Ety) (hz0 : 0 ≤ z) (hz1 : z ≤ 4294967295) (ho : 1 ≤ x ∧ x ≤ 3 ∧ 0 ≤ y ∧ y ≤ 255 ∧ 1 ≤ z) (hg_ : gget E y = some e) (hd_ : e.d.1 = x ∧ e.d.2.1 = y ∧ e.d.2.2 = z) : HT Try.prog 26 [Value.pointer (some ⟨b, 0, none⟩), Value.agg #[Value.int IntKind.i64 x, Value.int IntKind.i64 y, Value.int IntKind.u32 z]] [Tab b n A E RL] (fun v K => v = Value.tuple #[Value.agg #[Value.int IntKind.i64 e.h.1, Value.int IntKind.u32 e.h.2], Value.int IntKind.i64 0] ∧ K = [Tab b n A E RL]) := by
 refine hi_in 17 ([(0, pV b), (1, .agg #[iV x, iV y, uV z])] : Fr) Try.func26 (by kernel_rfl) Try.ntmps26 rfl rfl ?_
 intro g w0 R h0
 refine ySq ?_
 refine yPl [0, 1, 2] ?_
 refine yA ?_
 refine yNp 3 28 [iV x, iV y, uV z] h0 fun r1 w2 h3 => ?_
 refine yA ?_
 refine yNp 4 34 [iV 0, uV 0] h3 fun r4 w5 h6 => ?_
 refine yB0 [] [2] [(5, iV 0)] (.mk ?_)
 refine yK [(0, pV b), (3, pV r1), (4, pV r4)] fun lr7 => ?_
 refine ySq ?_
 refine yPl [0, 1, 2, 3, 4, 5, 6, 7, 8] ?_
 refine yBb [2, 3, 4, 5, 6, 7, 8] [(10, .agg #[iV x, iV y, uV z]), (9, pV b)] [e0 0, e2 1 [iV x, iV y, uV z]] [(1, ⟨r1, 0, none⟩, iV x), (1, ⟨r1, 1, none⟩, iV y), (1, ⟨r1, 2, none⟩, uV z)] [] trivial (kC (sat_cell h6 1 rfl rfl) (kC (sat_cell h6 1 rfl rfl) (kC (sat_cell h6 1 rfl rfl) nC))) ?_
 have h8 := tk4 (sf3 (sf2 (sf2 (sf3 h6))))
 refine yA ?_
 refine yCl 11 Try.call44 (tfind_ok b n A E RL x y z e (by omega) (by omega) (by omega) hg_ (by omega)) h8 ?_
 rintro v K w9 (⟨rfl, rfl⟩) h10
 refine ⟨_, rfl, ?_⟩
 have h11 := ap1 h10
 refine yB0 [6, 7, 8] [3, 4, 5] [(13, iV 0), (12, .agg #[iV e.d.1, iV e.d.2.1, uV e.d.2.2, iV e.num, iV e.h.1, uV e.h.2]), (8, .tuple #[.agg #[iV e.d.1, iV e.d.2.1, uV e.d.2.2, iV e.num, iV e.h.1, uV e.h.2], iV 0])] ?_
 refine yA ?_
 refine yNp 6 90 [iV 0, iV 0, uV 0, iV 0, iV 0, uV 0] h11 fun r12 w13 h14 => ?_
 refine yA ?_
 refine yS [(0, iV e.d.1), (1, iV e.d.2.1), (2, uV e.d.2.2), (3, iV e.num), (4, iV e.h.1), (5, uV e.h.2)] [iV e.d.1, iV e.d.2.1, uV e.d.2.2, iV e.num, iV e.h.1, uV e.h.2] h14 fun w15 h16 => ?_
 refine yB0 [] [8] [(7, iV 0)] (.mk ?_)
 refine yK [(4, pV r4), (6, pV r12), (7, iV 0)] fun lr17 => ?_
 refine ySq ?_
 refine yPl [0, 1, 2, 3, 4] ?_
 refine yBb [3, 4] [(16, iV 0), (15, .agg #[iV e.h.1, uV e.h.2]), (14, .pointer (some ⟨r12, 4, none⟩))] [e0 0, e2 1 [iV e.h.1, uV e.h.2], e0 2] [(1, ⟨r12, 4, none⟩, iV e.h.1), (1, ⟨r12, 5, none⟩, uV e.h.2)] [] trivial (kC (sat_cell h16 0 rfl rfl) (kC (sat_cell h16 0 rfl rfl) nC)) ?_
 have h18 := tk5 (sf4 (sf3 (sf3 (sf4 (sf4 h16)))))
 refine yA ?_
 refine yS [(0, iV e.h.1), (1, uV e.h.2)] [iV e.h.1, uV e.h.2] h18 fun w19 h20 => ?_
 refine yB0 [] [4] [(5, iV 0)] (.mk ?_)
 refine yK [(4, pV r4), (5, iV 0)] fun lr21 => ?_
 refine yRt ?_
 repeat (first | simp only [Exit.inBlock] | simp only [Exit.then])
 have h22 := tk5 (sf4 (sf3 (sf3 (sf4 (sf4 h20)))))
 have h23 := tk2 (sf1 (sf4 h22))
 refine hi_out [iV e.h.1, uV e.h.2] (.tuple #[.agg #[iV e.h.1, uV e.h.2], iV 0]) [(⟨r4, 0, none⟩, iV e.h.1), (⟨r4, 1, none⟩, uV e.h.2)] (by kernel_rfl) (allq ⟨sat_cell h20 0 rfl rfl, sat_cell h20 0 rfl rfl, trivial⟩) ?_
 exact ⟨.tuple #[.agg #[iV e.h.1, uV e.h.2], iV 0], [Tab b n A E RL], rfl, ⟨rfl, rfl⟩, h23⟩

set_option maxHeartbeats 4000000 in
theorem thnd_diff (b n : Nat) (A : List Sl2) (E : Tm) (RL : List Rs) (x y z : Int) (e : Ety) (hz0 : 0 ≤ z) (hz1 : z ≤ 4294967295) (ho : 1 ≤ x ∧ x ≤ 3 ∧ 0 ≤ y ∧ y ≤ 255 ∧ 1 ≤ z) (hg_ : gget E y = some e) (hd_ : ¬ (e.d.1 = x ∧ e.d.2.1 = y ∧ e.d.2.2 = z)) : HT Try.prog 26 [Value.pointer (some ⟨b, 0, none⟩), Value.agg #[Value.int IntKind.i64 x, Value.int IntKind.i64 y, Value.int IntKind.u32 z]] [Tab b n A E RL] (fun v K => v = Value.tuple #[Value.agg #[Value.int IntKind.i64 0, Value.int IntKind.u32 0], Value.int IntKind.i64 7] ∧ K = [Tab b n A E RL]) := by
 refine hi_in 17 ([(0, pV b), (1, .agg #[iV x, iV y, uV z])] : Fr) Try.func26 (by kernel_rfl) Try.ntmps26 rfl rfl ?_
 intro g w0 R h0
 refine ySq ?_
 refine yPl [0, 1, 2] ?_
 refine yA ?_
 refine yNp 3 28 [iV x, iV y, uV z] h0 fun r1 w2 h3 => ?_
 refine yA ?_
 refine yNp 4 34 [iV 0, uV 0] h3 fun r4 w5 h6 => ?_
 refine yB0 [] [2] [(5, iV 0)] (.mk ?_)
 refine yK [(0, pV b), (3, pV r1), (4, pV r4)] fun lr7 => ?_
 refine ySq ?_
 refine yPl [0, 1, 2, 3, 4, 5, 6, 7, 8] ?_
 refine yBb [2, 3, 4, 5, 6, 7, 8] [(10, .agg #[iV x, iV y, uV z]), (9, pV b)] [e0 0, e2 1 [iV x, iV y, uV z]] [(1, ⟨r1, 0, none⟩, iV x), (1, ⟨r1, 1, none⟩, iV y), (1, ⟨r1, 2, none⟩, uV z)] [] trivial (kC (sat_cell h6 1 rfl rfl) (kC (sat_cell h6 1 rfl rfl) (kC (sat_cell h6 1 rfl rfl) nC))) ?_
 have h8 := tk4 (sf3 (sf2 (sf2 (sf3 h6))))
 refine yA ?_
 refine yCl 11 Try.call44 (tfind_diff b n A E RL x y z e (by omega) (by omega) (by omega) hg_ (by omega)) h8 ?_
 rintro v K w9 (⟨rfl, rfl⟩) h10
 refine ⟨_, rfl, ?_⟩
 have h11 := ap1 h10
 refine yB0 [6, 7, 8] [3, 4, 5] [(13, iV 7), (12, .agg #[iV 0, iV 0, uV 0, iV 0, iV 0, uV 0]), (8, .tuple #[.agg #[iV 0, iV 0, uV 0, iV 0, iV 0, uV 0], iV 7])] ?_
 refine yA ?_
 refine yNp 6 90 [iV 0, iV 0, uV 0, iV 0, iV 0, uV 0] h11 fun r12 w13 h14 => ?_
 refine yA ?_
 refine yS [(0, iV 0), (1, iV 0), (2, uV 0), (3, iV 0), (4, iV 0), (5, uV 0)] [iV 0, iV 0, uV 0, iV 0, iV 0, uV 0] h14 fun w15 h16 => ?_
 refine yB0 [] [8] [(7, iV 7)] (.mk ?_)
 refine yK [(4, pV r4), (6, pV r12), (7, iV 7)] fun lr17 => ?_
 refine ySq ?_
 refine yPl [0, 1, 2, 3, 4] ?_
 refine yBb [3, 4] [(16, iV 7), (15, .agg #[iV 0, uV 0]), (14, .pointer (some ⟨r12, 4, none⟩))] [e0 0, e2 1 [iV 0, uV 0], e0 2] [(1, ⟨r12, 4, none⟩, iV 0), (1, ⟨r12, 5, none⟩, uV 0)] [] trivial (kC (sat_cell h16 0 rfl rfl) (kC (sat_cell h16 0 rfl rfl) nC)) ?_
 have h18 := tk5 (sf4 (sf3 (sf3 (sf4 (sf4 h16)))))
 refine yA ?_
 refine yS [(0, iV 0), (1, uV 0)] [iV 0, uV 0] h18 fun w19 h20 => ?_
 refine yB0 [] [4] [(5, iV 7)] (.mk ?_)
 refine yK [(4, pV r4), (5, iV 7)] fun lr21 => ?_
 refine yRt ?_
 repeat (first | simp only [Exit.inBlock] | simp only [Exit.then])
 have h22 := tk5 (sf4 (sf3 (sf3 (sf4 (sf4 h20)))))
 have h23 := tk2 (sf1 (sf4 h22))
 refine hi_out [iV 0, uV 0] (.tuple #[.agg #[iV 0, uV 0], iV 7]) [(⟨r4, 0, none⟩, iV 0), (⟨r4, 1, none⟩, uV 0)] (by kernel_rfl) (allq ⟨sat_cell h20 0 rfl rfl, sat_cell h20 0 rfl rfl, trivial⟩) ?_
 exact ⟨.tuple #[.agg #[iV 0, uV 0], iV 7], [Tab b n A E RL], rfl, ⟨rfl, rfl⟩, h23⟩

end Go.Proofs.Ytjjpmehiolejgaa
