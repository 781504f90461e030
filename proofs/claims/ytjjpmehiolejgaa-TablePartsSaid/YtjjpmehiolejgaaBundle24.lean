/- Walks, printed by my generator gen15.py. -/
import Derived.Test.YtjjpmehiolejgaaBundle23
import Derived.Test.YtjjpmehiolejgaaFdsB
namespace Go.Proofs.Ytjjpmehiolejgaa
set_option maxHeartbeats 4000000 in
theorem tnew_ok (n : Nat) (gn : Int) (hn : 1 ≤ n ∧ n ≤ 256) (hgn : 1 ≤ gn ∧ gn ≤ 4294967295) : HT Try.prog 11 [Value.int IntKind.i64 (((n : Nat) : Int)), Value.int IntKind.u32 gn] [] (fun v K => ∃ b : Nat, v = Value.tuple #[Value.pointer (some ⟨b, 0, none⟩), Value.int .i64 0] ∧ K = [Tab b n (List.replicate n (0, gn)) [] []]) := by
 refine hi_in 21 ([(0, iV (n : Int)), (1, uV gn)] : Fr) Try.func11 (by kernel_rfl) Try.ntmps11 rfl rfl ?_
 intro g w0 R h0
 refine ySq ?_
 refine yPl [0, 1] ?_
 refine yB0 [] [0, 1] [(5, iV 0), (4, .pointer none)] (.mk ?_)
 refine yK [(0, iV (n : Int)), (1, uV gn)] fun lr1 => ?_
 refine ySq ?_
 refine yPl [0, 1, 2, 3, 4, 5, 6, 7] ?_
 refine yB0 [2, 3, 4, 5, 6, 7] [0, 1] [(10, uV gn), (9, iV (n : Int))] ?_
 refine yA ?_
 refine yCl 11 Try.call35 (snew_ok n (by omega) gn (by omega)) h0 ?_
 rintro v K w3 (⟨b2, rfl, rfl⟩) h4
 refine ⟨_, rfl, ?_⟩
 have h5 := ap1 h4
 refine yB0 [] [3, 4, 5, 6, 7] [(7, iV 0), (6, pV b2), (13, iV 0), (12, pV b2), (8, .tuple #[pV b2, iV 0])] (.mk ?_)
 refine yK [(6, pV b2), (7, iV 0)] fun lr6 => ?_
 refine ySq ?_
 refine ySq ?_
 refine yPl [0, 1] ?_
 refine yB0 [] [0, 1] [(15, .bool false), (14, iV 0)] (.mk ?_)
 refine yK [(6, pV b2), (7, iV 0), (15, .bool false)] fun lr7 => ?_
 refine yCf ?_
 refine ySk ?_
 refine ySq ?_
 refine yPl [0, 1, 2, 3, 4, 5] ?_
 refine yB0 [1, 2, 3, 4, 5] [0] [(17, pV b2)] ?_
 refine yA ?_
 refine ag_makeMap (t := 73) (d := 18) kI vE (by kernel_rfl) (by kernel_rfl) rfl h5 ?_
 intro r8 w9 h10
 refine yB0 [3, 4, 5] [2] [(19, .agg #[pV b2, .map (some r8), .slice none 0 0])] ?_
 refine yA ?_
 refine yNp 20 76 [pV b2, .map (some r8), .slice none 0 0] h10 fun r11 w12 h13 => ?_
 refine yB0 [] [4, 5] [(5, iV 0), (4, pV r11)] (.mk ?_)
 refine yK [(4, pV r11), (5, iV 0)] fun lr14 => ?_
 refine yRt ?_
 repeat (first | simp only [Exit.inBlock] | simp only [Exit.then])
 have h15 : sat g w12 [Sl 42 8 none 0 0 (fl eRs []), Cl r11 [pV b2, .map (some r8), .slice none 0 0] 76, Gp kI vE r8 [], Tb b2 n (List.replicate n (0, gn)), R] := sl_nil 42 8 h13
 have h16 := tk5 (sf4 (sf4 (sf3 (sf1 (sf4 h15)))))
 have h17 : sat g w12 [Tab r11 n (List.replicate n (0, gn)) [] [], R] := tab_close (meq_refl List.nodup_nil) (by decide) (by first | rfl | omega) h16
 refine hi_out [] (.tuple #[pV r11, iV 0]) [] (by kernel_rfl) (by intro q hq; cases hq) ?_
 exact ⟨.tuple #[pV r11, iV 0], [Tab r11 n (List.replicate n (0, gn)) [] []], rfl, ⟨r11, rfl, rfl⟩, h17⟩

set_option maxHeartbeats 4000000 in
theorem tclose_bad (b n : Nat) (A : List Sl2) (E : Tm) (RL : List Rs) (x y z : Int) (hz0 : 0 ≤ z) (hz1 : z ≤ 4294967295) (ho : ¬ (1 ≤ x ∧ x ≤ 3 ∧ 0 ≤ y ∧ y ≤ 255 ∧ 1 ≤ z)) : HT Try.prog 15 [Value.pointer (some ⟨b, 0, none⟩), Value.agg #[Value.int IntKind.i64 x, Value.int IntKind.i64 y, Value.int IntKind.u32 z]] [Tab b n A E RL] (fun v K => v = Value.tuple #[Value.int IntKind.i64 0, Value.bool false, Value.int IntKind.i64 2] ∧ K = [Tab b n A E RL]) := by
 refine hi_in 35 ([(0, pV b), (1, .agg #[iV x, iV y, uV z])] : Fr) Try.func15 (by kernel_rfl) Try.ntmps15 rfl rfl ?_
 intro g w0 R h0
 refine ySq ?_
 refine yPl [0, 1, 2, 3] ?_
 refine yA ?_
 refine yNp 3 28 [iV x, iV y, uV z] h0 fun r1 w2 h3 => ?_
 refine yB0 [] [1, 2, 3] [(6, iV 0), (5, .bool false), (4, iV 0)] (.mk ?_)
 refine yK [(0, pV b), (3, pV r1)] fun lr4 => ?_
 refine ySq ?_
 refine yPl [0, 1, 2, 3, 4, 5, 6, 7, 8] ?_
 refine yBb [2, 3, 4, 5, 6, 7, 8] [(12, .agg #[iV x, iV y, uV z]), (11, pV b)] [e0 0, e2 1 [iV x, iV y, uV z]] [(1, ⟨r1, 0, none⟩, iV x), (1, ⟨r1, 1, none⟩, iV y), (1, ⟨r1, 2, none⟩, uV z)] [] trivial (kC (sat_cell h3 0 rfl rfl) (kC (sat_cell h3 0 rfl rfl) (kC (sat_cell h3 0 rfl rfl) nC))) ?_
 have h5 := tk3 (sf2 (sf1 (sf2 h3)))
 refine yA ?_
 refine yCl 13 Try.call44 (tfind_bad b n A E RL x y z (by omega) (by omega) (by omega)) h5 ?_
 rintro v K w6 (⟨rfl, rfl⟩) h7
 refine ⟨_, rfl, ?_⟩
 have h8 := ap1 h7
 refine yB0 [6, 7, 8] [3, 4, 5] [(15, iV 2), (14, .agg #[iV 0, iV 0, uV 0, iV 0, iV 0, uV 0]), (10, .tuple #[.agg #[iV 0, iV 0, uV 0, iV 0, iV 0, uV 0], iV 2])] ?_
 refine yA ?_
 refine yNp 7 90 [iV 0, iV 0, uV 0, iV 0, iV 0, uV 0] h8 fun r9 w10 h11 => ?_
 refine yA ?_
 refine yS [(0, iV 0), (1, iV 0), (2, uV 0), (3, iV 0), (4, iV 0), (5, uV 0)] [iV 0, iV 0, uV 0, iV 0, iV 0, uV 0] h11 fun w12 h13 => ?_
 refine yB0 [] [8] [(8, iV 2)] (.mk ?_)
 refine yK [(0, pV b), (3, pV r1), (7, pV r9), (8, iV 2)] fun lr14 => ?_
 refine ySq ?_
 refine ySq ?_
 refine yPl [0, 1] ?_
 refine yB0 [] [0, 1] [(17, .bool true), (16, iV 2)] (.mk ?_)
 refine yK [(0, pV b), (3, pV r1), (7, pV r9), (8, iV 2), (17, .bool true)] fun lr15 => ?_
 refine yCt ?_
 refine ySq ?_
 refine yPl [0, 1, 2, 3] ?_
 refine yB0 [] [0, 1, 2, 3] [(6, iV 2), (5, .bool false), (4, iV 0), (18, iV 2)] (.mk ?_)
 refine yK [(4, iV 0), (5, .bool false), (6, iV 2)] fun lr16 => ?_
 refine yRt ?_
 repeat (first | simp only [Exit.inBlock] | simp only [Exit.then])
 have h17 := tk4 (sf3 (sf2 (sf3 (sf3 h13))))
 have h18 := tk2 (sf1 (sf3 h17))
 refine hi_out [] (.tuple #[iV 0, .bool false, iV 2]) [] (by kernel_rfl) (by intro q hq; cases hq) ?_
 exact ⟨.tuple #[iV 0, .bool false, iV 2], [Tab b n A E RL], rfl, ⟨rfl, rfl⟩, h18⟩

set_option maxHeartbeats 4000000 in
theorem tclose_none (b n : Nat) (A : List Sl2) (E : Tm) (RL : List Rs) (x y z : Int) (hz0 : 0 ≤ z) (hz1 : z ≤ 4294967295) (ho : 1 ≤ x ∧ x ≤ 3 ∧ 0 ≤ y ∧ y ≤ 255 ∧ 1 ≤ z) (hg_ : gget E y = none) : HT Try.prog 15 [Value.pointer (some ⟨b, 0, none⟩), Value.agg #[Value.int IntKind.i64 x, Value.int IntKind.i64 y, Value.int IntKind.u32 z]] [Tab b n A E RL] (fun v K => v = Value.tuple #[Value.int IntKind.i64 0, Value.bool false, Value.int IntKind.i64 7] ∧ K = [Tab b n A E RL]) := by
 refine hi_in 35 ([(0, pV b), (1, .agg #[iV x, iV y, uV z])] : Fr) Try.func15 (by kernel_rfl) Try.ntmps15 rfl rfl ?_
 intro g w0 R h0
 refine ySq ?_
 refine yPl [0, 1, 2, 3] ?_
 refine yA ?_
 refine yNp 3 28 [iV x, iV y, uV z] h0 fun r1 w2 h3 => ?_
 refine yB0 [] [1, 2, 3] [(6, iV 0), (5, .bool false), (4, iV 0)] (.mk ?_)
 refine yK [(0, pV b), (3, pV r1)] fun lr4 => ?_
 refine ySq ?_
 refine yPl [0, 1, 2, 3, 4, 5, 6, 7, 8] ?_
 refine yBb [2, 3, 4, 5, 6, 7, 8] [(12, .agg #[iV x, iV y, uV z]), (11, pV b)] [e0 0, e2 1 [iV x, iV y, uV z]] [(1, ⟨r1, 0, none⟩, iV x), (1, ⟨r1, 1, none⟩, iV y), (1, ⟨r1, 2, none⟩, uV z)] [] trivial (kC (sat_cell h3 0 rfl rfl) (kC (sat_cell h3 0 rfl rfl) (kC (sat_cell h3 0 rfl rfl) nC))) ?_
 have h5 := tk3 (sf2 (sf1 (sf2 h3)))
 refine yA ?_
 refine yCl 13 Try.call44 (tfind_none b n A E RL x y z (by omega) (by omega) (by omega) hg_) h5 ?_
 rintro v K w6 (⟨rfl, rfl⟩) h7
 refine ⟨_, rfl, ?_⟩
 have h8 := ap1 h7
 refine yB0 [6, 7, 8] [3, 4, 5] [(15, iV 7), (14, .agg #[iV 0, iV 0, uV 0, iV 0, iV 0, uV 0]), (10, .tuple #[.agg #[iV 0, iV 0, uV 0, iV 0, iV 0, uV 0], iV 7])] ?_
 refine yA ?_
 refine yNp 7 90 [iV 0, iV 0, uV 0, iV 0, iV 0, uV 0] h8 fun r9 w10 h11 => ?_
 refine yA ?_
 refine yS [(0, iV 0), (1, iV 0), (2, uV 0), (3, iV 0), (4, iV 0), (5, uV 0)] [iV 0, iV 0, uV 0, iV 0, iV 0, uV 0] h11 fun w12 h13 => ?_
 refine yB0 [] [8] [(8, iV 7)] (.mk ?_)
 refine yK [(0, pV b), (3, pV r1), (7, pV r9), (8, iV 7)] fun lr14 => ?_
 refine ySq ?_
 refine ySq ?_
 refine yPl [0, 1] ?_
 refine yB0 [] [0, 1] [(17, .bool true), (16, iV 7)] (.mk ?_)
 refine yK [(0, pV b), (3, pV r1), (7, pV r9), (8, iV 7), (17, .bool true)] fun lr15 => ?_
 refine yCt ?_
 refine ySq ?_
 refine yPl [0, 1, 2, 3] ?_
 refine yB0 [] [0, 1, 2, 3] [(6, iV 7), (5, .bool false), (4, iV 0), (18, iV 7)] (.mk ?_)
 refine yK [(4, iV 0), (5, .bool false), (6, iV 7)] fun lr16 => ?_
 refine yRt ?_
 repeat (first | simp only [Exit.inBlock] | simp only [Exit.then])
 have h17 := tk4 (sf3 (sf2 (sf3 (sf3 h13))))
 have h18 := tk2 (sf1 (sf3 h17))
 refine hi_out [] (.tuple #[iV 0, .bool false, iV 7]) [] (by kernel_rfl) (by intro q hq; cases hq) ?_
 exact ⟨.tuple #[iV 0, .bool false, iV 7], [Tab b n A E RL], rfl, ⟨rfl, rfl⟩, h18⟩

set_option maxHeartbeats 4000000 in
theorem tclose_diff (b n : Nat) (A : List Sl2) (E : Tm) (RL : List Rs) (x y z : Int) (e : Ety) (hz0 : 0 ≤ z) (hz1 : z ≤ 4294967295) (ho : 1 ≤ x ∧ x ≤ 3 ∧ 0 ≤ y ∧ y ≤ 255 ∧ 1 ≤ z) (hg_ : gget E y = some e) (hd_ : ¬ (e.d.1 = x ∧ e.d.2.1 = y ∧ e.d.2.2 = z)) : HT Try.prog 15 [Value.pointer (some ⟨b, 0, none⟩), Value.agg #[Value.int IntKind.i64 x, Value.int IntKind.i64 y, Value.int IntKind.u32 z]] [Tab b n A E RL] (fun v K => v = Value.tuple #[Value.int IntKind.i64 0, Value.bool false, Value.int IntKind.i64 7] ∧ K = [Tab b n A E RL]) := by
 refine hi_in 35 ([(0, pV b), (1, .agg #[iV x, iV y, uV z])] : Fr) Try.func15 (by kernel_rfl) Try.ntmps15 rfl rfl ?_
 intro g w0 R h0
 refine ySq ?_
 refine yPl [0, 1, 2, 3] ?_
 refine yA ?_
 refine yNp 3 28 [iV x, iV y, uV z] h0 fun r1 w2 h3 => ?_
 refine yB0 [] [1, 2, 3] [(6, iV 0), (5, .bool false), (4, iV 0)] (.mk ?_)
 refine yK [(0, pV b), (3, pV r1)] fun lr4 => ?_
 refine ySq ?_
 refine yPl [0, 1, 2, 3, 4, 5, 6, 7, 8] ?_
 refine yBb [2, 3, 4, 5, 6, 7, 8] [(12, .agg #[iV x, iV y, uV z]), (11, pV b)] [e0 0, e2 1 [iV x, iV y, uV z]] [(1, ⟨r1, 0, none⟩, iV x), (1, ⟨r1, 1, none⟩, iV y), (1, ⟨r1, 2, none⟩, uV z)] [] trivial (kC (sat_cell h3 0 rfl rfl) (kC (sat_cell h3 0 rfl rfl) (kC (sat_cell h3 0 rfl rfl) nC))) ?_
 have h5 := tk3 (sf2 (sf1 (sf2 h3)))
 refine yA ?_
 refine yCl 13 Try.call44 (tfind_diff b n A E RL x y z e (by omega) (by omega) (by omega) hg_ (by omega)) h5 ?_
 rintro v K w6 (⟨rfl, rfl⟩) h7
 refine ⟨_, rfl, ?_⟩
 have h8 := ap1 h7
 refine yB0 [6, 7, 8] [3, 4, 5] [(15, iV 7), (14, .agg #[iV 0, iV 0, uV 0, iV 0, iV 0, uV 0]), (10, .tuple #[.agg #[iV 0, iV 0, uV 0, iV 0, iV 0, uV 0], iV 7])] ?_
 refine yA ?_
 refine yNp 7 90 [iV 0, iV 0, uV 0, iV 0, iV 0, uV 0] h8 fun r9 w10 h11 => ?_
 refine yA ?_
 refine yS [(0, iV 0), (1, iV 0), (2, uV 0), (3, iV 0), (4, iV 0), (5, uV 0)] [iV 0, iV 0, uV 0, iV 0, iV 0, uV 0] h11 fun w12 h13 => ?_
 refine yB0 [] [8] [(8, iV 7)] (.mk ?_)
 refine yK [(0, pV b), (3, pV r1), (7, pV r9), (8, iV 7)] fun lr14 => ?_
 refine ySq ?_
 refine ySq ?_
 refine yPl [0, 1] ?_
 refine yB0 [] [0, 1] [(17, .bool true), (16, iV 7)] (.mk ?_)
 refine yK [(0, pV b), (3, pV r1), (7, pV r9), (8, iV 7), (17, .bool true)] fun lr15 => ?_
 refine yCt ?_
 refine ySq ?_
 refine yPl [0, 1, 2, 3] ?_
 refine yB0 [] [0, 1, 2, 3] [(6, iV 7), (5, .bool false), (4, iV 0), (18, iV 7)] (.mk ?_)
 refine yK [(4, iV 0), (5, .bool false), (6, iV 7)] fun lr16 => ?_
 refine yRt ?_
 repeat (first | simp only [Exit.inBlock] | simp only [Exit.then])
 have h17 := tk4 (sf3 (sf2 (sf3 (sf3 h13))))
 have h18 := tk2 (sf1 (sf3 h17))
 refine hi_out [] (.tuple #[iV 0, .bool false, iV 7]) [] (by kernel_rfl) (by intro q hq; cases hq) ?_
 exact ⟨.tuple #[iV 0, .bool false, iV 7], [Tab b n A E RL], rfl, ⟨rfl, rfl⟩, h18⟩

set_option maxHeartbeats 4000000 in
theorem tclose_ok (b n : Nat) (A : List Sl2) (E : Tm) (RL : List Rs) (x y z : Int) (e : Ety) (hz0 : 0 ≤ z) (hz1 : z ≤ 4294967295) (ho : 1 ≤ x ∧ x ≤ 3 ∧ 0 ≤ y ∧ y ≤ 255 ∧ 1 ≤ z) (hg_ : gget E y = some e) (hd_ : e.d.1 = x ∧ e.d.2.1 = y ∧ e.d.2.2 = z) (q : Nat) (s : Sl2) (hs : A[q]? = some s) (hs_ : y = (q : Int) ∧ s.1 = 1 ∧ s.2 = z) (hnum : 1 ≤ e.num ∧ e.num ≤ (RL.length : Int)) : HT Try.prog 15 [Value.pointer (some ⟨b, 0, none⟩), Value.agg #[Value.int IntKind.i64 x, Value.int IntKind.i64 y, Value.int IntKind.u32 z]] [Tab b n A E RL] (fun v K => v = Value.tuple #[Value.int .i64 e.num, Value.bool (decide ((descs (gdel E y) e.num).length = 0)), Value.int .i64 0] ∧ K = [Tab b n (giveA A q z) (gdel E y) RL]) := by
 refine hi_in 35 ([(0, pV b), (1, .agg #[iV x, iV y, uV z])] : Fr) Try.func15 (by kernel_rfl) Try.ntmps15 rfl rfl ?_
 intro g w0 R h0
 refine ySq ?_
 refine yPl [0, 1, 2, 3] ?_
 refine yA ?_
 refine yNp 3 28 [iV x, iV y, uV z] h0 fun r1 w2 h3 => ?_
 refine yB0 [] [1, 2, 3] [(6, iV 0), (5, .bool false), (4, iV 0)] (.mk ?_)
 refine yK [(0, pV b), (3, pV r1)] fun lr4 => ?_
 refine ySq ?_
 refine yPl [0, 1, 2, 3, 4, 5, 6, 7, 8] ?_
 refine yBb [2, 3, 4, 5, 6, 7, 8] [(12, .agg #[iV x, iV y, uV z]), (11, pV b)] [e0 0, e2 1 [iV x, iV y, uV z]] [(1, ⟨r1, 0, none⟩, iV x), (1, ⟨r1, 1, none⟩, iV y), (1, ⟨r1, 2, none⟩, uV z)] [] trivial (kC (sat_cell h3 0 rfl rfl) (kC (sat_cell h3 0 rfl rfl) (kC (sat_cell h3 0 rfl rfl) nC))) ?_
 have h5 := tk3 (sf2 (sf1 (sf2 h3)))
 refine yA ?_
 refine yCl 13 Try.call44 (tfind_ok b n A E RL x y z e (by omega) (by omega) (by omega) hg_ (by omega)) h5 ?_
 rintro v K w6 (⟨rfl, rfl⟩) h7
 refine ⟨_, rfl, ?_⟩
 have h8 := ap1 h7
 refine yB0 [6, 7, 8] [3, 4, 5] [(15, iV 0), (14, .agg #[iV e.d.1, iV e.d.2.1, uV e.d.2.2, iV e.num, iV e.h.1, uV e.h.2]), (10, .tuple #[.agg #[iV e.d.1, iV e.d.2.1, uV e.d.2.2, iV e.num, iV e.h.1, uV e.h.2], iV 0])] ?_
 refine yA ?_
 refine yNp 7 90 [iV 0, iV 0, uV 0, iV 0, iV 0, uV 0] h8 fun r9 w10 h11 => ?_
 refine yA ?_
 refine yS [(0, iV e.d.1), (1, iV e.d.2.1), (2, uV e.d.2.2), (3, iV e.num), (4, iV e.h.1), (5, uV e.h.2)] [iV e.d.1, iV e.d.2.1, uV e.d.2.2, iV e.num, iV e.h.1, uV e.h.2] h11 fun w12 h13 => ?_
 refine yB0 [] [8] [(8, iV 0)] (.mk ?_)
 refine yK [(0, pV b), (3, pV r1), (7, pV r9), (8, iV 0)] fun lr14 => ?_
 refine ySq ?_
 refine ySq ?_
 refine yPl [0, 1] ?_
 refine yB0 [] [0, 1] [(17, .bool false), (16, iV 0)] (.mk ?_)
 refine yK [(0, pV b), (3, pV r1), (7, pV r9), (8, iV 0), (17, .bool false)] fun lr15 => ?_
 refine yCf ?_
 refine ySk ?_
 refine ySq ?_
 refine yPl [0, 1, 2] ?_
 refine yBb [2] [(20, .agg #[iV x, iV y, uV z]), (19, pV b)] [e0 0, e2 1 [iV x, iV y, uV z]] [(1, ⟨r1, 0, none⟩, iV x), (1, ⟨r1, 1, none⟩, iV y), (1, ⟨r1, 2, none⟩, uV z)] [] trivial (kC (sat_cell h13 2 rfl rfl) (kC (sat_cell h13 2 rfl rfl) (kC (sat_cell h13 2 rfl rfl) nC))) ?_
 have h16 := tk4 (sf3 (sf2 (sf3 (sf3 h13))))
 refine yA ?_
 refine yCl 21 Try.call45 (tdrop_ht b n A E RL x y z (by omega) (by omega) q s hs (by omega)) h16 ?_
 rintro v K w17 (⟨rfl, rfl⟩) h18
 refine ⟨_, rfl, ?_⟩
 have h19 := ap1 h18
 refine PO.mk ?_
 refine yK [(0, pV b), (7, pV r9)] fun lr20 => ?_
 refine ySq ?_
 refine yPl [0, 1, 2, 3, 4, 5, 6, 7, 8] ?_
 refine yBb [3, 4, 5, 6, 7, 8] [(25, iV e.num), (24, .pointer (some ⟨r9, 3, none⟩)), (23, pV b)] [e0 0, e0 1, e2 2 [iV e.num]] [(2, ⟨r9, 3, none⟩, iV e.num)] [] trivial (kC (sat_cell h19 1 rfl rfl) nC) ?_
 refine yA ?_
 refine yCl 26 Try.call21 (tdescs_ok b n (giveA A q z) (gdel E y) RL e.num (by omega)) h19 ?_
 rintro v K w23 (⟨p21, c22, rfl, rfl⟩) h24
 refine ⟨_, rfl, ?_⟩
 have h25 := ap2 h24
 refine yB0 [] [4, 5, 6, 7, 8] [(8, iV 0), (9, .slice p21 (((descs (gdel E y) e.num).length)) c22), (28, iV 0), (27, .slice p21 (((descs (gdel E y) e.num).length)) c22), (22, .tuple #[.slice p21 (((descs (gdel E y) e.num).length)) c22, iV 0])] (.mk ?_)
 refine yK [(7, pV r9), (8, iV 0), (9, .slice p21 (((descs (gdel E y) e.num).length)) c22)] fun lr26 => ?_
 refine ySq ?_
 refine yPl [0, 1, 2, 3, 4, 5, 6, 7, 8] ?_
 refine yBb [4, 5, 6, 7, 8] [(32, iV ((((descs (gdel E y) e.num).length : Nat) : Int))), (31, .slice p21 (((descs (gdel E y) e.num).length)) c22), (30, iV e.num), (29, .pointer (some ⟨r9, 3, none⟩))] [e0 0, e2 1 [iV e.num], e0 2, e0 3] [(1, ⟨r9, 3, none⟩, iV e.num)] [] trivial (kC (sat_cell h25 2 rfl rfl) nC) ?_
 by_cases c27 : (((descs (gdel E y) e.num).length : Nat) : Int) = 0
 ·
  refine yBb [] [(6, iV 0), (5, .bool true), (4, iV e.num), (34, iV 0), (33, .bool true)] [e1 4 (.bool true), e0 5, e0 6, e0 7, e0 8] [] [(.bool (((((descs (gdel E y) e.num).length : Nat) : Int)) == 0), .bool true)] ⟨(ov_et (by omega)), trivial⟩ nC (.mk ?_)
  refine yK [(4, iV e.num), (5, .bool true), (6, iV 0)] fun lr28 => ?_
  refine yRt ?_
  repeat (first | simp only [Exit.inBlock] | simp only [Exit.then])
  have h29 := tk2 (sf1 (sf4 h25))
  refine hi_out [] (.tuple #[iV e.num, .bool true, iV 0]) [] (by kernel_rfl) (by intro q hq; cases hq) ?_
  exact ⟨.tuple #[iV e.num, .bool true, iV 0], [Tab b n (giveA A q z) (gdel E y) RL], rfl, ⟨by rw [decide_eq_true (by omega)], rfl⟩, h29⟩
 ·
  refine yBb [] [(6, iV 0), (5, .bool false), (4, iV e.num), (34, iV 0), (33, .bool false)] [e1 4 (.bool false), e0 5, e0 6, e0 7, e0 8] [] [(.bool (((((descs (gdel E y) e.num).length : Nat) : Int)) == 0), .bool false)] ⟨(ov_ef (by omega)), trivial⟩ nC (.mk ?_)
  refine yK [(4, iV e.num), (5, .bool false), (6, iV 0)] fun lr30 => ?_
  refine yRt ?_
  repeat (first | simp only [Exit.inBlock] | simp only [Exit.then])
  have h31 := tk2 (sf1 (sf4 h25))
  refine hi_out [] (.tuple #[iV e.num, .bool false, iV 0]) [] (by kernel_rfl) (by intro q hq; cases hq) ?_
  exact ⟨.tuple #[iV e.num, .bool false, iV 0], [Tab b n (giveA A q z) (gdel E y) RL], rfl, ⟨by rw [decide_eq_false (by omega)], rfl⟩, h31⟩

set_option maxHeartbeats 4000000 in
theorem tdup_arg (b n : Nat) (A : List Sl2) (E : Tm) (RL : List Rs) (x y z : Int) (hx hy : Int) (hob : hx < 0 ∨ 255 < hx ∨ hy ≤ 0) : HT Try.prog 14 [Value.pointer (some ⟨b, 0, none⟩), Value.agg #[Value.int IntKind.i64 x, Value.int IntKind.i64 y, Value.int IntKind.u32 z], Value.agg #[Value.int IntKind.i64 hx, Value.int IntKind.u32 hy]] [Tab b n A E RL] (fun v K => v = Value.tuple #[Value.agg #[Value.int IntKind.i64 0, Value.int IntKind.i64 0, Value.int IntKind.u32 0], Value.int IntKind.i64 2] ∧ K = [Tab b n A E RL]) := by
 refine hi_in 41 ([(0, pV b), (1, .agg #[iV x, iV y, uV z]), (2, .agg #[iV hx, uV hy])] : Fr) Try.func14 (by kernel_rfl) Try.ntmps14 rfl rfl ?_
 intro g w0 R h0
 refine ySq ?_
 refine yPl [0, 1, 2, 3] ?_
 refine yA ?_
 refine yNp 4 28 [iV x, iV y, uV z] h0 fun r1 w2 h3 => ?_
 refine yA ?_
 refine yNp 5 34 [iV hx, uV hy] h3 fun r4 w5 h6 => ?_
 refine yA ?_
 refine yNp 6 28 [iV 0, iV 0, uV 0] h6 fun r7 w8 h9 => ?_
 refine yB0 [] [3] [(7, iV 0)] (.mk ?_)
 refine yK [(0, pV b), (4, pV r1), (5, pV r4), (6, pV r7)] fun lr10 => ?_
 refine ySq ?_
 refine ySq ?_
 refine yPl [0, 1, 2, 3, 4, 5, 6] ?_
 refine yB0 [1, 2, 3, 4, 5, 6] [0] [(10, pV b)] ?_
 have h11 := tk5 (sf4 (sf3 (sf3 (sf3 (sf4 h9)))))
 refine yA ?_
 refine yCl 11 Try.call36 (tvalid_ht b n A E RL) h11 ?_
 rintro v K w12 (⟨rfl, rfl⟩) h13
 refine ⟨_, rfl, ?_⟩
 have h14 := ap1 h13
 refine yBb [4, 5, 6] [(13, .agg #[iV hx, uV hy]), (12, .bool true)] [e0 2, e2 3 [iV hx, uV hy]] [(3, ⟨r4, 0, none⟩, iV hx), (3, ⟨r4, 1, none⟩, uV hy)] [] trivial (kC (sat_cell h14 2 rfl rfl) (kC (sat_cell h14 2 rfl rfl) nC)) ?_
 by_cases c15 : 0 ≤ hx
 ·
  by_cases c16 : hx ≤ 255
  ·
   refine yA ?_
   refine yCl 14 Try.call38 (obj_f hx hy (by omega)) h14 ?_
   rintro v K w17 (⟨rfl, rfl⟩) h18
   refine ⟨_, rfl, ?_⟩
   have h19 := ap0 h18
   refine yB0 [] [5, 6] [(16, .bool true), (15, .bool true)] (.mk ?_)
   refine yK [(0, pV b), (4, pV r1), (5, pV r4), (6, pV r7), (16, .bool true)] fun lr20 => ?_
   refine yCt ?_
   refine ySq ?_
   refine yPl [0, 1, 2] ?_
   refine yB0 [1, 2] [0] [(17, .agg #[iV 0, iV 0, uV 0])] ?_
   have h21 := tk5 (sf4 (sf3 (sf4 (sf4 (sf4 h19)))))
   refine yA ?_
   refine yS [(0, iV 0), (1, iV 0), (2, uV 0)] [iV 0, iV 0, uV 0] h21 fun w22 h23 => ?_
   refine yB0 [] [2] [(7, iV 2)] (.mk ?_)
   refine yK [(6, pV r7), (7, iV 2)] fun lr24 => ?_
   refine yRt ?_
   repeat (first | simp only [Exit.inBlock] | simp only [Exit.then])
   have h25 := tk5 (sf4 (sf3 (sf4 (sf4 (sf4 h23)))))
   have h26 := tk2 (sf1 (sf4 h25))
   refine hi_out [iV 0, iV 0, uV 0] (.tuple #[.agg #[iV 0, iV 0, uV 0], iV 2]) [(⟨r7, 0, none⟩, iV 0), (⟨r7, 1, none⟩, iV 0), (⟨r7, 2, none⟩, uV 0)] (by kernel_rfl) (allq ⟨sat_cell h23 0 rfl rfl, sat_cell h23 0 rfl rfl, sat_cell h23 0 rfl rfl, trivial⟩) ?_
   exact ⟨.tuple #[.agg #[iV 0, iV 0, uV 0], iV 2], [Tab b n A E RL], rfl, ⟨rfl, rfl⟩, h26⟩
  ·
   refine yA ?_
   refine yCl 14 Try.call38 (obj_f hx hy (by omega)) h14 ?_
   rintro v K w27 (⟨rfl, rfl⟩) h28
   refine ⟨_, rfl, ?_⟩
   have h29 := ap0 h28
   refine yB0 [] [5, 6] [(16, .bool true), (15, .bool true)] (.mk ?_)
   refine yK [(0, pV b), (4, pV r1), (5, pV r4), (6, pV r7), (16, .bool true)] fun lr30 => ?_
   refine yCt ?_
   refine ySq ?_
   refine yPl [0, 1, 2] ?_
   refine yB0 [1, 2] [0] [(17, .agg #[iV 0, iV 0, uV 0])] ?_
   have h31 := tk5 (sf4 (sf3 (sf4 (sf4 (sf4 h29)))))
   refine yA ?_
   refine yS [(0, iV 0), (1, iV 0), (2, uV 0)] [iV 0, iV 0, uV 0] h31 fun w32 h33 => ?_
   refine yB0 [] [2] [(7, iV 2)] (.mk ?_)
   refine yK [(6, pV r7), (7, iV 2)] fun lr34 => ?_
   refine yRt ?_
   repeat (first | simp only [Exit.inBlock] | simp only [Exit.then])
   have h35 := tk5 (sf4 (sf3 (sf4 (sf4 (sf4 h33)))))
   have h36 := tk2 (sf1 (sf4 h35))
   refine hi_out [iV 0, iV 0, uV 0] (.tuple #[.agg #[iV 0, iV 0, uV 0], iV 2]) [(⟨r7, 0, none⟩, iV 0), (⟨r7, 1, none⟩, iV 0), (⟨r7, 2, none⟩, uV 0)] (by kernel_rfl) (allq ⟨sat_cell h33 0 rfl rfl, sat_cell h33 0 rfl rfl, sat_cell h33 0 rfl rfl, trivial⟩) ?_
   exact ⟨.tuple #[.agg #[iV 0, iV 0, uV 0], iV 2], [Tab b n A E RL], rfl, ⟨rfl, rfl⟩, h36⟩
 ·
  refine yA ?_
  refine yCl 14 Try.call38 (obj_f hx hy (by omega)) h14 ?_
  rintro v K w37 (⟨rfl, rfl⟩) h38
  refine ⟨_, rfl, ?_⟩
  have h39 := ap0 h38
  refine yB0 [] [5, 6] [(16, .bool true), (15, .bool true)] (.mk ?_)
  refine yK [(0, pV b), (4, pV r1), (5, pV r4), (6, pV r7), (16, .bool true)] fun lr40 => ?_
  refine yCt ?_
  refine ySq ?_
  refine yPl [0, 1, 2] ?_
  refine yB0 [1, 2] [0] [(17, .agg #[iV 0, iV 0, uV 0])] ?_
  have h41 := tk5 (sf4 (sf3 (sf4 (sf4 (sf4 h39)))))
  refine yA ?_
  refine yS [(0, iV 0), (1, iV 0), (2, uV 0)] [iV 0, iV 0, uV 0] h41 fun w42 h43 => ?_
  refine yB0 [] [2] [(7, iV 2)] (.mk ?_)
  refine yK [(6, pV r7), (7, iV 2)] fun lr44 => ?_
  refine yRt ?_
  repeat (first | simp only [Exit.inBlock] | simp only [Exit.then])
  have h45 := tk5 (sf4 (sf3 (sf4 (sf4 (sf4 h43)))))
  have h46 := tk2 (sf1 (sf4 h45))
  refine hi_out [iV 0, iV 0, uV 0] (.tuple #[.agg #[iV 0, iV 0, uV 0], iV 2]) [(⟨r7, 0, none⟩, iV 0), (⟨r7, 1, none⟩, iV 0), (⟨r7, 2, none⟩, uV 0)] (by kernel_rfl) (allq ⟨sat_cell h43 0 rfl rfl, sat_cell h43 0 rfl rfl, sat_cell h43 0 rfl rfl, trivial⟩) ?_
  exact ⟨.tuple #[.agg #[iV 0, iV 0, uV 0], iV 2], [Tab b n A E RL], rfl, ⟨rfl, rfl⟩, h46⟩

set_option maxHeartbeats 4000000 in
theorem tdup_bad (b n : Nat) (A : List Sl2) (E : Tm) (RL : List Rs) (x y z : Int) (hx hy : Int) (hob : 0 ≤ hx ∧ hx ≤ 255 ∧ 1 ≤ hy) (hz0 : 0 ≤ z) (hz1 : z ≤ 4294967295) (ho : ¬ (1 ≤ x ∧ x ≤ 3 ∧ 0 ≤ y ∧ y ≤ 255 ∧ 1 ≤ z)) : HT Try.prog 14 [Value.pointer (some ⟨b, 0, none⟩), Value.agg #[Value.int IntKind.i64 x, Value.int IntKind.i64 y, Value.int IntKind.u32 z], Value.agg #[Value.int IntKind.i64 hx, Value.int IntKind.u32 hy]] [Tab b n A E RL] (fun v K => v = Value.tuple #[Value.agg #[Value.int IntKind.i64 0, Value.int IntKind.i64 0, Value.int IntKind.u32 0], Value.int IntKind.i64 2] ∧ K = [Tab b n A E RL]) := by
 refine hi_in 41 ([(0, pV b), (1, .agg #[iV x, iV y, uV z]), (2, .agg #[iV hx, uV hy])] : Fr) Try.func14 (by kernel_rfl) Try.ntmps14 rfl rfl ?_
 intro g w0 R h0
 refine ySq ?_
 refine yPl [0, 1, 2, 3] ?_
 refine yA ?_
 refine yNp 4 28 [iV x, iV y, uV z] h0 fun r1 w2 h3 => ?_
 refine yA ?_
 refine yNp 5 34 [iV hx, uV hy] h3 fun r4 w5 h6 => ?_
 refine yA ?_
 refine yNp 6 28 [iV 0, iV 0, uV 0] h6 fun r7 w8 h9 => ?_
 refine yB0 [] [3] [(7, iV 0)] (.mk ?_)
 refine yK [(0, pV b), (4, pV r1), (5, pV r4), (6, pV r7)] fun lr10 => ?_
 refine ySq ?_
 refine ySq ?_
 refine yPl [0, 1, 2, 3, 4, 5, 6] ?_
 refine yB0 [1, 2, 3, 4, 5, 6] [0] [(10, pV b)] ?_
 have h11 := tk5 (sf4 (sf3 (sf3 (sf3 (sf4 h9)))))
 refine yA ?_
 refine yCl 11 Try.call36 (tvalid_ht b n A E RL) h11 ?_
 rintro v K w12 (⟨rfl, rfl⟩) h13
 refine ⟨_, rfl, ?_⟩
 have h14 := ap1 h13
 refine yBb [4, 5, 6] [(13, .agg #[iV hx, uV hy]), (12, .bool true)] [e0 2, e2 3 [iV hx, uV hy]] [(3, ⟨r4, 0, none⟩, iV hx), (3, ⟨r4, 1, none⟩, uV hy)] [] trivial (kC (sat_cell h14 2 rfl rfl) (kC (sat_cell h14 2 rfl rfl) nC)) ?_
 refine yA ?_
 refine yCl 14 Try.call38 (obj_t hx hy (by omega)) h14 ?_
 rintro v K w15 (⟨rfl, rfl⟩) h16
 refine ⟨_, rfl, ?_⟩
 have h17 := ap0 h16
 refine yB0 [] [5, 6] [(16, .bool false), (15, .bool false)] (.mk ?_)
 refine yK [(0, pV b), (4, pV r1), (5, pV r4), (6, pV r7), (16, .bool false)] fun lr18 => ?_
 refine yCf ?_
 refine ySk ?_
 refine ySq ?_
 refine yPl [0, 1, 2, 3, 4, 5, 6, 7, 8] ?_
 refine yBb [2, 3, 4, 5, 6, 7, 8] [(20, .agg #[iV x, iV y, uV z]), (19, pV b)] [e0 0, e2 1 [iV x, iV y, uV z]] [(1, ⟨r1, 0, none⟩, iV x), (1, ⟨r1, 1, none⟩, iV y), (1, ⟨r1, 2, none⟩, uV z)] [] trivial (kC (sat_cell h17 3 rfl rfl) (kC (sat_cell h17 3 rfl rfl) (kC (sat_cell h17 3 rfl rfl) nC))) ?_
 refine yA ?_
 refine yCl 21 Try.call44 (tfind_bad b n A E RL x y z (by omega) (by omega) (by omega)) h17 ?_
 rintro v K w19 (⟨rfl, rfl⟩) h20
 refine ⟨_, rfl, ?_⟩
 have h21 := ap1 h20
 refine yB0 [6, 7, 8] [3, 4, 5] [(23, iV 2), (22, .agg #[iV 0, iV 0, uV 0, iV 0, iV 0, uV 0]), (18, .tuple #[.agg #[iV 0, iV 0, uV 0, iV 0, iV 0, uV 0], iV 2])] ?_
 refine yA ?_
 refine yNp 8 90 [iV 0, iV 0, uV 0, iV 0, iV 0, uV 0] h21 fun r22 w23 h24 => ?_
 refine yA ?_
 refine yS [(0, iV 0), (1, iV 0), (2, uV 0), (3, iV 0), (4, iV 0), (5, uV 0)] [iV 0, iV 0, uV 0, iV 0, iV 0, uV 0] h24 fun w25 h26 => ?_
 refine yB0 [] [8] [(9, iV 2)] (.mk ?_)
 refine yK [(0, pV b), (5, pV r4), (6, pV r7), (8, pV r22), (9, iV 2)] fun lr27 => ?_
 refine ySq ?_
 refine yBk 0 ?_
 refine ySq ?_
 refine yPl [0, 1, 2] ?_
 refine yB0 [] [0, 1, 2] [(24, .bool true), (26, .bool true), (25, iV 2)] (.mk ?_)
 refine yK [(0, pV b), (5, pV r4), (6, pV r7), (8, pV r22), (9, iV 2), (24, .bool true)] fun lr28 => ?_
 refine yCt ?_
 refine ySq ?_
 refine yPl [0, 1, 2, 3] ?_
 refine yB0 [2, 3] [0, 1] [(28, iV 2), (27, .agg #[iV 0, iV 0, uV 0])] ?_
 have h29 := tk6 (sf5 (sf4 (sf4 (sf5 (sf5 (sf5 h26))))))
 refine yA ?_
 refine yS [(0, iV 0), (1, iV 0), (2, uV 0)] [iV 0, iV 0, uV 0] h29 fun w30 h31 => ?_
 refine yB0 [] [3] [(7, iV 2)] (.mk ?_)
 refine yK [(6, pV r7), (7, iV 2)] fun lr32 => ?_
 refine yRt ?_
 repeat (first | simp only [Exit.inBlock] | simp only [Exit.then])
 have h33 := tk6 (sf5 (sf4 (sf4 (sf5 (sf5 (sf5 h31))))))
 have h34 := tk2 (sf1 (sf5 h33))
 refine hi_out [iV 0, iV 0, uV 0] (.tuple #[.agg #[iV 0, iV 0, uV 0], iV 2]) [(⟨r7, 0, none⟩, iV 0), (⟨r7, 1, none⟩, iV 0), (⟨r7, 2, none⟩, uV 0)] (by kernel_rfl) (allq ⟨sat_cell h31 0 rfl rfl, sat_cell h31 0 rfl rfl, sat_cell h31 0 rfl rfl, trivial⟩) ?_
 exact ⟨.tuple #[.agg #[iV 0, iV 0, uV 0], iV 2], [Tab b n A E RL], rfl, ⟨rfl, rfl⟩, h34⟩

set_option maxHeartbeats 4000000 in
theorem tdup_none (b n : Nat) (A : List Sl2) (E : Tm) (RL : List Rs) (x y z : Int) (hx hy : Int) (hob : 0 ≤ hx ∧ hx ≤ 255 ∧ 1 ≤ hy) (hz0 : 0 ≤ z) (hz1 : z ≤ 4294967295) (ho : 1 ≤ x ∧ x ≤ 3 ∧ 0 ≤ y ∧ y ≤ 255 ∧ 1 ≤ z) (hg_ : gget E y = none) : HT Try.prog 14 [Value.pointer (some ⟨b, 0, none⟩), Value.agg #[Value.int IntKind.i64 x, Value.int IntKind.i64 y, Value.int IntKind.u32 z], Value.agg #[Value.int IntKind.i64 hx, Value.int IntKind.u32 hy]] [Tab b n A E RL] (fun v K => v = Value.tuple #[Value.agg #[Value.int IntKind.i64 0, Value.int IntKind.i64 0, Value.int IntKind.u32 0], Value.int IntKind.i64 7] ∧ K = [Tab b n A E RL]) := by
 refine hi_in 41 ([(0, pV b), (1, .agg #[iV x, iV y, uV z]), (2, .agg #[iV hx, uV hy])] : Fr) Try.func14 (by kernel_rfl) Try.ntmps14 rfl rfl ?_
 intro g w0 R h0
 refine ySq ?_
 refine yPl [0, 1, 2, 3] ?_
 refine yA ?_
 refine yNp 4 28 [iV x, iV y, uV z] h0 fun r1 w2 h3 => ?_
 refine yA ?_
 refine yNp 5 34 [iV hx, uV hy] h3 fun r4 w5 h6 => ?_
 refine yA ?_
 refine yNp 6 28 [iV 0, iV 0, uV 0] h6 fun r7 w8 h9 => ?_
 refine yB0 [] [3] [(7, iV 0)] (.mk ?_)
 refine yK [(0, pV b), (4, pV r1), (5, pV r4), (6, pV r7)] fun lr10 => ?_
 refine ySq ?_
 refine ySq ?_
 refine yPl [0, 1, 2, 3, 4, 5, 6] ?_
 refine yB0 [1, 2, 3, 4, 5, 6] [0] [(10, pV b)] ?_
 have h11 := tk5 (sf4 (sf3 (sf3 (sf3 (sf4 h9)))))
 refine yA ?_
 refine yCl 11 Try.call36 (tvalid_ht b n A E RL) h11 ?_
 rintro v K w12 (⟨rfl, rfl⟩) h13
 refine ⟨_, rfl, ?_⟩
 have h14 := ap1 h13
 refine yBb [4, 5, 6] [(13, .agg #[iV hx, uV hy]), (12, .bool true)] [e0 2, e2 3 [iV hx, uV hy]] [(3, ⟨r4, 0, none⟩, iV hx), (3, ⟨r4, 1, none⟩, uV hy)] [] trivial (kC (sat_cell h14 2 rfl rfl) (kC (sat_cell h14 2 rfl rfl) nC)) ?_
 refine yA ?_
 refine yCl 14 Try.call38 (obj_t hx hy (by omega)) h14 ?_
 rintro v K w15 (⟨rfl, rfl⟩) h16
 refine ⟨_, rfl, ?_⟩
 have h17 := ap0 h16
 refine yB0 [] [5, 6] [(16, .bool false), (15, .bool false)] (.mk ?_)
 refine yK [(0, pV b), (4, pV r1), (5, pV r4), (6, pV r7), (16, .bool false)] fun lr18 => ?_
 refine yCf ?_
 refine ySk ?_
 refine ySq ?_
 refine yPl [0, 1, 2, 3, 4, 5, 6, 7, 8] ?_
 refine yBb [2, 3, 4, 5, 6, 7, 8] [(20, .agg #[iV x, iV y, uV z]), (19, pV b)] [e0 0, e2 1 [iV x, iV y, uV z]] [(1, ⟨r1, 0, none⟩, iV x), (1, ⟨r1, 1, none⟩, iV y), (1, ⟨r1, 2, none⟩, uV z)] [] trivial (kC (sat_cell h17 3 rfl rfl) (kC (sat_cell h17 3 rfl rfl) (kC (sat_cell h17 3 rfl rfl) nC))) ?_
 refine yA ?_
 refine yCl 21 Try.call44 (tfind_none b n A E RL x y z (by omega) (by omega) (by omega) hg_) h17 ?_
 rintro v K w19 (⟨rfl, rfl⟩) h20
 refine ⟨_, rfl, ?_⟩
 have h21 := ap1 h20
 refine yB0 [6, 7, 8] [3, 4, 5] [(23, iV 7), (22, .agg #[iV 0, iV 0, uV 0, iV 0, iV 0, uV 0]), (18, .tuple #[.agg #[iV 0, iV 0, uV 0, iV 0, iV 0, uV 0], iV 7])] ?_
 refine yA ?_
 refine yNp 8 90 [iV 0, iV 0, uV 0, iV 0, iV 0, uV 0] h21 fun r22 w23 h24 => ?_
 refine yA ?_
 refine yS [(0, iV 0), (1, iV 0), (2, uV 0), (3, iV 0), (4, iV 0), (5, uV 0)] [iV 0, iV 0, uV 0, iV 0, iV 0, uV 0] h24 fun w25 h26 => ?_
 refine yB0 [] [8] [(9, iV 7)] (.mk ?_)
 refine yK [(0, pV b), (5, pV r4), (6, pV r7), (8, pV r22), (9, iV 7)] fun lr27 => ?_
 refine ySq ?_
 refine yBk 0 ?_
 refine ySq ?_
 refine yPl [0, 1, 2] ?_
 refine yB0 [] [0, 1, 2] [(24, .bool true), (26, .bool true), (25, iV 7)] (.mk ?_)
 refine yK [(0, pV b), (5, pV r4), (6, pV r7), (8, pV r22), (9, iV 7), (24, .bool true)] fun lr28 => ?_
 refine yCt ?_
 refine ySq ?_
 refine yPl [0, 1, 2, 3] ?_
 refine yB0 [2, 3] [0, 1] [(28, iV 7), (27, .agg #[iV 0, iV 0, uV 0])] ?_
 have h29 := tk6 (sf5 (sf4 (sf4 (sf5 (sf5 (sf5 h26))))))
 refine yA ?_
 refine yS [(0, iV 0), (1, iV 0), (2, uV 0)] [iV 0, iV 0, uV 0] h29 fun w30 h31 => ?_
 refine yB0 [] [3] [(7, iV 7)] (.mk ?_)
 refine yK [(6, pV r7), (7, iV 7)] fun lr32 => ?_
 refine yRt ?_
 repeat (first | simp only [Exit.inBlock] | simp only [Exit.then])
 have h33 := tk6 (sf5 (sf4 (sf4 (sf5 (sf5 (sf5 h31))))))
 have h34 := tk2 (sf1 (sf5 h33))
 refine hi_out [iV 0, iV 0, uV 0] (.tuple #[.agg #[iV 0, iV 0, uV 0], iV 7]) [(⟨r7, 0, none⟩, iV 0), (⟨r7, 1, none⟩, iV 0), (⟨r7, 2, none⟩, uV 0)] (by kernel_rfl) (allq ⟨sat_cell h31 0 rfl rfl, sat_cell h31 0 rfl rfl, sat_cell h31 0 rfl rfl, trivial⟩) ?_
 exact ⟨.tuple #[.agg #[iV 0, iV 0, uV 0], iV 7], [Tab b n A E RL], rfl, ⟨rfl, rfl⟩, h34⟩

set_option maxHeartbeats 4000000 in
theorem tdup_diff (b n : Nat) (A : List Sl2) (E : Tm) (RL : List Rs) (x y z : Int) (hx hy : Int) (hob : 0 ≤ hx ∧ hx ≤ 255 ∧ 1 ≤ hy) (e : Ety) (hz0 : 0 ≤ z) (hz1 : z ≤ 4294967295) (ho : 1 ≤ x ∧ x ≤ 3 ∧ 0 ≤ y ∧ y ≤ 255 ∧ 1 ≤ z) (hg_ : gget E y = some e) (hd_ : ¬ (e.d.1 = x ∧ e.d.2.1 = y ∧ e.d.2.2 = z)) : HT Try.prog 14 [Value.pointer (some ⟨b, 0, none⟩), Value.agg #[Value.int IntKind.i64 x, Value.int IntKind.i64 y, Value.int IntKind.u32 z], Value.agg #[Value.int IntKind.i64 hx, Value.int IntKind.u32 hy]] [Tab b n A E RL] (fun v K => v = Value.tuple #[Value.agg #[Value.int IntKind.i64 0, Value.int IntKind.i64 0, Value.int IntKind.u32 0], Value.int IntKind.i64 7] ∧ K = [Tab b n A E RL]) := by
 refine hi_in 41 ([(0, pV b), (1, .agg #[iV x, iV y, uV z]), (2, .agg #[iV hx, uV hy])] : Fr) Try.func14 (by kernel_rfl) Try.ntmps14 rfl rfl ?_
 intro g w0 R h0
 refine ySq ?_
 refine yPl [0, 1, 2, 3] ?_
 refine yA ?_
 refine yNp 4 28 [iV x, iV y, uV z] h0 fun r1 w2 h3 => ?_
 refine yA ?_
 refine yNp 5 34 [iV hx, uV hy] h3 fun r4 w5 h6 => ?_
 refine yA ?_
 refine yNp 6 28 [iV 0, iV 0, uV 0] h6 fun r7 w8 h9 => ?_
 refine yB0 [] [3] [(7, iV 0)] (.mk ?_)
 refine yK [(0, pV b), (4, pV r1), (5, pV r4), (6, pV r7)] fun lr10 => ?_
 refine ySq ?_
 refine ySq ?_
 refine yPl [0, 1, 2, 3, 4, 5, 6] ?_
 refine yB0 [1, 2, 3, 4, 5, 6] [0] [(10, pV b)] ?_
 have h11 := tk5 (sf4 (sf3 (sf3 (sf3 (sf4 h9)))))
 refine yA ?_
 refine yCl 11 Try.call36 (tvalid_ht b n A E RL) h11 ?_
 rintro v K w12 (⟨rfl, rfl⟩) h13
 refine ⟨_, rfl, ?_⟩
 have h14 := ap1 h13
 refine yBb [4, 5, 6] [(13, .agg #[iV hx, uV hy]), (12, .bool true)] [e0 2, e2 3 [iV hx, uV hy]] [(3, ⟨r4, 0, none⟩, iV hx), (3, ⟨r4, 1, none⟩, uV hy)] [] trivial (kC (sat_cell h14 2 rfl rfl) (kC (sat_cell h14 2 rfl rfl) nC)) ?_
 refine yA ?_
 refine yCl 14 Try.call38 (obj_t hx hy (by omega)) h14 ?_
 rintro v K w15 (⟨rfl, rfl⟩) h16
 refine ⟨_, rfl, ?_⟩
 have h17 := ap0 h16
 refine yB0 [] [5, 6] [(16, .bool false), (15, .bool false)] (.mk ?_)
 refine yK [(0, pV b), (4, pV r1), (5, pV r4), (6, pV r7), (16, .bool false)] fun lr18 => ?_
 refine yCf ?_
 refine ySk ?_
 refine ySq ?_
 refine yPl [0, 1, 2, 3, 4, 5, 6, 7, 8] ?_
 refine yBb [2, 3, 4, 5, 6, 7, 8] [(20, .agg #[iV x, iV y, uV z]), (19, pV b)] [e0 0, e2 1 [iV x, iV y, uV z]] [(1, ⟨r1, 0, none⟩, iV x), (1, ⟨r1, 1, none⟩, iV y), (1, ⟨r1, 2, none⟩, uV z)] [] trivial (kC (sat_cell h17 3 rfl rfl) (kC (sat_cell h17 3 rfl rfl) (kC (sat_cell h17 3 rfl rfl) nC))) ?_
 refine yA ?_
 refine yCl 21 Try.call44 (tfind_diff b n A E RL x y z e (by omega) (by omega) (by omega) hg_ (by omega)) h17 ?_
 rintro v K w19 (⟨rfl, rfl⟩) h20
 refine ⟨_, rfl, ?_⟩
 have h21 := ap1 h20
 refine yB0 [6, 7, 8] [3, 4, 5] [(23, iV 7), (22, .agg #[iV 0, iV 0, uV 0, iV 0, iV 0, uV 0]), (18, .tuple #[.agg #[iV 0, iV 0, uV 0, iV 0, iV 0, uV 0], iV 7])] ?_
 refine yA ?_
 refine yNp 8 90 [iV 0, iV 0, uV 0, iV 0, iV 0, uV 0] h21 fun r22 w23 h24 => ?_
 refine yA ?_
 refine yS [(0, iV 0), (1, iV 0), (2, uV 0), (3, iV 0), (4, iV 0), (5, uV 0)] [iV 0, iV 0, uV 0, iV 0, iV 0, uV 0] h24 fun w25 h26 => ?_
 refine yB0 [] [8] [(9, iV 7)] (.mk ?_)
 refine yK [(0, pV b), (5, pV r4), (6, pV r7), (8, pV r22), (9, iV 7)] fun lr27 => ?_
 refine ySq ?_
 refine yBk 0 ?_
 refine ySq ?_
 refine yPl [0, 1, 2] ?_
 refine yB0 [] [0, 1, 2] [(24, .bool true), (26, .bool true), (25, iV 7)] (.mk ?_)
 refine yK [(0, pV b), (5, pV r4), (6, pV r7), (8, pV r22), (9, iV 7), (24, .bool true)] fun lr28 => ?_
 refine yCt ?_
 refine ySq ?_
 refine yPl [0, 1, 2, 3] ?_
 refine yB0 [2, 3] [0, 1] [(28, iV 7), (27, .agg #[iV 0, iV 0, uV 0])] ?_
 have h29 := tk6 (sf5 (sf4 (sf4 (sf5 (sf5 (sf5 h26))))))
 refine yA ?_
 refine yS [(0, iV 0), (1, iV 0), (2, uV 0)] [iV 0, iV 0, uV 0] h29 fun w30 h31 => ?_
 refine yB0 [] [3] [(7, iV 7)] (.mk ?_)
 refine yK [(6, pV r7), (7, iV 7)] fun lr32 => ?_
 refine yRt ?_
 repeat (first | simp only [Exit.inBlock] | simp only [Exit.then])
 have h33 := tk6 (sf5 (sf4 (sf4 (sf5 (sf5 (sf5 h31))))))
 have h34 := tk2 (sf1 (sf5 h33))
 refine hi_out [iV 0, iV 0, uV 0] (.tuple #[.agg #[iV 0, iV 0, uV 0], iV 7]) [(⟨r7, 0, none⟩, iV 0), (⟨r7, 1, none⟩, iV 0), (⟨r7, 2, none⟩, uV 0)] (by kernel_rfl) (allq ⟨sat_cell h31 0 rfl rfl, sat_cell h31 0 rfl rfl, sat_cell h31 0 rfl rfl, trivial⟩) ?_
 exact ⟨.tuple #[.agg #[iV 0, iV 0, uV 0], iV 7], [Tab b n A E RL], rfl, ⟨rfl, rfl⟩, h34⟩

set_option maxHeartbeats 4000000 in
theorem tdup_have (b n : Nat) (A : List Sl2) (E : Tm) (RL : List Rs) (x y z : Int) (hx hy : Int) (hob : 0 ≤ hx ∧ hx ≤ 255 ∧ 1 ≤ hy) (e : Ety) (hz0 : 0 ≤ z) (hz1 : z ≤ 4294967295) (ho : 1 ≤ x ∧ x ≤ 3 ∧ 0 ≤ y ∧ y ≤ 255 ∧ 1 ≤ z) (hg_ : gget E y = some e) (hd_ : e.d.1 = x ∧ e.d.2.1 = y ∧ e.d.2.2 = z) (hh : ∃ e ∈ allE E, e.h = (hx, hy)) : HT Try.prog 14 [Value.pointer (some ⟨b, 0, none⟩), Value.agg #[Value.int IntKind.i64 x, Value.int IntKind.i64 y, Value.int IntKind.u32 z], Value.agg #[Value.int IntKind.i64 hx, Value.int IntKind.u32 hy]] [Tab b n A E RL] (fun v K => v = Value.tuple #[Value.agg #[Value.int IntKind.i64 0, Value.int IntKind.i64 0, Value.int IntKind.u32 0], Value.int IntKind.i64 6] ∧ K = [Tab b n A E RL]) := by
 refine hi_in 41 ([(0, pV b), (1, .agg #[iV x, iV y, uV z]), (2, .agg #[iV hx, uV hy])] : Fr) Try.func14 (by kernel_rfl) Try.ntmps14 rfl rfl ?_
 intro g w0 R h0
 refine ySq ?_
 refine yPl [0, 1, 2, 3] ?_
 refine yA ?_
 refine yNp 4 28 [iV x, iV y, uV z] h0 fun r1 w2 h3 => ?_
 refine yA ?_
 refine yNp 5 34 [iV hx, uV hy] h3 fun r4 w5 h6 => ?_
 refine yA ?_
 refine yNp 6 28 [iV 0, iV 0, uV 0] h6 fun r7 w8 h9 => ?_
 refine yB0 [] [3] [(7, iV 0)] (.mk ?_)
 refine yK [(0, pV b), (4, pV r1), (5, pV r4), (6, pV r7)] fun lr10 => ?_
 refine ySq ?_
 refine ySq ?_
 refine yPl [0, 1, 2, 3, 4, 5, 6] ?_
 refine yB0 [1, 2, 3, 4, 5, 6] [0] [(10, pV b)] ?_
 have h11 := tk5 (sf4 (sf3 (sf3 (sf3 (sf4 h9)))))
 refine yA ?_
 refine yCl 11 Try.call36 (tvalid_ht b n A E RL) h11 ?_
 rintro v K w12 (⟨rfl, rfl⟩) h13
 refine ⟨_, rfl, ?_⟩
 have h14 := ap1 h13
 refine yBb [4, 5, 6] [(13, .agg #[iV hx, uV hy]), (12, .bool true)] [e0 2, e2 3 [iV hx, uV hy]] [(3, ⟨r4, 0, none⟩, iV hx), (3, ⟨r4, 1, none⟩, uV hy)] [] trivial (kC (sat_cell h14 2 rfl rfl) (kC (sat_cell h14 2 rfl rfl) nC)) ?_
 refine yA ?_
 refine yCl 14 Try.call38 (obj_t hx hy (by omega)) h14 ?_
 rintro v K w15 (⟨rfl, rfl⟩) h16
 refine ⟨_, rfl, ?_⟩
 have h17 := ap0 h16
 refine yB0 [] [5, 6] [(16, .bool false), (15, .bool false)] (.mk ?_)
 refine yK [(0, pV b), (4, pV r1), (5, pV r4), (6, pV r7), (16, .bool false)] fun lr18 => ?_
 refine yCf ?_
 refine ySk ?_
 refine ySq ?_
 refine yPl [0, 1, 2, 3, 4, 5, 6, 7, 8] ?_
 refine yBb [2, 3, 4, 5, 6, 7, 8] [(20, .agg #[iV x, iV y, uV z]), (19, pV b)] [e0 0, e2 1 [iV x, iV y, uV z]] [(1, ⟨r1, 0, none⟩, iV x), (1, ⟨r1, 1, none⟩, iV y), (1, ⟨r1, 2, none⟩, uV z)] [] trivial (kC (sat_cell h17 3 rfl rfl) (kC (sat_cell h17 3 rfl rfl) (kC (sat_cell h17 3 rfl rfl) nC))) ?_
 refine yA ?_
 refine yCl 21 Try.call44 (tfind_ok b n A E RL x y z e (by omega) (by omega) (by omega) hg_ (by omega)) h17 ?_
 rintro v K w19 (⟨rfl, rfl⟩) h20
 refine ⟨_, rfl, ?_⟩
 have h21 := ap1 h20
 refine yB0 [6, 7, 8] [3, 4, 5] [(23, iV 0), (22, .agg #[iV e.d.1, iV e.d.2.1, uV e.d.2.2, iV e.num, iV e.h.1, uV e.h.2]), (18, .tuple #[.agg #[iV e.d.1, iV e.d.2.1, uV e.d.2.2, iV e.num, iV e.h.1, uV e.h.2], iV 0])] ?_
 refine yA ?_
 refine yNp 8 90 [iV 0, iV 0, uV 0, iV 0, iV 0, uV 0] h21 fun r22 w23 h24 => ?_
 refine yA ?_
 refine yS [(0, iV e.d.1), (1, iV e.d.2.1), (2, uV e.d.2.2), (3, iV e.num), (4, iV e.h.1), (5, uV e.h.2)] [iV e.d.1, iV e.d.2.1, uV e.d.2.2, iV e.num, iV e.h.1, uV e.h.2] h24 fun w25 h26 => ?_
 refine yB0 [] [8] [(9, iV 0)] (.mk ?_)
 refine yK [(0, pV b), (5, pV r4), (6, pV r7), (8, pV r22), (9, iV 0)] fun lr27 => ?_
 refine ySq ?_
 refine yBk 0 ?_
 refine ySq ?_
 refine yPl [0, 1, 2] ?_
 refine yB0 [] [0, 1, 2] [(24, .bool false), (26, .bool false), (25, iV 0)] (.mk ?_)
 refine yK [(0, pV b), (5, pV r4), (6, pV r7), (8, pV r22), (9, iV 0), (24, .bool false)] fun lr28 => ?_
 refine yCf ?_
 refine ySq ?_
 refine yPl [0, 1, 2, 3] ?_
 refine yBb [2, 3] [(31, .agg #[iV hx, uV hy]), (30, pV b)] [e0 0, e2 1 [iV hx, uV hy]] [(1, ⟨r4, 0, none⟩, iV hx), (1, ⟨r4, 1, none⟩, uV hy)] [] trivial (kC (sat_cell h26 3 rfl rfl) (kC (sat_cell h26 3 rfl rfl) nC)) ?_
 have h29 := tk6 (sf5 (sf4 (sf5 (sf5 (sf5 (sf5 h26))))))
 refine yA ?_
 refine yCl 32 Try.call41 (thas_t b n A E RL hx hy hh) h29 ?_
 rintro v K w30 (⟨rfl, rfl⟩) h31
 refine ⟨_, rfl, ?_⟩
 have h32 := ap1 h31
 refine yB0 [] [3] [(29, .bool true)] (.mk ?_)
 refine yK [(0, pV b), (5, pV r4), (6, pV r7), (8, pV r22), (29, .bool true)] fun lr33 => ?_
 refine yCt ?_
 refine ySq ?_
 refine yPl [0, 1, 2] ?_
 refine yB0 [1, 2] [0] [(33, .agg #[iV 0, iV 0, uV 0])] ?_
 have h34 := tk6 (sf5 (sf4 (sf4 (sf5 (sf5 (sf5 h32))))))
 refine yA ?_
 refine yS [(0, iV 0), (1, iV 0), (2, uV 0)] [iV 0, iV 0, uV 0] h34 fun w35 h36 => ?_
 refine yB0 [] [2] [(7, iV 6)] (.mk ?_)
 refine yK [(6, pV r7), (7, iV 6)] fun lr37 => ?_
 refine yRt ?_
 repeat (first | simp only [Exit.inBlock] | simp only [Exit.then])
 have h38 := tk6 (sf5 (sf4 (sf5 (sf5 (sf5 (sf5 h36))))))
 have h39 := tk2 (sf1 (sf5 h38))
 refine hi_out [iV 0, iV 0, uV 0] (.tuple #[.agg #[iV 0, iV 0, uV 0], iV 6]) [(⟨r7, 0, none⟩, iV 0), (⟨r7, 1, none⟩, iV 0), (⟨r7, 2, none⟩, uV 0)] (by kernel_rfl) (allq ⟨sat_cell h36 0 rfl rfl, sat_cell h36 0 rfl rfl, sat_cell h36 0 rfl rfl, trivial⟩) ?_
 exact ⟨.tuple #[.agg #[iV 0, iV 0, uV 0], iV 6], [Tab b n A E RL], rfl, ⟨rfl, rfl⟩, h39⟩

set_option maxHeartbeats 4000000 in
theorem tdup_full (b n : Nat) (A : List Sl2) (E : Tm) (RL : List Rs) (x y z : Int) (hx hy : Int) (hob : 0 ≤ hx ∧ hx ≤ 255 ∧ 1 ≤ hy) (e : Ety) (hz0 : 0 ≤ z) (hz1 : z ≤ 4294967295) (ho : 1 ≤ x ∧ x ≤ 3 ∧ 0 ≤ y ∧ y ≤ 255 ∧ 1 ≤ z) (hg_ : gget E y = some e) (hd_ : e.d.1 = x ∧ e.d.2.1 = y ∧ e.d.2.2 = z) (hh : ∀ e ∈ allE E, e.h ≠ (hx, hy)) (q : Nat) (r : Rs) (hr : RL[q]? = some r) (hv : e.num = (q : Int) + 1) (hf : (inS 0 A 0).length = 0) : HT Try.prog 14 [Value.pointer (some ⟨b, 0, none⟩), Value.agg #[Value.int IntKind.i64 x, Value.int IntKind.i64 y, Value.int IntKind.u32 z], Value.agg #[Value.int IntKind.i64 hx, Value.int IntKind.u32 hy]] [Tab b n A E RL] (fun v K => v = Value.tuple #[Value.agg #[Value.int IntKind.i64 0, Value.int IntKind.i64 0, Value.int IntKind.u32 0], Value.int IntKind.i64 4] ∧ K = [Tab b n A E RL]) := by
 refine hi_in 41 ([(0, pV b), (1, .agg #[iV x, iV y, uV z]), (2, .agg #[iV hx, uV hy])] : Fr) Try.func14 (by kernel_rfl) Try.ntmps14 rfl rfl ?_
 intro g w0 R h0
 refine ySq ?_
 refine yPl [0, 1, 2, 3] ?_
 refine yA ?_
 refine yNp 4 28 [iV x, iV y, uV z] h0 fun r1 w2 h3 => ?_
 refine yA ?_
 refine yNp 5 34 [iV hx, uV hy] h3 fun r4 w5 h6 => ?_
 refine yA ?_
 refine yNp 6 28 [iV 0, iV 0, uV 0] h6 fun r7 w8 h9 => ?_
 refine yB0 [] [3] [(7, iV 0)] (.mk ?_)
 refine yK [(0, pV b), (4, pV r1), (5, pV r4), (6, pV r7)] fun lr10 => ?_
 refine ySq ?_
 refine ySq ?_
 refine yPl [0, 1, 2, 3, 4, 5, 6] ?_
 refine yB0 [1, 2, 3, 4, 5, 6] [0] [(10, pV b)] ?_
 have h11 := tk5 (sf4 (sf3 (sf3 (sf3 (sf4 h9)))))
 refine yA ?_
 refine yCl 11 Try.call36 (tvalid_ht b n A E RL) h11 ?_
 rintro v K w12 (⟨rfl, rfl⟩) h13
 refine ⟨_, rfl, ?_⟩
 have h14 := ap1 h13
 refine yBb [4, 5, 6] [(13, .agg #[iV hx, uV hy]), (12, .bool true)] [e0 2, e2 3 [iV hx, uV hy]] [(3, ⟨r4, 0, none⟩, iV hx), (3, ⟨r4, 1, none⟩, uV hy)] [] trivial (kC (sat_cell h14 2 rfl rfl) (kC (sat_cell h14 2 rfl rfl) nC)) ?_
 refine yA ?_
 refine yCl 14 Try.call38 (obj_t hx hy (by omega)) h14 ?_
 rintro v K w15 (⟨rfl, rfl⟩) h16
 refine ⟨_, rfl, ?_⟩
 have h17 := ap0 h16
 refine yB0 [] [5, 6] [(16, .bool false), (15, .bool false)] (.mk ?_)
 refine yK [(0, pV b), (4, pV r1), (5, pV r4), (6, pV r7), (16, .bool false)] fun lr18 => ?_
 refine yCf ?_
 refine ySk ?_
 refine ySq ?_
 refine yPl [0, 1, 2, 3, 4, 5, 6, 7, 8] ?_
 refine yBb [2, 3, 4, 5, 6, 7, 8] [(20, .agg #[iV x, iV y, uV z]), (19, pV b)] [e0 0, e2 1 [iV x, iV y, uV z]] [(1, ⟨r1, 0, none⟩, iV x), (1, ⟨r1, 1, none⟩, iV y), (1, ⟨r1, 2, none⟩, uV z)] [] trivial (kC (sat_cell h17 3 rfl rfl) (kC (sat_cell h17 3 rfl rfl) (kC (sat_cell h17 3 rfl rfl) nC))) ?_
 refine yA ?_
 refine yCl 21 Try.call44 (tfind_ok b n A E RL x y z e (by omega) (by omega) (by omega) hg_ (by omega)) h17 ?_
 rintro v K w19 (⟨rfl, rfl⟩) h20
 refine ⟨_, rfl, ?_⟩
 have h21 := ap1 h20
 refine yB0 [6, 7, 8] [3, 4, 5] [(23, iV 0), (22, .agg #[iV e.d.1, iV e.d.2.1, uV e.d.2.2, iV e.num, iV e.h.1, uV e.h.2]), (18, .tuple #[.agg #[iV e.d.1, iV e.d.2.1, uV e.d.2.2, iV e.num, iV e.h.1, uV e.h.2], iV 0])] ?_
 refine yA ?_
 refine yNp 8 90 [iV 0, iV 0, uV 0, iV 0, iV 0, uV 0] h21 fun r22 w23 h24 => ?_
 refine yA ?_
 refine yS [(0, iV e.d.1), (1, iV e.d.2.1), (2, uV e.d.2.2), (3, iV e.num), (4, iV e.h.1), (5, uV e.h.2)] [iV e.d.1, iV e.d.2.1, uV e.d.2.2, iV e.num, iV e.h.1, uV e.h.2] h24 fun w25 h26 => ?_
 refine yB0 [] [8] [(9, iV 0)] (.mk ?_)
 refine yK [(0, pV b), (5, pV r4), (6, pV r7), (8, pV r22), (9, iV 0)] fun lr27 => ?_
 refine ySq ?_
 refine yBk 0 ?_
 refine ySq ?_
 refine yPl [0, 1, 2] ?_
 refine yB0 [] [0, 1, 2] [(24, .bool false), (26, .bool false), (25, iV 0)] (.mk ?_)
 refine yK [(0, pV b), (5, pV r4), (6, pV r7), (8, pV r22), (9, iV 0), (24, .bool false)] fun lr28 => ?_
 refine yCf ?_
 refine ySq ?_
 refine yPl [0, 1, 2, 3] ?_
 refine yBb [2, 3] [(31, .agg #[iV hx, uV hy]), (30, pV b)] [e0 0, e2 1 [iV hx, uV hy]] [(1, ⟨r4, 0, none⟩, iV hx), (1, ⟨r4, 1, none⟩, uV hy)] [] trivial (kC (sat_cell h26 3 rfl rfl) (kC (sat_cell h26 3 rfl rfl) nC)) ?_
 have h29 := tk6 (sf5 (sf4 (sf5 (sf5 (sf5 (sf5 h26))))))
 refine yA ?_
 refine yCl 32 Try.call41 (thas_f b n A E RL hx hy hh) h29 ?_
 rintro v K w30 (⟨rfl, rfl⟩) h31
 refine ⟨_, rfl, ?_⟩
 have h32 := ap1 h31
 refine yB0 [] [3] [(29, .bool false)] (.mk ?_)
 refine yK [(0, pV b), (5, pV r4), (6, pV r7), (8, pV r22), (29, .bool false)] fun lr33 => ?_
 refine yCf ?_
 refine ySk ?_
 refine ySq ?_
 refine yPl [0, 1, 2, 3, 4, 5, 6, 7, 8] ?_
 refine yBb [4, 5, 6, 7, 8] [(37, .agg #[iV hx, uV hy]), (36, iV e.num), (35, .pointer (some ⟨r22, 3, none⟩)), (34, pV b)] [e0 0, e0 1, e2 2 [iV e.num], e2 3 [iV hx, uV hy]] [(3, ⟨r4, 0, none⟩, iV hx), (3, ⟨r4, 1, none⟩, uV hy), (2, ⟨r22, 3, none⟩, iV e.num)] [] trivial (kC (sat_cell h32 3 rfl rfl) (kC (sat_cell h32 3 rfl rfl) (kC (sat_cell h32 1 rfl rfl) nC))) ?_
 refine yA ?_
 refine yCl 38 Try.call43 (tadd_full b n A E RL e.num hx hy q r hr (by omega) (by omega)) h32 ?_
 rintro v K w34 (⟨rfl, rfl⟩) h35
 refine ⟨_, rfl, ?_⟩
 have h36 := ap1 h35
 refine yB0 [7, 8] [5, 6] [(40, iV 4), (39, .agg #[iV 0, iV 0, uV 0])] ?_
 have h37 := tk6 (sf5 (sf4 (sf4 (sf5 (sf5 (sf5 h36))))))
 refine yA ?_
 refine yS [(0, iV 0), (1, iV 0), (2, uV 0)] [iV 0, iV 0, uV 0] h37 fun w38 h39 => ?_
 refine yB0 [] [8] [(7, iV 4)] (.mk ?_)
 refine yK [(6, pV r7), (7, iV 4)] fun lr40 => ?_
 refine yRt ?_
 repeat (first | simp only [Exit.inBlock] | simp only [Exit.then])
 have h41 := tk6 (sf5 (sf4 (sf5 (sf5 (sf5 (sf5 h39))))))
 have h42 := tk2 (sf1 (sf5 h41))
 refine hi_out [iV 0, iV 0, uV 0] (.tuple #[.agg #[iV 0, iV 0, uV 0], iV 4]) [(⟨r7, 0, none⟩, iV 0), (⟨r7, 1, none⟩, iV 0), (⟨r7, 2, none⟩, uV 0)] (by kernel_rfl) (allq ⟨sat_cell h39 0 rfl rfl, sat_cell h39 0 rfl rfl, sat_cell h39 0 rfl rfl, trivial⟩) ?_
 exact ⟨.tuple #[.agg #[iV 0, iV 0, uV 0], iV 4], [Tab b n A E RL], rfl, ⟨rfl, rfl⟩, h42⟩

set_option maxHeartbeats 4000000 in
theorem tdup_ok (b n : Nat) (A : List Sl2) (E : Tm) (RL : List Rs) (x y z : Int) (hx hy : Int) (hob : 0 ≤ hx ∧ hx ≤ 255 ∧ 1 ≤ hy) (e : Ety) (hz0 : 0 ≤ z) (hz1 : z ≤ 4294967295) (ho : 1 ≤ x ∧ x ≤ 3 ∧ 0 ≤ y ∧ y ≤ 255 ∧ 1 ≤ z) (hg_ : gget E y = some e) (hd_ : e.d.1 = x ∧ e.d.2.1 = y ∧ e.d.2.2 = z) (hh : ∀ e ∈ allE E, e.h ≠ (hx, hy)) (q : Nat) (r : Rs) (hr : RL[q]? = some r) (hv : e.num = (q : Int) + 1) (j : Nat) (gj : Int) (hj : (inS 0 A 0)[0]? = some (j, gj)) (hfl_ : 1 ≤ (inS 0 A 0).length) : HT Try.prog 14 [Value.pointer (some ⟨b, 0, none⟩), Value.agg #[Value.int IntKind.i64 x, Value.int IntKind.i64 y, Value.int IntKind.u32 z], Value.agg #[Value.int IntKind.i64 hx, Value.int IntKind.u32 hy]] [Tab b n A E RL] (fun v K => v = Value.tuple #[Value.agg #[Value.int IntKind.i64 r.out.1, Value.int IntKind.i64 (((j : Nat) : Int)), Value.int IntKind.u32 gj], Value.int IntKind.i64 0] ∧ K = [Tab b n (A.set j (1, gj)) (gset E (j : Int) ⟨(r.out.1, (j : Int), gj), e.num, (hx, hy)⟩) RL]) := by
 refine hi_in 41 ([(0, pV b), (1, .agg #[iV x, iV y, uV z]), (2, .agg #[iV hx, uV hy])] : Fr) Try.func14 (by kernel_rfl) Try.ntmps14 rfl rfl ?_
 intro g w0 R h0
 refine ySq ?_
 refine yPl [0, 1, 2, 3] ?_
 refine yA ?_
 refine yNp 4 28 [iV x, iV y, uV z] h0 fun r1 w2 h3 => ?_
 refine yA ?_
 refine yNp 5 34 [iV hx, uV hy] h3 fun r4 w5 h6 => ?_
 refine yA ?_
 refine yNp 6 28 [iV 0, iV 0, uV 0] h6 fun r7 w8 h9 => ?_
 refine yB0 [] [3] [(7, iV 0)] (.mk ?_)
 refine yK [(0, pV b), (4, pV r1), (5, pV r4), (6, pV r7)] fun lr10 => ?_
 refine ySq ?_
 refine ySq ?_
 refine yPl [0, 1, 2, 3, 4, 5, 6] ?_
 refine yB0 [1, 2, 3, 4, 5, 6] [0] [(10, pV b)] ?_
 have h11 := tk5 (sf4 (sf3 (sf3 (sf3 (sf4 h9)))))
 refine yA ?_
 refine yCl 11 Try.call36 (tvalid_ht b n A E RL) h11 ?_
 rintro v K w12 (⟨rfl, rfl⟩) h13
 refine ⟨_, rfl, ?_⟩
 have h14 := ap1 h13
 refine yBb [4, 5, 6] [(13, .agg #[iV hx, uV hy]), (12, .bool true)] [e0 2, e2 3 [iV hx, uV hy]] [(3, ⟨r4, 0, none⟩, iV hx), (3, ⟨r4, 1, none⟩, uV hy)] [] trivial (kC (sat_cell h14 2 rfl rfl) (kC (sat_cell h14 2 rfl rfl) nC)) ?_
 refine yA ?_
 refine yCl 14 Try.call38 (obj_t hx hy (by omega)) h14 ?_
 rintro v K w15 (⟨rfl, rfl⟩) h16
 refine ⟨_, rfl, ?_⟩
 have h17 := ap0 h16
 refine yB0 [] [5, 6] [(16, .bool false), (15, .bool false)] (.mk ?_)
 refine yK [(0, pV b), (4, pV r1), (5, pV r4), (6, pV r7), (16, .bool false)] fun lr18 => ?_
 refine yCf ?_
 refine ySk ?_
 refine ySq ?_
 refine yPl [0, 1, 2, 3, 4, 5, 6, 7, 8] ?_
 refine yBb [2, 3, 4, 5, 6, 7, 8] [(20, .agg #[iV x, iV y, uV z]), (19, pV b)] [e0 0, e2 1 [iV x, iV y, uV z]] [(1, ⟨r1, 0, none⟩, iV x), (1, ⟨r1, 1, none⟩, iV y), (1, ⟨r1, 2, none⟩, uV z)] [] trivial (kC (sat_cell h17 3 rfl rfl) (kC (sat_cell h17 3 rfl rfl) (kC (sat_cell h17 3 rfl rfl) nC))) ?_
 refine yA ?_
 refine yCl 21 Try.call44 (tfind_ok b n A E RL x y z e (by omega) (by omega) (by omega) hg_ (by omega)) h17 ?_
 rintro v K w19 (⟨rfl, rfl⟩) h20
 refine ⟨_, rfl, ?_⟩
 have h21 := ap1 h20
 refine yB0 [6, 7, 8] [3, 4, 5] [(23, iV 0), (22, .agg #[iV e.d.1, iV e.d.2.1, uV e.d.2.2, iV e.num, iV e.h.1, uV e.h.2]), (18, .tuple #[.agg #[iV e.d.1, iV e.d.2.1, uV e.d.2.2, iV e.num, iV e.h.1, uV e.h.2], iV 0])] ?_
 refine yA ?_
 refine yNp 8 90 [iV 0, iV 0, uV 0, iV 0, iV 0, uV 0] h21 fun r22 w23 h24 => ?_
 refine yA ?_
 refine yS [(0, iV e.d.1), (1, iV e.d.2.1), (2, uV e.d.2.2), (3, iV e.num), (4, iV e.h.1), (5, uV e.h.2)] [iV e.d.1, iV e.d.2.1, uV e.d.2.2, iV e.num, iV e.h.1, uV e.h.2] h24 fun w25 h26 => ?_
 refine yB0 [] [8] [(9, iV 0)] (.mk ?_)
 refine yK [(0, pV b), (5, pV r4), (6, pV r7), (8, pV r22), (9, iV 0)] fun lr27 => ?_
 refine ySq ?_
 refine yBk 0 ?_
 refine ySq ?_
 refine yPl [0, 1, 2] ?_
 refine yB0 [] [0, 1, 2] [(24, .bool false), (26, .bool false), (25, iV 0)] (.mk ?_)
 refine yK [(0, pV b), (5, pV r4), (6, pV r7), (8, pV r22), (9, iV 0), (24, .bool false)] fun lr28 => ?_
 refine yCf ?_
 refine ySq ?_
 refine yPl [0, 1, 2, 3] ?_
 refine yBb [2, 3] [(31, .agg #[iV hx, uV hy]), (30, pV b)] [e0 0, e2 1 [iV hx, uV hy]] [(1, ⟨r4, 0, none⟩, iV hx), (1, ⟨r4, 1, none⟩, uV hy)] [] trivial (kC (sat_cell h26 3 rfl rfl) (kC (sat_cell h26 3 rfl rfl) nC)) ?_
 have h29 := tk6 (sf5 (sf4 (sf5 (sf5 (sf5 (sf5 h26))))))
 refine yA ?_
 refine yCl 32 Try.call41 (thas_f b n A E RL hx hy hh) h29 ?_
 rintro v K w30 (⟨rfl, rfl⟩) h31
 refine ⟨_, rfl, ?_⟩
 have h32 := ap1 h31
 refine yB0 [] [3] [(29, .bool false)] (.mk ?_)
 refine yK [(0, pV b), (5, pV r4), (6, pV r7), (8, pV r22), (29, .bool false)] fun lr33 => ?_
 refine yCf ?_
 refine ySk ?_
 refine ySq ?_
 refine yPl [0, 1, 2, 3, 4, 5, 6, 7, 8] ?_
 refine yBb [4, 5, 6, 7, 8] [(37, .agg #[iV hx, uV hy]), (36, iV e.num), (35, .pointer (some ⟨r22, 3, none⟩)), (34, pV b)] [e0 0, e0 1, e2 2 [iV e.num], e2 3 [iV hx, uV hy]] [(3, ⟨r4, 0, none⟩, iV hx), (3, ⟨r4, 1, none⟩, uV hy), (2, ⟨r22, 3, none⟩, iV e.num)] [] trivial (kC (sat_cell h32 3 rfl rfl) (kC (sat_cell h32 3 rfl rfl) (kC (sat_cell h32 1 rfl rfl) nC))) ?_
 refine yA ?_
 refine yCl 38 Try.call43 (tadd_ok b n A E RL e.num hx hy q r hr (by omega) j gj hj) h32 ?_
 rintro v K w34 (⟨rfl, rfl⟩) h35
 refine ⟨_, rfl, ?_⟩
 have h36 := ap1 h35
 refine yB0 [7, 8] [5, 6] [(40, iV 0), (39, .agg #[iV r.out.1, iV (j : Int), uV gj])] ?_
 have h37 := tk6 (sf5 (sf4 (sf4 (sf5 (sf5 (sf5 h36))))))
 refine yA ?_
 refine yS [(0, iV r.out.1), (1, iV (j : Int)), (2, uV gj)] [iV r.out.1, iV (j : Int), uV gj] h37 fun w38 h39 => ?_
 refine yB0 [] [8] [(7, iV 0)] (.mk ?_)
 refine yK [(6, pV r7), (7, iV 0)] fun lr40 => ?_
 refine yRt ?_
 repeat (first | simp only [Exit.inBlock] | simp only [Exit.then])
 have h41 := tk6 (sf5 (sf4 (sf5 (sf5 (sf5 (sf5 h39))))))
 have h42 := tk2 (sf1 (sf5 h41))
 refine hi_out [iV r.out.1, iV (j : Int), uV gj] (.tuple #[.agg #[iV r.out.1, iV (j : Int), uV gj], iV 0]) [(⟨r7, 0, none⟩, iV r.out.1), (⟨r7, 1, none⟩, iV (j : Int)), (⟨r7, 2, none⟩, uV gj)] (by kernel_rfl) (allq ⟨sat_cell h39 0 rfl rfl, sat_cell h39 0 rfl rfl, sat_cell h39 0 rfl rfl, trivial⟩) ?_
 exact ⟨.tuple #[.agg #[iV r.out.1, iV (j : Int), uV gj], iV 0], [Tab b n (A.set j (1, gj)) (gset E (j : Int) ⟨(r.out.1, (j : Int), gj), e.num, (hx, hy)⟩) RL], rfl, ⟨rfl, rfl⟩, h42⟩

end Go.Proofs.Ytjjpmehiolejgaa

/- Walks, printed by my generator gen16.py. -/
namespace Go.Proofs.Ytjjpmehiolejgaa
set_option maxHeartbeats 4000000 in
theorem topen_tag (b n : Nat) (A : List Sl2) (E : Tm) (RL : List Rs) (x y z hx hy : Int) (L : List UInt8) (hz0 : 0 ≤ z) (hz1 : z ≤ 4294967295) (hm : L.length ≤ 1099511627776) (ho : 1 ≤ x ∧ x ≤ 3 ∧ 0 ≤ y ∧ y ≤ 63 ∧ 1 ≤ z) (ht : ¬ tagE L = 0) : HT Try.prog 12 [Value.pointer (some ⟨b, 0, none⟩), Value.agg #[Value.int IntKind.i64 x, Value.int IntKind.i64 y, Value.int IntKind.u32 z], Value.string (St L), Value.agg #[Value.int IntKind.i64 hx, Value.int IntKind.u32 hy]] [Tab b n A E RL] (fun v K => v = Value.tuple #[Value.agg #[Value.int IntKind.i64 0, Value.int IntKind.i64 0, Value.int IntKind.u32 0], Value.int IntKind.i64 16] ∧ K = [Tab b n A E RL]) := by
 refine hi_in 80 ([(0, pV b), (1, .agg #[iV x, iV y, uV z]), (2, .string (St L)), (3, .agg #[iV hx, uV hy])] : Fr) Try.func12 (by kernel_rfl) Try.ntmps12 rfl rfl ?_
 intro g w0 R h0
 refine ySq ?_
 refine yPl [0, 1, 2, 3] ?_
 refine yA ?_
 refine yNp 5 32 [iV x, iV y, uV z] h0 fun r1 w2 h3 => ?_
 refine yA ?_
 refine yNp 7 34 [iV hx, uV hy] h3 fun r4 w5 h6 => ?_
 refine yA ?_
 refine yNp 8 28 [iV 0, iV 0, uV 0] h6 fun r7 w8 h9 => ?_
 refine yB0 [] [3] [(9, iV 0)] (.mk ?_)
 refine yK [(0, pV b), (2, .string (St L)), (5, pV r1), (7, pV r4), (8, pV r7)] fun lr10 => ?_
 refine ySq ?_
 refine ySq ?_
 refine yPl [0, 1, 2] ?_
 refine yB0 [1, 2] [0] [(12, pV b)] ?_
 have h11 := tk5 (sf4 (sf3 (sf3 (sf3 (sf4 h9)))))
 refine yA ?_
 refine yCl 13 Try.call36 (tvalid_ht b n A E RL) h11 ?_
 rintro v K w12 (⟨rfl, rfl⟩) h13
 refine ⟨_, rfl, ?_⟩
 have h14 := ap1 h13
 refine yB0 [] [2] [(14, .bool false)] (.mk ?_)
 refine yK [(0, pV b), (2, .string (St L)), (5, pV r1), (7, pV r4), (8, pV r7), (14, .bool false)] fun lr15 => ?_
 refine yCf ?_
 refine ySk ?_
 refine ySq ?_
 refine yPl [0, 1, 2, 3, 4, 5, 6, 7, 8] ?_
 refine yBb [2, 3, 4, 5, 6, 7, 8] [(18, .string (St L)), (17, .agg #[iV x, iV y, uV z])] [e2 0 [iV x, iV y, uV z], e0 1] [(0, ⟨r1, 0, none⟩, iV x), (0, ⟨r1, 1, none⟩, iV y), (0, ⟨r1, 2, none⟩, uV z)] [] trivial (kC (sat_cell h14 3 rfl rfl) (kC (sat_cell h14 3 rfl rfl) (kC (sat_cell h14 3 rfl rfl) nC))) ?_
 refine yA ?_
 refine yCl 19 Try.call37 (rnew_tag x y z L (by omega) (by omega) (by omega) (by omega) (by omega)) h14 ?_
 rintro v K w16 (⟨rfl, rfl⟩) h17
 refine ⟨_, rfl, ?_⟩
 have h18 := ap0 h17
 refine yB0 [6, 7, 8] [3, 4, 5] [(21, iV 16), (20, .agg #[iV 0, iV 0, uV 0, iV 0, iV 0, iV 0, iV 0, .string (St [])]), (16, .tuple #[.agg #[iV 0, iV 0, uV 0, iV 0, iV 0, iV 0, iV 0, .string (St [])], iV 16])] ?_
 refine yA ?_
 refine yNp 10 42 [iV 0, iV 0, uV 0, iV 0, iV 0, iV 0, iV 0, .string (St [])] h18 fun r19 w20 h21 => ?_
 refine yA ?_
 refine yS [(0, iV 0), (1, iV 0), (2, uV 0), (3, iV 0), (4, iV 0), (5, iV 0), (6, iV 0), (7, .string (St []))] [iV 0, iV 0, uV 0, iV 0, iV 0, iV 0, iV 0, .string (St [])] h21 fun w22 h23 => ?_
 refine yB0 [] [8] [(11, iV 16)] (.mk ?_)
 refine yK [(0, pV b), (5, pV r1), (7, pV r4), (8, pV r7), (10, pV r19), (11, iV 16)] fun lr24 => ?_
 refine ySq ?_
 refine ySq ?_
 refine yPl [0, 1] ?_
 refine yB0 [] [0, 1] [(23, .bool true), (22, iV 16)] (.mk ?_)
 refine yK [(0, pV b), (5, pV r1), (7, pV r4), (8, pV r7), (10, pV r19), (11, iV 16), (23, .bool true)] fun lr25 => ?_
 refine yCt ?_
 refine ySq ?_
 refine yPl [0, 1, 2, 3] ?_
 refine yB0 [2, 3] [0, 1] [(25, iV 16), (24, .agg #[iV 0, iV 0, uV 0])] ?_
 have h26 := tk6 (sf5 (sf4 (sf4 (sf5 (sf5 (sf5 h23))))))
 refine yA ?_
 refine yS [(0, iV 0), (1, iV 0), (2, uV 0)] [iV 0, iV 0, uV 0] h26 fun w27 h28 => ?_
 refine yB0 [] [3] [(9, iV 16)] (.mk ?_)
 refine yK [(8, pV r7), (9, iV 16)] fun lr29 => ?_
 refine yRt ?_
 repeat (first | simp only [Exit.inBlock] | simp only [Exit.then])
 have h30 := tk6 (sf5 (sf4 (sf4 (sf5 (sf5 (sf5 h28))))))
 have h31 := tk2 (sf1 (sf5 h30))
 refine hi_out [iV 0, iV 0, uV 0] (.tuple #[.agg #[iV 0, iV 0, uV 0], iV 16]) [(⟨r7, 0, none⟩, iV 0), (⟨r7, 1, none⟩, iV 0), (⟨r7, 2, none⟩, uV 0)] (by kernel_rfl) (allq ⟨sat_cell h28 0 rfl rfl, sat_cell h28 0 rfl rfl, sat_cell h28 0 rfl rfl, trivial⟩) ?_
 exact ⟨.tuple #[.agg #[iV 0, iV 0, uV 0], iV 16], [Tab b n A E RL], rfl, ⟨rfl, rfl⟩, h31⟩

set_option maxHeartbeats 4000000 in
theorem topen_out (b n : Nat) (A : List Sl2) (E : Tm) (RL : List Rs) (x y z hx hy : Int) (L : List UInt8) (hz0 : 0 ≤ z) (hz1 : z ≤ 4294967295) (hm : L.length ≤ 1099511627776) (ho : ¬ (1 ≤ x ∧ x ≤ 3 ∧ 0 ≤ y ∧ y ≤ 63 ∧ 1 ≤ z)) : HT Try.prog 12 [Value.pointer (some ⟨b, 0, none⟩), Value.agg #[Value.int IntKind.i64 x, Value.int IntKind.i64 y, Value.int IntKind.u32 z], Value.string (St L), Value.agg #[Value.int IntKind.i64 hx, Value.int IntKind.u32 hy]] [Tab b n A E RL] (fun v K => v = Value.tuple #[Value.agg #[Value.int IntKind.i64 0, Value.int IntKind.i64 0, Value.int IntKind.u32 0], Value.int IntKind.i64 2] ∧ K = [Tab b n A E RL]) := by
 refine hi_in 80 ([(0, pV b), (1, .agg #[iV x, iV y, uV z]), (2, .string (St L)), (3, .agg #[iV hx, uV hy])] : Fr) Try.func12 (by kernel_rfl) Try.ntmps12 rfl rfl ?_
 intro g w0 R h0
 refine ySq ?_
 refine yPl [0, 1, 2, 3] ?_
 refine yA ?_
 refine yNp 5 32 [iV x, iV y, uV z] h0 fun r1 w2 h3 => ?_
 refine yA ?_
 refine yNp 7 34 [iV hx, uV hy] h3 fun r4 w5 h6 => ?_
 refine yA ?_
 refine yNp 8 28 [iV 0, iV 0, uV 0] h6 fun r7 w8 h9 => ?_
 refine yB0 [] [3] [(9, iV 0)] (.mk ?_)
 refine yK [(0, pV b), (2, .string (St L)), (5, pV r1), (7, pV r4), (8, pV r7)] fun lr10 => ?_
 refine ySq ?_
 refine ySq ?_
 refine yPl [0, 1, 2] ?_
 refine yB0 [1, 2] [0] [(12, pV b)] ?_
 have h11 := tk5 (sf4 (sf3 (sf3 (sf3 (sf4 h9)))))
 refine yA ?_
 refine yCl 13 Try.call36 (tvalid_ht b n A E RL) h11 ?_
 rintro v K w12 (⟨rfl, rfl⟩) h13
 refine ⟨_, rfl, ?_⟩
 have h14 := ap1 h13
 refine yB0 [] [2] [(14, .bool false)] (.mk ?_)
 refine yK [(0, pV b), (2, .string (St L)), (5, pV r1), (7, pV r4), (8, pV r7), (14, .bool false)] fun lr15 => ?_
 refine yCf ?_
 refine ySk ?_
 refine ySq ?_
 refine yPl [0, 1, 2, 3, 4, 5, 6, 7, 8] ?_
 refine yBb [2, 3, 4, 5, 6, 7, 8] [(18, .string (St L)), (17, .agg #[iV x, iV y, uV z])] [e2 0 [iV x, iV y, uV z], e0 1] [(0, ⟨r1, 0, none⟩, iV x), (0, ⟨r1, 1, none⟩, iV y), (0, ⟨r1, 2, none⟩, uV z)] [] trivial (kC (sat_cell h14 3 rfl rfl) (kC (sat_cell h14 3 rfl rfl) (kC (sat_cell h14 3 rfl rfl) nC))) ?_
 refine yA ?_
 refine yCl 19 Try.call37 (rnew_no x y z L (by omega) (by omega) (by omega) (by omega)) h14 ?_
 rintro v K w16 (⟨rfl, rfl⟩) h17
 refine ⟨_, rfl, ?_⟩
 have h18 := ap0 h17
 refine yB0 [6, 7, 8] [3, 4, 5] [(21, iV 2), (20, .agg #[iV 0, iV 0, uV 0, iV 0, iV 0, iV 0, iV 0, .string (St [])]), (16, .tuple #[.agg #[iV 0, iV 0, uV 0, iV 0, iV 0, iV 0, iV 0, .string (St [])], iV 2])] ?_
 refine yA ?_
 refine yNp 10 42 [iV 0, iV 0, uV 0, iV 0, iV 0, iV 0, iV 0, .string (St [])] h18 fun r19 w20 h21 => ?_
 refine yA ?_
 refine yS [(0, iV 0), (1, iV 0), (2, uV 0), (3, iV 0), (4, iV 0), (5, iV 0), (6, iV 0), (7, .string (St []))] [iV 0, iV 0, uV 0, iV 0, iV 0, iV 0, iV 0, .string (St [])] h21 fun w22 h23 => ?_
 refine yB0 [] [8] [(11, iV 2)] (.mk ?_)
 refine yK [(0, pV b), (5, pV r1), (7, pV r4), (8, pV r7), (10, pV r19), (11, iV 2)] fun lr24 => ?_
 refine ySq ?_
 refine ySq ?_
 refine yPl [0, 1] ?_
 refine yB0 [] [0, 1] [(23, .bool true), (22, iV 2)] (.mk ?_)
 refine yK [(0, pV b), (5, pV r1), (7, pV r4), (8, pV r7), (10, pV r19), (11, iV 2), (23, .bool true)] fun lr25 => ?_
 refine yCt ?_
 refine ySq ?_
 refine yPl [0, 1, 2, 3] ?_
 refine yB0 [2, 3] [0, 1] [(25, iV 2), (24, .agg #[iV 0, iV 0, uV 0])] ?_
 have h26 := tk6 (sf5 (sf4 (sf4 (sf5 (sf5 (sf5 h23))))))
 refine yA ?_
 refine yS [(0, iV 0), (1, iV 0), (2, uV 0)] [iV 0, iV 0, uV 0] h26 fun w27 h28 => ?_
 refine yB0 [] [3] [(9, iV 2)] (.mk ?_)
 refine yK [(8, pV r7), (9, iV 2)] fun lr29 => ?_
 refine yRt ?_
 repeat (first | simp only [Exit.inBlock] | simp only [Exit.then])
 have h30 := tk6 (sf5 (sf4 (sf4 (sf5 (sf5 (sf5 h28))))))
 have h31 := tk2 (sf1 (sf5 h30))
 refine hi_out [iV 0, iV 0, uV 0] (.tuple #[.agg #[iV 0, iV 0, uV 0], iV 2]) [(⟨r7, 0, none⟩, iV 0), (⟨r7, 1, none⟩, iV 0), (⟨r7, 2, none⟩, uV 0)] (by kernel_rfl) (allq ⟨sat_cell h28 0 rfl rfl, sat_cell h28 0 rfl rfl, sat_cell h28 0 rfl rfl, trivial⟩) ?_
 exact ⟨.tuple #[.agg #[iV 0, iV 0, uV 0], iV 2], [Tab b n A E RL], rfl, ⟨rfl, rfl⟩, h31⟩

set_option maxHeartbeats 4000000 in
theorem topen_arg (b n : Nat) (A : List Sl2) (E : Tm) (RL : List Rs) (x y z hx hy : Int) (L : List UInt8) (hz0 : 0 ≤ z) (hz1 : z ≤ 4294967295) (hm : L.length ≤ 1099511627776) (ho : 1 ≤ x ∧ x ≤ 3 ∧ 0 ≤ y ∧ y ≤ 63 ∧ 1 ≤ z) (ht : tagE L = 0) (hob : hx < 0 ∨ 255 < hx ∨ hy ≤ 0) : HT Try.prog 12 [Value.pointer (some ⟨b, 0, none⟩), Value.agg #[Value.int IntKind.i64 x, Value.int IntKind.i64 y, Value.int IntKind.u32 z], Value.string (St L), Value.agg #[Value.int IntKind.i64 hx, Value.int IntKind.u32 hy]] [Tab b n A E RL] (fun v K => v = Value.tuple #[Value.agg #[Value.int IntKind.i64 0, Value.int IntKind.i64 0, Value.int IntKind.u32 0], Value.int IntKind.i64 2] ∧ K = [Tab b n A E RL]) := by
 refine hi_in 80 ([(0, pV b), (1, .agg #[iV x, iV y, uV z]), (2, .string (St L)), (3, .agg #[iV hx, uV hy])] : Fr) Try.func12 (by kernel_rfl) Try.ntmps12 rfl rfl ?_
 intro g w0 R h0
 refine ySq ?_
 refine yPl [0, 1, 2, 3] ?_
 refine yA ?_
 refine yNp 5 32 [iV x, iV y, uV z] h0 fun r1 w2 h3 => ?_
 refine yA ?_
 refine yNp 7 34 [iV hx, uV hy] h3 fun r4 w5 h6 => ?_
 refine yA ?_
 refine yNp 8 28 [iV 0, iV 0, uV 0] h6 fun r7 w8 h9 => ?_
 refine yB0 [] [3] [(9, iV 0)] (.mk ?_)
 refine yK [(0, pV b), (2, .string (St L)), (5, pV r1), (7, pV r4), (8, pV r7)] fun lr10 => ?_
 refine ySq ?_
 refine ySq ?_
 refine yPl [0, 1, 2] ?_
 refine yB0 [1, 2] [0] [(12, pV b)] ?_
 have h11 := tk5 (sf4 (sf3 (sf3 (sf3 (sf4 h9)))))
 refine yA ?_
 refine yCl 13 Try.call36 (tvalid_ht b n A E RL) h11 ?_
 rintro v K w12 (⟨rfl, rfl⟩) h13
 refine ⟨_, rfl, ?_⟩
 have h14 := ap1 h13
 refine yB0 [] [2] [(14, .bool false)] (.mk ?_)
 refine yK [(0, pV b), (2, .string (St L)), (5, pV r1), (7, pV r4), (8, pV r7), (14, .bool false)] fun lr15 => ?_
 refine yCf ?_
 refine ySk ?_
 refine ySq ?_
 refine yPl [0, 1, 2, 3, 4, 5, 6, 7, 8] ?_
 refine yBb [2, 3, 4, 5, 6, 7, 8] [(18, .string (St L)), (17, .agg #[iV x, iV y, uV z])] [e2 0 [iV x, iV y, uV z], e0 1] [(0, ⟨r1, 0, none⟩, iV x), (0, ⟨r1, 1, none⟩, iV y), (0, ⟨r1, 2, none⟩, uV z)] [] trivial (kC (sat_cell h14 3 rfl rfl) (kC (sat_cell h14 3 rfl rfl) (kC (sat_cell h14 3 rfl rfl) nC))) ?_
 refine yA ?_
 refine yCl 19 Try.call37 (rnew_ok x y z L (by omega) (by omega) (by omega) (by omega) (by omega)) h14 ?_
 rintro v K w16 (⟨rfl, rfl⟩) h17
 refine ⟨_, rfl, ?_⟩
 have h18 := ap0 h17
 refine yB0 [6, 7, 8] [3, 4, 5] [(21, iV 0), (20, .agg #[iV x, iV y, uV z, iV 1, iV 0, iV 0, iV 0, .string (St L)]), (16, .tuple #[.agg #[iV x, iV y, uV z, iV 1, iV 0, iV 0, iV 0, .string (St L)], iV 0])] ?_
 refine yA ?_
 refine yNp 10 42 [iV 0, iV 0, uV 0, iV 0, iV 0, iV 0, iV 0, .string (St [])] h18 fun r19 w20 h21 => ?_
 refine yA ?_
 refine yS [(0, iV x), (1, iV y), (2, uV z), (3, iV 1), (4, iV 0), (5, iV 0), (6, iV 0), (7, .string (St L))] [iV x, iV y, uV z, iV 1, iV 0, iV 0, iV 0, .string (St L)] h21 fun w22 h23 => ?_
 refine yB0 [] [8] [(11, iV 0)] (.mk ?_)
 refine yK [(0, pV b), (5, pV r1), (7, pV r4), (8, pV r7), (10, pV r19), (11, iV 0)] fun lr24 => ?_
 refine ySq ?_
 refine ySq ?_
 refine yPl [0, 1] ?_
 refine yB0 [] [0, 1] [(23, .bool false), (22, iV 0)] (.mk ?_)
 refine yK [(0, pV b), (5, pV r1), (7, pV r4), (8, pV r7), (10, pV r19), (11, iV 0), (23, .bool false)] fun lr25 => ?_
 refine yCf ?_
 refine ySk ?_
 refine ySq ?_
 refine yBk 0 ?_
 refine ySq ?_
 refine yPl [0, 1, 2, 3] ?_
 refine yBb [1, 2, 3] [(27, .agg #[iV hx, uV hy])] [e2 0 [iV hx, uV hy]] [(0, ⟨r4, 0, none⟩, iV hx), (0, ⟨r4, 1, none⟩, uV hy)] [] trivial (kC (sat_cell h23 3 rfl rfl) (kC (sat_cell h23 3 rfl rfl) nC)) ?_
 by_cases c26 : 0 ≤ hx
 ·
  by_cases c27 : hx ≤ 255
  ·
   refine yA ?_
   refine yCl 28 Try.call38 (obj_f hx hy (by omega)) h23 ?_
   rintro v K w28 (⟨rfl, rfl⟩) h29
   refine ⟨_, rfl, ?_⟩
   have h30 := ap0 h29
   refine yB0 [] [2, 3] [(26, .bool true), (29, .bool true)] (.mk ?_)
   refine yK [(0, pV b), (5, pV r1), (7, pV r4), (8, pV r7), (10, pV r19), (26, .bool true)] fun lr31 => ?_
   refine yCt ?_
   refine ySq ?_
   refine yPl [0, 1, 2] ?_
   refine yB0 [1, 2] [0] [(30, .agg #[iV 0, iV 0, uV 0])] ?_
   have h32 := tk6 (sf5 (sf4 (sf4 (sf5 (sf5 (sf5 h30))))))
   refine yA ?_
   refine yS [(0, iV 0), (1, iV 0), (2, uV 0)] [iV 0, iV 0, uV 0] h32 fun w33 h34 => ?_
   refine yB0 [] [2] [(9, iV 2)] (.mk ?_)
   refine yK [(8, pV r7), (9, iV 2)] fun lr35 => ?_
   refine yRt ?_
   repeat (first | simp only [Exit.inBlock] | simp only [Exit.then])
   have h36 := tk6 (sf5 (sf4 (sf4 (sf5 (sf5 (sf5 h34))))))
   have h37 := tk2 (sf1 (sf5 h36))
   refine hi_out [iV 0, iV 0, uV 0] (.tuple #[.agg #[iV 0, iV 0, uV 0], iV 2]) [(⟨r7, 0, none⟩, iV 0), (⟨r7, 1, none⟩, iV 0), (⟨r7, 2, none⟩, uV 0)] (by kernel_rfl) (allq ⟨sat_cell h34 0 rfl rfl, sat_cell h34 0 rfl rfl, sat_cell h34 0 rfl rfl, trivial⟩) ?_
   exact ⟨.tuple #[.agg #[iV 0, iV 0, uV 0], iV 2], [Tab b n A E RL], rfl, ⟨rfl, rfl⟩, h37⟩
  ·
   refine yA ?_
   refine yCl 28 Try.call38 (obj_f hx hy (by omega)) h23 ?_
   rintro v K w38 (⟨rfl, rfl⟩) h39
   refine ⟨_, rfl, ?_⟩
   have h40 := ap0 h39
   refine yB0 [] [2, 3] [(26, .bool true), (29, .bool true)] (.mk ?_)
   refine yK [(0, pV b), (5, pV r1), (7, pV r4), (8, pV r7), (10, pV r19), (26, .bool true)] fun lr41 => ?_
   refine yCt ?_
   refine ySq ?_
   refine yPl [0, 1, 2] ?_
   refine yB0 [1, 2] [0] [(30, .agg #[iV 0, iV 0, uV 0])] ?_
   have h42 := tk6 (sf5 (sf4 (sf4 (sf5 (sf5 (sf5 h40))))))
   refine yA ?_
   refine yS [(0, iV 0), (1, iV 0), (2, uV 0)] [iV 0, iV 0, uV 0] h42 fun w43 h44 => ?_
   refine yB0 [] [2] [(9, iV 2)] (.mk ?_)
   refine yK [(8, pV r7), (9, iV 2)] fun lr45 => ?_
   refine yRt ?_
   repeat (first | simp only [Exit.inBlock] | simp only [Exit.then])
   have h46 := tk6 (sf5 (sf4 (sf4 (sf5 (sf5 (sf5 h44))))))
   have h47 := tk2 (sf1 (sf5 h46))
   refine hi_out [iV 0, iV 0, uV 0] (.tuple #[.agg #[iV 0, iV 0, uV 0], iV 2]) [(⟨r7, 0, none⟩, iV 0), (⟨r7, 1, none⟩, iV 0), (⟨r7, 2, none⟩, uV 0)] (by kernel_rfl) (allq ⟨sat_cell h44 0 rfl rfl, sat_cell h44 0 rfl rfl, sat_cell h44 0 rfl rfl, trivial⟩) ?_
   exact ⟨.tuple #[.agg #[iV 0, iV 0, uV 0], iV 2], [Tab b n A E RL], rfl, ⟨rfl, rfl⟩, h47⟩
 ·
  refine yA ?_
  refine yCl 28 Try.call38 (obj_f hx hy (by omega)) h23 ?_
  rintro v K w48 (⟨rfl, rfl⟩) h49
  refine ⟨_, rfl, ?_⟩
  have h50 := ap0 h49
  refine yB0 [] [2, 3] [(26, .bool true), (29, .bool true)] (.mk ?_)
  refine yK [(0, pV b), (5, pV r1), (7, pV r4), (8, pV r7), (10, pV r19), (26, .bool true)] fun lr51 => ?_
  refine yCt ?_
  refine ySq ?_
  refine yPl [0, 1, 2] ?_
  refine yB0 [1, 2] [0] [(30, .agg #[iV 0, iV 0, uV 0])] ?_
  have h52 := tk6 (sf5 (sf4 (sf4 (sf5 (sf5 (sf5 h50))))))
  refine yA ?_
  refine yS [(0, iV 0), (1, iV 0), (2, uV 0)] [iV 0, iV 0, uV 0] h52 fun w53 h54 => ?_
  refine yB0 [] [2] [(9, iV 2)] (.mk ?_)
  refine yK [(8, pV r7), (9, iV 2)] fun lr55 => ?_
  refine yRt ?_
  repeat (first | simp only [Exit.inBlock] | simp only [Exit.then])
  have h56 := tk6 (sf5 (sf4 (sf4 (sf5 (sf5 (sf5 h54))))))
  have h57 := tk2 (sf1 (sf5 h56))
  refine hi_out [iV 0, iV 0, uV 0] (.tuple #[.agg #[iV 0, iV 0, uV 0], iV 2]) [(⟨r7, 0, none⟩, iV 0), (⟨r7, 1, none⟩, iV 0), (⟨r7, 2, none⟩, uV 0)] (by kernel_rfl) (allq ⟨sat_cell h54 0 rfl rfl, sat_cell h54 0 rfl rfl, sat_cell h54 0 rfl rfl, trivial⟩) ?_
  exact ⟨.tuple #[.agg #[iV 0, iV 0, uV 0], iV 2], [Tab b n A E RL], rfl, ⟨rfl, rfl⟩, h57⟩

set_option maxHeartbeats 4000000 in
theorem topen_out2 (b n : Nat) (A : List Sl2) (E : Tm) (RL : List Rs) (x y z hx hy : Int) (L : List UInt8) (hz0 : 0 ≤ z) (hz1 : z ≤ 4294967295) (hm : L.length ≤ 1099511627776) (ho : 1 ≤ x ∧ x ≤ 3 ∧ 0 ≤ y ∧ y ≤ 63 ∧ 1 ≤ z) (ht : tagE L = 0) (hob : 0 ≤ hx ∧ hx ≤ 255 ∧ 1 ≤ hy) (hc : ∃ r ∈ RL, r.out = (x, y, z)) : HT Try.prog 12 [Value.pointer (some ⟨b, 0, none⟩), Value.agg #[Value.int IntKind.i64 x, Value.int IntKind.i64 y, Value.int IntKind.u32 z], Value.string (St L), Value.agg #[Value.int IntKind.i64 hx, Value.int IntKind.u32 hy]] [Tab b n A E RL] (fun v K => v = Value.tuple #[Value.agg #[Value.int IntKind.i64 0, Value.int IntKind.i64 0, Value.int IntKind.u32 0], Value.int IntKind.i64 6] ∧ K = [Tab b n A E RL]) := by
 refine hi_in 80 ([(0, pV b), (1, .agg #[iV x, iV y, uV z]), (2, .string (St L)), (3, .agg #[iV hx, uV hy])] : Fr) Try.func12 (by kernel_rfl) Try.ntmps12 rfl rfl ?_
 intro g w0 R h0
 refine ySq ?_
 refine yPl [0, 1, 2, 3] ?_
 refine yA ?_
 refine yNp 5 32 [iV x, iV y, uV z] h0 fun r1 w2 h3 => ?_
 refine yA ?_
 refine yNp 7 34 [iV hx, uV hy] h3 fun r4 w5 h6 => ?_
 refine yA ?_
 refine yNp 8 28 [iV 0, iV 0, uV 0] h6 fun r7 w8 h9 => ?_
 refine yB0 [] [3] [(9, iV 0)] (.mk ?_)
 refine yK [(0, pV b), (2, .string (St L)), (5, pV r1), (7, pV r4), (8, pV r7)] fun lr10 => ?_
 refine ySq ?_
 refine ySq ?_
 refine yPl [0, 1, 2] ?_
 refine yB0 [1, 2] [0] [(12, pV b)] ?_
 have h11 := tk5 (sf4 (sf3 (sf3 (sf3 (sf4 h9)))))
 refine yA ?_
 refine yCl 13 Try.call36 (tvalid_ht b n A E RL) h11 ?_
 rintro v K w12 (⟨rfl, rfl⟩) h13
 refine ⟨_, rfl, ?_⟩
 have h14 := ap1 h13
 refine yB0 [] [2] [(14, .bool false)] (.mk ?_)
 refine yK [(0, pV b), (2, .string (St L)), (5, pV r1), (7, pV r4), (8, pV r7), (14, .bool false)] fun lr15 => ?_
 refine yCf ?_
 refine ySk ?_
 refine ySq ?_
 refine yPl [0, 1, 2, 3, 4, 5, 6, 7, 8] ?_
 refine yBb [2, 3, 4, 5, 6, 7, 8] [(18, .string (St L)), (17, .agg #[iV x, iV y, uV z])] [e2 0 [iV x, iV y, uV z], e0 1] [(0, ⟨r1, 0, none⟩, iV x), (0, ⟨r1, 1, none⟩, iV y), (0, ⟨r1, 2, none⟩, uV z)] [] trivial (kC (sat_cell h14 3 rfl rfl) (kC (sat_cell h14 3 rfl rfl) (kC (sat_cell h14 3 rfl rfl) nC))) ?_
 refine yA ?_
 refine yCl 19 Try.call37 (rnew_ok x y z L (by omega) (by omega) (by omega) (by omega) (by omega)) h14 ?_
 rintro v K w16 (⟨rfl, rfl⟩) h17
 refine ⟨_, rfl, ?_⟩
 have h18 := ap0 h17
 refine yB0 [6, 7, 8] [3, 4, 5] [(21, iV 0), (20, .agg #[iV x, iV y, uV z, iV 1, iV 0, iV 0, iV 0, .string (St L)]), (16, .tuple #[.agg #[iV x, iV y, uV z, iV 1, iV 0, iV 0, iV 0, .string (St L)], iV 0])] ?_
 refine yA ?_
 refine yNp 10 42 [iV 0, iV 0, uV 0, iV 0, iV 0, iV 0, iV 0, .string (St [])] h18 fun r19 w20 h21 => ?_
 refine yA ?_
 refine yS [(0, iV x), (1, iV y), (2, uV z), (3, iV 1), (4, iV 0), (5, iV 0), (6, iV 0), (7, .string (St L))] [iV x, iV y, uV z, iV 1, iV 0, iV 0, iV 0, .string (St L)] h21 fun w22 h23 => ?_
 refine yB0 [] [8] [(11, iV 0)] (.mk ?_)
 refine yK [(0, pV b), (5, pV r1), (7, pV r4), (8, pV r7), (10, pV r19), (11, iV 0)] fun lr24 => ?_
 refine ySq ?_
 refine ySq ?_
 refine yPl [0, 1] ?_
 refine yB0 [] [0, 1] [(23, .bool false), (22, iV 0)] (.mk ?_)
 refine yK [(0, pV b), (5, pV r1), (7, pV r4), (8, pV r7), (10, pV r19), (11, iV 0), (23, .bool false)] fun lr25 => ?_
 refine yCf ?_
 refine ySk ?_
 refine ySq ?_
 refine yBk 0 ?_
 refine ySq ?_
 refine yPl [0, 1, 2, 3] ?_
 refine yBb [1, 2, 3] [(27, .agg #[iV hx, uV hy])] [e2 0 [iV hx, uV hy]] [(0, ⟨r4, 0, none⟩, iV hx), (0, ⟨r4, 1, none⟩, uV hy)] [] trivial (kC (sat_cell h23 3 rfl rfl) (kC (sat_cell h23 3 rfl rfl) nC)) ?_
 refine yA ?_
 refine yCl 28 Try.call38 (obj_t hx hy (by omega)) h23 ?_
 rintro v K w26 (⟨rfl, rfl⟩) h27
 refine ⟨_, rfl, ?_⟩
 have h28 := ap0 h27
 refine yB0 [] [2, 3] [(26, .bool false), (29, .bool false)] (.mk ?_)
 refine yK [(0, pV b), (5, pV r1), (7, pV r4), (8, pV r7), (10, pV r19), (26, .bool false)] fun lr29 => ?_
 refine yCf ?_
 refine ySq ?_
 refine yPl [0, 1, 2, 3, 4, 5, 6, 7, 8, 9, 10, 11] ?_
 have h30 := tk6 (sf5 (sf4 (sf5 (sf5 (sf5 (sf5 h28))))))
 obtain ⟨s31, m32, p33, c34, E35, hM36, h37⟩ := tab_open h30
 have hRl_ := hM36.2
 refine yBb [5, 6, 7, 8, 9, 10, 11] [(36, .func (Fn.func 40) #[] #[pV r1]), (35, .slice p33 RL.length c34), (34, .pointer (some ⟨b, 2, none⟩)), (33, pV b), (32, pV b)] [e0 0, e0 1, e0 2, e2 3 [.slice p33 RL.length c34], e0 4] [(3, ⟨b, 2, none⟩, .slice p33 RL.length c34)] [] trivial (kC (sat_cell h37 0 rfl rfl) nC) ?_
 have h38 := tk9 (sf8 (sf8 (sf6 (sf6 (sf6 (sf7 (sf7 (sf7 (sf8 h37)))))))))
 refine yA ?_
 refine yCl 37 Try.call39 (rhas_t p33 RL.length c34 r1 RL x y z hc (by omega)) h38 ?_
 rintro v K w39 (⟨rfl, rfl⟩) h40
 refine ⟨_, rfl, ?_⟩
 have h41 := ap2 h40
 refine yB0 [9, 10, 11] [6, 7, 8] [(40, undef), (39, undef), (38, .bool true)] ?_
 refine plain_skip (by kernel_rfl : chkN (RA Try.f12 [1, 1, 1, 1, 0, 0, 1, 1, 0]) 80 _ 9 = some (some 41)) rfl ?_
 refine yB0 [] [10, 11] [(31, .bool true), (42, .bool true)] (.mk ?_)
 refine yK [(0, pV b), (7, pV r4), (8, pV r7), (10, pV r19), (31, .bool true)] fun lr42 => ?_
 refine yCt ?_
 refine ySq ?_
 refine yPl [0, 1, 2] ?_
 refine yB0 [1, 2] [0] [(43, .agg #[iV 0, iV 0, uV 0])] ?_
 have h43 := tk9 (sf8 (sf7 (sf7 (sf7 (sf7 (sf7 (sf7 (sf8 (sf8 h41)))))))))
 refine yA ?_
 refine yS [(0, iV 0), (1, iV 0), (2, uV 0)] [iV 0, iV 0, uV 0] h43 fun w44 h45 => ?_
 refine yB0 [] [2] [(9, iV 6)] (.mk ?_)
 refine yK [(8, pV r7), (9, iV 6)] fun lr46 => ?_
 refine yRt ?_
 repeat (first | simp only [Exit.inBlock] | simp only [Exit.then])
 have h47 := tk9 (sf8 (sf8 (sf8 (sf5 (sf4 (sf5 (sf8 (sf8 (sf8 h45)))))))))
 have h48 : sat g w44 [Tab b n A E RL, Cl r7 [iV 0, iV 0, uV 0] 28, Cl r1 [iV x, iV y, uV z] 32, Cl r19 [iV x, iV y, uV z, iV 1, iV 0, iV 0, iV 0, .string (St L)] 42, Cl r4 [iV hx, uV hy] 34, R] := tab_close hM36.1 (by omega) (by first | rfl | omega) h47
 have h49 := tk2 (sf1 (sf5 h48))
 refine hi_out [iV 0, iV 0, uV 0] (.tuple #[.agg #[iV 0, iV 0, uV 0], iV 6]) [(⟨r7, 0, none⟩, iV 0), (⟨r7, 1, none⟩, iV 0), (⟨r7, 2, none⟩, uV 0)] (by kernel_rfl) (allq ⟨sat_cell h45 0 rfl rfl, sat_cell h45 0 rfl rfl, sat_cell h45 0 rfl rfl, trivial⟩) ?_
 exact ⟨.tuple #[.agg #[iV 0, iV 0, uV 0], iV 6], [Tab b n A E RL], rfl, ⟨rfl, rfl⟩, h49⟩

set_option maxHeartbeats 4000000 in
theorem topen_have (b n : Nat) (A : List Sl2) (E : Tm) (RL : List Rs) (x y z hx hy : Int) (L : List UInt8) (hz0 : 0 ≤ z) (hz1 : z ≤ 4294967295) (hm : L.length ≤ 1099511627776) (ho : 1 ≤ x ∧ x ≤ 3 ∧ 0 ≤ y ∧ y ≤ 63 ∧ 1 ≤ z) (ht : tagE L = 0) (hob : 0 ≤ hx ∧ hx ≤ 255 ∧ 1 ≤ hy) (hc : ∀ r ∈ RL, r.out ≠ (x, y, z)) (hh : ∃ e ∈ allE E, e.h = (hx, hy)) : HT Try.prog 12 [Value.pointer (some ⟨b, 0, none⟩), Value.agg #[Value.int IntKind.i64 x, Value.int IntKind.i64 y, Value.int IntKind.u32 z], Value.string (St L), Value.agg #[Value.int IntKind.i64 hx, Value.int IntKind.u32 hy]] [Tab b n A E RL] (fun v K => v = Value.tuple #[Value.agg #[Value.int IntKind.i64 0, Value.int IntKind.i64 0, Value.int IntKind.u32 0], Value.int IntKind.i64 6] ∧ K = [Tab b n A E RL]) := by
 refine hi_in 80 ([(0, pV b), (1, .agg #[iV x, iV y, uV z]), (2, .string (St L)), (3, .agg #[iV hx, uV hy])] : Fr) Try.func12 (by kernel_rfl) Try.ntmps12 rfl rfl ?_
 intro g w0 R h0
 refine ySq ?_
 refine yPl [0, 1, 2, 3] ?_
 refine yA ?_
 refine yNp 5 32 [iV x, iV y, uV z] h0 fun r1 w2 h3 => ?_
 refine yA ?_
 refine yNp 7 34 [iV hx, uV hy] h3 fun r4 w5 h6 => ?_
 refine yA ?_
 refine yNp 8 28 [iV 0, iV 0, uV 0] h6 fun r7 w8 h9 => ?_
 refine yB0 [] [3] [(9, iV 0)] (.mk ?_)
 refine yK [(0, pV b), (2, .string (St L)), (5, pV r1), (7, pV r4), (8, pV r7)] fun lr10 => ?_
 refine ySq ?_
 refine ySq ?_
 refine yPl [0, 1, 2] ?_
 refine yB0 [1, 2] [0] [(12, pV b)] ?_
 have h11 := tk5 (sf4 (sf3 (sf3 (sf3 (sf4 h9)))))
 refine yA ?_
 refine yCl 13 Try.call36 (tvalid_ht b n A E RL) h11 ?_
 rintro v K w12 (⟨rfl, rfl⟩) h13
 refine ⟨_, rfl, ?_⟩
 have h14 := ap1 h13
 refine yB0 [] [2] [(14, .bool false)] (.mk ?_)
 refine yK [(0, pV b), (2, .string (St L)), (5, pV r1), (7, pV r4), (8, pV r7), (14, .bool false)] fun lr15 => ?_
 refine yCf ?_
 refine ySk ?_
 refine ySq ?_
 refine yPl [0, 1, 2, 3, 4, 5, 6, 7, 8] ?_
 refine yBb [2, 3, 4, 5, 6, 7, 8] [(18, .string (St L)), (17, .agg #[iV x, iV y, uV z])] [e2 0 [iV x, iV y, uV z], e0 1] [(0, ⟨r1, 0, none⟩, iV x), (0, ⟨r1, 1, none⟩, iV y), (0, ⟨r1, 2, none⟩, uV z)] [] trivial (kC (sat_cell h14 3 rfl rfl) (kC (sat_cell h14 3 rfl rfl) (kC (sat_cell h14 3 rfl rfl) nC))) ?_
 refine yA ?_
 refine yCl 19 Try.call37 (rnew_ok x y z L (by omega) (by omega) (by omega) (by omega) (by omega)) h14 ?_
 rintro v K w16 (⟨rfl, rfl⟩) h17
 refine ⟨_, rfl, ?_⟩
 have h18 := ap0 h17
 refine yB0 [6, 7, 8] [3, 4, 5] [(21, iV 0), (20, .agg #[iV x, iV y, uV z, iV 1, iV 0, iV 0, iV 0, .string (St L)]), (16, .tuple #[.agg #[iV x, iV y, uV z, iV 1, iV 0, iV 0, iV 0, .string (St L)], iV 0])] ?_
 refine yA ?_
 refine yNp 10 42 [iV 0, iV 0, uV 0, iV 0, iV 0, iV 0, iV 0, .string (St [])] h18 fun r19 w20 h21 => ?_
 refine yA ?_
 refine yS [(0, iV x), (1, iV y), (2, uV z), (3, iV 1), (4, iV 0), (5, iV 0), (6, iV 0), (7, .string (St L))] [iV x, iV y, uV z, iV 1, iV 0, iV 0, iV 0, .string (St L)] h21 fun w22 h23 => ?_
 refine yB0 [] [8] [(11, iV 0)] (.mk ?_)
 refine yK [(0, pV b), (5, pV r1), (7, pV r4), (8, pV r7), (10, pV r19), (11, iV 0)] fun lr24 => ?_
 refine ySq ?_
 refine ySq ?_
 refine yPl [0, 1] ?_
 refine yB0 [] [0, 1] [(23, .bool false), (22, iV 0)] (.mk ?_)
 refine yK [(0, pV b), (5, pV r1), (7, pV r4), (8, pV r7), (10, pV r19), (11, iV 0), (23, .bool false)] fun lr25 => ?_
 refine yCf ?_
 refine ySk ?_
 refine ySq ?_
 refine yBk 0 ?_
 refine ySq ?_
 refine yPl [0, 1, 2, 3] ?_
 refine yBb [1, 2, 3] [(27, .agg #[iV hx, uV hy])] [e2 0 [iV hx, uV hy]] [(0, ⟨r4, 0, none⟩, iV hx), (0, ⟨r4, 1, none⟩, uV hy)] [] trivial (kC (sat_cell h23 3 rfl rfl) (kC (sat_cell h23 3 rfl rfl) nC)) ?_
 refine yA ?_
 refine yCl 28 Try.call38 (obj_t hx hy (by omega)) h23 ?_
 rintro v K w26 (⟨rfl, rfl⟩) h27
 refine ⟨_, rfl, ?_⟩
 have h28 := ap0 h27
 refine yB0 [] [2, 3] [(26, .bool false), (29, .bool false)] (.mk ?_)
 refine yK [(0, pV b), (5, pV r1), (7, pV r4), (8, pV r7), (10, pV r19), (26, .bool false)] fun lr29 => ?_
 refine yCf ?_
 refine ySq ?_
 refine yPl [0, 1, 2, 3, 4, 5, 6, 7, 8, 9, 10, 11] ?_
 have h30 := tk6 (sf5 (sf4 (sf5 (sf5 (sf5 (sf5 h28))))))
 obtain ⟨s31, m32, p33, c34, E35, hM36, h37⟩ := tab_open h30
 have hRl_ := hM36.2
 refine yBb [5, 6, 7, 8, 9, 10, 11] [(36, .func (Fn.func 40) #[] #[pV r1]), (35, .slice p33 RL.length c34), (34, .pointer (some ⟨b, 2, none⟩)), (33, pV b), (32, pV b)] [e0 0, e0 1, e0 2, e2 3 [.slice p33 RL.length c34], e0 4] [(3, ⟨b, 2, none⟩, .slice p33 RL.length c34)] [] trivial (kC (sat_cell h37 0 rfl rfl) nC) ?_
 have h38 := tk9 (sf8 (sf8 (sf6 (sf6 (sf6 (sf7 (sf7 (sf7 (sf8 h37)))))))))
 refine yA ?_
 refine yCl 37 Try.call39 (rhas_f p33 RL.length c34 r1 RL x y z hc (by omega)) h38 ?_
 rintro v K w39 (⟨rfl, rfl⟩) h40
 refine ⟨_, rfl, ?_⟩
 have h41 := ap2 h40
 refine yBb [9, 10, 11] [(40, .agg #[iV hx, uV hy]), (39, pV b), (38, .bool false)] [e0 6, e0 7, e2 8 [iV hx, uV hy]] [(8, ⟨r4, 0, none⟩, iV hx), (8, ⟨r4, 1, none⟩, uV hy)] [] trivial (kC (sat_cell h41 7 rfl rfl) (kC (sat_cell h41 7 rfl rfl) nC)) ?_
 have h42 := tk9 (sf8 (sf8 (sf8 (sf5 (sf5 (sf8 (sf8 (sf8 (sf8 h41)))))))))
 have h43 : sat g w39 [Tab b n A E RL, Cl r1 [iV x, iV y, uV z] 32, Cl r19 [iV x, iV y, uV z, iV 1, iV 0, iV 0, iV 0, .string (St L)] 42, Cl r7 [iV 0, iV 0, uV 0] 28, Cl r4 [iV hx, uV hy] 34, R] := tab_close hM36.1 (by omega) (by first | rfl | omega) h42
 refine yA ?_
 refine yCl 41 Try.call41 (thas_t b n A E RL hx hy hh) h43 ?_
 rintro v K w44 (⟨rfl, rfl⟩) h45
 refine ⟨_, rfl, ?_⟩
 have h46 := ap1 h45
 refine yB0 [] [10, 11] [(31, .bool true), (42, .bool true)] (.mk ?_)
 refine yK [(0, pV b), (7, pV r4), (8, pV r7), (10, pV r19), (31, .bool true)] fun lr47 => ?_
 refine yCt ?_
 refine ySq ?_
 refine yPl [0, 1, 2] ?_
 refine yB0 [1, 2] [0] [(43, .agg #[iV 0, iV 0, uV 0])] ?_
 have h48 := tk6 (sf5 (sf4 (sf4 (sf4 (sf5 (sf5 h46))))))
 refine yA ?_
 refine yS [(0, iV 0), (1, iV 0), (2, uV 0)] [iV 0, iV 0, uV 0] h48 fun w49 h50 => ?_
 refine yB0 [] [2] [(9, iV 6)] (.mk ?_)
 refine yK [(8, pV r7), (9, iV 6)] fun lr51 => ?_
 refine yRt ?_
 repeat (first | simp only [Exit.inBlock] | simp only [Exit.then])
 have h52 := tk6 (sf5 (sf4 (sf5 (sf5 (sf5 (sf5 h50))))))
 have h53 := tk2 (sf1 (sf5 h52))
 refine hi_out [iV 0, iV 0, uV 0] (.tuple #[.agg #[iV 0, iV 0, uV 0], iV 6]) [(⟨r7, 0, none⟩, iV 0), (⟨r7, 1, none⟩, iV 0), (⟨r7, 2, none⟩, uV 0)] (by kernel_rfl) (allq ⟨sat_cell h50 0 rfl rfl, sat_cell h50 0 rfl rfl, sat_cell h50 0 rfl rfl, trivial⟩) ?_
 exact ⟨.tuple #[.agg #[iV 0, iV 0, uV 0], iV 6], [Tab b n A E RL], rfl, ⟨rfl, rfl⟩, h53⟩

set_option maxHeartbeats 4000000 in
theorem topen_full (b n : Nat) (A : List Sl2) (E : Tm) (RL : List Rs) (x y z hx hy : Int) (L : List UInt8) (hz0 : 0 ≤ z) (hz1 : z ≤ 4294967295) (hm : L.length ≤ 1099511627776) (ho : 1 ≤ x ∧ x ≤ 3 ∧ 0 ≤ y ∧ y ≤ 63 ∧ 1 ≤ z) (ht : tagE L = 0) (hob : 0 ≤ hx ∧ hx ≤ 255 ∧ 1 ≤ hy) (hc : ∀ r ∈ RL, r.out ≠ (x, y, z)) (hh : ∀ e ∈ allE E, e.h ≠ (hx, hy)) (hl : RL.length = 2000 ∨ (inS 0 A 0).length = 0) : HT Try.prog 12 [Value.pointer (some ⟨b, 0, none⟩), Value.agg #[Value.int IntKind.i64 x, Value.int IntKind.i64 y, Value.int IntKind.u32 z], Value.string (St L), Value.agg #[Value.int IntKind.i64 hx, Value.int IntKind.u32 hy]] [Tab b n A E RL] (fun v K => v = Value.tuple #[Value.agg #[Value.int IntKind.i64 0, Value.int IntKind.i64 0, Value.int IntKind.u32 0], Value.int IntKind.i64 4] ∧ K = [Tab b n A E RL]) := by
 refine hi_in 80 ([(0, pV b), (1, .agg #[iV x, iV y, uV z]), (2, .string (St L)), (3, .agg #[iV hx, uV hy])] : Fr) Try.func12 (by kernel_rfl) Try.ntmps12 rfl rfl ?_
 intro g w0 R h0
 refine ySq ?_
 refine yPl [0, 1, 2, 3] ?_
 refine yA ?_
 refine yNp 5 32 [iV x, iV y, uV z] h0 fun r1 w2 h3 => ?_
 refine yA ?_
 refine yNp 7 34 [iV hx, uV hy] h3 fun r4 w5 h6 => ?_
 refine yA ?_
 refine yNp 8 28 [iV 0, iV 0, uV 0] h6 fun r7 w8 h9 => ?_
 refine yB0 [] [3] [(9, iV 0)] (.mk ?_)
 refine yK [(0, pV b), (2, .string (St L)), (5, pV r1), (7, pV r4), (8, pV r7)] fun lr10 => ?_
 refine ySq ?_
 refine ySq ?_
 refine yPl [0, 1, 2] ?_
 refine yB0 [1, 2] [0] [(12, pV b)] ?_
 have h11 := tk5 (sf4 (sf3 (sf3 (sf3 (sf4 h9)))))
 refine yA ?_
 refine yCl 13 Try.call36 (tvalid_ht b n A E RL) h11 ?_
 rintro v K w12 (⟨rfl, rfl⟩) h13
 refine ⟨_, rfl, ?_⟩
 have h14 := ap1 h13
 refine yB0 [] [2] [(14, .bool false)] (.mk ?_)
 refine yK [(0, pV b), (2, .string (St L)), (5, pV r1), (7, pV r4), (8, pV r7), (14, .bool false)] fun lr15 => ?_
 refine yCf ?_
 refine ySk ?_
 refine ySq ?_
 refine yPl [0, 1, 2, 3, 4, 5, 6, 7, 8] ?_
 refine yBb [2, 3, 4, 5, 6, 7, 8] [(18, .string (St L)), (17, .agg #[iV x, iV y, uV z])] [e2 0 [iV x, iV y, uV z], e0 1] [(0, ⟨r1, 0, none⟩, iV x), (0, ⟨r1, 1, none⟩, iV y), (0, ⟨r1, 2, none⟩, uV z)] [] trivial (kC (sat_cell h14 3 rfl rfl) (kC (sat_cell h14 3 rfl rfl) (kC (sat_cell h14 3 rfl rfl) nC))) ?_
 refine yA ?_
 refine yCl 19 Try.call37 (rnew_ok x y z L (by omega) (by omega) (by omega) (by omega) (by omega)) h14 ?_
 rintro v K w16 (⟨rfl, rfl⟩) h17
 refine ⟨_, rfl, ?_⟩
 have h18 := ap0 h17
 refine yB0 [6, 7, 8] [3, 4, 5] [(21, iV 0), (20, .agg #[iV x, iV y, uV z, iV 1, iV 0, iV 0, iV 0, .string (St L)]), (16, .tuple #[.agg #[iV x, iV y, uV z, iV 1, iV 0, iV 0, iV 0, .string (St L)], iV 0])] ?_
 refine yA ?_
 refine yNp 10 42 [iV 0, iV 0, uV 0, iV 0, iV 0, iV 0, iV 0, .string (St [])] h18 fun r19 w20 h21 => ?_
 refine yA ?_
 refine yS [(0, iV x), (1, iV y), (2, uV z), (3, iV 1), (4, iV 0), (5, iV 0), (6, iV 0), (7, .string (St L))] [iV x, iV y, uV z, iV 1, iV 0, iV 0, iV 0, .string (St L)] h21 fun w22 h23 => ?_
 refine yB0 [] [8] [(11, iV 0)] (.mk ?_)
 refine yK [(0, pV b), (5, pV r1), (7, pV r4), (8, pV r7), (10, pV r19), (11, iV 0)] fun lr24 => ?_
 refine ySq ?_
 refine ySq ?_
 refine yPl [0, 1] ?_
 refine yB0 [] [0, 1] [(23, .bool false), (22, iV 0)] (.mk ?_)
 refine yK [(0, pV b), (5, pV r1), (7, pV r4), (8, pV r7), (10, pV r19), (11, iV 0), (23, .bool false)] fun lr25 => ?_
 refine yCf ?_
 refine ySk ?_
 refine ySq ?_
 refine yBk 0 ?_
 refine ySq ?_
 refine yPl [0, 1, 2, 3] ?_
 refine yBb [1, 2, 3] [(27, .agg #[iV hx, uV hy])] [e2 0 [iV hx, uV hy]] [(0, ⟨r4, 0, none⟩, iV hx), (0, ⟨r4, 1, none⟩, uV hy)] [] trivial (kC (sat_cell h23 3 rfl rfl) (kC (sat_cell h23 3 rfl rfl) nC)) ?_
 refine yA ?_
 refine yCl 28 Try.call38 (obj_t hx hy (by omega)) h23 ?_
 rintro v K w26 (⟨rfl, rfl⟩) h27
 refine ⟨_, rfl, ?_⟩
 have h28 := ap0 h27
 refine yB0 [] [2, 3] [(26, .bool false), (29, .bool false)] (.mk ?_)
 refine yK [(0, pV b), (5, pV r1), (7, pV r4), (8, pV r7), (10, pV r19), (26, .bool false)] fun lr29 => ?_
 refine yCf ?_
 refine ySq ?_
 refine yPl [0, 1, 2, 3, 4, 5, 6, 7, 8, 9, 10, 11] ?_
 have h30 := tk6 (sf5 (sf4 (sf5 (sf5 (sf5 (sf5 h28))))))
 obtain ⟨s31, m32, p33, c34, E35, hM36, h37⟩ := tab_open h30
 have hRl_ := hM36.2
 refine yBb [5, 6, 7, 8, 9, 10, 11] [(36, .func (Fn.func 40) #[] #[pV r1]), (35, .slice p33 RL.length c34), (34, .pointer (some ⟨b, 2, none⟩)), (33, pV b), (32, pV b)] [e0 0, e0 1, e0 2, e2 3 [.slice p33 RL.length c34], e0 4] [(3, ⟨b, 2, none⟩, .slice p33 RL.length c34)] [] trivial (kC (sat_cell h37 0 rfl rfl) nC) ?_
 have h38 := tk9 (sf8 (sf8 (sf6 (sf6 (sf6 (sf7 (sf7 (sf7 (sf8 h37)))))))))
 refine yA ?_
 refine yCl 37 Try.call39 (rhas_f p33 RL.length c34 r1 RL x y z hc (by omega)) h38 ?_
 rintro v K w39 (⟨rfl, rfl⟩) h40
 refine ⟨_, rfl, ?_⟩
 have h41 := ap2 h40
 refine yBb [9, 10, 11] [(40, .agg #[iV hx, uV hy]), (39, pV b), (38, .bool false)] [e0 6, e0 7, e2 8 [iV hx, uV hy]] [(8, ⟨r4, 0, none⟩, iV hx), (8, ⟨r4, 1, none⟩, uV hy)] [] trivial (kC (sat_cell h41 7 rfl rfl) (kC (sat_cell h41 7 rfl rfl) nC)) ?_
 have h42 := tk9 (sf8 (sf8 (sf8 (sf5 (sf5 (sf8 (sf8 (sf8 (sf8 h41)))))))))
 have h43 : sat g w39 [Tab b n A E RL, Cl r1 [iV x, iV y, uV z] 32, Cl r19 [iV x, iV y, uV z, iV 1, iV 0, iV 0, iV 0, .string (St L)] 42, Cl r7 [iV 0, iV 0, uV 0] 28, Cl r4 [iV hx, uV hy] 34, R] := tab_close hM36.1 (by omega) (by first | rfl | omega) h42
 refine yA ?_
 refine yCl 41 Try.call41 (thas_f b n A E RL hx hy hh) h43 ?_
 rintro v K w44 (⟨rfl, rfl⟩) h45
 refine ⟨_, rfl, ?_⟩
 have h46 := ap1 h45
 refine yB0 [] [10, 11] [(31, .bool false), (42, .bool false)] (.mk ?_)
 refine yK [(0, pV b), (7, pV r4), (8, pV r7), (10, pV r19), (31, .bool false)] fun lr47 => ?_
 refine yCf ?_
 refine ySq ?_
 refine yPl [0, 1, 2, 3, 4, 5, 6, 7, 8, 9, 10, 11, 12, 13, 14] ?_
 obtain ⟨s48, m49, p50, c51, E52, hM53, h54⟩ := tab_open h46
 have hRl_ := hM53.2
 refine yBb [5, 6, 7, 8, 9, 10, 11, 12, 13, 14] [(49, iV (((RL.length : Nat) : Int))), (48, .slice p50 RL.length c51), (47, .pointer (some ⟨b, 2, none⟩)), (46, pV b), (45, pV b)] [e0 0, e0 1, e0 2, e2 3 [.slice p50 RL.length c51], e0 4] [(3, ⟨b, 2, none⟩, .slice p50 RL.length c51)] [] trivial (kC (sat_cell h54 0 rfl rfl) nC) ?_
 by_cases c55 : ((RL.length : Nat) : Int) ≥ 2000
 ·
  refine yBb [11, 12, 13, 14] [(55, undef), (54, undef), (53, undef), (52, undef), (51, .bool true), (50, .bool true)] [e1 5 (.bool true), e0 6, e0 7, e0 8, e0 9, e0 10] [] [(.bool (decide (((RL.length : Nat) : Int) ≥ 2000)), .bool true)] ⟨(ov_t (by omega)), trivial⟩ nC ?_
  refine plain_skip (by kernel_rfl : chkN (RA Try.f12 [1, 1, 1, 1, 0, 0, 1, 1, 1, 1, 0]) 80 _ 11 = some (some 56)) rfl ?_
  refine yB0 [] [12, 13, 14] [(44, .bool true), (58, .bool true), (57, undef)] (.mk ?_)
  refine yK [(0, pV b), (7, pV r4), (8, pV r7), (10, pV r19), (44, .bool true)] fun lr56 => ?_
  refine yCt ?_
  refine ySq ?_
  refine yPl [0, 1, 2] ?_
  refine yB0 [1, 2] [0] [(59, .agg #[iV 0, iV 0, uV 0])] ?_
  have h57 := tk9 (sf8 (sf7 (sf7 (sf7 (sf7 (sf7 (sf7 (sf8 (sf8 h54)))))))))
  refine yA ?_
  refine yS [(0, iV 0), (1, iV 0), (2, uV 0)] [iV 0, iV 0, uV 0] h57 fun w58 h59 => ?_
  refine yB0 [] [2] [(9, iV 4)] (.mk ?_)
  refine yK [(8, pV r7), (9, iV 4)] fun lr60 => ?_
  refine yRt ?_
  repeat (first | simp only [Exit.inBlock] | simp only [Exit.then])
  have h61 := tk9 (sf8 (sf8 (sf8 (sf8 (sf4 (sf8 (sf8 (sf8 (sf8 h59)))))))))
  have h62 : sat g w58 [Tab b n A E RL, Cl r7 [iV 0, iV 0, uV 0] 28, Cl r1 [iV x, iV y, uV z] 32, Cl r19 [iV x, iV y, uV z, iV 1, iV 0, iV 0, iV 0, .string (St L)] 42, Cl r4 [iV hx, uV hy] 34, R] := tab_close hM53.1 (by omega) (by first | rfl | omega) h61
  have h63 := tk2 (sf1 (sf5 h62))
  refine hi_out [iV 0, iV 0, uV 0] (.tuple #[.agg #[iV 0, iV 0, uV 0], iV 4]) [(⟨r7, 0, none⟩, iV 0), (⟨r7, 1, none⟩, iV 0), (⟨r7, 2, none⟩, uV 0)] (by kernel_rfl) (allq ⟨sat_cell h59 0 rfl rfl, sat_cell h59 0 rfl rfl, sat_cell h59 0 rfl rfl, trivial⟩) ?_
  exact ⟨.tuple #[.agg #[iV 0, iV 0, uV 0], iV 4], [Tab b n A E RL], rfl, ⟨rfl, rfl⟩, h63⟩
 ·
  refine yBb [11, 12, 13, 14] [(55, pV s48), (54, pV b), (53, pV b), (52, pV b), (51, .bool false), (50, .bool false)] [e1 5 (.bool false), e0 6, e0 7, e0 8, e0 9, e2 10 [pV s48]] [(10, ⟨b, 0, none⟩, pV s48)] [(.bool (decide (((RL.length : Nat) : Int) ≥ 2000)), .bool false)] ⟨(ov_f (by omega)), trivial⟩ (kC (sat_cell h54 0 rfl rfl) nC) ?_
  have h64 := tk9 (sf8 (sf7 (sf8 (sf8 (sf8 (sf8 (sf8 (sf8 (sf8 h54)))))))))
  refine yA ?_
  refine yCl 56 Try.call42 (sfree_ht s48 n A) h64 ?_
  rintro v K w65 (⟨rfl, rfl⟩) h66
  refine ⟨_, rfl, ?_⟩
  have h67 := ap1 h66
  refine yBb [] [(44, .bool true), (58, .bool true), (57, .bool true)] [e1 12 (.bool true), e0 13, e0 14] [] [(.bool (((((inS 0 A 0).length : Nat) : Int)) == 0), .bool true)] ⟨(ov_et (by omega)), trivial⟩ nC (.mk ?_)
  refine yK [(0, pV b), (7, pV r4), (8, pV r7), (10, pV r19), (44, .bool true)] fun lr68 => ?_
  refine yCt ?_
  refine ySq ?_
  refine yPl [0, 1, 2] ?_
  refine yB0 [1, 2] [0] [(59, .agg #[iV 0, iV 0, uV 0])] ?_
  have h69 := tk9 (sf8 (sf7 (sf7 (sf7 (sf7 (sf7 (sf7 (sf8 (sf8 h67)))))))))
  refine yA ?_
  refine yS [(0, iV 0), (1, iV 0), (2, uV 0)] [iV 0, iV 0, uV 0] h69 fun w70 h71 => ?_
  refine yB0 [] [2] [(9, iV 4)] (.mk ?_)
  refine yK [(8, pV r7), (9, iV 4)] fun lr72 => ?_
  refine yRt ?_
  repeat (first | simp only [Exit.inBlock] | simp only [Exit.then])
  have h73 := tk9 (sf8 (sf7 (sf8 (sf8 (sf4 (sf8 (sf8 (sf8 (sf8 h71)))))))))
  have h74 : sat g w70 [Tab b n A E RL, Cl r7 [iV 0, iV 0, uV 0] 28, Cl r1 [iV x, iV y, uV z] 32, Cl r19 [iV x, iV y, uV z, iV 1, iV 0, iV 0, iV 0, .string (St L)] 42, Cl r4 [iV hx, uV hy] 34, R] := tab_close hM53.1 (by omega) (by first | rfl | omega) h73
  have h75 := tk2 (sf1 (sf5 h74))
  refine hi_out [iV 0, iV 0, uV 0] (.tuple #[.agg #[iV 0, iV 0, uV 0], iV 4]) [(⟨r7, 0, none⟩, iV 0), (⟨r7, 1, none⟩, iV 0), (⟨r7, 2, none⟩, uV 0)] (by kernel_rfl) (allq ⟨sat_cell h71 0 rfl rfl, sat_cell h71 0 rfl rfl, sat_cell h71 0 rfl rfl, trivial⟩) ?_
  exact ⟨.tuple #[.agg #[iV 0, iV 0, uV 0], iV 4], [Tab b n A E RL], rfl, ⟨rfl, rfl⟩, h75⟩

set_option maxHeartbeats 4000000 in
theorem topen_ok (b n : Nat) (A : List Sl2) (E : Tm) (RL : List Rs) (x y z hx hy : Int) (L : List UInt8) (hz0 : 0 ≤ z) (hz1 : z ≤ 4294967295) (hm : L.length ≤ 1099511627776) (ho : 1 ≤ x ∧ x ≤ 3 ∧ 0 ≤ y ∧ y ≤ 63 ∧ 1 ≤ z) (ht : tagE L = 0) (hob : 0 ≤ hx ∧ hx ≤ 255 ∧ 1 ≤ hy) (hc : ∀ r ∈ RL, r.out ≠ (x, y, z)) (hh : ∀ e ∈ allE E, e.h ≠ (hx, hy)) (hl : RL.length < 2000) (j : Nat) (gj : Int) (hj : (inS 0 A 0)[0]? = some (j, gj)) (hfl_ : 1 ≤ (inS 0 A 0).length) : HT Try.prog 12 [Value.pointer (some ⟨b, 0, none⟩), Value.agg #[Value.int IntKind.i64 x, Value.int IntKind.i64 y, Value.int IntKind.u32 z], Value.string (St L), Value.agg #[Value.int IntKind.i64 hx, Value.int IntKind.u32 hy]] [Tab b n A E RL] (fun v K => v = Value.tuple #[Value.agg #[Value.int IntKind.i64 x, Value.int IntKind.i64 (((j : Nat) : Int)), Value.int IntKind.u32 gj], Value.int IntKind.i64 0] ∧ K = [Tab b n (A.set j (1, gj)) (gset E (j : Int) ⟨(x, (j : Int), gj), (RL.length : Int) + 1, (hx, hy)⟩) (RL ++ [(⟨(x, y, z), 1, 0, 0, 0, L⟩ : Rs)])]) := by
 refine hi_in 80 ([(0, pV b), (1, .agg #[iV x, iV y, uV z]), (2, .string (St L)), (3, .agg #[iV hx, uV hy])] : Fr) Try.func12 (by kernel_rfl) Try.ntmps12 rfl rfl ?_
 intro g w0 R h0
 refine ySq ?_
 refine yPl [0, 1, 2, 3] ?_
 refine yA ?_
 refine yNp 5 32 [iV x, iV y, uV z] h0 fun r1 w2 h3 => ?_
 refine yA ?_
 refine yNp 7 34 [iV hx, uV hy] h3 fun r4 w5 h6 => ?_
 refine yA ?_
 refine yNp 8 28 [iV 0, iV 0, uV 0] h6 fun r7 w8 h9 => ?_
 refine yB0 [] [3] [(9, iV 0)] (.mk ?_)
 refine yK [(0, pV b), (2, .string (St L)), (5, pV r1), (7, pV r4), (8, pV r7)] fun lr10 => ?_
 refine ySq ?_
 refine ySq ?_
 refine yPl [0, 1, 2] ?_
 refine yB0 [1, 2] [0] [(12, pV b)] ?_
 have h11 := tk5 (sf4 (sf3 (sf3 (sf3 (sf4 h9)))))
 refine yA ?_
 refine yCl 13 Try.call36 (tvalid_ht b n A E RL) h11 ?_
 rintro v K w12 (⟨rfl, rfl⟩) h13
 refine ⟨_, rfl, ?_⟩
 have h14 := ap1 h13
 refine yB0 [] [2] [(14, .bool false)] (.mk ?_)
 refine yK [(0, pV b), (2, .string (St L)), (5, pV r1), (7, pV r4), (8, pV r7), (14, .bool false)] fun lr15 => ?_
 refine yCf ?_
 refine ySk ?_
 refine ySq ?_
 refine yPl [0, 1, 2, 3, 4, 5, 6, 7, 8] ?_
 refine yBb [2, 3, 4, 5, 6, 7, 8] [(18, .string (St L)), (17, .agg #[iV x, iV y, uV z])] [e2 0 [iV x, iV y, uV z], e0 1] [(0, ⟨r1, 0, none⟩, iV x), (0, ⟨r1, 1, none⟩, iV y), (0, ⟨r1, 2, none⟩, uV z)] [] trivial (kC (sat_cell h14 3 rfl rfl) (kC (sat_cell h14 3 rfl rfl) (kC (sat_cell h14 3 rfl rfl) nC))) ?_
 refine yA ?_
 refine yCl 19 Try.call37 (rnew_ok x y z L (by omega) (by omega) (by omega) (by omega) (by omega)) h14 ?_
 rintro v K w16 (⟨rfl, rfl⟩) h17
 refine ⟨_, rfl, ?_⟩
 have h18 := ap0 h17
 refine yB0 [6, 7, 8] [3, 4, 5] [(21, iV 0), (20, .agg #[iV x, iV y, uV z, iV 1, iV 0, iV 0, iV 0, .string (St L)]), (16, .tuple #[.agg #[iV x, iV y, uV z, iV 1, iV 0, iV 0, iV 0, .string (St L)], iV 0])] ?_
 refine yA ?_
 refine yNp 10 42 [iV 0, iV 0, uV 0, iV 0, iV 0, iV 0, iV 0, .string (St [])] h18 fun r19 w20 h21 => ?_
 refine yA ?_
 refine yS [(0, iV x), (1, iV y), (2, uV z), (3, iV 1), (4, iV 0), (5, iV 0), (6, iV 0), (7, .string (St L))] [iV x, iV y, uV z, iV 1, iV 0, iV 0, iV 0, .string (St L)] h21 fun w22 h23 => ?_
 refine yB0 [] [8] [(11, iV 0)] (.mk ?_)
 refine yK [(0, pV b), (5, pV r1), (7, pV r4), (8, pV r7), (10, pV r19), (11, iV 0)] fun lr24 => ?_
 refine ySq ?_
 refine ySq ?_
 refine yPl [0, 1] ?_
 refine yB0 [] [0, 1] [(23, .bool false), (22, iV 0)] (.mk ?_)
 refine yK [(0, pV b), (5, pV r1), (7, pV r4), (8, pV r7), (10, pV r19), (11, iV 0), (23, .bool false)] fun lr25 => ?_
 refine yCf ?_
 refine ySk ?_
 refine ySq ?_
 refine yBk 0 ?_
 refine ySq ?_
 refine yPl [0, 1, 2, 3] ?_
 refine yBb [1, 2, 3] [(27, .agg #[iV hx, uV hy])] [e2 0 [iV hx, uV hy]] [(0, ⟨r4, 0, none⟩, iV hx), (0, ⟨r4, 1, none⟩, uV hy)] [] trivial (kC (sat_cell h23 3 rfl rfl) (kC (sat_cell h23 3 rfl rfl) nC)) ?_
 refine yA ?_
 refine yCl 28 Try.call38 (obj_t hx hy (by omega)) h23 ?_
 rintro v K w26 (⟨rfl, rfl⟩) h27
 refine ⟨_, rfl, ?_⟩
 have h28 := ap0 h27
 refine yB0 [] [2, 3] [(26, .bool false), (29, .bool false)] (.mk ?_)
 refine yK [(0, pV b), (5, pV r1), (7, pV r4), (8, pV r7), (10, pV r19), (26, .bool false)] fun lr29 => ?_
 refine yCf ?_
 refine ySq ?_
 refine yPl [0, 1, 2, 3, 4, 5, 6, 7, 8, 9, 10, 11] ?_
 have h30 := tk6 (sf5 (sf4 (sf5 (sf5 (sf5 (sf5 h28))))))
 obtain ⟨s31, m32, p33, c34, E35, hM36, h37⟩ := tab_open h30
 have hRl_ := hM36.2
 refine yBb [5, 6, 7, 8, 9, 10, 11] [(36, .func (Fn.func 40) #[] #[pV r1]), (35, .slice p33 RL.length c34), (34, .pointer (some ⟨b, 2, none⟩)), (33, pV b), (32, pV b)] [e0 0, e0 1, e0 2, e2 3 [.slice p33 RL.length c34], e0 4] [(3, ⟨b, 2, none⟩, .slice p33 RL.length c34)] [] trivial (kC (sat_cell h37 0 rfl rfl) nC) ?_
 have h38 := tk9 (sf8 (sf8 (sf6 (sf6 (sf6 (sf7 (sf7 (sf7 (sf8 h37)))))))))
 refine yA ?_
 refine yCl 37 Try.call39 (rhas_f p33 RL.length c34 r1 RL x y z hc (by omega)) h38 ?_
 rintro v K w39 (⟨rfl, rfl⟩) h40
 refine ⟨_, rfl, ?_⟩
 have h41 := ap2 h40
 refine yBb [9, 10, 11] [(40, .agg #[iV hx, uV hy]), (39, pV b), (38, .bool false)] [e0 6, e0 7, e2 8 [iV hx, uV hy]] [(8, ⟨r4, 0, none⟩, iV hx), (8, ⟨r4, 1, none⟩, uV hy)] [] trivial (kC (sat_cell h41 7 rfl rfl) (kC (sat_cell h41 7 rfl rfl) nC)) ?_
 have h42 := tk9 (sf8 (sf8 (sf8 (sf5 (sf5 (sf8 (sf8 (sf8 (sf8 h41)))))))))
 have h43 : sat g w39 [Tab b n A E RL, Cl r1 [iV x, iV y, uV z] 32, Cl r19 [iV x, iV y, uV z, iV 1, iV 0, iV 0, iV 0, .string (St L)] 42, Cl r7 [iV 0, iV 0, uV 0] 28, Cl r4 [iV hx, uV hy] 34, R] := tab_close hM36.1 (by omega) (by first | rfl | omega) h42
 refine yA ?_
 refine yCl 41 Try.call41 (thas_f b n A E RL hx hy hh) h43 ?_
 rintro v K w44 (⟨rfl, rfl⟩) h45
 refine ⟨_, rfl, ?_⟩
 have h46 := ap1 h45
 refine yB0 [] [10, 11] [(31, .bool false), (42, .bool false)] (.mk ?_)
 refine yK [(0, pV b), (7, pV r4), (8, pV r7), (10, pV r19), (31, .bool false)] fun lr47 => ?_
 refine yCf ?_
 refine ySq ?_
 refine yPl [0, 1, 2, 3, 4, 5, 6, 7, 8, 9, 10, 11, 12, 13, 14] ?_
 obtain ⟨s48, m49, p50, c51, E52, hM53, h54⟩ := tab_open h46
 have hRl_ := hM53.2
 refine yBb [11, 12, 13, 14] [(55, pV s48), (54, pV b), (53, pV b), (52, pV b), (51, .bool false), (50, .bool false), (49, iV (((RL.length : Nat) : Int))), (48, .slice p50 RL.length c51), (47, .pointer (some ⟨b, 2, none⟩)), (46, pV b), (45, pV b)] [e0 0, e0 1, e0 2, e2 3 [.slice p50 RL.length c51], e0 4, e1 5 (.bool false), e0 6, e0 7, e0 8, e0 9, e2 10 [pV s48]] [(10, ⟨b, 0, none⟩, pV s48), (3, ⟨b, 2, none⟩, .slice p50 RL.length c51)] [(.bool (decide (((RL.length : Nat) : Int) ≥ 2000)), .bool false)] ⟨(ov_f (by omega)), trivial⟩ (kC (sat_cell h54 0 rfl rfl) (kC (sat_cell h54 0 rfl rfl) nC)) ?_
 have h55 := tk9 (sf8 (sf7 (sf8 (sf8 (sf8 (sf8 (sf8 (sf8 (sf8 h54)))))))))
 refine yA ?_
 refine yCl 56 Try.call42 (sfree_ht s48 n A) h55 ?_
 rintro v K w56 (⟨rfl, rfl⟩) h57
 refine ⟨_, rfl, ?_⟩
 have h58 := ap1 h57
 refine yBb [] [(44, .bool false), (58, .bool false), (57, .bool false)] [e1 12 (.bool false), e0 13, e0 14] [] [(.bool (((((inS 0 A 0).length : Nat) : Int)) == 0), .bool false)] ⟨(ov_ef (by omega)), trivial⟩ nC (.mk ?_)
 refine yK [(0, pV b), (7, pV r4), (8, pV r7), (10, pV r19), (44, .bool false)] fun lr59 => ?_
 refine yCf ?_
 refine ySk ?_
 refine ySq ?_
 refine gi_drw (id := 12) (ops := RA Try.f12 [1, 1, 1, 1, 1, 0]) (Tr.fl 0 (Tr.fl 1 (Tr.fl 2 (Tr.fl 3 (Tr.fl 4 (Tr.fl 5 (Tr.an 6 (Tr.an 7 (Tr.fl 8 (Tr.fl 9 (Tr.an 10 Tr.nil))))))))))) (by kernel_rfl) (by kernel_rfl) (by kernel_rfl) (by kernel_rfl) (by kernel_rfl) (fun _ _ d _ _ h => by cases d <;> exact h) h58 ?_
 intro w60 h61
 refine yD _ [(65, .agg #[iV x, iV y, uV z, iV 1, iV 0, iV 0, iV 0, .string (St L)]), (64, .slice p50 RL.length c51), (63, .pointer (some ⟨b, 2, none⟩)), (62, pV b), (61, pV b), (60, pV b)] [e0 0, e0 1, e0 2, e0 3, e2 4 [.slice p50 RL.length c51], e2 5 [iV x, iV y, uV z, iV 1, iV 0, iV 0, iV 0, .string (St L)]] [(5, ⟨r19, 0, none⟩, iV x), (5, ⟨r19, 1, none⟩, iV y), (5, ⟨r19, 2, none⟩, uV z), (5, ⟨r19, 3, none⟩, iV 1), (5, ⟨r19, 4, none⟩, iV 0), (5, ⟨r19, 5, none⟩, iV 0), (5, ⟨r19, 6, none⟩, iV 0), (5, ⟨r19, 7, none⟩, .string (St L)), (4, ⟨b, 2, none⟩, .slice p50 RL.length c51)] [] trivial (kC (sat_cell h61 5 rfl rfl) (kC (sat_cell h61 5 rfl rfl) (kC (sat_cell h61 5 rfl rfl) (kC (sat_cell h61 5 rfl rfl) (kC (sat_cell h61 5 rfl rfl) (kC (sat_cell h61 5 rfl rfl) (kC (sat_cell h61 5 rfl rfl) (kC (sat_cell h61 5 rfl rfl) (kC (sat_cell h61 1 rfl rfl) nC))))))))) ?_
 refine draw_act (i := 6) [(4, ⟨b, 2, none⟩, .slice p50 RL.length c51)] (by kernel_rfl) (by kernel_rfl) ?_
 refine an_new (d := 66) (fun xb_ => .slice (some ⟨xb_, 0, none⟩) 1 1) (fun xb_ => Obj.cells [iV x, iV y, uV z, iV 1, iV 0, iV 0, iV 0, .string (St L)].toArray 42 (0, 0)) (fun xb_ => by kernel_rfl) (by kernel_rfl) rfl h61 ?_
 intro r62 w63 (h64 : sat g w63 [Cl r62 [iV x, iV y, uV z, iV 1, iV 0, iV 0, iV 0, .string (St L)] 42, Tb s48 n A, Cl b [pV s48, .map (some m49), .slice p50 RL.length c51] 76, Gp kI vE m49 E52, Sl 42 8 p50 RL.length c51 (fl eRs RL), Cl r1 [iV x, iV y, uV z] 32, Cl r19 [iV x, iV y, uV z, iV 1, iV 0, iV 0, iV 0, .string (St L)] 42, Cl r7 [iV 0, iV 0, uV 0] 28, Cl r4 [iV hx, uV hy] 34, R])
 refine ⟨(AllC_cons (sat_cell h64 2 rfl rfl) (AllC_nil _)), ?_⟩
 have h65 := tk10 (sf9 (sf8 (sf8 (sf8 (sf8 (sf9 (sf9 (sf9 (sf9 (sf9 h64))))))))))
 refine draw_act (i := 7) [] (by kernel_rfl) (by kernel_rfl) ?_
 refine an_append (d := 67) (sz := 8) (s := (Operand.tmp 64)) (x := (Operand.tmp 66)) (z := .agg #[iV 0, iV 0, uV 0, iV 0, iV 0, iV 0, iV 0, .string (St [])]) (p := p50) (m := RL.length) (c := c51) (k := 1) (c2 := 1) (a := ⟨r62, 0, none⟩) (by_ := 72) (by kernel_rfl) (by kernel_rfl) rfl Try.underlying74 (by kernel_rfl) rfl (by decide) (by kernel_rfl) (by kernel_rfl) h65 (fl eRs [(⟨(x, y, z), 1, 0, 0, 0, L⟩ : Rs)]) rfl (fun j u hj => by rw [add_off]; exact sat_cell h65 1 rfl (by rw [Nat.zero_add]; exact hj)) (fl_one eRs_ok _) (by omega) (by omega) (RL.length + 1) (by omega) ?_
 intro p66 cap67 w68 h69
 have h70 : sat g w68 [Sl 42 8 p66 (RL.length + 1) cap67 (fl eRs (RL ++ [(⟨(x, y, z), 1, 0, 0, 0, L⟩ : Rs)])), Cl r62 [iV x, iV y, uV z, iV 1, iV 0, iV 0, iV 0, .string (St L)] 42, Tb s48 n A, Cl b [pV s48, .map (some m49), .slice p50 RL.length c51] 76, Gp kI vE m49 E52, Cl r1 [iV x, iV y, uV z] 32, Cl r19 [iV x, iV y, uV z, iV 1, iV 0, iV 0, iV 0, .string (St L)] 42, Cl r7 [iV 0, iV 0, uV 0] 28, Cl r4 [iV hx, uV hy] 34, R] := sat_imp h69 (fun _ hh => by rw [fl_app]; exact hh)
 obtain ⟨hn71, hn72⟩ := sl_le h70
 refine ⟨(AllC_nil _), ?_⟩
 refine yD _ [(69, .pointer (some ⟨b, 2, none⟩)), (68, pV b)] [e0 8, e0 9] [] [] trivial nC ?_
 have h73 := tk10 (sf9 (sf8 (sf8 (sf8 (sf9 (sf9 (sf9 (sf9 (sf9 (sf9 h70))))))))))
 refine draw_act (i := 10) [] (by kernel_rfl) (by kernel_rfl) ?_
 refine yS [(2, .slice p66 (RL.length + 1) cap67)] [pV s48, .map (some m49), .slice p66 (RL.length + 1) cap67] h73 fun w74 h75 => ?_
 refine ⟨(AllC_nil _), ?_⟩
 refine yK [(0, pV b), (7, pV r4), (8, pV r7)] fun lr76 => ?_
 refine ySq ?_
 refine gi_drw (id := 13) (ops := RA Try.f12 [1, 1, 1, 1, 1, 1, 0]) (Tr.fl 0 (Tr.fl 1 (Tr.fl 2 (Tr.fl 3 (Tr.fl 4 (Tr.fl 5 (Tr.fl 6 (Tr.an 7 (Tr.fl 8 (Tr.fl 9 (Tr.an 10 (Tr.fl 11 Tr.nil)))))))))))) (by kernel_rfl) (by kernel_rfl) (by kernel_rfl) (by kernel_rfl) (by kernel_rfl) (fun _ _ d _ _ h => by cases d <;> exact h) h75 ?_
 intro w77 h78
 refine yD _ [(76, .agg #[iV hx, uV hy]), (75, iV (((RL.length : Nat) : Int) + 1)), (74, .slice p66 (RL.length + 1) cap67), (73, .pointer (some ⟨b, 2, none⟩)), (72, pV b), (71, pV b), (70, pV b)] [e0 0, e0 1, e0 2, e0 3, e2 4 [.slice p66 (RL.length + 1) cap67], e1 5 (iV (((RL.length : Nat) : Int) + 1)), e2 6 [iV hx, uV hy]] [(6, ⟨r4, 0, none⟩, iV hx), (6, ⟨r4, 1, none⟩, uV hy), (4, ⟨b, 2, none⟩, .slice p66 (RL.length + 1) cap67)] [(iV ((RL.length + 1 : Nat) : Int), iV (((RL.length : Nat) : Int) + 1))] ⟨(ov_int (by omega)), trivial⟩ (kC (sat_cell h78 8 rfl rfl) (kC (sat_cell h78 8 rfl rfl) (kC (sat_cell h78 0 rfl rfl) nC))) ?_
 have h79 := tk10 (sf9 (sf9 (sf9 (sf7 (sf7 (sf9 (sf9 (sf9 (sf9 (sf9 h78))))))))))
 have h80 : sat g w77 [TabX b n A E (RL ++ [(⟨(x, y, z), 1, 0, 0, 0, L⟩ : Rs)]) p66 (RL.length + 1) cap67, Cl r62 [iV x, iV y, uV z, iV 1, iV 0, iV 0, iV 0, .string (St L)] 42, Cl r1 [iV x, iV y, uV z] 32, Cl r19 [iV x, iV y, uV z, iV 1, iV 0, iV 0, iV 0, .string (St L)] 42, Cl r7 [iV 0, iV 0, uV 0] 28, Cl r4 [iV hx, uV hy] 34, R] := tabx_close hM53.1 (by simp only [List.length_append, List.length_set, List.length_cons, List.length_nil]; omega)  h79
 refine draw_act (i := 7) [(4, ⟨b, 2, none⟩, .slice p66 (RL.length + 1) cap67)] (by kernel_rfl) (by kernel_rfl) ?_
 refine yCl 77 Try.call43 (taddx_ok p66 (RL.length + 1) cap67 b n A E (RL ++ [(⟨(x, y, z), 1, 0, 0, 0, L⟩ : Rs)]) (((RL.length : Nat) : Int) + 1) hx hy RL.length (⟨(x, y, z), 1, 0, 0, 0, L⟩ : Rs) (show (RL ++ [(⟨(x, y, z), 1, 0, 0, 0, L⟩ : Rs)])[RL.length]? = some ((⟨(x, y, z), 1, 0, 0, 0, L⟩ : Rs) : Rs) from List.getElem?_concat_length) (by omega) j gj hj) h80 ?_
 rintro v K w81 (⟨rfl, rfl⟩) h82
 refine ⟨_, rfl, ?_⟩
 have h83 := ap1 h82
 obtain ⟨s84, m85, E88, hM89, h90⟩ := tabx_open h83
 have hRl_ := hM89.2
 have h91 := tk10 (sf9 (sf8 (sf8 (sf8 (sf9 (sf9 (sf9 (sf9 (sf9 (sf9 h90))))))))))
 have hl92 := fl_n eRs_ok (by decide) h91
 have h93 := tk10 (sf9 (sf9 (sf9 (sf6 (sf9 (sf9 (sf9 (sf9 (sf9 (sf9 h91))))))))))
 refine ⟨(AllC_cons (sat_cell h93 0 rfl rfl) (AllC_nil _)), ?_⟩
 refine yD _ [(79, iV 0), (78, .agg #[iV x, iV (j : Int), uV gj])] [e0 8, e0 9] [] [] trivial nC ?_
 have h94 := tk10 (sf9 (sf8 (sf8 (sf8 (sf8 (sf8 (sf8 (sf8 (sf9 (sf9 h93))))))))))
 refine draw_act (i := 10) [] (by kernel_rfl) (by kernel_rfl) ?_
 refine yS [(0, iV x), (1, iV (j : Int)), (2, uV gj)] [iV x, iV (j : Int), uV gj] h94 fun w95 h96 => ?_
 refine ⟨(AllC_nil _), ?_⟩
 refine yD _ [(9, iV 0)] [e0 11] [] [] trivial nC ?_
 refine yK [(8, pV r7), (9, iV 0)] fun lr97 => ?_
 refine yRt ?_
 repeat (first | simp only [Exit.inBlock] | simp only [Exit.then])
 have h98 := tk10 (sf9 (sf9 (sf9 (sf9 (sf5 (sf9 (sf9 (sf9 (sf9 (sf9 h96))))))))))
 have h99 : sat g w95 [Tab b n (A.set j (1, gj)) (gset E (j : Int) ⟨(x, (j : Int), gj), ((RL.length : Nat) : Int) + 1, (hx, hy)⟩) (RL ++ [(⟨(x, y, z), 1, 0, 0, 0, L⟩ : Rs)]), Cl r7 [iV x, iV (j : Int), uV gj] 28, Cl r62 [iV x, iV y, uV z, iV 1, iV 0, iV 0, iV 0, .string (St L)] 42, Cl r1 [iV x, iV y, uV z] 32, Cl r19 [iV x, iV y, uV z, iV 1, iV 0, iV 0, iV 0, .string (St L)] 42, Cl r4 [iV hx, uV hy] 34, R] := tab_close hM89.1 (by simp only [List.length_append, List.length_set, List.length_cons, List.length_nil]; omega) (by simp only [List.length_append, List.length_set, List.length_cons, List.length_nil]) h98
 have h100 := tk2 (sf1 (sf6 h99))
 refine hi_out [iV x, iV (j : Int), uV gj] (.tuple #[.agg #[iV x, iV (j : Int), uV gj], iV 0]) [(⟨r7, 0, none⟩, iV x), (⟨r7, 1, none⟩, iV (j : Int)), (⟨r7, 2, none⟩, uV gj)] (by kernel_rfl) (allq ⟨sat_cell h96 0 rfl rfl, sat_cell h96 0 rfl rfl, sat_cell h96 0 rfl rfl, trivial⟩) ?_
 exact ⟨.tuple #[.agg #[iV x, iV (j : Int), uV gj], iV 0], [Tab b n (A.set j (1, gj)) (gset E (j : Int) ⟨(x, (j : Int), gj), ((RL.length : Nat) : Int) + 1, (hx, hy)⟩) (RL ++ [(⟨(x, y, z), 1, 0, 0, 0, L⟩ : Rs)])], rfl, ⟨rfl, rfl⟩, h100⟩

end Go.Proofs.Ytjjpmehiolejgaa

/- Walks, printed by my generator gen17.py. -/
namespace Go.Proofs.Ytjjpmehiolejgaa
set_option maxHeartbeats 4000000 in
theorem tset_no (b n : Nat) (A : List Sl2) (E : Tm) (RL : List Rs) (vn x y z st why tr nx : Int) (L : List UInt8) (h : vn < 1 ∨ (RL.length : Int) < vn) : HT Try.prog 17 [Value.pointer (some ⟨b, 0, none⟩), Value.int IntKind.i64 vn, Value.agg #[Value.int IntKind.i64 x, Value.int IntKind.i64 y, Value.int IntKind.u32 z, Value.int IntKind.i64 st, Value.int IntKind.i64 why, Value.int IntKind.i64 tr, Value.int IntKind.i64 nx, Value.string (St L)]] [Tab b n A E RL] (fun v K => v = Value.int IntKind.i64 3 ∧ K = [Tab b n A E RL]) := by
 refine hi_in 62 ([(0, pV b), (1, iV vn), (2, .agg #[iV x, iV y, uV z, iV st, iV why, iV tr, iV nx, .string (St L)])] : Fr) Try.func17 (by kernel_rfl) Try.ntmps17 rfl rfl ?_
 intro g w0 R h0
 refine ySq ?_
 refine yPl [0, 1] ?_
 refine yA ?_
 refine yNp 5 42 [iV x, iV y, uV z, iV st, iV why, iV tr, iV nx, .string (St L)] h0 fun r1 w2 h3 => ?_
 refine yB0 [] [1] [(6, iV 0)] (.mk ?_)
 refine yK [(0, pV b), (1, iV vn), (5, pV r1)] fun lr4 => ?_
 refine ySq ?_
 refine yPl [0, 1, 2, 3, 4, 5, 6, 7, 8] ?_
 refine yB0 [2, 3, 4, 5, 6, 7, 8] [0, 1] [(13, iV vn), (12, pV b)] ?_
 have h5 := tk3 (sf2 (sf1 (sf2 h3)))
 refine yA ?_
 refine yCl 14 Try.call20 (tget_no b n A E RL vn (by omega)) h5 ?_
 rintro v K w6 (⟨rfl, rfl⟩) h7
 refine ⟨_, rfl, ?_⟩
 have h8 := ap1 h7
 refine yB0 [6, 7, 8] [3, 4, 5] [(16, iV 3), (15, .agg #[iV 0, iV 0, uV 0, iV 0, iV 0, iV 0, iV 0, .string (St [])]), (11, .tuple #[.agg #[iV 0, iV 0, uV 0, iV 0, iV 0, iV 0, iV 0, .string (St [])], iV 3])] ?_
 refine yA ?_
 refine yNp 7 42 [iV 0, iV 0, uV 0, iV 0, iV 0, iV 0, iV 0, .string (St [])] h8 fun r9 w10 h11 => ?_
 refine yA ?_
 refine yS [(0, iV 0), (1, iV 0), (2, uV 0), (3, iV 0), (4, iV 0), (5, iV 0), (6, iV 0), (7, .string (St []))] [iV 0, iV 0, uV 0, iV 0, iV 0, iV 0, iV 0, .string (St [])] h11 fun w12 h13 => ?_
 refine yB0 [] [8] [(8, iV 3)] (.mk ?_)
 refine yK [(0, pV b), (1, iV vn), (5, pV r1), (7, pV r9), (8, iV 3)] fun lr14 => ?_
 refine ySq ?_
 refine ySq ?_
 refine yPl [0, 1] ?_
 refine yB0 [] [0, 1] [(18, .bool true), (17, iV 3)] (.mk ?_)
 refine yK [(0, pV b), (1, iV vn), (5, pV r1), (7, pV r9), (8, iV 3), (18, .bool true)] fun lr15 => ?_
 refine yCt ?_
 refine ySq ?_
 refine yPl [0, 1] ?_
 refine yB0 [] [0, 1] [(6, iV 3), (19, iV 3)] (.mk ?_)
 refine yK [(6, iV 3)] fun lr16 => ?_
 refine yRt ?_
 repeat (first | simp only [Exit.inBlock] | simp only [Exit.then])
 have h17 := tk4 (sf3 (sf2 (sf3 (sf3 h13))))
 have h18 := tk2 (sf1 (sf3 h17))
 refine hi_out [] (iV 3) [] (by kernel_rfl) (by intro q hq; cases hq) ?_
 exact ⟨iV 3, [Tab b n A E RL], rfl, ⟨rfl, rfl⟩, h18⟩

set_option maxHeartbeats 4000000 in
theorem tset_chk (b n : Nat) (A : List Sl2) (E : Tm) (RL : List Rs) (vn x y z st why tr nx : Int) (L : List UInt8) (hz0 : 0 ≤ z) (hz1 : z ≤ 4294967295) (hm : L.length ≤ 1099511627776) (q : Nat) (r : Rs) (hr : RL[q]? = some r) (hv : vn = (q : Int) + 1) (hne : ¬ resE x y z st why tr nx L = 0) : HT Try.prog 17 [Value.pointer (some ⟨b, 0, none⟩), Value.int IntKind.i64 vn, Value.agg #[Value.int IntKind.i64 x, Value.int IntKind.i64 y, Value.int IntKind.u32 z, Value.int IntKind.i64 st, Value.int IntKind.i64 why, Value.int IntKind.i64 tr, Value.int IntKind.i64 nx, Value.string (St L)]] [Tab b n A E RL] (fun v K => v = Value.int IntKind.i64 ((resE x y z st why tr nx L)) ∧ K = [Tab b n A E RL]) := by
 have hq_ := (List.getElem?_eq_some_iff.1 hr).1
 refine hi_in 62 ([(0, pV b), (1, iV vn), (2, .agg #[iV x, iV y, uV z, iV st, iV why, iV tr, iV nx, .string (St L)])] : Fr) Try.func17 (by kernel_rfl) Try.ntmps17 rfl rfl ?_
 intro g w0 R h0
 refine ySq ?_
 refine yPl [0, 1] ?_
 refine yA ?_
 refine yNp 5 42 [iV x, iV y, uV z, iV st, iV why, iV tr, iV nx, .string (St L)] h0 fun r1 w2 h3 => ?_
 refine yB0 [] [1] [(6, iV 0)] (.mk ?_)
 refine yK [(0, pV b), (1, iV vn), (5, pV r1)] fun lr4 => ?_
 refine ySq ?_
 refine yPl [0, 1, 2, 3, 4, 5, 6, 7, 8] ?_
 refine yB0 [2, 3, 4, 5, 6, 7, 8] [0, 1] [(13, iV vn), (12, pV b)] ?_
 have h5 := tk3 (sf2 (sf1 (sf2 h3)))
 refine yA ?_
 refine yCl 14 Try.call20 (tget_ok b n A E RL vn q r hr (by omega)) h5 ?_
 rintro v K w6 (⟨rfl, rfl⟩) h7
 refine ⟨_, rfl, ?_⟩
 have h8 := ap1 h7
 refine yB0 [6, 7, 8] [3, 4, 5] [(16, iV 0), (15, .agg #[iV r.out.1, iV r.out.2.1, uV r.out.2.2, iV r.st, iV r.why, iV r.tr, iV r.nx, .string (St r.tag)]), (11, .tuple #[.agg #[iV r.out.1, iV r.out.2.1, uV r.out.2.2, iV r.st, iV r.why, iV r.tr, iV r.nx, .string (St r.tag)], iV 0])] ?_
 refine yA ?_
 refine yNp 7 42 [iV 0, iV 0, uV 0, iV 0, iV 0, iV 0, iV 0, .string (St [])] h8 fun r9 w10 h11 => ?_
 refine yA ?_
 refine yS [(0, iV r.out.1), (1, iV r.out.2.1), (2, uV r.out.2.2), (3, iV r.st), (4, iV r.why), (5, iV r.tr), (6, iV r.nx), (7, .string (St r.tag))] [iV r.out.1, iV r.out.2.1, uV r.out.2.2, iV r.st, iV r.why, iV r.tr, iV r.nx, .string (St r.tag)] h11 fun w12 h13 => ?_
 refine yB0 [] [8] [(8, iV 0)] (.mk ?_)
 refine yK [(0, pV b), (1, iV vn), (5, pV r1), (7, pV r9), (8, iV 0)] fun lr14 => ?_
 refine ySq ?_
 refine ySq ?_
 refine yPl [0, 1] ?_
 refine yB0 [] [0, 1] [(18, .bool false), (17, iV 0)] (.mk ?_)
 refine yK [(0, pV b), (1, iV vn), (5, pV r1), (7, pV r9), (8, iV 0), (18, .bool false)] fun lr15 => ?_
 refine yCf ?_
 refine ySk ?_
 refine ySq ?_
 refine ySq ?_
 refine yPl [0, 1, 2] ?_
 refine yBb [1, 2] [(20, .agg #[iV x, iV y, uV z, iV st, iV why, iV tr, iV nx, .string (St L)])] [e2 0 [iV x, iV y, uV z, iV st, iV why, iV tr, iV nx, .string (St L)]] [(0, ⟨r1, 0, none⟩, iV x), (0, ⟨r1, 1, none⟩, iV y), (0, ⟨r1, 2, none⟩, uV z), (0, ⟨r1, 3, none⟩, iV st), (0, ⟨r1, 4, none⟩, iV why), (0, ⟨r1, 5, none⟩, iV tr), (0, ⟨r1, 6, none⟩, iV nx), (0, ⟨r1, 7, none⟩, .string (St L))] [] trivial (kC (sat_cell h13 2 rfl rfl) (kC (sat_cell h13 2 rfl rfl) (kC (sat_cell h13 2 rfl rfl) (kC (sat_cell h13 2 rfl rfl) (kC (sat_cell h13 2 rfl rfl) (kC (sat_cell h13 2 rfl rfl) (kC (sat_cell h13 2 rfl rfl) (kC (sat_cell h13 2 rfl rfl) nC)))))))) ?_
 refine yA ?_
 refine yCl 21 Try.call23 (rchk_ht x y z st why tr nx L (by omega) (by omega) (by omega)) h13 ?_
 rintro v K w16 (⟨rfl, rfl⟩) h17
 refine ⟨_, rfl, ?_⟩
 have h18 := ap0 h17
 refine yB0 [] [2] [(9, iV ((resE x y z st why tr nx L)))] (.mk ?_)
 refine yK [(0, pV b), (1, iV vn), (5, pV r1), (7, pV r9), (9, iV ((resE x y z st why tr nx L)))] fun lr19 => ?_
 refine ySq ?_
 refine yPl [0, 1] ?_
 refine yBb [] [(23, .bool true), (22, iV ((resE x y z st why tr nx L)))] [e0 0, e1 1 (.bool true)] [] [(.bool (((resE x y z st why tr nx L)) != 0), .bool true)] ⟨(ov_nt (by omega)), trivial⟩ nC (.mk ?_)
 refine yK [(0, pV b), (1, iV vn), (5, pV r1), (7, pV r9), (9, iV ((resE x y z st why tr nx L))), (23, .bool true)] fun lr20 => ?_
 refine yCt ?_
 refine ySq ?_
 refine yPl [0, 1] ?_
 refine yB0 [] [0, 1] [(6, iV ((resE x y z st why tr nx L))), (24, iV ((resE x y z st why tr nx L)))] (.mk ?_)
 refine yK [(6, iV ((resE x y z st why tr nx L)))] fun lr21 => ?_
 refine yRt ?_
 repeat (first | simp only [Exit.inBlock] | simp only [Exit.then])
 have h22 := tk4 (sf3 (sf2 (sf3 (sf3 h18))))
 have h23 := tk2 (sf1 (sf3 h22))
 refine hi_out [] (iV ((resE x y z st why tr nx L))) [] (by kernel_rfl) (by intro q hq; cases hq) ?_
 exact ⟨iV ((resE x y z st why tr nx L)), [Tab b n A E RL], rfl, ⟨rfl, rfl⟩, h23⟩

end Go.Proofs.Ytjjpmehiolejgaa

/-
  A table of resources as a whole: what each of its functions answers and leaves, as plain functions. No program in sight.
-/
namespace Go.Proofs.Ytjjpmehiolejgaa
structure Ts where
  A : List Sl2
  E : Tm
  R : List Rs
def goodD (d : Ky) : Prop := 1 ≤ d.1 ∧ d.1 ≤ 3 ∧ 0 ≤ d.2.1 ∧ d.2.1 ≤ 255 ∧ 1 ≤ d.2.2
instance (d : Ky) : Decidable (goodD d) := by unfold goodD; infer_instance
def objH (h : Int × Int) : Prop := 0 ≤ h.1 ∧ h.1 ≤ 255 ∧ 1 ≤ h.2
instance (h : Int × Int) : Decidable (objH h) := by unfold objH; infer_instance
def rs0 : Rs := ⟨(0, 0, 0), 0, 0, 0, 0, []⟩
def resR (r : Rs) : Int := resE r.out.1 r.out.2.1 r.out.2.2 r.st r.why r.tr r.nx r.tag
/-- The entry of a descriptor. -/
def fndO (S : Ts) (d : Ky) : Option Ety := match gget S.E d.2.1 with
  | some e => if e.d = d then some e else none
  | none => none
def fndE (S : Ts) (d : Ky) : Int := if goodD d then (if (fndO S d).isSome then 0 else 7) else 2
def fndX (S : Ts) (d : Ky) : Ety := if fndE S d = 0 then (fndO S d).getD noE else noE
def freeS (A : List Sl2) : Option (Nat × Int) := (inS 0 A 0)[0]?
def hasH (E : Tm) (h : Int × Int) : Prop := ∃ e ∈ allE E, e.h = h
instance (E : Tm) (h : Int × Int) : Decidable (hasH E h) := by unfold hasH; infer_instance
def hasO (R : List Rs) (o : Ky) : Prop := ∃ r ∈ R, r.out = o
instance (R : List Rs) (o : Ky) : Decidable (hasO R o) := by unfold hasO; infer_instance
def addS (S : Ts) (k num : Int) (h : Int × Int) : Ts := match freeS S.A with
  | some (j, g) => ⟨S.A.set j (1, g), gset S.E (j : Int) ⟨(k, (j : Int), g), num, h⟩, S.R⟩
  | none => S
def addD (A : List Sl2) (k : Int) : Ky := match freeS A with
  | some (j, g) => (k, (j : Int), g)
  | none => (0, 0, 0)
/-- Open: the error, what is left, the descriptor. -/
def newE (o : Ky) (L : List UInt8) : Int := resE o.1 o.2.1 o.2.2 1 0 0 0 L
def opnE (S : Ts) (o : Ky) (L : List UInt8) (h : Int × Int) : Int := if newE o L ≠ 0 then newE o L else if ¬ objH h then 2 else if hasO S.R o ∨ hasH S.E h then 6 else if 2000 ≤ S.R.length ∨ freeS S.A = none then 4 else 0
def opnS (S : Ts) (o : Ky) (L : List UInt8) (h : Int × Int) : Ts := if opnE S o L h = 0 then addS ⟨S.A, S.E, S.R ++ [⟨o, 1, 0, 0, 0, L⟩]⟩ o.1 ((S.R.length : Int) + 1) h else S
def opnD (S : Ts) (o : Ky) (L : List UInt8) (h : Int × Int) : Ky := if opnE S o L h = 0 then addD S.A o.1 else (0, 0, 0)
def dupE (S : Ts) (d : Ky) (h : Int × Int) : Int := if ¬ objH h then 2 else if fndE S d ≠ 0 then fndE S d else if hasH S.E h then 6 else if freeS S.A = none then 4 else 0
def dupS (S : Ts) (d : Ky) (h : Int × Int) : Ts := if dupE S d h = 0 then addS S d.1 (fndX S d).num h else S
def dupD (S : Ts) (d : Ky) (h : Int × Int) : Ky := if dupE S d h = 0 then addD S.A d.1 else (0, 0, 0)
def dropS (S : Ts) (d : Ky) : Ts := ⟨giveA S.A d.2.1.toNat d.2.2, gdel S.E d.2.1, S.R⟩
def clsS (S : Ts) (d : Ky) : Ts := if fndE S d = 0 then dropS S d else S
def clsL (S : Ts) (d : Ky) : Bool := decide (fndE S d = 0 ∧ (descs (dropS S d).E (fndX S d).num).length = 0)
def atX (S : Ts) (v : Int) : Ety := (gget S.E v).getD noE
def nE (S : Ts) (v : Int) : Int := if 1 ≤ v ∧ v ≤ (S.R.length : Int) then 0 else 3
def getR (S : Ts) (v : Int) : Rs := if 1 ≤ v then (S.R[(v - 1).toNat]?).getD rs0 else rs0
def expS (S : Ts) (v : Int) : Ts := (descs S.E v).foldl dropS S
def setE (S : Ts) (v : Int) (r : Rs) : Int := if nE S v ≠ 0 then 3 else if resR r ≠ 0 then resR r else if r.out ≠ (getR S v).out ∨ r.tag ≠ (getR S v).tag then 2 else if r.st ≠ 1 ∧ 0 < (descs S.E v).length then 8 else 0
def setS (S : Ts) (v : Int) (r : Rs) : Ts := if setE S v r = 0 then ⟨S.A, S.E, S.R.set (v - 1).toNat r⟩ else S
def numsT (R : List Rs) (st : Int) (k : Nat) : List Int := ((List.range k).filter fun i => (R[i]?).any fun r => r.st == st).map fun i : Nat => (i : Int) + 1
def nums (R : List Rs) (st : Int) : List Int := numsT R st R.length
/-- What is true of every table. -/
structure Wf (n : Nat) (S : Ts) : Prop where
  len : S.A.length = n
  bd : 1 ≤ n ∧ n ≤ 256
  ok : SlOk S.A
  rl : S.R.length ≤ 2000
  nd : KN S.E
  ent : ∀ (k : Int) (e : Ety), gget S.E k = some e → (∃ q : Nat, k = (q : Int) ∧ S.A[q]? = some (1, e.d.2.2)) ∧ e.d.2.1 = k ∧ (∃ (q : Nat) (r : Rs), S.R[q]? = some r ∧ e.num = (q : Int) + 1 ∧ r.out.1 = e.d.1 ∧ r.st = 1) ∧ objH e.h
  tak : ∀ (q : Nat) (g : Int), S.A[q]? = some (1, g) → ∃ e, gget S.E (q : Int) = some e
  res : ∀ r ∈ S.R, resR r = 0
  out : (S.R.map (·.out)).Nodup
  og : ∀ r ∈ S.R, r.out.2.2 ≤ 4294967295
  hnd : ∀ (k1 k2 : Int) (e1 e2 : Ety), gget S.E k1 = some e1 → gget S.E k2 = some e2 → e1.h = e2.h → k1 = k2
theorem fndO_some {S : Ts} {d : Ky} {e : Ety} : fndO S d = some e ↔ gget S.E d.2.1 = some e ∧ e.d = d := by
  unfold fndO
  cases h : gget S.E d.2.1 with
  | none => simp
  | some x =>
    simp only
    split
    · rename_i hx
      constructor
      · intro he
        obtain rfl := Option.some.inj he
        exact ⟨rfl, hx⟩
      · rintro ⟨he, _⟩
        exact he
    · rename_i hx
      constructor
      · intro he; cases he
      · rintro ⟨he, h2⟩
        obtain rfl := Option.some.inj he
        exact absurd h2 hx
theorem fndE_ok {S : Ts} {d : Ky} : fndE S d = 0 ↔ goodD d ∧ ∃ e, gget S.E d.2.1 = some e ∧ e.d = d := by
  unfold fndE
  split
  · rename_i hg
    cases h : fndO S d with
    | none =>
      simp only [Option.isSome_none, Bool.false_eq_true, if_false]
      constructor
      · intro h2; omega
      · rintro ⟨_, e, he⟩
        have := fndO_some.2 he
        rw [h] at this
        cases this
    | some e => simp only [Option.isSome_some, if_true]; exact ⟨fun _ => ⟨hg, e, fndO_some.1 h⟩, fun _ => trivial⟩
  · rename_i hg
    constructor
    · intro h2; omega
    · rintro ⟨h2, _⟩; exact absurd h2 hg
theorem fndX_ok {S : Ts} {d : Ky} {e : Ety} (hg : goodD d) (h1 : gget S.E d.2.1 = some e) (h2 : e.d = d) : fndE S d = 0 ∧ fndX S d = e := by
  have h0 : fndE S d = 0 := fndE_ok.2 ⟨hg, e, h1, h2⟩
  refine ⟨h0, ?_⟩
  unfold fndX
  rw [if_pos h0, fndO_some.2 ⟨h1, h2⟩]
  rfl
theorem fndX_bad {S : Ts} {d : Ky} (hg : ¬ goodD d) : fndE S d = 2 ∧ fndX S d = noE := by
  have h0 : fndE S d = 2 := if_neg hg
  refine ⟨h0, ?_⟩
  unfold fndX
  rw [if_neg (by omega)]
theorem fndX_no {S : Ts} {d : Ky} (hg : goodD d) (h : ∀ e, gget S.E d.2.1 = some e → e.d ≠ d) : fndE S d = 7 ∧ fndX S d = noE := by
  have h0 : fndE S d = 7 := by
    unfold fndE
    rw [if_pos hg]
    cases h2 : fndO S d with
    | none => rfl
    | some e => exact absurd (fndO_some.1 h2).2 (h e (fndO_some.1 h2).1)
  refine ⟨h0, ?_⟩
  unfold fndX
  rw [if_neg (by omega)]
/-- The three cases of a descriptor. -/
theorem fnd_cases (S : Ts) (d : Ky) : (¬ goodD d ∧ fndE S d = 2 ∧ fndX S d = noE) ∨ (goodD d ∧ (∀ e, gget S.E d.2.1 = some e → e.d ≠ d) ∧ fndE S d = 7 ∧ fndX S d = noE) ∨ (goodD d ∧ ∃ e, gget S.E d.2.1 = some e ∧ e.d = d ∧ fndE S d = 0 ∧ fndX S d = e) := by
  by_cases hg : goodD d
  · by_cases h : ∃ e, gget S.E d.2.1 = some e ∧ e.d = d
    · obtain ⟨e, h1, h2⟩ := h
      exact .inr (.inr ⟨hg, e, h1, h2, fndX_ok hg h1 h2⟩)
    · have h' : ∀ e, gget S.E d.2.1 = some e → e.d ≠ d := fun e h1 h2 => h ⟨e, h1, h2⟩
      exact .inr (.inl ⟨hg, h', fndX_no hg h'⟩)
  · exact .inl ⟨hg, fndX_bad hg⟩
theorem mem_allE {E : Tm} {e : Ety} : e ∈ allE E ↔ ∃ k : Nat, k < 256 ∧ gget E (k : Int) = some e := by
  unfold allE someE
  rw [List.mem_filterMap]
  constructor
  · rintro ⟨k, hk, he⟩; exact ⟨k, List.mem_range.1 hk, he⟩
  · rintro ⟨k, hk, he⟩; exact ⟨k, List.mem_range.2 hk, he⟩
theorem freeS_some {A : List Sl2} {j : Nat} {g : Int} (h : freeS A = some (j, g)) : A[j]? = some (0, g) := by
  have := (inS_mem h).2
  simpa using this
theorem freeS_none {A : List Sl2} : freeS A = none ↔ (inS 0 A 0).length = 0 := by
  unfold freeS
  rw [List.getElem?_eq_none_iff]
  omega
theorem giveA_get {A : List Sl2} {q : Nat} {z : Int} {j : Nat} (h : j ≠ q) : (giveA A q z)[j]? = A[j]? := by
  unfold giveA
  split
  · rw [List.getElem?_set_ne (Ne.symm h)]
  · rw [List.getElem?_set_ne (Ne.symm h)]
theorem giveA_self {A : List Sl2} {q : Nat} {z : Int} (h : q < A.length) : (giveA A q z)[q]? = some (if z < 4294967295 then (0, z + 1) else (2, z)) := by
  unfold giveA
  split
  · rw [List.getElem?_set_self h]
  · rw [List.getElem?_set_self h]
theorem giveA_len (A : List Sl2) (q : Nat) (z : Int) : (giveA A q z).length = A.length := by unfold giveA; split <;> rw [List.length_set]
theorem wf_slot {n : Nat} {S : Ts} (W : Wf n S) {k : Int} {e : Ety} (h : gget S.E k = some e) : ∃ q : Nat, k = (q : Int) ∧ q < n ∧ S.A[q]? = some (1, e.d.2.2) := by
  obtain ⟨⟨q, h1, h2⟩, _⟩ := W.ent k e h
  exact ⟨q, h1, by have := (List.getElem?_eq_some_iff.1 h2).1; rw [W.len] at this; exact this, h2⟩
theorem wf_all {n : Nat} {S : Ts} (W : Wf n S) {k : Int} {e : Ety} (h : gget S.E k = some e) : e ∈ allE S.E := by
  obtain ⟨q, h1, h2, _⟩ := wf_slot W h
  exact mem_allE.2 ⟨q, by have := W.bd.2; omega, by rw [← h1]; exact h⟩
theorem wf_good {n : Nat} {S : Ts} (W : Wf n S) {k : Int} {e : Ety} (h : gget S.E k = some e) : goodD e.d := by
  obtain ⟨⟨q, h1, h2⟩, h3, ⟨p, r, hp, _, hk, _⟩, _⟩ := W.ent k e h
  obtain ⟨q', h1', h2', _⟩ := wf_slot W h
  have hr := W.res r (List.mem_of_getElem? hp)
  have hs := W.ok _ (List.mem_of_getElem? h2)
  have hb := W.bd.2
  unfold resR resE at hr
  split at hr
  · rename_i hpos
    have hx := hpos.1
    unfold goodD
    simp only at hs
    omega
  · omega
theorem wf_add {n : Nat} {S : Ts} (W : Wf n S) {k num : Int} {h : Int × Int} {q : Nat} {r : Rs} (hr : S.R[q]? = some r) (hn : num = (q : Int) + 1) (hk : r.out.1 = k) (hst : r.st = 1) (ho : objH h) (hh : ¬ hasH S.E h) : Wf n (addS S k num h) := by
  unfold addS
  cases hf : freeS S.A with
  | none => exact W
  | some p =>
    obtain ⟨j, g⟩ := p
    have hj := freeS_some hf
    have hjl := (List.getElem?_eq_some_iff.1 hj).1
    have hno : gget S.E (j : Int) = none := by
      cases hg : gget S.E (j : Int) with
      | none => rfl
      | some e =>
        obtain ⟨q2, h1, _, h2⟩ := wf_slot W hg
        obtain rfl : j = q2 := by omega
        rw [hj] at h2
        simp at h2
    refine ⟨by simp only [List.length_set]; exact W.len, W.bd, slOk_set W.ok (by have := W.ok _ (List.mem_of_getElem? hj); simp only at this ⊢; omega), W.rl, kn_set W.nd, ?_, ?_, W.res, W.out, W.og, ?_⟩
    · intro k2 e2 he
      simp only at he
      rw [gget_set] at he
      split at he
      · rename_i hk2
        obtain rfl := Option.some.inj he
        refine ⟨⟨j, hk2, List.getElem?_set_self hjl⟩, hk2.symm, ⟨q, r, hr, hn, hk, hst⟩, ho⟩
      · rename_i hk2
        obtain ⟨⟨q2, h1, h2⟩, h3, h4, h5⟩ := W.ent k2 e2 he
        refine ⟨⟨q2, h1, ?_⟩, h3, h4, h5⟩
        simp only
        rw [List.getElem?_set_ne (by rintro rfl; exact hk2 h1)]
        exact h2
    · intro q2 g2 hq
      simp only at hq ⊢
      rw [gget_set]
      split
      · exact ⟨_, rfl⟩
      · rename_i hq2
        rw [List.getElem?_set_ne (by rintro rfl; exact hq2 rfl)] at hq
        exact W.tak q2 g2 hq
    · intro k1 k2 e1 e2 h1 h2 he
      simp only at h1 h2
      rw [gget_set] at h1 h2
      split at h1
      · rename_i hk1
        split at h2
        · rename_i hk2; rw [hk1, hk2]
        · obtain rfl := Option.some.inj h1
          exact absurd ⟨e2, wf_all W h2, he.symm⟩ hh
      · split at h2
        · obtain rfl := Option.some.inj h2
          exact absurd ⟨e1, wf_all W h1, he⟩ hh
        · exact W.hnd k1 k2 e1 e2 h1 h2 he
theorem newE_ok {o : Ky} {L : List UInt8} (h : newE o L = 0) : (1 ≤ o.1 ∧ o.1 ≤ 3 ∧ 0 ≤ o.2.1 ∧ o.2.1 ≤ 63 ∧ 1 ≤ o.2.2) ∧ tagE L = 0 := by
  unfold newE resE at h
  split at h
  · rename_i hp; exact ⟨hp.1, h⟩
  · omega
theorem newE_cases (o : Ky) (L : List UInt8) : (¬ (1 ≤ o.1 ∧ o.1 ≤ 3 ∧ 0 ≤ o.2.1 ∧ o.2.1 ≤ 63 ∧ 1 ≤ o.2.2) ∧ newE o L = 2) ∨ ((1 ≤ o.1 ∧ o.1 ≤ 3 ∧ 0 ≤ o.2.1 ∧ o.2.1 ≤ 63 ∧ 1 ≤ o.2.2) ∧ newE o L = tagE L) := by
  unfold newE resE posP
  by_cases h : 1 ≤ o.1 ∧ o.1 ≤ 3 ∧ 0 ≤ o.2.1 ∧ o.2.1 ≤ 63 ∧ 1 ≤ o.2.2
  · exact .inr ⟨h, if_pos ⟨h, .inl ⟨rfl, rfl, rfl, rfl⟩⟩⟩
  · exact .inl ⟨h, if_neg fun h2 => h h2.1⟩
theorem opnE_ok {S : Ts} {o : Ky} {L : List UInt8} {h : Int × Int} (h0 : opnE S o L h = 0) : newE o L = 0 ∧ objH h ∧ ¬ hasO S.R o ∧ ¬ hasH S.E h ∧ S.R.length < 2000 ∧ ∃ j g, freeS S.A = some (j, g) := by
  unfold opnE at h0
  by_cases h1 : newE o L = 0
  · rw [if_neg (by omega)] at h0
    by_cases h2 : objH h
    · rw [if_neg (by simpa using h2)] at h0
      split at h0
      · omega
      · rename_i h3
        split at h0
        · omega
        · rename_i h4
          refine ⟨h1, h2, fun hh => h3 (.inl hh), fun hh => h3 (.inr hh), by omega, ?_⟩
          cases hf : freeS S.A with
          | none => exact absurd (.inr hf) h4
          | some p => exact ⟨p.1, p.2, rfl⟩
    · rw [if_pos h2] at h0; omega
  · rw [if_pos h1] at h0; omega
theorem wf_app {n : Nat} {S : Ts} (W : Wf n S) {r : Rs} (hl : S.R.length < 2000) (hr : resR r = 0) (ho : ¬ hasO S.R r.out) (hg : r.out.2.2 ≤ 4294967295) : Wf n ⟨S.A, S.E, S.R ++ [r]⟩ := by
  refine ⟨W.len, W.bd, W.ok, by simp only [List.length_append, List.length_cons, List.length_nil]; omega, W.nd, ?_, W.tak, ?_, ?_, ?_, W.hnd⟩
  · intro k e he
    obtain ⟨h1, h2, ⟨q, r2, h3, h4⟩, h5⟩ := W.ent k e he
    exact ⟨h1, h2, ⟨q, r2, by simp only; rw [List.getElem?_append_left (List.getElem?_eq_some_iff.1 h3).1]; exact h3, h4⟩, h5⟩
  · intro r2 h2
    rcases List.mem_append.1 h2 with h3 | h3
    · exact W.res r2 h3
    · rw [List.mem_singleton.1 h3]; exact hr
  · simp only [List.map_append, List.map_cons, List.map_nil]
    refine List.nodup_append.2 ⟨W.out, by simp, ?_⟩
    intro a ha b hb hab
    obtain ⟨r2, h3, h4⟩ := List.mem_map.1 ha
    rw [List.mem_singleton.1 hb] at hab
    exact ho ⟨r2, h3, h4.trans hab⟩
  · intro r2 h2
    rcases List.mem_append.1 h2 with h3 | h3
    · exact W.og r2 h3
    · rw [List.mem_singleton.1 h3]; exact hg
theorem wf_opn {n : Nat} {S : Ts} (W : Wf n S) {o : Ky} (hg : o.2.2 ≤ 4294967295) (L : List UInt8) (h : Int × Int) : Wf n (opnS S o L h) := by
  unfold opnS
  split
  · rename_i h0
    obtain ⟨h1, h2, h3, h4, h5, _⟩ := opnE_ok h0
    have W2 := wf_app W (r := ⟨o, 1, 0, 0, 0, L⟩) h5 h1 h3 hg
    exact wf_add W2 (q := S.R.length) (r := ⟨o, 1, 0, 0, 0, L⟩) (by simp) rfl rfl rfl h2 h4
  · exact W
theorem dupE_ok {S : Ts} {d : Ky} {h : Int × Int} (h0 : dupE S d h = 0) : objH h ∧ fndE S d = 0 ∧ ¬ hasH S.E h ∧ ∃ j g, freeS S.A = some (j, g) := by
  unfold dupE at h0
  by_cases h2 : objH h
  · rw [if_neg (by simpa using h2)] at h0
    by_cases h1 : fndE S d = 0
    · rw [if_neg (by omega)] at h0
      split at h0
      · omega
      · rename_i h3
        split at h0
        · omega
        · rename_i h4
          refine ⟨h2, h1, h3, ?_⟩
          cases hf : freeS S.A with
          | none => exact absurd hf h4
          | some p => exact ⟨p.1, p.2, rfl⟩
    · rw [if_pos h1] at h0; omega
  · rw [if_pos h2] at h0; omega
theorem wf_dup {n : Nat} {S : Ts} (W : Wf n S) (d : Ky) (h : Int × Int) : Wf n (dupS S d h) := by
  unfold dupS
  split
  · rename_i h0
    obtain ⟨h1, h2, h3, _⟩ := dupE_ok h0
    obtain ⟨hg, e, he, hd⟩ := fndE_ok.1 h2
    obtain ⟨_, _, ⟨q, r, h4, h5, h6, h7⟩, _⟩ := W.ent _ e he
    rw [(fndX_ok hg he hd).2]
    exact wf_add W h4 h5 (by rw [h6, hd]) h7 h1 h3
  · exact W
theorem wf_drop {n : Nat} {S : Ts} (W : Wf n S) {d : Ky} {e : Ety} (he : gget S.E d.2.1 = some e) (hd : e.d = d) : Wf n (dropS S d) := by
  obtain ⟨q, h1, h2, h3⟩ := wf_slot W he
  have hq : d.2.1.toNat = q := by omega
  have hql : q < S.A.length := by rw [W.len]; exact h2
  have hg := wf_good W he
  rw [hd] at hg h3
  have hd4 := W.ok _ (List.mem_of_getElem? h3)
  simp only at hd4
  unfold dropS
  rw [hq]
  refine ⟨by simp only; rw [giveA_len]; exact W.len, W.bd, slOk_give W.ok h3 rfl, W.rl, kn_del W.nd, ?_, ?_, W.res, W.out, W.og, ?_⟩
  · intro k2 e2 h5
    simp only at h5
    by_cases hk : k2 = d.2.1
    · subst hk; rw [gget_del_self W.nd] at h5; cases h5
    · rw [gget_del hk] at h5
      obtain ⟨⟨q2, h6, h7⟩, h8⟩ := W.ent k2 e2 h5
      refine ⟨⟨q2, h6, ?_⟩, h8⟩
      simp only
      rw [giveA_get (by rintro rfl; exact hk (h6.trans h1.symm))]
      exact h7
  · intro q2 g2 h5
    simp only at h5 ⊢
    by_cases hk : q2 = q
    · subst hk
      rw [giveA_self hql] at h5
      split at h5 <;> simp at h5
    · rw [giveA_get hk] at h5
      rw [gget_del (by omega)]
      exact W.tak q2 g2 h5
  · intro k1 k2 e1 e2 h5 h6 h7
    simp only at h5 h6
    by_cases hk1 : k1 = d.2.1
    · subst hk1; rw [gget_del_self W.nd] at h5; cases h5
    · by_cases hk2 : k2 = d.2.1
      · subst hk2; rw [gget_del_self W.nd] at h6; cases h6
      · rw [gget_del hk1] at h5
        rw [gget_del hk2] at h6
        exact W.hnd k1 k2 e1 e2 h5 h6 h7
theorem wf_cls {n : Nat} {S : Ts} (W : Wf n S) (d : Ky) : Wf n (clsS S d) := by
  unfold clsS
  split
  · rename_i h0
    obtain ⟨_, e, h1, h2⟩ := fndE_ok.1 h0
    exact wf_drop W h1 h2
  · exact W
/-- The descriptors of a resource are entries of the table, each once. -/
theorem mem_descs {E : Tm} {v : Int} {d : Ky} : d ∈ descs E v ↔ ∃ e ∈ allE E, e.num = v ∧ e.d = d := by
  unfold descs
  rw [List.mem_filterMap]
  constructor
  · rintro ⟨e, h1, h2⟩
    split at h2
    · rename_i h3; exact ⟨e, h1, h3, Option.some.inj h2⟩
    · cases h2
  · rintro ⟨e, h1, h2, h3⟩
    exact ⟨e, h1, by rw [if_pos h2, h3]⟩
theorem wf_mem {n : Nat} {S : Ts} (W : Wf n S) {e : Ety} (h : e ∈ allE S.E) : gget S.E e.d.2.1 = some e := by
  obtain ⟨k, hk, he⟩ := mem_allE.1 h
  rw [(W.ent _ e he).2.1]
  exact he
/-- The slots of the entries, in order, are all different. -/
theorem someE_lt {n : Nat} {S : Ts} (W : Wf n S) (k : Nat) : ((someE S.E k).map (·.d.2.1)).Pairwise (· < ·) ∧ ∀ e ∈ someE S.E k, e.d.2.1 < (k : Int) := by
  induction k with
  | zero => exact ⟨List.Pairwise.nil, fun e he => by simp [someE] at he⟩
  | succ k ih =>
    cases hg : gget S.E (k : Int) with
    | none => rw [someE_no hg]; exact ⟨ih.1, fun e he => by have := ih.2 e he; omega⟩
    | some e =>
      have hk := (W.ent _ e hg).2.1
      rw [someE_go hg]
      constructor
      · rw [List.map_append, List.pairwise_append]
        refine ⟨ih.1, by simp, ?_⟩
        intro a ha b hb
        obtain ⟨x, h1, rfl⟩ := List.mem_map.1 ha
        simp only [List.map_cons, List.map_nil, List.mem_singleton] at hb
        rw [hb, hk]
        exact ih.2 x h1
      · intro x hx
        rcases List.mem_append.1 hx with h1 | h1
        · have := ih.2 x h1; omega
        · rw [List.mem_singleton.1 h1, hk]; omega
theorem allE_lt {n : Nat} {S : Ts} (W : Wf n S) : ((allE S.E).map (·.d.2.1)).Pairwise (· < ·) := (someE_lt W 256).1
theorem descs_sub (E : Tm) (v : Int) : (descs E v).Sublist ((allE E).map (·.d)) := by
  unfold descs
  induction allE E with
  | nil => exact List.Sublist.refl _
  | cons e L ih =>
    simp only [List.filterMap_cons, List.map_cons]
    split
    · exact List.Sublist.cons _ ih
    · rename_i h
      split at h
      · obtain rfl := Option.some.inj h; exact List.Sublist.cons_cons _ ih
      · cases h
theorem descs_lt {n : Nat} {S : Ts} (W : Wf n S) (v : Int) : ((descs S.E v).map (·.2.1)).Pairwise (· < ·) := by
  have h := allE_lt W
  have h2 : (allE S.E).map (·.d.2.1) = ((allE S.E).map (·.d)).map (·.2.1) := by rw [List.map_map]; rfl
  rw [h2] at h
  exact h.sublist ((descs_sub S.E v).map _)
theorem descs_nil {n : Nat} {S : Ts} (W : Wf n S) {v : Int} (h : ¬ (1 ≤ v ∧ v ≤ (S.R.length : Int))) : descs S.E v = [] := by
  cases hd : descs S.E v with
  | nil => rfl
  | cons d D =>
    have hm : d ∈ descs S.E v := by rw [hd]; exact List.mem_cons_self
    obtain ⟨e, h1, h2, h3⟩ := mem_descs.1 hm
    obtain ⟨_, _, ⟨q, r, h4, h5, _⟩, _⟩ := W.ent _ e (wf_mem W h1)
    have := (List.getElem?_eq_some_iff.1 h4).1
    omega
/-- Several descriptors that are there, of different slots, are dropped. -/
theorem wf_drops {n : Nat} : ∀ {D : List Ky} {S : Ts}, Wf n S → (∀ d ∈ D, ∃ e, gget S.E d.2.1 = some e ∧ e.d = d) → (D.map (·.2.1)).Pairwise (· < ·) → Wf n (D.foldl dropS S)
  | [], _, W, _, _ => W
  | d :: D, S, W, h, hp => by
    obtain ⟨e, h1, h2⟩ := h d List.mem_cons_self
    rw [List.map_cons, List.pairwise_cons] at hp
    refine wf_drops (D := D) (S := dropS S d) (wf_drop W h1 h2) (fun d2 hd2 => ?_) hp.2
    obtain ⟨e2, h3, h4⟩ := h d2 (List.mem_cons_of_mem _ hd2)
    have := hp.1 _ (List.mem_map_of_mem (f := (·.2.1)) hd2)
    exact ⟨e2, by unfold dropS; simp only; rw [gget_del (by omega)]; exact h3, h4⟩
theorem wf_exp {n : Nat} {S : Ts} (W : Wf n S) (v : Int) : Wf n (expS S v) := wf_drops W (fun d hd => by
  obtain ⟨e, h1, _, h3⟩ := mem_descs.1 hd
  exact ⟨e, by rw [← h3]; exact wf_mem W h1, h3⟩) (descs_lt W v)
theorem set_self {α : Type} {l : List α} {i : Nat} {x : α} (h : l[i]? = some x) : l.set i x = l := by
  apply List.ext_getElem?
  intro j
  by_cases hj : i = j
  · subst hj
    rw [List.getElem?_set_self (List.getElem?_eq_some_iff.1 h).1, h]
  · rw [List.getElem?_set_ne hj]
theorem setE_ok {S : Ts} {v : Int} {r : Rs} (h0 : setE S v r = 0) : (1 ≤ v ∧ v ≤ (S.R.length : Int)) ∧ resR r = 0 ∧ r.out = (getR S v).out ∧ r.tag = (getR S v).tag ∧ (r.st = 1 ∨ (descs S.E v).length = 0) := by
  unfold setE at h0
  split at h0
  · omega
  · rename_i h1
    split at h0
    · omega
    · rename_i h2
      split at h0
      · omega
      · rename_i h3
        split at h0
        · omega
        · rename_i h4
          refine ⟨?_, by omega, ?_, ?_, by omega⟩
          · unfold nE at h1
            split at h1
            · assumption
            · omega
          · exact Classical.byContradiction fun h => h3 (.inl h)
          · exact Classical.byContradiction fun h => h3 (.inr h)
theorem getR_at {S : Ts} {v : Int} (h : 1 ≤ v ∧ v ≤ (S.R.length : Int)) : S.R[(v - 1).toNat]? = some (getR S v) := by
  have hl : (v - 1).toNat < S.R.length := by omega
  unfold getR
  rw [if_pos h.1, List.getElem?_eq_getElem hl]
  rfl
theorem getR_no {S : Ts} {v : Int} (h : ¬ (1 ≤ v ∧ v ≤ (S.R.length : Int))) : getR S v = rs0 := by
  unfold getR
  split
  · rw [List.getElem?_eq_none (by omega)]; rfl
  · rfl
theorem wf_set {n : Nat} {S : Ts} (W : Wf n S) (v : Int) (r : Rs) : Wf n (setS S v r) := by
  unfold setS
  split
  · rename_i h0
    obtain ⟨h1, h2, h3, h4, h5⟩ := setE_ok h0
    have hg := getR_at h1
    have hl := (List.getElem?_eq_some_iff.1 hg).1
    refine ⟨W.len, W.bd, W.ok, by simp only [List.length_set]; exact W.rl, W.nd, ?_, W.tak, ?_, ?_, ?_, W.hnd⟩
    · intro k e he
      obtain ⟨e1, e2, ⟨q, r2, e3, e4, e5, e6⟩, e7⟩ := W.ent k e he
      refine ⟨e1, e2, ?_, e7⟩
      by_cases hq : q = (v - 1).toNat
      · refine ⟨q, r, by simp only; rw [hq, List.getElem?_set_self hl], e4, ?_, ?_⟩
        · subst hq
          rw [hg] at e3
          obtain rfl := Option.some.inj e3
          rw [h3]; exact e5
        · rcases h5 with h5 | h5
          · exact h5
          · exfalso
            have hm : e.d ∈ descs S.E v := mem_descs.2 ⟨e, wf_all W he, by omega, rfl⟩
            rw [List.length_eq_zero_iff.1 h5] at hm
            cases hm
      · exact ⟨q, r2, by simp only; rw [List.getElem?_set_ne (Ne.symm hq)]; exact e3, e4, e5, e6⟩
    · intro r2 hr2
      rcases List.mem_or_eq_of_mem_set hr2 with h6 | h6
      · exact W.res r2 h6
      · rw [h6]; exact h2
    · have : (S.R.set (v - 1).toNat r).map (·.out) = S.R.map (·.out) := by
        rw [List.map_set]
        have h7 : (S.R.map (·.out))[(v - 1).toNat]? = some r.out := by rw [List.getElem?_map, hg, h3]; rfl
        rw [set_self h7]
      simp only
      rw [this]
      exact W.out
    · intro r2 hr2
      rcases List.mem_or_eq_of_mem_set hr2 with h6 | h6
      · exact W.og r2 h6
      · rw [h6, h3]; exact W.og _ (List.mem_of_getElem? hg)
  · exact W
theorem wf_new {n : Nat} {g : Int} (hn : 1 ≤ n ∧ n ≤ 256) (hg : 1 ≤ g ∧ g ≤ 4294967295) : Wf n ⟨List.replicate n (0, g), [], []⟩ := by
  refine ⟨List.length_replicate, hn, ?_, by simp, List.nodup_nil, ?_, ?_, ?_, List.nodup_nil, (fun r hr => by cases hr), ?_⟩
  · intro s hs
    have := List.eq_of_mem_replicate hs
    subst this
    simp only
    omega
  · intro k e he; cases he
  · intro q g2 hq
    simp only at hq
    rw [List.getElem?_replicate] at hq
    split at hq
    · simp at hq
    · cases hq
  · intro r hr; cases hr
  · intro k1 k2 e1 e2 h1; cases h1
end Go.Proofs.Ytjjpmehiolejgaa
