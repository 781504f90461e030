/- Walks, printed by my generator gen15.py. -/
import Derived.Test.YtjjpmehiolejgaaF14
import Derived.Test.YtjjpmehiolejgaaF12
namespace Go.Proofs.Ytjjpmehiolejgaa
set_option maxHeartbeats 4000000 in
theorem tnew_ok (n : Nat) (gn : Int) (hn : 1 ≤ n ∧ n ≤ 256) (hgn : 1 ≤ gn ∧ gn ≤ 4294967295) : HT Try.prog 11 [Value.int IntKind.i64 (((n : Nat) : Int)), Value.int IntKind.u32 gn] [] (fun v K => ∃ b : Nat, v = Value.tuple #[Value.pointer (some ⟨b, 0, none⟩), Value.int .i64 0] ∧ K = [Tab b n (List.replicate n (0, gn)) [] []]) := by
 refine hi_in 21 ([(0, iV (n : Int)), (1, uV gn)] : Fr) Try.func11 (by kernel_rfl) Try.ntmps11 rfl rfl ?_
 intro g w0 R h0
 refine ySq ?_
 refine yPl [0, 1] ?_
 refine yB0 [] [0, 1] [(5, iV 0), (4, .pointer none)] (.mk ?_)
 refine yK [(0, iV (n : Int)), (1, uV gn)] fun lr1 => ?_
 refine ySq ?_
 refine yPl [0, 1, 2, 3, 4, 5, 6, 7] ?_
 refine yB0 [2, 3, 4, 5, 6, 7] [0, 1] [(10, uV gn), (9, iV (n : Int))] ?_
 refine yA ?_
 refine yCl 11 Try.call35 (snew_ok n (by omega) gn (by omega)) h0 ?_
 rintro v K w3 (⟨b2, rfl, rfl⟩) h4
 refine ⟨_, rfl, ?_⟩
 have h5 := ap1 h4
 refine yB0 [] [3, 4, 5, 6, 7] [(7, iV 0), (6, pV b2), (13, iV 0), (12, pV b2), (8, .tuple #[pV b2, iV 0])] (.mk ?_)
 refine yK [(6, pV b2), (7, iV 0)] fun lr6 => ?_
 refine ySq ?_
 refine ySq ?_
 refine yPl [0, 1] ?_
 refine yB0 [] [0, 1] [(15, .bool false), (14, iV 0)] (.mk ?_)
 refine yK [(6, pV b2), (7, iV 0), (15, .bool false)] fun lr7 => ?_
 refine yCf ?_
 refine ySk ?_
 refine ySq ?_
 refine yPl [0, 1, 2, 3, 4, 5] ?_
 refine yB0 [1, 2, 3, 4, 5] [0] [(17, pV b2)] ?_
 refine yA ?_
 refine ag_makeMap (t := 73) (d := 18) kI vE (by kernel_rfl) (by kernel_rfl) rfl h5 ?_
 intro r8 w9 h10
 refine yB0 [3, 4, 5] [2] [(19, .agg #[pV b2, .map (some r8), .slice none 0 0])] ?_
 refine yA ?_
 refine yNp 20 76 [pV b2, .map (some r8), .slice none 0 0] h10 fun r11 w12 h13 => ?_
 refine yB0 [] [4, 5] [(5, iV 0), (4, pV r11)] (.mk ?_)
 refine yK [(4, pV r11), (5, iV 0)] fun lr14 => ?_
 refine yRt ?_
 repeat (first | simp only [Exit.inBlock] | simp only [Exit.then])
 have h15 : sat g w12 [Sl 42 8 none 0 0 (fl eRs []), Cl r11 [pV b2, .map (some r8), .slice none 0 0] 76, Gp kI vE r8 [], Tb b2 n (List.replicate n (0, gn)), R] := sl_nil 42 8 h13
 have h16 := tk5 (sf4 (sf4 (sf3 (sf1 (sf4 h15)))))
 have h17 : sat g w12 [Tab r11 n (List.replicate n (0, gn)) [] [], R] := tab_close (meq_refl List.nodup_nil) (by decide) (by first | rfl | omega) h16
 refine hi_out [] (.tuple #[pV r11, iV 0]) [] (by kernel_rfl) (by intro q hq; cases hq) ?_
 exact ⟨.tuple #[pV r11, iV 0], [Tab r11 n (List.replicate n (0, gn)) [] []], rfl, ⟨r11, rfl, rfl⟩, h17⟩

set_option maxHeartbeats 4000000 in
theorem tclose_bad (b n : Nat) (A : List Sl2) (E : Tm) (RL : List Rs) (x y z : Int) (hz0 : 0 ≤ z) (hz1 : z ≤ 4294967295) (ho : ¬ (1 ≤ x ∧ x ≤ 3 ∧ 0 ≤ y ∧ y ≤ 255 ∧ 1 ≤ z)) : HT Try.prog 15 [Value.pointer (some ⟨b, 0, none⟩), Value.agg #[Value.int IntKind.i64 x, Value.int IntKind.i64 y, Value.int IntKind.u32 z]] [Tab b n A E RL] (fun v K => v = Value.tuple #[Value.int IntKind.i64 0, Value.bool false, Value.int IntKind.i64 2] ∧ K = [Tab b n A E RL]) := by
 refine hi_in 35 ([(0, pV b), (1, .agg #[iV x, iV y, uV z])] : Fr) Try.func15 (by kernel_rfl) Try.ntmps15 rfl rfl ?_
 intro g w0 R h0
 refine ySq ?_
 refine yPl [0, 1, 2, 3] ?_
 refine yA ?_
 refine yNp 3 28 [iV x, iV y, uV z] h0 fun r1 w2 h3 => ?_
 refine yB0 [] [1, 2, 3] [(6, iV 0), (5, .bool false), (4, iV 0)] (.mk ?_)
 refine yK [(0, pV b), (3, pV r1)] fun lr4 => ?_
 refine ySq ?_
 refine yPl [0, 1, 2, 3, 4, 5, 6, 7, 8] ?_
 refine yBb [2, 3, 4, 5, 6, 7, 8] [(12, .agg #[iV x, iV y, uV z]), (11, pV b)] [e0 0, e2 1 [iV x, iV y, uV z]] [(1, ⟨r1, 0, none⟩, iV x), (1, ⟨r1, 1, none⟩, iV y), (1, ⟨r1, 2, none⟩, uV z)] [] trivial (kC (sat_cell h3 0 rfl rfl) (kC (sat_cell h3 0 rfl rfl) (kC (sat_cell h3 0 rfl rfl) nC))) ?_
 have h5 := tk3 (sf2 (sf1 (sf2 h3)))
 refine yA ?_
 refine yCl 13 Try.call44 (tfind_bad b n A E RL x y z (by omega) (by omega) (by omega)) h5 ?_
 rintro v K w6 (⟨rfl, rfl⟩) h7
 refine ⟨_, rfl, ?_⟩
 have h8 := ap1 h7
 refine yB0 [6, 7, 8] [3, 4, 5] [(15, iV 2), (14, .agg #[iV 0, iV 0, uV 0, iV 0, iV 0, uV 0]), (10, .tuple #[.agg #[iV 0, iV 0, uV 0, iV 0, iV 0, uV 0], iV 2])] ?_
 refine yA ?_
 refine yNp 7 90 [iV 0, iV 0, uV 0, iV 0, iV 0, uV 0] h8 fun r9 w10 h11 => ?_
 refine yA ?_
 refine yS [(0, iV 0), (1, iV 0), (2, uV 0), (3, iV 0), (4, iV 0), (5, uV 0)] [iV 0, iV 0, uV 0, iV 0, iV 0, uV 0] h11 fun w12 h13 => ?_
 refine yB0 [] [8] [(8, iV 2)] (.mk ?_)
 refine yK [(0, pV b), (3, pV r1), (7, pV r9), (8, iV 2)] fun lr14 => ?_
 refine ySq ?_
 refine ySq ?_
 refine yPl [0, 1] ?_
 refine yB0 [] [0, 1] [(17, .bool true), (16, iV 2)] (.mk ?_)
 refine yK [(0, pV b), (3, pV r1), (7, pV r9), (8, iV 2), (17, .bool true)] fun lr15 => ?_
 refine yCt ?_
 refine ySq ?_
 refine yPl [0, 1, 2, 3] ?_
 refine yB0 [] [0, 1, 2, 3] [(6, iV 2), (5, .bool false), (4, iV 0), (18, iV 2)] (.mk ?_)
 refine yK [(4, iV 0), (5, .bool false), (6, iV 2)] fun lr16 => ?_
 refine yRt ?_
 repeat (first | simp only [Exit.inBlock] | simp only [Exit.then])
 have h17 := tk4 (sf3 (sf2 (sf3 (sf3 h13))))
 have h18 := tk2 (sf1 (sf3 h17))
 refine hi_out [] (.tuple #[iV 0, .bool false, iV 2]) [] (by kernel_rfl) (by intro q hq; cases hq) ?_
 exact ⟨.tuple #[iV 0, .bool false, iV 2], [Tab b n A E RL], rfl, ⟨rfl, rfl⟩, h18⟩

set_option maxHeartbeats 4000000 in
theorem tclose_none (b n : Nat) (A : List Sl2) (E : Tm) (RL : List Rs) (x y z : Int) (hz0 : 0 ≤ z) (hz1 : z ≤ 4294967295) (ho : 1 ≤ x ∧ x ≤ 3 ∧ 0 ≤ y ∧ y ≤ 255 ∧ 1 ≤ z) (hg_ : gget E y = none) : HT Try.prog 15 [Value.pointer (some ⟨b, 0, none⟩), Value.agg #[Value.int IntKind.i64 x, Value.int IntKind.i64 y, Value.int IntKind.u32 z]] [Tab b n A E RL] (fun v K => v = Value.tuple #[Value.int IntKind.i64 0, Value.bool false, Value.int IntKind.i64 7] ∧ K = [Tab b n A E RL]) := by
 refine hi_in 35 ([(0, pV b), (1, .agg #[iV x, iV y, uV z])] : Fr) Try.func15 (by kernel_rfl) Try.ntmps15 rfl rfl ?_
 intro g w0 R h0
 refine ySq ?_
 refine yPl [0, 1, 2, 3] ?_
 refine yA ?_
 refine yNp 3 28 [iV x, iV y, uV z] h0 fun r1 w2 h3 => ?_
 refine yB0 [] [1, 2, 3] [(6, iV 0), (5, .bool false), (4, iV 0)] (.mk ?_)
 refine yK [(0, pV b), (3, pV r1)] fun lr4 => ?_
 refine ySq ?_
 refine yPl [0, 1, 2, 3, 4, 5, 6, 7, 8] ?_
 refine yBb [2, 3, 4, 5, 6, 7, 8] [(12, .agg #[iV x, iV y, uV z]), (11, pV b)] [e0 0, e2 1 [iV x, iV y, uV z]] [(1, ⟨r1, 0, none⟩, iV x), (1, ⟨r1, 1, none⟩, iV y), (1, ⟨r1, 2, none⟩, uV z)] [] trivial (kC (sat_cell h3 0 rfl rfl) (kC (sat_cell h3 0 rfl rfl) (kC (sat_cell h3 0 rfl rfl) nC))) ?_
 have h5 := tk3 (sf2 (sf1 (sf2 h3)))
 refine yA ?_
 refine yCl 13 Try.call44 (tfind_none b n A E RL x y z (by omega) (by omega) (by omega) hg_) h5 ?_
 rintro v K w6 (⟨rfl, rfl⟩) h7
 refine ⟨_, rfl, ?_⟩
 have h8 := ap1 h7
 refine yB0 [6, 7, 8] [3, 4, 5] [(15, iV 7), (14, .agg #[iV 0, iV 0, uV 0, iV 0, iV 0, uV 0]), (10, .tuple #[.agg #[iV 0, iV 0, uV 0, iV 0, iV 0, uV 0], iV 7])] ?_
 refine yA ?_
 refine yNp 7 90 [iV 0, iV 0, uV 0, iV 0, iV 0, uV 0] h8 fun r9 w10 h11 => ?_
 refine yA ?_
 refine yS [(0, iV 0), (1, iV 0), (2, uV 0), (3, iV 0), (4, iV 0), (5, uV 0)] [iV 0, iV 0, uV 0, iV 0, iV 0, uV 0] h11 fun w12 h13 => ?_
 refine yB0 [] [8] [(8, iV 7)] (.mk ?_)
 refine yK [(0, pV b), (3, pV r1), (7, pV r9), (8, iV 7)] fun lr14 => ?_
 refine ySq ?_
 refine ySq ?_
 refine yPl [0, 1] ?_
 refine yB0 [] [0, 1] [(17, .bool true), (16, iV 7)] (.mk ?_)
 refine yK [(0, pV b), (3, pV r1), (7, pV r9), (8, iV 7), (17, .bool true)] fun lr15 => ?_
 refine yCt ?_
 refine ySq ?_
 refine yPl [0, 1, 2, 3] ?_
 refine yB0 [] [0, 1, 2, 3] [(6, iV 7), (5, .bool false), (4, iV 0), (18, iV 7)] (.mk ?_)
 refine yK [(4, iV 0), (5, .bool false), (6, iV 7)] fun lr16 => ?_
 refine yRt ?_
 repeat (first | simp only [Exit.inBlock] | simp only [Exit.then])
 have h17 := tk4 (sf3 (sf2 (sf3 (sf3 h13))))
 have h18 := tk2 (sf1 (sf3 h17))
 refine hi_out [] (.tuple #[iV 0, .bool false, iV 7]) [] (by kernel_rfl) (by intro q hq; cases hq) ?_
 exact ⟨.tuple #[iV 0, .bool false, iV 7], [Tab b n A E RL], rfl, ⟨rfl, rfl⟩, h18⟩

set_option maxHeartbeats 4000000 in
theorem tclose_diff (b n : Nat) (A : List Sl2) (E : Tm) (RL : List Rs) (x y z : Int) (e : Ety) (hz0 : 0 ≤ z) (hz1 : z ≤ 4294967295) (ho : 1 ≤ x ∧ x ≤ 3 ∧ 0 ≤ y ∧ y ≤ 255 ∧ 1 ≤ z) (hg_ : gget E y = some e) (hd_ : ¬ (e.d.1 = x ∧ e.d.2.1 = y ∧ e.d.2.2 = z)) : HT Try.prog 15 [Value.pointer (some ⟨b, 0, none⟩), Value.agg #[Value.int IntKind.i64 x, Value.int IntKind.i64 y, Value.int IntKind.u32 z]] [Tab b n A E RL] (fun v K => v = Value.tuple #[Value.int IntKind.i64 0, Value.bool false, Value.int IntKind.i64 7] ∧ K = [Tab b n A E RL]) := by
 refine hi_in 35 ([(0, pV b), (1, .agg #[iV x, iV y, uV z])] : Fr) Try.func15 (by kernel_rfl) Try.ntmps15 rfl rfl ?_
 intro g w0 R h0
 refine ySq ?_
 refine yPl [0, 1, 2, 3] ?_
 refine yA ?_
 refine yNp 3 28 [iV x, iV y, uV z] h0 fun r1 w2 h3 => ?_
 refine yB0 [] [1, 2, 3] [(6, iV 0), (5, .bool false), (4, iV 0)] (.mk ?_)
 refine yK [(0, pV b), (3, pV r1)] fun lr4 => ?_
 refine ySq ?_
 refine yPl [0, 1, 2, 3, 4, 5, 6, 7, 8] ?_
 refine yBb [2, 3, 4, 5, 6, 7, 8] [(12, .agg #[iV x, iV y, uV z]), (11, pV b)] [e0 0, e2 1 [iV x, iV y, uV z]] [(1, ⟨r1, 0, none⟩, iV x), (1, ⟨r1, 1, none⟩, iV y), (1, ⟨r1, 2, none⟩, uV z)] [] trivial (kC (sat_cell h3 0 rfl rfl) (kC (sat_cell h3 0 rfl rfl) (kC (sat_cell h3 0 rfl rfl) nC))) ?_
 have h5 := tk3 (sf2 (sf1 (sf2 h3)))
 refine yA ?_
 refine yCl 13 Try.call44 (tfind_diff b n A E RL x y z e (by omega) (by omega) (by omega) hg_ (by omega)) h5 ?_
 rintro v K w6 (⟨rfl, rfl⟩) h7
 refine ⟨_, rfl, ?_⟩
 have h8 := ap1 h7
 refine yB0 [6, 7, 8] [3, 4, 5] [(15, iV 7), (14, .agg #[iV 0, iV 0, uV 0, iV 0, iV 0, uV 0]), (10, .tuple #[.agg #[iV 0, iV 0, uV 0, iV 0, iV 0, uV 0], iV 7])] ?_
 refine yA ?_
 refine yNp 7 90 [iV 0, iV 0, uV 0, iV 0, iV 0, uV 0] h8 fun r9 w10 h11 => ?_
 refine yA ?_
 refine yS [(0, iV 0), (1, iV 0), (2, uV 0), (3, iV 0), (4, iV 0), (5, uV 0)] [iV 0, iV 0, uV 0, iV 0, iV 0, uV 0] h11 fun w12 h13 => ?_
 refine yB0 [] [8] [(8, iV 7)] (.mk ?_)
 refine yK [(0, pV b), (3, pV r1), (7, pV r9), (8, iV 7)] fun lr14 => ?_
 refine ySq ?_
 refine ySq ?_
 refine yPl [0, 1] ?_
 refine yB0 [] [0, 1] [(17, .bool true), (16, iV 7)] (.mk ?_)
 refine yK [(0, pV b), (3, pV r1), (7, pV r9), (8, iV 7), (17, .bool true)] fun lr15 => ?_
 refine yCt ?_
 refine ySq ?_
 refine yPl [0, 1, 2, 3] ?_
 refine yB0 [] [0, 1, 2, 3] [(6, iV 7), (5, .bool false), (4, iV 0), (18, iV 7)] (.mk ?_)
 refine yK [(4, iV 0), (5, .bool false), (6, iV 7)] fun lr16 => ?_
 refine yRt ?_
 repeat (first | simp only [Exit.inBlock] | simp only [Exit.then])
 have h17 := tk4 (sf3 (sf2 (sf3 (sf3 h13))))
 have h18 := tk2 (sf1 (sf3 h17))
 refine hi_out [] (.tuple #[iV 0, .bool false, iV 7]) [] (by kernel_rfl) (by intro q hq; cases hq) ?_
 exact ⟨.tuple #[iV 0, .bool false, iV 7], [Tab b n A E RL], rfl, ⟨rfl, rfl⟩, h18⟩

set_option maxHeartbeats 4000000 in
theorem tclose_ok (b n : Nat) (A : List Sl2) (E : Tm) (RL : List Rs) (x y z : Int) (e : Ety) (hz0 : 0 ≤ z) (hz1 : z ≤ 4294967295) (ho : 1 ≤ x ∧ x ≤ 3 ∧ 0 ≤ y ∧ y ≤ 255 ∧ 1 ≤ z) (hg_ : gget E y = some e) (hd_ : e.d.1 = x ∧ e.d.2.1 = y ∧ e.d.2.2 = z) (q : Nat) (s : Sl2) (hs : A[q]? = some s) (hs_ : y = (q : Int) ∧ s.1 = 1 ∧ s.2 = z) (hnum : 1 ≤ e.num ∧ e.num ≤ (RL.length : Int)) : HT Try.prog 15 [Value.pointer (some ⟨b, 0, none⟩), Value.agg #[Value.int IntKind.i64 x, Value.int IntKind.i64 y, Value.int IntKind.u32 z]] [Tab b n A E RL] (fun v K => v = Value.tuple #[Value.int .i64 e.num, Value.bool (decide ((descs (gdel E y) e.num).length = 0)), Value.int .i64 0] ∧ K = [Tab b n (giveA A q z) (gdel E y) RL]) := by
 refine hi_in 35 ([(0, pV b), (1, .agg #[iV x, iV y, uV z])] : Fr) Try.func15 (by kernel_rfl) Try.ntmps15 rfl rfl ?_
 intro g w0 R h0
 refine ySq ?_
 refine yPl [0, 1, 2, 3] ?_
 refine yA ?_
 refine yNp 3 28 [iV x, iV y, uV z] h0 fun r1 w2 h3 => ?_
 refine yB0 [] [1, 2, 3] [(6, iV 0), (5, .bool false), (4, iV 0)] (.mk ?_)
 refine yK [(0, pV b), (3, pV r1)] fun lr4 => ?_
 refine ySq ?_
 refine yPl [0, 1, 2, 3, 4, 5, 6, 7, 8] ?_
 refine yBb [2, 3, 4, 5, 6, 7, 8] [(12, .agg #[iV x, iV y, uV z]), (11, pV b)] [e0 0, e2 1 [iV x, iV y, uV z]] [(1, ⟨r1, 0, none⟩, iV x), (1, ⟨r1, 1, none⟩, iV y), (1, ⟨r1, 2, none⟩, uV z)] [] trivial (kC (sat_cell h3 0 rfl rfl) (kC (sat_cell h3 0 rfl rfl) (kC (sat_cell h3 0 rfl rfl) nC))) ?_
 have h5 := tk3 (sf2 (sf1 (sf2 h3)))
 refine yA ?_
 refine yCl 13 Try.call44 (tfind_ok b n A E RL x y z e (by omega) (by omega) (by omega) hg_ (by omega)) h5 ?_
 rintro v K w6 (⟨rfl, rfl⟩) h7
 refine ⟨_, rfl, ?_⟩
 have h8 := ap1 h7
 refine yB0 [6, 7, 8] [3, 4, 5] [(15, iV 0), (14, .agg #[iV e.d.1, iV e.d.2.1, uV e.d.2.2, iV e.num, iV e.h.1, uV e.h.2]), (10, .tuple #[.agg #[iV e.d.1, iV e.d.2.1, uV e.d.2.2, iV e.num, iV e.h.1, uV e.h.2], iV 0])] ?_
 refine yA ?_
 refine yNp 7 90 [iV 0, iV 0, uV 0, iV 0, iV 0, uV 0] h8 fun r9 w10 h11 => ?_
 refine yA ?_
 refine yS [(0, iV e.d.1), (1, iV e.d.2.1), (2, uV e.d.2.2), (3, iV e.num), (4, iV e.h.1), (5, uV e.h.2)] [iV e.d.1, iV e.d.2.1, uV e.d.2.2, iV e.num, iV e.h.1, uV e.h.2] h11 fun w12 h13 => ?_
 refine yB0 [] [8] [(8, iV 0)] (.mk ?_)
 refine yK [(0, pV b), (3, pV r1), (7, pV r9), (8, iV 0)] fun lr14 => ?_
 refine ySq ?_
 refine ySq ?_
 refine yPl [0, 1] ?_
 refine yB0 [] [0, 1] [(17, .bool false), (16, iV 0)] (.mk ?_)
 refine yK [(0, pV b), (3, pV r1), (7, pV r9), (8, iV 0), (17, .bool false)] fun lr15 => ?_
 refine yCf ?_
 refine ySk ?_
 refine ySq ?_
 refine yPl [0, 1, 2] ?_
 refine yBb [2] [(20, .agg #[iV x, iV y, uV z]), (19, pV b)] [e0 0, e2 1 [iV x, iV y, uV z]] [(1, ⟨r1, 0, none⟩, iV x), (1, ⟨r1, 1, none⟩, iV y), (1, ⟨r1, 2, none⟩, uV z)] [] trivial (kC (sat_cell h13 2 rfl rfl) (kC (sat_cell h13 2 rfl rfl) (kC (sat_cell h13 2 rfl rfl) nC))) ?_
 have h16 := tk4 (sf3 (sf2 (sf3 (sf3 h13))))
 refine yA ?_
 refine yCl 21 Try.call45 (tdrop_ht b n A E RL x y z (by omega) (by omega) q s hs (by omega)) h16 ?_
 rintro v K w17 (⟨rfl, rfl⟩) h18
 refine ⟨_, rfl, ?_⟩
 have h19 := ap1 h18
 refine PO.mk ?_
 refine yK [(0, pV b), (7, pV r9)] fun lr20 => ?_
 refine ySq ?_
 refine yPl [0, 1, 2, 3, 4, 5, 6, 7, 8] ?_
 refine yBb [3, 4, 5, 6, 7, 8] [(25, iV e.num), (24, .pointer (some ⟨r9, 3, none⟩)), (23, pV b)] [e0 0, e0 1, e2 2 [iV e.num]] [(2, ⟨r9, 3, none⟩, iV e.num)] [] trivial (kC (sat_cell h19 1 rfl rfl) nC) ?_
 refine yA ?_
 refine yCl 26 Try.call21 (tdescs_ok b n (giveA A q z) (gdel E y) RL e.num (by omega)) h19 ?_
 rintro v K w23 (⟨p21, c22, rfl, rfl⟩) h24
 refine ⟨_, rfl, ?_⟩
 have h25 := ap2 h24
 refine yB0 [] [4, 5, 6, 7, 8] [(8, iV 0), (9, .slice p21 (((descs (gdel E y) e.num).length)) c22), (28, iV 0), (27, .slice p21 (((descs (gdel E y) e.num).length)) c22), (22, .tuple #[.slice p21 (((descs (gdel E y) e.num).length)) c22, iV 0])] (.mk ?_)
 refine yK [(7, pV r9), (8, iV 0), (9, .slice p21 (((descs (gdel E y) e.num).length)) c22)] fun lr26 => ?_
 refine ySq ?_
 refine yPl [0, 1, 2, 3, 4, 5, 6, 7, 8] ?_
 refine yBb [4, 5, 6, 7, 8] [(32, iV ((((descs (gdel E y) e.num).length : Nat) : Int))), (31, .slice p21 (((descs (gdel E y) e.num).length)) c22), (30, iV e.num), (29, .pointer (some ⟨r9, 3, none⟩))] [e0 0, e2 1 [iV e.num], e0 2, e0 3] [(1, ⟨r9, 3, none⟩, iV e.num)] [] trivial (kC (sat_cell h25 2 rfl rfl) nC) ?_
 by_cases c27 : (((descs (gdel E y) e.num).length : Nat) : Int) = 0
 ·
  refine yBb [] [(6, iV 0), (5, .bool true), (4, iV e.num), (34, iV 0), (33, .bool true)] [e1 4 (.bool true), e0 5, e0 6, e0 7, e0 8] [] [(.bool (((((descs (gdel E y) e.num).length : Nat) : Int)) == 0), .bool true)] ⟨(ov_et (by omega)), trivial⟩ nC (.mk ?_)
  refine yK [(4, iV e.num), (5, .bool true), (6, iV 0)] fun lr28 => ?_
  refine yRt ?_
  repeat (first | simp only [Exit.inBlock] | simp only [Exit.then])
  have h29 := tk2 (sf1 (sf4 h25))
  refine hi_out [] (.tuple #[iV e.num, .bool true, iV 0]) [] (by kernel_rfl) (by intro q hq; cases hq) ?_
  exact ⟨.tuple #[iV e.num, .bool true, iV 0], [Tab b n (giveA A q z) (gdel E y) RL], rfl, ⟨by rw [decide_eq_true (by omega)], rfl⟩, h29⟩
 ·
  refine yBb [] [(6, iV 0), (5, .bool false), (4, iV e.num), (34, iV 0), (33, .bool false)] [e1 4 (.bool false), e0 5, e0 6, e0 7, e0 8] [] [(.bool (((((descs (gdel E y) e.num).length : Nat) : Int)) == 0), .bool false)] ⟨(ov_ef (by omega)), trivial⟩ nC (.mk ?_)
  refine yK [(4, iV e.num), (5, .bool false), (6, iV 0)] fun lr30 => ?_
  refine yRt ?_
  repeat (first | simp only [Exit.inBlock] | simp only [Exit.then])
  have h31 := tk2 (sf1 (sf4 h25))
  refine hi_out [] (.tuple #[iV e.num, .bool false, iV 0]) [] (by kernel_rfl) (by intro q hq; cases hq) ?_
  exact ⟨.tuple #[iV e.num, .bool false, iV 0], [Tab b n (giveA A q z) (gdel E y) RL], rfl, ⟨by rw [decide_eq_false (by omega)], rfl⟩, h31⟩

set_option maxHeartbeats 4000000 in
theorem tdup_arg (b n : Nat) (A : List Sl2) (E : Tm) (RL : List Rs) (x y z : Int) (hx hy : Int) (hob : hx < 0 ∨ 255 < hx ∨ hy ≤ 0) : HT Try.prog 14 [Value.pointer (some ⟨b, 0, none⟩), Value.agg #[Value.int IntKind.i64 x, Value.int IntKind.i64 y, Value.int IntKind.u32 z], Value.agg #[Value.int IntKind.i64 hx, Value.int IntKind.u32 hy]] [Tab b n A E RL] (fun v K => v = Value.tuple #[Value.agg #[Value.int IntKind.i64 0, Value.int IntKind.i64 0, Value.int IntKind.u32 0], Value.int IntKind.i64 2] ∧ K = [Tab b n A E RL]) := by
 refine hi_in 41 ([(0, pV b), (1, .agg #[iV x, iV y, uV z]), (2, .agg #[iV hx, uV hy])] : Fr) Try.func14 (by kernel_rfl) Try.ntmps14 rfl rfl ?_
 intro g w0 R h0
 refine ySq ?_
 refine yPl [0, 1, 2, 3] ?_
 refine yA ?_
 refine yNp 4 28 [iV x, iV y, uV z] h0 fun r1 w2 h3 => ?_
 refine yA ?_
 refine yNp 5 34 [iV hx, uV hy] h3 fun r4 w5 h6 => ?_
 refine yA ?_
 refine yNp 6 28 [iV 0, iV 0, uV 0] h6 fun r7 w8 h9 => ?_
 refine yB0 [] [3] [(7, iV 0)] (.mk ?_)
 refine yK [(0, pV b), (4, pV r1), (5, pV r4), (6, pV r7)] fun lr10 => ?_
 refine ySq ?_
 refine ySq ?_
 refine yPl [0, 1, 2, 3, 4, 5, 6] ?_
 refine yB0 [1, 2, 3, 4, 5, 6] [0] [(10, pV b)] ?_
 have h11 := tk5 (sf4 (sf3 (sf3 (sf3 (sf4 h9)))))
 refine yA ?_
 refine yCl 11 Try.call36 (tvalid_ht b n A E RL) h11 ?_
 rintro v K w12 (⟨rfl, rfl⟩) h13
 refine ⟨_, rfl, ?_⟩
 have h14 := ap1 h13
 refine yBb [4, 5, 6] [(13, .agg #[iV hx, uV hy]), (12, .bool true)] [e0 2, e2 3 [iV hx, uV hy]] [(3, ⟨r4, 0, none⟩, iV hx), (3, ⟨r4, 1, none⟩, uV hy)] [] trivial (kC (sat_cell h14 2 rfl rfl) (kC (sat_cell h14 2 rfl rfl) nC)) ?_
 by_cases c15 : 0 ≤ hx
 ·
  by_cases c16 : hx ≤ 255
  ·
   refine yA ?_
   refine yCl 14 Try.call38 (obj_f hx hy (by omega)) h14 ?_
   rintro v K w17 (⟨rfl, rfl⟩) h18
   refine ⟨_, rfl, ?_⟩
   have h19 := ap0 h18
   refine yB0 [] [5, 6] [(16, .bool true), (15, .bool true)] (.mk ?_)
   refine yK [(0, pV b), (4, pV r1), (5, pV r4), (6, pV r7), (16, .bool true)] fun lr20 => ?_
   refine yCt ?_
   refine ySq ?_
   refine yPl [0, 1, 2] ?_
   refine yB0 [1, 2] [0] [(17, .agg #[iV 0, iV 0, uV 0])] ?_
   have h21 := tk5 (sf4 (sf3 (sf4 (sf4 (sf4 h19)))))
   refine yA ?_
   refine yS [(0, iV 0), (1, iV 0), (2, uV 0)] [iV 0, iV 0, uV 0] h21 fun w22 h23 => ?_
   refine yB0 [] [2] [(7, iV 2)] (.mk ?_)
   refine yK [(6, pV r7), (7, iV 2)] fun lr24 => ?_
   refine yRt ?_
   repeat (first | simp only [Exit.inBlock] | simp only [Exit.then])
   have h25 := tk5 (sf4 (sf3 (sf4 (sf4 (sf4 h23)))))
   have h26 := tk2 (sf1 (sf4 h25))
   refine hi_out [iV 0, iV 0, uV 0] (.tuple #[.agg #[iV 0, iV 0, uV 0], iV 2]) [(⟨r7, 0, none⟩, iV 0), (⟨r7, 1, none⟩, iV 0), (⟨r7, 2, none⟩, uV 0)] (by kernel_rfl) (allq ⟨sat_cell h23 0 rfl rfl, sat_cell h23 0 rfl rfl, sat_cell h23 0 rfl rfl, trivial⟩) ?_
   exact ⟨.tuple #[.agg #[iV 0, iV 0, uV 0], iV 2], [Tab b n A E RL], rfl, ⟨rfl, rfl⟩, h26⟩
  ·
   refine yA ?_
   refine yCl 14 Try.call38 (obj_f hx hy (by omega)) h14 ?_
   rintro v K w27 (⟨rfl, rfl⟩) h28
   refine ⟨_, rfl, ?_⟩
   have h29 := ap0 h28
   refine yB0 [] [5, 6] [(16, .bool true), (15, .bool true)] (.mk ?_)
   refine yK [(0, pV b), (4, pV r1), (5, pV r4), (6, pV r7), (16, .bool true)] fun lr30 => ?_
   refine yCt ?_
   refine ySq ?_
   refine yPl [0, 1, 2] ?_
   refine yB0 [1, 2] [0] [(17, .agg #[iV 0, iV 0, uV 0])] ?_
   have h31 := tk5 (sf4 (sf3 (sf4 (sf4 (sf4 h29)))))
   refine yA ?_
   refine yS [(0, iV 0), (1, iV 0), (2, uV 0)] [iV 0, iV 0, uV 0] h31 fun w32 h33 => ?_
   refine yB0 [] [2] [(7, iV 2)] (.mk ?_)
   refine yK [(6, pV r7), (7, iV 2)] fun lr34 => ?_
   refine yRt ?_
   repeat (first | simp only [Exit.inBlock] | simp only [Exit.then])
   have h35 := tk5 (sf4 (sf3 (sf4 (sf4 (sf4 h33)))))
   have h36 := tk2 (sf1 (sf4 h35))
   refine hi_out [iV 0, iV 0, uV 0] (.tuple #[.agg #[iV 0, iV 0, uV 0], iV 2]) [(⟨r7, 0, none⟩, iV 0), (⟨r7, 1, none⟩, iV 0), (⟨r7, 2, none⟩, uV 0)] (by kernel_rfl) (allq ⟨sat_cell h33 0 rfl rfl, sat_cell h33 0 rfl rfl, sat_cell h33 0 rfl rfl, trivial⟩) ?_
   exact ⟨.tuple #[.agg #[iV 0, iV 0, uV 0], iV 2], [Tab b n A E RL], rfl, ⟨rfl, rfl⟩, h36⟩
 ·
  refine yA ?_
  refine yCl 14 Try.call38 (obj_f hx hy (by omega)) h14 ?_
  rintro v K w37 (⟨rfl, rfl⟩) h38
  refine ⟨_, rfl, ?_⟩
  have h39 := ap0 h38
  refine yB0 [] [5, 6] [(16, .bool true), (15, .bool true)] (.mk ?_)
  refine yK [(0, pV b), (4, pV r1), (5, pV r4), (6, pV r7), (16, .bool true)] fun lr40 => ?_
  refine yCt ?_
  refine ySq ?_
  refine yPl [0, 1, 2] ?_
  refine yB0 [1, 2] [0] [(17, .agg #[iV 0, iV 0, uV 0])] ?_
  have h41 := tk5 (sf4 (sf3 (sf4 (sf4 (sf4 h39)))))
  refine yA ?_
  refine yS [(0, iV 0), (1, iV 0), (2, uV 0)] [iV 0, iV 0, uV 0] h41 fun w42 h43 => ?_
  refine yB0 [] [2] [(7, iV 2)] (.mk ?_)
  refine yK [(6, pV r7), (7, iV 2)] fun lr44 => ?_
  refine yRt ?_
  repeat (first | simp only [Exit.inBlock] | simp only [Exit.then])
  have h45 := tk5 (sf4 (sf3 (sf4 (sf4 (sf4 h43)))))
  have h46 := tk2 (sf1 (sf4 h45))
  refine hi_out [iV 0, iV 0, uV 0] (.tuple #[.agg #[iV 0, iV 0, uV 0], iV 2]) [(⟨r7, 0, none⟩, iV 0), (⟨r7, 1, none⟩, iV 0), (⟨r7, 2, none⟩, uV 0)] (by kernel_rfl) (allq ⟨sat_cell h43 0 rfl rfl, sat_cell h43 0 rfl rfl, sat_cell h43 0 rfl rfl, trivial⟩) ?_
  exact ⟨.tuple #[.agg #[iV 0, iV 0, uV 0], iV 2], [Tab b n A E RL], rfl, ⟨rfl, rfl⟩, h46⟩

set_option maxHeartbeats 4000000 in
theorem tdup_bad (b n : Nat) (A : List Sl2) (E : Tm) (RL : List Rs) (x y z : Int) (hx hy : Int) (hob : 0 ≤ hx ∧ hx ≤ 255 ∧ 1 ≤ hy) (hz0 : 0 ≤ z) (hz1 : z ≤ 4294967295) (ho : ¬ (1 ≤ x ∧ x ≤ 3 ∧ 0 ≤ y ∧ y ≤ 255 ∧ 1 ≤ z)) : HT Try.prog 14 [Value.pointer (some ⟨b, 0, none⟩), Value.agg #[Value.int IntKind.i64 x, Value.int IntKind.i64 y, Value.int IntKind.u32 z], Value.agg #[Value.int IntKind.i64 hx, Value.int IntKind.u32 hy]] [Tab b n A E RL] (fun v K => v = Value.tuple #[Value.agg #[Value.int IntKind.i64 0, Value.int IntKind.i64 0, Value.int IntKind.u32 0], Value.int IntKind.i64 2] ∧ K = [Tab b n A E RL]) := by
 refine hi_in 41 ([(0, pV b), (1, .agg #[iV x, iV y, uV z]), (2, .agg #[iV hx, uV hy])] : Fr) Try.func14 (by kernel_rfl) Try.ntmps14 rfl rfl ?_
 intro g w0 R h0
 refine ySq ?_
 refine yPl [0, 1, 2, 3] ?_
 refine yA ?_
 refine yNp 4 28 [iV x, iV y, uV z] h0 fun r1 w2 h3 => ?_
 refine yA ?_
 refine yNp 5 34 [iV hx, uV hy] h3 fun r4 w5 h6 => ?_
 refine yA ?_
 refine yNp 6 28 [iV 0, iV 0, uV 0] h6 fun r7 w8 h9 => ?_
 refine yB0 [] [3] [(7, iV 0)] (.mk ?_)
 refine yK [(0, pV b), (4, pV r1), (5, pV r4), (6, pV r7)] fun lr10 => ?_
 refine ySq ?_
 refine ySq ?_
 refine yPl [0, 1, 2, 3, 4, 5, 6] ?_
 refine yB0 [1, 2, 3, 4, 5, 6] [0] [(10, pV b)] ?_
 have h11 := tk5 (sf4 (sf3 (sf3 (sf3 (sf4 h9)))))
 refine yA ?_
 refine yCl 11 Try.call36 (tvalid_ht b n A E RL) h11 ?_
 rintro v K w12 (⟨rfl, rfl⟩) h13
 refine ⟨_, rfl, ?_⟩
 have h14 := ap1 h13
 refine yBb [4, 5, 6] [(13, .agg #[iV hx, uV hy]), (12, .bool true)] [e0 2, e2 3 [iV hx, uV hy]] [(3, ⟨r4, 0, none⟩, iV hx), (3, ⟨r4, 1, none⟩, uV hy)] [] trivial (kC (sat_cell h14 2 rfl rfl) (kC (sat_cell h14 2 rfl rfl) nC)) ?_
 refine yA ?_
 refine yCl 14 Try.call38 (obj_t hx hy (by omega)) h14 ?_
 rintro v K w15 (⟨rfl, rfl⟩) h16
 refine ⟨_, rfl, ?_⟩
 have h17 := ap0 h16
 refine yB0 [] [5, 6] [(16, .bool false), (15, .bool false)] (.mk ?_)
 refine yK [(0, pV b), (4, pV r1), (5, pV r4), (6, pV r7), (16, .bool false)] fun lr18 => ?_
 refine yCf ?_
 refine ySk ?_
 refine ySq ?_
 refine yPl [0, 1, 2, 3, 4, 5, 6, 7, 8] ?_
 refine yBb [2, 3, 4, 5, 6, 7, 8] [(20, .agg #[iV x, iV y, uV z]), (19, pV b)] [e0 0, e2 1 [iV x, iV y, uV z]] [(1, ⟨r1, 0, none⟩, iV x), (1, ⟨r1, 1, none⟩, iV y), (1, ⟨r1, 2, none⟩, uV z)] [] trivial (kC (sat_cell h17 3 rfl rfl) (kC (sat_cell h17 3 rfl rfl) (kC (sat_cell h17 3 rfl rfl) nC))) ?_
 refine yA ?_
 refine yCl 21 Try.call44 (tfind_bad b n A E RL x y z (by omega) (by omega) (by omega)) h17 ?_
 rintro v K w19 (⟨rfl, rfl⟩) h20
 refine ⟨_, rfl, ?_⟩
 have h21 := ap1 h20
 refine yB0 [6, 7, 8] [3, 4, 5] [(23, iV 2), (22, .agg #[iV 0, iV 0, uV 0, iV 0, iV 0, uV 0]), (18, .tuple #[.agg #[iV 0, iV 0, uV 0, iV 0, iV 0, uV 0], iV 2])] ?_
 refine yA ?_
 refine yNp 8 90 [iV 0, iV 0, uV 0, iV 0, iV 0, uV 0] h21 fun r22 w23 h24 => ?_
 refine yA ?_
 refine yS [(0, iV 0), (1, iV 0), (2, uV 0), (3, iV 0), (4, iV 0), (5, uV 0)] [iV 0, iV 0, uV 0, iV 0, iV 0, uV 0] h24 fun w25 h26 => ?_
 refine yB0 [] [8] [(9, iV 2)] (.mk ?_)
 refine yK [(0, pV b), (5, pV r4), (6, pV r7), (8, pV r22), (9, iV 2)] fun lr27 => ?_
 refine ySq ?_
 refine yBk 0 ?_
 refine ySq ?_
 refine yPl [0, 1, 2] ?_
 refine yB0 [] [0, 1, 2] [(24, .bool true), (26, .bool true), (25, iV 2)] (.mk ?_)
 refine yK [(0, pV b), (5, pV r4), (6, pV r7), (8, pV r22), (9, iV 2), (24, .bool true)] fun lr28 => ?_
 refine yCt ?_
 refine ySq ?_
 refine yPl [0, 1, 2, 3] ?_
 refine yB0 [2, 3] [0, 1] [(28, iV 2), (27, .agg #[iV 0, iV 0, uV 0])] ?_
 have h29 := tk6 (sf5 (sf4 (sf4 (sf5 (sf5 (sf5 h26))))))
 refine yA ?_
 refine yS [(0, iV 0), (1, iV 0), (2, uV 0)] [iV 0, iV 0, uV 0] h29 fun w30 h31 => ?_
 refine yB0 [] [3] [(7, iV 2)] (.mk ?_)
 refine yK [(6, pV r7), (7, iV 2)] fun lr32 => ?_
 refine yRt ?_
 repeat (first | simp only [Exit.inBlock] | simp only [Exit.then])
 have h33 := tk6 (sf5 (sf4 (sf4 (sf5 (sf5 (sf5 h31))))))
 have h34 := tk2 (sf1 (sf5 h33))
 refine hi_out [iV 0, iV 0, uV 0] (.tuple #[.agg #[iV 0, iV 0, uV 0], iV 2]) [(⟨r7, 0, none⟩, iV 0), (⟨r7, 1, none⟩, iV 0), (⟨r7, 2, none⟩, uV 0)] (by kernel_rfl) (allq ⟨sat_cell h31 0 rfl rfl, sat_cell h31 0 rfl rfl, sat_cell h31 0 rfl rfl, trivial⟩) ?_
 exact ⟨.tuple #[.agg #[iV 0, iV 0, uV 0], iV 2], [Tab b n A E RL], rfl, ⟨rfl, rfl⟩, h34⟩

set_option maxHeartbeats 4000000 in
theorem tdup_none (b n : Nat) (A : List Sl2) (E : Tm) (RL : List Rs) (x y z : Int) (hx hy : Int) (hob : 0 ≤ hx ∧ hx ≤ 255 ∧ 1 ≤ hy) (hz0 : 0 ≤ z) (hz1 : z ≤ 4294967295) (ho : 1 ≤ x ∧ x ≤ 3 ∧ 0 ≤ y ∧ y ≤ 255 ∧ 1 ≤ z) (hg_ : gget E y = none) : HT Try.prog 14 [Value.pointer (some ⟨b, 0, none⟩), Value.agg #[Value.int IntKind.i64 x, Value.int IntKind.i64 y, Value.int IntKind.u32 z], Value.agg #[Value.int IntKind.i64 hx, Value.int IntKind.u32 hy]] [Tab b n A E RL] (fun v K => v = Value.tuple #[Value.agg #[Value.int IntKind.i64 0, Value.int IntKind.i64 0, Value.int IntKind.u32 0], Value.int IntKind.i64 7] ∧ K = [Tab b n A E RL]) := by
 refine hi_in 41 ([(0, pV b), (1, .agg #[iV x, iV y, uV z]), (2, .agg #[iV hx, uV hy])] : Fr) Try.func14 (by kernel_rfl) Try.ntmps14 rfl rfl ?_
 intro g w0 R h0
 refine ySq ?_
 refine yPl [0, 1, 2, 3] ?_
 refine yA ?_
 refine yNp 4 28 [iV x, iV y, uV z] h0 fun r1 w2 h3 => ?_
 refine yA ?_
 refine yNp 5 34 [iV hx, uV hy] h3 fun r4 w5 h6 => ?_
 refine yA ?_
 refine yNp 6 28 [iV 0, iV 0, uV 0] h6 fun r7 w8 h9 => ?_
 refine yB0 [] [3] [(7, iV 0)] (.mk ?_)
 refine yK [(0, pV b), (4, pV r1), (5, pV r4), (6, pV r7)] fun lr10 => ?_
 refine ySq ?_
 refine ySq ?_
 refine yPl [0, 1, 2, 3, 4, 5, 6] ?_
 refine yB0 [1, 2, 3, 4, 5, 6] [0] [(10, pV b)] ?_
 have h11 := tk5 (sf4 (sf3 (sf3 (sf3 (sf4 h9)))))
 refine yA ?_
 refine yCl 11 Try.call36 (tvalid_ht b n A E RL) h11 ?_
 rintro v K w12 (⟨rfl, rfl⟩) h13
 refine ⟨_, rfl, ?_⟩
 have h14 := ap1 h13
 refine yBb [4, 5, 6] [(13, .agg #[iV hx, uV hy]), (12, .bool true)] [e0 2, e2 3 [iV hx, uV hy]] [(3, ⟨r4, 0, none⟩, iV hx), (3, ⟨r4, 1, none⟩, uV hy)] [] trivial (kC (sat_cell h14 2 rfl rfl) (kC (sat_cell h14 2 rfl rfl) nC)) ?_
 refine yA ?_
 refine yCl 14 Try.call38 (obj_t hx hy (by omega)) h14 ?_
 rintro v K w15 (⟨rfl, rfl⟩) h16
 refine ⟨_, rfl, ?_⟩
 have h17 := ap0 h16
 refine yB0 [] [5, 6] [(16, .bool false), (15, .bool false)] (.mk ?_)
 refine yK [(0, pV b), (4, pV r1), (5, pV r4), (6, pV r7), (16, .bool false)] fun lr18 => ?_
 refine yCf ?_
 refine ySk ?_
 refine ySq ?_
 refine yPl [0, 1, 2, 3, 4, 5, 6, 7, 8] ?_
 refine yBb [2, 3, 4, 5, 6, 7, 8] [(20, .agg #[iV x, iV y, uV z]), (19, pV b)] [e0 0, e2 1 [iV x, iV y, uV z]] [(1, ⟨r1, 0, none⟩, iV x), (1, ⟨r1, 1, none⟩, iV y), (1, ⟨r1, 2, none⟩, uV z)] [] trivial (kC (sat_cell h17 3 rfl rfl) (kC (sat_cell h17 3 rfl rfl) (kC (sat_cell h17 3 rfl rfl) nC))) ?_
 refine yA ?_
 refine yCl 21 Try.call44 (tfind_none b n A E RL x y z (by omega) (by omega) (by omega) hg_) h17 ?_
 rintro v K w19 (⟨rfl, rfl⟩) h20
 refine ⟨_, rfl, ?_⟩
 have h21 := ap1 h20
 refine yB0 [6, 7, 8] [3, 4, 5] [(23, iV 7), (22, .agg #[iV 0, iV 0, uV 0, iV 0, iV 0, uV 0]), (18, .tuple #[.agg #[iV 0, iV 0, uV 0, iV 0, iV 0, uV 0], iV 7])] ?_
 refine yA ?_
 refine yNp 8 90 [iV 0, iV 0, uV 0, iV 0, iV 0, uV 0] h21 fun r22 w23 h24 => ?_
 refine yA ?_
 refine yS [(0, iV 0), (1, iV 0), (2, uV 0), (3, iV 0), (4, iV 0), (5, uV 0)] [iV 0, iV 0, uV 0, iV 0, iV 0, uV 0] h24 fun w25 h26 => ?_
 refine yB0 [] [8] [(9, iV 7)] (.mk ?_)
 refine yK [(0, pV b), (5, pV r4), (6, pV r7), (8, pV r22), (9, iV 7)] fun lr27 => ?_
 refine ySq ?_
 refine yBk 0 ?_
 refine ySq ?_
 refine yPl [0, 1, 2] ?_
 refine yB0 [] [0, 1, 2] [(24, .bool true), (26, .bool true), (25, iV 7)] (.mk ?_)
 refine yK [(0, pV b), (5, pV r4), (6, pV r7), (8, pV r22), (9, iV 7), (24, .bool true)] fun lr28 => ?_
 refine yCt ?_
 refine ySq ?_
 refine yPl [0, 1, 2, 3] ?_
 refine yB0 [2, 3] [0, 1] [(28, iV 7), (27, .agg #[iV 0, iV 0, uV 0])] ?_
 have h29 := tk6 (sf5 (sf4 (sf4 (sf5 (sf5 (sf5 h26))))))
 refine yA ?_
 refine yS [(0, iV 0), (1, iV 0), (2, uV 0)] [iV 0, iV 0, uV 0] h29 fun w30 h31 => ?_
 refine yB0 [] [3] [(7, iV 7)] (.mk ?_)
 refine yK [(6, pV r7), (7, iV 7)] fun lr32 => ?_
 refine yRt ?_
 repeat (first | simp only [Exit.inBlock] | simp only [Exit.then])
 have h33 := tk6 (sf5 (sf4 (sf4 (sf5 (sf5 (sf5 h31))))))
 have h34 := tk2 (sf1 (sf5 h33))
 refine hi_out [iV 0, iV 0, uV 0] (.tuple #[.agg #[iV 0, iV 0, uV 0], iV 7]) [(⟨r7, 0, none⟩, iV 0), (⟨r7, 1, none⟩, iV 0), (⟨r7, 2, none⟩, uV 0)] (by kernel_rfl) (allq ⟨sat_cell h31 0 rfl rfl, sat_cell h31 0 rfl rfl, sat_cell h31 0 rfl rfl, trivial⟩) ?_
 exact ⟨.tuple #[.agg #[iV 0, iV 0, uV 0], iV 7], [Tab b n A E RL], rfl, ⟨rfl, rfl⟩, h34⟩

set_option maxHeartbeats 4000000 in
theorem tdup_diff (b n : Nat) (A : List Sl2) (E : Tm) (RL : List Rs) (x y z : Int) (hx hy : Int) (hob : 0 ≤ hx ∧ hx ≤ 255 ∧ 1 ≤ hy) (e : Ety) (hz0 : 0 ≤ z) (hz1 : z ≤ 4294967295) (ho : 1 ≤ x ∧ x ≤ 3 ∧ 0 ≤ y ∧ y ≤ 255 ∧ 1 ≤ z) (hg_ : gget E y = some e) (hd_ : ¬ (e.d.1 = x ∧ e.d.2.1 = y ∧ e.d.2.2 = z)) : HT Try.prog 14 [Value.pointer (some ⟨b, 0, none⟩), Value.agg #[Value.int IntKind.i64 x, Value.int IntKind.i64 y, Value.int IntKind.u32 z], Value.agg #[Value.int IntKind.i64 hx, Value.int IntKind.u32 hy]] [Tab b n A E RL] (fun v K => v = Value.tuple #[Value.agg #[Value.int IntKind.i64 0, Value.int IntKind.i64 0, Value.int IntKind.u32 0], Value.int IntKind.i64 7] ∧ K = [Tab b n A E RL]) := by
 refine hi_in 41 ([(0, pV b), (1, .agg #[iV x, iV y, uV z]), (2, .agg #[iV hx, uV hy])] : Fr) Try.func14 (by kernel_rfl) Try.ntmps14 rfl rfl ?_
 intro g w0 R h0
 refine ySq ?_
 refine yPl [0, 1, 2, 3] ?_
 refine yA ?_
 refine yNp 4 28 [iV x, iV y, uV z] h0 fun r1 w2 h3 => ?_
 refine yA ?_
 refine yNp 5 34 [iV hx, uV hy] h3 fun r4 w5 h6 => ?_
 refine yA ?_
 refine yNp 6 28 [iV 0, iV 0, uV 0] h6 fun r7 w8 h9 => ?_
 refine yB0 [] [3] [(7, iV 0)] (.mk ?_)
 refine yK [(0, pV b), (4, pV r1), (5, pV r4), (6, pV r7)] fun lr10 => ?_
 refine ySq ?_
 refine ySq ?_
 refine yPl [0, 1, 2, 3, 4, 5, 6] ?_
 refine yB0 [1, 2, 3, 4, 5, 6] [0] [(10, pV b)] ?_
 have h11 := tk5 (sf4 (sf3 (sf3 (sf3 (sf4 h9)))))
 refine yA ?_
 refine yCl 11 Try.call36 (tvalid_ht b n A E RL) h11 ?_
 rintro v K w12 (⟨rfl, rfl⟩) h13
 refine ⟨_, rfl, ?_⟩
 have h14 := ap1 h13
 refine yBb [4, 5, 6] [(13, .agg #[iV hx, uV hy]), (12, .bool true)] [e0 2, e2 3 [iV hx, uV hy]] [(3, ⟨r4, 0, none⟩, iV hx), (3, ⟨r4, 1, none⟩, uV hy)] [] trivial (kC (sat_cell h14 2 rfl rfl) (kC (sat_cell h14 2 rfl rfl) nC)) ?_
 refine yA ?_
 refine yCl 14 Try.call38 (obj_t hx hy (by omega)) h14 ?_
 rintro v K w15 (⟨rfl, rfl⟩) h16
 refine ⟨_, rfl, ?_⟩
 have h17 := ap0 h16
 refine yB0 [] [5, 6] [(16, .bool false), (15, .bool false)] (.mk ?_)
 refine yK [(0, pV b), (4, pV r1), (5, pV r4), (6, pV r7), (16, .bool false)] fun lr18 => ?_
 refine yCf ?_
 refine ySk ?_
 refine ySq ?_
 refine yPl [0, 1, 2, 3, 4, 5, 6, 7, 8] ?_
 refine yBb [2, 3, 4, 5, 6, 7, 8] [(20, .agg #[iV x, iV y, uV z]), (19, pV b)] [e0 0, e2 1 [iV x, iV y, uV z]] [(1, ⟨r1, 0, none⟩, iV x), (1, ⟨r1, 1, none⟩, iV y), (1, ⟨r1, 2, none⟩, uV z)] [] trivial (kC (sat_cell h17 3 rfl rfl) (kC (sat_cell h17 3 rfl rfl) (kC (sat_cell h17 3 rfl rfl) nC))) ?_
 refine yA ?_
 refine yCl 21 Try.call44 (tfind_diff b n A E RL x y z e (by omega) (by omega) (by omega) hg_ (by omega)) h17 ?_
 rintro v K w19 (⟨rfl, rfl⟩) h20
 refine ⟨_, rfl, ?_⟩
 have h21 := ap1 h20
 refine yB0 [6, 7, 8] [3, 4, 5] [(23, iV 7), (22, .agg #[iV 0, iV 0, uV 0, iV 0, iV 0, uV 0]), (18, .tuple #[.agg #[iV 0, iV 0, uV 0, iV 0, iV 0, uV 0], iV 7])] ?_
 refine yA ?_
 refine yNp 8 90 [iV 0, iV 0, uV 0, iV 0, iV 0, uV 0] h21 fun r22 w23 h24 => ?_
 refine yA ?_
 refine yS [(0, iV 0), (1, iV 0), (2, uV 0), (3, iV 0), (4, iV 0), (5, uV 0)] [iV 0, iV 0, uV 0, iV 0, iV 0, uV 0] h24 fun w25 h26 => ?_
 refine yB0 [] [8] [(9, iV 7)] (.mk ?_)
 refine yK [(0, pV b), (5, pV r4), (6, pV r7), (8, pV r22), (9, iV 7)] fun lr27 => ?_
 refine ySq ?_
 refine yBk 0 ?_
 refine ySq ?_
 refine yPl [0, 1, 2] ?_
 refine yB0 [] [0, 1, 2] [(24, .bool true), (26, .bool true), (25, iV 7)] (.mk ?_)
 refine yK [(0, pV b), (5, pV r4), (6, pV r7), (8, pV r22), (9, iV 7), (24, .bool true)] fun lr28 => ?_
 refine yCt ?_
 refine ySq ?_
 refine yPl [0, 1, 2, 3] ?_
 refine yB0 [2, 3] [0, 1] [(28, iV 7), (27, .agg #[iV 0, iV 0, uV 0])] ?_
 have h29 := tk6 (sf5 (sf4 (sf4 (sf5 (sf5 (sf5 h26))))))
 refine yA ?_
 refine yS [(0, iV 0), (1, iV 0), (2, uV 0)] [iV 0, iV 0, uV 0] h29 fun w30 h31 => ?_
 refine yB0 [] [3] [(7, iV 7)] (.mk ?_)
 refine yK [(6, pV r7), (7, iV 7)] fun lr32 => ?_
 refine yRt ?_
 repeat (first | simp only [Exit.inBlock] | simp only [Exit.then])
 have h33 := tk6 (sf5 (sf4 (sf4 (sf5 (sf5 (sf5 h31))))))
 have h34 := tk2 (sf1 (sf5 h33))
 refine hi_out [iV 0, iV 0, uV 0] (.tuple #[.agg #[iV 0, iV 0, uV 0], iV 7]) [(⟨r7, 0, none⟩, iV 0), (⟨r7, 1, none⟩, iV 0), (⟨r7, 2, none⟩, uV 0)] (by kernel_rfl) (allq ⟨sat_cell h31 0 rfl rfl, sat_cell h31 0 rfl rfl, sat_cell h31 0 rfl rfl, trivial⟩) ?_
 exact ⟨.tuple #[.agg #[iV 0, iV 0, uV 0], iV 7], [Tab b n A E RL], rfl, ⟨rfl, rfl⟩, h34⟩

set_option maxHeartbeats 4000000 in
theorem tdup_have (b n : Nat) (A : List Sl2) (E : Tm) (RL : List Rs) (x y z : Int) (hx hy : Int) (hob : 0 ≤ hx ∧ hx ≤ 255 ∧ 1 ≤ hy) (e : Ety) (hz0 : 0 ≤ z) (hz1 : z ≤ 4294967295) (ho : 1 ≤ x ∧ x ≤ 3 ∧ 0 ≤ y ∧ y ≤ 255 ∧ 1 ≤ z) (hg_ : gget E y = some e) (hd_ : e.d.1 = x ∧ e.d.2.1 = y ∧ e.d.2.2 = z) (hh : ∃ e ∈ allE E, e.h = (hx, hy)) : HT Try.prog 14 [Value.pointer (some ⟨b, 0, none⟩), Value.agg #[Value.int IntKind.i64 x, Value.int IntKind.i64 y, Value.int IntKind.u32 z], Value.agg #[Value.int IntKind.i64 hx, Value.int IntKind.u32 hy]] [Tab b n A E RL] (fun v K => v = Value.tuple #[Value.agg #[Value.int IntKind.i64 0, Value.int IntKind.i64 0, Value.int IntKind.u32 0], Value.int IntKind.i64 6] ∧ K = [Tab b n A E RL]) := by
 refine hi_in 41 ([(0, pV b), (1, .agg #[iV x, iV y, uV z]), (2, .agg #[iV hx, uV hy])] : Fr) Try.func14 (by kernel_rfl) Try.ntmps14 rfl rfl ?_
 intro g w0 R h0
 refine ySq ?_
 refine yPl [0, 1, 2, 3] ?_
 refine yA ?_
 refine yNp 4 28 [iV x, iV y, uV z] h0 fun r1 w2 h3 => ?_
 refine yA ?_
 refine yNp 5 34 [iV hx, uV hy] h3 fun r4 w5 h6 => ?_
 refine yA ?_
 refine yNp 6 28 [iV 0, iV 0, uV 0] h6 fun r7 w8 h9 => ?_
 refine yB0 [] [3] [(7, iV 0)] (.mk ?_)
 refine yK [(0, pV b), (4, pV r1), (5, pV r4), (6, pV r7)] fun lr10 => ?_
 refine ySq ?_
 refine ySq ?_
 refine yPl [0, 1, 2, 3, 4, 5, 6] ?_
 refine yB0 [1, 2, 3, 4, 5, 6] [0] [(10, pV b)] ?_
 have h11 := tk5 (sf4 (sf3 (sf3 (sf3 (sf4 h9)))))
 refine yA ?_
 refine yCl 11 Try.call36 (tvalid_ht b n A E RL) h11 ?_
 rintro v K w12 (⟨rfl, rfl⟩) h13
 refine ⟨_, rfl, ?_⟩
 have h14 := ap1 h13
 refine yBb [4, 5, 6] [(13, .agg #[iV hx, uV hy]), (12, .bool true)] [e0 2, e2 3 [iV hx, uV hy]] [(3, ⟨r4, 0, none⟩, iV hx), (3, ⟨r4, 1, none⟩, uV hy)] [] trivial (kC (sat_cell h14 2 rfl rfl) (kC (sat_cell h14 2 rfl rfl) nC)) ?_
 refine yA ?_
 refine yCl 14 Try.call38 (obj_t hx hy (by omega)) h14 ?_
 rintro v K w15 (⟨rfl, rfl⟩) h16
 refine ⟨_, rfl, ?_⟩
 have h17 := ap0 h16
 refine yB0 [] [5, 6] [(16, .bool false), (15, .bool false)] (.mk ?_)
 refine yK [(0, pV b), (4, pV r1), (5, pV r4), (6, pV r7), (16, .bool false)] fun lr18 => ?_
 refine yCf ?_
 refine ySk ?_
 refine ySq ?_
 refine yPl [0, 1, 2, 3, 4, 5, 6, 7, 8] ?_
 refine yBb [2, 3, 4, 5, 6, 7, 8] [(20, .agg #[iV x, iV y, uV z]), (19, pV b)] [e0 0, e2 1 [iV x, iV y, uV z]] [(1, ⟨r1, 0, none⟩, iV x), (1, ⟨r1, 1, none⟩, iV y), (1, ⟨r1, 2, none⟩, uV z)] [] trivial (kC (sat_cell h17 3 rfl rfl) (kC (sat_cell h17 3 rfl rfl) (kC (sat_cell h17 3 rfl rfl) nC))) ?_
 refine yA ?_
 refine yCl 21 Try.call44 (tfind_ok b n A E RL x y z e (by omega) (by omega) (by omega) hg_ (by omega)) h17 ?_
 rintro v K w19 (⟨rfl, rfl⟩) h20
 refine ⟨_, rfl, ?_⟩
 have h21 := ap1 h20
 refine yB0 [6, 7, 8] [3, 4, 5] [(23, iV 0), (22, .agg #[iV e.d.1, iV e.d.2.1, uV e.d.2.2, iV e.num, iV e.h.1, uV e.h.2]), (18, .tuple #[.agg #[iV e.d.1, iV e.d.2.1, uV e.d.2.2, iV e.num, iV e.h.1, uV e.h.2], iV 0])] ?_
 refine yA ?_
 refine yNp 8 90 [iV 0, iV 0, uV 0, iV 0, iV 0, uV 0] h21 fun r22 w23 h24 => ?_
 refine yA ?_
 refine yS [(0, iV e.d.1), (1, iV e.d.2.1), (2, uV e.d.2.2), (3, iV e.num), (4, iV e.h.1), (5, uV e.h.2)] [iV e.d.1, iV e.d.2.1, uV e.d.2.2, iV e.num, iV e.h.1, uV e.h.2] h24 fun w25 h26 => ?_
 refine yB0 [] [8] [(9, iV 0)] (.mk ?_)
 refine yK [(0, pV b), (5, pV r4), (6, pV r7), (8, pV r22), (9, iV 0)] fun lr27 => ?_
 refine ySq ?_
 refine yBk 0 ?_
 refine ySq ?_
 refine yPl [0, 1, 2] ?_
 refine yB0 [] [0, 1, 2] [(24, .bool false), (26, .bool false), (25, iV 0)] (.mk ?_)
 refine yK [(0, pV b), (5, pV r4), (6, pV r7), (8, pV r22), (9, iV 0), (24, .bool false)] fun lr28 => ?_
 refine yCf ?_
 refine ySq ?_
 refine yPl [0, 1, 2, 3] ?_
 refine yBb [2, 3] [(31, .agg #[iV hx, uV hy]), (30, pV b)] [e0 0, e2 1 [iV hx, uV hy]] [(1, ⟨r4, 0, none⟩, iV hx), (1, ⟨r4, 1, none⟩, uV hy)] [] trivial (kC (sat_cell h26 3 rfl rfl) (kC (sat_cell h26 3 rfl rfl) nC)) ?_
 have h29 := tk6 (sf5 (sf4 (sf5 (sf5 (sf5 (sf5 h26))))))
 refine yA ?_
 refine yCl 32 Try.call41 (thas_t b n A E RL hx hy hh) h29 ?_
 rintro v K w30 (⟨rfl, rfl⟩) h31
 refine ⟨_, rfl, ?_⟩
 have h32 := ap1 h31
 refine yB0 [] [3] [(29, .bool true)] (.mk ?_)
 refine yK [(0, pV b), (5, pV r4), (6, pV r7), (8, pV r22), (29, .bool true)] fun lr33 => ?_
 refine yCt ?_
 refine ySq ?_
 refine yPl [0, 1, 2] ?_
 refine yB0 [1, 2] [0] [(33, .agg #[iV 0, iV 0, uV 0])] ?_
 have h34 := tk6 (sf5 (sf4 (sf4 (sf5 (sf5 (sf5 h32))))))
 refine yA ?_
 refine yS [(0, iV 0), (1, iV 0), (2, uV 0)] [iV 0, iV 0, uV 0] h34 fun w35 h36 => ?_
 refine yB0 [] [2] [(7, iV 6)] (.mk ?_)
 refine yK [(6, pV r7), (7, iV 6)] fun lr37 => ?_
 refine yRt ?_
 repeat (first | simp only [Exit.inBlock] | simp only [Exit.then])
 have h38 := tk6 (sf5 (sf4 (sf5 (sf5 (sf5 (sf5 h36))))))
 have h39 := tk2 (sf1 (sf5 h38))
 refine hi_out [iV 0, iV 0, uV 0] (.tuple #[.agg #[iV 0, iV 0, uV 0], iV 6]) [(⟨r7, 0, none⟩, iV 0), (⟨r7, 1, none⟩, iV 0), (⟨r7, 2, none⟩, uV 0)] (by kernel_rfl) (allq ⟨sat_cell h36 0 rfl rfl, sat_cell h36 0 rfl rfl, sat_cell h36 0 rfl rfl, trivial⟩) ?_
 exact ⟨.tuple #[.agg #[iV 0, iV 0, uV 0], iV 6], [Tab b n A E RL], rfl, ⟨rfl, rfl⟩, h39⟩

set_option maxHeartbeats 4000000 in
theorem tdup_full (b n : Nat) (A : List Sl2) (E : Tm) (RL : List Rs) (x y z : Int) (hx hy : Int) (hob : 0 ≤ hx ∧ hx ≤ 255 ∧ 1 ≤ hy) (e : Ety) (hz0 : 0 ≤ z) (hz1 : z ≤ 4294967295) (ho : 1 ≤ x ∧ x ≤ 3 ∧ 0 ≤ y ∧ y ≤ 255 ∧ 1 ≤ z) (hg_ : gget E y = some e) (hd_ : e.d.1 = x ∧ e.d.2.1 = y ∧ e.d.2.2 = z) (hh : ∀ e ∈ allE E, e.h ≠ (hx, hy)) (q : Nat) (r : Rs) (hr : RL[q]? = some r) (hv : e.num = (q : Int) + 1) (hf : (inS 0 A 0).length = 0) : HT Try.prog 14 [Value.pointer (some ⟨b, 0, none⟩), Value.agg #[Value.int IntKind.i64 x, Value.int IntKind.i64 y, Value.int IntKind.u32 z], Value.agg #[Value.int IntKind.i64 hx, Value.int IntKind.u32 hy]] [Tab b n A E RL] (fun v K => v = Value.tuple #[Value.agg #[Value.int IntKind.i64 0, Value.int IntKind.i64 0, Value.int IntKind.u32 0], Value.int IntKind.i64 4] ∧ K = [Tab b n A E RL]) := by
 refine hi_in 41 ([(0, pV b), (1, .agg #[iV x, iV y, uV z]), (2, .agg #[iV hx, uV hy])] : Fr) Try.func14 (by kernel_rfl) Try.ntmps14 rfl rfl ?_
 intro g w0 R h0
 refine ySq ?_
 refine yPl [0, 1, 2, 3] ?_
 refine yA ?_
 refine yNp 4 28 [iV x, iV y, uV z] h0 fun r1 w2 h3 => ?_
 refine yA ?_
 refine yNp 5 34 [iV hx, uV hy] h3 fun r4 w5 h6 => ?_
 refine yA ?_
 refine yNp 6 28 [iV 0, iV 0, uV 0] h6 fun r7 w8 h9 => ?_
 refine yB0 [] [3] [(7, iV 0)] (.mk ?_)
 refine yK [(0, pV b), (4, pV r1), (5, pV r4), (6, pV r7)] fun lr10 => ?_
 refine ySq ?_
 refine ySq ?_
 refine yPl [0, 1, 2, 3, 4, 5, 6] ?_
 refine yB0 [1, 2, 3, 4, 5, 6] [0] [(10, pV b)] ?_
 have h11 := tk5 (sf4 (sf3 (sf3 (sf3 (sf4 h9)))))
 refine yA ?_
 refine yCl 11 Try.call36 (tvalid_ht b n A E RL) h11 ?_
 rintro v K w12 (⟨rfl, rfl⟩) h13
 refine ⟨_, rfl, ?_⟩
 have h14 := ap1 h13
 refine yBb [4, 5, 6] [(13, .agg #[iV hx, uV hy]), (12, .bool true)] [e0 2, e2 3 [iV hx, uV hy]] [(3, ⟨r4, 0, none⟩, iV hx), (3, ⟨r4, 1, none⟩, uV hy)] [] trivial (kC (sat_cell h14 2 rfl rfl) (kC (sat_cell h14 2 rfl rfl) nC)) ?_
 refine yA ?_
 refine yCl 14 Try.call38 (obj_t hx hy (by omega)) h14 ?_
 rintro v K w15 (⟨rfl, rfl⟩) h16
 refine ⟨_, rfl, ?_⟩
 have h17 := ap0 h16
 refine yB0 [] [5, 6] [(16, .bool false), (15, .bool false)] (.mk ?_)
 refine yK [(0, pV b), (4, pV r1), (5, pV r4), (6, pV r7), (16, .bool false)] fun lr18 => ?_
 refine yCf ?_
 refine ySk ?_
 refine ySq ?_
 refine yPl [0, 1, 2, 3, 4, 5, 6, 7, 8] ?_
 refine yBb [2, 3, 4, 5, 6, 7, 8] [(20, .agg #[iV x, iV y, uV z]), (19, pV b)] [e0 0, e2 1 [iV x, iV y, uV z]] [(1, ⟨r1, 0, none⟩, iV x), (1, ⟨r1, 1, none⟩, iV y), (1, ⟨r1, 2, none⟩, uV z)] [] trivial (kC (sat_cell h17 3 rfl rfl) (kC (sat_cell h17 3 rfl rfl) (kC (sat_cell h17 3 rfl rfl) nC))) ?_
 refine yA ?_
 refine yCl 21 Try.call44 (tfind_ok b n A E RL x y z e (by omega) (by omega) (by omega) hg_ (by omega)) h17 ?_
 rintro v K w19 (⟨rfl, rfl⟩) h20
 refine ⟨_, rfl, ?_⟩
 have h21 := ap1 h20
 refine yB0 [6, 7, 8] [3, 4, 5] [(23, iV 0), (22, .agg #[iV e.d.1, iV e.d.2.1, uV e.d.2.2, iV e.num, iV e.h.1, uV e.h.2]), (18, .tuple #[.agg #[iV e.d.1, iV e.d.2.1, uV e.d.2.2, iV e.num, iV e.h.1, uV e.h.2], iV 0])] ?_
 refine yA ?_
 refine yNp 8 90 [iV 0, iV 0, uV 0, iV 0, iV 0, uV 0] h21 fun r22 w23 h24 => ?_
 refine yA ?_
 refine yS [(0, iV e.d.1), (1, iV e.d.2.1), (2, uV e.d.2.2), (3, iV e.num), (4, iV e.h.1), (5, uV e.h.2)] [iV e.d.1, iV e.d.2.1, uV e.d.2.2, iV e.num, iV e.h.1, uV e.h.2] h24 fun w25 h26 => ?_
 refine yB0 [] [8] [(9, iV 0)] (.mk ?_)
 refine yK [(0, pV b), (5, pV r4), (6, pV r7), (8, pV r22), (9, iV 0)] fun lr27 => ?_
 refine ySq ?_
 refine yBk 0 ?_
 refine ySq ?_
 refine yPl [0, 1, 2] ?_
 refine yB0 [] [0, 1, 2] [(24, .bool false), (26, .bool false), (25, iV 0)] (.mk ?_)
 refine yK [(0, pV b), (5, pV r4), (6, pV r7), (8, pV r22), (9, iV 0), (24, .bool false)] fun lr28 => ?_
 refine yCf ?_
 refine ySq ?_
 refine yPl [0, 1, 2, 3] ?_
 refine yBb [2, 3] [(31, .agg #[iV hx, uV hy]), (30, pV b)] [e0 0, e2 1 [iV hx, uV hy]] [(1, ⟨r4, 0, none⟩, iV hx), (1, ⟨r4, 1, none⟩, uV hy)] [] trivial (kC (sat_cell h26 3 rfl rfl) (kC (sat_cell h26 3 rfl rfl) nC)) ?_
 have h29 := tk6 (sf5 (sf4 (sf5 (sf5 (sf5 (sf5 h26))))))
 refine yA ?_
 refine yCl 32 Try.call41 (thas_f b n A E RL hx hy hh) h29 ?_
 rintro v K w30 (⟨rfl, rfl⟩) h31
 refine ⟨_, rfl, ?_⟩
 have h32 := ap1 h31
 refine yB0 [] [3] [(29, .bool false)] (.mk ?_)
 refine yK [(0, pV b), (5, pV r4), (6, pV r7), (8, pV r22), (29, .bool false)] fun lr33 => ?_
 refine yCf ?_
 refine ySk ?_
 refine ySq ?_
 refine yPl [0, 1, 2, 3, 4, 5, 6, 7, 8] ?_
 refine yBb [4, 5, 6, 7, 8] [(37, .agg #[iV hx, uV hy]), (36, iV e.num), (35, .pointer (some ⟨r22, 3, none⟩)), (34, pV b)] [e0 0, e0 1, e2 2 [iV e.num], e2 3 [iV hx, uV hy]] [(3, ⟨r4, 0, none⟩, iV hx), (3, ⟨r4, 1, none⟩, uV hy), (2, ⟨r22, 3, none⟩, iV e.num)] [] trivial (kC (sat_cell h32 3 rfl rfl) (kC (sat_cell h32 3 rfl rfl) (kC (sat_cell h32 1 rfl rfl) nC))) ?_
 refine yA ?_
 refine yCl 38 Try.call43 (tadd_full b n A E RL e.num hx hy q r hr (by omega) (by omega)) h32 ?_
 rintro v K w34 (⟨rfl, rfl⟩) h35
 refine ⟨_, rfl, ?_⟩
 have h36 := ap1 h35
 refine yB0 [7, 8] [5, 6] [(40, iV 4), (39, .agg #[iV 0, iV 0, uV 0])] ?_
 have h37 := tk6 (sf5 (sf4 (sf4 (sf5 (sf5 (sf5 h36))))))
 refine yA ?_
 refine yS [(0, iV 0), (1, iV 0), (2, uV 0)] [iV 0, iV 0, uV 0] h37 fun w38 h39 => ?_
 refine yB0 [] [8] [(7, iV 4)] (.mk ?_)
 refine yK [(6, pV r7), (7, iV 4)] fun lr40 => ?_
 refine yRt ?_
 repeat (first | simp only [Exit.inBlock] | simp only [Exit.then])
 have h41 := tk6 (sf5 (sf4 (sf5 (sf5 (sf5 (sf5 h39))))))
 have h42 := tk2 (sf1 (sf5 h41))
 refine hi_out [iV 0, iV 0, uV 0] (.tuple #[.agg #[iV 0, iV 0, uV 0], iV 4]) [(⟨r7, 0, none⟩, iV 0), (⟨r7, 1, none⟩, iV 0), (⟨r7, 2, none⟩, uV 0)] (by kernel_rfl) (allq ⟨sat_cell h39 0 rfl rfl, sat_cell h39 0 rfl rfl, sat_cell h39 0 rfl rfl, trivial⟩) ?_
 exact ⟨.tuple #[.agg #[iV 0, iV 0, uV 0], iV 4], [Tab b n A E RL], rfl, ⟨rfl, rfl⟩, h42⟩

set_option maxHeartbeats 4000000 in
theorem tdup_ok (b n : Nat) (A : List Sl2) (E : Tm) (RL : List Rs) (x y z : Int) (hx hy : Int) (hob : 0 ≤ hx ∧ hx ≤ 255 ∧ 1 ≤ hy) (e : Ety) (hz0 : 0 ≤ z) (hz1 : z ≤ 4294967295) (ho : 1 ≤ x ∧ x ≤ 3 ∧ 0 ≤ y ∧ y ≤ 255 ∧ 1 ≤ z) (hg_ : gget E y = some e) (hd_ : e.d.1 = x ∧ e.d.2.1 = y ∧ e.d.2.2 = z) (hh : ∀ e ∈ allE E, e.h ≠ (hx, hy)) (q : Nat) (r : Rs) (hr : RL[q]? = some r) (hv : e.num = (q : Int) + 1) (j : Nat) (gj : Int) (hj : (inS 0 A 0)[0]? = some (j, gj)) (hfl_ : 1 ≤ (inS 0 A 0).length) : HT Try.prog 14 [Value.pointer (some ⟨b, 0, none⟩), Value.agg #[Value.int IntKind.i64 x, Value.int IntKind.i64 y, Value.int IntKind.u32 z], Value.agg #[Value.int IntKind.i64 hx, Value.int IntKind.u32 hy]] [Tab b n A E RL] (fun v K => v = Value.tuple #[Value.agg #[Value.int IntKind.i64 r.out.1, Value.int IntKind.i64 (((j : Nat) : Int)), Value.int IntKind.u32 gj], Value.int IntKind.i64 0] ∧ K = [Tab b n (A.set j (1, gj)) (gset E (j : Int) ⟨(r.out.1, (j : Int), gj), e.num, (hx, hy)⟩) RL]) := by
 refine hi_in 41 ([(0, pV b), (1, .agg #[iV x, iV y, uV z]), (2, .agg #[iV hx, uV hy])] : Fr) Try.func14 (by kernel_rfl) Try.ntmps14 rfl rfl ?_
 intro g w0 R h0
 refine ySq ?_
 refine yPl [0, 1, 2, 3] ?_
 refine yA ?_
 refine yNp 4 28 [iV x, iV y, uV z] h0 fun r1 w2 h3 => ?_
 refine yA ?_
 refine yNp 5 34 [iV hx, uV hy] h3 fun r4 w5 h6 => ?_
 refine yA ?_
 refine yNp 6 28 [iV 0, iV 0, uV 0] h6 fun r7 w8 h9 => ?_
 refine yB0 [] [3] [(7, iV 0)] (.mk ?_)
 refine yK [(0, pV b), (4, pV r1), (5, pV r4), (6, pV r7)] fun lr10 => ?_
 refine ySq ?_
 refine ySq ?_
 refine yPl [0, 1, 2, 3, 4, 5, 6] ?_
 refine yB0 [1, 2, 3, 4, 5, 6] [0] [(10, pV b)] ?_
 have h11 := tk5 (sf4 (sf3 (sf3 (sf3 (sf4 h9)))))
 refine yA ?_
 refine yCl 11 Try.call36 (tvalid_ht b n A E RL) h11 ?_
 rintro v K w12 (⟨rfl, rfl⟩) h13
 refine ⟨_, rfl, ?_⟩
 have h14 := ap1 h13
 refine yBb [4, 5, 6] [(13, .agg #[iV hx, uV hy]), (12, .bool true)] [e0 2, e2 3 [iV hx, uV hy]] [(3, ⟨r4, 0, none⟩, iV hx), (3, ⟨r4, 1, none⟩, uV hy)] [] trivial (kC (sat_cell h14 2 rfl rfl) (kC (sat_cell h14 2 rfl rfl) nC)) ?_
 refine yA ?_
 refine yCl 14 Try.call38 (obj_t hx hy (by omega)) h14 ?_
 rintro v K w15 (⟨rfl, rfl⟩) h16
 refine ⟨_, rfl, ?_⟩
 have h17 := ap0 h16
 refine yB0 [] [5, 6] [(16, .bool false), (15, .bool false)] (.mk ?_)
 refine yK [(0, pV b), (4, pV r1), (5, pV r4), (6, pV r7), (16, .bool false)] fun lr18 => ?_
 refine yCf ?_
 refine ySk ?_
 refine ySq ?_
 refine yPl [0, 1, 2, 3, 4, 5, 6, 7, 8] ?_
 refine yBb [2, 3, 4, 5, 6, 7, 8] [(20, .agg #[iV x, iV y, uV z]), (19, pV b)] [e0 0, e2 1 [iV x, iV y, uV z]] [(1, ⟨r1, 0, none⟩, iV x), (1, ⟨r1, 1, none⟩, iV y), (1, ⟨r1, 2, none⟩, uV z)] [] trivial (kC (sat_cell h17 3 rfl rfl) (kC (sat_cell h17 3 rfl rfl) (kC (sat_cell h17 3 rfl rfl) nC))) ?_
 refine yA ?_
 refine yCl 21 Try.call44 (tfind_ok b n A E RL x y z e (by omega) (by omega) (by omega) hg_ (by omega)) h17 ?_
 rintro v K w19 (⟨rfl, rfl⟩) h20
 refine ⟨_, rfl, ?_⟩
 have h21 := ap1 h20
 refine yB0 [6, 7, 8] [3, 4, 5] [(23, iV 0), (22, .agg #[iV e.d.1, iV e.d.2.1, uV e.d.2.2, iV e.num, iV e.h.1, uV e.h.2]), (18, .tuple #[.agg #[iV e.d.1, iV e.d.2.1, uV e.d.2.2, iV e.num, iV e.h.1, uV e.h.2], iV 0])] ?_
 refine yA ?_
 refine yNp 8 90 [iV 0, iV 0, uV 0, iV 0, iV 0, uV 0] h21 fun r22 w23 h24 => ?_
 refine yA ?_
 refine yS [(0, iV e.d.1), (1, iV e.d.2.1), (2, uV e.d.2.2), (3, iV e.num), (4, iV e.h.1), (5, uV e.h.2)] [iV e.d.1, iV e.d.2.1, uV e.d.2.2, iV e.num, iV e.h.1, uV e.h.2] h24 fun w25 h26 => ?_
 refine yB0 [] [8] [(9, iV 0)] (.mk ?_)
 refine yK [(0, pV b), (5, pV r4), (6, pV r7), (8, pV r22), (9, iV 0)] fun lr27 => ?_
 refine ySq ?_
 refine yBk 0 ?_
 refine ySq ?_
 refine yPl [0, 1, 2] ?_
 refine yB0 [] [0, 1, 2] [(24, .bool false), (26, .bool false), (25, iV 0)] (.mk ?_)
 refine yK [(0, pV b), (5, pV r4), (6, pV r7), (8, pV r22), (9, iV 0), (24, .bool false)] fun lr28 => ?_
 refine yCf ?_
 refine ySq ?_
 refine yPl [0, 1, 2, 3] ?_
 refine yBb [2, 3] [(31, .agg #[iV hx, uV hy]), (30, pV b)] [e0 0, e2 1 [iV hx, uV hy]] [(1, ⟨r4, 0, none⟩, iV hx), (1, ⟨r4, 1, none⟩, uV hy)] [] trivial (kC (sat_cell h26 3 rfl rfl) (kC (sat_cell h26 3 rfl rfl) nC)) ?_
 have h29 := tk6 (sf5 (sf4 (sf5 (sf5 (sf5 (sf5 h26))))))
 refine yA ?_
 refine yCl 32 Try.call41 (thas_f b n A E RL hx hy hh) h29 ?_
 rintro v K w30 (⟨rfl, rfl⟩) h31
 refine ⟨_, rfl, ?_⟩
 have h32 := ap1 h31
 refine yB0 [] [3] [(29, .bool false)] (.mk ?_)
 refine yK [(0, pV b), (5, pV r4), (6, pV r7), (8, pV r22), (29, .bool false)] fun lr33 => ?_
 refine yCf ?_
 refine ySk ?_
 refine ySq ?_
 refine yPl [0, 1, 2, 3, 4, 5, 6, 7, 8] ?_
 refine yBb [4, 5, 6, 7, 8] [(37, .agg #[iV hx, uV hy]), (36, iV e.num), (35, .pointer (some ⟨r22, 3, none⟩)), (34, pV b)] [e0 0, e0 1, e2 2 [iV e.num], e2 3 [iV hx, uV hy]] [(3, ⟨r4, 0, none⟩, iV hx), (3, ⟨r4, 1, none⟩, uV hy), (2, ⟨r22, 3, none⟩, iV e.num)] [] trivial (kC (sat_cell h32 3 rfl rfl) (kC (sat_cell h32 3 rfl rfl) (kC (sat_cell h32 1 rfl rfl) nC))) ?_
 refine yA ?_
 refine yCl 38 Try.call43 (tadd_ok b n A E RL e.num hx hy q r hr (by omega) j gj hj) h32 ?_
 rintro v K w34 (⟨rfl, rfl⟩) h35
 refine ⟨_, rfl, ?_⟩
 have h36 := ap1 h35
 refine yB0 [7, 8] [5, 6] [(40, iV 0), (39, .agg #[iV r.out.1, iV (j : Int), uV gj])] ?_
 have h37 := tk6 (sf5 (sf4 (sf4 (sf5 (sf5 (sf5 h36))))))
 refine yA ?_
 refine yS [(0, iV r.out.1), (1, iV (j : Int)), (2, uV gj)] [iV r.out.1, iV (j : Int), uV gj] h37 fun w38 h39 => ?_
 refine yB0 [] [8] [(7, iV 0)] (.mk ?_)
 refine yK [(6, pV r7), (7, iV 0)] fun lr40 => ?_
 refine yRt ?_
 repeat (first | simp only [Exit.inBlock] | simp only [Exit.then])
 have h41 := tk6 (sf5 (sf4 (sf5 (sf5 (sf5 (sf5 h39))))))
 have h42 := tk2 (sf1 (sf5 h41))
 refine hi_out [iV r.out.1, iV (j : Int), uV gj] (.tuple #[.agg #[iV r.out.1, iV (j : Int), uV gj], iV 0]) [(⟨r7, 0, none⟩, iV r.out.1), (⟨r7, 1, none⟩, iV (j : Int)), (⟨r7, 2, none⟩, uV gj)] (by kernel_rfl) (allq ⟨sat_cell h39 0 rfl rfl, sat_cell h39 0 rfl rfl, sat_cell h39 0 rfl rfl, trivial⟩) ?_
 exact ⟨.tuple #[.agg #[iV r.out.1, iV (j : Int), uV gj], iV 0], [Tab b n (A.set j (1, gj)) (gset E (j : Int) ⟨(r.out.1, (j : Int), gj), e.num, (hx, hy)⟩) RL], rfl, ⟨rfl, rfl⟩, h42⟩

end Go.Proofs.Ytjjpmehiolejgaa
