/- Walks, printed by my generator gen17.py. -/
import Derived.Test.YtjjpmehiolejgaaF15
namespace Go.Proofs.Ytjjpmehiolejgaa
set_option maxHeartbeats 4000000 in
theorem tset_no (b n : Nat) (A : List Sl2) (E : Tm) (RL : List Rs) (vn x y z st why tr nx : Int) (L : List UInt8) (h : vn < 1 ∨ (RL.length : Int) < vn) : HT Try.prog 17 [Value.pointer (some ⟨b, 0, none⟩), Value.int IntKind.i64 vn, Value.agg #[Value.int IntKind.i64 x, Value.int IntKind.i64 y, Value.int IntKind.u32 z, Value.int IntKind.i64 st, Value.int IntKind.i64 why, Value.int IntKind.i64 tr, Value.int IntKind.i64 nx, Value.string (St L)]] [Tab b n A E RL] (fun v K => v = Value.int IntKind.i64 3 ∧ K = [Tab b n A E RL]) := by
 refine hi_in 62 ([(0, pV b), (1, iV vn), (2, .agg #[iV x, iV y, uV z, iV st, iV why, iV tr, iV nx, .string (St L)])] : Fr) Try.func17 (by kernel_rfl) Try.ntmps17 rfl rfl ?_
 intro g w0 R h0
 refine ySq ?_
 refine yPl [0, 1] ?_
 refine yA ?_
 refine yNp 5 42 [iV x, iV y, uV z, iV st, iV why, iV tr, iV nx, .string (St L)] h0 fun r1 w2 h3 => ?_
 refine yB0 [] [1] [(6, iV 0)] (.mk ?_)
 refine yK [(0, pV b), (1, iV vn), (5, pV r1)] fun lr4 => ?_
 refine ySq ?_
 refine yPl [0, 1, 2, 3, 4, 5, 6, 7, 8] ?_
 refine yB0 [2, 3, 4, 5, 6, 7, 8] [0, 1] [(13, iV vn), (12, pV b)] ?_
 have h5 := tk3 (sf2 (sf1 (sf2 h3)))
 refine yA ?_
 refine yCl 14 Try.call20 (tget_no b n A E RL vn (by omega)) h5 ?_
 rintro v K w6 (⟨rfl, rfl⟩) h7
 refine ⟨_, rfl, ?_⟩
 have h8 := ap1 h7
 refine yB0 [6, 7, 8] [3, 4, 5] [(16, iV 3), (15, .agg #[iV 0, iV 0, uV 0, iV 0, iV 0, iV 0, iV 0, .string (St [])]), (11, .tuple #[.agg #[iV 0, iV 0, uV 0, iV 0, iV 0, iV 0, iV 0, .string (St [])], iV 3])] ?_
 refine yA ?_
 refine yNp 7 42 [iV 0, iV 0, uV 0, iV 0, iV 0, iV 0, iV 0, .string (St [])] h8 fun r9 w10 h11 => ?_
 refine yA ?_
 refine yS [(0, iV 0), (1, iV 0), (2, uV 0), (3, iV 0), (4, iV 0), (5, iV 0), (6, iV 0), (7, .string (St []))] [iV 0, iV 0, uV 0, iV 0, iV 0, iV 0, iV 0, .string (St [])] h11 fun w12 h13 => ?_
 refine yB0 [] [8] [(8, iV 3)] (.mk ?_)
 refine yK [(0, pV b), (1, iV vn), (5, pV r1), (7, pV r9), (8, iV 3)] fun lr14 => ?_
 refine ySq ?_
 refine ySq ?_
 refine yPl [0, 1] ?_
 refine yB0 [] [0, 1] [(18, .bool true), (17, iV 3)] (.mk ?_)
 refine yK [(0, pV b), (1, iV vn), (5, pV r1), (7, pV r9), (8, iV 3), (18, .bool true)] fun lr15 => ?_
 refine yCt ?_
 refine ySq ?_
 refine yPl [0, 1] ?_
 refine yB0 [] [0, 1] [(6, iV 3), (19, iV 3)] (.mk ?_)
 refine yK [(6, iV 3)] fun lr16 => ?_
 refine yRt ?_
 repeat (first | simp only [Exit.inBlock] | simp only [Exit.then])
 have h17 := tk4 (sf3 (sf2 (sf3 (sf3 h13))))
 have h18 := tk2 (sf1 (sf3 h17))
 refine hi_out [] (iV 3) [] (by kernel_rfl) (by intro q hq; cases hq) ?_
 exact ⟨iV 3, [Tab b n A E RL], rfl, ⟨rfl, rfl⟩, h18⟩

set_option maxHeartbeats 4000000 in
theorem tset_chk (b n : Nat) (A : List Sl2) (E : Tm) (RL : List Rs) (vn x y z st why tr nx : Int) (L : List UInt8) (hz0 : 0 ≤ z) (hz1 : z ≤ 4294967295) (hm : L.length ≤ 1099511627776) (q : Nat) (r : Rs) (hr : RL[q]? = some r) (hv : vn = (q : Int) + 1) (hne : ¬ resE x y z st why tr nx L = 0) : HT Try.prog 17 [Value.pointer (some ⟨b, 0, none⟩), Value.int IntKind.i64 vn, Value.agg #[Value.int IntKind.i64 x, Value.int IntKind.i64 y, Value.int IntKind.u32 z, Value.int IntKind.i64 st, Value.int IntKind.i64 why, Value.int IntKind.i64 tr, Value.int IntKind.i64 nx, Value.string (St L)]] [Tab b n A E RL] (fun v K => v = Value.int IntKind.i64 ((resE x y z st why tr nx L)) ∧ K = [Tab b n A E RL]) := by
 have hq_ := (List.getElem?_eq_some_iff.1 hr).1
 refine hi_in 62 ([(0, pV b), (1, iV vn), (2, .agg #[iV x, iV y, uV z, iV st, iV why, iV tr, iV nx, .string (St L)])] : Fr) Try.func17 (by kernel_rfl) Try.ntmps17 rfl rfl ?_
 intro g w0 R h0
 refine ySq ?_
 refine yPl [0, 1] ?_
 refine yA ?_
 refine yNp 5 42 [iV x, iV y, uV z, iV st, iV why, iV tr, iV nx, .string (St L)] h0 fun r1 w2 h3 => ?_
 refine yB0 [] [1] [(6, iV 0)] (.mk ?_)
 refine yK [(0, pV b), (1, iV vn), (5, pV r1)] fun lr4 => ?_
 refine ySq ?_
 refine yPl [0, 1, 2, 3, 4, 5, 6, 7, 8] ?_
 refine yB0 [2, 3, 4, 5, 6, 7, 8] [0, 1] [(13, iV vn), (12, pV b)] ?_
 have h5 := tk3 (sf2 (sf1 (sf2 h3)))
 refine yA ?_
 refine yCl 14 Try.call20 (tget_ok b n A E RL vn q r hr (by omega)) h5 ?_
 rintro v K w6 (⟨rfl, rfl⟩) h7
 refine ⟨_, rfl, ?_⟩
 have h8 := ap1 h7
 refine yB0 [6, 7, 8] [3, 4, 5] [(16, iV 0), (15, .agg #[iV r.out.1, iV r.out.2.1, uV r.out.2.2, iV r.st, iV r.why, iV r.tr, iV r.nx, .string (St r.tag)]), (11, .tuple #[.agg #[iV r.out.1, iV r.out.2.1, uV r.out.2.2, iV r.st, iV r.why, iV r.tr, iV r.nx, .string (St r.tag)], iV 0])] ?_
 refine yA ?_
 refine yNp 7 42 [iV 0, iV 0, uV 0, iV 0, iV 0, iV 0, iV 0, .string (St [])] h8 fun r9 w10 h11 => ?_
 refine yA ?_
 refine yS [(0, iV r.out.1), (1, iV r.out.2.1), (2, uV r.out.2.2), (3, iV r.st), (4, iV r.why), (5, iV r.tr), (6, iV r.nx), (7, .string (St r.tag))] [iV r.out.1, iV r.out.2.1, uV r.out.2.2, iV r.st, iV r.why, iV r.tr, iV r.nx, .string (St r.tag)] h11 fun w12 h13 => ?_
 refine yB0 [] [8] [(8, iV 0)] (.mk ?_)
 refine yK [(0, pV b), (1, iV vn), (5, pV r1), (7, pV r9), (8, iV 0)] fun lr14 => ?_
 refine ySq ?_
 refine ySq ?_
 refine yPl [0, 1] ?_
 refine yB0 [] [0, 1] [(18, .bool false), (17, iV 0)] (.mk ?_)
 refine yK [(0, pV b), (1, iV vn), (5, pV r1), (7, pV r9), (8, iV 0), (18, .bool false)] fun lr15 => ?_
 refine yCf ?_
 refine ySk ?_
 refine ySq ?_
 refine ySq ?_
 refine yPl [0, 1, 2] ?_
 refine yBb [1, 2] [(20, .agg #[iV x, iV y, uV z, iV st, iV why, iV tr, iV nx, .string (St L)])] [e2 0 [iV x, iV y, uV z, iV st, iV why, iV tr, iV nx, .string (St L)]] [(0, ⟨r1, 0, none⟩, iV x), (0, ⟨r1, 1, none⟩, iV y), (0, ⟨r1, 2, none⟩, uV z), (0, ⟨r1, 3, none⟩, iV st), (0, ⟨r1, 4, none⟩, iV why), (0, ⟨r1, 5, none⟩, iV tr), (0, ⟨r1, 6, none⟩, iV nx), (0, ⟨r1, 7, none⟩, .string (St L))] [] trivial (kC (sat_cell h13 2 rfl rfl) (kC (sat_cell h13 2 rfl rfl) (kC (sat_cell h13 2 rfl rfl) (kC (sat_cell h13 2 rfl rfl) (kC (sat_cell h13 2 rfl rfl) (kC (sat_cell h13 2 rfl rfl) (kC (sat_cell h13 2 rfl rfl) (kC (sat_cell h13 2 rfl rfl) nC)))))))) ?_
 refine yA ?_
 refine yCl 21 Try.call23 (rchk_ht x y z st why tr nx L (by omega) (by omega) (by omega)) h13 ?_
 rintro v K w16 (⟨rfl, rfl⟩) h17
 refine ⟨_, rfl, ?_⟩
 have h18 := ap0 h17
 refine yB0 [] [2] [(9, iV ((resE x y z st why tr nx L)))] (.mk ?_)
 refine yK [(0, pV b), (1, iV vn), (5, pV r1), (7, pV r9), (9, iV ((resE x y z st why tr nx L)))] fun lr19 => ?_
 refine ySq ?_
 refine yPl [0, 1] ?_
 refine yBb [] [(23, .bool true), (22, iV ((resE x y z st why tr nx L)))] [e0 0, e1 1 (.bool true)] [] [(.bool (((resE x y z st why tr nx L)) != 0), .bool true)] ⟨(ov_nt (by omega)), trivial⟩ nC (.mk ?_)
 refine yK [(0, pV b), (1, iV vn), (5, pV r1), (7, pV r9), (9, iV ((resE x y z st why tr nx L))), (23, .bool true)] fun lr20 => ?_
 refine yCt ?_
 refine ySq ?_
 refine yPl [0, 1] ?_
 refine yB0 [] [0, 1] [(6, iV ((resE x y z st why tr nx L))), (24, iV ((resE x y z st why tr nx L)))] (.mk ?_)
 refine yK [(6, iV ((resE x y z st why tr nx L)))] fun lr21 => ?_
 refine yRt ?_
 repeat (first | simp only [Exit.inBlock] | simp only [Exit.then])
 have h22 := tk4 (sf3 (sf2 (sf3 (sf3 h18))))
 have h23 := tk2 (sf1 (sf3 h22))
 refine hi_out [] (iV ((resE x y z st why tr nx L))) [] (by kernel_rfl) (by intro q hq; cases hq) ?_
 exact ⟨iV ((resE x y z st why tr nx L)), [Tab b n A E RL], rfl, ⟨rfl, rfl⟩, h23⟩

end Go.Proofs.Ytjjpmehiolejgaa
