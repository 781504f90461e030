/- Walks, printed by my generator gen10.py. -/
import Derived.Test.YtjjpmehiolejgaaF9
namespace Go.Proofs.Ytjjpmehiolejgaa
theorem seq28_neq_t {n : Nat} {l : Fr} {o : Oper} {x y : Operand} (a0 : Int) (a1 : Int) (a2 : Int) (c0 : Int) (c1 : Int) (c2 : Int) (ho : o.op = .binOp .neq 28 x y 28) (hx : fe n l x = .agg #[.int .i64 a0, .int .i64 a1, .int .u32 a2]) (hy : fe n l y = .agg #[.int .i64 c0, .int .i64 c1, .int .u32 c2]) (h : a0 = c0 ∧ a1 = c1 ∧ a2 = c2) (w : World) : (execOp (fe n l) o).run Try.prog w = .ok (.value (.bool false)) w := by
  obtain ⟨rfl, rfl, rfl⟩ := h
  simp [execOp, ho, hx, hy, go_sem]
theorem seq28_neq_f {n : Nat} {l : Fr} {o : Oper} {x y : Operand} (a0 : Int) (a1 : Int) (a2 : Int) (c0 : Int) (c1 : Int) (c2 : Int) (ho : o.op = .binOp .neq 28 x y 28) (hx : fe n l x = .agg #[.int .i64 a0, .int .i64 a1, .int .u32 a2]) (hy : fe n l y = .agg #[.int .i64 c0, .int .i64 c1, .int .u32 c2]) (h : ¬ (a0 = c0 ∧ a1 = c1 ∧ a2 = c2)) (w : World) : (execOp (fe n l) o).run Try.prog w = .ok (.value (.bool true)) w := by
  by_cases h0 : a0 = c0
  · skip
    by_cases h1 : a1 = c1
    · skip
      by_cases h2 : a2 = c2
      · exact absurd ⟨h0, h1, h2⟩ h
      · simp [execOp, ho, hx, hy, go_sem, h0, h1, h2]
    · simp [execOp, ho, hx, hy, go_sem, h0, h1]
  · simp [execOp, ho, hx, hy, go_sem, h0]
set_option maxHeartbeats 4000000 in
theorem tfind_bad (b n : Nat) (A : List Sl2) (E : Tm) (RL : List Rs) (x y z : Int) (hz0 : 0 ≤ z) (hz1 : z ≤ 4294967295) (ho : ¬ (1 ≤ x ∧ x ≤ 3 ∧ 0 ≤ y ∧ y ≤ 255 ∧ 1 ≤ z)) : HT Try.prog 44 [Value.pointer (some ⟨b, 0, none⟩), Value.agg #[Value.int IntKind.i64 x, Value.int IntKind.i64 y, Value.int IntKind.u32 z]] [Tab b n A E RL] (fun v K => v = Value.tuple #[Value.agg #[Value.int IntKind.i64 0, Value.int IntKind.i64 0, Value.int IntKind.u32 0, Value.int IntKind.i64 0, Value.int IntKind.i64 0, Value.int IntKind.u32 0], Value.int IntKind.i64 2] ∧ K = [Tab b n A E RL]) := by
 refine hi_in 38 ([(0, pV b), (1, .agg #[iV x, iV y, uV z])] : Fr) Try.func44 (by kernel_rfl) Try.ntmps44 rfl rfl ?_
 intro g w0 R h0
 refine ySq ?_
 refine yPl [0, 1, 2] ?_
 refine yA ?_
 refine yNp 3 28 [iV x, iV y, uV z] h0 fun r1 w2 h3 => ?_
 refine yA ?_
 refine yNp 4 90 [iV 0, iV 0, uV 0, iV 0, iV 0, uV 0] h3 fun r4 w5 h6 => ?_
 refine yB0 [] [2] [(5, iV 0)] (.mk ?_)
 refine yK [(0, pV b), (3, pV r1), (4, pV r4)] fun lr7 => ?_
 refine ySq ?_
 refine yBk 0 ?_
 refine ySq ?_
 refine yPl [0, 1, 2, 3] ?_
 refine yB0 [1, 2, 3] [0] [(9, pV b)] ?_
 have h8 := tk4 (sf3 (sf2 (sf2 (sf3 h6))))
 refine yA ?_
 refine yCl 10 Try.call36 (tvalid_ht b n A E RL) h8 ?_
 rintro v K w9 (⟨rfl, rfl⟩) h10
 refine ⟨_, rfl, ?_⟩
 have h11 := ap1 h10
 refine yB0 [] [2, 3] [(8, .bool false), (11, .bool false)] (.mk ?_)
 refine yK [(0, pV b), (3, pV r1), (4, pV r4), (8, .bool false)] fun lr12 => ?_
 refine yCf ?_
 refine ySq ?_
 refine yPl [0, 1, 2, 3] ?_
 refine yBb [1, 2, 3] [(14, .agg #[iV x, iV y, uV z])] [e2 0 [iV x, iV y, uV z]] [(0, ⟨r1, 0, none⟩, iV x), (0, ⟨r1, 1, none⟩, iV y), (0, ⟨r1, 2, none⟩, uV z)] [] trivial (kC (sat_cell h11 2 rfl rfl) (kC (sat_cell h11 2 rfl rfl) (kC (sat_cell h11 2 rfl rfl) nC))) ?_
 by_cases c13 : 1 ≤ x
 ·
  by_cases c14 : x ≤ 3
  ·
   by_cases c15 : 0 ≤ y
   ·
    by_cases c16 : y ≤ 255
    ·
     refine yA ?_
     refine yCl 15 Try.call27 (cdesc_no x y z (by omega) (by omega) (by omega)) h11 ?_
     rintro v K w17 (⟨rfl, rfl⟩) h18
     refine ⟨_, rfl, ?_⟩
     have h19 := ap0 h18
     refine yB0 [] [2, 3] [(13, .bool true), (16, .bool true)] (.mk ?_)
     refine yK [(0, pV b), (3, pV r1), (4, pV r4), (13, .bool true)] fun lr20 => ?_
     refine yCt ?_
     refine ySq ?_
     refine yPl [0, 1, 2] ?_
     refine yB0 [1, 2] [0] [(17, .agg #[iV 0, iV 0, uV 0, iV 0, iV 0, uV 0])] ?_
     have h21 := tk4 (sf3 (sf2 (sf3 (sf3 h19))))
     refine yA ?_
     refine yS [(0, iV 0), (1, iV 0), (2, uV 0), (3, iV 0), (4, iV 0), (5, uV 0)] [iV 0, iV 0, uV 0, iV 0, iV 0, uV 0] h21 fun w22 h23 => ?_
     refine yB0 [] [2] [(5, iV 2)] (.mk ?_)
     refine yK [(4, pV r4), (5, iV 2)] fun lr24 => ?_
     refine yRt ?_
     repeat (first | simp only [Exit.inBlock] | simp only [Exit.then])
     have h25 := tk4 (sf3 (sf2 (sf3 (sf3 h23))))
     have h26 := tk2 (sf1 (sf3 h25))
     refine hi_out [iV 0, iV 0, uV 0, iV 0, iV 0, uV 0] (.tuple #[.agg #[iV 0, iV 0, uV 0, iV 0, iV 0, uV 0], iV 2]) [(⟨r4, 0, none⟩, iV 0), (⟨r4, 1, none⟩, iV 0), (⟨r4, 2, none⟩, uV 0), (⟨r4, 3, none⟩, iV 0), (⟨r4, 4, none⟩, iV 0), (⟨r4, 5, none⟩, uV 0)] (by kernel_rfl) (allq ⟨sat_cell h23 0 rfl rfl, sat_cell h23 0 rfl rfl, sat_cell h23 0 rfl rfl, sat_cell h23 0 rfl rfl, sat_cell h23 0 rfl rfl, sat_cell h23 0 rfl rfl, trivial⟩) ?_
     exact ⟨.tuple #[.agg #[iV 0, iV 0, uV 0, iV 0, iV 0, uV 0], iV 2], [Tab b n A E RL], rfl, ⟨rfl, rfl⟩, h26⟩
    ·
     refine yA ?_
     refine yCl 15 Try.call27 (cdesc_no x y z (by omega) (by omega) (by omega)) h11 ?_
     rintro v K w27 (⟨rfl, rfl⟩) h28
     refine ⟨_, rfl, ?_⟩
     have h29 := ap0 h28
     refine yB0 [] [2, 3] [(13, .bool true), (16, .bool true)] (.mk ?_)
     refine yK [(0, pV b), (3, pV r1), (4, pV r4), (13, .bool true)] fun lr30 => ?_
     refine yCt ?_
     refine ySq ?_
     refine yPl [0, 1, 2] ?_
     refine yB0 [1, 2] [0] [(17, .agg #[iV 0, iV 0, uV 0, iV 0, iV 0, uV 0])] ?_
     have h31 := tk4 (sf3 (sf2 (sf3 (sf3 h29))))
     refine yA ?_
     refine yS [(0, iV 0), (1, iV 0), (2, uV 0), (3, iV 0), (4, iV 0), (5, uV 0)] [iV 0, iV 0, uV 0, iV 0, iV 0, uV 0] h31 fun w32 h33 => ?_
     refine yB0 [] [2] [(5, iV 2)] (.mk ?_)
     refine yK [(4, pV r4), (5, iV 2)] fun lr34 => ?_
     refine yRt ?_
     repeat (first | simp only [Exit.inBlock] | simp only [Exit.then])
     have h35 := tk4 (sf3 (sf2 (sf3 (sf3 h33))))
     have h36 := tk2 (sf1 (sf3 h35))
     refine hi_out [iV 0, iV 0, uV 0, iV 0, iV 0, uV 0] (.tuple #[.agg #[iV 0, iV 0, uV 0, iV 0, iV 0, uV 0], iV 2]) [(⟨r4, 0, none⟩, iV 0), (⟨r4, 1, none⟩, iV 0), (⟨r4, 2, none⟩, uV 0), (⟨r4, 3, none⟩, iV 0), (⟨r4, 4, none⟩, iV 0), (⟨r4, 5, none⟩, uV 0)] (by kernel_rfl) (allq ⟨sat_cell h33 0 rfl rfl, sat_cell h33 0 rfl rfl, sat_cell h33 0 rfl rfl, sat_cell h33 0 rfl rfl, sat_cell h33 0 rfl rfl, sat_cell h33 0 rfl rfl, trivial⟩) ?_
     exact ⟨.tuple #[.agg #[iV 0, iV 0, uV 0, iV 0, iV 0, uV 0], iV 2], [Tab b n A E RL], rfl, ⟨rfl, rfl⟩, h36⟩
   ·
    refine yA ?_
    refine yCl 15 Try.call27 (cdesc_no x y z (by omega) (by omega) (by omega)) h11 ?_
    rintro v K w37 (⟨rfl, rfl⟩) h38
    refine ⟨_, rfl, ?_⟩
    have h39 := ap0 h38
    refine yB0 [] [2, 3] [(13, .bool true), (16, .bool true)] (.mk ?_)
    refine yK [(0, pV b), (3, pV r1), (4, pV r4), (13, .bool true)] fun lr40 => ?_
    refine yCt ?_
    refine ySq ?_
    refine yPl [0, 1, 2] ?_
    refine yB0 [1, 2] [0] [(17, .agg #[iV 0, iV 0, uV 0, iV 0, iV 0, uV 0])] ?_
    have h41 := tk4 (sf3 (sf2 (sf3 (sf3 h39))))
    refine yA ?_
    refine yS [(0, iV 0), (1, iV 0), (2, uV 0), (3, iV 0), (4, iV 0), (5, uV 0)] [iV 0, iV 0, uV 0, iV 0, iV 0, uV 0] h41 fun w42 h43 => ?_
    refine yB0 [] [2] [(5, iV 2)] (.mk ?_)
    refine yK [(4, pV r4), (5, iV 2)] fun lr44 => ?_
    refine yRt ?_
    repeat (first | simp only [Exit.inBlock] | simp only [Exit.then])
    have h45 := tk4 (sf3 (sf2 (sf3 (sf3 h43))))
    have h46 := tk2 (sf1 (sf3 h45))
    refine hi_out [iV 0, iV 0, uV 0, iV 0, iV 0, uV 0] (.tuple #[.agg #[iV 0, iV 0, uV 0, iV 0, iV 0, uV 0], iV 2]) [(⟨r4, 0, none⟩, iV 0), (⟨r4, 1, none⟩, iV 0), (⟨r4, 2, none⟩, uV 0), (⟨r4, 3, none⟩, iV 0), (⟨r4, 4, none⟩, iV 0), (⟨r4, 5, none⟩, uV 0)] (by kernel_rfl) (allq ⟨sat_cell h43 0 rfl rfl, sat_cell h43 0 rfl rfl, sat_cell h43 0 rfl rfl, sat_cell h43 0 rfl rfl, sat_cell h43 0 rfl rfl, sat_cell h43 0 rfl rfl, trivial⟩) ?_
    exact ⟨.tuple #[.agg #[iV 0, iV 0, uV 0, iV 0, iV 0, uV 0], iV 2], [Tab b n A E RL], rfl, ⟨rfl, rfl⟩, h46⟩
  ·
   refine yA ?_
   refine yCl 15 Try.call27 (cdesc_no x y z (by omega) (by omega) (by omega)) h11 ?_
   rintro v K w47 (⟨rfl, rfl⟩) h48
   refine ⟨_, rfl, ?_⟩
   have h49 := ap0 h48
   refine yB0 [] [2, 3] [(13, .bool true), (16, .bool true)] (.mk ?_)
   refine yK [(0, pV b), (3, pV r1), (4, pV r4), (13, .bool true)] fun lr50 => ?_
   refine yCt ?_
   refine ySq ?_
   refine yPl [0, 1, 2] ?_
   refine yB0 [1, 2] [0] [(17, .agg #[iV 0, iV 0, uV 0, iV 0, iV 0, uV 0])] ?_
   have h51 := tk4 (sf3 (sf2 (sf3 (sf3 h49))))
   refine yA ?_
   refine yS [(0, iV 0), (1, iV 0), (2, uV 0), (3, iV 0), (4, iV 0), (5, uV 0)] [iV 0, iV 0, uV 0, iV 0, iV 0, uV 0] h51 fun w52 h53 => ?_
   refine yB0 [] [2] [(5, iV 2)] (.mk ?_)
   refine yK [(4, pV r4), (5, iV 2)] fun lr54 => ?_
   refine yRt ?_
   repeat (first | simp only [Exit.inBlock] | simp only [Exit.then])
   have h55 := tk4 (sf3 (sf2 (sf3 (sf3 h53))))
   have h56 := tk2 (sf1 (sf3 h55))
   refine hi_out [iV 0, iV 0, uV 0, iV 0, iV 0, uV 0] (.tuple #[.agg #[iV 0, iV 0, uV 0, iV 0, iV 0, uV 0], iV 2]) [(⟨r4, 0, none⟩, iV 0), (⟨r4, 1, none⟩, iV 0), (⟨r4, 2, none⟩, uV 0), (⟨r4, 3, none⟩, iV 0), (⟨r4, 4, none⟩, iV 0), (⟨r4, 5, none⟩, uV 0)] (by kernel_rfl) (allq ⟨sat_cell h53 0 rfl rfl, sat_cell h53 0 rfl rfl, sat_cell h53 0 rfl rfl, sat_cell h53 0 rfl rfl, sat_cell h53 0 rfl rfl, sat_cell h53 0 rfl rfl, trivial⟩) ?_
   exact ⟨.tuple #[.agg #[iV 0, iV 0, uV 0, iV 0, iV 0, uV 0], iV 2], [Tab b n A E RL], rfl, ⟨rfl, rfl⟩, h56⟩
 ·
  refine yA ?_
  refine yCl 15 Try.call27 (cdesc_no x y z (by omega) (by omega) (by omega)) h11 ?_
  rintro v K w57 (⟨rfl, rfl⟩) h58
  refine ⟨_, rfl, ?_⟩
  have h59 := ap0 h58
  refine yB0 [] [2, 3] [(13, .bool true), (16, .bool true)] (.mk ?_)
  refine yK [(0, pV b), (3, pV r1), (4, pV r4), (13, .bool true)] fun lr60 => ?_
  refine yCt ?_
  refine ySq ?_
  refine yPl [0, 1, 2] ?_
  refine yB0 [1, 2] [0] [(17, .agg #[iV 0, iV 0, uV 0, iV 0, iV 0, uV 0])] ?_
  have h61 := tk4 (sf3 (sf2 (sf3 (sf3 h59))))
  refine yA ?_
  refine yS [(0, iV 0), (1, iV 0), (2, uV 0), (3, iV 0), (4, iV 0), (5, uV 0)] [iV 0, iV 0, uV 0, iV 0, iV 0, uV 0] h61 fun w62 h63 => ?_
  refine yB0 [] [2] [(5, iV 2)] (.mk ?_)
  refine yK [(4, pV r4), (5, iV 2)] fun lr64 => ?_
  refine yRt ?_
  repeat (first | simp only [Exit.inBlock] | simp only [Exit.then])
  have h65 := tk4 (sf3 (sf2 (sf3 (sf3 h63))))
  have h66 := tk2 (sf1 (sf3 h65))
  refine hi_out [iV 0, iV 0, uV 0, iV 0, iV 0, uV 0] (.tuple #[.agg #[iV 0, iV 0, uV 0, iV 0, iV 0, uV 0], iV 2]) [(⟨r4, 0, none⟩, iV 0), (⟨r4, 1, none⟩, iV 0), (⟨r4, 2, none⟩, uV 0), (⟨r4, 3, none⟩, iV 0), (⟨r4, 4, none⟩, iV 0), (⟨r4, 5, none⟩, uV 0)] (by kernel_rfl) (allq ⟨sat_cell h63 0 rfl rfl, sat_cell h63 0 rfl rfl, sat_cell h63 0 rfl rfl, sat_cell h63 0 rfl rfl, sat_cell h63 0 rfl rfl, sat_cell h63 0 rfl rfl, trivial⟩) ?_
  exact ⟨.tuple #[.agg #[iV 0, iV 0, uV 0, iV 0, iV 0, uV 0], iV 2], [Tab b n A E RL], rfl, ⟨rfl, rfl⟩, h66⟩

set_option maxHeartbeats 4000000 in
theorem tfind_none (b n : Nat) (A : List Sl2) (E : Tm) (RL : List Rs) (x y z : Int) (hz0 : 0 ≤ z) (hz1 : z ≤ 4294967295) (ho : 1 ≤ x ∧ x ≤ 3 ∧ 0 ≤ y ∧ y ≤ 255 ∧ 1 ≤ z) (hg_ : gget E y = none) : HT Try.prog 44 [Value.pointer (some ⟨b, 0, none⟩), Value.agg #[Value.int IntKind.i64 x, Value.int IntKind.i64 y, Value.int IntKind.u32 z]] [Tab b n A E RL] (fun v K => v = Value.tuple #[Value.agg #[Value.int IntKind.i64 0, Value.int IntKind.i64 0, Value.int IntKind.u32 0, Value.int IntKind.i64 0, Value.int IntKind.i64 0, Value.int IntKind.u32 0], Value.int IntKind.i64 7] ∧ K = [Tab b n A E RL]) := by
 refine hi_in 38 ([(0, pV b), (1, .agg #[iV x, iV y, uV z])] : Fr) Try.func44 (by kernel_rfl) Try.ntmps44 rfl rfl ?_
 intro g w0 R h0
 refine ySq ?_
 refine yPl [0, 1, 2] ?_
 refine yA ?_
 refine yNp 3 28 [iV x, iV y, uV z] h0 fun r1 w2 h3 => ?_
 refine yA ?_
 refine yNp 4 90 [iV 0, iV 0, uV 0, iV 0, iV 0, uV 0] h3 fun r4 w5 h6 => ?_
 refine yB0 [] [2] [(5, iV 0)] (.mk ?_)
 refine yK [(0, pV b), (3, pV r1), (4, pV r4)] fun lr7 => ?_
 refine ySq ?_
 refine yBk 0 ?_
 refine ySq ?_
 refine yPl [0, 1, 2, 3] ?_
 refine yB0 [1, 2, 3] [0] [(9, pV b)] ?_
 have h8 := tk4 (sf3 (sf2 (sf2 (sf3 h6))))
 refine yA ?_
 refine yCl 10 Try.call36 (tvalid_ht b n A E RL) h8 ?_
 rintro v K w9 (⟨rfl, rfl⟩) h10
 refine ⟨_, rfl, ?_⟩
 have h11 := ap1 h10
 refine yB0 [] [2, 3] [(8, .bool false), (11, .bool false)] (.mk ?_)
 refine yK [(0, pV b), (3, pV r1), (4, pV r4), (8, .bool false)] fun lr12 => ?_
 refine yCf ?_
 refine ySq ?_
 refine yPl [0, 1, 2, 3] ?_
 refine yBb [1, 2, 3] [(14, .agg #[iV x, iV y, uV z])] [e2 0 [iV x, iV y, uV z]] [(0, ⟨r1, 0, none⟩, iV x), (0, ⟨r1, 1, none⟩, iV y), (0, ⟨r1, 2, none⟩, uV z)] [] trivial (kC (sat_cell h11 2 rfl rfl) (kC (sat_cell h11 2 rfl rfl) (kC (sat_cell h11 2 rfl rfl) nC))) ?_
 refine yA ?_
 refine yCl 15 Try.call27 (cdesc_ok x y z (by omega) (by omega) (by omega)) h11 ?_
 rintro v K w13 (⟨rfl, rfl⟩) h14
 refine ⟨_, rfl, ?_⟩
 have h15 := ap0 h14
 refine yB0 [] [2, 3] [(13, .bool false), (16, .bool false)] (.mk ?_)
 refine yK [(0, pV b), (3, pV r1), (4, pV r4), (13, .bool false)] fun lr16 => ?_
 refine yCf ?_
 refine ySk ?_
 refine ySq ?_
 refine gi_drw (id := 5) (ops := RA Try.f44 [1, 1, 0]) (Tr.fl 0 (Tr.fl 1 (Tr.fl 2 (Tr.fl 3 (Tr.fl 4 (Tr.fl 5 (Tr.an2 6 (Tr.fl 7 (Tr.fl 8 (Tr.fl 9 (Tr.an 10 (Tr.an 11 (Tr.fl 12 Tr.nil)))))) 10 (Tr.an 6 (Tr.fl 7 (Tr.fl 8 (Tr.fl 9 (Tr.an 11 (Tr.fl 12 Tr.nil))))))))))))) (by kernel_rfl) (by kernel_rfl) (by kernel_rfl) (by kernel_rfl) (by kernel_rfl) (fun _ _ d _ _ h => by cases d <;> exact h) h15 ?_
 intro w17 h18
 obtain ⟨s19, m20, p21, c22, E23, hM24, h25⟩ := tab_open h18
 have hRl_ := hM24.2
 refine yD _ [(24, iV y), (23, .pointer (some ⟨r1, 1, none⟩)), (22, .map (some m20)), (21, .pointer (some ⟨b, 1, none⟩)), (20, pV b), (19, pV b)] [e0 0, e0 1, e0 2, e2 3 [.map (some m20)], e0 4, e2 5 [iV y]] [(5, ⟨r1, 1, none⟩, iV y), (3, ⟨b, 1, none⟩, .map (some m20))] [] trivial (kC (sat_cell h25 5 rfl rfl) (kC (sat_cell h25 0 rfl rfl) nC)) ?_
 refine ⟨?_, ?_⟩
 ·
  refine draw_act (i := 6) [] (by kernel_rfl) (by kernel_rfl) ?_
  refine act_law (d := 25) (.tuple #[.agg #[iV 0, iV 0, uV 0, iV 0, iV 0, uV 0], .bool false]) (by kernel_rfl) rfl (law_lookupOk (t := 73) (z := .agg #[iV 0, iV 0, uV 0, iV 0, iV 0, uV 0]) (m := (Operand.tmp 22)) (x := (Operand.tmp 24)) (kv := kI) (ve := vE) (by kernel_rfl) Try.underlying73 kyI (by kernel_rfl) y (by kernel_rfl) (by kernel_rfl) (j := 2) h25 rfl (.agg #[iV 0, iV 0, uV 0, iV 0, iV 0, uV 0]) false (by rw [hM24.1.2.2 y, hg_]; exact ⟨rfl, rfl⟩)) ?_
  refine ⟨(AllC_nil _), ?_⟩
  refine yD _ [(27, .bool false), (26, .agg #[iV 0, iV 0, uV 0, iV 0, iV 0, uV 0]), (18, .tuple #[.agg #[iV 0, iV 0, uV 0, iV 0, iV 0, uV 0], .bool false])] [e0 7, e0 8, e0 9] [] [] trivial nC ?_
  refine draw_act (i := 10) [] (by kernel_rfl) (by kernel_rfl) ?_
  refine yNp 6 90 [iV 0, iV 0, uV 0, iV 0, iV 0, uV 0] h25 fun r26 w27 h28 => ?_
  refine ⟨(AllC_nil _), ?_⟩
  refine draw_act (i := 11) [] (by kernel_rfl) (by kernel_rfl) ?_
  refine yS [(0, iV 0), (1, iV 0), (2, uV 0), (3, iV 0), (4, iV 0), (5, uV 0)] [iV 0, iV 0, uV 0, iV 0, iV 0, uV 0] h28 fun w29 h30 => ?_
  refine ⟨(AllC_nil _), ?_⟩
  refine yD _ [(7, .bool false)] [e0 12] [] [] trivial nC ?_
  refine yK [(3, pV r1), (4, pV r4), (6, pV r26), (7, .bool false)] fun lr31 => ?_
  refine ySq ?_
  refine ySq ?_
  refine yPl [0, 1, 2, 3, 4, 5, 6, 7] ?_
  refine yB0 [] [0, 1, 2, 3, 4, 5, 6, 7] [(35, .bool true), (34, undef), (33, undef), (32, undef), (31, undef), (30, .bool true), (29, .bool true), (28, .bool false)] (.mk ?_)
  refine yK [(4, pV r4), (6, pV r26), (35, .bool true)] fun lr32 => ?_
  refine yCt ?_
  refine ySq ?_
  refine yPl [0, 1, 2] ?_
  refine yB0 [1, 2] [0] [(36, .agg #[iV 0, iV 0, uV 0, iV 0, iV 0, uV 0])] ?_
  have h33 := tk8 (sf7 (sf6 (sf6 (sf6 (sf6 (sf6 (sf7 (sf7 h30))))))))
  refine yA ?_
  refine yS [(0, iV 0), (1, iV 0), (2, uV 0), (3, iV 0), (4, iV 0), (5, uV 0)] [iV 0, iV 0, uV 0, iV 0, iV 0, uV 0] h33 fun w34 h35 => ?_
  refine yB0 [] [2] [(5, iV 7)] (.mk ?_)
  refine yK [(4, pV r4), (5, iV 7)] fun lr36 => ?_
  refine yRt ?_
  repeat (first | simp only [Exit.inBlock] | simp only [Exit.then])
  have h37 := tk8 (sf7 (sf7 (sf7 (sf7 (sf3 (sf3 (sf7 (sf7 h35))))))))
  have h38 : sat g w34 [Tab b n A E RL, Cl r4 [iV 0, iV 0, uV 0, iV 0, iV 0, uV 0] 90, Cl r26 [iV 0, iV 0, uV 0, iV 0, iV 0, uV 0] 90, Cl r1 [iV x, iV y, uV z] 28, R] := tab_close hM24.1 (by omega) (by first | rfl | omega) h37
  have h39 := tk2 (sf1 (sf4 h38))
  refine hi_out [iV 0, iV 0, uV 0, iV 0, iV 0, uV 0] (.tuple #[.agg #[iV 0, iV 0, uV 0, iV 0, iV 0, uV 0], iV 7]) [(⟨r4, 0, none⟩, iV 0), (⟨r4, 1, none⟩, iV 0), (⟨r4, 2, none⟩, uV 0), (⟨r4, 3, none⟩, iV 0), (⟨r4, 4, none⟩, iV 0), (⟨r4, 5, none⟩, uV 0)] (by kernel_rfl) (allq ⟨sat_cell h35 0 rfl rfl, sat_cell h35 0 rfl rfl, sat_cell h35 0 rfl rfl, sat_cell h35 0 rfl rfl, sat_cell h35 0 rfl rfl, sat_cell h35 0 rfl rfl, trivial⟩) ?_
  exact ⟨.tuple #[.agg #[iV 0, iV 0, uV 0, iV 0, iV 0, uV 0], iV 7], [Tab b n A E RL], rfl, ⟨rfl, rfl⟩, h39⟩
 ·
  refine draw_act (i := 10) [(5, ⟨r1, 1, none⟩, iV y), (3, ⟨b, 1, none⟩, .map (some m20))] (by kernel_rfl) (by kernel_rfl) ?_
  refine yNp 6 90 [iV 0, iV 0, uV 0, iV 0, iV 0, uV 0] h25 fun r40 w41 h42 => ?_
  refine ⟨(AllC_cons (sat_cell h42 6 rfl rfl) (AllC_cons (sat_cell h42 1 rfl rfl) (AllC_nil _))), ?_⟩
  refine draw_act (i := 6) [] (by kernel_rfl) (by kernel_rfl) ?_
  refine act_law (d := 25) (.tuple #[.agg #[iV 0, iV 0, uV 0, iV 0, iV 0, uV 0], .bool false]) (by kernel_rfl) rfl (law_lookupOk (t := 73) (z := .agg #[iV 0, iV 0, uV 0, iV 0, iV 0, uV 0]) (m := (Operand.tmp 22)) (x := (Operand.tmp 24)) (kv := kI) (ve := vE) (by kernel_rfl) Try.underlying73 kyI (by kernel_rfl) y (by kernel_rfl) (by kernel_rfl) (j := 3) h42 rfl (.agg #[iV 0, iV 0, uV 0, iV 0, iV 0, uV 0]) false (by rw [hM24.1.2.2 y, hg_]; exact ⟨rfl, rfl⟩)) ?_
  refine ⟨(AllC_nil _), ?_⟩
  refine yD _ [(27, .bool false), (26, .agg #[iV 0, iV 0, uV 0, iV 0, iV 0, uV 0]), (18, .tuple #[.agg #[iV 0, iV 0, uV 0, iV 0, iV 0, uV 0], .bool false])] [e0 7, e0 8, e0 9] [] [] trivial nC ?_
  refine draw_act (i := 11) [] (by kernel_rfl) (by kernel_rfl) ?_
  refine yS [(0, iV 0), (1, iV 0), (2, uV 0), (3, iV 0), (4, iV 0), (5, uV 0)] [iV 0, iV 0, uV 0, iV 0, iV 0, uV 0] h42 fun w43 h44 => ?_
  refine ⟨(AllC_nil _), ?_⟩
  refine yD _ [(7, .bool false)] [e0 12] [] [] trivial nC ?_
  refine yK [(3, pV r1), (4, pV r4), (6, pV r40), (7, .bool false)] fun lr45 => ?_
  refine ySq ?_
  refine ySq ?_
  refine yPl [0, 1, 2, 3, 4, 5, 6, 7] ?_
  refine yB0 [] [0, 1, 2, 3, 4, 5, 6, 7] [(35, .bool true), (34, undef), (33, undef), (32, undef), (31, undef), (30, .bool true), (29, .bool true), (28, .bool false)] (.mk ?_)
  refine yK [(4, pV r4), (6, pV r40), (35, .bool true)] fun lr46 => ?_
  refine yCt ?_
  refine ySq ?_
  refine yPl [0, 1, 2] ?_
  refine yB0 [1, 2] [0] [(36, .agg #[iV 0, iV 0, uV 0, iV 0, iV 0, uV 0])] ?_
  have h47 := tk8 (sf7 (sf6 (sf6 (sf6 (sf6 (sf6 (sf7 (sf7 h44))))))))
  refine yA ?_
  refine yS [(0, iV 0), (1, iV 0), (2, uV 0), (3, iV 0), (4, iV 0), (5, uV 0)] [iV 0, iV 0, uV 0, iV 0, iV 0, uV 0] h47 fun w48 h49 => ?_
  refine yB0 [] [2] [(5, iV 7)] (.mk ?_)
  refine yK [(4, pV r4), (5, iV 7)] fun lr50 => ?_
  refine yRt ?_
  repeat (first | simp only [Exit.inBlock] | simp only [Exit.then])
  have h51 := tk8 (sf7 (sf7 (sf7 (sf7 (sf3 (sf3 (sf7 (sf7 h49))))))))
  have h52 : sat g w48 [Tab b n A E RL, Cl r4 [iV 0, iV 0, uV 0, iV 0, iV 0, uV 0] 90, Cl r40 [iV 0, iV 0, uV 0, iV 0, iV 0, uV 0] 90, Cl r1 [iV x, iV y, uV z] 28, R] := tab_close hM24.1 (by omega) (by first | rfl | omega) h51
  have h53 := tk2 (sf1 (sf4 h52))
  refine hi_out [iV 0, iV 0, uV 0, iV 0, iV 0, uV 0] (.tuple #[.agg #[iV 0, iV 0, uV 0, iV 0, iV 0, uV 0], iV 7]) [(⟨r4, 0, none⟩, iV 0), (⟨r4, 1, none⟩, iV 0), (⟨r4, 2, none⟩, uV 0), (⟨r4, 3, none⟩, iV 0), (⟨r4, 4, none⟩, iV 0), (⟨r4, 5, none⟩, uV 0)] (by kernel_rfl) (allq ⟨sat_cell h49 0 rfl rfl, sat_cell h49 0 rfl rfl, sat_cell h49 0 rfl rfl, sat_cell h49 0 rfl rfl, sat_cell h49 0 rfl rfl, sat_cell h49 0 rfl rfl, trivial⟩) ?_
  exact ⟨.tuple #[.agg #[iV 0, iV 0, uV 0, iV 0, iV 0, uV 0], iV 7], [Tab b n A E RL], rfl, ⟨rfl, rfl⟩, h53⟩

set_option maxHeartbeats 4000000 in
theorem tfind_ok (b n : Nat) (A : List Sl2) (E : Tm) (RL : List Rs) (x y z : Int) (e : Ety) (hz0 : 0 ≤ z) (hz1 : z ≤ 4294967295) (ho : 1 ≤ x ∧ x ≤ 3 ∧ 0 ≤ y ∧ y ≤ 255 ∧ 1 ≤ z) (hg_ : gget E y = some e) (hd_ : e.d.1 = x ∧ e.d.2.1 = y ∧ e.d.2.2 = z) : HT Try.prog 44 [Value.pointer (some ⟨b, 0, none⟩), Value.agg #[Value.int IntKind.i64 x, Value.int IntKind.i64 y, Value.int IntKind.u32 z]] [Tab b n A E RL] (fun v K => v = Value.tuple #[Value.agg #[Value.int IntKind.i64 e.d.1, Value.int IntKind.i64 e.d.2.1, Value.int IntKind.u32 e.d.2.2, Value.int IntKind.i64 e.num, Value.int IntKind.i64 e.h.1, Value.int IntKind.u32 e.h.2], Value.int IntKind.i64 0] ∧ K = [Tab b n A E RL]) := by
 refine hi_in 38 ([(0, pV b), (1, .agg #[iV x, iV y, uV z])] : Fr) Try.func44 (by kernel_rfl) Try.ntmps44 rfl rfl ?_
 intro g w0 R h0
 refine ySq ?_
 refine yPl [0, 1, 2] ?_
 refine yA ?_
 refine yNp 3 28 [iV x, iV y, uV z] h0 fun r1 w2 h3 => ?_
 refine yA ?_
 refine yNp 4 90 [iV 0, iV 0, uV 0, iV 0, iV 0, uV 0] h3 fun r4 w5 h6 => ?_
 refine yB0 [] [2] [(5, iV 0)] (.mk ?_)
 refine yK [(0, pV b), (3, pV r1), (4, pV r4)] fun lr7 => ?_
 refine ySq ?_
 refine yBk 0 ?_
 refine ySq ?_
 refine yPl [0, 1, 2, 3] ?_
 refine yB0 [1, 2, 3] [0] [(9, pV b)] ?_
 have h8 := tk4 (sf3 (sf2 (sf2 (sf3 h6))))
 refine yA ?_
 refine yCl 10 Try.call36 (tvalid_ht b n A E RL) h8 ?_
 rintro v K w9 (⟨rfl, rfl⟩) h10
 refine ⟨_, rfl, ?_⟩
 have h11 := ap1 h10
 refine yB0 [] [2, 3] [(8, .bool false), (11, .bool false)] (.mk ?_)
 refine yK [(0, pV b), (3, pV r1), (4, pV r4), (8, .bool false)] fun lr12 => ?_
 refine yCf ?_
 refine ySq ?_
 refine yPl [0, 1, 2, 3] ?_
 refine yBb [1, 2, 3] [(14, .agg #[iV x, iV y, uV z])] [e2 0 [iV x, iV y, uV z]] [(0, ⟨r1, 0, none⟩, iV x), (0, ⟨r1, 1, none⟩, iV y), (0, ⟨r1, 2, none⟩, uV z)] [] trivial (kC (sat_cell h11 2 rfl rfl) (kC (sat_cell h11 2 rfl rfl) (kC (sat_cell h11 2 rfl rfl) nC))) ?_
 refine yA ?_
 refine yCl 15 Try.call27 (cdesc_ok x y z (by omega) (by omega) (by omega)) h11 ?_
 rintro v K w13 (⟨rfl, rfl⟩) h14
 refine ⟨_, rfl, ?_⟩
 have h15 := ap0 h14
 refine yB0 [] [2, 3] [(13, .bool false), (16, .bool false)] (.mk ?_)
 refine yK [(0, pV b), (3, pV r1), (4, pV r4), (13, .bool false)] fun lr16 => ?_
 refine yCf ?_
 refine ySk ?_
 refine ySq ?_
 refine gi_drw (id := 5) (ops := RA Try.f44 [1, 1, 0]) (Tr.fl 0 (Tr.fl 1 (Tr.fl 2 (Tr.fl 3 (Tr.fl 4 (Tr.fl 5 (Tr.an2 6 (Tr.fl 7 (Tr.fl 8 (Tr.fl 9 (Tr.an 10 (Tr.an 11 (Tr.fl 12 Tr.nil)))))) 10 (Tr.an 6 (Tr.fl 7 (Tr.fl 8 (Tr.fl 9 (Tr.an 11 (Tr.fl 12 Tr.nil))))))))))))) (by kernel_rfl) (by kernel_rfl) (by kernel_rfl) (by kernel_rfl) (by kernel_rfl) (fun _ _ d _ _ h => by cases d <;> exact h) h15 ?_
 intro w17 h18
 obtain ⟨s19, m20, p21, c22, E23, hM24, h25⟩ := tab_open h18
 have hRl_ := hM24.2
 refine yD _ [(24, iV y), (23, .pointer (some ⟨r1, 1, none⟩)), (22, .map (some m20)), (21, .pointer (some ⟨b, 1, none⟩)), (20, pV b), (19, pV b)] [e0 0, e0 1, e0 2, e2 3 [.map (some m20)], e0 4, e2 5 [iV y]] [(5, ⟨r1, 1, none⟩, iV y), (3, ⟨b, 1, none⟩, .map (some m20))] [] trivial (kC (sat_cell h25 5 rfl rfl) (kC (sat_cell h25 0 rfl rfl) nC)) ?_
 refine ⟨?_, ?_⟩
 ·
  refine draw_act (i := 6) [] (by kernel_rfl) (by kernel_rfl) ?_
  refine act_law (d := 25) (.tuple #[.agg #[iV e.d.1, iV e.d.2.1, uV e.d.2.2, iV e.num, iV e.h.1, uV e.h.2], .bool true]) (by kernel_rfl) rfl (law_lookupOk (t := 73) (z := .agg #[iV 0, iV 0, uV 0, iV 0, iV 0, uV 0]) (m := (Operand.tmp 22)) (x := (Operand.tmp 24)) (kv := kI) (ve := vE) (by kernel_rfl) Try.underlying73 kyI (by kernel_rfl) y (by kernel_rfl) (by kernel_rfl) (j := 2) h25 rfl (.agg #[iV e.d.1, iV e.d.2.1, uV e.d.2.2, iV e.num, iV e.h.1, uV e.h.2]) true (by rw [hM24.1.2.2 y, hg_]; exact ⟨rfl, rfl⟩)) ?_
  refine ⟨(AllC_nil _), ?_⟩
  refine yD _ [(27, .bool true), (26, .agg #[iV e.d.1, iV e.d.2.1, uV e.d.2.2, iV e.num, iV e.h.1, uV e.h.2]), (18, .tuple #[.agg #[iV e.d.1, iV e.d.2.1, uV e.d.2.2, iV e.num, iV e.h.1, uV e.h.2], .bool true])] [e0 7, e0 8, e0 9] [] [] trivial nC ?_
  refine draw_act (i := 10) [] (by kernel_rfl) (by kernel_rfl) ?_
  refine yNp 6 90 [iV 0, iV 0, uV 0, iV 0, iV 0, uV 0] h25 fun r26 w27 h28 => ?_
  refine ⟨(AllC_nil _), ?_⟩
  refine draw_act (i := 11) [] (by kernel_rfl) (by kernel_rfl) ?_
  refine yS [(0, iV e.d.1), (1, iV e.d.2.1), (2, uV e.d.2.2), (3, iV e.num), (4, iV e.h.1), (5, uV e.h.2)] [iV e.d.1, iV e.d.2.1, uV e.d.2.2, iV e.num, iV e.h.1, uV e.h.2] h28 fun w29 h30 => ?_
  refine ⟨(AllC_nil _), ?_⟩
  refine yD _ [(7, .bool true)] [e0 12] [] [] trivial nC ?_
  refine yK [(3, pV r1), (4, pV r4), (6, pV r26), (7, .bool true)] fun lr31 => ?_
  refine ySq ?_
  refine ySq ?_
  refine yPl [0, 1, 2, 3, 4, 5, 6, 7] ?_
  refine yBb [6, 7] [(33, .agg #[iV x, iV y, uV z]), (32, .agg #[iV e.d.1, iV e.d.2.1, uV e.d.2.2]), (31, pV r26), (30, .bool false), (29, .bool false), (28, .bool true)] [e0 0, e0 1, e0 2, e0 3, e2 4 [iV e.d.1, iV e.d.2.1, uV e.d.2.2], e2 5 [iV x, iV y, uV z]] [(5, ⟨r1, 0, none⟩, iV x), (5, ⟨r1, 1, none⟩, iV y), (5, ⟨r1, 2, none⟩, uV z), (4, ⟨r26, 0, none⟩, iV e.d.1), (4, ⟨r26, 1, none⟩, iV e.d.2.1), (4, ⟨r26, 2, none⟩, uV e.d.2.2)] [] trivial (kC (sat_cell h30 6 rfl rfl) (kC (sat_cell h30 6 rfl rfl) (kC (sat_cell h30 6 rfl rfl) (kC (sat_cell h30 0 rfl rfl) (kC (sat_cell h30 0 rfl rfl) (kC (sat_cell h30 0 rfl rfl) nC)))))) ?_
  refine plain_law (i := 6) 34 (.bool false) (by kernel_rfl) (seq28_neq_t (o := opA (RA Try.f44 [1, 1, 1, 0, 0]) 6) (x := (Operand.tmp 32)) (y := (Operand.tmp 33)) e.d.1 e.d.2.1 e.d.2.2 x y z (by kernel_rfl) (by kernel_rfl) (by kernel_rfl) ⟨(by omega), (by omega), (by omega)⟩ _) ?_
  refine yB0 [] [7] [(35, .bool false)] (.mk ?_)
  refine yK [(4, pV r4), (6, pV r26), (35, .bool false)] fun lr32 => ?_
  refine yCf ?_
  refine ySk ?_
  refine ySq ?_
  refine yPl [0, 1, 2] ?_
  refine yBb [1, 2] [(37, .agg #[iV e.d.1, iV e.d.2.1, uV e.d.2.2, iV e.num, iV e.h.1, uV e.h.2])] [e2 0 [iV e.d.1, iV e.d.2.1, uV e.d.2.2, iV e.num, iV e.h.1, uV e.h.2]] [(0, ⟨r26, 0, none⟩, iV e.d.1), (0, ⟨r26, 1, none⟩, iV e.d.2.1), (0, ⟨r26, 2, none⟩, uV e.d.2.2), (0, ⟨r26, 3, none⟩, iV e.num), (0, ⟨r26, 4, none⟩, iV e.h.1), (0, ⟨r26, 5, none⟩, uV e.h.2)] [] trivial (kC (sat_cell h30 0 rfl rfl) (kC (sat_cell h30 0 rfl rfl) (kC (sat_cell h30 0 rfl rfl) (kC (sat_cell h30 0 rfl rfl) (kC (sat_cell h30 0 rfl rfl) (kC (sat_cell h30 0 rfl rfl) nC)))))) ?_
  have h33 := tk8 (sf7 (sf6 (sf6 (sf6 (sf6 (sf6 (sf7 (sf7 h30))))))))
  refine yA ?_
  refine yS [(0, iV e.d.1), (1, iV e.d.2.1), (2, uV e.d.2.2), (3, iV e.num), (4, iV e.h.1), (5, uV e.h.2)] [iV e.d.1, iV e.d.2.1, uV e.d.2.2, iV e.num, iV e.h.1, uV e.h.2] h33 fun w34 h35 => ?_
  refine yB0 [] [2] [(5, iV 0)] (.mk ?_)
  refine yK [(4, pV r4), (5, iV 0)] fun lr36 => ?_
  refine yRt ?_
  repeat (first | simp only [Exit.inBlock] | simp only [Exit.then])
  have h37 := tk8 (sf7 (sf7 (sf7 (sf7 (sf3 (sf3 (sf7 (sf7 h35))))))))
  have h38 : sat g w34 [Tab b n A E RL, Cl r4 [iV e.d.1, iV e.d.2.1, uV e.d.2.2, iV e.num, iV e.h.1, uV e.h.2] 90, Cl r26 [iV e.d.1, iV e.d.2.1, uV e.d.2.2, iV e.num, iV e.h.1, uV e.h.2] 90, Cl r1 [iV x, iV y, uV z] 28, R] := tab_close hM24.1 (by omega) (by first | rfl | omega) h37
  have h39 := tk2 (sf1 (sf4 h38))
  refine hi_out [iV e.d.1, iV e.d.2.1, uV e.d.2.2, iV e.num, iV e.h.1, uV e.h.2] (.tuple #[.agg #[iV e.d.1, iV e.d.2.1, uV e.d.2.2, iV e.num, iV e.h.1, uV e.h.2], iV 0]) [(⟨r4, 0, none⟩, iV e.d.1), (⟨r4, 1, none⟩, iV e.d.2.1), (⟨r4, 2, none⟩, uV e.d.2.2), (⟨r4, 3, none⟩, iV e.num), (⟨r4, 4, none⟩, iV e.h.1), (⟨r4, 5, none⟩, uV e.h.2)] (by kernel_rfl) (allq ⟨sat_cell h35 0 rfl rfl, sat_cell h35 0 rfl rfl, sat_cell h35 0 rfl rfl, sat_cell h35 0 rfl rfl, sat_cell h35 0 rfl rfl, sat_cell h35 0 rfl rfl, trivial⟩) ?_
  exact ⟨.tuple #[.agg #[iV e.d.1, iV e.d.2.1, uV e.d.2.2, iV e.num, iV e.h.1, uV e.h.2], iV 0], [Tab b n A E RL], rfl, ⟨rfl, rfl⟩, h39⟩
 ·
  refine draw_act (i := 10) [(5, ⟨r1, 1, none⟩, iV y), (3, ⟨b, 1, none⟩, .map (some m20))] (by kernel_rfl) (by kernel_rfl) ?_
  refine yNp 6 90 [iV 0, iV 0, uV 0, iV 0, iV 0, uV 0] h25 fun r40 w41 h42 => ?_
  refine ⟨(AllC_cons (sat_cell h42 6 rfl rfl) (AllC_cons (sat_cell h42 1 rfl rfl) (AllC_nil _))), ?_⟩
  refine draw_act (i := 6) [] (by kernel_rfl) (by kernel_rfl) ?_
  refine act_law (d := 25) (.tuple #[.agg #[iV e.d.1, iV e.d.2.1, uV e.d.2.2, iV e.num, iV e.h.1, uV e.h.2], .bool true]) (by kernel_rfl) rfl (law_lookupOk (t := 73) (z := .agg #[iV 0, iV 0, uV 0, iV 0, iV 0, uV 0]) (m := (Operand.tmp 22)) (x := (Operand.tmp 24)) (kv := kI) (ve := vE) (by kernel_rfl) Try.underlying73 kyI (by kernel_rfl) y (by kernel_rfl) (by kernel_rfl) (j := 3) h42 rfl (.agg #[iV e.d.1, iV e.d.2.1, uV e.d.2.2, iV e.num, iV e.h.1, uV e.h.2]) true (by rw [hM24.1.2.2 y, hg_]; exact ⟨rfl, rfl⟩)) ?_
  refine ⟨(AllC_nil _), ?_⟩
  refine yD _ [(27, .bool true), (26, .agg #[iV e.d.1, iV e.d.2.1, uV e.d.2.2, iV e.num, iV e.h.1, uV e.h.2]), (18, .tuple #[.agg #[iV e.d.1, iV e.d.2.1, uV e.d.2.2, iV e.num, iV e.h.1, uV e.h.2], .bool true])] [e0 7, e0 8, e0 9] [] [] trivial nC ?_
  refine draw_act (i := 11) [] (by kernel_rfl) (by kernel_rfl) ?_
  refine yS [(0, iV e.d.1), (1, iV e.d.2.1), (2, uV e.d.2.2), (3, iV e.num), (4, iV e.h.1), (5, uV e.h.2)] [iV e.d.1, iV e.d.2.1, uV e.d.2.2, iV e.num, iV e.h.1, uV e.h.2] h42 fun w43 h44 => ?_
  refine ⟨(AllC_nil _), ?_⟩
  refine yD _ [(7, .bool true)] [e0 12] [] [] trivial nC ?_
  refine yK [(3, pV r1), (4, pV r4), (6, pV r40), (7, .bool true)] fun lr45 => ?_
  refine ySq ?_
  refine ySq ?_
  refine yPl [0, 1, 2, 3, 4, 5, 6, 7] ?_
  refine yBb [6, 7] [(33, .agg #[iV x, iV y, uV z]), (32, .agg #[iV e.d.1, iV e.d.2.1, uV e.d.2.2]), (31, pV r40), (30, .bool false), (29, .bool false), (28, .bool true)] [e0 0, e0 1, e0 2, e0 3, e2 4 [iV e.d.1, iV e.d.2.1, uV e.d.2.2], e2 5 [iV x, iV y, uV z]] [(5, ⟨r1, 0, none⟩, iV x), (5, ⟨r1, 1, none⟩, iV y), (5, ⟨r1, 2, none⟩, uV z), (4, ⟨r40, 0, none⟩, iV e.d.1), (4, ⟨r40, 1, none⟩, iV e.d.2.1), (4, ⟨r40, 2, none⟩, uV e.d.2.2)] [] trivial (kC (sat_cell h44 6 rfl rfl) (kC (sat_cell h44 6 rfl rfl) (kC (sat_cell h44 6 rfl rfl) (kC (sat_cell h44 0 rfl rfl) (kC (sat_cell h44 0 rfl rfl) (kC (sat_cell h44 0 rfl rfl) nC)))))) ?_
  refine plain_law (i := 6) 34 (.bool false) (by kernel_rfl) (seq28_neq_t (o := opA (RA Try.f44 [1, 1, 1, 0, 0]) 6) (x := (Operand.tmp 32)) (y := (Operand.tmp 33)) e.d.1 e.d.2.1 e.d.2.2 x y z (by kernel_rfl) (by kernel_rfl) (by kernel_rfl) ⟨(by omega), (by omega), (by omega)⟩ _) ?_
  refine yB0 [] [7] [(35, .bool false)] (.mk ?_)
  refine yK [(4, pV r4), (6, pV r40), (35, .bool false)] fun lr46 => ?_
  refine yCf ?_
  refine ySk ?_
  refine ySq ?_
  refine yPl [0, 1, 2] ?_
  refine yBb [1, 2] [(37, .agg #[iV e.d.1, iV e.d.2.1, uV e.d.2.2, iV e.num, iV e.h.1, uV e.h.2])] [e2 0 [iV e.d.1, iV e.d.2.1, uV e.d.2.2, iV e.num, iV e.h.1, uV e.h.2]] [(0, ⟨r40, 0, none⟩, iV e.d.1), (0, ⟨r40, 1, none⟩, iV e.d.2.1), (0, ⟨r40, 2, none⟩, uV e.d.2.2), (0, ⟨r40, 3, none⟩, iV e.num), (0, ⟨r40, 4, none⟩, iV e.h.1), (0, ⟨r40, 5, none⟩, uV e.h.2)] [] trivial (kC (sat_cell h44 0 rfl rfl) (kC (sat_cell h44 0 rfl rfl) (kC (sat_cell h44 0 rfl rfl) (kC (sat_cell h44 0 rfl rfl) (kC (sat_cell h44 0 rfl rfl) (kC (sat_cell h44 0 rfl rfl) nC)))))) ?_
  have h47 := tk8 (sf7 (sf6 (sf6 (sf6 (sf6 (sf6 (sf7 (sf7 h44))))))))
  refine yA ?_
  refine yS [(0, iV e.d.1), (1, iV e.d.2.1), (2, uV e.d.2.2), (3, iV e.num), (4, iV e.h.1), (5, uV e.h.2)] [iV e.d.1, iV e.d.2.1, uV e.d.2.2, iV e.num, iV e.h.1, uV e.h.2] h47 fun w48 h49 => ?_
  refine yB0 [] [2] [(5, iV 0)] (.mk ?_)
  refine yK [(4, pV r4), (5, iV 0)] fun lr50 => ?_
  refine yRt ?_
  repeat (first | simp only [Exit.inBlock] | simp only [Exit.then])
  have h51 := tk8 (sf7 (sf7 (sf7 (sf7 (sf3 (sf3 (sf7 (sf7 h49))))))))
  have h52 : sat g w48 [Tab b n A E RL, Cl r4 [iV e.d.1, iV e.d.2.1, uV e.d.2.2, iV e.num, iV e.h.1, uV e.h.2] 90, Cl r40 [iV e.d.1, iV e.d.2.1, uV e.d.2.2, iV e.num, iV e.h.1, uV e.h.2] 90, Cl r1 [iV x, iV y, uV z] 28, R] := tab_close hM24.1 (by omega) (by first | rfl | omega) h51
  have h53 := tk2 (sf1 (sf4 h52))
  refine hi_out [iV e.d.1, iV e.d.2.1, uV e.d.2.2, iV e.num, iV e.h.1, uV e.h.2] (.tuple #[.agg #[iV e.d.1, iV e.d.2.1, uV e.d.2.2, iV e.num, iV e.h.1, uV e.h.2], iV 0]) [(⟨r4, 0, none⟩, iV e.d.1), (⟨r4, 1, none⟩, iV e.d.2.1), (⟨r4, 2, none⟩, uV e.d.2.2), (⟨r4, 3, none⟩, iV e.num), (⟨r4, 4, none⟩, iV e.h.1), (⟨r4, 5, none⟩, uV e.h.2)] (by kernel_rfl) (allq ⟨sat_cell h49 0 rfl rfl, sat_cell h49 0 rfl rfl, sat_cell h49 0 rfl rfl, sat_cell h49 0 rfl rfl, sat_cell h49 0 rfl rfl, sat_cell h49 0 rfl rfl, trivial⟩) ?_
  exact ⟨.tuple #[.agg #[iV e.d.1, iV e.d.2.1, uV e.d.2.2, iV e.num, iV e.h.1, uV e.h.2], iV 0], [Tab b n A E RL], rfl, ⟨rfl, rfl⟩, h53⟩

set_option maxHeartbeats 4000000 in
theorem tfind_diff (b n : Nat) (A : List Sl2) (E : Tm) (RL : List Rs) (x y z : Int) (e : Ety) (hz0 : 0 ≤ z) (hz1 : z ≤ 4294967295) (ho : 1 ≤ x ∧ x ≤ 3 ∧ 0 ≤ y ∧ y ≤ 255 ∧ 1 ≤ z) (hg_ : gget E y = some e) (hd_ : ¬ (e.d.1 = x ∧ e.d.2.1 = y ∧ e.d.2.2 = z)) : HT Try.prog 44 [Value.pointer (some ⟨b, 0, none⟩), Value.agg #[Value.int IntKind.i64 x, Value.int IntKind.i64 y, Value.int IntKind.u32 z]] [Tab b n A E RL] (fun v K => v = Value.tuple #[Value.agg #[Value.int IntKind.i64 0, Value.int IntKind.i64 0, Value.int IntKind.u32 0, Value.int IntKind.i64 0, Value.int IntKind.i64 0, Value.int IntKind.u32 0], Value.int IntKind.i64 7] ∧ K = [Tab b n A E RL]) := by
 refine hi_in 38 ([(0, pV b), (1, .agg #[iV x, iV y, uV z])] : Fr) Try.func44 (by kernel_rfl) Try.ntmps44 rfl rfl ?_
 intro g w0 R h0
 refine ySq ?_
 refine yPl [0, 1, 2] ?_
 refine yA ?_
 refine yNp 3 28 [iV x, iV y, uV z] h0 fun r1 w2 h3 => ?_
 refine yA ?_
 refine yNp 4 90 [iV 0, iV 0, uV 0, iV 0, iV 0, uV 0] h3 fun r4 w5 h6 => ?_
 refine yB0 [] [2] [(5, iV 0)] (.mk ?_)
 refine yK [(0, pV b), (3, pV r1), (4, pV r4)] fun lr7 => ?_
 refine ySq ?_
 refine yBk 0 ?_
 refine ySq ?_
 refine yPl [0, 1, 2, 3] ?_
 refine yB0 [1, 2, 3] [0] [(9, pV b)] ?_
 have h8 := tk4 (sf3 (sf2 (sf2 (sf3 h6))))
 refine yA ?_
 refine yCl 10 Try.call36 (tvalid_ht b n A E RL) h8 ?_
 rintro v K w9 (⟨rfl, rfl⟩) h10
 refine ⟨_, rfl, ?_⟩
 have h11 := ap1 h10
 refine yB0 [] [2, 3] [(8, .bool false), (11, .bool false)] (.mk ?_)
 refine yK [(0, pV b), (3, pV r1), (4, pV r4), (8, .bool false)] fun lr12 => ?_
 refine yCf ?_
 refine ySq ?_
 refine yPl [0, 1, 2, 3] ?_
 refine yBb [1, 2, 3] [(14, .agg #[iV x, iV y, uV z])] [e2 0 [iV x, iV y, uV z]] [(0, ⟨r1, 0, none⟩, iV x), (0, ⟨r1, 1, none⟩, iV y), (0, ⟨r1, 2, none⟩, uV z)] [] trivial (kC (sat_cell h11 2 rfl rfl) (kC (sat_cell h11 2 rfl rfl) (kC (sat_cell h11 2 rfl rfl) nC))) ?_
 refine yA ?_
 refine yCl 15 Try.call27 (cdesc_ok x y z (by omega) (by omega) (by omega)) h11 ?_
 rintro v K w13 (⟨rfl, rfl⟩) h14
 refine ⟨_, rfl, ?_⟩
 have h15 := ap0 h14
 refine yB0 [] [2, 3] [(13, .bool false), (16, .bool false)] (.mk ?_)
 refine yK [(0, pV b), (3, pV r1), (4, pV r4), (13, .bool false)] fun lr16 => ?_
 refine yCf ?_
 refine ySk ?_
 refine ySq ?_
 refine gi_drw (id := 5) (ops := RA Try.f44 [1, 1, 0]) (Tr.fl 0 (Tr.fl 1 (Tr.fl 2 (Tr.fl 3 (Tr.fl 4 (Tr.fl 5 (Tr.an2 6 (Tr.fl 7 (Tr.fl 8 (Tr.fl 9 (Tr.an 10 (Tr.an 11 (Tr.fl 12 Tr.nil)))))) 10 (Tr.an 6 (Tr.fl 7 (Tr.fl 8 (Tr.fl 9 (Tr.an 11 (Tr.fl 12 Tr.nil))))))))))))) (by kernel_rfl) (by kernel_rfl) (by kernel_rfl) (by kernel_rfl) (by kernel_rfl) (fun _ _ d _ _ h => by cases d <;> exact h) h15 ?_
 intro w17 h18
 obtain ⟨s19, m20, p21, c22, E23, hM24, h25⟩ := tab_open h18
 have hRl_ := hM24.2
 refine yD _ [(24, iV y), (23, .pointer (some ⟨r1, 1, none⟩)), (22, .map (some m20)), (21, .pointer (some ⟨b, 1, none⟩)), (20, pV b), (19, pV b)] [e0 0, e0 1, e0 2, e2 3 [.map (some m20)], e0 4, e2 5 [iV y]] [(5, ⟨r1, 1, none⟩, iV y), (3, ⟨b, 1, none⟩, .map (some m20))] [] trivial (kC (sat_cell h25 5 rfl rfl) (kC (sat_cell h25 0 rfl rfl) nC)) ?_
 refine ⟨?_, ?_⟩
 ·
  refine draw_act (i := 6) [] (by kernel_rfl) (by kernel_rfl) ?_
  refine act_law (d := 25) (.tuple #[.agg #[iV e.d.1, iV e.d.2.1, uV e.d.2.2, iV e.num, iV e.h.1, uV e.h.2], .bool true]) (by kernel_rfl) rfl (law_lookupOk (t := 73) (z := .agg #[iV 0, iV 0, uV 0, iV 0, iV 0, uV 0]) (m := (Operand.tmp 22)) (x := (Operand.tmp 24)) (kv := kI) (ve := vE) (by kernel_rfl) Try.underlying73 kyI (by kernel_rfl) y (by kernel_rfl) (by kernel_rfl) (j := 2) h25 rfl (.agg #[iV e.d.1, iV e.d.2.1, uV e.d.2.2, iV e.num, iV e.h.1, uV e.h.2]) true (by rw [hM24.1.2.2 y, hg_]; exact ⟨rfl, rfl⟩)) ?_
  refine ⟨(AllC_nil _), ?_⟩
  refine yD _ [(27, .bool true), (26, .agg #[iV e.d.1, iV e.d.2.1, uV e.d.2.2, iV e.num, iV e.h.1, uV e.h.2]), (18, .tuple #[.agg #[iV e.d.1, iV e.d.2.1, uV e.d.2.2, iV e.num, iV e.h.1, uV e.h.2], .bool true])] [e0 7, e0 8, e0 9] [] [] trivial nC ?_
  refine draw_act (i := 10) [] (by kernel_rfl) (by kernel_rfl) ?_
  refine yNp 6 90 [iV 0, iV 0, uV 0, iV 0, iV 0, uV 0] h25 fun r26 w27 h28 => ?_
  refine ⟨(AllC_nil _), ?_⟩
  refine draw_act (i := 11) [] (by kernel_rfl) (by kernel_rfl) ?_
  refine yS [(0, iV e.d.1), (1, iV e.d.2.1), (2, uV e.d.2.2), (3, iV e.num), (4, iV e.h.1), (5, uV e.h.2)] [iV e.d.1, iV e.d.2.1, uV e.d.2.2, iV e.num, iV e.h.1, uV e.h.2] h28 fun w29 h30 => ?_
  refine ⟨(AllC_nil _), ?_⟩
  refine yD _ [(7, .bool true)] [e0 12] [] [] trivial nC ?_
  refine yK [(3, pV r1), (4, pV r4), (6, pV r26), (7, .bool true)] fun lr31 => ?_
  refine ySq ?_
  refine ySq ?_
  refine yPl [0, 1, 2, 3, 4, 5, 6, 7] ?_
  refine yBb [6, 7] [(33, .agg #[iV x, iV y, uV z]), (32, .agg #[iV e.d.1, iV e.d.2.1, uV e.d.2.2]), (31, pV r26), (30, .bool false), (29, .bool false), (28, .bool true)] [e0 0, e0 1, e0 2, e0 3, e2 4 [iV e.d.1, iV e.d.2.1, uV e.d.2.2], e2 5 [iV x, iV y, uV z]] [(5, ⟨r1, 0, none⟩, iV x), (5, ⟨r1, 1, none⟩, iV y), (5, ⟨r1, 2, none⟩, uV z), (4, ⟨r26, 0, none⟩, iV e.d.1), (4, ⟨r26, 1, none⟩, iV e.d.2.1), (4, ⟨r26, 2, none⟩, uV e.d.2.2)] [] trivial (kC (sat_cell h30 6 rfl rfl) (kC (sat_cell h30 6 rfl rfl) (kC (sat_cell h30 6 rfl rfl) (kC (sat_cell h30 0 rfl rfl) (kC (sat_cell h30 0 rfl rfl) (kC (sat_cell h30 0 rfl rfl) nC)))))) ?_
  by_cases c32 : e.d.1 = x
  ·
   by_cases c33 : e.d.2.1 = y
   ·
    refine plain_law (i := 6) 34 (.bool true) (by kernel_rfl) (seq28_neq_f (o := opA (RA Try.f44 [1, 1, 1, 0, 0]) 6) (x := (Operand.tmp 32)) (y := (Operand.tmp 33)) e.d.1 e.d.2.1 e.d.2.2 x y z (by kernel_rfl) (by kernel_rfl) (by kernel_rfl) (by omega) _) ?_
    refine yB0 [] [7] [(35, .bool true)] (.mk ?_)
    refine yK [(4, pV r4), (6, pV r26), (35, .bool true)] fun lr34 => ?_
    refine yCt ?_
    refine ySq ?_
    refine yPl [0, 1, 2] ?_
    refine yB0 [1, 2] [0] [(36, .agg #[iV 0, iV 0, uV 0, iV 0, iV 0, uV 0])] ?_
    have h35 := tk8 (sf7 (sf6 (sf6 (sf6 (sf6 (sf6 (sf7 (sf7 h30))))))))
    refine yA ?_
    refine yS [(0, iV 0), (1, iV 0), (2, uV 0), (3, iV 0), (4, iV 0), (5, uV 0)] [iV 0, iV 0, uV 0, iV 0, iV 0, uV 0] h35 fun w36 h37 => ?_
    refine yB0 [] [2] [(5, iV 7)] (.mk ?_)
    refine yK [(4, pV r4), (5, iV 7)] fun lr38 => ?_
    refine yRt ?_
    repeat (first | simp only [Exit.inBlock] | simp only [Exit.then])
    have h39 := tk8 (sf7 (sf7 (sf7 (sf7 (sf3 (sf3 (sf7 (sf7 h37))))))))
    have h40 : sat g w36 [Tab b n A E RL, Cl r4 [iV 0, iV 0, uV 0, iV 0, iV 0, uV 0] 90, Cl r26 [iV e.d.1, iV e.d.2.1, uV e.d.2.2, iV e.num, iV e.h.1, uV e.h.2] 90, Cl r1 [iV x, iV y, uV z] 28, R] := tab_close hM24.1 (by omega) (by first | rfl | omega) h39
    have h41 := tk2 (sf1 (sf4 h40))
    refine hi_out [iV 0, iV 0, uV 0, iV 0, iV 0, uV 0] (.tuple #[.agg #[iV 0, iV 0, uV 0, iV 0, iV 0, uV 0], iV 7]) [(⟨r4, 0, none⟩, iV 0), (⟨r4, 1, none⟩, iV 0), (⟨r4, 2, none⟩, uV 0), (⟨r4, 3, none⟩, iV 0), (⟨r4, 4, none⟩, iV 0), (⟨r4, 5, none⟩, uV 0)] (by kernel_rfl) (allq ⟨sat_cell h37 0 rfl rfl, sat_cell h37 0 rfl rfl, sat_cell h37 0 rfl rfl, sat_cell h37 0 rfl rfl, sat_cell h37 0 rfl rfl, sat_cell h37 0 rfl rfl, trivial⟩) ?_
    exact ⟨.tuple #[.agg #[iV 0, iV 0, uV 0, iV 0, iV 0, uV 0], iV 7], [Tab b n A E RL], rfl, ⟨rfl, rfl⟩, h41⟩
   ·
    refine plain_law (i := 6) 34 (.bool true) (by kernel_rfl) (seq28_neq_f (o := opA (RA Try.f44 [1, 1, 1, 0, 0]) 6) (x := (Operand.tmp 32)) (y := (Operand.tmp 33)) e.d.1 e.d.2.1 e.d.2.2 x y z (by kernel_rfl) (by kernel_rfl) (by kernel_rfl) (by omega) _) ?_
    refine yB0 [] [7] [(35, .bool true)] (.mk ?_)
    refine yK [(4, pV r4), (6, pV r26), (35, .bool true)] fun lr42 => ?_
    refine yCt ?_
    refine ySq ?_
    refine yPl [0, 1, 2] ?_
    refine yB0 [1, 2] [0] [(36, .agg #[iV 0, iV 0, uV 0, iV 0, iV 0, uV 0])] ?_
    have h43 := tk8 (sf7 (sf6 (sf6 (sf6 (sf6 (sf6 (sf7 (sf7 h30))))))))
    refine yA ?_
    refine yS [(0, iV 0), (1, iV 0), (2, uV 0), (3, iV 0), (4, iV 0), (5, uV 0)] [iV 0, iV 0, uV 0, iV 0, iV 0, uV 0] h43 fun w44 h45 => ?_
    refine yB0 [] [2] [(5, iV 7)] (.mk ?_)
    refine yK [(4, pV r4), (5, iV 7)] fun lr46 => ?_
    refine yRt ?_
    repeat (first | simp only [Exit.inBlock] | simp only [Exit.then])
    have h47 := tk8 (sf7 (sf7 (sf7 (sf7 (sf3 (sf3 (sf7 (sf7 h45))))))))
    have h48 : sat g w44 [Tab b n A E RL, Cl r4 [iV 0, iV 0, uV 0, iV 0, iV 0, uV 0] 90, Cl r26 [iV e.d.1, iV e.d.2.1, uV e.d.2.2, iV e.num, iV e.h.1, uV e.h.2] 90, Cl r1 [iV x, iV y, uV z] 28, R] := tab_close hM24.1 (by omega) (by first | rfl | omega) h47
    have h49 := tk2 (sf1 (sf4 h48))
    refine hi_out [iV 0, iV 0, uV 0, iV 0, iV 0, uV 0] (.tuple #[.agg #[iV 0, iV 0, uV 0, iV 0, iV 0, uV 0], iV 7]) [(⟨r4, 0, none⟩, iV 0), (⟨r4, 1, none⟩, iV 0), (⟨r4, 2, none⟩, uV 0), (⟨r4, 3, none⟩, iV 0), (⟨r4, 4, none⟩, iV 0), (⟨r4, 5, none⟩, uV 0)] (by kernel_rfl) (allq ⟨sat_cell h45 0 rfl rfl, sat_cell h45 0 rfl rfl, sat_cell h45 0 rfl rfl, sat_cell h45 0 rfl rfl, sat_cell h45 0 rfl rfl, sat_cell h45 0 rfl rfl, trivial⟩) ?_
    exact ⟨.tuple #[.agg #[iV 0, iV 0, uV 0, iV 0, iV 0, uV 0], iV 7], [Tab b n A E RL], rfl, ⟨rfl, rfl⟩, h49⟩
  ·
   refine plain_law (i := 6) 34 (.bool true) (by kernel_rfl) (seq28_neq_f (o := opA (RA Try.f44 [1, 1, 1, 0, 0]) 6) (x := (Operand.tmp 32)) (y := (Operand.tmp 33)) e.d.1 e.d.2.1 e.d.2.2 x y z (by kernel_rfl) (by kernel_rfl) (by kernel_rfl) (by omega) _) ?_
   refine yB0 [] [7] [(35, .bool true)] (.mk ?_)
   refine yK [(4, pV r4), (6, pV r26), (35, .bool true)] fun lr50 => ?_
   refine yCt ?_
   refine ySq ?_
   refine yPl [0, 1, 2] ?_
   refine yB0 [1, 2] [0] [(36, .agg #[iV 0, iV 0, uV 0, iV 0, iV 0, uV 0])] ?_
   have h51 := tk8 (sf7 (sf6 (sf6 (sf6 (sf6 (sf6 (sf7 (sf7 h30))))))))
   refine yA ?_
   refine yS [(0, iV 0), (1, iV 0), (2, uV 0), (3, iV 0), (4, iV 0), (5, uV 0)] [iV 0, iV 0, uV 0, iV 0, iV 0, uV 0] h51 fun w52 h53 => ?_
   refine yB0 [] [2] [(5, iV 7)] (.mk ?_)
   refine yK [(4, pV r4), (5, iV 7)] fun lr54 => ?_
   refine yRt ?_
   repeat (first | simp only [Exit.inBlock] | simp only [Exit.then])
   have h55 := tk8 (sf7 (sf7 (sf7 (sf7 (sf3 (sf3 (sf7 (sf7 h53))))))))
   have h56 : sat g w52 [Tab b n A E RL, Cl r4 [iV 0, iV 0, uV 0, iV 0, iV 0, uV 0] 90, Cl r26 [iV e.d.1, iV e.d.2.1, uV e.d.2.2, iV e.num, iV e.h.1, uV e.h.2] 90, Cl r1 [iV x, iV y, uV z] 28, R] := tab_close hM24.1 (by omega) (by first | rfl | omega) h55
   have h57 := tk2 (sf1 (sf4 h56))
   refine hi_out [iV 0, iV 0, uV 0, iV 0, iV 0, uV 0] (.tuple #[.agg #[iV 0, iV 0, uV 0, iV 0, iV 0, uV 0], iV 7]) [(⟨r4, 0, none⟩, iV 0), (⟨r4, 1, none⟩, iV 0), (⟨r4, 2, none⟩, uV 0), (⟨r4, 3, none⟩, iV 0), (⟨r4, 4, none⟩, iV 0), (⟨r4, 5, none⟩, uV 0)] (by kernel_rfl) (allq ⟨sat_cell h53 0 rfl rfl, sat_cell h53 0 rfl rfl, sat_cell h53 0 rfl rfl, sat_cell h53 0 rfl rfl, sat_cell h53 0 rfl rfl, sat_cell h53 0 rfl rfl, trivial⟩) ?_
   exact ⟨.tuple #[.agg #[iV 0, iV 0, uV 0, iV 0, iV 0, uV 0], iV 7], [Tab b n A E RL], rfl, ⟨rfl, rfl⟩, h57⟩
 ·
  refine draw_act (i := 10) [(5, ⟨r1, 1, none⟩, iV y), (3, ⟨b, 1, none⟩, .map (some m20))] (by kernel_rfl) (by kernel_rfl) ?_
  refine yNp 6 90 [iV 0, iV 0, uV 0, iV 0, iV 0, uV 0] h25 fun r58 w59 h60 => ?_
  refine ⟨(AllC_cons (sat_cell h60 6 rfl rfl) (AllC_cons (sat_cell h60 1 rfl rfl) (AllC_nil _))), ?_⟩
  refine draw_act (i := 6) [] (by kernel_rfl) (by kernel_rfl) ?_
  refine act_law (d := 25) (.tuple #[.agg #[iV e.d.1, iV e.d.2.1, uV e.d.2.2, iV e.num, iV e.h.1, uV e.h.2], .bool true]) (by kernel_rfl) rfl (law_lookupOk (t := 73) (z := .agg #[iV 0, iV 0, uV 0, iV 0, iV 0, uV 0]) (m := (Operand.tmp 22)) (x := (Operand.tmp 24)) (kv := kI) (ve := vE) (by kernel_rfl) Try.underlying73 kyI (by kernel_rfl) y (by kernel_rfl) (by kernel_rfl) (j := 3) h60 rfl (.agg #[iV e.d.1, iV e.d.2.1, uV e.d.2.2, iV e.num, iV e.h.1, uV e.h.2]) true (by rw [hM24.1.2.2 y, hg_]; exact ⟨rfl, rfl⟩)) ?_
  refine ⟨(AllC_nil _), ?_⟩
  refine yD _ [(27, .bool true), (26, .agg #[iV e.d.1, iV e.d.2.1, uV e.d.2.2, iV e.num, iV e.h.1, uV e.h.2]), (18, .tuple #[.agg #[iV e.d.1, iV e.d.2.1, uV e.d.2.2, iV e.num, iV e.h.1, uV e.h.2], .bool true])] [e0 7, e0 8, e0 9] [] [] trivial nC ?_
  refine draw_act (i := 11) [] (by kernel_rfl) (by kernel_rfl) ?_
  refine yS [(0, iV e.d.1), (1, iV e.d.2.1), (2, uV e.d.2.2), (3, iV e.num), (4, iV e.h.1), (5, uV e.h.2)] [iV e.d.1, iV e.d.2.1, uV e.d.2.2, iV e.num, iV e.h.1, uV e.h.2] h60 fun w61 h62 => ?_
  refine ⟨(AllC_nil _), ?_⟩
  refine yD _ [(7, .bool true)] [e0 12] [] [] trivial nC ?_
  refine yK [(3, pV r1), (4, pV r4), (6, pV r58), (7, .bool true)] fun lr63 => ?_
  refine ySq ?_
  refine ySq ?_
  refine yPl [0, 1, 2, 3, 4, 5, 6, 7] ?_
  refine yBb [6, 7] [(33, .agg #[iV x, iV y, uV z]), (32, .agg #[iV e.d.1, iV e.d.2.1, uV e.d.2.2]), (31, pV r58), (30, .bool false), (29, .bool false), (28, .bool true)] [e0 0, e0 1, e0 2, e0 3, e2 4 [iV e.d.1, iV e.d.2.1, uV e.d.2.2], e2 5 [iV x, iV y, uV z]] [(5, ⟨r1, 0, none⟩, iV x), (5, ⟨r1, 1, none⟩, iV y), (5, ⟨r1, 2, none⟩, uV z), (4, ⟨r58, 0, none⟩, iV e.d.1), (4, ⟨r58, 1, none⟩, iV e.d.2.1), (4, ⟨r58, 2, none⟩, uV e.d.2.2)] [] trivial (kC (sat_cell h62 6 rfl rfl) (kC (sat_cell h62 6 rfl rfl) (kC (sat_cell h62 6 rfl rfl) (kC (sat_cell h62 0 rfl rfl) (kC (sat_cell h62 0 rfl rfl) (kC (sat_cell h62 0 rfl rfl) nC)))))) ?_
  by_cases c64 : e.d.1 = x
  ·
   by_cases c65 : e.d.2.1 = y
   ·
    refine plain_law (i := 6) 34 (.bool true) (by kernel_rfl) (seq28_neq_f (o := opA (RA Try.f44 [1, 1, 1, 0, 0]) 6) (x := (Operand.tmp 32)) (y := (Operand.tmp 33)) e.d.1 e.d.2.1 e.d.2.2 x y z (by kernel_rfl) (by kernel_rfl) (by kernel_rfl) (by omega) _) ?_
    refine yB0 [] [7] [(35, .bool true)] (.mk ?_)
    refine yK [(4, pV r4), (6, pV r58), (35, .bool true)] fun lr66 => ?_
    refine yCt ?_
    refine ySq ?_
    refine yPl [0, 1, 2] ?_
    refine yB0 [1, 2] [0] [(36, .agg #[iV 0, iV 0, uV 0, iV 0, iV 0, uV 0])] ?_
    have h67 := tk8 (sf7 (sf6 (sf6 (sf6 (sf6 (sf6 (sf7 (sf7 h62))))))))
    refine yA ?_
    refine yS [(0, iV 0), (1, iV 0), (2, uV 0), (3, iV 0), (4, iV 0), (5, uV 0)] [iV 0, iV 0, uV 0, iV 0, iV 0, uV 0] h67 fun w68 h69 => ?_
    refine yB0 [] [2] [(5, iV 7)] (.mk ?_)
    refine yK [(4, pV r4), (5, iV 7)] fun lr70 => ?_
    refine yRt ?_
    repeat (first | simp only [Exit.inBlock] | simp only [Exit.then])
    have h71 := tk8 (sf7 (sf7 (sf7 (sf7 (sf3 (sf3 (sf7 (sf7 h69))))))))
    have h72 : sat g w68 [Tab b n A E RL, Cl r4 [iV 0, iV 0, uV 0, iV 0, iV 0, uV 0] 90, Cl r58 [iV e.d.1, iV e.d.2.1, uV e.d.2.2, iV e.num, iV e.h.1, uV e.h.2] 90, Cl r1 [iV x, iV y, uV z] 28, R] := tab_close hM24.1 (by omega) (by first | rfl | omega) h71
    have h73 := tk2 (sf1 (sf4 h72))
    refine hi_out [iV 0, iV 0, uV 0, iV 0, iV 0, uV 0] (.tuple #[.agg #[iV 0, iV 0, uV 0, iV 0, iV 0, uV 0], iV 7]) [(⟨r4, 0, none⟩, iV 0), (⟨r4, 1, none⟩, iV 0), (⟨r4, 2, none⟩, uV 0), (⟨r4, 3, none⟩, iV 0), (⟨r4, 4, none⟩, iV 0), (⟨r4, 5, none⟩, uV 0)] (by kernel_rfl) (allq ⟨sat_cell h69 0 rfl rfl, sat_cell h69 0 rfl rfl, sat_cell h69 0 rfl rfl, sat_cell h69 0 rfl rfl, sat_cell h69 0 rfl rfl, sat_cell h69 0 rfl rfl, trivial⟩) ?_
    exact ⟨.tuple #[.agg #[iV 0, iV 0, uV 0, iV 0, iV 0, uV 0], iV 7], [Tab b n A E RL], rfl, ⟨rfl, rfl⟩, h73⟩
   ·
    refine plain_law (i := 6) 34 (.bool true) (by kernel_rfl) (seq28_neq_f (o := opA (RA Try.f44 [1, 1, 1, 0, 0]) 6) (x := (Operand.tmp 32)) (y := (Operand.tmp 33)) e.d.1 e.d.2.1 e.d.2.2 x y z (by kernel_rfl) (by kernel_rfl) (by kernel_rfl) (by omega) _) ?_
    refine yB0 [] [7] [(35, .bool true)] (.mk ?_)
    refine yK [(4, pV r4), (6, pV r58), (35, .bool true)] fun lr74 => ?_
    refine yCt ?_
    refine ySq ?_
    refine yPl [0, 1, 2] ?_
    refine yB0 [1, 2] [0] [(36, .agg #[iV 0, iV 0, uV 0, iV 0, iV 0, uV 0])] ?_
    have h75 := tk8 (sf7 (sf6 (sf6 (sf6 (sf6 (sf6 (sf7 (sf7 h62))))))))
    refine yA ?_
    refine yS [(0, iV 0), (1, iV 0), (2, uV 0), (3, iV 0), (4, iV 0), (5, uV 0)] [iV 0, iV 0, uV 0, iV 0, iV 0, uV 0] h75 fun w76 h77 => ?_
    refine yB0 [] [2] [(5, iV 7)] (.mk ?_)
    refine yK [(4, pV r4), (5, iV 7)] fun lr78 => ?_
    refine yRt ?_
    repeat (first | simp only [Exit.inBlock] | simp only [Exit.then])
    have h79 := tk8 (sf7 (sf7 (sf7 (sf7 (sf3 (sf3 (sf7 (sf7 h77))))))))
    have h80 : sat g w76 [Tab b n A E RL, Cl r4 [iV 0, iV 0, uV 0, iV 0, iV 0, uV 0] 90, Cl r58 [iV e.d.1, iV e.d.2.1, uV e.d.2.2, iV e.num, iV e.h.1, uV e.h.2] 90, Cl r1 [iV x, iV y, uV z] 28, R] := tab_close hM24.1 (by omega) (by first | rfl | omega) h79
    have h81 := tk2 (sf1 (sf4 h80))
    refine hi_out [iV 0, iV 0, uV 0, iV 0, iV 0, uV 0] (.tuple #[.agg #[iV 0, iV 0, uV 0, iV 0, iV 0, uV 0], iV 7]) [(⟨r4, 0, none⟩, iV 0), (⟨r4, 1, none⟩, iV 0), (⟨r4, 2, none⟩, uV 0), (⟨r4, 3, none⟩, iV 0), (⟨r4, 4, none⟩, iV 0), (⟨r4, 5, none⟩, uV 0)] (by kernel_rfl) (allq ⟨sat_cell h77 0 rfl rfl, sat_cell h77 0 rfl rfl, sat_cell h77 0 rfl rfl, sat_cell h77 0 rfl rfl, sat_cell h77 0 rfl rfl, sat_cell h77 0 rfl rfl, trivial⟩) ?_
    exact ⟨.tuple #[.agg #[iV 0, iV 0, uV 0, iV 0, iV 0, uV 0], iV 7], [Tab b n A E RL], rfl, ⟨rfl, rfl⟩, h81⟩
  ·
   refine plain_law (i := 6) 34 (.bool true) (by kernel_rfl) (seq28_neq_f (o := opA (RA Try.f44 [1, 1, 1, 0, 0]) 6) (x := (Operand.tmp 32)) (y := (Operand.tmp 33)) e.d.1 e.d.2.1 e.d.2.2 x y z (by kernel_rfl) (by kernel_rfl) (by kernel_rfl) (by omega) _) ?_
   refine yB0 [] [7] [(35, .bool true)] (.mk ?_)
   refine yK [(4, pV r4), (6, pV r58), (35, .bool true)] fun lr82 => ?_
   refine yCt ?_
   refine ySq ?_
   refine yPl [0, 1, 2] ?_
   refine yB0 [1, 2] [0] [(36, .agg #[iV 0, iV 0, uV 0, iV 0, iV 0, uV 0])] ?_
   have h83 := tk8 (sf7 (sf6 (sf6 (sf6 (sf6 (sf6 (sf7 (sf7 h62))))))))
   refine yA ?_
   refine yS [(0, iV 0), (1, iV 0), (2, uV 0), (3, iV 0), (4, iV 0), (5, uV 0)] [iV 0, iV 0, uV 0, iV 0, iV 0, uV 0] h83 fun w84 h85 => ?_
   refine yB0 [] [2] [(5, iV 7)] (.mk ?_)
   refine yK [(4, pV r4), (5, iV 7)] fun lr86 => ?_
   refine yRt ?_
   repeat (first | simp only [Exit.inBlock] | simp only [Exit.then])
   have h87 := tk8 (sf7 (sf7 (sf7 (sf7 (sf3 (sf3 (sf7 (sf7 h85))))))))
   have h88 : sat g w84 [Tab b n A E RL, Cl r4 [iV 0, iV 0, uV 0, iV 0, iV 0, uV 0] 90, Cl r58 [iV e.d.1, iV e.d.2.1, uV e.d.2.2, iV e.num, iV e.h.1, uV e.h.2] 90, Cl r1 [iV x, iV y, uV z] 28, R] := tab_close hM24.1 (by omega) (by first | rfl | omega) h87
   have h89 := tk2 (sf1 (sf4 h88))
   refine hi_out [iV 0, iV 0, uV 0, iV 0, iV 0, uV 0] (.tuple #[.agg #[iV 0, iV 0, uV 0, iV 0, iV 0, uV 0], iV 7]) [(⟨r4, 0, none⟩, iV 0), (⟨r4, 1, none⟩, iV 0), (⟨r4, 2, none⟩, uV 0), (⟨r4, 3, none⟩, iV 0), (⟨r4, 4, none⟩, iV 0), (⟨r4, 5, none⟩, uV 0)] (by kernel_rfl) (allq ⟨sat_cell h85 0 rfl rfl, sat_cell h85 0 rfl rfl, sat_cell h85 0 rfl rfl, sat_cell h85 0 rfl rfl, sat_cell h85 0 rfl rfl, sat_cell h85 0 rfl rfl, trivial⟩) ?_
   exact ⟨.tuple #[.agg #[iV 0, iV 0, uV 0, iV 0, iV 0, uV 0], iV 7], [Tab b n A E RL], rfl, ⟨rfl, rfl⟩, h89⟩

set_option maxHeartbeats 4000000 in
theorem tlen_ht (b n : Nat) (A : List Sl2) (E : Tm) (RL : List Rs) : HT Try.prog 22 [Value.pointer (some ⟨b, 0, none⟩)] [Tab b n A E RL] (fun v K => v = Value.int IntKind.i64 (((RL.length : Nat) : Int)) ∧ K = [Tab b n A E RL]) := by
 refine hi_in 11 ([(0, pV b)] : Fr) Try.func22 (by kernel_rfl) Try.ntmps22 rfl rfl ?_
 intro g w0 R h0
 refine ySq ?_
 refine yPl [0] ?_
 refine yB0 [] [0] [(2, iV 0)] (.mk ?_)
 refine yK [(0, pV b)] fun lr1 => ?_
 refine ySq ?_
 refine ySq ?_
 refine yPl [0, 1, 2] ?_
 refine yB0 [1, 2] [0] [(3, pV b)] ?_
 refine yA ?_
 refine yCl 4 Try.call36 (tvalid_ht b n A E RL) h0 ?_
 rintro v K w2 (⟨rfl, rfl⟩) h3
 refine ⟨_, rfl, ?_⟩
 have h4 := ap1 h3
 refine yB0 [] [2] [(5, .bool false)] (.mk ?_)
 refine yK [(0, pV b), (5, .bool false)] fun lr5 => ?_
 refine yCf ?_
 refine ySk ?_
 refine ySq ?_
 refine yPl [0, 1, 2, 3, 4, 5] ?_
 obtain ⟨s6, m7, p8, c9, E10, hM11, h12⟩ := tab_open h4
 have hRl_ := hM11.2
 refine yBb [] [(2, iV (((RL.length : Nat) : Int))), (10, iV (((RL.length : Nat) : Int))), (9, .slice p8 RL.length c9), (8, .pointer (some ⟨b, 2, none⟩)), (7, pV b), (6, pV b)] [e0 0, e0 1, e0 2, e2 3 [.slice p8 RL.length c9], e0 4, e0 5] [(3, ⟨b, 2, none⟩, .slice p8 RL.length c9)] [] trivial (kC (sat_cell h12 0 rfl rfl) nC) (.mk ?_)
 refine yK [(2, iV (((RL.length : Nat) : Int)))] fun lr13 => ?_
 refine yRt ?_
 repeat (first | simp only [Exit.inBlock] | simp only [Exit.then])
 have h14 : sat g w2 [Tab b n A E RL, R] := tab_close hM11.1 (by omega) (by first | rfl | omega) h12
 refine hi_out [] (iV (((RL.length : Nat) : Int))) [] (by kernel_rfl) (by intro q hq; cases hq) ?_
 exact ⟨iV (((RL.length : Nat) : Int)), [Tab b n A E RL], rfl, ⟨rfl, rfl⟩, h14⟩

set_option maxHeartbeats 4000000 in
theorem tcheck_ok (b n : Nat) (A : List Sl2) (E : Tm) (RL : List Rs) (v : Int) (h : 1 ≤ v ∧ v ≤ (RL.length : Int)) : HT Try.prog 47 [Value.pointer (some ⟨b, 0, none⟩), Value.int IntKind.i64 v] [Tab b n A E RL] (fun v K => v = Value.int IntKind.i64 0 ∧ K = [Tab b n A E RL]) := by
 refine hi_in 21 ([(0, pV b), (1, iV v)] : Fr) Try.func47 (by kernel_rfl) Try.ntmps47 rfl rfl ?_
 intro g w0 R h0
 refine ySq ?_
 refine yPl [0] ?_
 refine yB0 [] [0] [(4, iV 0)] (.mk ?_)
 refine yK [(0, pV b), (1, iV v)] fun lr1 => ?_
 refine ySq ?_
 refine yBk 0 ?_
 refine ySq ?_
 refine yPl [0, 1, 2, 3] ?_
 refine yB0 [1, 2, 3] [0] [(6, pV b)] ?_
 refine yA ?_
 refine yCl 7 Try.call36 (tvalid_ht b n A E RL) h0 ?_
 rintro v K w2 (⟨rfl, rfl⟩) h3
 refine ⟨_, rfl, ?_⟩
 have h4 := ap1 h3
 refine yB0 [] [2, 3] [(5, .bool false), (8, .bool false)] (.mk ?_)
 refine yK [(0, pV b), (1, iV v), (5, .bool false)] fun lr5 => ?_
 refine yCf ?_
 refine ySq ?_
 refine yPl [0, 1, 2, 3, 4, 5, 6, 7, 8, 9, 10, 11] ?_
 obtain ⟨s6, m7, p8, c9, E10, hM11, h12⟩ := tab_open h4
 have hRl_ := hM11.2
 refine yBb [] [(9, .bool false), (20, .bool false), (19, .bool false), (18, iV (((RL.length : Nat) : Int))), (17, .slice p8 RL.length c9), (16, .pointer (some ⟨b, 2, none⟩)), (15, pV b), (14, pV b), (13, iV v), (12, .bool false), (11, .bool false), (10, iV v)] [e0 0, e1 1 (.bool false), e0 2, e0 3, e0 4, e0 5, e0 6, e2 7 [.slice p8 RL.length c9], e0 8, e1 9 (.bool false), e0 10, e0 11] [(7, ⟨b, 2, none⟩, .slice p8 RL.length c9)] [(.bool (decide (v < 1)), .bool false), (.bool (decide (v > ((RL.length : Nat) : Int))), .bool false)] ⟨(ov_f (by omega)), (ov_f (by omega)), trivial⟩ (kC (sat_cell h12 0 rfl rfl) nC) (.mk ?_)
 refine yK [(9, .bool false)] fun lr13 => ?_
 refine yCf ?_
 refine ySk ?_
 refine ySq ?_
 refine yPl [0] ?_
 refine yB0 [] [0] [(4, iV 0)] (.mk ?_)
 refine yK [(4, iV 0)] fun lr14 => ?_
 refine yRt ?_
 repeat (first | simp only [Exit.inBlock] | simp only [Exit.then])
 have h15 : sat g w2 [Tab b n A E RL, R] := tab_close hM11.1 (by omega) (by first | rfl | omega) h12
 refine hi_out [] (iV 0) [] (by kernel_rfl) (by intro q hq; cases hq) ?_
 exact ⟨iV 0, [Tab b n A E RL], rfl, ⟨rfl, rfl⟩, h15⟩

set_option maxHeartbeats 4000000 in
theorem tcheck_no (b n : Nat) (A : List Sl2) (E : Tm) (RL : List Rs) (v : Int) (h : v < 1 ∨ (RL.length : Int) < v) : HT Try.prog 47 [Value.pointer (some ⟨b, 0, none⟩), Value.int IntKind.i64 v] [Tab b n A E RL] (fun v K => v = Value.int IntKind.i64 3 ∧ K = [Tab b n A E RL]) := by
 refine hi_in 21 ([(0, pV b), (1, iV v)] : Fr) Try.func47 (by kernel_rfl) Try.ntmps47 rfl rfl ?_
 intro g w0 R h0
 refine ySq ?_
 refine yPl [0] ?_
 refine yB0 [] [0] [(4, iV 0)] (.mk ?_)
 refine yK [(0, pV b), (1, iV v)] fun lr1 => ?_
 refine ySq ?_
 refine yBk 0 ?_
 refine ySq ?_
 refine yPl [0, 1, 2, 3] ?_
 refine yB0 [1, 2, 3] [0] [(6, pV b)] ?_
 refine yA ?_
 refine yCl 7 Try.call36 (tvalid_ht b n A E RL) h0 ?_
 rintro v K w2 (⟨rfl, rfl⟩) h3
 refine ⟨_, rfl, ?_⟩
 have h4 := ap1 h3
 refine yB0 [] [2, 3] [(5, .bool false), (8, .bool false)] (.mk ?_)
 refine yK [(0, pV b), (1, iV v), (5, .bool false)] fun lr5 => ?_
 refine yCf ?_
 refine ySq ?_
 refine yPl [0, 1, 2, 3, 4, 5, 6, 7, 8, 9, 10, 11] ?_
 refine yB0 [1, 2, 3, 4, 5, 6, 7, 8, 9, 10, 11] [0] [(10, iV v)] ?_
 by_cases c6 : v < 1
 ·
  refine yBb [] [(9, .bool true), (20, .bool true), (19, undef), (18, undef), (17, undef), (16, undef), (15, undef), (14, undef), (13, undef), (12, .bool true), (11, .bool true)] [e1 1 (.bool true), e0 2, e0 3, e0 4, e0 5, e0 6, e0 7, e0 8, e0 9, e0 10, e0 11] [] [(.bool (decide (v < 1)), .bool true)] ⟨(ov_t (by omega)), trivial⟩ nC (.mk ?_)
  refine yK [(9, .bool true)] fun lr7 => ?_
  refine yCt ?_
  refine ySq ?_
  refine yPl [0] ?_
  refine yB0 [] [0] [(4, iV 3)] (.mk ?_)
  refine yK [(4, iV 3)] fun lr8 => ?_
  refine yRt ?_
  repeat (first | simp only [Exit.inBlock] | simp only [Exit.then])
  refine hi_out [] (iV 3) [] (by kernel_rfl) (by intro q hq; cases hq) ?_
  exact ⟨iV 3, [Tab b n A E RL], rfl, ⟨rfl, rfl⟩, h4⟩
 ·
  obtain ⟨s9, m10, p11, c12, E13, hM14, h15⟩ := tab_open h4
  have hRl_ := hM14.2
  refine yBb [] [(9, .bool true), (20, .bool true), (19, .bool true), (18, iV (((RL.length : Nat) : Int))), (17, .slice p11 RL.length c12), (16, .pointer (some ⟨b, 2, none⟩)), (15, pV b), (14, pV b), (13, iV v), (12, .bool false), (11, .bool false)] [e1 1 (.bool false), e0 2, e0 3, e0 4, e0 5, e0 6, e2 7 [.slice p11 RL.length c12], e0 8, e1 9 (.bool true), e0 10, e0 11] [(7, ⟨b, 2, none⟩, .slice p11 RL.length c12)] [(.bool (decide (v < 1)), .bool false), (.bool (decide (v > ((RL.length : Nat) : Int))), .bool true)] ⟨(ov_f (by omega)), (ov_t (by omega)), trivial⟩ (kC (sat_cell h15 0 rfl rfl) nC) (.mk ?_)
  refine yK [(9, .bool true)] fun lr16 => ?_
  refine yCt ?_
  refine ySq ?_
  refine yPl [0] ?_
  refine yB0 [] [0] [(4, iV 3)] (.mk ?_)
  refine yK [(4, iV 3)] fun lr17 => ?_
  refine yRt ?_
  repeat (first | simp only [Exit.inBlock] | simp only [Exit.then])
  have h18 : sat g w2 [Tab b n A E RL, R] := tab_close hM14.1 (by omega) (by first | rfl | omega) h15
  refine hi_out [] (iV 3) [] (by kernel_rfl) (by intro q hq; cases hq) ?_
  exact ⟨iV 3, [Tab b n A E RL], rfl, ⟨rfl, rfl⟩, h18⟩

end Go.Proofs.Ytjjpmehiolejgaa
