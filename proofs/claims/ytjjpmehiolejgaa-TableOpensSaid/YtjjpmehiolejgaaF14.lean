/- Walks, printed by my generator gen14.py. -/
import Derived.Test.YtjjpmehiolejgaaF13
namespace Go.Proofs.Ytjjpmehiolejgaa
theorem thas_t (b n : Nat) (A : List Sl2) (E : Tm) (RL : List Rs) (hx hy : Int) (h : ∃ e ∈ allE E, e.h = (hx, hy)) : HT Try.prog 41 [Value.pointer (some ⟨b, 0, none⟩), Value.agg #[Value.int IntKind.i64 hx, Value.int IntKind.u32 hy]] [Tab b n A E RL] (fun v K => v = Value.bool true ∧ K = [Tab b n A E RL]) :=
  (thas_ht b n A E RL hx hy).mono fun v K hP => by
    rcases hP with ⟨hv, h1, hK⟩ | ⟨hv, h1, hK⟩
    · exact ⟨hv, hK⟩
    · obtain ⟨e, he, h2⟩ := h; exact absurd h2 (h1 e he)
theorem thas_f (b n : Nat) (A : List Sl2) (E : Tm) (RL : List Rs) (hx hy : Int) (h : ∀ e ∈ allE E, e.h ≠ (hx, hy)) : HT Try.prog 41 [Value.pointer (some ⟨b, 0, none⟩), Value.agg #[Value.int IntKind.i64 hx, Value.int IntKind.u32 hy]] [Tab b n A E RL] (fun v K => v = Value.bool false ∧ K = [Tab b n A E RL]) :=
  (thas_ht b n A E RL hx hy).mono fun v K hP => by
    rcases hP with ⟨hv, h1, hK⟩ | ⟨hv, h1, hK⟩
    · obtain ⟨e, he, h1⟩ := h1; exact absurd h1 (h e he)
    · exact ⟨hv, hK⟩
theorem ne_trip {p : Ky} {a b c : Int} (h : ¬ (p.1 = a ∧ p.2.1 = b ∧ p.2.2 = c)) : p ≠ (a, b, c) := by
  rintro rfl
  exact h ⟨rfl, rfl, rfl⟩
theorem ridx_go {L : List Rs} {k : Nat} {P : Rs → Prop} {x : Rs} (h : ∀ (j : Nat) (o : Rs), j < k → L[j]? = some o → P o) (hx : L[k]? = some x) (hp : P x) : ∀ (j : Nat) (o : Rs), j < k + 1 → L[j]? = some o → P o := fun j o hj ho => by
  rcases Nat.lt_succ_iff_lt_or_eq.1 hj with h1 | rfl
  · exact h j o h1 ho
  · rw [hx] at ho
    obtain rfl := Option.some.inj ho
    exact hp
theorem rall_idx {L : List Rs} {k : Nat} {P : Rs → Prop} (h : ∀ (j : Nat) (o : Rs), j < k → L[j]? = some o → P o) (hk : L.length ≤ k) : ∀ o ∈ L, P o := fun o ho => by
  obtain ⟨j, hj⟩ := List.getElem?_of_mem ho
  exact h j o (Nat.lt_of_lt_of_le (List.getElem?_eq_some_iff.1 hj).1 hk) hj
theorem seq32_eql_t {n : Nat} {l : Fr} {o : Oper} {x y : Operand} (a0 : Int) (a1 : Int) (a2 : Int) (c0 : Int) (c1 : Int) (c2 : Int) (ho : o.op = .binOp .eql 32 x y 32) (hx : fe n l x = .agg #[.int .i64 a0, .int .i64 a1, .int .u32 a2]) (hy : fe n l y = .agg #[.int .i64 c0, .int .i64 c1, .int .u32 c2]) (h : a0 = c0 ∧ a1 = c1 ∧ a2 = c2) (w : World) : (execOp (fe n l) o).run Try.prog w = .ok (.value (.bool true)) w := by
  obtain ⟨rfl, rfl, rfl⟩ := h
  simp [execOp, ho, hx, hy, go_sem]
theorem seq32_eql_f {n : Nat} {l : Fr} {o : Oper} {x y : Operand} (a0 : Int) (a1 : Int) (a2 : Int) (c0 : Int) (c1 : Int) (c2 : Int) (ho : o.op = .binOp .eql 32 x y 32) (hx : fe n l x = .agg #[.int .i64 a0, .int .i64 a1, .int .u32 a2]) (hy : fe n l y = .agg #[.int .i64 c0, .int .i64 c1, .int .u32 c2]) (h : ¬ (a0 = c0 ∧ a1 = c1 ∧ a2 = c2)) (w : World) : (execOp (fe n l) o).run Try.prog w = .ok (.value (.bool false)) w := by
  by_cases h0 : a0 = c0
  · skip
    by_cases h1 : a1 = c1
    · skip
      by_cases h2 : a2 = c2
      · exact absurd ⟨h0, h1, h2⟩ h
      · simp [execOp, ho, hx, hy, go_sem, h0, h1, h2]
    · simp [execOp, ho, hx, hy, go_sem, h0, h1]
  · simp [execOp, ho, hx, hy, go_sem, h0]
set_option maxHeartbeats 4000000 in
theorem op1_t (b : Nat) (u1 u2 u3 s1 s2 s3 s4 : Int) (tg : List UInt8) (x y z : Int) (h : u1 = x ∧ u2 = y ∧ u3 = z) : HT Try.prog 40 [Value.agg #[Value.int IntKind.i64 u1, Value.int IntKind.i64 u2, Value.int IntKind.u32 u3, Value.int IntKind.i64 s1, Value.int IntKind.i64 s2, Value.int IntKind.i64 s3, Value.int IntKind.i64 s4, Value.string (St tg)], Value.pointer (some ⟨b, 0, none⟩)] [Cl b [Value.int IntKind.i64 x, Value.int IntKind.i64 y, Value.int IntKind.u32 z] 32] (fun v K => v = Value.bool true ∧ K = [Cl b [Value.int IntKind.i64 x, Value.int IntKind.i64 y, Value.int IntKind.u32 z] 32]) := by
 refine hi_in 8 ([(0, .agg #[iV u1, iV u2, uV u3, iV s1, iV s2, iV s3, iV s4, .string (St tg)]), (1, pV b)] : Fr) Try.func40 (by kernel_rfl) Try.ntmps40 rfl rfl ?_
 intro g w0 R h0
 refine ySq ?_
 refine yPl [0, 1] ?_
 refine yA ?_
 refine yNp 2 42 [iV u1, iV u2, uV u3, iV s1, iV s2, iV s3, iV s4, .string (St tg)] h0 fun r1 w2 h3 => ?_
 refine yB0 [] [1] [(3, .bool false)] (.mk ?_)
 refine yK [(1, pV b), (2, pV r1)] fun lr4 => ?_
 refine ySq ?_
 refine yPl [0, 1, 2, 3, 4] ?_
 refine yBb [3, 4] [(6, .agg #[iV x, iV y, uV z]), (5, .agg #[iV u1, iV u2, uV u3]), (4, pV r1)] [e0 0, e2 1 [iV u1, iV u2, uV u3], e2 2 [iV x, iV y, uV z]] [(2, ⟨b, 0, none⟩, iV x), (2, ⟨b, 1, none⟩, iV y), (2, ⟨b, 2, none⟩, uV z), (1, ⟨r1, 0, none⟩, iV u1), (1, ⟨r1, 1, none⟩, iV u2), (1, ⟨r1, 2, none⟩, uV u3)] [] trivial (kC (sat_cell h3 1 rfl rfl) (kC (sat_cell h3 1 rfl rfl) (kC (sat_cell h3 1 rfl rfl) (kC (sat_cell h3 0 rfl rfl) (kC (sat_cell h3 0 rfl rfl) (kC (sat_cell h3 0 rfl rfl) nC)))))) ?_
 refine plain_law (i := 3) 7 (.bool true) (by kernel_rfl) (seq32_eql_t (o := opA (RA Try.f40 [1, 0]) 3) (x := (Operand.tmp 5)) (y := (Operand.tmp 6)) u1 u2 u3 x y z (by kernel_rfl) (by kernel_rfl) (by kernel_rfl) ⟨(by omega), (by omega), (by omega)⟩ _) ?_
 refine yB0 [] [4] [(3, .bool true)] (.mk ?_)
 refine yK [(3, .bool true)] fun lr5 => ?_
 refine yRt ?_
 repeat (first | simp only [Exit.inBlock] | simp only [Exit.then])
 have h6 := tk3 (sf2 (sf1 (sf2 h3)))
 have h7 := tk2 (sf1 (sf2 h6))
 refine hi_out [] (.bool true) [] (by kernel_rfl) (by intro q hq; cases hq) ?_
 exact ⟨.bool true, [Cl b [iV x, iV y, uV z] 32], rfl, ⟨rfl, rfl⟩, h7⟩

set_option maxHeartbeats 4000000 in
theorem op1_f (b : Nat) (u1 u2 u3 s1 s2 s3 s4 : Int) (tg : List UInt8) (x y z : Int) (h : ¬ (u1 = x ∧ u2 = y ∧ u3 = z)) : HT Try.prog 40 [Value.agg #[Value.int IntKind.i64 u1, Value.int IntKind.i64 u2, Value.int IntKind.u32 u3, Value.int IntKind.i64 s1, Value.int IntKind.i64 s2, Value.int IntKind.i64 s3, Value.int IntKind.i64 s4, Value.string (St tg)], Value.pointer (some ⟨b, 0, none⟩)] [Cl b [Value.int IntKind.i64 x, Value.int IntKind.i64 y, Value.int IntKind.u32 z] 32] (fun v K => v = Value.bool false ∧ K = [Cl b [Value.int IntKind.i64 x, Value.int IntKind.i64 y, Value.int IntKind.u32 z] 32]) := by
 refine hi_in 8 ([(0, .agg #[iV u1, iV u2, uV u3, iV s1, iV s2, iV s3, iV s4, .string (St tg)]), (1, pV b)] : Fr) Try.func40 (by kernel_rfl) Try.ntmps40 rfl rfl ?_
 intro g w0 R h0
 refine ySq ?_
 refine yPl [0, 1] ?_
 refine yA ?_
 refine yNp 2 42 [iV u1, iV u2, uV u3, iV s1, iV s2, iV s3, iV s4, .string (St tg)] h0 fun r1 w2 h3 => ?_
 refine yB0 [] [1] [(3, .bool false)] (.mk ?_)
 refine yK [(1, pV b), (2, pV r1)] fun lr4 => ?_
 refine ySq ?_
 refine yPl [0, 1, 2, 3, 4] ?_
 refine yBb [3, 4] [(6, .agg #[iV x, iV y, uV z]), (5, .agg #[iV u1, iV u2, uV u3]), (4, pV r1)] [e0 0, e2 1 [iV u1, iV u2, uV u3], e2 2 [iV x, iV y, uV z]] [(2, ⟨b, 0, none⟩, iV x), (2, ⟨b, 1, none⟩, iV y), (2, ⟨b, 2, none⟩, uV z), (1, ⟨r1, 0, none⟩, iV u1), (1, ⟨r1, 1, none⟩, iV u2), (1, ⟨r1, 2, none⟩, uV u3)] [] trivial (kC (sat_cell h3 1 rfl rfl) (kC (sat_cell h3 1 rfl rfl) (kC (sat_cell h3 1 rfl rfl) (kC (sat_cell h3 0 rfl rfl) (kC (sat_cell h3 0 rfl rfl) (kC (sat_cell h3 0 rfl rfl) nC)))))) ?_
 by_cases c5 : u1 = x
 ·
  by_cases c6 : u2 = y
  ·
   refine plain_law (i := 3) 7 (.bool false) (by kernel_rfl) (seq32_eql_f (o := opA (RA Try.f40 [1, 0]) 3) (x := (Operand.tmp 5)) (y := (Operand.tmp 6)) u1 u2 u3 x y z (by kernel_rfl) (by kernel_rfl) (by kernel_rfl) (by omega) _) ?_
   refine yB0 [] [4] [(3, .bool false)] (.mk ?_)
   refine yK [(3, .bool false)] fun lr7 => ?_
   refine yRt ?_
   repeat (first | simp only [Exit.inBlock] | simp only [Exit.then])
   have h8 := tk3 (sf2 (sf1 (sf2 h3)))
   have h9 := tk2 (sf1 (sf2 h8))
   refine hi_out [] (.bool false) [] (by kernel_rfl) (by intro q hq; cases hq) ?_
   exact ⟨.bool false, [Cl b [iV x, iV y, uV z] 32], rfl, ⟨rfl, rfl⟩, h9⟩
  ·
   refine plain_law (i := 3) 7 (.bool false) (by kernel_rfl) (seq32_eql_f (o := opA (RA Try.f40 [1, 0]) 3) (x := (Operand.tmp 5)) (y := (Operand.tmp 6)) u1 u2 u3 x y z (by kernel_rfl) (by kernel_rfl) (by kernel_rfl) (by omega) _) ?_
   refine yB0 [] [4] [(3, .bool false)] (.mk ?_)
   refine yK [(3, .bool false)] fun lr10 => ?_
   refine yRt ?_
   repeat (first | simp only [Exit.inBlock] | simp only [Exit.then])
   have h11 := tk3 (sf2 (sf1 (sf2 h3)))
   have h12 := tk2 (sf1 (sf2 h11))
   refine hi_out [] (.bool false) [] (by kernel_rfl) (by intro q hq; cases hq) ?_
   exact ⟨.bool false, [Cl b [iV x, iV y, uV z] 32], rfl, ⟨rfl, rfl⟩, h12⟩
 ·
  refine plain_law (i := 3) 7 (.bool false) (by kernel_rfl) (seq32_eql_f (o := opA (RA Try.f40 [1, 0]) 3) (x := (Operand.tmp 5)) (y := (Operand.tmp 6)) u1 u2 u3 x y z (by kernel_rfl) (by kernel_rfl) (by kernel_rfl) (by omega) _) ?_
  refine yB0 [] [4] [(3, .bool false)] (.mk ?_)
  refine yK [(3, .bool false)] fun lr13 => ?_
  refine yRt ?_
  repeat (first | simp only [Exit.inBlock] | simp only [Exit.then])
  have h14 := tk3 (sf2 (sf1 (sf2 h3)))
  have h15 := tk2 (sf1 (sf2 h14))
  refine hi_out [] (.bool false) [] (by kernel_rfl) (by intro q hq; cases hq) ?_
  exact ⟨.bool false, [Cl b [iV x, iV y, uV z] 32], rfl, ⟨rfl, rfl⟩, h15⟩

set_option maxHeartbeats 4000000 in
theorem r_index (p : Option Addr) (m c b : Nat) (L : List Rs) (x y z : Int) (hm : m ≤ 1000000) : HT Try.prog 56 [Value.slice p m c, Value.func (Fn.func 40) #[] #[Value.pointer (some ⟨b, 0, none⟩)]] [Sl 42 8 p m c (fl eRs L), Cl b [Value.int IntKind.i64 x, Value.int IntKind.i64 y, Value.int IntKind.u32 z] 32] (fun v K => (∃ k : Nat, v = Value.int .i64 (k : Int) ∧ (∃ r ∈ L, r.out = (x, y, z)) ∧ K = [Sl 42 8 p m c (fl eRs L), Cl b [Value.int IntKind.i64 x, Value.int IntKind.i64 y, Value.int IntKind.u32 z] 32]) ∨ (v = Value.int .i64 (-1) ∧ (∀ r ∈ L, r.out ≠ (x, y, z)) ∧ K = [Sl 42 8 p m c (fl eRs L), Cl b [Value.int IntKind.i64 x, Value.int IntKind.i64 y, Value.int IntKind.u32 z] 32])) := by
 refine hi_in 19 ([(0, .slice p m c), (1, .func (Fn.func 40) #[] #[pV b])] : Fr) Try.func56 (by kernel_rfl) Try.ntmps56 rfl rfl ?_
 intro g w0 R h0
 refine ySq ?_
 refine yPl [0] ?_
 refine yB0 [] [0] [(4, iV 0)] (.mk ?_)
 refine yK [(0, .slice p m c), (1, .func (Fn.func 40) #[] #[pV b])] fun lr1 => ?_
 refine ySq ?_
 refine ySq ?_
 refine yPl [0, 1, 2] ?_
 refine yB0 [] [0, 1, 2] [(8, iV 0), (7, iV (m : Int)), (6, .slice p m c)] (.mk ?_)
 refine yK [(0, .slice p m c), (1, .func (Fn.func 40) #[] #[pV b]), (7, iV (m : Int)), (8, iV 0)] fun lr2 => ?_
 refine yBk 0 ?_
 have hl3 := fl_n eRs_ok (by decide) h0
 refine gi_lp (x := CA Try.f56 [1, 0, 1, 0, 0]) (by kernel_rfl) (fun mz_ a w => ∃ k : Nat, ∃ lr : Fr, mz_ = m - k ∧ (k ≤ m) ∧ (∀ (j : Nat) (o : Rs), j < k → L[j]? = some o → o.out ≠ (x, y, z)) ∧ a = mk 19 (([(0, .slice p m c), (1, .func (Fn.func 40) #[] #[pV b]), (7, iV (m : Int)), (8, iV (k : Int))] : Fr) ++ lr) ∧ sat g w [Sl 42 8 p m c (fl eRs L), Cl b [iV x, iV y, uV z] 32, R]) (m - 0) ⟨0, _, rfl, (Nat.zero_le _), (fun j o h _ => absurd h (Nat.not_lt_zero _)), (mk_live [(0, .slice p m c), (1, .func (Fn.func 40) #[] #[pV b]), (7, iV (m : Int)), (8, iV (0 : Int))] ⟨rfl, rfl, rfl, (ov_int (by omega)), trivial⟩), h0⟩ ?_
 rintro m5 a6 w7 ⟨k, lr4, rfl, hk, hall_, rfl, h8⟩
 refine ySq ?_
 refine yPl [0] ?_
 by_cases c9 : (k : Int) < (m : Int)
 ·
  refine yBb [] [(9, .bool true)] [e1 0 (.bool true)] [] [(.bool (decide ((k : Int) < (m : Int))), .bool true)] ⟨(ov_t (by omega)), trivial⟩ nC (.mk ?_)
  refine yK [(0, .slice p m c), (1, .func (Fn.func 40) #[] #[pV b]), (7, iV (m : Int)), (8, iV (k : Int)), (9, .bool true)] fun lr10 => ?_
  refine ySq ?_
  refine yCt ?_
  refine ySk ?_
  refine ySq ?_
  refine yBk 1 ?_
  refine ySq ?_
  refine yPl [0, 1] ?_
  refine yB0 [] [0, 1] [(5, iV (k : Int)), (10, iV (k : Int))] (.mk ?_)
  refine yK [(0, .slice p m c), (1, .func (Fn.func 40) #[] #[pV b]), (5, iV (k : Int)), (7, iV (m : Int)), (8, iV (k : Int))] fun lr11 => ?_
  refine ySq ?_
  refine yPl [0, 1, 2, 3, 4, 5] ?_
  obtain ⟨b12, hp13⟩ := sl_ptr0 (j := 0) h8 rfl (by omega)
  refine yB0 [3, 4, 5] [0, 1, 2] [(13, iV (k : Int)), (12, .slice p m c), (11, .func (Fn.func 40) #[] #[pV b])] ?_
  refine plain_law (i := 3) 14 (.pointer (some ⟨b12, k * 8, none⟩)) (by kernel_rfl) (law_indexSlP (o := opA (RA Try.f56 [1, 0, 1, 0, 0, 1, 1, 0, 0, 1, 0]) 3) (x := (Operand.tmp 12)) (i := (Operand.tmp 13)) (p := p) (b := b12) (off := 0) (z := (k : Int)) (len := m) (cap := c) (by kernel_rfl) Try.underlying74 8 (by kernel_rfl) k (by kernel_rfl) hp13 (by kernel_rfl) (by omega) (by omega) (k * 8) (by omega) _) ?_
  obtain ⟨x14, hx15⟩ : ∃ x, L[k]? = some x := ⟨_, List.getElem?_eq_getElem (by rw [hl3]; omega)⟩
  refine yBb [5] [(15, .agg #[iV x14.out.1, iV x14.out.2.1, uV x14.out.2.2, iV x14.st, iV x14.why, iV x14.tr, iV x14.nx, .string (St x14.tag)])] [e2 4 [iV x14.out.1, iV x14.out.2.1, uV x14.out.2.2, iV x14.st, iV x14.why, iV x14.tr, iV x14.nx, .string (St x14.tag)]] [(4, ⟨b12, k * 8, none⟩, iV x14.out.1), (4, ⟨b12, k * 8 + 1, none⟩, iV x14.out.2.1), (4, ⟨b12, k * 8 + 2, none⟩, uV x14.out.2.2), (4, ⟨b12, k * 8 + 3, none⟩, iV x14.st), (4, ⟨b12, k * 8 + 4, none⟩, iV x14.why), (4, ⟨b12, k * 8 + 5, none⟩, iV x14.tr), (4, ⟨b12, k * 8 + 6, none⟩, iV x14.nx), (4, ⟨b12, k * 8 + 7, none⟩, .string (St x14.tag))] [] trivial (kC (gv_cell (j := 0) h8 rfl (gv_sl _ _ _) hp13 (fl_get eRs_ok (j := 0) (v := iV x14.out.1) hx15 rfl) (k * 8) (by omega)) (kC (gv_cell (j := 0) h8 rfl (gv_sl _ _ _) hp13 (fl_get eRs_ok (j := 1) (v := iV x14.out.2.1) hx15 rfl) (k * 8 + 1) (by omega)) (kC (gv_cell (j := 0) h8 rfl (gv_sl _ _ _) hp13 (fl_get eRs_ok (j := 2) (v := uV x14.out.2.2) hx15 rfl) (k * 8 + 2) (by omega)) (kC (gv_cell (j := 0) h8 rfl (gv_sl _ _ _) hp13 (fl_get eRs_ok (j := 3) (v := iV x14.st) hx15 rfl) (k * 8 + 3) (by omega)) (kC (gv_cell (j := 0) h8 rfl (gv_sl _ _ _) hp13 (fl_get eRs_ok (j := 4) (v := iV x14.why) hx15 rfl) (k * 8 + 4) (by omega)) (kC (gv_cell (j := 0) h8 rfl (gv_sl _ _ _) hp13 (fl_get eRs_ok (j := 5) (v := iV x14.tr) hx15 rfl) (k * 8 + 5) (by omega)) (kC (gv_cell (j := 0) h8 rfl (gv_sl _ _ _) hp13 (fl_get eRs_ok (j := 6) (v := iV x14.nx) hx15 rfl) (k * 8 + 6) (by omega)) (kC (gv_cell (j := 0) h8 rfl (gv_sl _ _ _) hp13 (fl_get eRs_ok (j := 7) (v := .string (St x14.tag)) hx15 rfl) (k * 8 + 7) (by omega)) nC)))))))) ?_
  by_cases c16 : x14.out.1 = x
  ·
   by_cases c17 : x14.out.2.1 = y
   ·
    by_cases c18 : x14.out.2.2 = z
    ·
     have h19 := tk3 (sf2 (sf1 (sf2 h8)))
     refine yA ?_
     refine yCl 16 Try.call40 (op1_t b x14.out.1 x14.out.2.1 x14.out.2.2 x14.st x14.why x14.tr x14.nx x14.tag x y z (by omega)) h19 ?_
     rintro v K w20 (⟨rfl, rfl⟩) h21
     refine ⟨_, rfl, ?_⟩
     have h22 := ap1 h21
     refine PO.mk ?_
     refine yK [(0, .slice p m c), (1, .func (Fn.func 40) #[] #[pV b]), (5, iV (k : Int)), (7, iV (m : Int)), (8, iV (k : Int)), (16, .bool true)] fun lr23 => ?_
     refine yCt ?_
     refine ySq ?_
     refine yPl [0, 1] ?_
     refine yB0 [] [0, 1] [(4, iV (k : Int)), (17, iV (k : Int))] (.mk ?_)
     refine yK [(4, iV (k : Int))] fun lr24 => ?_
     refine yRt ?_
     repeat (first | simp only [Exit.inBlock] | simp only [Exit.then])
     have h25 := tk3 (sf2 (sf1 (sf2 h22)))
     refine hi_out [] (iV (k : Int)) [] (by kernel_rfl) (by intro q hq; cases hq) ?_
     exact ⟨iV (k : Int), [Sl 42 8 p m c (fl eRs L), Cl b [iV x, iV y, uV z] 32], rfl, (.inl ⟨k, rfl, ⟨x14, List.mem_of_getElem? hx15, Prod.ext (show x14.out.1 = x from by omega) (Prod.ext (show x14.out.2.1 = y from by omega) (show x14.out.2.2 = z from by omega))⟩, rfl⟩), h25⟩
    ·
     have h26 := tk3 (sf2 (sf1 (sf2 h8)))
     refine yA ?_
     refine yCl 16 Try.call40 (op1_f b x14.out.1 x14.out.2.1 x14.out.2.2 x14.st x14.why x14.tr x14.nx x14.tag x y z (by omega)) h26 ?_
     rintro v K w27 (⟨rfl, rfl⟩) h28
     refine ⟨_, rfl, ?_⟩
     have h29 := ap1 h28
     refine PO.mk ?_
     refine yK [(0, .slice p m c), (1, .func (Fn.func 40) #[] #[pV b]), (5, iV (k : Int)), (7, iV (m : Int)), (8, iV (k : Int)), (16, .bool false)] fun lr30 => ?_
     refine yCf ?_
     refine ySk ?_
     refine yPl [0, 1] ?_
     refine yBb [] [(8, iV ((k : Int) + 1)), (18, iV ((k : Int) + 1))] [e1 0 (iV ((k : Int) + 1)), e0 1] [] [(iV (IntKind.wrap .i64 ((k : Int) + 1)), iV ((k : Int) + 1))] ⟨(ov_i64 (by omega) (by omega) (by omega)), trivial⟩ nC (.mk ?_)
     have h31 := tk3 (sf2 (sf1 (sf2 h29)))
     change ∃ n', n' < _ ∧ _
     refine ⟨(m - (k + 1)), by omega, (k + 1), _, rfl, (by omega), (ridx_go hall_ hx15 (ne_trip (by omega))), (mk_live [(0, .slice p m c), (1, .func (Fn.func 40) #[] #[pV b]), (7, iV (m : Int)), (8, iV ((((k + 1) : Nat) : Int)))] ⟨rfl, rfl, rfl, (ov_int (by omega)), trivial⟩), h31⟩
   ·
    have h32 := tk3 (sf2 (sf1 (sf2 h8)))
    refine yA ?_
    refine yCl 16 Try.call40 (op1_f b x14.out.1 x14.out.2.1 x14.out.2.2 x14.st x14.why x14.tr x14.nx x14.tag x y z (by omega)) h32 ?_
    rintro v K w33 (⟨rfl, rfl⟩) h34
    refine ⟨_, rfl, ?_⟩
    have h35 := ap1 h34
    refine PO.mk ?_
    refine yK [(0, .slice p m c), (1, .func (Fn.func 40) #[] #[pV b]), (5, iV (k : Int)), (7, iV (m : Int)), (8, iV (k : Int)), (16, .bool false)] fun lr36 => ?_
    refine yCf ?_
    refine ySk ?_
    refine yPl [0, 1] ?_
    refine yBb [] [(8, iV ((k : Int) + 1)), (18, iV ((k : Int) + 1))] [e1 0 (iV ((k : Int) + 1)), e0 1] [] [(iV (IntKind.wrap .i64 ((k : Int) + 1)), iV ((k : Int) + 1))] ⟨(ov_i64 (by omega) (by omega) (by omega)), trivial⟩ nC (.mk ?_)
    have h37 := tk3 (sf2 (sf1 (sf2 h35)))
    change ∃ n', n' < _ ∧ _
    refine ⟨(m - (k + 1)), by omega, (k + 1), _, rfl, (by omega), (ridx_go hall_ hx15 (ne_trip (by omega))), (mk_live [(0, .slice p m c), (1, .func (Fn.func 40) #[] #[pV b]), (7, iV (m : Int)), (8, iV ((((k + 1) : Nat) : Int)))] ⟨rfl, rfl, rfl, (ov_int (by omega)), trivial⟩), h37⟩
  ·
   have h38 := tk3 (sf2 (sf1 (sf2 h8)))
   refine yA ?_
   refine yCl 16 Try.call40 (op1_f b x14.out.1 x14.out.2.1 x14.out.2.2 x14.st x14.why x14.tr x14.nx x14.tag x y z (by omega)) h38 ?_
   rintro v K w39 (⟨rfl, rfl⟩) h40
   refine ⟨_, rfl, ?_⟩
   have h41 := ap1 h40
   refine PO.mk ?_
   refine yK [(0, .slice p m c), (1, .func (Fn.func 40) #[] #[pV b]), (5, iV (k : Int)), (7, iV (m : Int)), (8, iV (k : Int)), (16, .bool false)] fun lr42 => ?_
   refine yCf ?_
   refine ySk ?_
   refine yPl [0, 1] ?_
   refine yBb [] [(8, iV ((k : Int) + 1)), (18, iV ((k : Int) + 1))] [e1 0 (iV ((k : Int) + 1)), e0 1] [] [(iV (IntKind.wrap .i64 ((k : Int) + 1)), iV ((k : Int) + 1))] ⟨(ov_i64 (by omega) (by omega) (by omega)), trivial⟩ nC (.mk ?_)
   have h43 := tk3 (sf2 (sf1 (sf2 h41)))
   change ∃ n', n' < _ ∧ _
   refine ⟨(m - (k + 1)), by omega, (k + 1), _, rfl, (by omega), (ridx_go hall_ hx15 (ne_trip (by omega))), (mk_live [(0, .slice p m c), (1, .func (Fn.func 40) #[] #[pV b]), (7, iV (m : Int)), (8, iV ((((k + 1) : Nat) : Int)))] ⟨rfl, rfl, rfl, (ov_int (by omega)), trivial⟩), h43⟩
 ·
  refine yBb [] [(9, .bool false)] [e1 0 (.bool false)] [] [(.bool (decide ((k : Int) < (m : Int))), .bool false)] ⟨(ov_f (by omega)), trivial⟩ nC (.mk ?_)
  refine yK [(0, .slice p m c), (1, .func (Fn.func 40) #[] #[pV b]), (7, iV (m : Int)), (8, iV (k : Int)), (9, .bool false)] fun lr44 => ?_
  refine ySq ?_
  refine yCf ?_
  refine yEx 0 ?_
  refine ySq ?_
  refine yPl [0] ?_
  refine yB0 [] [0] [(4, iV (-1))] (.mk ?_)
  refine yK [(4, iV (-1))] fun lr45 => ?_
  refine yRt ?_
  repeat (first | simp only [Exit.inBlock] | simp only [Exit.then])
  refine hi_out [] (iV (-1)) [] (by kernel_rfl) (by intro q hq; cases hq) ?_
  exact ⟨iV (-1), [Sl 42 8 p m c (fl eRs L), Cl b [iV x, iV y, uV z] 32], rfl, (.inr ⟨rfl, rall_idx (k := k) hall_ (by omega), rfl⟩), h8⟩

set_option maxHeartbeats 4000000 in
theorem r_has (p : Option Addr) (m c b : Nat) (L : List Rs) (x y z : Int) (hm : m ≤ 1000000) : HT Try.prog 39 [Value.slice p m c, Value.func (Fn.func 40) #[] #[Value.pointer (some ⟨b, 0, none⟩)]] [Sl 42 8 p m c (fl eRs L), Cl b [Value.int IntKind.i64 x, Value.int IntKind.i64 y, Value.int IntKind.u32 z] 32] (fun v K => (v = Value.bool true ∧ (∃ r ∈ L, r.out = (x, y, z)) ∧ K = [Sl 42 8 p m c (fl eRs L), Cl b [Value.int IntKind.i64 x, Value.int IntKind.i64 y, Value.int IntKind.u32 z] 32]) ∨ (v = Value.bool false ∧ (∀ r ∈ L, r.out ≠ (x, y, z)) ∧ K = [Sl 42 8 p m c (fl eRs L), Cl b [Value.int IntKind.i64 x, Value.int IntKind.i64 y, Value.int IntKind.u32 z] 32])) := by
 refine hi_in 9 ([(0, .slice p m c), (1, .func (Fn.func 40) #[] #[pV b])] : Fr) Try.func39 (by kernel_rfl) Try.ntmps39 rfl rfl ?_
 intro g w0 R h0
 refine ySq ?_
 refine yPl [0] ?_
 refine yB0 [] [0] [(4, .bool false)] (.mk ?_)
 refine yK [(0, .slice p m c), (1, .func (Fn.func 40) #[] #[pV b])] fun lr1 => ?_
 refine ySq ?_
 refine yPl [0, 1, 2, 3, 4] ?_
 refine yB0 [2, 3, 4] [0, 1] [(6, .func (Fn.func 40) #[] #[pV b]), (5, .slice p m c)] ?_
 refine yA ?_
 refine yCl 7 Try.call56 (r_index p m c b L x y z (by omega)) h0 ?_
 rintro v K w4 (⟨k2, rfl, hf3, rfl⟩ | ⟨rfl, hf3, rfl⟩) h5
 ·
  refine ⟨_, rfl, ?_⟩
  have h6 := ap2 h5
  refine yBb [] [(4, .bool true), (8, .bool true)] [e1 3 (.bool true), e0 4] [] [(.bool (decide ((k2 : Int) ≥ 0)), .bool true)] ⟨(ov_t (by omega)), trivial⟩ nC (.mk ?_)
  refine yK [(4, .bool true)] fun lr7 => ?_
  refine yRt ?_
  repeat (first | simp only [Exit.inBlock] | simp only [Exit.then])
  refine hi_out [] (.bool true) [] (by kernel_rfl) (by intro q hq; cases hq) ?_
  exact ⟨.bool true, [Sl 42 8 p m c (fl eRs L), Cl b [iV x, iV y, uV z] 32], rfl, (.inl ⟨rfl, hf3, rfl⟩), h6⟩
 ·
  refine ⟨_, rfl, ?_⟩
  have h8 := ap2 h5
  refine yB0 [] [3, 4] [(4, .bool false), (8, .bool false)] (.mk ?_)
  refine yK [(4, .bool false)] fun lr9 => ?_
  refine yRt ?_
  repeat (first | simp only [Exit.inBlock] | simp only [Exit.then])
  refine hi_out [] (.bool false) [] (by kernel_rfl) (by intro q hq; cases hq) ?_
  exact ⟨.bool false, [Sl 42 8 p m c (fl eRs L), Cl b [iV x, iV y, uV z] 32], rfl, (.inr ⟨rfl, hf3, rfl⟩), h8⟩

theorem rhas_t (p : Option Addr) (m c b : Nat) (L : List Rs) (x y z : Int) (h : ∃ r ∈ L, r.out = (x, y, z)) (hm : m ≤ 1000000) : HT Try.prog 39 [Value.slice p m c, Value.func (Fn.func 40) #[] #[Value.pointer (some ⟨b, 0, none⟩)]] [Sl 42 8 p m c (fl eRs L), Cl b [Value.int IntKind.i64 x, Value.int IntKind.i64 y, Value.int IntKind.u32 z] 32] (fun v K => v = Value.bool true ∧ K = [Sl 42 8 p m c (fl eRs L), Cl b [Value.int IntKind.i64 x, Value.int IntKind.i64 y, Value.int IntKind.u32 z] 32]) :=
  (r_has p m c b L x y z hm).mono fun v K hP => by
    rcases hP with ⟨hv, h1, hK⟩ | ⟨hv, h1, hK⟩
    · exact ⟨hv, hK⟩
    · obtain ⟨e, he, h2⟩ := h; exact absurd h2 (h1 e he)

theorem rhas_f (p : Option Addr) (m c b : Nat) (L : List Rs) (x y z : Int) (h : ∀ r ∈ L, r.out ≠ (x, y, z)) (hm : m ≤ 1000000) : HT Try.prog 39 [Value.slice p m c, Value.func (Fn.func 40) #[] #[Value.pointer (some ⟨b, 0, none⟩)]] [Sl 42 8 p m c (fl eRs L), Cl b [Value.int IntKind.i64 x, Value.int IntKind.i64 y, Value.int IntKind.u32 z] 32] (fun v K => v = Value.bool false ∧ K = [Sl 42 8 p m c (fl eRs L), Cl b [Value.int IntKind.i64 x, Value.int IntKind.i64 y, Value.int IntKind.u32 z] 32]) :=
  (r_has p m c b L x y z hm).mono fun v K hP => by
    rcases hP with ⟨hv, h1, hK⟩ | ⟨hv, h1, hK⟩
    · obtain ⟨e, he, h1⟩ := h1; exact absurd h1 (h e he)
    · exact ⟨hv, hK⟩

end Go.Proofs.Ytjjpmehiolejgaa
