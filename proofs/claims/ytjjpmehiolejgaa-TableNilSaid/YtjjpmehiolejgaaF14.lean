/- Walks, printed by my generator gen14.py. -/
import Derived.Test.YtjjpmehiolejgaaF13
namespace Go.Proofs.Ytjjpmehiolejgaa
theorem thas_t (b n : Nat) (A : List Sl2) (E : Tm) (RL : List Rs) (hx hy : Int) (h : ∃ e ∈ allE E, e.h = (hx, hy)) : HT Try.prog 41 [Value.pointer (some ⟨b, 0, none⟩), Value.agg #[Value.int IntKind.i64 hx, Value.int IntKind.u32 hy]] [Tab b n A E RL] (fun v K => v = Value.bool true ∧ K = [Tab b n A E RL]) :=
  (thas_ht b n A E RL hx hy).mono fun v K hP => by
    rcases hP with ⟨hv, h1, hK⟩ | ⟨hv, h1, hK⟩
    · exact ⟨hv, hK⟩
    · obtain ⟨e, he, h2⟩ := h; exact absurd h2 (h1 e he)
theorem thas_f (b n : Nat) (A : List Sl2) (E : Tm) (RL : List Rs) (hx hy : Int) (h : ∀ e ∈ allE E, e.h ≠ (hx, hy)) : HT Try.prog 41 [Value.pointer (some ⟨b, 0, none⟩), Value.agg #[Value.int IntKind.i64 hx, Value.int IntKind.u32 hy]] [Tab b n A E RL] (fun v K => v = Value.bool false ∧ K = [Tab b n A E RL]) :=
  (thas_ht b n A E RL hx hy).mono fun v K hP => by
    rcases hP with ⟨hv, h1, hK⟩ | ⟨hv, h1, hK⟩
    · obtain ⟨e, he, h1⟩ := h1; exact absurd h1 (h e he)
    · exact ⟨hv, hK⟩
theorem ne_trip {p : Ky} {a b c : Int} (h : ¬ (p.1 = a ∧ p.2.1 = b ∧ p.2.2 = c)) : p ≠ (a, b, c) := by
  rintro rfl
  exact h ⟨rfl, rfl, rfl⟩
theorem ridx_go {L : List Rs} {k : Nat} {P : Rs → Prop} {x : Rs} (h : ∀ (j : Nat) (o : Rs), j < k → L[j]? = some o → P o) (hx : L[k]? = some x) (hp : P x) : ∀ (j : Nat) (o : Rs), j < k + 1 → L[j]? = some o → P o := fun j o hj ho => by
  rcases Nat.lt_succ_iff_lt_or_eq.1 hj with h1 | rfl
  · exact h j o h1 ho
  · rw [hx] at ho
    obtain rfl := Option.some.inj ho
    exact hp
theorem rall_idx {L : List Rs} {k : Nat} {P : Rs → Prop} (h : ∀ (j : Nat) (o : Rs), j < k → L[j]? = some o → P o) (hk : L.length ≤ k) : ∀ o ∈ L, P o := fun o ho => by
  obtain ⟨j, hj⟩ := List.getElem?_of_mem ho
  exact h j o (Nat.lt_of_lt_of_le (List.getElem?_eq_some_iff.1 hj).1 hk) hj
theorem seq32_eql_t {n : Nat} {l : Fr} {o : Oper} {x y : Operand} (a0 : Int) (a1 : Int) (a2 : Int) (c0 : Int) (c1 : Int) (c2 : Int) (ho : o.op = .binOp .eql 32 x y 32) (hx : fe n l x = .agg #[.int .i64 a0, .int .i64 a1, .int .u32 a2]) (hy : fe n l y = .agg #[.int .i64 c0, .int .i64 c1, .int .u32 c2]) (h : a0 = c0 ∧ a1 = c1 ∧ a2 = c2) (w : World) : (execOp (fe n l) o).run Try.prog w = .ok (.value (.bool true)) w := by
  obtain ⟨rfl, rfl, rfl⟩ := h
  simp [execOp, ho, hx, hy, go_sem]
theorem seq32_eql_f {n : Nat} {l : Fr} {o : Oper} {x y : Operand} (a0 : Int) (a1 : Int) (a2 : Int) (c0 : Int) (c1 : Int) (c2 : Int) (ho : o.op = .binOp .eql 32 x y 32) (hx : fe n l x = .agg #[.int .i64 a0, .int .i64 a1, .int .u32 a2]) (hy : fe n l y = .agg #[.int .i64 c0, .int .i64 c1, .int .u32 c2]) (h : ¬ (a0 = c0 ∧ a1 = c1 ∧ a2 = c2)) (w : World) : (execOp (fe n l) o).run Try.prog w = .ok (.value (.bool false)) w := by
  by_cases h0 : a0 = c0
  · skip
    by_cases h1 : a1 = c1
    · skip
      by_cases h2 : a2 = c2
      · exact absurd ⟨h0, h1, h2⟩ h
      · simp [execOp, ho, hx, hy, go_sem, h0, h1, h2]
    · simp [execOp, ho, hx, hy, go_sem, h0, h1]
  · simp [execOp, ho, hx, hy, go_sem, h0]
set_option maxHeartbeats 4000000 in
theorem op1_t (b : Nat) (u1 u2 u3 s1 s2 s3 s4 : Int) (tg : List UInt8) (x y z : Int) (h : u1 = x ∧ u2 = y ∧ u3 = z) : HT Try.prog 40 [Value.agg #[Value.int IntKind.i64 u1, Value.int IntKind.i64 u2, Value.int IntKind.u32 u3, Value.int IntKind.i64 s1, Value.int IntKind.i64 s2, Value.int IntKind.i64 s3, Value.int IntKind.i64 s4, Value.string (St tg)], Value.pointer (some ⟨b, 0, none⟩)] [Cl b [Value.int IntKind.i64 x, Value.int IntKind.i64 y, Value.int IntKind.u32 z] 32] (fun v K => v = Value.bool true ∧ K = [Cl b [Value.int IntKind.i64 x, Value.int IntKind.i64 y, Value.int IntKind.u32 z] 32]) := by
  refine hi_in 8 ([(0, .agg #[iV u1, iV u2, uV u3, iV s1, iV s2, iV s3, iV s4, .string (St tg)]), (1, pV b)] : Fr) Try.func40 (by kernel_rfl) Try.ntmps40 rfl rfl ?_
  intro g w0 R h0
  change WP _ _ (CA Try.f40 []) _ _ _
  refine zSq (by kernel_rfl) ?_
  refine zPl [0, 1] (by kernel_rfl) ?_
  refine plain_act (i := 0) (by kernel_rfl) ?_
  refine an_new (d := 2) (fun xb_ => pV xb_) (fun xb_ => Obj.cells [iV u1, iV u2, uV u3, iV s1, iV s2, iV s3, iV s4, .string (St tg)].toArray 42 (0, 0)) (fun xb_ => by kernel_rfl) (by kernel_rfl) rfl h0 ?_
  intro r1 w2 (h3 : sat g w2 [Cl r1 [iV u1, iV u2, uV u3, iV s1, iV s2, iV s3, iV s4, .string (St tg)] 42, Cl b [iV x, iV y, uV z] 32, R])
  refine zB0 [] [1] [(3, .bool false)] (by kernel_rfl) ?_
  refine PO.mk ?_
  change WP _ _ (CA Try.f40 [1]) _ _ _
  refine fk_cut ([(1, pV b), (2, pV r1)] : Fr) (by kernel_rfl) (fun a => WP _ _ _ _ a _) (fun lr4 => ?_)
  refine zSq (by kernel_rfl) ?_
  refine zPl [0, 1, 2, 3, 4] (by kernel_rfl) ?_
  refine zBb [3, 4] [(6, .agg #[iV x, iV y, uV z]), (5, .agg #[iV u1, iV u2, uV u3]), (4, pV r1)] [⟨0, [], none⟩, ⟨1, [iV u1, iV u2, uV u3], none⟩, ⟨2, [iV x, iV y, uV z], none⟩] [(2, ⟨b, 0, none⟩, iV x), (2, ⟨b, 1, none⟩, iV y), (2, ⟨b, 2, none⟩, uV z), (1, ⟨r1, 0, none⟩, iV u1), (1, ⟨r1, 1, none⟩, iV u2), (1, ⟨r1, 2, none⟩, uV u3)] [] (by kernel_rfl) trivial (AllC_cons (sat_cell h3 1 rfl rfl) (AllC_cons (sat_cell h3 1 rfl rfl) (AllC_cons (sat_cell h3 1 rfl rfl) (AllC_cons (sat_cell h3 0 rfl rfl) (AllC_cons (sat_cell h3 0 rfl rfl) (AllC_cons (sat_cell h3 0 rfl rfl) (AllC_nil _))))))) ?_
  refine plain_law (i := 3) 7 (.bool true) (by kernel_rfl) (seq32_eql_t (o := opA (RA Try.f40 [1, 0]) 3) (x := (Operand.tmp 5)) (y := (Operand.tmp 6)) u1 u2 u3 x y z (by kernel_rfl) (by kernel_rfl) (by kernel_rfl) ⟨(by omega), (by omega), (by omega)⟩ _) ?_
  refine zB0 [] [4] [(3, .bool true)] (by kernel_rfl) ?_
  refine PO.mk ?_
  change WP _ _ (CA Try.f40 [1, 1]) _ _ _
  refine fk_cut ([(3, .bool true)] : Fr) (by kernel_rfl) (fun a => WP _ _ _ _ a _) (fun lr5 => ?_)
  refine gi_rt (by kernel_rfl) ?_
  repeat (first | simp only [Exit.inBlock] | simp only [Exit.then])
  have h6 : sat g w2 [Cl b [iV x, iV y, uV z] 32, Cl r1 [iV u1, iV u2, uV u3, iV s1, iV s2, iV s3, iV s4, .string (St tg)] 42, R] := sat_sel [1, 0, 2] rfl h3
  have h7 : sat g w2 [Cl b [iV x, iV y, uV z] 32, R] := sat_sel [0, 2] rfl h6
  refine hi_out [] (.bool true) [] (by kernel_rfl) (by intro q hq; cases hq) ?_
  exact ⟨.bool true, [Cl b [iV x, iV y, uV z] 32], rfl, ⟨rfl, rfl⟩, h7⟩

set_option maxHeartbeats 4000000 in
theorem op1_f (b : Nat) (u1 u2 u3 s1 s2 s3 s4 : Int) (tg : List UInt8) (x y z : Int) (h : ¬ (u1 = x ∧ u2 = y ∧ u3 = z)) : HT Try.prog 40 [Value.agg #[Value.int IntKind.i64 u1, Value.int IntKind.i64 u2, Value.int IntKind.u32 u3, Value.int IntKind.i64 s1, Value.int IntKind.i64 s2, Value.int IntKind.i64 s3, Value.int IntKind.i64 s4, Value.string (St tg)], Value.pointer (some ⟨b, 0, none⟩)] [Cl b [Value.int IntKind.i64 x, Value.int IntKind.i64 y, Value.int IntKind.u32 z] 32] (fun v K => v = Value.bool false ∧ K = [Cl b [Value.int IntKind.i64 x, Value.int IntKind.i64 y, Value.int IntKind.u32 z] 32]) := by
  refine hi_in 8 ([(0, .agg #[iV u1, iV u2, uV u3, iV s1, iV s2, iV s3, iV s4, .string (St tg)]), (1, pV b)] : Fr) Try.func40 (by kernel_rfl) Try.ntmps40 rfl rfl ?_
  intro g w0 R h0
  change WP _ _ (CA Try.f40 []) _ _ _
  refine zSq (by kernel_rfl) ?_
  refine zPl [0, 1] (by kernel_rfl) ?_
  refine plain_act (i := 0) (by kernel_rfl) ?_
  refine an_new (d := 2) (fun xb_ => pV xb_) (fun xb_ => Obj.cells [iV u1, iV u2, uV u3, iV s1, iV s2, iV s3, iV s4, .string (St tg)].toArray 42 (0, 0)) (fun xb_ => by kernel_rfl) (by kernel_rfl) rfl h0 ?_
  intro r1 w2 (h3 : sat g w2 [Cl r1 [iV u1, iV u2, uV u3, iV s1, iV s2, iV s3, iV s4, .string (St tg)] 42, Cl b [iV x, iV y, uV z] 32, R])
  refine zB0 [] [1] [(3, .bool false)] (by kernel_rfl) ?_
  refine PO.mk ?_
  change WP _ _ (CA Try.f40 [1]) _ _ _
  refine fk_cut ([(1, pV b), (2, pV r1)] : Fr) (by kernel_rfl) (fun a => WP _ _ _ _ a _) (fun lr4 => ?_)
  refine zSq (by kernel_rfl) ?_
  refine zPl [0, 1, 2, 3, 4] (by kernel_rfl) ?_
  refine zBb [3, 4] [(6, .agg #[iV x, iV y, uV z]), (5, .agg #[iV u1, iV u2, uV u3]), (4, pV r1)] [⟨0, [], none⟩, ⟨1, [iV u1, iV u2, uV u3], none⟩, ⟨2, [iV x, iV y, uV z], none⟩] [(2, ⟨b, 0, none⟩, iV x), (2, ⟨b, 1, none⟩, iV y), (2, ⟨b, 2, none⟩, uV z), (1, ⟨r1, 0, none⟩, iV u1), (1, ⟨r1, 1, none⟩, iV u2), (1, ⟨r1, 2, none⟩, uV u3)] [] (by kernel_rfl) trivial (AllC_cons (sat_cell h3 1 rfl rfl) (AllC_cons (sat_cell h3 1 rfl rfl) (AllC_cons (sat_cell h3 1 rfl rfl) (AllC_cons (sat_cell h3 0 rfl rfl) (AllC_cons (sat_cell h3 0 rfl rfl) (AllC_cons (sat_cell h3 0 rfl rfl) (AllC_nil _))))))) ?_
  by_cases c5 : u1 = x
  ·
    by_cases c6 : u2 = y
    ·
      refine plain_law (i := 3) 7 (.bool false) (by kernel_rfl) (seq32_eql_f (o := opA (RA Try.f40 [1, 0]) 3) (x := (Operand.tmp 5)) (y := (Operand.tmp 6)) u1 u2 u3 x y z (by kernel_rfl) (by kernel_rfl) (by kernel_rfl) (by omega) _) ?_
      refine zB0 [] [4] [(3, .bool false)] (by kernel_rfl) ?_
      refine PO.mk ?_
      change WP _ _ (CA Try.f40 [1, 1]) _ _ _
      refine fk_cut ([(3, .bool false)] : Fr) (by kernel_rfl) (fun a => WP _ _ _ _ a _) (fun lr7 => ?_)
      refine gi_rt (by kernel_rfl) ?_
      repeat (first | simp only [Exit.inBlock] | simp only [Exit.then])
      have h8 : sat g w2 [Cl b [iV x, iV y, uV z] 32, Cl r1 [iV u1, iV u2, uV u3, iV s1, iV s2, iV s3, iV s4, .string (St tg)] 42, R] := sat_sel [1, 0, 2] rfl h3
      have h9 : sat g w2 [Cl b [iV x, iV y, uV z] 32, R] := sat_sel [0, 2] rfl h8
      refine hi_out [] (.bool false) [] (by kernel_rfl) (by intro q hq; cases hq) ?_
      exact ⟨.bool false, [Cl b [iV x, iV y, uV z] 32], rfl, ⟨rfl, rfl⟩, h9⟩
    ·
      refine plain_law (i := 3) 7 (.bool false) (by kernel_rfl) (seq32_eql_f (o := opA (RA Try.f40 [1, 0]) 3) (x := (Operand.tmp 5)) (y := (Operand.tmp 6)) u1 u2 u3 x y z (by kernel_rfl) (by kernel_rfl) (by kernel_rfl) (by omega) _) ?_
      refine zB0 [] [4] [(3, .bool false)] (by kernel_rfl) ?_
      refine PO.mk ?_
      change WP _ _ (CA Try.f40 [1, 1]) _ _ _
      refine fk_cut ([(3, .bool false)] : Fr) (by kernel_rfl) (fun a => WP _ _ _ _ a _) (fun lr10 => ?_)
      refine gi_rt (by kernel_rfl) ?_
      repeat (first | simp only [Exit.inBlock] | simp only [Exit.then])
      have h11 : sat g w2 [Cl b [iV x, iV y, uV z] 32, Cl r1 [iV u1, iV u2, uV u3, iV s1, iV s2, iV s3, iV s4, .string (St tg)] 42, R] := sat_sel [1, 0, 2] rfl h3
      have h12 : sat g w2 [Cl b [iV x, iV y, uV z] 32, R] := sat_sel [0, 2] rfl h11
      refine hi_out [] (.bool false) [] (by kernel_rfl) (by intro q hq; cases hq) ?_
      exact ⟨.bool false, [Cl b [iV x, iV y, uV z] 32], rfl, ⟨rfl, rfl⟩, h12⟩
  ·
    refine plain_law (i := 3) 7 (.bool false) (by kernel_rfl) (seq32_eql_f (o := opA (RA Try.f40 [1, 0]) 3) (x := (Operand.tmp 5)) (y := (Operand.tmp 6)) u1 u2 u3 x y z (by kernel_rfl) (by kernel_rfl) (by kernel_rfl) (by omega) _) ?_
    refine zB0 [] [4] [(3, .bool false)] (by kernel_rfl) ?_
    refine PO.mk ?_
    change WP _ _ (CA Try.f40 [1, 1]) _ _ _
    refine fk_cut ([(3, .bool false)] : Fr) (by kernel_rfl) (fun a => WP _ _ _ _ a _) (fun lr13 => ?_)
    refine gi_rt (by kernel_rfl) ?_
    repeat (first | simp only [Exit.inBlock] | simp only [Exit.then])
    have h14 : sat g w2 [Cl b [iV x, iV y, uV z] 32, Cl r1 [iV u1, iV u2, uV u3, iV s1, iV s2, iV s3, iV s4, .string (St tg)] 42, R] := sat_sel [1, 0, 2] rfl h3
    have h15 : sat g w2 [Cl b [iV x, iV y, uV z] 32, R] := sat_sel [0, 2] rfl h14
    refine hi_out [] (.bool false) [] (by kernel_rfl) (by intro q hq; cases hq) ?_
    exact ⟨.bool false, [Cl b [iV x, iV y, uV z] 32], rfl, ⟨rfl, rfl⟩, h15⟩

set_option maxHeartbeats 4000000 in
theorem r_index (p : Option Addr) (m c b : Nat) (L : List Rs) (x y z : Int) (hm : m ≤ 1000000) : HT Try.prog 56 [Value.slice p m c, Value.func (Fn.func 40) #[] #[Value.pointer (some ⟨b, 0, none⟩)]] [Sl 42 8 p m c (fl eRs L), Cl b [Value.int IntKind.i64 x, Value.int IntKind.i64 y, Value.int IntKind.u32 z] 32] (fun v K => (∃ k : Nat, v = Value.int .i64 (k : Int) ∧ (∃ r ∈ L, r.out = (x, y, z)) ∧ K = [Sl 42 8 p m c (fl eRs L), Cl b [Value.int IntKind.i64 x, Value.int IntKind.i64 y, Value.int IntKind.u32 z] 32]) ∨ (v = Value.int .i64 (-1) ∧ (∀ r ∈ L, r.out ≠ (x, y, z)) ∧ K = [Sl 42 8 p m c (fl eRs L), Cl b [Value.int IntKind.i64 x, Value.int IntKind.i64 y, Value.int IntKind.u32 z] 32])) := by
  refine hi_in 19 ([(0, .slice p m c), (1, .func (Fn.func 40) #[] #[pV b])] : Fr) Try.func56 (by kernel_rfl) Try.ntmps56 rfl rfl ?_
  intro g w0 R h0
  change WP _ _ (CA Try.f56 []) _ _ _
  refine zSq (by kernel_rfl) ?_
  refine zPl [0] (by kernel_rfl) ?_
  refine zB0 [] [0] [(4, iV 0)] (by kernel_rfl) ?_
  refine PO.mk ?_
  change WP _ _ (CA Try.f56 [1]) _ _ _
  refine fk_cut ([(0, .slice p m c), (1, .func (Fn.func 40) #[] #[pV b])] : Fr) (by kernel_rfl) (fun a => WP _ _ _ _ a _) (fun lr1 => ?_)
  refine zSq (by kernel_rfl) ?_
  refine zSq (by kernel_rfl) ?_
  refine zPl [0, 1, 2] (by kernel_rfl) ?_
  refine zB0 [] [0, 1, 2] [(8, iV 0), (7, iV (((m : Nat) : Int))), (6, .slice p m c)] (by kernel_rfl) ?_
  refine PO.mk ?_
  change WP _ _ (CA Try.f56 [1, 0, 1]) _ _ _
  refine fk_cut ([(0, .slice p m c), (1, .func (Fn.func 40) #[] #[pV b]), (7, iV (((m : Nat) : Int))), (8, iV 0)] : Fr) (by kernel_rfl) (fun a => WP _ _ _ _ a _) (fun lr2 => ?_)
  refine gi_blk (id := 0) (x := CA Try.f56 [1, 0, 1, 0]) (by kernel_rfl) ?_
  have hl3 := fl_n eRs_ok (by decide) h0
  refine gi_lp (x := CA Try.f56 [1, 0, 1, 0, 0]) (by kernel_rfl) (fun mz_ a w => ∃ k : Nat, ∃ lr : Fr, mz_ = m - k ∧ (k ≤ m) ∧ (∀ (j : Nat) (o : Rs), j < k → L[j]? = some o → o.out ≠ (x, y, z)) ∧ a = mk 19 (([(0, .slice p m c), (1, .func (Fn.func 40) #[] #[pV b]), (7, iV (((m : Nat) : Int))), (8, iV (((k : Nat) : Int)))] : Fr) ++ lr) ∧ sat g w [Sl 42 8 p m c (fl eRs L), Cl b [iV x, iV y, uV z] 32, R]) (m - 0) ⟨0, _, rfl, (Nat.zero_le _), (fun j o h _ => absurd h (Nat.not_lt_zero _)), (mk_live [(0, .slice p m c), (1, .func (Fn.func 40) #[] #[pV b]), (7, iV (((m : Nat) : Int))), (8, iV (((0 : Nat) : Int)))] ⟨rfl, rfl, rfl, (ov_int (by omega)), trivial⟩), h0⟩ ?_
  rintro m5 a6 w7 ⟨k, lr4, rfl, hk, hall_, rfl, h8⟩
  change WP _ _ (CA Try.f56 [1, 0, 1, 0, 0]) _ _ _
  refine zSq (by kernel_rfl) ?_
  refine zPl [0] (by kernel_rfl) ?_
  by_cases c9 : ((k : Nat) : Int) < ((m : Nat) : Int)
  ·
    refine zBb [] [(9, .bool true)] [⟨0, [], some (.bool true)⟩] [] [(.bool (decide (((k : Nat) : Int) < ((m : Nat) : Int))), .bool true)] (by kernel_rfl) ⟨(ov_t (by omega)), trivial⟩ (AllC_nil _) ?_
    refine PO.mk ?_
    change WP _ _ (CA Try.f56 [1, 0, 1, 0, 0, 1]) _ _ _
    refine fk_cut ([(0, .slice p m c), (1, .func (Fn.func 40) #[] #[pV b]), (7, iV (((m : Nat) : Int))), (8, iV (((k : Nat) : Int))), (9, .bool true)] : Fr) (by kernel_rfl) (fun a => WP _ _ _ _ a _) (fun lr10 => ?_)
    refine zSq (by kernel_rfl) ?_
    refine zCt (by kernel_rfl) ?_
    refine gi_skp (by kernel_rfl) ?_
    change WP _ _ (CA Try.f56 [1, 0, 1, 0, 0, 1, 1]) _ _ _
    refine zSq (by kernel_rfl) ?_
    refine gi_blk (id := 1) (x := CA Try.f56 [1, 0, 1, 0, 0, 1, 1, 0, 0]) (by kernel_rfl) ?_
    refine zSq (by kernel_rfl) ?_
    refine zPl [0, 1] (by kernel_rfl) ?_
    refine zB0 [] [0, 1] [(5, iV (((k : Nat) : Int))), (10, iV (((k : Nat) : Int)))] (by kernel_rfl) ?_
    refine PO.mk ?_
    change WP _ _ (CA Try.f56 [1, 0, 1, 0, 0, 1, 1, 0, 0, 1]) _ _ _
    refine fk_cut ([(0, .slice p m c), (1, .func (Fn.func 40) #[] #[pV b]), (5, iV (((k : Nat) : Int))), (7, iV (((m : Nat) : Int))), (8, iV (((k : Nat) : Int)))] : Fr) (by kernel_rfl) (fun a => WP _ _ _ _ a _) (fun lr11 => ?_)
    refine zSq (by kernel_rfl) ?_
    refine zPl [0, 1, 2, 3, 4, 5] (by kernel_rfl) ?_
    obtain ⟨b12, hp13⟩ := sl_ptr0 (j := 0) h8 rfl (by omega)
    refine zB0 [3, 4, 5] [0, 1, 2] [(13, iV (((k : Nat) : Int))), (12, .slice p m c), (11, .func (Fn.func 40) #[] #[pV b])] (by kernel_rfl) ?_
    refine plain_law (i := 3) 14 (.pointer (some ⟨b12, k * 8, none⟩)) (by kernel_rfl) (law_indexSlP (o := opA (RA Try.f56 [1, 0, 1, 0, 0, 1, 1, 0, 0, 1, 0]) 3) (x := (Operand.tmp 12)) (i := (Operand.tmp 13)) (p := p) (b := b12) (off := 0) (z := (((k : Nat) : Int))) (len := m) (cap := c) (by kernel_rfl) Try.underlying74 8 (by kernel_rfl) k (by kernel_rfl) hp13 (by kernel_rfl) (by omega) (by omega) (k * 8) (by omega) _) ?_
    obtain ⟨x14, hx15⟩ : ∃ x, L[k]? = some x := ⟨_, List.getElem?_eq_getElem (by rw [hl3]; omega)⟩
    refine zBb [5] [(15, .agg #[iV x14.out.1, iV x14.out.2.1, uV x14.out.2.2, iV x14.st, iV x14.why, iV x14.tr, iV x14.nx, .string (St x14.tag)])] [⟨4, [iV x14.out.1, iV x14.out.2.1, uV x14.out.2.2, iV x14.st, iV x14.why, iV x14.tr, iV x14.nx, .string (St x14.tag)], none⟩] [(4, ⟨b12, k * 8, none⟩, iV x14.out.1), (4, ⟨b12, k * 8 + 1, none⟩, iV x14.out.2.1), (4, ⟨b12, k * 8 + 2, none⟩, uV x14.out.2.2), (4, ⟨b12, k * 8 + 3, none⟩, iV x14.st), (4, ⟨b12, k * 8 + 4, none⟩, iV x14.why), (4, ⟨b12, k * 8 + 5, none⟩, iV x14.tr), (4, ⟨b12, k * 8 + 6, none⟩, iV x14.nx), (4, ⟨b12, k * 8 + 7, none⟩, .string (St x14.tag))] [] (by kernel_rfl) trivial (AllC_cons (gv_cell (j := 0) h8 rfl (gv_sl _ _ _) hp13 (fl_get eRs_ok (j := 0) (v := iV x14.out.1) hx15 rfl) (k * 8) (by omega)) (AllC_cons (gv_cell (j := 0) h8 rfl (gv_sl _ _ _) hp13 (fl_get eRs_ok (j := 1) (v := iV x14.out.2.1) hx15 rfl) (k * 8 + 1) (by omega)) (AllC_cons (gv_cell (j := 0) h8 rfl (gv_sl _ _ _) hp13 (fl_get eRs_ok (j := 2) (v := uV x14.out.2.2) hx15 rfl) (k * 8 + 2) (by omega)) (AllC_cons (gv_cell (j := 0) h8 rfl (gv_sl _ _ _) hp13 (fl_get eRs_ok (j := 3) (v := iV x14.st) hx15 rfl) (k * 8 + 3) (by omega)) (AllC_cons (gv_cell (j := 0) h8 rfl (gv_sl _ _ _) hp13 (fl_get eRs_ok (j := 4) (v := iV x14.why) hx15 rfl) (k * 8 + 4) (by omega)) (AllC_cons (gv_cell (j := 0) h8 rfl (gv_sl _ _ _) hp13 (fl_get eRs_ok (j := 5) (v := iV x14.tr) hx15 rfl) (k * 8 + 5) (by omega)) (AllC_cons (gv_cell (j := 0) h8 rfl (gv_sl _ _ _) hp13 (fl_get eRs_ok (j := 6) (v := iV x14.nx) hx15 rfl) (k * 8 + 6) (by omega)) (AllC_cons (gv_cell (j := 0) h8 rfl (gv_sl _ _ _) hp13 (fl_get eRs_ok (j := 7) (v := .string (St x14.tag)) hx15 rfl) (k * 8 + 7) (by omega)) (AllC_nil _))))))))) ?_
    by_cases c16 : x14.out.1 = x
    ·
      by_cases c17 : x14.out.2.1 = y
      ·
        by_cases c18 : x14.out.2.2 = z
        ·
          have h19 : sat g w7 [Cl b [iV x, iV y, uV z] 32, Sl 42 8 p m c (fl eRs L), R] := sat_sel [1, 0, 2] rfl h8
          refine plain_act (i := 5) (by kernel_rfl) ?_
          refine zCl 16 Try.call40 (op1_t b x14.out.1 x14.out.2.1 x14.out.2.2 x14.st x14.why x14.tr x14.nx x14.tag x y z (by omega)) h19 (by kernel_rfl) ?_
          rintro v K w20 (⟨rfl, rfl⟩) h21
          refine ⟨_, rfl, ?_⟩
          have h22 : sat g w20 [Cl b [iV x, iV y, uV z] 32, Sl 42 8 p m c (fl eRs L), R] := h21
          refine PO.mk ?_
          change WP _ _ (CA Try.f56 [1, 0, 1, 0, 0, 1, 1, 0, 0, 1, 1]) _ _ _
          refine fk_cut ([(0, .slice p m c), (1, .func (Fn.func 40) #[] #[pV b]), (5, iV (((k : Nat) : Int))), (7, iV (((m : Nat) : Int))), (8, iV (((k : Nat) : Int))), (16, .bool true)] : Fr) (by kernel_rfl) (fun a => WP _ _ _ _ a _) (fun lr23 => ?_)
          refine zCt (by kernel_rfl) ?_
          refine zSq (by kernel_rfl) ?_
          refine zPl [0, 1] (by kernel_rfl) ?_
          refine zB0 [] [0, 1] [(4, iV (((k : Nat) : Int))), (17, iV (((k : Nat) : Int)))] (by kernel_rfl) ?_
          refine PO.mk ?_
          change WP _ _ (CA Try.f56 [1, 0, 1, 0, 0, 1, 1, 0, 0, 1, 1, 0, 1]) _ _ _
          refine fk_cut ([(4, iV (((k : Nat) : Int)))] : Fr) (by kernel_rfl) (fun a => WP _ _ _ _ a _) (fun lr24 => ?_)
          refine gi_rt (by kernel_rfl) ?_
          repeat (first | simp only [Exit.inBlock] | simp only [Exit.then])
          have h25 : sat g w20 [Sl 42 8 p m c (fl eRs L), Cl b [iV x, iV y, uV z] 32, R] := sat_sel [1, 0, 2] rfl h22
          refine hi_out [] (iV (((k : Nat) : Int))) [] (by kernel_rfl) (by intro q hq; cases hq) ?_
          exact ⟨iV (((k : Nat) : Int)), [Sl 42 8 p m c (fl eRs L), Cl b [iV x, iV y, uV z] 32], rfl, (.inl ⟨k, rfl, ⟨x14, List.mem_of_getElem? hx15, Prod.ext (show x14.out.1 = x from by omega) (Prod.ext (show x14.out.2.1 = y from by omega) (show x14.out.2.2 = z from by omega))⟩, rfl⟩), h25⟩
        ·
          have h26 : sat g w7 [Cl b [iV x, iV y, uV z] 32, Sl 42 8 p m c (fl eRs L), R] := sat_sel [1, 0, 2] rfl h8
          refine plain_act (i := 5) (by kernel_rfl) ?_
          refine zCl 16 Try.call40 (op1_f b x14.out.1 x14.out.2.1 x14.out.2.2 x14.st x14.why x14.tr x14.nx x14.tag x y z (by omega)) h26 (by kernel_rfl) ?_
          rintro v K w27 (⟨rfl, rfl⟩) h28
          refine ⟨_, rfl, ?_⟩
          have h29 : sat g w27 [Cl b [iV x, iV y, uV z] 32, Sl 42 8 p m c (fl eRs L), R] := h28
          refine PO.mk ?_
          change WP _ _ (CA Try.f56 [1, 0, 1, 0, 0, 1, 1, 0, 0, 1, 1]) _ _ _
          refine fk_cut ([(0, .slice p m c), (1, .func (Fn.func 40) #[] #[pV b]), (5, iV (((k : Nat) : Int))), (7, iV (((m : Nat) : Int))), (8, iV (((k : Nat) : Int))), (16, .bool false)] : Fr) (by kernel_rfl) (fun a => WP _ _ _ _ a _) (fun lr30 => ?_)
          refine zCf (by kernel_rfl) ?_
          refine gi_skp (by kernel_rfl) ?_
          change WP _ _ (CA Try.f56 [1, 0, 1, 0, 0, 1, 1, 1]) _ _ _
          refine zPl [0, 1] (by kernel_rfl) ?_
          refine zBb [] [(8, iV (((k : Nat) : Int) + 1)), (18, iV (((k : Nat) : Int) + 1))] [⟨0, [], some (iV (((k : Nat) : Int) + 1))⟩, ⟨1, [], none⟩] [] [(iV (IntKind.wrap .i64 ((((k : Nat) : Int)) + 1)), iV (((k : Nat) : Int) + 1))] (by kernel_rfl) ⟨(ov_i64 (by omega) (by omega) (by omega)), trivial⟩ (AllC_nil _) ?_
          refine PO.mk ?_
          have h31 : sat g w27 [Sl 42 8 p m c (fl eRs L), Cl b [iV x, iV y, uV z] 32, R] := sat_sel [1, 0, 2] rfl h29
          change ∃ n', n' < _ ∧ _
          refine ⟨(m - (k + 1)), by omega, (k + 1), _, rfl, (by omega), (ridx_go hall_ hx15 (ne_trip (by omega))), (mk_live [(0, .slice p m c), (1, .func (Fn.func 40) #[] #[pV b]), (7, iV (((m : Nat) : Int))), (8, iV ((((k + 1) : Nat) : Int)))] ⟨rfl, rfl, rfl, (ov_int (by omega)), trivial⟩), h31⟩
      ·
        have h32 : sat g w7 [Cl b [iV x, iV y, uV z] 32, Sl 42 8 p m c (fl eRs L), R] := sat_sel [1, 0, 2] rfl h8
        refine plain_act (i := 5) (by kernel_rfl) ?_
        refine zCl 16 Try.call40 (op1_f b x14.out.1 x14.out.2.1 x14.out.2.2 x14.st x14.why x14.tr x14.nx x14.tag x y z (by omega)) h32 (by kernel_rfl) ?_
        rintro v K w33 (⟨rfl, rfl⟩) h34
        refine ⟨_, rfl, ?_⟩
        have h35 : sat g w33 [Cl b [iV x, iV y, uV z] 32, Sl 42 8 p m c (fl eRs L), R] := h34
        refine PO.mk ?_
        change WP _ _ (CA Try.f56 [1, 0, 1, 0, 0, 1, 1, 0, 0, 1, 1]) _ _ _
        refine fk_cut ([(0, .slice p m c), (1, .func (Fn.func 40) #[] #[pV b]), (5, iV (((k : Nat) : Int))), (7, iV (((m : Nat) : Int))), (8, iV (((k : Nat) : Int))), (16, .bool false)] : Fr) (by kernel_rfl) (fun a => WP _ _ _ _ a _) (fun lr36 => ?_)
        refine zCf (by kernel_rfl) ?_
        refine gi_skp (by kernel_rfl) ?_
        change WP _ _ (CA Try.f56 [1, 0, 1, 0, 0, 1, 1, 1]) _ _ _
        refine zPl [0, 1] (by kernel_rfl) ?_
        refine zBb [] [(8, iV (((k : Nat) : Int) + 1)), (18, iV (((k : Nat) : Int) + 1))] [⟨0, [], some (iV (((k : Nat) : Int) + 1))⟩, ⟨1, [], none⟩] [] [(iV (IntKind.wrap .i64 ((((k : Nat) : Int)) + 1)), iV (((k : Nat) : Int) + 1))] (by kernel_rfl) ⟨(ov_i64 (by omega) (by omega) (by omega)), trivial⟩ (AllC_nil _) ?_
        refine PO.mk ?_
        have h37 : sat g w33 [Sl 42 8 p m c (fl eRs L), Cl b [iV x, iV y, uV z] 32, R] := sat_sel [1, 0, 2] rfl h35
        change ∃ n', n' < _ ∧ _
        refine ⟨(m - (k + 1)), by omega, (k + 1), _, rfl, (by omega), (ridx_go hall_ hx15 (ne_trip (by omega))), (mk_live [(0, .slice p m c), (1, .func (Fn.func 40) #[] #[pV b]), (7, iV (((m : Nat) : Int))), (8, iV ((((k + 1) : Nat) : Int)))] ⟨rfl, rfl, rfl, (ov_int (by omega)), trivial⟩), h37⟩
    ·
      have h38 : sat g w7 [Cl b [iV x, iV y, uV z] 32, Sl 42 8 p m c (fl eRs L), R] := sat_sel [1, 0, 2] rfl h8
      refine plain_act (i := 5) (by kernel_rfl) ?_
      refine zCl 16 Try.call40 (op1_f b x14.out.1 x14.out.2.1 x14.out.2.2 x14.st x14.why x14.tr x14.nx x14.tag x y z (by omega)) h38 (by kernel_rfl) ?_
      rintro v K w39 (⟨rfl, rfl⟩) h40
      refine ⟨_, rfl, ?_⟩
      have h41 : sat g w39 [Cl b [iV x, iV y, uV z] 32, Sl 42 8 p m c (fl eRs L), R] := h40
      refine PO.mk ?_
      change WP _ _ (CA Try.f56 [1, 0, 1, 0, 0, 1, 1, 0, 0, 1, 1]) _ _ _
      refine fk_cut ([(0, .slice p m c), (1, .func (Fn.func 40) #[] #[pV b]), (5, iV (((k : Nat) : Int))), (7, iV (((m : Nat) : Int))), (8, iV (((k : Nat) : Int))), (16, .bool false)] : Fr) (by kernel_rfl) (fun a => WP _ _ _ _ a _) (fun lr42 => ?_)
      refine zCf (by kernel_rfl) ?_
      refine gi_skp (by kernel_rfl) ?_
      change WP _ _ (CA Try.f56 [1, 0, 1, 0, 0, 1, 1, 1]) _ _ _
      refine zPl [0, 1] (by kernel_rfl) ?_
      refine zBb [] [(8, iV (((k : Nat) : Int) + 1)), (18, iV (((k : Nat) : Int) + 1))] [⟨0, [], some (iV (((k : Nat) : Int) + 1))⟩, ⟨1, [], none⟩] [] [(iV (IntKind.wrap .i64 ((((k : Nat) : Int)) + 1)), iV (((k : Nat) : Int) + 1))] (by kernel_rfl) ⟨(ov_i64 (by omega) (by omega) (by omega)), trivial⟩ (AllC_nil _) ?_
      refine PO.mk ?_
      have h43 : sat g w39 [Sl 42 8 p m c (fl eRs L), Cl b [iV x, iV y, uV z] 32, R] := sat_sel [1, 0, 2] rfl h41
      change ∃ n', n' < _ ∧ _
      refine ⟨(m - (k + 1)), by omega, (k + 1), _, rfl, (by omega), (ridx_go hall_ hx15 (ne_trip (by omega))), (mk_live [(0, .slice p m c), (1, .func (Fn.func 40) #[] #[pV b]), (7, iV (((m : Nat) : Int))), (8, iV ((((k + 1) : Nat) : Int)))] ⟨rfl, rfl, rfl, (ov_int (by omega)), trivial⟩), h43⟩
  ·
    refine zBb [] [(9, .bool false)] [⟨0, [], some (.bool false)⟩] [] [(.bool (decide (((k : Nat) : Int) < ((m : Nat) : Int))), .bool false)] (by kernel_rfl) ⟨(ov_f (by omega)), trivial⟩ (AllC_nil _) ?_
    refine PO.mk ?_
    change WP _ _ (CA Try.f56 [1, 0, 1, 0, 0, 1]) _ _ _
    refine fk_cut ([(0, .slice p m c), (1, .func (Fn.func 40) #[] #[pV b]), (7, iV (((m : Nat) : Int))), (8, iV (((k : Nat) : Int))), (9, .bool false)] : Fr) (by kernel_rfl) (fun a => WP _ _ _ _ a _) (fun lr44 => ?_)
    refine zSq (by kernel_rfl) ?_
    refine zCf (by kernel_rfl) ?_
    refine gi_ext (id := 0) (by kernel_rfl) ?_
    change WP _ _ (CA Try.f56 [1, 1]) _ _ _
    refine zSq (by kernel_rfl) ?_
    refine zPl [0] (by kernel_rfl) ?_
    refine zB0 [] [0] [(4, iV (-1))] (by kernel_rfl) ?_
    refine PO.mk ?_
    change WP _ _ (CA Try.f56 [1, 1, 1]) _ _ _
    refine fk_cut ([(4, iV (-1))] : Fr) (by kernel_rfl) (fun a => WP _ _ _ _ a _) (fun lr45 => ?_)
    refine gi_rt (by kernel_rfl) ?_
    repeat (first | simp only [Exit.inBlock] | simp only [Exit.then])
    refine hi_out [] (iV (-1)) [] (by kernel_rfl) (by intro q hq; cases hq) ?_
    exact ⟨iV (-1), [Sl 42 8 p m c (fl eRs L), Cl b [iV x, iV y, uV z] 32], rfl, (.inr ⟨rfl, rall_idx (k := k) hall_ (by omega), rfl⟩), h8⟩

set_option maxHeartbeats 4000000 in
theorem r_has (p : Option Addr) (m c b : Nat) (L : List Rs) (x y z : Int) (hm : m ≤ 1000000) : HT Try.prog 39 [Value.slice p m c, Value.func (Fn.func 40) #[] #[Value.pointer (some ⟨b, 0, none⟩)]] [Sl 42 8 p m c (fl eRs L), Cl b [Value.int IntKind.i64 x, Value.int IntKind.i64 y, Value.int IntKind.u32 z] 32] (fun v K => (v = Value.bool true ∧ (∃ r ∈ L, r.out = (x, y, z)) ∧ K = [Sl 42 8 p m c (fl eRs L), Cl b [Value.int IntKind.i64 x, Value.int IntKind.i64 y, Value.int IntKind.u32 z] 32]) ∨ (v = Value.bool false ∧ (∀ r ∈ L, r.out ≠ (x, y, z)) ∧ K = [Sl 42 8 p m c (fl eRs L), Cl b [Value.int IntKind.i64 x, Value.int IntKind.i64 y, Value.int IntKind.u32 z] 32])) := by
  refine hi_in 9 ([(0, .slice p m c), (1, .func (Fn.func 40) #[] #[pV b])] : Fr) Try.func39 (by kernel_rfl) Try.ntmps39 rfl rfl ?_
  intro g w0 R h0
  change WP _ _ (CA Try.f39 []) _ _ _
  refine zSq (by kernel_rfl) ?_
  refine zPl [0] (by kernel_rfl) ?_
  refine zB0 [] [0] [(4, .bool false)] (by kernel_rfl) ?_
  refine PO.mk ?_
  change WP _ _ (CA Try.f39 [1]) _ _ _
  refine fk_cut ([(0, .slice p m c), (1, .func (Fn.func 40) #[] #[pV b])] : Fr) (by kernel_rfl) (fun a => WP _ _ _ _ a _) (fun lr1 => ?_)
  refine zSq (by kernel_rfl) ?_
  refine zPl [0, 1, 2, 3, 4] (by kernel_rfl) ?_
  refine zB0 [2, 3, 4] [0, 1] [(6, .func (Fn.func 40) #[] #[pV b]), (5, .slice p m c)] (by kernel_rfl) ?_
  refine plain_act (i := 2) (by kernel_rfl) ?_
  refine zCl 7 Try.call56 (r_index p m c b L x y z (by omega)) h0 (by kernel_rfl) ?_
  rintro v K w4 (⟨k2, rfl, hf3, rfl⟩ | ⟨rfl, hf3, rfl⟩) h5
  ·
    refine ⟨_, rfl, ?_⟩
    have h6 : sat g w4 [Sl 42 8 p m c (fl eRs L), Cl b [iV x, iV y, uV z] 32, R] := h5
    refine zBb [] [(4, .bool true), (8, .bool true)] [⟨3, [], some (.bool true)⟩, ⟨4, [], none⟩] [] [(.bool (decide (((k2 : Nat) : Int) ≥ 0)), .bool true)] (by kernel_rfl) ⟨(ov_t (by omega)), trivial⟩ (AllC_nil _) ?_
    refine PO.mk ?_
    change WP _ _ (CA Try.f39 [1, 1]) _ _ _
    refine fk_cut ([(4, .bool true)] : Fr) (by kernel_rfl) (fun a => WP _ _ _ _ a _) (fun lr7 => ?_)
    refine gi_rt (by kernel_rfl) ?_
    repeat (first | simp only [Exit.inBlock] | simp only [Exit.then])
    refine hi_out [] (.bool true) [] (by kernel_rfl) (by intro q hq; cases hq) ?_
    exact ⟨.bool true, [Sl 42 8 p m c (fl eRs L), Cl b [iV x, iV y, uV z] 32], rfl, (.inl ⟨rfl, hf3, rfl⟩), h6⟩
  ·
    refine ⟨_, rfl, ?_⟩
    have h8 : sat g w4 [Sl 42 8 p m c (fl eRs L), Cl b [iV x, iV y, uV z] 32, R] := h5
    refine zB0 [] [3, 4] [(4, .bool false), (8, .bool false)] (by kernel_rfl) ?_
    refine PO.mk ?_
    change WP _ _ (CA Try.f39 [1, 1]) _ _ _
    refine fk_cut ([(4, .bool false)] : Fr) (by kernel_rfl) (fun a => WP _ _ _ _ a _) (fun lr9 => ?_)
    refine gi_rt (by kernel_rfl) ?_
    repeat (first | simp only [Exit.inBlock] | simp only [Exit.then])
    refine hi_out [] (.bool false) [] (by kernel_rfl) (by intro q hq; cases hq) ?_
    exact ⟨.bool false, [Sl 42 8 p m c (fl eRs L), Cl b [iV x, iV y, uV z] 32], rfl, (.inr ⟨rfl, hf3, rfl⟩), h8⟩

theorem rhas_f (p : Option Addr) (m c b : Nat) (L : List Rs) (x y z : Int) (h : ∀ r ∈ L, r.out ≠ (x, y, z)) (hm : m ≤ 1000000) : HT Try.prog 39 [Value.slice p m c, Value.func (Fn.func 40) #[] #[Value.pointer (some ⟨b, 0, none⟩)]] [Sl 42 8 p m c (fl eRs L), Cl b [Value.int IntKind.i64 x, Value.int IntKind.i64 y, Value.int IntKind.u32 z] 32] (fun v K => v = Value.bool false ∧ K = [Sl 42 8 p m c (fl eRs L), Cl b [Value.int IntKind.i64 x, Value.int IntKind.i64 y, Value.int IntKind.u32 z] 32]) :=
  (r_has p m c b L x y z hm).mono fun v K hP => by
    rcases hP with ⟨hv, h1, hK⟩ | ⟨hv, h1, hK⟩
    · obtain ⟨e, he, h1⟩ := h1; exact absurd h1 (h e he)
    · exact ⟨hv, hK⟩

end Go.Proofs.Ytjjpmehiolejgaa
