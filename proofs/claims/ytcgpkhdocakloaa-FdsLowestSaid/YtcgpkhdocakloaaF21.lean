/- Walks, printed by my generator gen21.py. -/
import Derived.Test.YtcgpkhdocakloaaF18
import Derived.Test.YtcgpkhdocakloaaFdsT
namespace Go.Proofs.Ytcgpkhdocakloaa

set_option maxHeartbeats 4000000 in
theorem low1_t (b : Nat) (x y z u : Int) (h : y = u) : HT Try.prog 30 [Value.agg #[Value.int IntKind.i64 x, Value.int IntKind.i64 y, Value.int IntKind.u32 z], Value.pointer (some ⟨b, 0, none⟩)] [Cl b [Value.int IntKind.i64 u] 3] (fun v K => v = Value.bool true ∧ K = [Cl b [Value.int IntKind.i64 u] 3]) := by
  refine hi_in 8 ([(0, .agg #[.int .i64 x, .int .i64 y, .int .u32 z]), (1, .pointer (some ⟨b, 0, none⟩))] : Fr) Try.func30 (by kernel_rfl) Try.ntmps30 rfl rfl ?_
  intro g w0 R h0
  refine gi_seq (x := CA Try.f30 [0]) (y := CA Try.f30 [1]) (by kernel_rfl) ?_
  refine gi_pln (id := 0) (ops := RA Try.f30 [0]) [0, 1] (by kernel_rfl) (by kernel_rfl) (by kernel_rfl) ?_
  refine plain_act (i := 0) (by kernel_rfl) ?_
  refine an_new (d := 2) (fun xb_ => .pointer (some ⟨xb_, 0, none⟩)) (fun xb_ => Obj.cells [.int .i64 x, .int .i64 y, .int .u32 z].toArray 28 (0, 0)) (fun xb_ => by kernel_rfl) (by kernel_rfl) rfl h0 ?_
  intro r1 w2 (h3 : sat g w2 [Cl r1 [.int .i64 x, .int .i64 y, .int .u32 z] 28, Cl b [.int .i64 u] 3, R])
  refine plain_batch (rest := []) [⟨1, [], none⟩] (l' := ([(3, .bool false), (2, .pointer (some ⟨r1, 0, none⟩)), (0, .agg #[.int .i64 x, .int .i64 y, .int .u32 z]), (1, .pointer (some ⟨b, 0, none⟩))] : Fr)) (pts' := []) (eqs := []) (by kernel_rfl) trivial (AllC_nil _) ?_
  refine PO.mk ?_
  change WP _ _ (CA Try.f30 [1]) _ _ _
  refine fk_cut ([(0, .agg #[.int .i64 x, .int .i64 y, .int .u32 z]), (1, .pointer (some ⟨b, 0, none⟩)), (2, .pointer (some ⟨r1, 0, none⟩)), (3, .bool false)] : Fr) (by kernel_rfl) (fun a => WP _ _ _ _ a _) (fun lr4 => ?_)
  refine gi_seq (x := CA Try.f30 [1, 0]) (y := CA Try.f30 [1, 1]) (by kernel_rfl) ?_
  refine gi_pln (id := 1) (ops := RA Try.f30 [1, 0]) [0, 1, 2, 3, 4] (by kernel_rfl) (by kernel_rfl) (by kernel_rfl) ?_
  refine plain_batch (rest := []) [⟨0, [], none⟩, ⟨1, [.int .i64 y], none⟩, ⟨2, [.int .i64 u], none⟩, ⟨3, [], some (.bool true)⟩, ⟨4, [], none⟩] (l' := ([(3, .bool true), (7, .bool true), (6, .int .i64 u), (5, .int .i64 y), (4, .pointer (some ⟨r1, 1, none⟩)), (0, .agg #[.int .i64 x, .int .i64 y, .int .u32 z]), (1, .pointer (some ⟨b, 0, none⟩)), (2, .pointer (some ⟨r1, 0, none⟩)), (3, .bool false)] : Fr) ++ lr4) (pts' := [(2, ⟨b, 0, none⟩, .int .i64 u), (1, ⟨r1, 1, none⟩, .int .i64 y)]) (eqs := [(.bool (y == u), .bool true)]) (by kernel_rfl) ⟨(ov_et (by omega)), trivial⟩ (AllC_cons (sat_cell h3 1 rfl rfl) (AllC_cons (sat_cell h3 0 rfl rfl) (AllC_nil _))) ?_
  refine PO.mk ?_
  change WP _ _ (CA Try.f30 [1, 1]) _ _ _
  refine fk_cut ([(0, .agg #[.int .i64 x, .int .i64 y, .int .u32 z]), (1, .pointer (some ⟨b, 0, none⟩)), (2, .pointer (some ⟨r1, 0, none⟩)), (3, .bool true)] : Fr) (by kernel_rfl) (fun a => WP _ _ _ _ a _) (fun lr5 => ?_)
  refine gi_rt (by kernel_rfl) ?_
  repeat (first | simp only [Exit.inBlock] | simp only [Exit.then])
  have h6 : sat g w2 [Cl b [.int .i64 u] 3, Cl r1 [.int .i64 x, .int .i64 y, .int .u32 z] 28, R] := sat_sel [1, 0, 2] rfl h3
  have h7 : sat g w2 [Cl b [.int .i64 u] 3, R] := sat_sel [0, 2] rfl h6
  refine hi_out [] (.bool true) [] (by kernel_rfl) (by intro q hq; cases hq) ?_
  exact ⟨.bool true, [Cl b [.int .i64 u] 3], rfl, ⟨rfl, rfl⟩, h7⟩

set_option maxHeartbeats 4000000 in
theorem low1_f (b : Nat) (x y z u : Int) (h : ¬ y = u) : HT Try.prog 30 [Value.agg #[Value.int IntKind.i64 x, Value.int IntKind.i64 y, Value.int IntKind.u32 z], Value.pointer (some ⟨b, 0, none⟩)] [Cl b [Value.int IntKind.i64 u] 3] (fun v K => v = Value.bool false ∧ K = [Cl b [Value.int IntKind.i64 u] 3]) := by
  refine hi_in 8 ([(0, .agg #[.int .i64 x, .int .i64 y, .int .u32 z]), (1, .pointer (some ⟨b, 0, none⟩))] : Fr) Try.func30 (by kernel_rfl) Try.ntmps30 rfl rfl ?_
  intro g w0 R h0
  refine gi_seq (x := CA Try.f30 [0]) (y := CA Try.f30 [1]) (by kernel_rfl) ?_
  refine gi_pln (id := 0) (ops := RA Try.f30 [0]) [0, 1] (by kernel_rfl) (by kernel_rfl) (by kernel_rfl) ?_
  refine plain_act (i := 0) (by kernel_rfl) ?_
  refine an_new (d := 2) (fun xb_ => .pointer (some ⟨xb_, 0, none⟩)) (fun xb_ => Obj.cells [.int .i64 x, .int .i64 y, .int .u32 z].toArray 28 (0, 0)) (fun xb_ => by kernel_rfl) (by kernel_rfl) rfl h0 ?_
  intro r1 w2 (h3 : sat g w2 [Cl r1 [.int .i64 x, .int .i64 y, .int .u32 z] 28, Cl b [.int .i64 u] 3, R])
  refine plain_batch (rest := []) [⟨1, [], none⟩] (l' := ([(3, .bool false), (2, .pointer (some ⟨r1, 0, none⟩)), (0, .agg #[.int .i64 x, .int .i64 y, .int .u32 z]), (1, .pointer (some ⟨b, 0, none⟩))] : Fr)) (pts' := []) (eqs := []) (by kernel_rfl) trivial (AllC_nil _) ?_
  refine PO.mk ?_
  change WP _ _ (CA Try.f30 [1]) _ _ _
  refine fk_cut ([(0, .agg #[.int .i64 x, .int .i64 y, .int .u32 z]), (1, .pointer (some ⟨b, 0, none⟩)), (2, .pointer (some ⟨r1, 0, none⟩)), (3, .bool false)] : Fr) (by kernel_rfl) (fun a => WP _ _ _ _ a _) (fun lr4 => ?_)
  refine gi_seq (x := CA Try.f30 [1, 0]) (y := CA Try.f30 [1, 1]) (by kernel_rfl) ?_
  refine gi_pln (id := 1) (ops := RA Try.f30 [1, 0]) [0, 1, 2, 3, 4] (by kernel_rfl) (by kernel_rfl) (by kernel_rfl) ?_
  refine plain_batch (rest := []) [⟨0, [], none⟩, ⟨1, [.int .i64 y], none⟩, ⟨2, [.int .i64 u], none⟩, ⟨3, [], some (.bool false)⟩, ⟨4, [], none⟩] (l' := ([(3, .bool false), (7, .bool false), (6, .int .i64 u), (5, .int .i64 y), (4, .pointer (some ⟨r1, 1, none⟩)), (0, .agg #[.int .i64 x, .int .i64 y, .int .u32 z]), (1, .pointer (some ⟨b, 0, none⟩)), (2, .pointer (some ⟨r1, 0, none⟩)), (3, .bool false)] : Fr) ++ lr4) (pts' := [(2, ⟨b, 0, none⟩, .int .i64 u), (1, ⟨r1, 1, none⟩, .int .i64 y)]) (eqs := [(.bool (y == u), .bool false)]) (by kernel_rfl) ⟨(ov_ef (by omega)), trivial⟩ (AllC_cons (sat_cell h3 1 rfl rfl) (AllC_cons (sat_cell h3 0 rfl rfl) (AllC_nil _))) ?_
  refine PO.mk ?_
  change WP _ _ (CA Try.f30 [1, 1]) _ _ _
  refine fk_cut ([(0, .agg #[.int .i64 x, .int .i64 y, .int .u32 z]), (1, .pointer (some ⟨b, 0, none⟩)), (2, .pointer (some ⟨r1, 0, none⟩)), (3, .bool false)] : Fr) (by kernel_rfl) (fun a => WP _ _ _ _ a _) (fun lr5 => ?_)
  refine gi_rt (by kernel_rfl) ?_
  repeat (first | simp only [Exit.inBlock] | simp only [Exit.then])
  have h6 : sat g w2 [Cl b [.int .i64 u] 3, Cl r1 [.int .i64 x, .int .i64 y, .int .u32 z] 28, R] := sat_sel [1, 0, 2] rfl h3
  have h7 : sat g w2 [Cl b [.int .i64 u] 3, R] := sat_sel [0, 2] rfl h6
  refine hi_out [] (.bool false) [] (by kernel_rfl) (by intro q hq; cases hq) ?_
  exact ⟨.bool false, [Cl b [.int .i64 u] 3], rfl, ⟨rfl, rfl⟩, h7⟩

set_option maxHeartbeats 4000000 in
theorem low_index (p : Option Addr) (n c b : Nat) (L : List Ky) (u : Int) (hn : n ≤ 1000000) : HT Try.prog 48 [Value.slice p n c, Value.func (Fn.func 30) #[] #[Value.pointer (some ⟨b, 0, none⟩)]] [Sl 28 3 p n c (fl eO L), Cl b [Value.int IntKind.i64 u] 3] (fun v K => (∃ k : Nat, v = Value.int .i64 (k : Int) ∧ (∃ o ∈ L, o.2.1 = u) ∧ K = [Sl 28 3 p n c (fl eO L), Cl b [Value.int IntKind.i64 u] 3]) ∨ (v = Value.int .i64 (-1) ∧ (∀ o ∈ L, o.2.1 ≠ u) ∧ K = [Sl 28 3 p n c (fl eO L), Cl b [Value.int IntKind.i64 u] 3])) := by
  refine hi_in 19 ([(0, .slice p n c), (1, .func (Fn.func 30) #[] #[.pointer (some ⟨b, 0, none⟩)])] : Fr) Try.func48 (by kernel_rfl) Try.ntmps48 rfl rfl ?_
  intro g w0 R h0
  refine gi_seq (x := CA Try.f48 [0]) (y := CA Try.f48 [1]) (by kernel_rfl) ?_
  refine gi_pln (id := 0) (ops := RA Try.f48 [0]) [0] (by kernel_rfl) (by kernel_rfl) (by kernel_rfl) ?_
  refine plain_batch (rest := []) [⟨0, [], none⟩] (l' := ([(4, .int .i64 0), (0, .slice p n c), (1, .func (Fn.func 30) #[] #[.pointer (some ⟨b, 0, none⟩)])] : Fr)) (pts' := []) (eqs := []) (by kernel_rfl) trivial (AllC_nil _) ?_
  refine PO.mk ?_
  change WP _ _ (CA Try.f48 [1]) _ _ _
  refine fk_cut ([(0, .slice p n c), (1, .func (Fn.func 30) #[] #[.pointer (some ⟨b, 0, none⟩)]), (4, .int .i64 0)] : Fr) (by kernel_rfl) (fun a => WP _ _ _ _ a _) (fun lr1 => ?_)
  refine gi_seq (x := CA Try.f48 [1, 0]) (y := CA Try.f48 [1, 1]) (by kernel_rfl) ?_
  refine gi_seq (x := CA Try.f48 [1, 0, 0]) (y := CA Try.f48 [1, 0, 1]) (by kernel_rfl) ?_
  refine gi_pln (id := 1) (ops := RA Try.f48 [1, 0, 0]) [0, 1, 2] (by kernel_rfl) (by kernel_rfl) (by kernel_rfl) ?_
  refine plain_batch (rest := []) [⟨0, [], none⟩, ⟨1, [], none⟩, ⟨2, [], none⟩] (l' := ([(8, .int .i64 0), (7, .int .i64 (((n : Nat) : Int))), (6, .slice p n c), (0, .slice p n c), (1, .func (Fn.func 30) #[] #[.pointer (some ⟨b, 0, none⟩)]), (4, .int .i64 0)] : Fr) ++ lr1) (pts' := []) (eqs := []) (by kernel_rfl) trivial (AllC_nil _) ?_
  refine PO.mk ?_
  change WP _ _ (CA Try.f48 [1, 0, 1]) _ _ _
  refine fk_cut ([(0, .slice p n c), (1, .func (Fn.func 30) #[] #[.pointer (some ⟨b, 0, none⟩)]), (4, .int .i64 0), (7, .int .i64 (((n : Nat) : Int))), (8, .int .i64 0)] : Fr) (by kernel_rfl) (fun a => WP _ _ _ _ a _) (fun lr2 => ?_)
  refine gi_blk (id := 0) (x := CA Try.f48 [1, 0, 1, 0]) (by kernel_rfl) ?_
  have hl3 := fl_n eO_ok (by decide) h0
  refine gi_lp (x := CA Try.f48 [1, 0, 1, 0, 0]) (by kernel_rfl) (fun mz_ a w => ∃ k : Nat, ∃ lr : Fr, mz_ = n - k ∧ (k ≤ n) ∧ (∀ (j : Nat) (o : Ky), j < k → L[j]? = some o → o.2.1 ≠ u) ∧ a = mk 19 (([(0, .slice p n c), (1, .func (Fn.func 30) #[] #[.pointer (some ⟨b, 0, none⟩)]), (7, .int .i64 (((n : Nat) : Int))), (8, .int .i64 (((k : Nat) : Int)))] : Fr) ++ lr) ∧ sat g w [Sl 28 3 p n c (fl eO L), Cl b [.int .i64 u] 3, R]) (n - 0) ⟨0, _, rfl, (Nat.zero_le _), (fun j o h _ => absurd h (Nat.not_lt_zero _)), (mk_live [(0, .slice p n c), (1, .func (Fn.func 30) #[] #[.pointer (some ⟨b, 0, none⟩)]), (7, .int .i64 (((n : Nat) : Int))), (8, .int .i64 (((0 : Nat) : Int)))] ⟨rfl, rfl, rfl, (ov_int (by omega)), trivial⟩), h0⟩ ?_
  rintro m5 a6 w7 ⟨k, lr4, rfl, hk, hall_, rfl, h8⟩
  change WP _ _ (CA Try.f48 [1, 0, 1, 0, 0]) _ _ _
  refine gi_seq (x := CA Try.f48 [1, 0, 1, 0, 0, 0]) (y := CA Try.f48 [1, 0, 1, 0, 0, 1]) (by kernel_rfl) ?_
  refine gi_pln (id := 2) (ops := RA Try.f48 [1, 0, 1, 0, 0, 0]) [0] (by kernel_rfl) (by kernel_rfl) (by kernel_rfl) ?_
  by_cases c9 : ((k : Nat) : Int) < ((n : Nat) : Int)
  ·
    refine plain_batch (rest := []) [⟨0, [], some (.bool true)⟩] (l' := ([(9, .bool true), (0, .slice p n c), (1, .func (Fn.func 30) #[] #[.pointer (some ⟨b, 0, none⟩)]), (7, .int .i64 (((n : Nat) : Int))), (8, .int .i64 (((k : Nat) : Int)))] : Fr) ++ lr4) (pts' := []) (eqs := [(.bool (decide (((k : Nat) : Int) < ((n : Nat) : Int))), .bool true)]) (by kernel_rfl) ⟨(ov_t (by omega)), trivial⟩ (AllC_nil _) ?_
    refine PO.mk ?_
    change WP _ _ (CA Try.f48 [1, 0, 1, 0, 0, 1]) _ _ _
    refine fk_cut ([(0, .slice p n c), (1, .func (Fn.func 30) #[] #[.pointer (some ⟨b, 0, none⟩)]), (7, .int .i64 (((n : Nat) : Int))), (8, .int .i64 (((k : Nat) : Int))), (9, .bool true)] : Fr) (by kernel_rfl) (fun a => WP _ _ _ _ a _) (fun lr10 => ?_)
    refine gi_seq (x := CA Try.f48 [1, 0, 1, 0, 0, 1, 0]) (y := CA Try.f48 [1, 0, 1, 0, 0, 1, 1]) (by kernel_rfl) ?_
    refine gi_cnd (x := (Operand.tmp 9)) (s := CA Try.f48 [1, 0, 1, 0, 0, 1, 0, 0]) (t := CA Try.f48 [1, 0, 1, 0, 0, 1, 0, 1]) true (by kernel_rfl) (by kernel_rfl) ?_
    change WP _ _ (CA Try.f48 [1, 0, 1, 0, 0, 1, 0, 0]) _ _ _
    refine gi_skp (by kernel_rfl) ?_
    change WP _ _ (CA Try.f48 [1, 0, 1, 0, 0, 1, 1]) _ _ _
    refine gi_seq (x := CA Try.f48 [1, 0, 1, 0, 0, 1, 1, 0]) (y := CA Try.f48 [1, 0, 1, 0, 0, 1, 1, 1]) (by kernel_rfl) ?_
    refine gi_blk (id := 1) (x := CA Try.f48 [1, 0, 1, 0, 0, 1, 1, 0, 0]) (by kernel_rfl) ?_
    refine gi_seq (x := CA Try.f48 [1, 0, 1, 0, 0, 1, 1, 0, 0, 0]) (y := CA Try.f48 [1, 0, 1, 0, 0, 1, 1, 0, 0, 1]) (by kernel_rfl) ?_
    refine gi_pln (id := 3) (ops := RA Try.f48 [1, 0, 1, 0, 0, 1, 1, 0, 0, 0]) [0, 1] (by kernel_rfl) (by kernel_rfl) (by kernel_rfl) ?_
    refine plain_batch (rest := []) [⟨0, [], none⟩, ⟨1, [], none⟩] (l' := ([(5, .int .i64 (((k : Nat) : Int))), (10, .int .i64 (((k : Nat) : Int))), (0, .slice p n c), (1, .func (Fn.func 30) #[] #[.pointer (some ⟨b, 0, none⟩)]), (7, .int .i64 (((n : Nat) : Int))), (8, .int .i64 (((k : Nat) : Int))), (9, .bool true)] : Fr) ++ lr10) (pts' := []) (eqs := []) (by kernel_rfl) trivial (AllC_nil _) ?_
    refine PO.mk ?_
    change WP _ _ (CA Try.f48 [1, 0, 1, 0, 0, 1, 1, 0, 0, 1]) _ _ _
    refine fk_cut ([(0, .slice p n c), (1, .func (Fn.func 30) #[] #[.pointer (some ⟨b, 0, none⟩)]), (5, .int .i64 (((k : Nat) : Int))), (7, .int .i64 (((n : Nat) : Int))), (8, .int .i64 (((k : Nat) : Int))), (9, .bool true)] : Fr) (by kernel_rfl) (fun a => WP _ _ _ _ a _) (fun lr11 => ?_)
    refine gi_seq (x := CA Try.f48 [1, 0, 1, 0, 0, 1, 1, 0, 0, 1, 0]) (y := CA Try.f48 [1, 0, 1, 0, 0, 1, 1, 0, 0, 1, 1]) (by kernel_rfl) ?_
    refine gi_pln (id := 4) (ops := RA Try.f48 [1, 0, 1, 0, 0, 1, 1, 0, 0, 1, 0]) [0, 1, 2, 3, 4, 5] (by kernel_rfl) (by kernel_rfl) (by kernel_rfl) ?_
    obtain ⟨b12, hp13⟩ := sl_ptr0 (j := 0) h8 rfl (by omega)
    refine plain_batch (rest := [3, 4, 5]) [⟨0, [], none⟩, ⟨1, [], none⟩, ⟨2, [], none⟩] (l' := ([(13, .int .i64 (((k : Nat) : Int))), (12, .slice p n c), (11, .func (Fn.func 30) #[] #[.pointer (some ⟨b, 0, none⟩)]), (0, .slice p n c), (1, .func (Fn.func 30) #[] #[.pointer (some ⟨b, 0, none⟩)]), (5, .int .i64 (((k : Nat) : Int))), (7, .int .i64 (((n : Nat) : Int))), (8, .int .i64 (((k : Nat) : Int))), (9, .bool true)] : Fr) ++ lr11) (pts' := []) (eqs := []) (by kernel_rfl) trivial (AllC_nil _) ?_
    refine plain_law (i := 3) 14 (.pointer (some ⟨b12, k * 3, none⟩)) (by kernel_rfl) (law_indexSlP (o := opA (RA Try.f48 [1, 0, 1, 0, 0, 1, 1, 0, 0, 1, 0]) 3) (x := (Operand.tmp 12)) (i := (Operand.tmp 13)) (p := p) (b := b12) (off := 0) (z := (((k : Nat) : Int))) (len := n) (cap := c) (by kernel_rfl) Try.underlying42 3 (by kernel_rfl) k (by kernel_rfl) hp13 (by kernel_rfl) (by omega) (by omega) (k * 3) (by omega) _) ?_
    obtain ⟨x14, hx15⟩ : ∃ x, L[k]? = some x := ⟨_, List.getElem?_eq_getElem (by rw [hl3]; omega)⟩
    refine plain_batch (rest := [5]) [⟨4, [.int .i64 x14.1, .int .i64 x14.2.1, .int .u32 x14.2.2], none⟩] (l' := ([(15, .agg #[.int .i64 x14.1, .int .i64 x14.2.1, .int .u32 x14.2.2]), (14, .pointer (some ⟨b12, k * 3, none⟩)), (13, .int .i64 (((k : Nat) : Int))), (12, .slice p n c), (11, .func (Fn.func 30) #[] #[.pointer (some ⟨b, 0, none⟩)]), (0, .slice p n c), (1, .func (Fn.func 30) #[] #[.pointer (some ⟨b, 0, none⟩)]), (5, .int .i64 (((k : Nat) : Int))), (7, .int .i64 (((n : Nat) : Int))), (8, .int .i64 (((k : Nat) : Int))), (9, .bool true)] : Fr) ++ lr11) (pts' := [(4, ⟨b12, k * 3, none⟩, .int .i64 x14.1), (4, ⟨b12, k * 3 + 1, none⟩, .int .i64 x14.2.1), (4, ⟨b12, k * 3 + 2, none⟩, .int .u32 x14.2.2)]) (eqs := []) (by kernel_rfl) trivial (AllC_cons (gv_cell (j := 0) h8 rfl (gv_sl _ _ _) hp13 (fl_get eO_ok (j := 0) (v := .int .i64 x14.1) hx15 rfl) (k * 3) (by omega)) (AllC_cons (gv_cell (j := 0) h8 rfl (gv_sl _ _ _) hp13 (fl_get eO_ok (j := 1) (v := .int .i64 x14.2.1) hx15 rfl) (k * 3 + 1) (by omega)) (AllC_cons (gv_cell (j := 0) h8 rfl (gv_sl _ _ _) hp13 (fl_get eO_ok (j := 2) (v := .int .u32 x14.2.2) hx15 rfl) (k * 3 + 2) (by omega)) (AllC_nil _)))) ?_
    by_cases c16 : x14.2.1 = u
    ·
      have h17 : sat g w7 [Cl b [.int .i64 u] 3, Sl 28 3 p n c (fl eO L), R] := sat_sel [1, 0, 2] rfl h8
      refine plain_act (i := 5) (by kernel_rfl) ?_
      refine an_call (d := some 16) (f := 30) (args := [.agg #[.int .i64 x14.1, .int .i64 x14.2.1, .int .u32 x14.2.2], .pointer (some ⟨b, 0, none⟩)]) (by kernel_rfl) Try.call30 (low1_t b x14.1 x14.2.1 x14.2.2 u (by omega)) (F := [Sl 28 3 p n c (fl eO L), R]) h17 ?_
      rintro v K w18 (⟨rfl, rfl⟩) h19
      refine ⟨_, rfl, ?_⟩
      have h20 : sat g w18 [Cl b [.int .i64 u] 3, Sl 28 3 p n c (fl eO L), R] := h19
      refine PO.mk ?_
      change WP _ _ (CA Try.f48 [1, 0, 1, 0, 0, 1, 1, 0, 0, 1, 1]) _ _ _
      refine fk_cut ([(0, .slice p n c), (1, .func (Fn.func 30) #[] #[.pointer (some ⟨b, 0, none⟩)]), (5, .int .i64 (((k : Nat) : Int))), (7, .int .i64 (((n : Nat) : Int))), (8, .int .i64 (((k : Nat) : Int))), (9, .bool true), (16, .bool true)] : Fr) (by kernel_rfl) (fun a => WP _ _ _ _ a _) (fun lr21 => ?_)
      refine gi_cnd (x := (Operand.tmp 16)) (s := CA Try.f48 [1, 0, 1, 0, 0, 1, 1, 0, 0, 1, 1, 0]) (t := CA Try.f48 [1, 0, 1, 0, 0, 1, 1, 0, 0, 1, 1, 1]) true (by kernel_rfl) (by kernel_rfl) ?_
      change WP _ _ (CA Try.f48 [1, 0, 1, 0, 0, 1, 1, 0, 0, 1, 1, 0]) _ _ _
      refine gi_seq (x := CA Try.f48 [1, 0, 1, 0, 0, 1, 1, 0, 0, 1, 1, 0, 0]) (y := CA Try.f48 [1, 0, 1, 0, 0, 1, 1, 0, 0, 1, 1, 0, 1]) (by kernel_rfl) ?_
      refine gi_pln (id := 5) (ops := RA Try.f48 [1, 0, 1, 0, 0, 1, 1, 0, 0, 1, 1, 0, 0]) [0, 1] (by kernel_rfl) (by kernel_rfl) (by kernel_rfl) ?_
      refine plain_batch (rest := []) [⟨0, [], none⟩, ⟨1, [], none⟩] (l' := ([(4, .int .i64 (((k : Nat) : Int))), (17, .int .i64 (((k : Nat) : Int))), (0, .slice p n c), (1, .func (Fn.func 30) #[] #[.pointer (some ⟨b, 0, none⟩)]), (5, .int .i64 (((k : Nat) : Int))), (7, .int .i64 (((n : Nat) : Int))), (8, .int .i64 (((k : Nat) : Int))), (9, .bool true), (16, .bool true)] : Fr) ++ lr21) (pts' := []) (eqs := []) (by kernel_rfl) trivial (AllC_nil _) ?_
      refine PO.mk ?_
      change WP _ _ (CA Try.f48 [1, 0, 1, 0, 0, 1, 1, 0, 0, 1, 1, 0, 1]) _ _ _
      refine fk_cut ([(0, .slice p n c), (1, .func (Fn.func 30) #[] #[.pointer (some ⟨b, 0, none⟩)]), (4, .int .i64 (((k : Nat) : Int))), (5, .int .i64 (((k : Nat) : Int))), (7, .int .i64 (((n : Nat) : Int))), (8, .int .i64 (((k : Nat) : Int))), (9, .bool true), (16, .bool true)] : Fr) (by kernel_rfl) (fun a => WP _ _ _ _ a _) (fun lr22 => ?_)
      refine gi_rt (by kernel_rfl) ?_
      repeat (first | simp only [Exit.inBlock] | simp only [Exit.then])
      have h23 : sat g w18 [Sl 28 3 p n c (fl eO L), Cl b [.int .i64 u] 3, R] := sat_sel [1, 0, 2] rfl h20
      refine hi_out [] (.int .i64 (((k : Nat) : Int))) [] (by kernel_rfl) (by intro q hq; cases hq) ?_
      exact ⟨.int .i64 (((k : Nat) : Int)), [Sl 28 3 p n c (fl eO L), Cl b [.int .i64 u] 3], rfl, (.inl ⟨k, rfl, ⟨x14, List.mem_of_getElem? hx15, by omega⟩, rfl⟩), h23⟩
    ·
      have h24 : sat g w7 [Cl b [.int .i64 u] 3, Sl 28 3 p n c (fl eO L), R] := sat_sel [1, 0, 2] rfl h8
      refine plain_act (i := 5) (by kernel_rfl) ?_
      refine an_call (d := some 16) (f := 30) (args := [.agg #[.int .i64 x14.1, .int .i64 x14.2.1, .int .u32 x14.2.2], .pointer (some ⟨b, 0, none⟩)]) (by kernel_rfl) Try.call30 (low1_f b x14.1 x14.2.1 x14.2.2 u (by omega)) (F := [Sl 28 3 p n c (fl eO L), R]) h24 ?_
      rintro v K w25 (⟨rfl, rfl⟩) h26
      refine ⟨_, rfl, ?_⟩
      have h27 : sat g w25 [Cl b [.int .i64 u] 3, Sl 28 3 p n c (fl eO L), R] := h26
      refine PO.mk ?_
      change WP _ _ (CA Try.f48 [1, 0, 1, 0, 0, 1, 1, 0, 0, 1, 1]) _ _ _
      refine fk_cut ([(0, .slice p n c), (1, .func (Fn.func 30) #[] #[.pointer (some ⟨b, 0, none⟩)]), (5, .int .i64 (((k : Nat) : Int))), (7, .int .i64 (((n : Nat) : Int))), (8, .int .i64 (((k : Nat) : Int))), (9, .bool true), (16, .bool false)] : Fr) (by kernel_rfl) (fun a => WP _ _ _ _ a _) (fun lr28 => ?_)
      refine gi_cnd (x := (Operand.tmp 16)) (s := CA Try.f48 [1, 0, 1, 0, 0, 1, 1, 0, 0, 1, 1, 0]) (t := CA Try.f48 [1, 0, 1, 0, 0, 1, 1, 0, 0, 1, 1, 1]) false (by kernel_rfl) (by kernel_rfl) ?_
      change WP _ _ (CA Try.f48 [1, 0, 1, 0, 0, 1, 1, 0, 0, 1, 1, 1]) _ _ _
      refine gi_skp (by kernel_rfl) ?_
      change WP _ _ (CA Try.f48 [1, 0, 1, 0, 0, 1, 1, 1]) _ _ _
      refine gi_pln (id := 6) (ops := RA Try.f48 [1, 0, 1, 0, 0, 1, 1, 1]) [0, 1] (by kernel_rfl) (by kernel_rfl) (by kernel_rfl) ?_
      refine plain_batch (rest := []) [⟨0, [], some (.int .i64 (((k : Nat) : Int) + 1))⟩, ⟨1, [], none⟩] (l' := ([(8, .int .i64 (((k : Nat) : Int) + 1)), (18, .int .i64 (((k : Nat) : Int) + 1)), (0, .slice p n c), (1, .func (Fn.func 30) #[] #[.pointer (some ⟨b, 0, none⟩)]), (5, .int .i64 (((k : Nat) : Int))), (7, .int .i64 (((n : Nat) : Int))), (8, .int .i64 (((k : Nat) : Int))), (9, .bool true), (16, .bool false)] : Fr) ++ lr28) (pts' := []) (eqs := [(.int .i64 (IntKind.wrap .i64 ((((k : Nat) : Int)) + 1)), .int .i64 (((k : Nat) : Int) + 1))]) (by kernel_rfl) ⟨(ov_i64 (by omega) (by omega) (by omega)), trivial⟩ (AllC_nil _) ?_
      refine PO.mk ?_
      have h29 : sat g w25 [Sl 28 3 p n c (fl eO L), Cl b [.int .i64 u] 3, R] := sat_sel [1, 0, 2] rfl h27
      change ∃ n', n' < _ ∧ _
      refine ⟨(n - (k + 1)), by omega, (k + 1), _, rfl, (by omega), (idx_go hall_ hx15 (by show ¬ (_ = u); omega)), (mk_live [(0, .slice p n c), (1, .func (Fn.func 30) #[] #[.pointer (some ⟨b, 0, none⟩)]), (7, .int .i64 (((n : Nat) : Int))), (8, .int .i64 ((((k + 1) : Nat) : Int)))] ⟨rfl, rfl, rfl, (ov_int (by omega)), trivial⟩), h29⟩
  ·
    refine plain_batch (rest := []) [⟨0, [], some (.bool false)⟩] (l' := ([(9, .bool false), (0, .slice p n c), (1, .func (Fn.func 30) #[] #[.pointer (some ⟨b, 0, none⟩)]), (7, .int .i64 (((n : Nat) : Int))), (8, .int .i64 (((k : Nat) : Int)))] : Fr) ++ lr4) (pts' := []) (eqs := [(.bool (decide (((k : Nat) : Int) < ((n : Nat) : Int))), .bool false)]) (by kernel_rfl) ⟨(ov_f (by omega)), trivial⟩ (AllC_nil _) ?_
    refine PO.mk ?_
    change WP _ _ (CA Try.f48 [1, 0, 1, 0, 0, 1]) _ _ _
    refine fk_cut ([(0, .slice p n c), (1, .func (Fn.func 30) #[] #[.pointer (some ⟨b, 0, none⟩)]), (7, .int .i64 (((n : Nat) : Int))), (8, .int .i64 (((k : Nat) : Int))), (9, .bool false)] : Fr) (by kernel_rfl) (fun a => WP _ _ _ _ a _) (fun lr30 => ?_)
    refine gi_seq (x := CA Try.f48 [1, 0, 1, 0, 0, 1, 0]) (y := CA Try.f48 [1, 0, 1, 0, 0, 1, 1]) (by kernel_rfl) ?_
    refine gi_cnd (x := (Operand.tmp 9)) (s := CA Try.f48 [1, 0, 1, 0, 0, 1, 0, 0]) (t := CA Try.f48 [1, 0, 1, 0, 0, 1, 0, 1]) false (by kernel_rfl) (by kernel_rfl) ?_
    change WP _ _ (CA Try.f48 [1, 0, 1, 0, 0, 1, 0, 1]) _ _ _
    refine gi_ext (id := 0) (by kernel_rfl) ?_
    change WP _ _ (CA Try.f48 [1, 1]) _ _ _
    refine gi_seq (x := CA Try.f48 [1, 1, 0]) (y := CA Try.f48 [1, 1, 1]) (by kernel_rfl) ?_
    refine gi_pln (id := 7) (ops := RA Try.f48 [1, 1, 0]) [0] (by kernel_rfl) (by kernel_rfl) (by kernel_rfl) ?_
    refine plain_batch (rest := []) [⟨0, [], none⟩] (l' := ([(4, .int .i64 (-1)), (0, .slice p n c), (1, .func (Fn.func 30) #[] #[.pointer (some ⟨b, 0, none⟩)]), (7, .int .i64 (((n : Nat) : Int))), (8, .int .i64 (((k : Nat) : Int))), (9, .bool false)] : Fr) ++ lr30) (pts' := []) (eqs := []) (by kernel_rfl) trivial (AllC_nil _) ?_
    refine PO.mk ?_
    change WP _ _ (CA Try.f48 [1, 1, 1]) _ _ _
    refine fk_cut ([(0, .slice p n c), (1, .func (Fn.func 30) #[] #[.pointer (some ⟨b, 0, none⟩)]), (4, .int .i64 (-1)), (7, .int .i64 (((n : Nat) : Int))), (8, .int .i64 (((k : Nat) : Int))), (9, .bool false)] : Fr) (by kernel_rfl) (fun a => WP _ _ _ _ a _) (fun lr31 => ?_)
    refine gi_rt (by kernel_rfl) ?_
    repeat (first | simp only [Exit.inBlock] | simp only [Exit.then])
    refine hi_out [] (.int .i64 (-1)) [] (by kernel_rfl) (by intro q hq; cases hq) ?_
    exact ⟨.int .i64 (-1), [Sl 28 3 p n c (fl eO L), Cl b [.int .i64 u] 3], rfl, (.inr ⟨rfl, all_of_idx (k := k) hall_ (by omega), rfl⟩), h8⟩

set_option maxHeartbeats 4000000 in
theorem low_has (p : Option Addr) (n c b : Nat) (L : List Ky) (u : Int) (hn : n ≤ 1000000) : HT Try.prog 29 [Value.slice p n c, Value.func (Fn.func 30) #[] #[Value.pointer (some ⟨b, 0, none⟩)]] [Sl 28 3 p n c (fl eO L), Cl b [Value.int IntKind.i64 u] 3] (fun v K => (v = Value.bool true ∧ (∃ o ∈ L, o.2.1 = u) ∧ K = [Sl 28 3 p n c (fl eO L), Cl b [Value.int IntKind.i64 u] 3]) ∨ (v = Value.bool false ∧ (∀ o ∈ L, o.2.1 ≠ u) ∧ K = [Sl 28 3 p n c (fl eO L), Cl b [Value.int IntKind.i64 u] 3])) := by
  refine hi_in 9 ([(0, .slice p n c), (1, .func (Fn.func 30) #[] #[.pointer (some ⟨b, 0, none⟩)])] : Fr) Try.func29 (by kernel_rfl) Try.ntmps29 rfl rfl ?_
  intro g w0 R h0
  refine gi_seq (x := CA Try.f29 [0]) (y := CA Try.f29 [1]) (by kernel_rfl) ?_
  refine gi_pln (id := 0) (ops := RA Try.f29 [0]) [0] (by kernel_rfl) (by kernel_rfl) (by kernel_rfl) ?_
  refine plain_batch (rest := []) [⟨0, [], none⟩] (l' := ([(4, .bool false), (0, .slice p n c), (1, .func (Fn.func 30) #[] #[.pointer (some ⟨b, 0, none⟩)])] : Fr)) (pts' := []) (eqs := []) (by kernel_rfl) trivial (AllC_nil _) ?_
  refine PO.mk ?_
  change WP _ _ (CA Try.f29 [1]) _ _ _
  refine fk_cut ([(0, .slice p n c), (1, .func (Fn.func 30) #[] #[.pointer (some ⟨b, 0, none⟩)]), (4, .bool false)] : Fr) (by kernel_rfl) (fun a => WP _ _ _ _ a _) (fun lr1 => ?_)
  refine gi_seq (x := CA Try.f29 [1, 0]) (y := CA Try.f29 [1, 1]) (by kernel_rfl) ?_
  refine gi_pln (id := 1) (ops := RA Try.f29 [1, 0]) [0, 1, 2, 3, 4] (by kernel_rfl) (by kernel_rfl) (by kernel_rfl) ?_
  refine plain_batch (rest := [2, 3, 4]) [⟨0, [], none⟩, ⟨1, [], none⟩] (l' := ([(6, .func (Fn.func 30) #[] #[.pointer (some ⟨b, 0, none⟩)]), (5, .slice p n c), (0, .slice p n c), (1, .func (Fn.func 30) #[] #[.pointer (some ⟨b, 0, none⟩)]), (4, .bool false)] : Fr) ++ lr1) (pts' := []) (eqs := []) (by kernel_rfl) trivial (AllC_nil _) ?_
  refine plain_act (i := 2) (by kernel_rfl) ?_
  refine an_call (d := some 7) (f := 48) (args := [.slice p n c, .func (Fn.func 30) #[] #[.pointer (some ⟨b, 0, none⟩)]]) (by kernel_rfl) Try.call48 (low_index p n c b L u (by omega)) (F := [R]) h0 ?_
  rintro v K w4 (⟨k2, rfl, hf3, rfl⟩ | ⟨rfl, hf3, rfl⟩) h5
  ·
    refine ⟨_, rfl, ?_⟩
    have h6 : sat g w4 [Sl 28 3 p n c (fl eO L), Cl b [.int .i64 u] 3, R] := h5
    refine plain_batch (rest := []) [⟨3, [], some (.bool true)⟩, ⟨4, [], none⟩] (l' := ([(4, .bool true), (8, .bool true), (7, .int .i64 (((k2 : Nat) : Int))), (6, .func (Fn.func 30) #[] #[.pointer (some ⟨b, 0, none⟩)]), (5, .slice p n c), (0, .slice p n c), (1, .func (Fn.func 30) #[] #[.pointer (some ⟨b, 0, none⟩)]), (4, .bool false)] : Fr) ++ lr1) (pts' := []) (eqs := [(.bool (decide (((k2 : Nat) : Int) ≥ 0)), .bool true)]) (by kernel_rfl) ⟨(ov_t (by omega)), trivial⟩ (AllC_nil _) ?_
    refine PO.mk ?_
    change WP _ _ (CA Try.f29 [1, 1]) _ _ _
    refine fk_cut ([(0, .slice p n c), (1, .func (Fn.func 30) #[] #[.pointer (some ⟨b, 0, none⟩)]), (4, .bool true)] : Fr) (by kernel_rfl) (fun a => WP _ _ _ _ a _) (fun lr7 => ?_)
    refine gi_rt (by kernel_rfl) ?_
    repeat (first | simp only [Exit.inBlock] | simp only [Exit.then])
    refine hi_out [] (.bool true) [] (by kernel_rfl) (by intro q hq; cases hq) ?_
    exact ⟨.bool true, [Sl 28 3 p n c (fl eO L), Cl b [.int .i64 u] 3], rfl, (.inl ⟨rfl, hf3, rfl⟩), h6⟩
  ·
    refine ⟨_, rfl, ?_⟩
    have h8 : sat g w4 [Sl 28 3 p n c (fl eO L), Cl b [.int .i64 u] 3, R] := h5
    refine plain_batch (rest := []) [⟨3, [], none⟩, ⟨4, [], none⟩] (l' := ([(4, .bool false), (8, .bool false), (7, .int .i64 (-1)), (6, .func (Fn.func 30) #[] #[.pointer (some ⟨b, 0, none⟩)]), (5, .slice p n c), (0, .slice p n c), (1, .func (Fn.func 30) #[] #[.pointer (some ⟨b, 0, none⟩)]), (4, .bool false)] : Fr) ++ lr1) (pts' := []) (eqs := []) (by kernel_rfl) trivial (AllC_nil _) ?_
    refine PO.mk ?_
    change WP _ _ (CA Try.f29 [1, 1]) _ _ _
    refine fk_cut ([(0, .slice p n c), (1, .func (Fn.func 30) #[] #[.pointer (some ⟨b, 0, none⟩)]), (4, .bool false)] : Fr) (by kernel_rfl) (fun a => WP _ _ _ _ a _) (fun lr9 => ?_)
    refine gi_rt (by kernel_rfl) ?_
    repeat (first | simp only [Exit.inBlock] | simp only [Exit.then])
    refine hi_out [] (.bool false) [] (by kernel_rfl) (by intro q hq; cases hq) ?_
    exact ⟨.bool false, [Sl 28 3 p n c (fl eO L), Cl b [.int .i64 u] 3], rfl, (.inr ⟨rfl, hf3, rfl⟩), h8⟩

end Go.Proofs.Ytcgpkhdocakloaa
