/- Walks, printed by my generator gen3.py. -/
import Derived.Test.YtafencnieimpnaaRtsB
import Derived.Test.YtafencnieimpnaaG1
namespace Go.Proofs.Ytafencnieimpnaa
set_option maxHeartbeats 4000000 in
theorem index_ht (b off n cp t : Nat) (A : List Rf) (cs : List Value) (r : Rf) (hv : ∀ (k : Nat) (x : Rf), A[k]? = some x → cs[off + k * 2]? = some (Value.int .i64 x.1) ∧ cs[off + k * 2 + 1]? = some (Value.int .u32 x.2)) (hn : A.length = n) (hb : n ≤ 1000000) : HT Try.prog 42 [Value.slice (some ⟨b, off, none⟩) n cp, Value.agg #[Value.int IntKind.i64 r.1, Value.int IntKind.u32 r.2]] [Cl b cs t] (fun v K => ∃ z : Int, v = Value.int .i64 z ∧ Fi A r z ∧ K = [Cl b cs t]) := by
  refine ht_in 19 [(0, Value.slice (some ⟨b, off, none⟩) n cp), (1, Value.agg #[Value.int IntKind.i64 r.1, Value.int IntKind.u32 r.2])] Try.func42 (by kernel_rfl) Try.ntmps42 rfl rfl ?_
  intro g w0 R h0
  refine go_seq (x := CA Try.f42 [0]) (y := CA Try.f42 [1]) (by kernel_rfl) ?_
  refine go_pln (id := 0) (ops := RA Try.f42 [0]) [0, 1] (by kernel_rfl) (by kernel_rfl) ?_
  refine plain_act (i := 0) (by kernel_rfl) ?_
  refine an_new (d := 3) (fun xb_ => Value.pointer (some ⟨xb_, 0, none⟩)) (fun xb_ => Obj.cells [Value.int IntKind.i64 r.1, Value.int IntKind.u32 r.2].toArray 25 (0, 0)) (fun xb_ => by kernel_rfl) (by kernel_rfl) rfl h0 ?_
  intro r1 w2 (h3 : sat g w2 [Cl r1 [Value.int IntKind.i64 r.1, Value.int IntKind.u32 r.2] 25, Cl b cs t, R])
  refine plain_batch (rest := []) [⟨1, [], none⟩] (l' := [(4, Value.int IntKind.i64 0), (3, Value.pointer (some ⟨r1, 0, none⟩)), (0, Value.slice (some ⟨b, off, none⟩) n cp), (1, Value.agg #[Value.int IntKind.i64 r.1, Value.int IntKind.u32 r.2])]) (pts' := []) (eqs := []) (by kernel_rfl) trivial (AllC_nil _) ?_
  change Code.wp _ (CA Try.f42 [1]) _ _ _
  refine fr_cut [(0, Value.slice (some ⟨b, off, none⟩) n cp), (1, Value.agg #[Value.int IntKind.i64 r.1, Value.int IntKind.u32 r.2]), (3, Value.pointer (some ⟨r1, 0, none⟩)), (4, Value.int IntKind.i64 0)] ⟨rfl, rfl, rfl, rfl, trivial⟩ (fun a => Code.wp _ _ _ a _) (fun lr4 => ?_)
  refine go_seq (x := CA Try.f42 [1, 0]) (y := CA Try.f42 [1, 1]) (by kernel_rfl) ?_
  refine go_seq (x := CA Try.f42 [1, 0, 0]) (y := CA Try.f42 [1, 0, 1]) (by kernel_rfl) ?_
  refine go_pln (id := 1) (ops := RA Try.f42 [1, 0, 0]) [0, 1, 2] (by kernel_rfl) (by kernel_rfl) ?_
  refine plain_batch (rest := []) [⟨0, [], none⟩, ⟨1, [], none⟩, ⟨2, [], none⟩] (l' := [(8, Value.int IntKind.i64 0), (7, Value.int IntKind.i64 (((n : Nat) : Int))), (6, Value.slice (some ⟨b, off, none⟩) n cp), (0, Value.slice (some ⟨b, off, none⟩) n cp), (1, Value.agg #[Value.int IntKind.i64 r.1, Value.int IntKind.u32 r.2]), (3, Value.pointer (some ⟨r1, 0, none⟩)), (4, Value.int IntKind.i64 0)] ++ lr4) (pts' := []) (eqs := []) (by kernel_rfl) trivial (AllC_nil _) ?_
  change Code.wp _ (CA Try.f42 [1, 0, 1]) _ _ _
  refine fr_cut [(0, Value.slice (some ⟨b, off, none⟩) n cp), (1, Value.agg #[Value.int IntKind.i64 r.1, Value.int IntKind.u32 r.2]), (3, Value.pointer (some ⟨r1, 0, none⟩)), (4, Value.int IntKind.i64 0), (7, Value.int IntKind.i64 (((n : Nat) : Int))), (8, Value.int IntKind.i64 0)] ⟨rfl, rfl, rfl, rfl, rfl, rfl, trivial⟩ (fun a => Code.wp _ _ _ a _) (fun lr5 => ?_)
  refine go_blk (id := 0) (x := CA Try.f42 [1, 0, 1, 0]) (by kernel_rfl) ?_
  refine lp (x := CA Try.f42 [1, 0, 1, 0, 0]) (by kernel_rfl) (fun mz_ a w => ∃ k : Nat, ∃ lr : Fr, mz_ = n - k ∧ (k ≤ n) ∧ (∀ j : Nat, j < k → A[j]? ≠ some r) ∧ a = mk 19 ([(0, Value.slice (some ⟨b, off, none⟩) n cp), (3, Value.pointer (some ⟨r1, 0, none⟩)), (7, Value.int IntKind.i64 (((n : Nat) : Int))), (8, Value.int IntKind.i64 (((k : Nat) : Int)))] ++ lr) ∧ sat g w [Cl r1 [Value.int IntKind.i64 r.1, Value.int IntKind.u32 r.2] 25, Cl b cs t, R]) (n) ⟨0, _, rfl, Nat.zero_le _, (by intro j hj; omega), (mk_live [(0, Value.slice (some ⟨b, off, none⟩) n cp), (3, Value.pointer (some ⟨r1, 0, none⟩)), (7, Value.int IntKind.i64 (((n : Nat) : Int))), (8, Value.int IntKind.i64 (((0 : Nat) : Int)))] ⟨rfl, rfl, rfl, (ov_int (by omega)), trivial⟩), h3⟩ ?_
  rintro m7 a8 w9 ⟨k, lr6, rfl, hk, hno, rfl, h10⟩
  change Code.wp _ (CA Try.f42 [1, 0, 1, 0, 0]) _ _ _
  refine go_seq (x := CA Try.f42 [1, 0, 1, 0, 0, 0]) (y := CA Try.f42 [1, 0, 1, 0, 0, 1]) (by kernel_rfl) ?_
  refine go_pln (id := 2) (ops := RA Try.f42 [1, 0, 1, 0, 0, 0]) [0] (by kernel_rfl) (by kernel_rfl) ?_
  by_cases c11 : ((k : Nat) : Int) < ((n : Nat) : Int)
  ·
    refine plain_batch (rest := []) [⟨0, [], some (Value.bool true)⟩] (l' := [(9, Value.bool true), (0, Value.slice (some ⟨b, off, none⟩) n cp), (3, Value.pointer (some ⟨r1, 0, none⟩)), (7, Value.int IntKind.i64 (((n : Nat) : Int))), (8, Value.int IntKind.i64 (((k : Nat) : Int)))] ++ lr6) (pts' := []) (eqs := [(Value.bool (decide (((k : Nat) : Int) < ((n : Nat) : Int))), Value.bool true)]) (by kernel_rfl) ⟨(ov_t (by omega)), trivial⟩ (AllC_nil _) ?_
    change Code.wp _ (CA Try.f42 [1, 0, 1, 0, 0, 1]) _ _ _
    refine fr_cut [(0, Value.slice (some ⟨b, off, none⟩) n cp), (3, Value.pointer (some ⟨r1, 0, none⟩)), (7, Value.int IntKind.i64 (((n : Nat) : Int))), (8, Value.int IntKind.i64 (((k : Nat) : Int))), (9, Value.bool true)] ⟨rfl, rfl, rfl, rfl, rfl, trivial⟩ (fun a => Code.wp _ _ _ a _) (fun lr12 => ?_)
    refine go_seq (x := CA Try.f42 [1, 0, 1, 0, 0, 1, 0]) (y := CA Try.f42 [1, 0, 1, 0, 0, 1, 1]) (by kernel_rfl) ?_
    refine go_cnd (x := (Operand.tmp 9)) (s := CA Try.f42 [1, 0, 1, 0, 0, 1, 0, 0]) (t := CA Try.f42 [1, 0, 1, 0, 0, 1, 0, 1]) true (by kernel_rfl) (by kernel_rfl) ?_
    change Code.wp _ (CA Try.f42 [1, 0, 1, 0, 0, 1, 0, 0]) _ _ _
    refine go_skp (by kernel_rfl) ?_
    change Code.wp _ (CA Try.f42 [1, 0, 1, 0, 0, 1, 1]) _ _ _
    refine go_seq (x := CA Try.f42 [1, 0, 1, 0, 0, 1, 1, 0]) (y := CA Try.f42 [1, 0, 1, 0, 0, 1, 1, 1]) (by kernel_rfl) ?_
    refine go_blk (id := 1) (x := CA Try.f42 [1, 0, 1, 0, 0, 1, 1, 0, 0]) (by kernel_rfl) ?_
    refine go_seq (x := CA Try.f42 [1, 0, 1, 0, 0, 1, 1, 0, 0, 0]) (y := CA Try.f42 [1, 0, 1, 0, 0, 1, 1, 0, 0, 1]) (by kernel_rfl) ?_
    refine go_pln (id := 3) (ops := RA Try.f42 [1, 0, 1, 0, 0, 1, 1, 0, 0, 0]) [0, 1] (by kernel_rfl) (by kernel_rfl) ?_
    refine plain_batch (rest := []) [⟨0, [], none⟩, ⟨1, [], none⟩] (l' := [(5, Value.int IntKind.i64 (((k : Nat) : Int))), (10, Value.int IntKind.i64 (((k : Nat) : Int))), (0, Value.slice (some ⟨b, off, none⟩) n cp), (3, Value.pointer (some ⟨r1, 0, none⟩)), (7, Value.int IntKind.i64 (((n : Nat) : Int))), (8, Value.int IntKind.i64 (((k : Nat) : Int))), (9, Value.bool true)] ++ lr12) (pts' := []) (eqs := []) (by kernel_rfl) trivial (AllC_nil _) ?_
    change Code.wp _ (CA Try.f42 [1, 0, 1, 0, 0, 1, 1, 0, 0, 1]) _ _ _
    refine fr_cut [(0, Value.slice (some ⟨b, off, none⟩) n cp), (3, Value.pointer (some ⟨r1, 0, none⟩)), (5, Value.int IntKind.i64 (((k : Nat) : Int))), (7, Value.int IntKind.i64 (((n : Nat) : Int))), (8, Value.int IntKind.i64 (((k : Nat) : Int))), (9, Value.bool true)] ⟨rfl, rfl, rfl, rfl, rfl, rfl, trivial⟩ (fun a => Code.wp _ _ _ a _) (fun lr13 => ?_)
    refine go_seq (x := CA Try.f42 [1, 0, 1, 0, 0, 1, 1, 0, 0, 1, 0]) (y := CA Try.f42 [1, 0, 1, 0, 0, 1, 1, 0, 0, 1, 1]) (by kernel_rfl) ?_
    refine go_drw (id := 4) (ops := RA Try.f42 [1, 0, 1, 0, 0, 1, 1, 0, 0, 1, 0]) (Tr.fl 0 (Tr.fl 1 (Tr.fl 2 (Tr.fl 3 (Tr.fl 4 (Tr.fl 5 Tr.nil)))))) (by kernel_rfl) (by kernel_rfl) (by kernel_rfl) (by kernel_rfl) (fun _ _ d _ _ h => by cases d <;> exact h) h10 ?_
    intro w14 h15
    obtain ⟨x16, hx17⟩ : ∃ x, A[k]? = some x := ⟨_, List.getElem?_eq_getElem (by omega)⟩
    refine draw_batch (t := (Tr.fl 3 (Tr.fl 4 (Tr.fl 5 Tr.nil)))) [⟨0, [Value.int IntKind.i64 r.1, Value.int IntKind.u32 r.2], none⟩, ⟨1, [], none⟩, ⟨2, [], none⟩] (l' := [(13, Value.int IntKind.i64 (((k : Nat) : Int))), (12, Value.slice (some ⟨b, off, none⟩) n cp), (11, Value.agg #[Value.int IntKind.i64 r.1, Value.int IntKind.u32 r.2]), (0, Value.slice (some ⟨b, off, none⟩) n cp), (3, Value.pointer (some ⟨r1, 0, none⟩)), (5, Value.int IntKind.i64 (((k : Nat) : Int))), (7, Value.int IntKind.i64 (((n : Nat) : Int))), (8, Value.int IntKind.i64 (((k : Nat) : Int))), (9, Value.bool true)] ++ lr13) (pts' := [(0, ⟨r1, 0, none⟩, Value.int IntKind.i64 r.1), (0, ⟨r1, 1, none⟩, Value.int IntKind.u32 r.2)]) (eqs := []) (by kernel_rfl) trivial (AllC_cons (sat_cell h15 0 rfl rfl) (AllC_cons (sat_cell h15 0 rfl rfl) (AllC_nil _))) ?_
    refine draw_law (i := 3) 14 (Value.pointer (some ⟨b, off + k * 2, none⟩)) [] (by kernel_rfl) (fun _ _ => law_indexSl (o := opA (RA Try.f42 [1, 0, 1, 0, 0, 1, 1, 0, 0, 1, 0]) 3) (x := (Operand.tmp 12)) (i := (Operand.tmp 13)) (b := b) (off := off) (z := (((k : Nat) : Int))) (len := n) (cap := cp) (by kernel_rfl) Try.underlying28 2 (by kernel_rfl) k (by kernel_rfl) (by kernel_rfl) (by omega) (by omega) (off + k * 2) (by omega) _) (by intro q hq; cases hq) ?_
    refine draw_batch (t := (Tr.fl 5 Tr.nil)) [⟨4, [Value.int IntKind.i64 x16.1, Value.int IntKind.u32 x16.2], none⟩] (l' := [(15, Value.agg #[Value.int IntKind.i64 x16.1, Value.int IntKind.u32 x16.2]), (14, Value.pointer (some ⟨b, off + k * 2, none⟩)), (13, Value.int IntKind.i64 (((k : Nat) : Int))), (12, Value.slice (some ⟨b, off, none⟩) n cp), (11, Value.agg #[Value.int IntKind.i64 r.1, Value.int IntKind.u32 r.2]), (0, Value.slice (some ⟨b, off, none⟩) n cp), (3, Value.pointer (some ⟨r1, 0, none⟩)), (5, Value.int IntKind.i64 (((k : Nat) : Int))), (7, Value.int IntKind.i64 (((n : Nat) : Int))), (8, Value.int IntKind.i64 (((k : Nat) : Int))), (9, Value.bool true)] ++ lr13) (pts' := [(4, ⟨b, off + k * 2, none⟩, Value.int IntKind.i64 x16.1), (4, ⟨b, off + k * 2 + 1, none⟩, Value.int IntKind.u32 x16.2)]) (eqs := []) (by kernel_rfl) trivial (AllC_cons (sat_cell h15 1 rfl (hv _ _ hx17).1) (AllC_cons (sat_cell h15 1 rfl (hv _ _ hx17).2) (AllC_nil _))) ?_
    by_cases c18 : r.1 = x16.1
    ·
      by_cases c19 : r.2 = x16.2
      ·
        refine draw_law (i := 5) 16 (Value.bool true) [] (by kernel_rfl) (fun _ _ => seq25_eql_t (o := opA (RA Try.f42 [1, 0, 1, 0, 0, 1, 1, 0, 0, 1, 0]) 5) (x := (Operand.tmp 11)) (y := (Operand.tmp 15)) r.1 r.2 x16.1 x16.2 (by kernel_rfl) (by kernel_rfl) (by kernel_rfl) ⟨(by omega), (by omega)⟩ _) (by intro q hq; cases hq) ?_
        change Code.wp _ (CA Try.f42 [1, 0, 1, 0, 0, 1, 1, 0, 0, 1, 1]) _ _ _
        refine fr_cut [(0, Value.slice (some ⟨b, off, none⟩) n cp), (3, Value.pointer (some ⟨r1, 0, none⟩)), (5, Value.int IntKind.i64 (((k : Nat) : Int))), (7, Value.int IntKind.i64 (((n : Nat) : Int))), (8, Value.int IntKind.i64 (((k : Nat) : Int))), (9, Value.bool true), (16, Value.bool true)] ⟨rfl, rfl, rfl, rfl, rfl, rfl, rfl, trivial⟩ (fun a => Code.wp _ _ _ a _) (fun lr20 => ?_)
        refine go_cnd (x := (Operand.tmp 16)) (s := CA Try.f42 [1, 0, 1, 0, 0, 1, 1, 0, 0, 1, 1, 0]) (t := CA Try.f42 [1, 0, 1, 0, 0, 1, 1, 0, 0, 1, 1, 1]) true (by kernel_rfl) (by kernel_rfl) ?_
        change Code.wp _ (CA Try.f42 [1, 0, 1, 0, 0, 1, 1, 0, 0, 1, 1, 0]) _ _ _
        refine go_seq (x := CA Try.f42 [1, 0, 1, 0, 0, 1, 1, 0, 0, 1, 1, 0, 0]) (y := CA Try.f42 [1, 0, 1, 0, 0, 1, 1, 0, 0, 1, 1, 0, 1]) (by kernel_rfl) ?_
        refine go_pln (id := 5) (ops := RA Try.f42 [1, 0, 1, 0, 0, 1, 1, 0, 0, 1, 1, 0, 0]) [0, 1] (by kernel_rfl) (by kernel_rfl) ?_
        refine plain_batch (rest := []) [⟨0, [], none⟩, ⟨1, [], none⟩] (l' := [(4, Value.int IntKind.i64 (((k : Nat) : Int))), (17, Value.int IntKind.i64 (((k : Nat) : Int))), (0, Value.slice (some ⟨b, off, none⟩) n cp), (3, Value.pointer (some ⟨r1, 0, none⟩)), (5, Value.int IntKind.i64 (((k : Nat) : Int))), (7, Value.int IntKind.i64 (((n : Nat) : Int))), (8, Value.int IntKind.i64 (((k : Nat) : Int))), (9, Value.bool true), (16, Value.bool true)] ++ lr20) (pts' := []) (eqs := []) (by kernel_rfl) trivial (AllC_nil _) ?_
        change Code.wp _ (CA Try.f42 [1, 0, 1, 0, 0, 1, 1, 0, 0, 1, 1, 0, 1]) _ _ _
        refine fr_cut [(0, Value.slice (some ⟨b, off, none⟩) n cp), (3, Value.pointer (some ⟨r1, 0, none⟩)), (4, Value.int IntKind.i64 (((k : Nat) : Int))), (5, Value.int IntKind.i64 (((k : Nat) : Int))), (7, Value.int IntKind.i64 (((n : Nat) : Int))), (8, Value.int IntKind.i64 (((k : Nat) : Int))), (9, Value.bool true), (16, Value.bool true)] ⟨rfl, rfl, rfl, rfl, rfl, rfl, rfl, rfl, trivial⟩ (fun a => Code.wp _ _ _ a _) (fun lr21 => ?_)
        refine go_rt (by kernel_rfl) ?_
        repeat (first | simp only [Exit.inBlock] | simp only [Exit.then])
        have h22 : sat g w14 [Cl b cs t, Cl r1 [Value.int IntKind.i64 r.1, Value.int IntKind.u32 r.2] 25, R] := sat_sel [1, 0, 2] rfl h15
        have h23 : sat g w14 [Cl b cs t, R] := sat_sel [0, 2] rfl h22
        refine ht_out [] (Value.int IntKind.i64 (((k : Nat) : Int))) [] (by kernel_rfl) (by intro q hq; cases hq) ?_
        exact ⟨Value.int IntKind.i64 (((k : Nat) : Int)), [Cl b cs t], rfl, ⟨((k : Nat) : Int), rfl, .inl ⟨k, rfl, by rw [hx17]; exact congrArg some (Prod.ext (by omega) (by omega)), hno⟩, rfl⟩, h23⟩
      ·
        refine draw_law (i := 5) 16 (Value.bool false) [] (by kernel_rfl) (fun _ _ => seq25_eql_f (o := opA (RA Try.f42 [1, 0, 1, 0, 0, 1, 1, 0, 0, 1, 0]) 5) (x := (Operand.tmp 11)) (y := (Operand.tmp 15)) r.1 r.2 x16.1 x16.2 (by kernel_rfl) (by kernel_rfl) (by kernel_rfl) (by omega) _) (by intro q hq; cases hq) ?_
        change Code.wp _ (CA Try.f42 [1, 0, 1, 0, 0, 1, 1, 0, 0, 1, 1]) _ _ _
        refine fr_cut [(0, Value.slice (some ⟨b, off, none⟩) n cp), (3, Value.pointer (some ⟨r1, 0, none⟩)), (5, Value.int IntKind.i64 (((k : Nat) : Int))), (7, Value.int IntKind.i64 (((n : Nat) : Int))), (8, Value.int IntKind.i64 (((k : Nat) : Int))), (9, Value.bool true), (16, Value.bool false)] ⟨rfl, rfl, rfl, rfl, rfl, rfl, rfl, trivial⟩ (fun a => Code.wp _ _ _ a _) (fun lr24 => ?_)
        refine go_cnd (x := (Operand.tmp 16)) (s := CA Try.f42 [1, 0, 1, 0, 0, 1, 1, 0, 0, 1, 1, 0]) (t := CA Try.f42 [1, 0, 1, 0, 0, 1, 1, 0, 0, 1, 1, 1]) false (by kernel_rfl) (by kernel_rfl) ?_
        change Code.wp _ (CA Try.f42 [1, 0, 1, 0, 0, 1, 1, 0, 0, 1, 1, 1]) _ _ _
        refine go_skp (by kernel_rfl) ?_
        change Code.wp _ (CA Try.f42 [1, 0, 1, 0, 0, 1, 1, 1]) _ _ _
        refine go_pln (id := 6) (ops := RA Try.f42 [1, 0, 1, 0, 0, 1, 1, 1]) [0, 1] (by kernel_rfl) (by kernel_rfl) ?_
        refine plain_batch (rest := []) [⟨0, [], some (Value.int IntKind.i64 (((k : Nat) : Int) + 1))⟩, ⟨1, [], none⟩] (l' := [(8, Value.int IntKind.i64 (((k : Nat) : Int) + 1)), (18, Value.int IntKind.i64 (((k : Nat) : Int) + 1)), (0, Value.slice (some ⟨b, off, none⟩) n cp), (3, Value.pointer (some ⟨r1, 0, none⟩)), (5, Value.int IntKind.i64 (((k : Nat) : Int))), (7, Value.int IntKind.i64 (((n : Nat) : Int))), (8, Value.int IntKind.i64 (((k : Nat) : Int))), (9, Value.bool true), (16, Value.bool false)] ++ lr24) (pts' := []) (eqs := [(Value.int IntKind.i64 (IntKind.wrap IntKind.i64 ((((k : Nat) : Int)) + 1)), Value.int IntKind.i64 (((k : Nat) : Int) + 1))]) (by kernel_rfl) ⟨(ov_i64 (by omega) (by omega) (by omega)), trivial⟩ (AllC_nil _) ?_
        change ∃ n', n' < _ ∧ _
        refine ⟨(n - (k + 1)), by omega, (k + 1), _, rfl, (by omega), (no_step hno hx17 (fun e => by have e1 := congrArg Prod.fst e; have e2 := congrArg Prod.snd e; omega)), (mk_live [(0, Value.slice (some ⟨b, off, none⟩) n cp), (3, Value.pointer (some ⟨r1, 0, none⟩)), (7, Value.int IntKind.i64 (((n : Nat) : Int))), (8, Value.int IntKind.i64 ((((k + 1) : Nat) : Int)))] ⟨rfl, rfl, rfl, (ov_int (by omega)), trivial⟩), h15⟩
    ·
      refine draw_law (i := 5) 16 (Value.bool false) [] (by kernel_rfl) (fun _ _ => seq25_eql_f (o := opA (RA Try.f42 [1, 0, 1, 0, 0, 1, 1, 0, 0, 1, 0]) 5) (x := (Operand.tmp 11)) (y := (Operand.tmp 15)) r.1 r.2 x16.1 x16.2 (by kernel_rfl) (by kernel_rfl) (by kernel_rfl) (by omega) _) (by intro q hq; cases hq) ?_
      change Code.wp _ (CA Try.f42 [1, 0, 1, 0, 0, 1, 1, 0, 0, 1, 1]) _ _ _
      refine fr_cut [(0, Value.slice (some ⟨b, off, none⟩) n cp), (3, Value.pointer (some ⟨r1, 0, none⟩)), (5, Value.int IntKind.i64 (((k : Nat) : Int))), (7, Value.int IntKind.i64 (((n : Nat) : Int))), (8, Value.int IntKind.i64 (((k : Nat) : Int))), (9, Value.bool true), (16, Value.bool false)] ⟨rfl, rfl, rfl, rfl, rfl, rfl, rfl, trivial⟩ (fun a => Code.wp _ _ _ a _) (fun lr25 => ?_)
      refine go_cnd (x := (Operand.tmp 16)) (s := CA Try.f42 [1, 0, 1, 0, 0, 1, 1, 0, 0, 1, 1, 0]) (t := CA Try.f42 [1, 0, 1, 0, 0, 1, 1, 0, 0, 1, 1, 1]) false (by kernel_rfl) (by kernel_rfl) ?_
      change Code.wp _ (CA Try.f42 [1, 0, 1, 0, 0, 1, 1, 0, 0, 1, 1, 1]) _ _ _
      refine go_skp (by kernel_rfl) ?_
      change Code.wp _ (CA Try.f42 [1, 0, 1, 0, 0, 1, 1, 1]) _ _ _
      refine go_pln (id := 6) (ops := RA Try.f42 [1, 0, 1, 0, 0, 1, 1, 1]) [0, 1] (by kernel_rfl) (by kernel_rfl) ?_
      refine plain_batch (rest := []) [⟨0, [], some (Value.int IntKind.i64 (((k : Nat) : Int) + 1))⟩, ⟨1, [], none⟩] (l' := [(8, Value.int IntKind.i64 (((k : Nat) : Int) + 1)), (18, Value.int IntKind.i64 (((k : Nat) : Int) + 1)), (0, Value.slice (some ⟨b, off, none⟩) n cp), (3, Value.pointer (some ⟨r1, 0, none⟩)), (5, Value.int IntKind.i64 (((k : Nat) : Int))), (7, Value.int IntKind.i64 (((n : Nat) : Int))), (8, Value.int IntKind.i64 (((k : Nat) : Int))), (9, Value.bool true), (16, Value.bool false)] ++ lr25) (pts' := []) (eqs := [(Value.int IntKind.i64 (IntKind.wrap IntKind.i64 ((((k : Nat) : Int)) + 1)), Value.int IntKind.i64 (((k : Nat) : Int) + 1))]) (by kernel_rfl) ⟨(ov_i64 (by omega) (by omega) (by omega)), trivial⟩ (AllC_nil _) ?_
      change ∃ n', n' < _ ∧ _
      refine ⟨(n - (k + 1)), by omega, (k + 1), _, rfl, (by omega), (no_step hno hx17 (fun e => by have e1 := congrArg Prod.fst e; have e2 := congrArg Prod.snd e; omega)), (mk_live [(0, Value.slice (some ⟨b, off, none⟩) n cp), (3, Value.pointer (some ⟨r1, 0, none⟩)), (7, Value.int IntKind.i64 (((n : Nat) : Int))), (8, Value.int IntKind.i64 ((((k + 1) : Nat) : Int)))] ⟨rfl, rfl, rfl, (ov_int (by omega)), trivial⟩), h15⟩
  ·
    refine plain_batch (rest := []) [⟨0, [], some (Value.bool false)⟩] (l' := [(9, Value.bool false), (0, Value.slice (some ⟨b, off, none⟩) n cp), (3, Value.pointer (some ⟨r1, 0, none⟩)), (7, Value.int IntKind.i64 (((n : Nat) : Int))), (8, Value.int IntKind.i64 (((k : Nat) : Int)))] ++ lr6) (pts' := []) (eqs := [(Value.bool (decide (((k : Nat) : Int) < ((n : Nat) : Int))), Value.bool false)]) (by kernel_rfl) ⟨(ov_f (by omega)), trivial⟩ (AllC_nil _) ?_
    change Code.wp _ (CA Try.f42 [1, 0, 1, 0, 0, 1]) _ _ _
    refine fr_cut [(0, Value.slice (some ⟨b, off, none⟩) n cp), (3, Value.pointer (some ⟨r1, 0, none⟩)), (7, Value.int IntKind.i64 (((n : Nat) : Int))), (8, Value.int IntKind.i64 (((k : Nat) : Int))), (9, Value.bool false)] ⟨rfl, rfl, rfl, rfl, rfl, trivial⟩ (fun a => Code.wp _ _ _ a _) (fun lr26 => ?_)
    refine go_seq (x := CA Try.f42 [1, 0, 1, 0, 0, 1, 0]) (y := CA Try.f42 [1, 0, 1, 0, 0, 1, 1]) (by kernel_rfl) ?_
    refine go_cnd (x := (Operand.tmp 9)) (s := CA Try.f42 [1, 0, 1, 0, 0, 1, 0, 0]) (t := CA Try.f42 [1, 0, 1, 0, 0, 1, 0, 1]) false (by kernel_rfl) (by kernel_rfl) ?_
    change Code.wp _ (CA Try.f42 [1, 0, 1, 0, 0, 1, 0, 1]) _ _ _
    refine go_ext (id := 0) (by kernel_rfl) ?_
    change Code.wp _ (CA Try.f42 [1, 1]) _ _ _
    refine go_seq (x := CA Try.f42 [1, 1, 0]) (y := CA Try.f42 [1, 1, 1]) (by kernel_rfl) ?_
    refine go_pln (id := 7) (ops := RA Try.f42 [1, 1, 0]) [0] (by kernel_rfl) (by kernel_rfl) ?_
    refine plain_batch (rest := []) [⟨0, [], none⟩] (l' := [(4, Value.int IntKind.i64 (-1)), (0, Value.slice (some ⟨b, off, none⟩) n cp), (3, Value.pointer (some ⟨r1, 0, none⟩)), (7, Value.int IntKind.i64 (((n : Nat) : Int))), (8, Value.int IntKind.i64 (((k : Nat) : Int))), (9, Value.bool false)] ++ lr26) (pts' := []) (eqs := []) (by kernel_rfl) trivial (AllC_nil _) ?_
    change Code.wp _ (CA Try.f42 [1, 1, 1]) _ _ _
    refine fr_cut [(0, Value.slice (some ⟨b, off, none⟩) n cp), (3, Value.pointer (some ⟨r1, 0, none⟩)), (4, Value.int IntKind.i64 (-1)), (7, Value.int IntKind.i64 (((n : Nat) : Int))), (8, Value.int IntKind.i64 (((k : Nat) : Int))), (9, Value.bool false)] ⟨rfl, rfl, rfl, rfl, rfl, rfl, trivial⟩ (fun a => Code.wp _ _ _ a _) (fun lr27 => ?_)
    refine go_rt (by kernel_rfl) ?_
    repeat (first | simp only [Exit.inBlock] | simp only [Exit.then])
    have h28 : sat g w9 [Cl b cs t, Cl r1 [Value.int IntKind.i64 r.1, Value.int IntKind.u32 r.2] 25, R] := sat_sel [1, 0, 2] rfl h10
    have h29 : sat g w9 [Cl b cs t, R] := sat_sel [0, 2] rfl h28
    refine ht_out [] (Value.int IntKind.i64 (-1)) [] (by kernel_rfl) (by intro q hq; cases hq) ?_
    exact ⟨Value.int IntKind.i64 (-1), [Cl b cs t], rfl, ⟨-1, rfl, .inr ⟨rfl, no_all hno (by omega)⟩, rfl⟩, h29⟩

end Go.Proofs.Ytafencnieimpnaa
