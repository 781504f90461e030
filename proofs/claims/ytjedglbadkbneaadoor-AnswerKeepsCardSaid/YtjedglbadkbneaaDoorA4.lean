/- Walks, printed by my generator gen4.py. -/
import Derived.Test.YtjedglbadkbneaaDoorA3
namespace Go.Proofs.YtjedglbadkbneaaDoor
set_option maxHeartbeats 4000000 in
theorem cc_none (b : Nat) (v0 : Value) : HT Tryd.prog 40 [Value.pointer (some ⟨b, 0, none⟩)] [Cl b [Value.pointer none, v0] 61] (fun v K => v = Value.tuple #[] ∧ K = [Cl b [Value.pointer (some ⟨b, 0, none⟩), v0] 61]) := by
  refine hi_in 20 ([(0, Value.pointer (some ⟨b, 0, none⟩))] : Fr) Tryd.func40 (by kernel_rfl) Tryd.ntmps40 rfl rfl ?_
  intro g w0 R h0
  refine gi_seq (x := CA Tryd.f40 [0]) (y := CA Tryd.f40 [1]) (by kernel_rfl) ?_
  refine gi_pln (id := 0) (ops := RA Tryd.f40 [0]) [0, 1, 2, 3, 4] (by kernel_rfl) (by kernel_rfl) (by kernel_rfl) ?_
  refine plain_batch (rest := []) [⟨0, [], none⟩, ⟨1, [], none⟩, ⟨2, [], none⟩, ⟨3, [Value.pointer none], none⟩, ⟨4, [], none⟩] (l' := ([(6, Value.bool true), (5, Value.pointer none), (4, Value.pointer (some ⟨b, 0, none⟩)), (3, Value.pointer (some ⟨b, 0, none⟩)), (2, Value.pointer (some ⟨b, 0, none⟩)), (0, Value.pointer (some ⟨b, 0, none⟩))] : Fr)) (pts' := [(3, ⟨b, 0, none⟩, Value.pointer none)]) (eqs := []) (by kernel_rfl) trivial (AllC_cons (sat_cell h0 0 rfl rfl) (AllC_nil _)) ?_
  refine PO.mk ?_
  change WP _ _ (CA Tryd.f40 [1]) _ _ _
  refine fk_cut ([(0, Value.pointer (some ⟨b, 0, none⟩)), (6, Value.bool true)] : Fr) (by kernel_rfl) (fun a => WP _ _ _ _ a _) (fun lr1 => ?_)
  refine gi_cnd (x := (Operand.tmp 6)) (s := CA Tryd.f40 [1, 0]) (t := CA Tryd.f40 [1, 1]) true (by kernel_rfl) (by kernel_rfl) ?_
  change WP _ _ (CA Tryd.f40 [1, 0]) _ _ _
  refine gi_pln (id := 1) (ops := RA Tryd.f40 [1, 0]) [0, 1, 2, 3, 4, 5, 6, 7] (by kernel_rfl) (by kernel_rfl) (by kernel_rfl) ?_
  refine plain_batch (rest := [2, 3, 4, 5, 6, 7]) [⟨0, [], none⟩, ⟨1, [], none⟩] (l' := ([(8, Value.pointer (some ⟨b, 0, none⟩)), (7, Value.pointer (some ⟨b, 0, none⟩)), (0, Value.pointer (some ⟨b, 0, none⟩)), (6, Value.bool true)] : Fr) ++ lr1) (pts' := []) (eqs := []) (by kernel_rfl) trivial (AllC_nil _) ?_
  refine plain_law (i := 2) 9 (Value.pointer (some ⟨b, 0, none⟩)) (by kernel_rfl) (law_toUnsafe (o := opA (RA Tryd.f40 [1, 0]) 2) (x := (Operand.tmp 8)) (by kernel_rfl) Tryd.underlying59 Tryd.underlying76 (by kernel_rfl) (by kernel_rfl) 0 h0 rfl (by simp)) ?_
  refine plain_act (i := 3) (by kernel_rfl) ?_
  refine an_noEscape (d := 10) (f := 42) (v := Value.pointer (some ⟨b, 0, none⟩)) (by kernel_rfl) rfl noEscape_run ?_
  refine plain_law (i := 4) 11 (Value.pointer (some ⟨b, 0, none⟩)) (by kernel_rfl) (law_fromUnsafe (o := opA (RA Tryd.f40 [1, 0]) 4) (x := (Operand.tmp 10)) (by kernel_rfl) Tryd.underlying76 Tryd.underlying59 (by kernel_rfl) (by kernel_rfl) 0 h0 rfl (by kernel_rfl)) ?_
  refine plain_batch (rest := [7]) [⟨5, [], none⟩, ⟨6, [], none⟩] (l' := ([(13, Value.pointer (some ⟨b, 0, none⟩)), (12, Value.pointer (some ⟨b, 0, none⟩)), (11, Value.pointer (some ⟨b, 0, none⟩)), (10, Value.pointer (some ⟨b, 0, none⟩)), (9, Value.pointer (some ⟨b, 0, none⟩)), (8, Value.pointer (some ⟨b, 0, none⟩)), (7, Value.pointer (some ⟨b, 0, none⟩)), (0, Value.pointer (some ⟨b, 0, none⟩)), (6, Value.bool true)] : Fr) ++ lr1) (pts' := []) (eqs := []) (by kernel_rfl) trivial (AllC_nil _) ?_
  refine plain_act (i := 7) (by kernel_rfl) ?_
  refine an_store [(0, Value.pointer (some ⟨b, 0, none⟩))] (cs' := [Value.pointer (some ⟨b, 0, none⟩), v0]) (by kernel_rfl) (by kernel_rfl) (allq ⟨⟨by simp, rfl⟩, trivial⟩) rfl h0 ?_
  intro w2 (h3 : sat g w2 [Cl b [Value.pointer (some ⟨b, 0, none⟩), v0] 61, R])
  refine PO.mk ?_
  repeat (first | simp only [Exit.inBlock] | simp only [Exit.then])
  refine hi_outn [] (Value.tuple #[]) [] (by kernel_rfl) (by intro q hq; cases hq) ?_
  exact ⟨Value.tuple #[], [Cl b [Value.pointer (some ⟨b, 0, none⟩), v0] 61], rfl, ⟨rfl, rfl⟩, h3⟩

set_option maxHeartbeats 4000000 in
theorem cc_some (b : Nat) (v0 : Value) : HT Tryd.prog 40 [Value.pointer (some ⟨b, 0, none⟩)] [Cl b [Value.pointer (some ⟨b, 0, none⟩), v0] 61] (fun v K => v = Value.tuple #[] ∧ K = [Cl b [Value.pointer (some ⟨b, 0, none⟩), v0] 61]) := by
  refine hi_in 20 ([(0, Value.pointer (some ⟨b, 0, none⟩))] : Fr) Tryd.func40 (by kernel_rfl) Tryd.ntmps40 rfl rfl ?_
  intro g w0 R h0
  refine gi_seq (x := CA Tryd.f40 [0]) (y := CA Tryd.f40 [1]) (by kernel_rfl) ?_
  refine gi_pln (id := 0) (ops := RA Tryd.f40 [0]) [0, 1, 2, 3, 4] (by kernel_rfl) (by kernel_rfl) (by kernel_rfl) ?_
  refine plain_batch (rest := []) [⟨0, [], none⟩, ⟨1, [], none⟩, ⟨2, [], none⟩, ⟨3, [Value.pointer (some ⟨b, 0, none⟩)], none⟩, ⟨4, [], none⟩] (l' := ([(6, Value.bool false), (5, Value.pointer (some ⟨b, 0, none⟩)), (4, Value.pointer (some ⟨b, 0, none⟩)), (3, Value.pointer (some ⟨b, 0, none⟩)), (2, Value.pointer (some ⟨b, 0, none⟩)), (0, Value.pointer (some ⟨b, 0, none⟩))] : Fr)) (pts' := [(3, ⟨b, 0, none⟩, Value.pointer (some ⟨b, 0, none⟩))]) (eqs := []) (by kernel_rfl) trivial (AllC_cons (sat_cell h0 0 rfl rfl) (AllC_nil _)) ?_
  refine PO.mk ?_
  change WP _ _ (CA Tryd.f40 [1]) _ _ _
  refine fk_cut ([(0, Value.pointer (some ⟨b, 0, none⟩)), (6, Value.bool false)] : Fr) (by kernel_rfl) (fun a => WP _ _ _ _ a _) (fun lr1 => ?_)
  refine gi_cnd (x := (Operand.tmp 6)) (s := CA Tryd.f40 [1, 0]) (t := CA Tryd.f40 [1, 1]) false (by kernel_rfl) (by kernel_rfl) ?_
  change WP _ _ (CA Tryd.f40 [1, 1]) _ _ _
  refine gi_seq (x := CA Tryd.f40 [1, 1, 0]) (y := CA Tryd.f40 [1, 1, 1]) (by kernel_rfl) ?_
  refine gi_pln (id := 2) (ops := RA Tryd.f40 [1, 1, 0]) [0, 1, 2, 3, 4, 5] (by kernel_rfl) (by kernel_rfl) (by kernel_rfl) ?_
  refine plain_batch (rest := [5]) [⟨0, [], none⟩, ⟨1, [], none⟩, ⟨2, [], none⟩, ⟨3, [Value.pointer (some ⟨b, 0, none⟩)], none⟩, ⟨4, [], none⟩] (l' := ([(18, Value.pointer (some ⟨b, 0, none⟩)), (17, Value.pointer (some ⟨b, 0, none⟩)), (16, Value.pointer (some ⟨b, 0, none⟩)), (15, Value.pointer (some ⟨b, 0, none⟩)), (14, Value.pointer (some ⟨b, 0, none⟩)), (0, Value.pointer (some ⟨b, 0, none⟩)), (6, Value.bool false)] : Fr) ++ lr1) (pts' := [(3, ⟨b, 0, none⟩, Value.pointer (some ⟨b, 0, none⟩))]) (eqs := []) (by kernel_rfl) trivial (AllC_cons (sat_cell h0 0 rfl rfl) (AllC_nil _)) ?_
  refine plain_law (i := 5) 19 (Value.bool false) (by kernel_rfl) (law_nePtrSame (o := opA (RA Tryd.f40 [1, 1, 0]) 5) (x := (Operand.tmp 17)) (y := (Operand.tmp 18)) (a := ⟨b, 0, none⟩) (by kernel_rfl) Tryd.underlying59 (by kernel_rfl) (by kernel_rfl) (by kernel_rfl) _) ?_
  refine PO.mk ?_
  change WP _ _ (CA Tryd.f40 [1, 1, 1]) _ _ _
  refine fk_cut ([(0, Value.pointer (some ⟨b, 0, none⟩)), (6, Value.bool false), (19, Value.bool false)] : Fr) (by kernel_rfl) (fun a => WP _ _ _ _ a _) (fun lr2 => ?_)
  refine gi_cnd (x := (Operand.tmp 19)) (s := CA Tryd.f40 [1, 1, 1, 0]) (t := CA Tryd.f40 [1, 1, 1, 1]) false (by kernel_rfl) (by kernel_rfl) ?_
  change WP _ _ (CA Tryd.f40 [1, 1, 1, 1]) _ _ _
  refine gi_skp (by kernel_rfl) ?_
  repeat (first | simp only [Exit.inBlock] | simp only [Exit.then])
  refine hi_outn [] (Value.tuple #[]) [] (by kernel_rfl) (by intro q hq; cases hq) ?_
  exact ⟨Value.tuple #[], [Cl b [Value.pointer (some ⟨b, 0, none⟩), v0] 61], rfl, ⟨rfl, rfl⟩, h0⟩

theorem cc_ht (b : Nat) (ad : Option Addr) (v0 : Value) (h : ad = none ∨ ad = some ⟨b, 0, none⟩) : HT Tryd.prog 40 [Value.pointer (some ⟨b, 0, none⟩)] [Cl b [Value.pointer ad, v0] 61] (fun v K => v = Value.tuple #[] ∧ K = [Cl b [Value.pointer (some ⟨b, 0, none⟩), v0] 61]) := by
  rcases h with rfl | rfl
  · exact cc_none b v0
  · exact cc_some b v0

set_option maxHeartbeats 4000000 in
theorem wb_ht (b : Nat) (l : List UInt8) (x : UInt8) (hl : l.length ≤ 1099511627776) : HT Tryd.prog 32 [Value.pointer (some ⟨b, 0, none⟩), Value.int IntKind.u8 (((x.toNat : Nat) : Int))] [Bd b l] (fun v K => v = Value.nilIface ∧ K = [Bd b (l ++ [x])]) := by
  have hx8 := u8_lt x
  refine hi_in 17 ([(0, Value.pointer (some ⟨b, 0, none⟩)), (1, Value.int IntKind.u8 (((x.toNat : Nat) : Int)))] : Fr) Tryd.func32 (by kernel_rfl) Tryd.ntmps32 rfl rfl ?_
  intro g w0 R h0
  obtain ⟨ad, p, c, had, hnil, h1⟩ := bd_open h0
  have h2 : sat g w0 [Sl 5 1 p l.length c (fl eB l), Cl b [Value.pointer ad, Value.slice p l.length c] 61, R] := sat_sel [1, 0, 2] rfl h1
  obtain ⟨_, _⟩ := sl_le h2
  refine gi_seq (x := CA Tryd.f32 [0]) (y := CA Tryd.f32 [1]) (by kernel_rfl) ?_
  refine gi_pln (id := 0) (ops := RA Tryd.f32 [0]) [0] (by kernel_rfl) (by kernel_rfl) (by kernel_rfl) ?_
  refine plain_batch (rest := []) [⟨0, [], none⟩] (l' := ([(4, Value.nilIface), (0, Value.pointer (some ⟨b, 0, none⟩)), (1, Value.int IntKind.u8 (((x.toNat : Nat) : Int)))] : Fr)) (pts' := []) (eqs := []) (by kernel_rfl) trivial (AllC_nil _) ?_
  refine PO.mk ?_
  change WP _ _ (CA Tryd.f32 [1]) _ _ _
  refine fk_cut ([(0, Value.pointer (some ⟨b, 0, none⟩)), (1, Value.int IntKind.u8 (((x.toNat : Nat) : Int))), (4, Value.nilIface)] : Fr) (by kernel_rfl) (fun a => WP _ _ _ _ a _) (fun lr3 => ?_)
  refine gi_seq (x := CA Tryd.f32 [1, 0]) (y := CA Tryd.f32 [1, 1]) (by kernel_rfl) ?_
  refine gi_pln (id := 1) (ops := RA Tryd.f32 [1, 0]) [0, 1] (by kernel_rfl) (by kernel_rfl) (by kernel_rfl) ?_
  refine plain_batch (rest := [1]) [⟨0, [], none⟩] (l' := ([(5, Value.pointer (some ⟨b, 0, none⟩)), (0, Value.pointer (some ⟨b, 0, none⟩)), (1, Value.int IntKind.u8 (((x.toNat : Nat) : Int))), (4, Value.nilIface)] : Fr) ++ lr3) (pts' := []) (eqs := []) (by kernel_rfl) trivial (AllC_nil _) ?_
  have h4 : sat g w0 [Cl b [Value.pointer ad, Value.slice p l.length c] 61, Sl 5 1 p l.length c (fl eB l), R] := sat_sel [1, 0, 2] rfl h2
  refine plain_act (i := 1) (by kernel_rfl) ?_
  refine an_call (d := some 6) (f := 40) (args := [Value.pointer (some ⟨b, 0, none⟩)]) (by kernel_rfl) Tryd.call40 (cc_ht b ad (Value.slice p l.length c) had) (F := [Sl 5 1 p l.length c (fl eB l), R]) h4 ?_
  rintro v K w5 (⟨rfl, rfl⟩) h6
  refine ⟨_, rfl, ?_⟩
  have h7 : sat g w5 [Cl b [Value.pointer (some ⟨b, 0, none⟩), Value.slice p l.length c] 61, Sl 5 1 p l.length c (fl eB l), R] := h6
  refine PO.mk ?_
  change WP _ _ (CA Tryd.f32 [1, 1]) _ _ _
  refine fk_cut ([(0, Value.pointer (some ⟨b, 0, none⟩)), (1, Value.int IntKind.u8 (((x.toNat : Nat) : Int))), (4, Value.nilIface)] : Fr) (by kernel_rfl) (fun a => WP _ _ _ _ a _) (fun lr8 => ?_)
  refine gi_seq (x := CA Tryd.f32 [1, 1, 0]) (y := CA Tryd.f32 [1, 1, 1]) (by kernel_rfl) ?_
  refine gi_pln (id := 2) (ops := RA Tryd.f32 [1, 1, 0]) [0, 1, 2, 3, 4, 5, 6, 7, 8, 9, 10] (by kernel_rfl) (by kernel_rfl) (by kernel_rfl) ?_
  refine plain_batch (rest := [6, 7, 8, 9, 10]) [⟨0, [], none⟩, ⟨1, [], none⟩, ⟨2, [], none⟩, ⟨3, [], none⟩, ⟨4, [Value.slice p l.length c], none⟩, ⟨5, [], none⟩] (l' := ([(12, Value.int IntKind.u8 (((x.toNat : Nat) : Int))), (11, Value.slice p l.length c), (10, Value.pointer (some ⟨b, 1, none⟩)), (9, Value.pointer (some ⟨b, 0, none⟩)), (8, Value.pointer (some ⟨b, 0, none⟩)), (7, Value.pointer (some ⟨b, 0, none⟩)), (0, Value.pointer (some ⟨b, 0, none⟩)), (1, Value.int IntKind.u8 (((x.toNat : Nat) : Int))), (4, Value.nilIface)] : Fr) ++ lr8) (pts' := [(4, ⟨b, 1, none⟩, Value.slice p l.length c)]) (eqs := []) (by kernel_rfl) trivial (AllC_cons (sat_cell h7 0 rfl rfl) (AllC_nil _)) ?_
  refine plain_act (i := 6) (by kernel_rfl) ?_
  refine an_new (d := 13) (fun xb_ => Value.slice (some ⟨xb_, 0, none⟩) 1 1) (fun xb_ => Obj.cells [Value.int IntKind.u8 (((x.toNat : Nat) : Int))].toArray 5 (0, 0)) (fun xb_ => by kernel_rfl) (by kernel_rfl) rfl h7 ?_
  intro r9 w10 (h11 : sat g w10 [Cl r9 [Value.int IntKind.u8 (((x.toNat : Nat) : Int))] 5, Cl b [Value.pointer (some ⟨b, 0, none⟩), Value.slice p l.length c] 61, Sl 5 1 p l.length c (fl eB l), R])
  have h12 : sat g w10 [Sl 5 1 p l.length c (fl eB l), Cl r9 [Value.int IntKind.u8 (((x.toNat : Nat) : Int))] 5, Cl b [Value.pointer (some ⟨b, 0, none⟩), Value.slice p l.length c] 61, R] := sat_sel [2, 0, 1, 3] rfl h11
  refine plain_act (i := 7) (by kernel_rfl) ?_
  refine an_append (d := 14) (sz := 1) (s := (Operand.tmp 11)) (x := (Operand.tmp 13)) (z := Value.int IntKind.u8 0) (p := p) (m := l.length) (c := c) (k := 1) (c2 := 1) (a := ⟨r9, 0, none⟩) (by_ := 1) (by kernel_rfl) (by kernel_rfl) rfl Tryd.underlying34 (by kernel_rfl) rfl (by decide) (by kernel_rfl) (by kernel_rfl) h12 (fl eB [x]) rfl (fun j u hj => by rw [add_off]; exact sat_cell h12 1 rfl (by rw [Nat.zero_add]; exact hj)) (fl_one eB_ok _) (by omega) (by omega) (l.length + 1) (by omega) ?_
  intro p13 cap14 w15 (h16 : sat g w15 [Sl 5 1 p13 (l.length + 1) cap14 ((fl eB l) ++ (fl eB [x])), Cl r9 [Value.int IntKind.u8 (((x.toNat : Nat) : Int))] 5, Cl b [Value.pointer (some ⟨b, 0, none⟩), Value.slice p l.length c] 61, R])
  have h17 : sat g w15 [Sl 5 1 p13 (l.length + 1) cap14 (fl eB (l ++ [x])), Cl r9 [Value.int IntKind.u8 (((x.toNat : Nat) : Int))] 5, Cl b [Value.pointer (some ⟨b, 0, none⟩), Value.slice p l.length c] 61, R] := sat_imp h16 (fun _ hh => by rw [fl_app]; exact hh)
  obtain ⟨hn18, hn19⟩ := sl_le h17
  refine plain_batch (rest := [10]) [⟨8, [], none⟩, ⟨9, [], none⟩] (l' := ([(16, Value.pointer (some ⟨b, 1, none⟩)), (15, Value.pointer (some ⟨b, 0, none⟩)), (14, Value.slice p13 (l.length + 1) cap14), (13, Value.slice (some ⟨r9, 0, none⟩) 1 1), (12, Value.int IntKind.u8 (((x.toNat : Nat) : Int))), (11, Value.slice p l.length c), (10, Value.pointer (some ⟨b, 1, none⟩)), (9, Value.pointer (some ⟨b, 0, none⟩)), (8, Value.pointer (some ⟨b, 0, none⟩)), (7, Value.pointer (some ⟨b, 0, none⟩)), (0, Value.pointer (some ⟨b, 0, none⟩)), (1, Value.int IntKind.u8 (((x.toNat : Nat) : Int))), (4, Value.nilIface)] : Fr) ++ lr8) (pts' := []) (eqs := []) (by kernel_rfl) trivial (AllC_nil _) ?_
  have h20 : sat g w15 [Cl b [Value.pointer (some ⟨b, 0, none⟩), Value.slice p l.length c] 61, Sl 5 1 p13 (l.length + 1) cap14 (fl eB (l ++ [x])), Cl r9 [Value.int IntKind.u8 (((x.toNat : Nat) : Int))] 5, R] := sat_sel [2, 0, 1, 3] rfl h17
  refine plain_act (i := 10) (by kernel_rfl) ?_
  refine an_store [(1, Value.slice p13 (l.length + 1) cap14)] (cs' := [Value.pointer (some ⟨b, 0, none⟩), Value.slice p13 (l.length + 1) cap14]) (by kernel_rfl) (by kernel_rfl) (allq ⟨⟨by simp, rfl⟩, trivial⟩) rfl h20 ?_
  intro w21 (h22 : sat g w21 [Cl b [Value.pointer (some ⟨b, 0, none⟩), Value.slice p13 (l.length + 1) cap14] 61, Sl 5 1 p13 (l.length + 1) cap14 (fl eB (l ++ [x])), Cl r9 [Value.int IntKind.u8 (((x.toNat : Nat) : Int))] 5, R])
  refine PO.mk ?_
  change WP _ _ (CA Tryd.f32 [1, 1, 1]) _ _ _
  refine fk_cut ([(0, Value.pointer (some ⟨b, 0, none⟩)), (1, Value.int IntKind.u8 (((x.toNat : Nat) : Int))), (4, Value.nilIface)] : Fr) (by kernel_rfl) (fun a => WP _ _ _ _ a _) (fun lr23 => ?_)
  refine gi_seq (x := CA Tryd.f32 [1, 1, 1, 0]) (y := CA Tryd.f32 [1, 1, 1, 1]) (by kernel_rfl) ?_
  refine gi_pln (id := 3) (ops := RA Tryd.f32 [1, 1, 1, 0]) [0] (by kernel_rfl) (by kernel_rfl) (by kernel_rfl) ?_
  refine plain_batch (rest := []) [⟨0, [], none⟩] (l' := ([(4, Value.nilIface), (0, Value.pointer (some ⟨b, 0, none⟩)), (1, Value.int IntKind.u8 (((x.toNat : Nat) : Int))), (4, Value.nilIface)] : Fr) ++ lr23) (pts' := []) (eqs := []) (by kernel_rfl) trivial (AllC_nil _) ?_
  refine PO.mk ?_
  change WP _ _ (CA Tryd.f32 [1, 1, 1, 1]) _ _ _
  refine fk_cut ([(0, Value.pointer (some ⟨b, 0, none⟩)), (1, Value.int IntKind.u8 (((x.toNat : Nat) : Int))), (4, Value.nilIface)] : Fr) (by kernel_rfl) (fun a => WP _ _ _ _ a _) (fun lr24 => ?_)
  refine gi_rt (by kernel_rfl) ?_
  repeat (first | simp only [Exit.inBlock] | simp only [Exit.then])
  have h25 := (show l.length + 1 = (l ++ [x]).length from by rw [List.length_append]; rfl) ▸ h22
  have h26 : sat g w21 [Bd b (l ++ [x]), Cl r9 [Value.int IntKind.u8 (((x.toNat : Nat) : Int))] 5, R] := bd_close (.inr rfl) (by simp) h25
  have h27 : sat g w21 [Bd b (l ++ [x]), R] := sat_sel [0, 2] rfl h26
  refine hi_out [] (Value.nilIface) [] (by kernel_rfl) (by intro q hq; cases hq) ?_
  exact ⟨Value.nilIface, [Bd b (l ++ [x])], rfl, ⟨rfl, rfl⟩, h27⟩

set_option maxHeartbeats 4000000 in
theorem bstr_ht (b : Nat) (l : List UInt8) (hl : l.length ≤ 1099511627776) : HT Tryd.prog 33 [Value.pointer (some ⟨b, 0, none⟩)] [Bd b l] (fun v K => v = Value.string (St l) ∧ K = []) := by
  refine hi_in 14 ([(0, Value.pointer (some ⟨b, 0, none⟩))] : Fr) Tryd.func33 (by kernel_rfl) Tryd.ntmps33 rfl rfl ?_
  intro g w0 R h0
  obtain ⟨ad, p, c, had, hnil, h1⟩ := bd_open h0
  have h2 : sat g w0 [Sl 5 1 p l.length c (fl eB l), Cl b [Value.pointer ad, Value.slice p l.length c] 61, R] := sat_sel [1, 0, 2] rfl h1
  obtain ⟨_, _⟩ := sl_le h2
  refine gi_seq (x := CA Tryd.f33 [0]) (y := CA Tryd.f33 [1]) (by kernel_rfl) ?_
  refine gi_pln (id := 0) (ops := RA Tryd.f33 [0]) [0] (by kernel_rfl) (by kernel_rfl) (by kernel_rfl) ?_
  refine plain_batch (rest := []) [⟨0, [], none⟩] (l' := ([(2, Value.string (St [])), (0, Value.pointer (some ⟨b, 0, none⟩))] : Fr)) (pts' := []) (eqs := []) (by kernel_rfl) trivial (AllC_nil _) ?_
  refine PO.mk ?_
  change WP _ _ (CA Tryd.f33 [1]) _ _ _
  refine fk_cut ([(0, Value.pointer (some ⟨b, 0, none⟩)), (2, Value.string (St []))] : Fr) (by kernel_rfl) (fun a => WP _ _ _ _ a _) (fun lr3 => ?_)
  refine gi_seq (x := CA Tryd.f33 [1, 0]) (y := CA Tryd.f33 [1, 1]) (by kernel_rfl) ?_
  refine gi_drw (id := 1) (ops := RA Tryd.f33 [1, 0]) (Tr.fl 0 (Tr.fl 1 (Tr.fl 2 (Tr.fl 3 (Tr.fl 5 (Tr.fl 6 (Tr.fl 7 (Tr.fl 8 (Tr.fl 9 (Tr.an 4 (Tr.an 10 (Tr.fl 11 Tr.nil)))))))))))) (by kernel_rfl) (by kernel_rfl) (by kernel_rfl) (by kernel_rfl) (by kernel_rfl) (fun _ _ d _ _ h => by cases d <;> exact h) h2 ?_
  intro w4 h5
  refine draw_batch (t := (Tr.an 4 (Tr.an 10 (Tr.fl 11 Tr.nil)))) [⟨0, [], none⟩, ⟨1, [], none⟩, ⟨2, [], none⟩, ⟨3, [Value.slice p l.length c], none⟩, ⟨5, [], none⟩, ⟨6, [], none⟩, ⟨7, [], none⟩, ⟨8, [Value.slice p l.length c], none⟩, ⟨9, [], none⟩] (l' := ([(12, Value.int IntKind.i64 (((l.length : Nat) : Int))), (11, Value.slice p l.length c), (10, Value.pointer (some ⟨b, 1, none⟩)), (9, Value.pointer (some ⟨b, 0, none⟩)), (8, Value.pointer (some ⟨b, 0, none⟩)), (6, Value.slice p l.length c), (5, Value.pointer (some ⟨b, 1, none⟩)), (4, Value.pointer (some ⟨b, 0, none⟩)), (3, Value.pointer (some ⟨b, 0, none⟩)), (0, Value.pointer (some ⟨b, 0, none⟩)), (2, Value.string (St []))] : Fr) ++ lr3) (pts' := [(8, ⟨b, 1, none⟩, Value.slice p l.length c), (3, ⟨b, 1, none⟩, Value.slice p l.length c)]) (eqs := []) (by kernel_rfl) trivial (AllC_cons (sat_cell h5 1 rfl rfl) (AllC_cons (sat_cell h5 1 rfl rfl) (AllC_nil _))) ?_
  refine draw_act (i := 4) [(8, ⟨b, 1, none⟩, Value.slice p l.length c)] (by kernel_rfl) (by kernel_rfl) ?_
  refine an_sliceData (t := 34) (d := 7) (x := (Operand.tmp 6)) (m := l.length) (c := c) (by kernel_rfl) (by kernel_rfl) rfl (by kernel_rfl) h5 (fun h_ => hnil (List.eq_nil_of_length_eq_zero h_)) ?_
  refine ⟨(AllC_cons (sat_cell h5 1 rfl rfl) (AllC_nil _)), ?_⟩
  refine draw_act (i := 10) [(8, ⟨b, 1, none⟩, Value.slice p l.length c)] (by kernel_rfl) (by kernel_rfl) ?_
  refine an_unsafeString (t1 := 73) (t2 := 3) (z := (((l.length : Nat) : Int))) (d := 13) (x := (Operand.tmp 7)) (y := (Operand.tmp 12)) (by kernel_rfl) (by kernel_rfl) rfl Tryd.underlying73 (by kernel_rfl) (by kernel_rfl) (by kernel_rfl) (by omega) h5 rfl (by omega) ?_
  intro w6 (h7 : sat g w6 [Cl b [Value.pointer ad, Value.slice p l.length c] 61, R])
  refine ⟨(AllC_cons (sat_cell h7 0 rfl rfl) (AllC_nil _)), ?_⟩
  refine draw_batch (t := Tr.nil) [⟨11, [], none⟩] (l' := ([(2, Value.string (St l)), (13, Value.string (St l)), (7, Value.pointer p), (12, Value.int IntKind.i64 (((l.length : Nat) : Int))), (11, Value.slice p l.length c), (10, Value.pointer (some ⟨b, 1, none⟩)), (9, Value.pointer (some ⟨b, 0, none⟩)), (8, Value.pointer (some ⟨b, 0, none⟩)), (6, Value.slice p l.length c), (5, Value.pointer (some ⟨b, 1, none⟩)), (4, Value.pointer (some ⟨b, 0, none⟩)), (3, Value.pointer (some ⟨b, 0, none⟩)), (0, Value.pointer (some ⟨b, 0, none⟩)), (2, Value.string (St []))] : Fr) ++ lr3) (pts' := []) (eqs := []) (by kernel_rfl) trivial (AllC_nil _) ?_
  change WP _ _ (CA Tryd.f33 [1, 1]) _ _ _
  refine fk_cut ([(0, Value.pointer (some ⟨b, 0, none⟩)), (2, Value.string (St l))] : Fr) (by kernel_rfl) (fun a => WP _ _ _ _ a _) (fun lr8 => ?_)
  refine gi_rt (by kernel_rfl) ?_
  repeat (first | simp only [Exit.inBlock] | simp only [Exit.then])
  have h9 : sat g w6 [R] := sat_sel [1] rfl h7
  refine hi_out [] (Value.string (St l)) [] (by kernel_rfl) (by intro q hq; cases hq) ?_
  exact ⟨Value.string (St l), [], rfl, ⟨rfl, rfl⟩, h9⟩

set_option maxHeartbeats 4000000 in
theorem print_y (p0 : Option Addr) (n c : Nat) (l : List Int) (X : Assn) (hg : Gv X (some ⟨0, 0, none⟩) 4 letW) (hX : Gv X p0 n (fl eI l)) (hL : l.length = n) (hn : n ≤ 1099511627776) : HT Tryd.prog 14 [Value.slice p0 n c] [X] (fun v K => v = Value.tuple #[Value.string (St (prt l).1), Value.int .i64 (prt l).2] ∧ K = [X]) := by
  refine hi_in 28 ([(0, Value.slice p0 n c)] : Fr) Tryd.func14 (by kernel_rfl) Tryd.ntmps14 rfl rfl ?_
  intro g w0 R h0
  refine gi_seq (x := CA Tryd.f14 [0]) (y := CA Tryd.f14 [1]) (by kernel_rfl) ?_
  refine gi_pln (id := 0) (ops := RA Tryd.f14 [0]) [0, 1] (by kernel_rfl) (by kernel_rfl) (by kernel_rfl) ?_
  refine plain_batch (rest := []) [⟨0, [], none⟩, ⟨1, [], none⟩] (l' := ([(3, Value.int IntKind.i64 0), (2, Value.string (St [])), (0, Value.slice p0 n c)] : Fr)) (pts' := []) (eqs := []) (by kernel_rfl) trivial (AllC_nil _) ?_
  refine PO.mk ?_
  change WP _ _ (CA Tryd.f14 [1]) _ _ _
  refine fk_cut ([(0, Value.slice p0 n c), (2, Value.string (St [])), (3, Value.int IntKind.i64 0)] : Fr) (by kernel_rfl) (fun a => WP _ _ _ _ a _) (fun lr1 => ?_)
  refine gi_seq (x := CA Tryd.f14 [1, 0]) (y := CA Tryd.f14 [1, 1]) (by kernel_rfl) ?_
  refine gi_seq (x := CA Tryd.f14 [1, 0, 0]) (y := CA Tryd.f14 [1, 0, 1]) (by kernel_rfl) ?_
  refine gi_pln (id := 1) (ops := RA Tryd.f14 [1, 0, 0]) [0, 1, 2] (by kernel_rfl) (by kernel_rfl) (by kernel_rfl) ?_
  refine plain_batch (rest := [2]) [⟨0, [], none⟩, ⟨1, [], none⟩] (l' := ([(8, Value.int IntKind.i64 (((n : Nat) : Int))), (7, Value.slice p0 n c), (0, Value.slice p0 n c), (2, Value.string (St [])), (3, Value.int IntKind.i64 0)] : Fr) ++ lr1) (pts' := []) (eqs := []) (by kernel_rfl) trivial (AllC_nil _) ?_
  by_cases c2 : ((n : Nat) : Int) > 2000
  ·
    refine plain_batch (rest := []) [⟨2, [], some (Value.bool true)⟩] (l' := ([(9, Value.bool true), (8, Value.int IntKind.i64 (((n : Nat) : Int))), (7, Value.slice p0 n c), (0, Value.slice p0 n c), (2, Value.string (St [])), (3, Value.int IntKind.i64 0)] : Fr) ++ lr1) (pts' := []) (eqs := [(Value.bool (decide (((n : Nat) : Int) > 2000)), Value.bool true)]) (by kernel_rfl) ⟨(ov_t (by omega)), trivial⟩ (AllC_nil _) ?_
    refine PO.mk ?_
    change WP _ _ (CA Tryd.f14 [1, 0, 1]) _ _ _
    refine fk_cut ([(0, Value.slice p0 n c), (2, Value.string (St [])), (3, Value.int IntKind.i64 0), (9, Value.bool true)] : Fr) (by kernel_rfl) (fun a => WP _ _ _ _ a _) (fun lr3 => ?_)
    refine gi_cnd (x := (Operand.tmp 9)) (s := CA Tryd.f14 [1, 0, 1, 0]) (t := CA Tryd.f14 [1, 0, 1, 1]) true (by kernel_rfl) (by kernel_rfl) ?_
    change WP _ _ (CA Tryd.f14 [1, 0, 1, 0]) _ _ _
    refine gi_seq (x := CA Tryd.f14 [1, 0, 1, 0, 0]) (y := CA Tryd.f14 [1, 0, 1, 0, 1]) (by kernel_rfl) ?_
    refine gi_pln (id := 2) (ops := RA Tryd.f14 [1, 0, 1, 0, 0]) [0, 1] (by kernel_rfl) (by kernel_rfl) (by kernel_rfl) ?_
    refine plain_batch (rest := []) [⟨0, [], none⟩, ⟨1, [], none⟩] (l' := ([(3, Value.int IntKind.i64 11), (2, Value.string (St [])), (0, Value.slice p0 n c), (2, Value.string (St [])), (3, Value.int IntKind.i64 0), (9, Value.bool true)] : Fr) ++ lr3) (pts' := []) (eqs := []) (by kernel_rfl) trivial (AllC_nil _) ?_
    refine PO.mk ?_
    change WP _ _ (CA Tryd.f14 [1, 0, 1, 0, 1]) _ _ _
    refine fk_cut ([(0, Value.slice p0 n c), (2, Value.string (St [])), (3, Value.int IntKind.i64 11), (9, Value.bool true)] : Fr) (by kernel_rfl) (fun a => WP _ _ _ _ a _) (fun lr4 => ?_)
    refine gi_rt (by kernel_rfl) ?_
    repeat (first | simp only [Exit.inBlock] | simp only [Exit.then])
    refine hi_out [] (Value.tuple #[Value.string (St []), Value.int IntKind.i64 11]) [] (by kernel_rfl) (by intro q hq; cases hq) ?_
    exact ⟨Value.tuple #[Value.string (St []), Value.int IntKind.i64 11], [X], rfl, ⟨by rw [(prt_many (by omega))], rfl⟩, h0⟩
  ·
    refine plain_batch (rest := []) [⟨2, [], some (Value.bool false)⟩] (l' := ([(9, Value.bool false), (8, Value.int IntKind.i64 (((n : Nat) : Int))), (7, Value.slice p0 n c), (0, Value.slice p0 n c), (2, Value.string (St [])), (3, Value.int IntKind.i64 0)] : Fr) ++ lr1) (pts' := []) (eqs := [(Value.bool (decide (((n : Nat) : Int) > 2000)), Value.bool false)]) (by kernel_rfl) ⟨(ov_f (by omega)), trivial⟩ (AllC_nil _) ?_
    refine PO.mk ?_
    change WP _ _ (CA Tryd.f14 [1, 0, 1]) _ _ _
    refine fk_cut ([(0, Value.slice p0 n c), (2, Value.string (St [])), (3, Value.int IntKind.i64 0), (9, Value.bool false)] : Fr) (by kernel_rfl) (fun a => WP _ _ _ _ a _) (fun lr5 => ?_)
    refine gi_cnd (x := (Operand.tmp 9)) (s := CA Tryd.f14 [1, 0, 1, 0]) (t := CA Tryd.f14 [1, 0, 1, 1]) false (by kernel_rfl) (by kernel_rfl) ?_
    change WP _ _ (CA Tryd.f14 [1, 0, 1, 1]) _ _ _
    refine gi_skp (by kernel_rfl) ?_
    change WP _ _ (CA Tryd.f14 [1, 1]) _ _ _
    refine gi_seq (x := CA Tryd.f14 [1, 1, 0]) (y := CA Tryd.f14 [1, 1, 1]) (by kernel_rfl) ?_
    refine gi_pln (id := 3) (ops := RA Tryd.f14 [1, 1, 0]) [0] (by kernel_rfl) (by kernel_rfl) (by kernel_rfl) ?_
    refine plain_act (i := 0) (by kernel_rfl) ?_
    refine an_new (d := 4) (fun xb_ => Value.pointer (some ⟨xb_, 0, none⟩)) (fun xb_ => Obj.cells [Value.pointer none, Value.slice none 0 0].toArray 61 (0, 0)) (fun xb_ => by kernel_rfl) (by kernel_rfl) rfl h0 ?_
    intro r6 w7 (h8 : sat g w7 [Cl r6 [Value.pointer none, Value.slice none 0 0] 61, X, R])
    refine PO.mk ?_
    change WP _ _ (CA Tryd.f14 [1, 1, 1]) _ _ _
    refine fk_cut ([(0, Value.slice p0 n c), (2, Value.string (St [])), (3, Value.int IntKind.i64 0), (4, Value.pointer (some ⟨r6, 0, none⟩)), (9, Value.bool false)] : Fr) (by kernel_rfl) (fun a => WP _ _ _ _ a _) (fun lr9 => ?_)
    refine gi_seq (x := CA Tryd.f14 [1, 1, 1, 0]) (y := CA Tryd.f14 [1, 1, 1, 1]) (by kernel_rfl) ?_
    refine gi_seq (x := CA Tryd.f14 [1, 1, 1, 0, 0]) (y := CA Tryd.f14 [1, 1, 1, 0, 1]) (by kernel_rfl) ?_
    refine gi_pln (id := 4) (ops := RA Tryd.f14 [1, 1, 1, 0, 0]) [0, 1, 2] (by kernel_rfl) (by kernel_rfl) (by kernel_rfl) ?_
    refine plain_batch (rest := []) [⟨0, [], none⟩, ⟨1, [], none⟩, ⟨2, [], none⟩] (l' := ([(12, Value.int IntKind.i64 0), (11, Value.int IntKind.i64 (((n : Nat) : Int))), (10, Value.slice p0 n c), (0, Value.slice p0 n c), (2, Value.string (St [])), (3, Value.int IntKind.i64 0), (4, Value.pointer (some ⟨r6, 0, none⟩)), (9, Value.bool false)] : Fr) ++ lr9) (pts' := []) (eqs := []) (by kernel_rfl) trivial (AllC_nil _) ?_
    refine PO.mk ?_
    change WP _ _ (CA Tryd.f14 [1, 1, 1, 0, 1]) _ _ _
    refine fk_cut ([(0, Value.slice p0 n c), (2, Value.string (St [])), (3, Value.int IntKind.i64 0), (4, Value.pointer (some ⟨r6, 0, none⟩)), (9, Value.bool false), (10, Value.slice p0 n c), (11, Value.int IntKind.i64 (((n : Nat) : Int))), (12, Value.int IntKind.i64 0)] : Fr) (by kernel_rfl) (fun a => WP _ _ _ _ a _) (fun lr10 => ?_)
    refine gi_blk (id := 0) (x := CA Tryd.f14 [1, 1, 1, 0, 1, 0]) (by kernel_rfl) ?_
    have h11 : sat g w7 [Sl 5 1 none 0 0 [], Cl r6 [Value.pointer none, Value.slice none 0 0] 61, X, R] := sl_nil 5 1 h8
    have h12 : sat g w7 [Cl r6 [Value.pointer none, Value.slice none 0 0] 61, Sl 5 1 none 0 0 [], X, R] := sat_sel [1, 0, 2, 3] rfl h11
    have h13 : sat g w7 [Bd r6 [], X, R] := bd_close (p := none) (.inl rfl) (fun _ => rfl) h12
    refine gi_lp (x := CA Tryd.f14 [1, 1, 1, 0, 1, 0, 0]) (by kernel_rfl) (fun mz_ a w => ∃ i : Nat, ∃ lr : Fr, mz_ = n - i ∧ (i ≤ n) ∧ (∀ (j : Nat) (z : Int), j < i → l[j]? = some z → 1 ≤ z ∧ z ≤ 3) ∧ a = mk 28 (([(4, Value.pointer (some ⟨r6, 0, none⟩)), (10, Value.slice p0 n c), (11, Value.int IntKind.i64 (((n : Nat) : Int))), (12, Value.int IntKind.i64 (((i : Nat) : Int)))] : Fr) ++ lr) ∧ sat g w [Bd r6 ((l.take i).map lt), X, R]) (n - 0) ⟨0, _, rfl, (Nat.zero_le _), (fun _ _ h => absurd h (Nat.not_lt_zero _)), (mk_live [(4, Value.pointer (some ⟨r6, 0, none⟩)), (10, Value.slice p0 n c), (11, Value.int IntKind.i64 (((n : Nat) : Int))), (12, Value.int IntKind.i64 (((0 : Nat) : Int)))] ⟨rfl, rfl, rfl, (ov_int (by omega)), trivial⟩), h13⟩ ?_
    rintro m15 a16 w17 ⟨i, lr14, rfl, hi, hall, rfl, h18⟩
    change WP _ _ (CA Tryd.f14 [1, 1, 1, 0, 1, 0, 0]) _ _ _
    refine gi_seq (x := CA Tryd.f14 [1, 1, 1, 0, 1, 0, 0, 0]) (y := CA Tryd.f14 [1, 1, 1, 0, 1, 0, 0, 1]) (by kernel_rfl) ?_
    refine gi_pln (id := 5) (ops := RA Tryd.f14 [1, 1, 1, 0, 1, 0, 0, 0]) [0] (by kernel_rfl) (by kernel_rfl) (by kernel_rfl) ?_
    by_cases c19 : ((i : Nat) : Int) < ((n : Nat) : Int)
    ·
      refine plain_batch (rest := []) [⟨0, [], some (Value.bool true)⟩] (l' := ([(13, Value.bool true), (4, Value.pointer (some ⟨r6, 0, none⟩)), (10, Value.slice p0 n c), (11, Value.int IntKind.i64 (((n : Nat) : Int))), (12, Value.int IntKind.i64 (((i : Nat) : Int)))] : Fr) ++ lr14) (pts' := []) (eqs := [(Value.bool (decide (((i : Nat) : Int) < ((n : Nat) : Int))), Value.bool true)]) (by kernel_rfl) ⟨(ov_t (by omega)), trivial⟩ (AllC_nil _) ?_
      refine PO.mk ?_
      change WP _ _ (CA Tryd.f14 [1, 1, 1, 0, 1, 0, 0, 1]) _ _ _
      refine fk_cut ([(4, Value.pointer (some ⟨r6, 0, none⟩)), (10, Value.slice p0 n c), (11, Value.int IntKind.i64 (((n : Nat) : Int))), (12, Value.int IntKind.i64 (((i : Nat) : Int))), (13, Value.bool true)] : Fr) (by kernel_rfl) (fun a => WP _ _ _ _ a _) (fun lr20 => ?_)
      refine gi_seq (x := CA Tryd.f14 [1, 1, 1, 0, 1, 0, 0, 1, 0]) (y := CA Tryd.f14 [1, 1, 1, 0, 1, 0, 0, 1, 1]) (by kernel_rfl) ?_
      refine gi_cnd (x := (Operand.tmp 13)) (s := CA Tryd.f14 [1, 1, 1, 0, 1, 0, 0, 1, 0, 0]) (t := CA Tryd.f14 [1, 1, 1, 0, 1, 0, 0, 1, 0, 1]) true (by kernel_rfl) (by kernel_rfl) ?_
      change WP _ _ (CA Tryd.f14 [1, 1, 1, 0, 1, 0, 0, 1, 0, 0]) _ _ _
      refine gi_skp (by kernel_rfl) ?_
      change WP _ _ (CA Tryd.f14 [1, 1, 1, 0, 1, 0, 0, 1, 1]) _ _ _
      refine gi_seq (x := CA Tryd.f14 [1, 1, 1, 0, 1, 0, 0, 1, 1, 0]) (y := CA Tryd.f14 [1, 1, 1, 0, 1, 0, 0, 1, 1, 1]) (by kernel_rfl) ?_
      refine gi_blk (id := 1) (x := CA Tryd.f14 [1, 1, 1, 0, 1, 0, 0, 1, 1, 0, 0]) (by kernel_rfl) ?_
      refine gi_seq (x := CA Tryd.f14 [1, 1, 1, 0, 1, 0, 0, 1, 1, 0, 0, 0]) (y := CA Tryd.f14 [1, 1, 1, 0, 1, 0, 0, 1, 1, 0, 0, 1]) (by kernel_rfl) ?_
      refine gi_pln (id := 6) (ops := RA Tryd.f14 [1, 1, 1, 0, 1, 0, 0, 1, 1, 0, 0, 0]) [0, 1, 2] (by kernel_rfl) (by kernel_rfl) (by kernel_rfl) ?_
      obtain ⟨b21, off23, hp22⟩ := gv_ptr (j := 1) h18 rfl hX (by omega)
      refine plain_law (i := 0) 14 (Value.pointer (some ⟨b21, off23 + i, none⟩)) (by kernel_rfl) (law_indexSlP (o := opA (RA Tryd.f14 [1, 1, 1, 0, 1, 0, 0, 1, 1, 0, 0, 0]) 0) (x := (Operand.tmp 10)) (i := (Operand.tmp 12)) (p := p0) (b := b21) (off := off23) (z := (((i : Nat) : Int))) (len := n) (cap := c) (by kernel_rfl) Tryd.underlying22 1 (by kernel_rfl) i (by kernel_rfl) hp22 (by kernel_rfl) (by omega) (by omega) (off23 + i) (by omega) _) ?_
      obtain ⟨x24, hx25⟩ : ∃ x, l[i]? = some x := ⟨_, List.getElem?_eq_getElem (by rw [hL]; omega)⟩
      refine plain_batch (rest := []) [⟨1, [Value.int IntKind.i64 x24], none⟩, ⟨2, [], none⟩] (l' := ([(6, Value.int IntKind.i64 x24), (15, Value.int IntKind.i64 x24), (14, Value.pointer (some ⟨b21, off23 + i, none⟩)), (4, Value.pointer (some ⟨r6, 0, none⟩)), (10, Value.slice p0 n c), (11, Value.int IntKind.i64 (((n : Nat) : Int))), (12, Value.int IntKind.i64 (((i : Nat) : Int))), (13, Value.bool true)] : Fr) ++ lr20) (pts' := [(1, ⟨b21, off23 + i, none⟩, Value.int IntKind.i64 x24)]) (eqs := []) (by kernel_rfl) trivial (AllC_cons (gv_cell (j := 1) h18 rfl hX hp22 (fl_get eI_ok (j := 0) (v := Value.int IntKind.i64 x24) hx25 rfl) (off23 + i) (by omega)) (AllC_nil _)) ?_
      refine PO.mk ?_
      change WP _ _ (CA Tryd.f14 [1, 1, 1, 0, 1, 0, 0, 1, 1, 0, 0, 1]) _ _ _
      refine fk_cut ([(4, Value.pointer (some ⟨r6, 0, none⟩)), (6, Value.int IntKind.i64 x24), (10, Value.slice p0 n c), (11, Value.int IntKind.i64 (((n : Nat) : Int))), (12, Value.int IntKind.i64 (((i : Nat) : Int))), (13, Value.bool true)] : Fr) (by kernel_rfl) (fun a => WP _ _ _ _ a _) (fun lr26 => ?_)
      refine gi_seq (x := CA Tryd.f14 [1, 1, 1, 0, 1, 0, 0, 1, 1, 0, 0, 1, 0]) (y := CA Tryd.f14 [1, 1, 1, 0, 1, 0, 0, 1, 1, 0, 0, 1, 1]) (by kernel_rfl) ?_
      refine gi_seq (x := CA Tryd.f14 [1, 1, 1, 0, 1, 0, 0, 1, 1, 0, 0, 1, 0, 0]) (y := CA Tryd.f14 [1, 1, 1, 0, 1, 0, 0, 1, 1, 0, 0, 1, 0, 1]) (by kernel_rfl) ?_
      refine gi_pln (id := 7) (ops := RA Tryd.f14 [1, 1, 1, 0, 1, 0, 0, 1, 1, 0, 0, 1, 0, 0]) [0, 1, 2, 3, 4, 5] (by kernel_rfl) (by kernel_rfl) (by kernel_rfl) ?_
      refine plain_batch (rest := [1, 2, 3, 4, 5]) [⟨0, [], none⟩] (l' := ([(16, Value.int IntKind.i64 x24), (4, Value.pointer (some ⟨r6, 0, none⟩)), (6, Value.int IntKind.i64 x24), (10, Value.slice p0 n c), (11, Value.int IntKind.i64 (((n : Nat) : Int))), (12, Value.int IntKind.i64 (((i : Nat) : Int))), (13, Value.bool true)] : Fr) ++ lr26) (pts' := []) (eqs := []) (by kernel_rfl) trivial (AllC_nil _) ?_
      by_cases c27 : x24 < 1
      ·
        refine plain_batch (rest := []) [⟨1, [], some (Value.bool true)⟩, ⟨2, [], none⟩, ⟨3, [], none⟩, ⟨4, [], none⟩, ⟨5, [], none⟩] (l' := ([(21, Value.bool true), (20, undef), (19, undef), (18, Value.bool true), (17, Value.bool true), (16, Value.int IntKind.i64 x24), (4, Value.pointer (some ⟨r6, 0, none⟩)), (6, Value.int IntKind.i64 x24), (10, Value.slice p0 n c), (11, Value.int IntKind.i64 (((n : Nat) : Int))), (12, Value.int IntKind.i64 (((i : Nat) : Int))), (13, Value.bool true)] : Fr) ++ lr26) (pts' := []) (eqs := [(Value.bool (decide (x24 < 1)), Value.bool true)]) (by kernel_rfl) ⟨(ov_t (by omega)), trivial⟩ (AllC_nil _) ?_
        refine PO.mk ?_
        change WP _ _ (CA Tryd.f14 [1, 1, 1, 0, 1, 0, 0, 1, 1, 0, 0, 1, 0, 1]) _ _ _
        refine fk_cut ([(4, Value.pointer (some ⟨r6, 0, none⟩)), (6, Value.int IntKind.i64 x24), (10, Value.slice p0 n c), (11, Value.int IntKind.i64 (((n : Nat) : Int))), (12, Value.int IntKind.i64 (((i : Nat) : Int))), (13, Value.bool true), (21, Value.bool true)] : Fr) (by kernel_rfl) (fun a => WP _ _ _ _ a _) (fun lr28 => ?_)
        refine gi_cnd (x := (Operand.tmp 21)) (s := CA Tryd.f14 [1, 1, 1, 0, 1, 0, 0, 1, 1, 0, 0, 1, 0, 1, 0]) (t := CA Tryd.f14 [1, 1, 1, 0, 1, 0, 0, 1, 1, 0, 0, 1, 0, 1, 1]) true (by kernel_rfl) (by kernel_rfl) ?_
        change WP _ _ (CA Tryd.f14 [1, 1, 1, 0, 1, 0, 0, 1, 1, 0, 0, 1, 0, 1, 0]) _ _ _
        refine gi_seq (x := CA Tryd.f14 [1, 1, 1, 0, 1, 0, 0, 1, 1, 0, 0, 1, 0, 1, 0, 0]) (y := CA Tryd.f14 [1, 1, 1, 0, 1, 0, 0, 1, 1, 0, 0, 1, 0, 1, 0, 1]) (by kernel_rfl) ?_
        refine gi_pln (id := 8) (ops := RA Tryd.f14 [1, 1, 1, 0, 1, 0, 0, 1, 1, 0, 0, 1, 0, 1, 0, 0]) [0, 1] (by kernel_rfl) (by kernel_rfl) (by kernel_rfl) ?_
        refine plain_batch (rest := []) [⟨0, [], none⟩, ⟨1, [], none⟩] (l' := ([(3, Value.int IntKind.i64 2), (2, Value.string (St [])), (4, Value.pointer (some ⟨r6, 0, none⟩)), (6, Value.int IntKind.i64 x24), (10, Value.slice p0 n c), (11, Value.int IntKind.i64 (((n : Nat) : Int))), (12, Value.int IntKind.i64 (((i : Nat) : Int))), (13, Value.bool true), (21, Value.bool true)] : Fr) ++ lr28) (pts' := []) (eqs := []) (by kernel_rfl) trivial (AllC_nil _) ?_
        refine PO.mk ?_
        change WP _ _ (CA Tryd.f14 [1, 1, 1, 0, 1, 0, 0, 1, 1, 0, 0, 1, 0, 1, 0, 1]) _ _ _
        refine fk_cut ([(2, Value.string (St [])), (3, Value.int IntKind.i64 2), (4, Value.pointer (some ⟨r6, 0, none⟩)), (6, Value.int IntKind.i64 x24), (10, Value.slice p0 n c), (11, Value.int IntKind.i64 (((n : Nat) : Int))), (12, Value.int IntKind.i64 (((i : Nat) : Int))), (13, Value.bool true), (21, Value.bool true)] : Fr) (by kernel_rfl) (fun a => WP _ _ _ _ a _) (fun lr29 => ?_)
        refine gi_rt (by kernel_rfl) ?_
        repeat (first | simp only [Exit.inBlock] | simp only [Exit.then])
        have h30 : sat g w17 [X, Bd r6 ((l.take i).map lt), R] := sat_sel [1, 0, 2] rfl h18
        have h31 : sat g w17 [X, R] := sat_sel [0, 2] rfl h30
        refine hi_out [] (Value.tuple #[Value.string (St []), Value.int IntKind.i64 2]) [] (by kernel_rfl) (by intro q hq; cases hq) ?_
        exact ⟨Value.tuple #[Value.string (St []), Value.int IntKind.i64 2], [X], rfl, ⟨by rw [(prt_arg (by omega) hx25 (by omega))], rfl⟩, h31⟩
      ·
        refine plain_batch (rest := [4, 5]) [⟨1, [], some (Value.bool false)⟩, ⟨2, [], none⟩, ⟨3, [], none⟩] (l' := ([(19, Value.int IntKind.i64 x24), (18, Value.bool false), (17, Value.bool false), (16, Value.int IntKind.i64 x24), (4, Value.pointer (some ⟨r6, 0, none⟩)), (6, Value.int IntKind.i64 x24), (10, Value.slice p0 n c), (11, Value.int IntKind.i64 (((n : Nat) : Int))), (12, Value.int IntKind.i64 (((i : Nat) : Int))), (13, Value.bool true)] : Fr) ++ lr26) (pts' := []) (eqs := [(Value.bool (decide (x24 < 1)), Value.bool false)]) (by kernel_rfl) ⟨(ov_f (by omega)), trivial⟩ (AllC_nil _) ?_
        by_cases c32 : x24 > 3
        ·
          refine plain_batch (rest := []) [⟨4, [], some (Value.bool true)⟩, ⟨5, [], none⟩] (l' := ([(21, Value.bool true), (20, Value.bool true), (19, Value.int IntKind.i64 x24), (18, Value.bool false), (17, Value.bool false), (16, Value.int IntKind.i64 x24), (4, Value.pointer (some ⟨r6, 0, none⟩)), (6, Value.int IntKind.i64 x24), (10, Value.slice p0 n c), (11, Value.int IntKind.i64 (((n : Nat) : Int))), (12, Value.int IntKind.i64 (((i : Nat) : Int))), (13, Value.bool true)] : Fr) ++ lr26) (pts' := []) (eqs := [(Value.bool (decide (x24 > 3)), Value.bool true)]) (by kernel_rfl) ⟨(ov_t (by omega)), trivial⟩ (AllC_nil _) ?_
          refine PO.mk ?_
          change WP _ _ (CA Tryd.f14 [1, 1, 1, 0, 1, 0, 0, 1, 1, 0, 0, 1, 0, 1]) _ _ _
          refine fk_cut ([(4, Value.pointer (some ⟨r6, 0, none⟩)), (6, Value.int IntKind.i64 x24), (10, Value.slice p0 n c), (11, Value.int IntKind.i64 (((n : Nat) : Int))), (12, Value.int IntKind.i64 (((i : Nat) : Int))), (13, Value.bool true), (21, Value.bool true)] : Fr) (by kernel_rfl) (fun a => WP _ _ _ _ a _) (fun lr33 => ?_)
          refine gi_cnd (x := (Operand.tmp 21)) (s := CA Tryd.f14 [1, 1, 1, 0, 1, 0, 0, 1, 1, 0, 0, 1, 0, 1, 0]) (t := CA Tryd.f14 [1, 1, 1, 0, 1, 0, 0, 1, 1, 0, 0, 1, 0, 1, 1]) true (by kernel_rfl) (by kernel_rfl) ?_
          change WP _ _ (CA Tryd.f14 [1, 1, 1, 0, 1, 0, 0, 1, 1, 0, 0, 1, 0, 1, 0]) _ _ _
          refine gi_seq (x := CA Tryd.f14 [1, 1, 1, 0, 1, 0, 0, 1, 1, 0, 0, 1, 0, 1, 0, 0]) (y := CA Tryd.f14 [1, 1, 1, 0, 1, 0, 0, 1, 1, 0, 0, 1, 0, 1, 0, 1]) (by kernel_rfl) ?_
          refine gi_pln (id := 8) (ops := RA Tryd.f14 [1, 1, 1, 0, 1, 0, 0, 1, 1, 0, 0, 1, 0, 1, 0, 0]) [0, 1] (by kernel_rfl) (by kernel_rfl) (by kernel_rfl) ?_
          refine plain_batch (rest := []) [⟨0, [], none⟩, ⟨1, [], none⟩] (l' := ([(3, Value.int IntKind.i64 2), (2, Value.string (St [])), (4, Value.pointer (some ⟨r6, 0, none⟩)), (6, Value.int IntKind.i64 x24), (10, Value.slice p0 n c), (11, Value.int IntKind.i64 (((n : Nat) : Int))), (12, Value.int IntKind.i64 (((i : Nat) : Int))), (13, Value.bool true), (21, Value.bool true)] : Fr) ++ lr33) (pts' := []) (eqs := []) (by kernel_rfl) trivial (AllC_nil _) ?_
          refine PO.mk ?_
          change WP _ _ (CA Tryd.f14 [1, 1, 1, 0, 1, 0, 0, 1, 1, 0, 0, 1, 0, 1, 0, 1]) _ _ _
          refine fk_cut ([(2, Value.string (St [])), (3, Value.int IntKind.i64 2), (4, Value.pointer (some ⟨r6, 0, none⟩)), (6, Value.int IntKind.i64 x24), (10, Value.slice p0 n c), (11, Value.int IntKind.i64 (((n : Nat) : Int))), (12, Value.int IntKind.i64 (((i : Nat) : Int))), (13, Value.bool true), (21, Value.bool true)] : Fr) (by kernel_rfl) (fun a => WP _ _ _ _ a _) (fun lr34 => ?_)
          refine gi_rt (by kernel_rfl) ?_
          repeat (first | simp only [Exit.inBlock] | simp only [Exit.then])
          have h35 : sat g w17 [X, Bd r6 ((l.take i).map lt), R] := sat_sel [1, 0, 2] rfl h18
          have h36 : sat g w17 [X, R] := sat_sel [0, 2] rfl h35
          refine hi_out [] (Value.tuple #[Value.string (St []), Value.int IntKind.i64 2]) [] (by kernel_rfl) (by intro q hq; cases hq) ?_
          exact ⟨Value.tuple #[Value.string (St []), Value.int IntKind.i64 2], [X], rfl, ⟨by rw [(prt_arg (by omega) hx25 (by omega))], rfl⟩, h36⟩
        ·
          refine plain_batch (rest := []) [⟨4, [], some (Value.bool false)⟩, ⟨5, [], none⟩] (l' := ([(21, Value.bool false), (20, Value.bool false), (19, Value.int IntKind.i64 x24), (18, Value.bool false), (17, Value.bool false), (16, Value.int IntKind.i64 x24), (4, Value.pointer (some ⟨r6, 0, none⟩)), (6, Value.int IntKind.i64 x24), (10, Value.slice p0 n c), (11, Value.int IntKind.i64 (((n : Nat) : Int))), (12, Value.int IntKind.i64 (((i : Nat) : Int))), (13, Value.bool true)] : Fr) ++ lr26) (pts' := []) (eqs := [(Value.bool (decide (x24 > 3)), Value.bool false)]) (by kernel_rfl) ⟨(ov_f (by omega)), trivial⟩ (AllC_nil _) ?_
          refine PO.mk ?_
          change WP _ _ (CA Tryd.f14 [1, 1, 1, 0, 1, 0, 0, 1, 1, 0, 0, 1, 0, 1]) _ _ _
          refine fk_cut ([(4, Value.pointer (some ⟨r6, 0, none⟩)), (6, Value.int IntKind.i64 x24), (10, Value.slice p0 n c), (11, Value.int IntKind.i64 (((n : Nat) : Int))), (12, Value.int IntKind.i64 (((i : Nat) : Int))), (13, Value.bool true), (21, Value.bool false)] : Fr) (by kernel_rfl) (fun a => WP _ _ _ _ a _) (fun lr37 => ?_)
          refine gi_cnd (x := (Operand.tmp 21)) (s := CA Tryd.f14 [1, 1, 1, 0, 1, 0, 0, 1, 1, 0, 0, 1, 0, 1, 0]) (t := CA Tryd.f14 [1, 1, 1, 0, 1, 0, 0, 1, 1, 0, 0, 1, 0, 1, 1]) false (by kernel_rfl) (by kernel_rfl) ?_
          change WP _ _ (CA Tryd.f14 [1, 1, 1, 0, 1, 0, 0, 1, 1, 0, 0, 1, 0, 1, 1]) _ _ _
          refine gi_skp (by kernel_rfl) ?_
          change WP _ _ (CA Tryd.f14 [1, 1, 1, 0, 1, 0, 0, 1, 1, 0, 0, 1, 1]) _ _ _
          refine gi_pln (id := 9) (ops := RA Tryd.f14 [1, 1, 1, 0, 1, 0, 0, 1, 1, 0, 0, 1, 1]) [0, 1, 2, 3] (by kernel_rfl) (by kernel_rfl) (by kernel_rfl) ?_
          obtain ⟨kk38, hk39⟩ : ∃ z_ : Nat, x24 = (z_ : Int) := ⟨(x24).toNat, by omega⟩
          refine plain_batch (rest := [1, 2, 3]) [⟨0, [], none⟩] (l' := ([(22, Value.int IntKind.i64 x24), (4, Value.pointer (some ⟨r6, 0, none⟩)), (6, Value.int IntKind.i64 x24), (10, Value.slice p0 n c), (11, Value.int IntKind.i64 (((n : Nat) : Int))), (12, Value.int IntKind.i64 (((i : Nat) : Int))), (13, Value.bool true), (21, Value.bool false)] : Fr) ++ lr37) (pts' := []) (eqs := []) (by kernel_rfl) trivial (AllC_nil _) ?_
          refine plain_law (i := 1) 23 (Value.pointer (some ⟨0, kk38, none⟩)) (by kernel_rfl) (law_indexArr (o := opA (RA Tryd.f14 [1, 1, 1, 0, 1, 0, 0, 1, 1, 0, 0, 1, 1]) 1) (x := (Operand.global 0)) (i := (Operand.tmp 22)) (b := 0) (off := 0) (z := x24) (by kernel_rfl) Tryd.underlying65 1 (by kernel_rfl) kk38 (by kernel_rfl) (by kernel_rfl) (by omega) (by omega) kk38 (by omega) _) ?_
          refine plain_batch (rest := [3]) [⟨2, [Value.int IntKind.u8 ((((lt x24).toNat : Nat) : Int))], none⟩] (l' := ([(24, Value.int IntKind.u8 ((((lt x24).toNat : Nat) : Int))), (23, Value.pointer (some ⟨0, kk38, none⟩)), (22, Value.int IntKind.i64 x24), (4, Value.pointer (some ⟨r6, 0, none⟩)), (6, Value.int IntKind.i64 x24), (10, Value.slice p0 n c), (11, Value.int IntKind.i64 (((n : Nat) : Int))), (12, Value.int IntKind.i64 (((i : Nat) : Int))), (13, Value.bool true), (21, Value.bool false)] : Fr) ++ lr37) (pts' := [(2, ⟨0, kk38, none⟩, Value.int IntKind.u8 ((((lt x24).toNat : Nat) : Int)))]) (eqs := []) (by kernel_rfl) trivial (AllC_cons (gv_cell (j := 1) h18 rfl hg rfl (let_at (z := x24) (by omega) (by omega) (by omega)) _ (by omega)) (AllC_nil _)) ?_
          refine plain_act (i := 3) (by kernel_rfl) ?_
          refine an_call (d := some 25) (f := 32) (args := [Value.pointer (some ⟨r6, 0, none⟩), Value.int IntKind.u8 ((((lt x24).toNat : Nat) : Int))]) (by kernel_rfl) Tryd.call32 (wb_ht r6 ((l.take i).map lt) (lt x24) (by rw [List.length_map, List.length_take]; omega)) (F := [X, R]) h18 ?_
          rintro v K w40 (⟨rfl, rfl⟩) h41
          refine ⟨_, rfl, ?_⟩
          have h42 : sat g w40 [Bd r6 (((l.take i).map lt) ++ [(lt x24)]), X, R] := h41
          refine PO.mk ?_
          change WP _ _ (CA Tryd.f14 [1, 1, 1, 0, 1, 0, 0, 1, 1, 1]) _ _ _
          refine fk_cut ([(4, Value.pointer (some ⟨r6, 0, none⟩)), (6, Value.int IntKind.i64 x24), (10, Value.slice p0 n c), (11, Value.int IntKind.i64 (((n : Nat) : Int))), (12, Value.int IntKind.i64 (((i : Nat) : Int))), (13, Value.bool true), (21, Value.bool false)] : Fr) (by kernel_rfl) (fun a => WP _ _ _ _ a _) (fun lr43 => ?_)
          refine gi_pln (id := 10) (ops := RA Tryd.f14 [1, 1, 1, 0, 1, 0, 0, 1, 1, 1]) [0, 1] (by kernel_rfl) (by kernel_rfl) (by kernel_rfl) ?_
          refine plain_batch (rest := []) [⟨0, [], some (Value.int IntKind.i64 (((i : Nat) : Int) + 1))⟩, ⟨1, [], none⟩] (l' := ([(12, Value.int IntKind.i64 (((i : Nat) : Int) + 1)), (26, Value.int IntKind.i64 (((i : Nat) : Int) + 1)), (4, Value.pointer (some ⟨r6, 0, none⟩)), (6, Value.int IntKind.i64 x24), (10, Value.slice p0 n c), (11, Value.int IntKind.i64 (((n : Nat) : Int))), (12, Value.int IntKind.i64 (((i : Nat) : Int))), (13, Value.bool true), (21, Value.bool false)] : Fr) ++ lr43) (pts' := []) (eqs := [(Value.int IntKind.i64 (IntKind.wrap IntKind.i64 ((((i : Nat) : Int)) + 1)), Value.int IntKind.i64 (((i : Nat) : Int) + 1))]) (by kernel_rfl) ⟨(ov_i64 (by omega) (by omega) (by omega)), trivial⟩ (AllC_nil _) ?_
          refine PO.mk ?_
          have h44 : sat g w40 [Bd r6 ((l.take (i + 1)).map lt), X, R] := (show (((l.take i).map lt) ++ [(lt x24)]) = ((l.take (i + 1)).map lt) from (tk_eq hx25 rfl)) ▸ h42
          change ∃ n', n' < _ ∧ _
          refine ⟨(n - (i + 1)), by omega, (i + 1), _, rfl, (by omega), (all_go hall hx25 (by omega) (by omega)), (mk_live [(4, Value.pointer (some ⟨r6, 0, none⟩)), (10, Value.slice p0 n c), (11, Value.int IntKind.i64 (((n : Nat) : Int))), (12, Value.int IntKind.i64 ((((i + 1) : Nat) : Int)))] ⟨rfl, rfl, rfl, (ov_int (by omega)), trivial⟩), h44⟩
    ·
      refine plain_batch (rest := []) [⟨0, [], some (Value.bool false)⟩] (l' := ([(13, Value.bool false), (4, Value.pointer (some ⟨r6, 0, none⟩)), (10, Value.slice p0 n c), (11, Value.int IntKind.i64 (((n : Nat) : Int))), (12, Value.int IntKind.i64 (((i : Nat) : Int)))] : Fr) ++ lr14) (pts' := []) (eqs := [(Value.bool (decide (((i : Nat) : Int) < ((n : Nat) : Int))), Value.bool false)]) (by kernel_rfl) ⟨(ov_f (by omega)), trivial⟩ (AllC_nil _) ?_
      refine PO.mk ?_
      change WP _ _ (CA Tryd.f14 [1, 1, 1, 0, 1, 0, 0, 1]) _ _ _
      refine fk_cut ([(4, Value.pointer (some ⟨r6, 0, none⟩)), (10, Value.slice p0 n c), (11, Value.int IntKind.i64 (((n : Nat) : Int))), (12, Value.int IntKind.i64 (((i : Nat) : Int))), (13, Value.bool false)] : Fr) (by kernel_rfl) (fun a => WP _ _ _ _ a _) (fun lr45 => ?_)
      refine gi_seq (x := CA Tryd.f14 [1, 1, 1, 0, 1, 0, 0, 1, 0]) (y := CA Tryd.f14 [1, 1, 1, 0, 1, 0, 0, 1, 1]) (by kernel_rfl) ?_
      refine gi_cnd (x := (Operand.tmp 13)) (s := CA Tryd.f14 [1, 1, 1, 0, 1, 0, 0, 1, 0, 0]) (t := CA Tryd.f14 [1, 1, 1, 0, 1, 0, 0, 1, 0, 1]) false (by kernel_rfl) (by kernel_rfl) ?_
      change WP _ _ (CA Tryd.f14 [1, 1, 1, 0, 1, 0, 0, 1, 0, 1]) _ _ _
      refine gi_ext (id := 0) (by kernel_rfl) ?_
      change WP _ _ (CA Tryd.f14 [1, 1, 1, 1]) _ _ _
      refine gi_seq (x := CA Tryd.f14 [1, 1, 1, 1, 0]) (y := CA Tryd.f14 [1, 1, 1, 1, 1]) (by kernel_rfl) ?_
      refine gi_pln (id := 11) (ops := RA Tryd.f14 [1, 1, 1, 1, 0]) [0, 1, 2] (by kernel_rfl) (by kernel_rfl) (by kernel_rfl) ?_
      refine plain_act (i := 0) (by kernel_rfl) ?_
      refine an_call (d := some 27) (f := 33) (args := [Value.pointer (some ⟨r6, 0, none⟩)]) (by kernel_rfl) Tryd.call33 (bstr_ht r6 ((l.take i).map lt) (by rw [List.length_map, List.length_take]; omega)) (F := [X, R]) h18 ?_
      rintro v K w46 (⟨rfl, rfl⟩) h47
      refine ⟨_, rfl, ?_⟩
      have h48 : sat g w46 [X, R] := h47
      refine plain_batch (rest := []) [⟨1, [], none⟩, ⟨2, [], none⟩] (l' := ([(3, Value.int IntKind.i64 0), (2, Value.string (St ((l.take i).map lt))), (27, Value.string (St ((l.take i).map lt))), (4, Value.pointer (some ⟨r6, 0, none⟩)), (10, Value.slice p0 n c), (11, Value.int IntKind.i64 (((n : Nat) : Int))), (12, Value.int IntKind.i64 (((i : Nat) : Int))), (13, Value.bool false)] : Fr) ++ lr45) (pts' := []) (eqs := []) (by kernel_rfl) trivial (AllC_nil _) ?_
      refine PO.mk ?_
      change WP _ _ (CA Tryd.f14 [1, 1, 1, 1, 1]) _ _ _
      refine fk_cut ([(2, Value.string (St ((l.take i).map lt))), (3, Value.int IntKind.i64 0), (4, Value.pointer (some ⟨r6, 0, none⟩)), (10, Value.slice p0 n c), (11, Value.int IntKind.i64 (((n : Nat) : Int))), (12, Value.int IntKind.i64 (((i : Nat) : Int))), (13, Value.bool false)] : Fr) (by kernel_rfl) (fun a => WP _ _ _ _ a _) (fun lr49 => ?_)
      refine gi_rt (by kernel_rfl) ?_
      repeat (first | simp only [Exit.inBlock] | simp only [Exit.then])
      refine hi_out [] (Value.tuple #[Value.string (St ((l.take i).map lt)), Value.int IntKind.i64 0]) [] (by kernel_rfl) (by intro q hq; cases hq) ?_
      exact ⟨Value.tuple #[Value.string (St ((l.take i).map lt)), Value.int IntKind.i64 0], [X], rfl, ⟨by rw [(prt_all (i := i) (by omega) (by omega) hall), show (l.take i).map lt = l.map lt from tk_all (by omega)], rfl⟩, h48⟩

set_option maxHeartbeats 4000000 in
theorem rprint_ht (p0 : Option Addr) (n c : Nat) (l : List Int) (X : Assn) (hX : Gv X p0 n (fl eI l)) (hL : l.length = n) (hn : n ≤ 1099511627776) : HT Tryd.prog 15 [Value.slice p0 n c] [X] (fun v K => v = Value.tuple #[Value.string (St (prt l).1), Value.int .i64 (prt l).2] ∧ K = [X]) := by
  refine hi_in 37 ([(0, Value.slice p0 n c)] : Fr) Tryd.func15 (by kernel_rfl) Tryd.ntmps15 rfl rfl ?_
  intro g w0 R h0
  refine gi_seq (x := CA Tryd.f15 [0]) (y := CA Tryd.f15 [1]) (by kernel_rfl) ?_
  refine gi_pln (id := 0) (ops := RA Tryd.f15 [0]) [0, 1] (by kernel_rfl) (by kernel_rfl) (by kernel_rfl) ?_
  refine plain_batch (rest := []) [⟨0, [], none⟩, ⟨1, [], none⟩] (l' := ([(3, Value.int IntKind.i64 0), (2, Value.string (St [])), (0, Value.slice p0 n c)] : Fr)) (pts' := []) (eqs := []) (by kernel_rfl) trivial (AllC_nil _) ?_
  refine PO.mk ?_
  change WP _ _ (CA Tryd.f15 [1]) _ _ _
  refine fk_cut ([(0, Value.slice p0 n c), (2, Value.string (St [])), (3, Value.int IntKind.i64 0)] : Fr) (by kernel_rfl) (fun a => WP _ _ _ _ a _) (fun lr1 => ?_)
  refine gi_seq (x := CA Tryd.f15 [1, 0]) (y := CA Tryd.f15 [1, 1]) (by kernel_rfl) ?_
  refine gi_seq (x := CA Tryd.f15 [1, 0, 0]) (y := CA Tryd.f15 [1, 0, 1]) (by kernel_rfl) ?_
  refine gi_pln (id := 1) (ops := RA Tryd.f15 [1, 0, 0]) [0, 1, 2] (by kernel_rfl) (by kernel_rfl) (by kernel_rfl) ?_
  refine plain_batch (rest := [2]) [⟨0, [], none⟩, ⟨1, [], none⟩] (l' := ([(7, Value.int IntKind.i64 (((n : Nat) : Int))), (6, Value.slice p0 n c), (0, Value.slice p0 n c), (2, Value.string (St [])), (3, Value.int IntKind.i64 0)] : Fr) ++ lr1) (pts' := []) (eqs := []) (by kernel_rfl) trivial (AllC_nil _) ?_
  by_cases c2 : ((n : Nat) : Int) > 2000
  ·
    refine plain_batch (rest := []) [⟨2, [], some (Value.bool true)⟩] (l' := ([(8, Value.bool true), (7, Value.int IntKind.i64 (((n : Nat) : Int))), (6, Value.slice p0 n c), (0, Value.slice p0 n c), (2, Value.string (St [])), (3, Value.int IntKind.i64 0)] : Fr) ++ lr1) (pts' := []) (eqs := [(Value.bool (decide (((n : Nat) : Int) > 2000)), Value.bool true)]) (by kernel_rfl) ⟨(ov_t (by omega)), trivial⟩ (AllC_nil _) ?_
    refine PO.mk ?_
    change WP _ _ (CA Tryd.f15 [1, 0, 1]) _ _ _
    refine fk_cut ([(0, Value.slice p0 n c), (2, Value.string (St [])), (3, Value.int IntKind.i64 0), (8, Value.bool true)] : Fr) (by kernel_rfl) (fun a => WP _ _ _ _ a _) (fun lr3 => ?_)
    refine gi_cnd (x := (Operand.tmp 8)) (s := CA Tryd.f15 [1, 0, 1, 0]) (t := CA Tryd.f15 [1, 0, 1, 1]) true (by kernel_rfl) (by kernel_rfl) ?_
    change WP _ _ (CA Tryd.f15 [1, 0, 1, 0]) _ _ _
    refine gi_seq (x := CA Tryd.f15 [1, 0, 1, 0, 0]) (y := CA Tryd.f15 [1, 0, 1, 0, 1]) (by kernel_rfl) ?_
    refine gi_pln (id := 2) (ops := RA Tryd.f15 [1, 0, 1, 0, 0]) [0, 1] (by kernel_rfl) (by kernel_rfl) (by kernel_rfl) ?_
    refine plain_batch (rest := []) [⟨0, [], none⟩, ⟨1, [], none⟩] (l' := ([(3, Value.int IntKind.i64 11), (2, Value.string (St [])), (0, Value.slice p0 n c), (2, Value.string (St [])), (3, Value.int IntKind.i64 0), (8, Value.bool true)] : Fr) ++ lr3) (pts' := []) (eqs := []) (by kernel_rfl) trivial (AllC_nil _) ?_
    refine PO.mk ?_
    change WP _ _ (CA Tryd.f15 [1, 0, 1, 0, 1]) _ _ _
    refine fk_cut ([(0, Value.slice p0 n c), (2, Value.string (St [])), (3, Value.int IntKind.i64 11), (8, Value.bool true)] : Fr) (by kernel_rfl) (fun a => WP _ _ _ _ a _) (fun lr4 => ?_)
    refine gi_rt (by kernel_rfl) ?_
    repeat (first | simp only [Exit.inBlock] | simp only [Exit.then])
    refine hi_out [] (Value.tuple #[Value.string (St []), Value.int IntKind.i64 11]) [] (by kernel_rfl) (by intro q hq; cases hq) ?_
    exact ⟨Value.tuple #[Value.string (St []), Value.int IntKind.i64 11], [X], rfl, ⟨by rw [(prt_many (by omega))], rfl⟩, h0⟩
  ·
    refine plain_batch (rest := []) [⟨2, [], some (Value.bool false)⟩] (l' := ([(8, Value.bool false), (7, Value.int IntKind.i64 (((n : Nat) : Int))), (6, Value.slice p0 n c), (0, Value.slice p0 n c), (2, Value.string (St [])), (3, Value.int IntKind.i64 0)] : Fr) ++ lr1) (pts' := []) (eqs := [(Value.bool (decide (((n : Nat) : Int) > 2000)), Value.bool false)]) (by kernel_rfl) ⟨(ov_f (by omega)), trivial⟩ (AllC_nil _) ?_
    refine PO.mk ?_
    change WP _ _ (CA Tryd.f15 [1, 0, 1]) _ _ _
    refine fk_cut ([(0, Value.slice p0 n c), (2, Value.string (St [])), (3, Value.int IntKind.i64 0), (8, Value.bool false)] : Fr) (by kernel_rfl) (fun a => WP _ _ _ _ a _) (fun lr5 => ?_)
    refine gi_cnd (x := (Operand.tmp 8)) (s := CA Tryd.f15 [1, 0, 1, 0]) (t := CA Tryd.f15 [1, 0, 1, 1]) false (by kernel_rfl) (by kernel_rfl) ?_
    change WP _ _ (CA Tryd.f15 [1, 0, 1, 1]) _ _ _
    refine gi_skp (by kernel_rfl) ?_
    change WP _ _ (CA Tryd.f15 [1, 1]) _ _ _
    refine gi_seq (x := CA Tryd.f15 [1, 1, 0]) (y := CA Tryd.f15 [1, 1, 1]) (by kernel_rfl) ?_
    refine gi_pln (id := 3) (ops := RA Tryd.f15 [1, 1, 0]) [0] (by kernel_rfl) (by kernel_rfl) (by kernel_rfl) ?_
    refine plain_batch (rest := []) [⟨0, [], none⟩] (l' := ([(4, Value.slice none 0 0), (0, Value.slice p0 n c), (2, Value.string (St [])), (3, Value.int IntKind.i64 0), (8, Value.bool false)] : Fr) ++ lr5) (pts' := []) (eqs := []) (by kernel_rfl) trivial (AllC_nil _) ?_
    refine PO.mk ?_
    change WP _ _ (CA Tryd.f15 [1, 1, 1]) _ _ _
    refine fk_cut ([(0, Value.slice p0 n c), (2, Value.string (St [])), (3, Value.int IntKind.i64 0), (4, Value.slice none 0 0), (8, Value.bool false)] : Fr) (by kernel_rfl) (fun a => WP _ _ _ _ a _) (fun lr6 => ?_)
    refine gi_seq (x := CA Tryd.f15 [1, 1, 1, 0]) (y := CA Tryd.f15 [1, 1, 1, 1]) (by kernel_rfl) ?_
    refine gi_seq (x := CA Tryd.f15 [1, 1, 1, 0, 0]) (y := CA Tryd.f15 [1, 1, 1, 0, 1]) (by kernel_rfl) ?_
    refine gi_pln (id := 4) (ops := RA Tryd.f15 [1, 1, 1, 0, 0]) [0] (by kernel_rfl) (by kernel_rfl) (by kernel_rfl) ?_
    refine plain_batch (rest := []) [⟨0, [], none⟩] (l' := ([(5, Value.int IntKind.i64 0), (0, Value.slice p0 n c), (2, Value.string (St [])), (3, Value.int IntKind.i64 0), (4, Value.slice none 0 0), (8, Value.bool false)] : Fr) ++ lr6) (pts' := []) (eqs := []) (by kernel_rfl) trivial (AllC_nil _) ?_
    refine PO.mk ?_
    change WP _ _ (CA Tryd.f15 [1, 1, 1, 0, 1]) _ _ _
    refine fk_cut ([(0, Value.slice p0 n c), (2, Value.string (St [])), (3, Value.int IntKind.i64 0), (4, Value.slice none 0 0), (5, Value.int IntKind.i64 0), (8, Value.bool false)] : Fr) (by kernel_rfl) (fun a => WP _ _ _ _ a _) (fun lr7 => ?_)
    refine gi_blk (id := 0) (x := CA Tryd.f15 [1, 1, 1, 0, 1, 0]) (by kernel_rfl) ?_
    have h8 : sat g w0 [Sl 5 1 none 0 0 (fl eB []), X, R] := sl_nil 5 1 h0
    refine gi_lp (x := CA Tryd.f15 [1, 1, 1, 0, 1, 0, 0]) (by kernel_rfl) (fun mz_ a w => ∃ i : Nat, ∃ p2 : Option Addr, ∃ c2 : Nat, ∃ lr : Fr, mz_ = n - i ∧ (i ≤ n) ∧ (∀ (j : Nat) (z : Int), j < i → l[j]? = some z → 1 ≤ z ∧ z ≤ 3) ∧ a = mk 37 (([(0, Value.slice p0 n c), (4, Value.slice p2 i c2), (5, Value.int IntKind.i64 (((i : Nat) : Int)))] : Fr) ++ lr) ∧ sat g w [Sl 5 1 p2 i c2 (fl eB ((l.take i).map lt)), X, R]) (n - 0) ⟨0, none, 0, _, rfl, (Nat.zero_le _), (fun _ _ h => absurd h (Nat.not_lt_zero _)), (mk_live [(0, Value.slice p0 n c), (4, Value.slice none 0 0), (5, Value.int IntKind.i64 (((0 : Nat) : Int)))] ⟨rfl, rfl, (ov_int (by omega)), trivial⟩), h8⟩ ?_
    rintro m10 a11 w12 ⟨i, p2, c2, lr9, rfl, hi, hall, rfl, h13⟩
    obtain ⟨_, _⟩ := sl_le h13
    change WP _ _ (CA Tryd.f15 [1, 1, 1, 0, 1, 0, 0]) _ _ _
    refine gi_seq (x := CA Tryd.f15 [1, 1, 1, 0, 1, 0, 0, 0]) (y := CA Tryd.f15 [1, 1, 1, 0, 1, 0, 0, 1]) (by kernel_rfl) ?_
    refine gi_seq (x := CA Tryd.f15 [1, 1, 1, 0, 1, 0, 0, 0, 0]) (y := CA Tryd.f15 [1, 1, 1, 0, 1, 0, 0, 0, 1]) (by kernel_rfl) ?_
    refine gi_pln (id := 5) (ops := RA Tryd.f15 [1, 1, 1, 0, 1, 0, 0, 0, 0]) [0, 1, 2, 3] (by kernel_rfl) (by kernel_rfl) (by kernel_rfl) ?_
    refine plain_batch (rest := [3]) [⟨0, [], none⟩, ⟨1, [], none⟩, ⟨2, [], none⟩] (l' := ([(11, Value.int IntKind.i64 (((n : Nat) : Int))), (10, Value.slice p0 n c), (9, Value.int IntKind.i64 (((i : Nat) : Int))), (0, Value.slice p0 n c), (4, Value.slice p2 i c2), (5, Value.int IntKind.i64 (((i : Nat) : Int)))] : Fr) ++ lr9) (pts' := []) (eqs := []) (by kernel_rfl) trivial (AllC_nil _) ?_
    by_cases c14 : ((i : Nat) : Int) < ((n : Nat) : Int)
    ·
      refine plain_batch (rest := []) [⟨3, [], some (Value.bool true)⟩] (l' := ([(12, Value.bool true), (11, Value.int IntKind.i64 (((n : Nat) : Int))), (10, Value.slice p0 n c), (9, Value.int IntKind.i64 (((i : Nat) : Int))), (0, Value.slice p0 n c), (4, Value.slice p2 i c2), (5, Value.int IntKind.i64 (((i : Nat) : Int)))] : Fr) ++ lr9) (pts' := []) (eqs := [(Value.bool (decide (((i : Nat) : Int) < ((n : Nat) : Int))), Value.bool true)]) (by kernel_rfl) ⟨(ov_t (by omega)), trivial⟩ (AllC_nil _) ?_
      refine PO.mk ?_
      change WP _ _ (CA Tryd.f15 [1, 1, 1, 0, 1, 0, 0, 0, 1]) _ _ _
      refine fk_cut ([(0, Value.slice p0 n c), (4, Value.slice p2 i c2), (5, Value.int IntKind.i64 (((i : Nat) : Int))), (12, Value.bool true)] : Fr) (by kernel_rfl) (fun a => WP _ _ _ _ a _) (fun lr15 => ?_)
      refine gi_cnd (x := (Operand.tmp 12)) (s := CA Tryd.f15 [1, 1, 1, 0, 1, 0, 0, 0, 1, 0]) (t := CA Tryd.f15 [1, 1, 1, 0, 1, 0, 0, 0, 1, 1]) true (by kernel_rfl) (by kernel_rfl) ?_
      change WP _ _ (CA Tryd.f15 [1, 1, 1, 0, 1, 0, 0, 0, 1, 0]) _ _ _
      refine gi_skp (by kernel_rfl) ?_
      change WP _ _ (CA Tryd.f15 [1, 1, 1, 0, 1, 0, 0, 1]) _ _ _
      refine gi_seq (x := CA Tryd.f15 [1, 1, 1, 0, 1, 0, 0, 1, 0]) (y := CA Tryd.f15 [1, 1, 1, 0, 1, 0, 0, 1, 1]) (by kernel_rfl) ?_
      refine gi_blk (id := 1) (x := CA Tryd.f15 [1, 1, 1, 0, 1, 0, 0, 1, 0, 0]) (by kernel_rfl) ?_
      refine gi_seq (x := CA Tryd.f15 [1, 1, 1, 0, 1, 0, 0, 1, 0, 0, 0]) (y := CA Tryd.f15 [1, 1, 1, 0, 1, 0, 0, 1, 0, 0, 1]) (by kernel_rfl) ?_
      refine gi_seq (x := CA Tryd.f15 [1, 1, 1, 0, 1, 0, 0, 1, 0, 0, 0, 0]) (y := CA Tryd.f15 [1, 1, 1, 0, 1, 0, 0, 1, 0, 0, 0, 1]) (by kernel_rfl) ?_
      refine gi_pln (id := 7) (ops := RA Tryd.f15 [1, 1, 1, 0, 1, 0, 0, 1, 0, 0, 0, 0]) [0, 1, 2, 3, 4, 5, 6, 7, 8, 9, 10, 11] (by kernel_rfl) (by kernel_rfl) (by kernel_rfl) ?_
      obtain ⟨b16, off18, hp17⟩ := gv_ptr (j := 1) h13 rfl hX (by omega)
      refine plain_batch (rest := [2, 3, 4, 5, 6, 7, 8, 9, 10, 11]) [⟨0, [], none⟩, ⟨1, [], none⟩] (l' := ([(16, Value.int IntKind.i64 (((i : Nat) : Int))), (15, Value.slice p0 n c), (0, Value.slice p0 n c), (4, Value.slice p2 i c2), (5, Value.int IntKind.i64 (((i : Nat) : Int))), (12, Value.bool true)] : Fr) ++ lr15) (pts' := []) (eqs := []) (by kernel_rfl) trivial (AllC_nil _) ?_
      refine plain_law (i := 2) 17 (Value.pointer (some ⟨b16, off18 + i, none⟩)) (by kernel_rfl) (law_indexSlP (o := opA (RA Tryd.f15 [1, 1, 1, 0, 1, 0, 0, 1, 0, 0, 0, 0]) 2) (x := (Operand.tmp 15)) (i := (Operand.tmp 16)) (p := p0) (b := b16) (off := off18) (z := (((i : Nat) : Int))) (len := n) (cap := c) (by kernel_rfl) Tryd.underlying22 1 (by kernel_rfl) i (by kernel_rfl) hp17 (by kernel_rfl) (by omega) (by omega) (off18 + i) (by omega) _) ?_
      obtain ⟨x19, hx20⟩ : ∃ x, l[i]? = some x := ⟨_, List.getElem?_eq_getElem (by rw [hL]; omega)⟩
      refine plain_batch (rest := [4, 5, 6, 7, 8, 9, 10, 11]) [⟨3, [Value.int IntKind.i64 x19], none⟩] (l' := ([(18, Value.int IntKind.i64 x19), (17, Value.pointer (some ⟨b16, off18 + i, none⟩)), (16, Value.int IntKind.i64 (((i : Nat) : Int))), (15, Value.slice p0 n c), (0, Value.slice p0 n c), (4, Value.slice p2 i c2), (5, Value.int IntKind.i64 (((i : Nat) : Int))), (12, Value.bool true)] : Fr) ++ lr15) (pts' := [(3, ⟨b16, off18 + i, none⟩, Value.int IntKind.i64 x19)]) (eqs := []) (by kernel_rfl) trivial (AllC_cons (gv_cell (j := 1) h13 rfl hX hp17 (fl_get eI_ok (j := 0) (v := Value.int IntKind.i64 x19) hx20 rfl) (off18 + i) (by omega)) (AllC_nil _)) ?_
      by_cases c21 : x19 < 1
      ·
        refine plain_batch (rest := []) [⟨4, [], some (Value.bool true)⟩, ⟨5, [], none⟩, ⟨6, [], none⟩, ⟨7, [], none⟩, ⟨8, [], none⟩, ⟨9, [], none⟩, ⟨10, [], none⟩, ⟨11, [], none⟩] (l' := ([(26, Value.bool true), (25, undef), (24, undef), (23, undef), (22, undef), (21, undef), (20, Value.bool true), (19, Value.bool true), (18, Value.int IntKind.i64 x19), (17, Value.pointer (some ⟨b16, off18 + i, none⟩)), (16, Value.int IntKind.i64 (((i : Nat) : Int))), (15, Value.slice p0 n c), (0, Value.slice p0 n c), (4, Value.slice p2 i c2), (5, Value.int IntKind.i64 (((i : Nat) : Int))), (12, Value.bool true)] : Fr) ++ lr15) (pts' := []) (eqs := [(Value.bool (decide (x19 < 1)), Value.bool true)]) (by kernel_rfl) ⟨(ov_t (by omega)), trivial⟩ (AllC_nil _) ?_
        refine PO.mk ?_
        change WP _ _ (CA Tryd.f15 [1, 1, 1, 0, 1, 0, 0, 1, 0, 0, 0, 1]) _ _ _
        refine fk_cut ([(0, Value.slice p0 n c), (4, Value.slice p2 i c2), (5, Value.int IntKind.i64 (((i : Nat) : Int))), (12, Value.bool true), (26, Value.bool true)] : Fr) (by kernel_rfl) (fun a => WP _ _ _ _ a _) (fun lr22 => ?_)
        refine gi_cnd (x := (Operand.tmp 26)) (s := CA Tryd.f15 [1, 1, 1, 0, 1, 0, 0, 1, 0, 0, 0, 1, 0]) (t := CA Tryd.f15 [1, 1, 1, 0, 1, 0, 0, 1, 0, 0, 0, 1, 1]) true (by kernel_rfl) (by kernel_rfl) ?_
        change WP _ _ (CA Tryd.f15 [1, 1, 1, 0, 1, 0, 0, 1, 0, 0, 0, 1, 0]) _ _ _
        refine gi_seq (x := CA Tryd.f15 [1, 1, 1, 0, 1, 0, 0, 1, 0, 0, 0, 1, 0, 0]) (y := CA Tryd.f15 [1, 1, 1, 0, 1, 0, 0, 1, 0, 0, 0, 1, 0, 1]) (by kernel_rfl) ?_
        refine gi_pln (id := 8) (ops := RA Tryd.f15 [1, 1, 1, 0, 1, 0, 0, 1, 0, 0, 0, 1, 0, 0]) [0, 1] (by kernel_rfl) (by kernel_rfl) (by kernel_rfl) ?_
        refine plain_batch (rest := []) [⟨0, [], none⟩, ⟨1, [], none⟩] (l' := ([(3, Value.int IntKind.i64 2), (2, Value.string (St [])), (0, Value.slice p0 n c), (4, Value.slice p2 i c2), (5, Value.int IntKind.i64 (((i : Nat) : Int))), (12, Value.bool true), (26, Value.bool true)] : Fr) ++ lr22) (pts' := []) (eqs := []) (by kernel_rfl) trivial (AllC_nil _) ?_
        refine PO.mk ?_
        change WP _ _ (CA Tryd.f15 [1, 1, 1, 0, 1, 0, 0, 1, 0, 0, 0, 1, 0, 1]) _ _ _
        refine fk_cut ([(0, Value.slice p0 n c), (2, Value.string (St [])), (3, Value.int IntKind.i64 2), (4, Value.slice p2 i c2), (5, Value.int IntKind.i64 (((i : Nat) : Int))), (12, Value.bool true), (26, Value.bool true)] : Fr) (by kernel_rfl) (fun a => WP _ _ _ _ a _) (fun lr23 => ?_)
        refine gi_rt (by kernel_rfl) ?_
        repeat (first | simp only [Exit.inBlock] | simp only [Exit.then])
        have h24 : sat g w12 [X, Sl 5 1 p2 i c2 (fl eB ((l.take i).map lt)), R] := sat_sel [1, 0, 2] rfl h13
        have h25 : sat g w12 [X, R] := sat_sel [0, 2] rfl h24
        refine hi_out [] (Value.tuple #[Value.string (St []), Value.int IntKind.i64 2]) [] (by kernel_rfl) (by intro q hq; cases hq) ?_
        exact ⟨Value.tuple #[Value.string (St []), Value.int IntKind.i64 2], [X], rfl, ⟨by rw [(prt_arg (by omega) hx20 (by omega))], rfl⟩, h25⟩
      ·
        refine plain_batch (rest := [8, 9, 10, 11]) [⟨4, [], some (Value.bool false)⟩, ⟨5, [], none⟩, ⟨6, [], none⟩, ⟨7, [], none⟩] (l' := ([(22, Value.int IntKind.i64 (((i : Nat) : Int))), (21, Value.slice p0 n c), (20, Value.bool false), (19, Value.bool false), (18, Value.int IntKind.i64 x19), (17, Value.pointer (some ⟨b16, off18 + i, none⟩)), (16, Value.int IntKind.i64 (((i : Nat) : Int))), (15, Value.slice p0 n c), (0, Value.slice p0 n c), (4, Value.slice p2 i c2), (5, Value.int IntKind.i64 (((i : Nat) : Int))), (12, Value.bool true)] : Fr) ++ lr15) (pts' := []) (eqs := [(Value.bool (decide (x19 < 1)), Value.bool false)]) (by kernel_rfl) ⟨(ov_f (by omega)), trivial⟩ (AllC_nil _) ?_
        refine plain_law (i := 8) 23 (Value.pointer (some ⟨b16, off18 + i, none⟩)) (by kernel_rfl) (law_indexSlP (o := opA (RA Tryd.f15 [1, 1, 1, 0, 1, 0, 0, 1, 0, 0, 0, 0]) 8) (x := (Operand.tmp 21)) (i := (Operand.tmp 22)) (p := p0) (b := b16) (off := off18) (z := (((i : Nat) : Int))) (len := n) (cap := c) (by kernel_rfl) Tryd.underlying22 1 (by kernel_rfl) i (by kernel_rfl) hp17 (by kernel_rfl) (by omega) (by omega) (off18 + i) (by omega) _) ?_
        refine plain_batch (rest := [10, 11]) [⟨9, [Value.int IntKind.i64 x19], none⟩] (l' := ([(24, Value.int IntKind.i64 x19), (23, Value.pointer (some ⟨b16, off18 + i, none⟩)), (22, Value.int IntKind.i64 (((i : Nat) : Int))), (21, Value.slice p0 n c), (20, Value.bool false), (19, Value.bool false), (18, Value.int IntKind.i64 x19), (17, Value.pointer (some ⟨b16, off18 + i, none⟩)), (16, Value.int IntKind.i64 (((i : Nat) : Int))), (15, Value.slice p0 n c), (0, Value.slice p0 n c), (4, Value.slice p2 i c2), (5, Value.int IntKind.i64 (((i : Nat) : Int))), (12, Value.bool true)] : Fr) ++ lr15) (pts' := [(9, ⟨b16, off18 + i, none⟩, Value.int IntKind.i64 x19)]) (eqs := []) (by kernel_rfl) trivial (AllC_cons (gv_cell (j := 1) h13 rfl hX hp17 (fl_get eI_ok (j := 0) (v := Value.int IntKind.i64 x19) hx20 rfl) (off18 + i) (by omega)) (AllC_nil _)) ?_
        by_cases c26 : x19 > 3
        ·
          refine plain_batch (rest := []) [⟨10, [], some (Value.bool true)⟩, ⟨11, [], none⟩] (l' := ([(26, Value.bool true), (25, Value.bool true), (24, Value.int IntKind.i64 x19), (23, Value.pointer (some ⟨b16, off18 + i, none⟩)), (22, Value.int IntKind.i64 (((i : Nat) : Int))), (21, Value.slice p0 n c), (20, Value.bool false), (19, Value.bool false), (18, Value.int IntKind.i64 x19), (17, Value.pointer (some ⟨b16, off18 + i, none⟩)), (16, Value.int IntKind.i64 (((i : Nat) : Int))), (15, Value.slice p0 n c), (0, Value.slice p0 n c), (4, Value.slice p2 i c2), (5, Value.int IntKind.i64 (((i : Nat) : Int))), (12, Value.bool true)] : Fr) ++ lr15) (pts' := []) (eqs := [(Value.bool (decide (x19 > 3)), Value.bool true)]) (by kernel_rfl) ⟨(ov_t (by omega)), trivial⟩ (AllC_nil _) ?_
          refine PO.mk ?_
          change WP _ _ (CA Tryd.f15 [1, 1, 1, 0, 1, 0, 0, 1, 0, 0, 0, 1]) _ _ _
          refine fk_cut ([(0, Value.slice p0 n c), (4, Value.slice p2 i c2), (5, Value.int IntKind.i64 (((i : Nat) : Int))), (12, Value.bool true), (26, Value.bool true)] : Fr) (by kernel_rfl) (fun a => WP _ _ _ _ a _) (fun lr27 => ?_)
          refine gi_cnd (x := (Operand.tmp 26)) (s := CA Tryd.f15 [1, 1, 1, 0, 1, 0, 0, 1, 0, 0, 0, 1, 0]) (t := CA Tryd.f15 [1, 1, 1, 0, 1, 0, 0, 1, 0, 0, 0, 1, 1]) true (by kernel_rfl) (by kernel_rfl) ?_
          change WP _ _ (CA Tryd.f15 [1, 1, 1, 0, 1, 0, 0, 1, 0, 0, 0, 1, 0]) _ _ _
          refine gi_seq (x := CA Tryd.f15 [1, 1, 1, 0, 1, 0, 0, 1, 0, 0, 0, 1, 0, 0]) (y := CA Tryd.f15 [1, 1, 1, 0, 1, 0, 0, 1, 0, 0, 0, 1, 0, 1]) (by kernel_rfl) ?_
          refine gi_pln (id := 8) (ops := RA Tryd.f15 [1, 1, 1, 0, 1, 0, 0, 1, 0, 0, 0, 1, 0, 0]) [0, 1] (by kernel_rfl) (by kernel_rfl) (by kernel_rfl) ?_
          refine plain_batch (rest := []) [⟨0, [], none⟩, ⟨1, [], none⟩] (l' := ([(3, Value.int IntKind.i64 2), (2, Value.string (St [])), (0, Value.slice p0 n c), (4, Value.slice p2 i c2), (5, Value.int IntKind.i64 (((i : Nat) : Int))), (12, Value.bool true), (26, Value.bool true)] : Fr) ++ lr27) (pts' := []) (eqs := []) (by kernel_rfl) trivial (AllC_nil _) ?_
          refine PO.mk ?_
          change WP _ _ (CA Tryd.f15 [1, 1, 1, 0, 1, 0, 0, 1, 0, 0, 0, 1, 0, 1]) _ _ _
          refine fk_cut ([(0, Value.slice p0 n c), (2, Value.string (St [])), (3, Value.int IntKind.i64 2), (4, Value.slice p2 i c2), (5, Value.int IntKind.i64 (((i : Nat) : Int))), (12, Value.bool true), (26, Value.bool true)] : Fr) (by kernel_rfl) (fun a => WP _ _ _ _ a _) (fun lr28 => ?_)
          refine gi_rt (by kernel_rfl) ?_
          repeat (first | simp only [Exit.inBlock] | simp only [Exit.then])
          have h29 : sat g w12 [X, Sl 5 1 p2 i c2 (fl eB ((l.take i).map lt)), R] := sat_sel [1, 0, 2] rfl h13
          have h30 : sat g w12 [X, R] := sat_sel [0, 2] rfl h29
          refine hi_out [] (Value.tuple #[Value.string (St []), Value.int IntKind.i64 2]) [] (by kernel_rfl) (by intro q hq; cases hq) ?_
          exact ⟨Value.tuple #[Value.string (St []), Value.int IntKind.i64 2], [X], rfl, ⟨by rw [(prt_arg (by omega) hx20 (by omega))], rfl⟩, h30⟩
        ·
          refine plain_batch (rest := []) [⟨10, [], some (Value.bool false)⟩, ⟨11, [], none⟩] (l' := ([(26, Value.bool false), (25, Value.bool false), (24, Value.int IntKind.i64 x19), (23, Value.pointer (some ⟨b16, off18 + i, none⟩)), (22, Value.int IntKind.i64 (((i : Nat) : Int))), (21, Value.slice p0 n c), (20, Value.bool false), (19, Value.bool false), (18, Value.int IntKind.i64 x19), (17, Value.pointer (some ⟨b16, off18 + i, none⟩)), (16, Value.int IntKind.i64 (((i : Nat) : Int))), (15, Value.slice p0 n c), (0, Value.slice p0 n c), (4, Value.slice p2 i c2), (5, Value.int IntKind.i64 (((i : Nat) : Int))), (12, Value.bool true)] : Fr) ++ lr15) (pts' := []) (eqs := [(Value.bool (decide (x19 > 3)), Value.bool false)]) (by kernel_rfl) ⟨(ov_f (by omega)), trivial⟩ (AllC_nil _) ?_
          refine PO.mk ?_
          change WP _ _ (CA Tryd.f15 [1, 1, 1, 0, 1, 0, 0, 1, 0, 0, 0, 1]) _ _ _
          refine fk_cut ([(0, Value.slice p0 n c), (4, Value.slice p2 i c2), (5, Value.int IntKind.i64 (((i : Nat) : Int))), (12, Value.bool true), (26, Value.bool false)] : Fr) (by kernel_rfl) (fun a => WP _ _ _ _ a _) (fun lr31 => ?_)
          refine gi_cnd (x := (Operand.tmp 26)) (s := CA Tryd.f15 [1, 1, 1, 0, 1, 0, 0, 1, 0, 0, 0, 1, 0]) (t := CA Tryd.f15 [1, 1, 1, 0, 1, 0, 0, 1, 0, 0, 0, 1, 1]) false (by kernel_rfl) (by kernel_rfl) ?_
          change WP _ _ (CA Tryd.f15 [1, 1, 1, 0, 1, 0, 0, 1, 0, 0, 0, 1, 1]) _ _ _
          refine gi_skp (by kernel_rfl) ?_
          change WP _ _ (CA Tryd.f15 [1, 1, 1, 0, 1, 0, 0, 1, 0, 0, 1]) _ _ _
          refine gi_pln (id := 9) (ops := RA Tryd.f15 [1, 1, 1, 0, 1, 0, 0, 1, 0, 0, 1]) [0, 1, 2, 3, 4, 5, 6, 7, 8] (by kernel_rfl) (by kernel_rfl) (by kernel_rfl) ?_
          refine plain_batch (rest := [3, 4, 5, 6, 7, 8]) [⟨0, [], none⟩, ⟨1, [], none⟩, ⟨2, [], none⟩] (l' := ([(29, Value.int IntKind.i64 (((i : Nat) : Int))), (28, Value.slice p0 n c), (27, Value.slice p2 i c2), (0, Value.slice p0 n c), (4, Value.slice p2 i c2), (5, Value.int IntKind.i64 (((i : Nat) : Int))), (12, Value.bool true), (26, Value.bool false)] : Fr) ++ lr31) (pts' := []) (eqs := []) (by kernel_rfl) trivial (AllC_nil _) ?_
          refine plain_law (i := 3) 30 (Value.pointer (some ⟨b16, off18 + i, none⟩)) (by kernel_rfl) (law_indexSlP (o := opA (RA Tryd.f15 [1, 1, 1, 0, 1, 0, 0, 1, 0, 0, 1]) 3) (x := (Operand.tmp 28)) (i := (Operand.tmp 29)) (p := p0) (b := b16) (off := off18) (z := (((i : Nat) : Int))) (len := n) (cap := c) (by kernel_rfl) Tryd.underlying22 1 (by kernel_rfl) i (by kernel_rfl) hp17 (by kernel_rfl) (by omega) (by omega) (off18 + i) (by omega) _) ?_
          obtain ⟨kk32, hk33⟩ : ∃ z_ : Nat, x19 = (z_ : Int) := ⟨(x19).toNat, by omega⟩
          obtain ⟨x34, hx35⟩ : ∃ x, ([63, 111, 108, 102] : List UInt8)[kk32]? = some x := ⟨_, List.getElem?_eq_getElem (by simp only [List.length_cons, List.length_nil]; omega)⟩
          have hb36 := u8_lt x34
          refine plain_batch (rest := [5, 6, 7, 8]) [⟨4, [Value.int IntKind.i64 x19], none⟩] (l' := ([(31, Value.int IntKind.i64 x19), (30, Value.pointer (some ⟨b16, off18 + i, none⟩)), (29, Value.int IntKind.i64 (((i : Nat) : Int))), (28, Value.slice p0 n c), (27, Value.slice p2 i c2), (0, Value.slice p0 n c), (4, Value.slice p2 i c2), (5, Value.int IntKind.i64 (((i : Nat) : Int))), (12, Value.bool true), (26, Value.bool false)] : Fr) ++ lr31) (pts' := [(4, ⟨b16, off18 + i, none⟩, Value.int IntKind.i64 x19)]) (eqs := []) (by kernel_rfl) trivial (AllC_cons (gv_cell (j := 1) h13 rfl hX hp17 (fl_get eI_ok (j := 0) (v := Value.int IntKind.i64 x19) hx20 rfl) (off18 + i) (by omega)) (AllC_nil _)) ?_
          refine plain_law (i := 5) 32 (Value.int IntKind.u8 (((x34.toNat : Nat) : Int))) (by kernel_rfl) (law_idxStr (o := opA (RA Tryd.f15 [1, 1, 1, 0, 1, 0, 0, 1, 0, 0, 1]) 5) (x := (Operand.const (Value.string (St [63, 111, 108, 102])))) (i := (Operand.tmp 31)) (k := IntKind.i64) (s := [63, 111, 108, 102]) (z := x19) (b := x34) (by kernel_rfl) Tryd.underlying9 (by kernel_rfl) (by kernel_rfl) kk32 (by omega) hx35 _) ?_
          refine plain_act (i := 6) (by kernel_rfl) ?_
          refine an_new (d := 33) (fun xb_ => Value.slice (some ⟨xb_, 0, none⟩) 1 1) (fun xb_ => Obj.cells [Value.int IntKind.u8 (((x34.toNat : Nat) : Int))].toArray 5 (0, 0)) (fun xb_ => by kernel_rfl) (by kernel_rfl) rfl h13 ?_
          intro r37 w38 (h39 : sat g w38 [Cl r37 [Value.int IntKind.u8 (((x34.toNat : Nat) : Int))] 5, Sl 5 1 p2 i c2 (fl eB ((l.take i).map lt)), X, R])
          have h40 : sat g w38 [Sl 5 1 p2 i c2 (fl eB ((l.take i).map lt)), Cl r37 [Value.int IntKind.u8 (((x34.toNat : Nat) : Int))] 5, X, R] := sat_sel [1, 0, 2, 3] rfl h39
          refine plain_act (i := 7) (by kernel_rfl) ?_
          refine an_append (d := 34) (sz := 1) (s := (Operand.tmp 27)) (x := (Operand.tmp 33)) (z := Value.int IntKind.u8 0) (p := p2) (m := i) (c := c2) (k := 1) (c2 := 1) (a := ⟨r37, 0, none⟩) (by_ := 1) (by kernel_rfl) (by kernel_rfl) rfl Tryd.underlying34 (by kernel_rfl) rfl (by decide) (by kernel_rfl) (by kernel_rfl) h40 (fl eB [x34]) rfl (fun j u hj => by rw [add_off]; exact sat_cell h40 1 rfl (by rw [Nat.zero_add]; exact hj)) (fl_one eB_ok _) (by omega) (by omega) (i + 1) (by omega) ?_
          intro p41 cap42 w43 (h44 : sat g w43 [Sl 5 1 p41 (i + 1) cap42 ((fl eB ((l.take i).map lt)) ++ (fl eB [x34])), Cl r37 [Value.int IntKind.u8 (((x34.toNat : Nat) : Int))] 5, X, R])
          have h45 : sat g w43 [Sl 5 1 p41 (i + 1) cap42 (fl eB (((l.take i).map lt) ++ [x34])), Cl r37 [Value.int IntKind.u8 (((x34.toNat : Nat) : Int))] 5, X, R] := sat_imp h44 (fun _ hh => by rw [fl_app]; exact hh)
          obtain ⟨hn46, hn47⟩ := sl_le h45
          refine plain_batch (rest := []) [⟨8, [], none⟩] (l' := ([(4, Value.slice p41 (i + 1) cap42), (34, Value.slice p41 (i + 1) cap42), (33, Value.slice (some ⟨r37, 0, none⟩) 1 1), (32, Value.int IntKind.u8 (((x34.toNat : Nat) : Int))), (31, Value.int IntKind.i64 x19), (30, Value.pointer (some ⟨b16, off18 + i, none⟩)), (29, Value.int IntKind.i64 (((i : Nat) : Int))), (28, Value.slice p0 n c), (27, Value.slice p2 i c2), (0, Value.slice p0 n c), (4, Value.slice p2 i c2), (5, Value.int IntKind.i64 (((i : Nat) : Int))), (12, Value.bool true), (26, Value.bool false)] : Fr) ++ lr31) (pts' := []) (eqs := []) (by kernel_rfl) trivial (AllC_nil _) ?_
          refine PO.mk ?_
          change WP _ _ (CA Tryd.f15 [1, 1, 1, 0, 1, 0, 0, 1, 1]) _ _ _
          refine fk_cut ([(0, Value.slice p0 n c), (4, Value.slice p41 (i + 1) cap42), (5, Value.int IntKind.i64 (((i : Nat) : Int))), (12, Value.bool true), (26, Value.bool false)] : Fr) (by kernel_rfl) (fun a => WP _ _ _ _ a _) (fun lr48 => ?_)
          refine gi_pln (id := 6) (ops := RA Tryd.f15 [1, 1, 1, 0, 1, 0, 0, 1, 1]) [0, 1, 2] (by kernel_rfl) (by kernel_rfl) (by kernel_rfl) ?_
          refine plain_batch (rest := []) [⟨0, [], none⟩, ⟨1, [], some (Value.int IntKind.i64 (((i : Nat) : Int) + 1))⟩, ⟨2, [], none⟩] (l' := ([(5, Value.int IntKind.i64 (((i : Nat) : Int) + 1)), (14, Value.int IntKind.i64 (((i : Nat) : Int) + 1)), (13, Value.int IntKind.i64 (((i : Nat) : Int))), (0, Value.slice p0 n c), (4, Value.slice p41 (i + 1) cap42), (5, Value.int IntKind.i64 (((i : Nat) : Int))), (12, Value.bool true), (26, Value.bool false)] : Fr) ++ lr48) (pts' := []) (eqs := [(Value.int IntKind.i64 (IntKind.wrap IntKind.i64 ((((i : Nat) : Int)) + 1)), Value.int IntKind.i64 (((i : Nat) : Int) + 1))]) (by kernel_rfl) ⟨(ov_i64 (by omega) (by omega) (by omega)), trivial⟩ (AllC_nil _) ?_
          refine PO.mk ?_
          have h49 : sat g w43 [Sl 5 1 p41 (i + 1) cap42 (fl eB ((l.take (i + 1)).map lt)), Cl r37 [Value.int IntKind.u8 (((x34.toNat : Nat) : Int))] 5, X, R] := (show (((l.take i).map lt) ++ [x34]) = ((l.take (i + 1)).map lt) from (tk_eq hx20 (lit_at (z := x19) (by omega) (by omega) (by omega) hx35))) ▸ h45
          have h50 : sat g w43 [Sl 5 1 p41 (i + 1) cap42 (fl eB ((l.take (i + 1)).map lt)), X, R, Cl r37 [Value.int IntKind.u8 (((x34.toNat : Nat) : Int))] 5] := sat_sel [0, 2, 3, 1] rfl h49
          have h51 : sat g w43 [Sl 5 1 p41 (i + 1) cap42 (fl eB ((l.take (i + 1)).map lt)), X, R] := sat_sel [0, 1, 2] rfl h50
          change ∃ n', n' < _ ∧ _
          refine ⟨(n - (i + 1)), by omega, (i + 1), p41, cap42, _, rfl, (by omega), (all_go hall hx20 (by omega) (by omega)), (mk_live [(0, Value.slice p0 n c), (4, Value.slice p41 (i + 1) cap42), (5, Value.int IntKind.i64 ((((i + 1) : Nat) : Int)))] ⟨rfl, rfl, (ov_int (by omega)), trivial⟩), h51⟩
    ·
      refine plain_batch (rest := []) [⟨3, [], some (Value.bool false)⟩] (l' := ([(12, Value.bool false), (11, Value.int IntKind.i64 (((n : Nat) : Int))), (10, Value.slice p0 n c), (9, Value.int IntKind.i64 (((i : Nat) : Int))), (0, Value.slice p0 n c), (4, Value.slice p2 i c2), (5, Value.int IntKind.i64 (((i : Nat) : Int)))] : Fr) ++ lr9) (pts' := []) (eqs := [(Value.bool (decide (((i : Nat) : Int) < ((n : Nat) : Int))), Value.bool false)]) (by kernel_rfl) ⟨(ov_f (by omega)), trivial⟩ (AllC_nil _) ?_
      refine PO.mk ?_
      change WP _ _ (CA Tryd.f15 [1, 1, 1, 0, 1, 0, 0, 0, 1]) _ _ _
      refine fk_cut ([(0, Value.slice p0 n c), (4, Value.slice p2 i c2), (5, Value.int IntKind.i64 (((i : Nat) : Int))), (12, Value.bool false)] : Fr) (by kernel_rfl) (fun a => WP _ _ _ _ a _) (fun lr52 => ?_)
      refine gi_cnd (x := (Operand.tmp 12)) (s := CA Tryd.f15 [1, 1, 1, 0, 1, 0, 0, 0, 1, 0]) (t := CA Tryd.f15 [1, 1, 1, 0, 1, 0, 0, 0, 1, 1]) false (by kernel_rfl) (by kernel_rfl) ?_
      change WP _ _ (CA Tryd.f15 [1, 1, 1, 0, 1, 0, 0, 0, 1, 1]) _ _ _
      refine gi_ext (id := 0) (by kernel_rfl) ?_
      change WP _ _ (CA Tryd.f15 [1, 1, 1, 1]) _ _ _
      refine gi_seq (x := CA Tryd.f15 [1, 1, 1, 1, 0]) (y := CA Tryd.f15 [1, 1, 1, 1, 1]) (by kernel_rfl) ?_
      refine gi_pln (id := 10) (ops := RA Tryd.f15 [1, 1, 1, 1, 0]) [0, 1, 2, 3] (by kernel_rfl) (by kernel_rfl) (by kernel_rfl) ?_
      have hl53 := fl_n eB_ok (by decide) h13
      refine plain_batch (rest := [1, 2, 3]) [⟨0, [], none⟩] (l' := ([(35, Value.slice p2 i c2), (0, Value.slice p0 n c), (4, Value.slice p2 i c2), (5, Value.int IntKind.i64 (((i : Nat) : Int))), (12, Value.bool false)] : Fr) ++ lr52) (pts' := []) (eqs := []) (by kernel_rfl) trivial (AllC_nil _) ?_
      refine plain_law (i := 1) 36 (Value.string (St ((l.take i).map lt))) (by kernel_rfl) (law_bts (o := opA (RA Tryd.f15 [1, 1, 1, 1, 0]) 1) (x := (Operand.tmp 35)) (p := p2) (m := i) (c := c2) (by kernel_rfl) Tryd.underlying34 Tryd.underlying5 Tryd.underlying9 (by kernel_rfl) 0 h13 rfl (gv_sl _ _ _) hl53) ?_
      refine plain_batch (rest := []) [⟨2, [], none⟩, ⟨3, [], none⟩] (l' := ([(3, Value.int IntKind.i64 0), (2, Value.string (St ((l.take i).map lt))), (36, Value.string (St ((l.take i).map lt))), (35, Value.slice p2 i c2), (0, Value.slice p0 n c), (4, Value.slice p2 i c2), (5, Value.int IntKind.i64 (((i : Nat) : Int))), (12, Value.bool false)] : Fr) ++ lr52) (pts' := []) (eqs := []) (by kernel_rfl) trivial (AllC_nil _) ?_
      refine PO.mk ?_
      change WP _ _ (CA Tryd.f15 [1, 1, 1, 1, 1]) _ _ _
      refine fk_cut ([(0, Value.slice p0 n c), (2, Value.string (St ((l.take i).map lt))), (3, Value.int IntKind.i64 0), (4, Value.slice p2 i c2), (5, Value.int IntKind.i64 (((i : Nat) : Int))), (12, Value.bool false)] : Fr) (by kernel_rfl) (fun a => WP _ _ _ _ a _) (fun lr54 => ?_)
      refine gi_rt (by kernel_rfl) ?_
      repeat (first | simp only [Exit.inBlock] | simp only [Exit.then])
      have h55 : sat g w12 [X, Sl 5 1 p2 i c2 (fl eB ((l.take i).map lt)), R] := sat_sel [1, 0, 2] rfl h13
      have h56 : sat g w12 [X, R] := sat_sel [0, 2] rfl h55
      refine hi_out [] (Value.tuple #[Value.string (St ((l.take i).map lt)), Value.int IntKind.i64 0]) [] (by kernel_rfl) (by intro q hq; cases hq) ?_
      exact ⟨Value.tuple #[Value.string (St ((l.take i).map lt)), Value.int IntKind.i64 0], [X], rfl, ⟨by rw [(prt_all (i := i) (by omega) (by omega) hall), show (l.take i).map lt = l.map lt from tk_all (by omega)], rfl⟩, h56⟩

theorem gv_let {wo : World} (hg : Lett wo) : Gv (Old wo) (some ⟨0, 0, none⟩) 4 letW := gv_old (.inr ⟨0, 0, rfl, fun k v hk => by rw [Nat.zero_add]; exact hg k v hk⟩)
theorem print_o (wo : World) (hg : Lett wo) (p0 : Option Addr) (n c : Nat) (l : List Int) (hX : Gv (Old wo) p0 n (fl eI l)) (hL : l.length = n) (hn : n ≤ 1099511627776) : HT Tryd.prog 14 [Value.slice p0 n c] [Old wo] (fun v K => v = Value.tuple #[Value.string (St (prt l).1), Value.int .i64 (prt l).2] ∧ K = [Old wo]) := print_y p0 n c l _ (gv_let hg) hX hL hn
theorem print_x (wo : World) (hg : Lett wo) (p0 : Option Addr) (n c : Nat) (l : List Int) (X : Assn) (hX : Gv X p0 n (fl eI l)) (hL : l.length = n) (hn : n ≤ 1099511627776) : HT Tryd.prog 14 [Value.slice p0 n c] [X, Old wo] (fun v K => v = Value.tuple #[Value.string (St (prt l).1), Value.int .i64 (prt l).2] ∧ K = [X, Old wo]) :=
  ht_star (print_y p0 n c l (star [X, Old wo]) (gv_star (i := 1) rfl (gv_let hg)) (gv_star (i := 0) rfl hX) hL hn) fun v K hP => by
    obtain ⟨rfl, rfl⟩ := hP
    exact ⟨_, rfl, rfl, rfl⟩

set_option maxHeartbeats 4000000 in
theorem letters_ht (p0 : Option Addr) (n c : Nat) (l : List UInt8) (X : Assn) (hX : Gv X p0 n (fl eB l)) (hL : l.length = n) (hn : n ≤ 1099511627776) : HT Tryd.prog 19 [Value.slice p0 n c] [X] (fun v K => v = Value.string (St (l.map lq)) ∧ K = [X]) := by
  refine hi_in 22 ([(0, Value.slice p0 n c)] : Fr) Tryd.func19 (by kernel_rfl) Tryd.ntmps19 rfl rfl ?_
  intro g w0 R h0
  refine gi_seq (x := CA Tryd.f19 [0]) (y := CA Tryd.f19 [1]) (by kernel_rfl) ?_
  refine gi_pln (id := 0) (ops := RA Tryd.f19 [0]) [0] (by kernel_rfl) (by kernel_rfl) (by kernel_rfl) ?_
  refine plain_batch (rest := []) [⟨0, [], none⟩] (l' := ([(2, Value.string (St [])), (0, Value.slice p0 n c)] : Fr)) (pts' := []) (eqs := []) (by kernel_rfl) trivial (AllC_nil _) ?_
  refine PO.mk ?_
  change WP _ _ (CA Tryd.f19 [1]) _ _ _
  refine fk_cut ([(0, Value.slice p0 n c), (2, Value.string (St []))] : Fr) (by kernel_rfl) (fun a => WP _ _ _ _ a _) (fun lr1 => ?_)
  refine gi_seq (x := CA Tryd.f19 [1, 0]) (y := CA Tryd.f19 [1, 1]) (by kernel_rfl) ?_
  refine gi_pln (id := 1) (ops := RA Tryd.f19 [1, 0]) [0] (by kernel_rfl) (by kernel_rfl) (by kernel_rfl) ?_
  refine plain_batch (rest := []) [⟨0, [], none⟩] (l' := ([(3, Value.slice none 0 0), (0, Value.slice p0 n c), (2, Value.string (St []))] : Fr) ++ lr1) (pts' := []) (eqs := []) (by kernel_rfl) trivial (AllC_nil _) ?_
  refine PO.mk ?_
  change WP _ _ (CA Tryd.f19 [1, 1]) _ _ _
  refine fk_cut ([(0, Value.slice p0 n c), (2, Value.string (St [])), (3, Value.slice none 0 0)] : Fr) (by kernel_rfl) (fun a => WP _ _ _ _ a _) (fun lr2 => ?_)
  refine gi_seq (x := CA Tryd.f19 [1, 1, 0]) (y := CA Tryd.f19 [1, 1, 1]) (by kernel_rfl) ?_
  refine gi_seq (x := CA Tryd.f19 [1, 1, 0, 0]) (y := CA Tryd.f19 [1, 1, 0, 1]) (by kernel_rfl) ?_
  refine gi_pln (id := 2) (ops := RA Tryd.f19 [1, 1, 0, 0]) [0] (by kernel_rfl) (by kernel_rfl) (by kernel_rfl) ?_
  refine plain_batch (rest := []) [⟨0, [], none⟩] (l' := ([(4, Value.int IntKind.i64 0), (0, Value.slice p0 n c), (2, Value.string (St [])), (3, Value.slice none 0 0)] : Fr) ++ lr2) (pts' := []) (eqs := []) (by kernel_rfl) trivial (AllC_nil _) ?_
  refine PO.mk ?_
  change WP _ _ (CA Tryd.f19 [1, 1, 0, 1]) _ _ _
  refine fk_cut ([(0, Value.slice p0 n c), (2, Value.string (St [])), (3, Value.slice none 0 0), (4, Value.int IntKind.i64 0)] : Fr) (by kernel_rfl) (fun a => WP _ _ _ _ a _) (fun lr3 => ?_)
  refine gi_blk (id := 0) (x := CA Tryd.f19 [1, 1, 0, 1, 0]) (by kernel_rfl) ?_
  have h4 : sat g w0 [Sl 5 1 none 0 0 (fl eB []), X, R] := sl_nil 5 1 h0
  refine gi_lp (x := CA Tryd.f19 [1, 1, 0, 1, 0, 0]) (by kernel_rfl) (fun mz_ a w => ∃ i : Nat, ∃ p2 : Option Addr, ∃ c2 : Nat, ∃ lr : Fr, mz_ = n - i ∧ (i ≤ n) ∧ a = mk 22 (([(0, Value.slice p0 n c), (3, Value.slice p2 i c2), (4, Value.int IntKind.i64 (((i : Nat) : Int)))] : Fr) ++ lr) ∧ sat g w [Sl 5 1 p2 i c2 (fl eB ((l.take i).map lq)), X, R]) (n - 0) ⟨0, none, 0, _, rfl, (Nat.zero_le _), (mk_live [(0, Value.slice p0 n c), (3, Value.slice none 0 0), (4, Value.int IntKind.i64 (((0 : Nat) : Int)))] ⟨rfl, rfl, (ov_int (by omega)), trivial⟩), h4⟩ ?_
  rintro m6 a7 w8 ⟨i, p2, c2, lr5, rfl, hi, rfl, h9⟩
  obtain ⟨_, _⟩ := sl_le h9
  change WP _ _ (CA Tryd.f19 [1, 1, 0, 1, 0, 0]) _ _ _
  refine gi_seq (x := CA Tryd.f19 [1, 1, 0, 1, 0, 0, 0]) (y := CA Tryd.f19 [1, 1, 0, 1, 0, 0, 1]) (by kernel_rfl) ?_
  refine gi_seq (x := CA Tryd.f19 [1, 1, 0, 1, 0, 0, 0, 0]) (y := CA Tryd.f19 [1, 1, 0, 1, 0, 0, 0, 1]) (by kernel_rfl) ?_
  refine gi_pln (id := 3) (ops := RA Tryd.f19 [1, 1, 0, 1, 0, 0, 0, 0]) [0, 1, 2, 3] (by kernel_rfl) (by kernel_rfl) (by kernel_rfl) ?_
  refine plain_batch (rest := [3]) [⟨0, [], none⟩, ⟨1, [], none⟩, ⟨2, [], none⟩] (l' := ([(7, Value.int IntKind.i64 (((n : Nat) : Int))), (6, Value.slice p0 n c), (5, Value.int IntKind.i64 (((i : Nat) : Int))), (0, Value.slice p0 n c), (3, Value.slice p2 i c2), (4, Value.int IntKind.i64 (((i : Nat) : Int)))] : Fr) ++ lr5) (pts' := []) (eqs := []) (by kernel_rfl) trivial (AllC_nil _) ?_
  by_cases c10 : ((i : Nat) : Int) < ((n : Nat) : Int)
  ·
    refine plain_batch (rest := []) [⟨3, [], some (Value.bool true)⟩] (l' := ([(8, Value.bool true), (7, Value.int IntKind.i64 (((n : Nat) : Int))), (6, Value.slice p0 n c), (5, Value.int IntKind.i64 (((i : Nat) : Int))), (0, Value.slice p0 n c), (3, Value.slice p2 i c2), (4, Value.int IntKind.i64 (((i : Nat) : Int)))] : Fr) ++ lr5) (pts' := []) (eqs := [(Value.bool (decide (((i : Nat) : Int) < ((n : Nat) : Int))), Value.bool true)]) (by kernel_rfl) ⟨(ov_t (by omega)), trivial⟩ (AllC_nil _) ?_
    refine PO.mk ?_
    change WP _ _ (CA Tryd.f19 [1, 1, 0, 1, 0, 0, 0, 1]) _ _ _
    refine fk_cut ([(0, Value.slice p0 n c), (3, Value.slice p2 i c2), (4, Value.int IntKind.i64 (((i : Nat) : Int))), (8, Value.bool true)] : Fr) (by kernel_rfl) (fun a => WP _ _ _ _ a _) (fun lr11 => ?_)
    refine gi_cnd (x := (Operand.tmp 8)) (s := CA Tryd.f19 [1, 1, 0, 1, 0, 0, 0, 1, 0]) (t := CA Tryd.f19 [1, 1, 0, 1, 0, 0, 0, 1, 1]) true (by kernel_rfl) (by kernel_rfl) ?_
    change WP _ _ (CA Tryd.f19 [1, 1, 0, 1, 0, 0, 0, 1, 0]) _ _ _
    refine gi_skp (by kernel_rfl) ?_
    change WP _ _ (CA Tryd.f19 [1, 1, 0, 1, 0, 0, 1]) _ _ _
    refine gi_seq (x := CA Tryd.f19 [1, 1, 0, 1, 0, 0, 1, 0]) (y := CA Tryd.f19 [1, 1, 0, 1, 0, 0, 1, 1]) (by kernel_rfl) ?_
    refine gi_blk (id := 1) (x := CA Tryd.f19 [1, 1, 0, 1, 0, 0, 1, 0, 0]) (by kernel_rfl) ?_
    refine gi_pln (id := 5) (ops := RA Tryd.f19 [1, 1, 0, 1, 0, 0, 1, 0, 0]) [0, 1, 2, 3, 4, 5, 6, 7, 8, 9] (by kernel_rfl) (by kernel_rfl) (by kernel_rfl) ?_
    obtain ⟨b12, off14, hp13⟩ := gv_ptr (j := 1) h9 rfl hX (by omega)
    refine plain_batch (rest := [3, 4, 5, 6, 7, 8, 9]) [⟨0, [], none⟩, ⟨1, [], none⟩, ⟨2, [], none⟩] (l' := ([(13, Value.int IntKind.i64 (((i : Nat) : Int))), (12, Value.slice p0 n c), (11, Value.slice p2 i c2), (0, Value.slice p0 n c), (3, Value.slice p2 i c2), (4, Value.int IntKind.i64 (((i : Nat) : Int))), (8, Value.bool true)] : Fr) ++ lr11) (pts' := []) (eqs := []) (by kernel_rfl) trivial (AllC_nil _) ?_
    refine plain_law (i := 3) 14 (Value.pointer (some ⟨b12, off14 + i, none⟩)) (by kernel_rfl) (law_indexSlP (o := opA (RA Tryd.f19 [1, 1, 0, 1, 0, 0, 1, 0, 0]) 3) (x := (Operand.tmp 12)) (i := (Operand.tmp 13)) (p := p0) (b := b12) (off := off14) (z := (((i : Nat) : Int))) (len := n) (cap := c) (by kernel_rfl) Tryd.underlying34 1 (by kernel_rfl) i (by kernel_rfl) hp13 (by kernel_rfl) (by omega) (by omega) (off14 + i) (by omega) _) ?_
    obtain ⟨x15, hx16⟩ : ∃ x, l[i]? = some x := ⟨_, List.getElem?_eq_getElem (by rw [hL]; omega)⟩
    have hb17 := u8_lt x15
    obtain ⟨q18, hq19⟩ : ∃ q : Nat, TMod (((x15.toNat : Nat) : Int)) 3 q ∧ (q : Int) < 3 ∧ (q : Int) ≤ ((x15.toNat : Nat) : Int) := rem_nat (by omega) (by omega)
    refine plain_batch (rest := [5, 6, 7, 8, 9]) [⟨4, [Value.int IntKind.u8 (((x15.toNat : Nat) : Int))], none⟩] (l' := ([(15, Value.int IntKind.u8 (((x15.toNat : Nat) : Int))), (14, Value.pointer (some ⟨b12, off14 + i, none⟩)), (13, Value.int IntKind.i64 (((i : Nat) : Int))), (12, Value.slice p0 n c), (11, Value.slice p2 i c2), (0, Value.slice p0 n c), (3, Value.slice p2 i c2), (4, Value.int IntKind.i64 (((i : Nat) : Int))), (8, Value.bool true)] : Fr) ++ lr11) (pts' := [(4, ⟨b12, off14 + i, none⟩, Value.int IntKind.u8 (((x15.toNat : Nat) : Int)))]) (eqs := []) (by kernel_rfl) trivial (AllC_cons (gv_cell (j := 1) h9 rfl hX hp13 (fl_get eB_ok (j := 0) (v := Value.int IntKind.u8 (((x15.toNat : Nat) : Int))) hx16 rfl) (off14 + i) (by omega)) (AllC_nil _)) ?_
    refine plain_law (i := 5) 16 (Value.int IntKind.u8 (((q18 : Nat) : Int))) (by kernel_rfl) (law_rem (o := opA (RA Tryd.f19 [1, 1, 0, 1, 0, 0, 1, 0, 0]) 5) (t := 5) (x := (Operand.tmp 15)) (y := (Operand.const (Value.int IntKind.u8 3))) (by kernel_rfl) (((x15.toNat : Nat) : Int)) 3 (by kernel_rfl) (by kernel_rfl) (by omega) (((q18 : Nat) : Int)) hq19.1 _) ?_
    obtain ⟨x20, hx21⟩ : ∃ x, ([111, 108, 102] : List UInt8)[q18]? = some x := ⟨_, List.getElem?_eq_getElem (by simp only [List.length_cons, List.length_nil]; omega)⟩
    have hb22 := u8_lt x20
    refine plain_law (i := 6) 17 (Value.int IntKind.u8 (((x20.toNat : Nat) : Int))) (by kernel_rfl) (law_idxStr (o := opA (RA Tryd.f19 [1, 1, 0, 1, 0, 0, 1, 0, 0]) 6) (x := (Operand.const (Value.string (St [111, 108, 102])))) (i := (Operand.tmp 16)) (k := IntKind.u8) (s := [111, 108, 102]) (z := (((q18 : Nat) : Int))) (b := x20) (by kernel_rfl) Tryd.underlying9 (by kernel_rfl) (by kernel_rfl) q18 (by omega) hx21 _) ?_
    refine plain_act (i := 7) (by kernel_rfl) ?_
    refine an_new (d := 18) (fun xb_ => Value.slice (some ⟨xb_, 0, none⟩) 1 1) (fun xb_ => Obj.cells [Value.int IntKind.u8 (((x20.toNat : Nat) : Int))].toArray 5 (0, 0)) (fun xb_ => by kernel_rfl) (by kernel_rfl) rfl h9 ?_
    intro r23 w24 (h25 : sat g w24 [Cl r23 [Value.int IntKind.u8 (((x20.toNat : Nat) : Int))] 5, Sl 5 1 p2 i c2 (fl eB ((l.take i).map lq)), X, R])
    have h26 : sat g w24 [Sl 5 1 p2 i c2 (fl eB ((l.take i).map lq)), Cl r23 [Value.int IntKind.u8 (((x20.toNat : Nat) : Int))] 5, X, R] := sat_sel [1, 0, 2, 3] rfl h25
    refine plain_act (i := 8) (by kernel_rfl) ?_
    refine an_append (d := 19) (sz := 1) (s := (Operand.tmp 11)) (x := (Operand.tmp 18)) (z := Value.int IntKind.u8 0) (p := p2) (m := i) (c := c2) (k := 1) (c2 := 1) (a := ⟨r23, 0, none⟩) (by_ := 1) (by kernel_rfl) (by kernel_rfl) rfl Tryd.underlying34 (by kernel_rfl) rfl (by decide) (by kernel_rfl) (by kernel_rfl) h26 (fl eB [x20]) rfl (fun j u hj => by rw [add_off]; exact sat_cell h26 1 rfl (by rw [Nat.zero_add]; exact hj)) (fl_one eB_ok _) (by omega) (by omega) (i + 1) (by omega) ?_
    intro p27 cap28 w29 (h30 : sat g w29 [Sl 5 1 p27 (i + 1) cap28 ((fl eB ((l.take i).map lq)) ++ (fl eB [x20])), Cl r23 [Value.int IntKind.u8 (((x20.toNat : Nat) : Int))] 5, X, R])
    have h31 : sat g w29 [Sl 5 1 p27 (i + 1) cap28 (fl eB (((l.take i).map lq) ++ [x20])), Cl r23 [Value.int IntKind.u8 (((x20.toNat : Nat) : Int))] 5, X, R] := sat_imp h30 (fun _ hh => by rw [fl_app]; exact hh)
    obtain ⟨hn32, hn33⟩ := sl_le h31
    refine plain_batch (rest := []) [⟨9, [], none⟩] (l' := ([(3, Value.slice p27 (i + 1) cap28), (19, Value.slice p27 (i + 1) cap28), (18, Value.slice (some ⟨r23, 0, none⟩) 1 1), (17, Value.int IntKind.u8 (((x20.toNat : Nat) : Int))), (16, Value.int IntKind.u8 (((q18 : Nat) : Int))), (15, Value.int IntKind.u8 (((x15.toNat : Nat) : Int))), (14, Value.pointer (some ⟨b12, off14 + i, none⟩)), (13, Value.int IntKind.i64 (((i : Nat) : Int))), (12, Value.slice p0 n c), (11, Value.slice p2 i c2), (0, Value.slice p0 n c), (3, Value.slice p2 i c2), (4, Value.int IntKind.i64 (((i : Nat) : Int))), (8, Value.bool true)] : Fr) ++ lr11) (pts' := []) (eqs := []) (by kernel_rfl) trivial (AllC_nil _) ?_
    refine PO.mk ?_
    change WP _ _ (CA Tryd.f19 [1, 1, 0, 1, 0, 0, 1, 1]) _ _ _
    refine fk_cut ([(0, Value.slice p0 n c), (3, Value.slice p27 (i + 1) cap28), (4, Value.int IntKind.i64 (((i : Nat) : Int))), (8, Value.bool true)] : Fr) (by kernel_rfl) (fun a => WP _ _ _ _ a _) (fun lr34 => ?_)
    refine gi_pln (id := 4) (ops := RA Tryd.f19 [1, 1, 0, 1, 0, 0, 1, 1]) [0, 1, 2] (by kernel_rfl) (by kernel_rfl) (by kernel_rfl) ?_
    refine plain_batch (rest := []) [⟨0, [], none⟩, ⟨1, [], some (Value.int IntKind.i64 (((i : Nat) : Int) + 1))⟩, ⟨2, [], none⟩] (l' := ([(4, Value.int IntKind.i64 (((i : Nat) : Int) + 1)), (10, Value.int IntKind.i64 (((i : Nat) : Int) + 1)), (9, Value.int IntKind.i64 (((i : Nat) : Int))), (0, Value.slice p0 n c), (3, Value.slice p27 (i + 1) cap28), (4, Value.int IntKind.i64 (((i : Nat) : Int))), (8, Value.bool true)] : Fr) ++ lr34) (pts' := []) (eqs := [(Value.int IntKind.i64 (IntKind.wrap IntKind.i64 ((((i : Nat) : Int)) + 1)), Value.int IntKind.i64 (((i : Nat) : Int) + 1))]) (by kernel_rfl) ⟨(ov_i64 (by omega) (by omega) (by omega)), trivial⟩ (AllC_nil _) ?_
    refine PO.mk ?_
    have h35 : sat g w29 [Sl 5 1 p27 (i + 1) cap28 (fl eB ((l.take (i + 1)).map lq)), Cl r23 [Value.int IntKind.u8 (((x20.toNat : Nat) : Int))] 5, X, R] := (show (((l.take i).map lq) ++ [x20]) = ((l.take (i + 1)).map lq) from (tk_eq hx16 (lq_at hq19.1 hx21))) ▸ h31
    have h36 : sat g w29 [Sl 5 1 p27 (i + 1) cap28 (fl eB ((l.take (i + 1)).map lq)), X, R, Cl r23 [Value.int IntKind.u8 (((x20.toNat : Nat) : Int))] 5] := sat_sel [0, 2, 3, 1] rfl h35
    have h37 : sat g w29 [Sl 5 1 p27 (i + 1) cap28 (fl eB ((l.take (i + 1)).map lq)), X, R] := sat_sel [0, 1, 2] rfl h36
    change ∃ n', n' < _ ∧ _
    refine ⟨(n - (i + 1)), by omega, (i + 1), p27, cap28, _, rfl, (by omega), (mk_live [(0, Value.slice p0 n c), (3, Value.slice p27 (i + 1) cap28), (4, Value.int IntKind.i64 ((((i + 1) : Nat) : Int)))] ⟨rfl, rfl, (ov_int (by omega)), trivial⟩), h37⟩
  ·
    refine plain_batch (rest := []) [⟨3, [], some (Value.bool false)⟩] (l' := ([(8, Value.bool false), (7, Value.int IntKind.i64 (((n : Nat) : Int))), (6, Value.slice p0 n c), (5, Value.int IntKind.i64 (((i : Nat) : Int))), (0, Value.slice p0 n c), (3, Value.slice p2 i c2), (4, Value.int IntKind.i64 (((i : Nat) : Int)))] : Fr) ++ lr5) (pts' := []) (eqs := [(Value.bool (decide (((i : Nat) : Int) < ((n : Nat) : Int))), Value.bool false)]) (by kernel_rfl) ⟨(ov_f (by omega)), trivial⟩ (AllC_nil _) ?_
    refine PO.mk ?_
    change WP _ _ (CA Tryd.f19 [1, 1, 0, 1, 0, 0, 0, 1]) _ _ _
    refine fk_cut ([(0, Value.slice p0 n c), (3, Value.slice p2 i c2), (4, Value.int IntKind.i64 (((i : Nat) : Int))), (8, Value.bool false)] : Fr) (by kernel_rfl) (fun a => WP _ _ _ _ a _) (fun lr38 => ?_)
    refine gi_cnd (x := (Operand.tmp 8)) (s := CA Tryd.f19 [1, 1, 0, 1, 0, 0, 0, 1, 0]) (t := CA Tryd.f19 [1, 1, 0, 1, 0, 0, 0, 1, 1]) false (by kernel_rfl) (by kernel_rfl) ?_
    change WP _ _ (CA Tryd.f19 [1, 1, 0, 1, 0, 0, 0, 1, 1]) _ _ _
    refine gi_ext (id := 0) (by kernel_rfl) ?_
    change WP _ _ (CA Tryd.f19 [1, 1, 1]) _ _ _
    refine gi_seq (x := CA Tryd.f19 [1, 1, 1, 0]) (y := CA Tryd.f19 [1, 1, 1, 1]) (by kernel_rfl) ?_
    refine gi_pln (id := 6) (ops := RA Tryd.f19 [1, 1, 1, 0]) [0, 1, 2] (by kernel_rfl) (by kernel_rfl) (by kernel_rfl) ?_
    have hl39 := fl_n eB_ok (by decide) h9
    refine plain_batch (rest := [1, 2]) [⟨0, [], none⟩] (l' := ([(20, Value.slice p2 i c2), (0, Value.slice p0 n c), (3, Value.slice p2 i c2), (4, Value.int IntKind.i64 (((i : Nat) : Int))), (8, Value.bool false)] : Fr) ++ lr38) (pts' := []) (eqs := []) (by kernel_rfl) trivial (AllC_nil _) ?_
    refine plain_law (i := 1) 21 (Value.string (St ((l.take i).map lq))) (by kernel_rfl) (law_bts (o := opA (RA Tryd.f19 [1, 1, 1, 0]) 1) (x := (Operand.tmp 20)) (p := p2) (m := i) (c := c2) (by kernel_rfl) Tryd.underlying34 Tryd.underlying5 Tryd.underlying9 (by kernel_rfl) 0 h9 rfl (gv_sl _ _ _) hl39) ?_
    refine plain_batch (rest := []) [⟨2, [], none⟩] (l' := ([(2, Value.string (St ((l.take i).map lq))), (21, Value.string (St ((l.take i).map lq))), (20, Value.slice p2 i c2), (0, Value.slice p0 n c), (3, Value.slice p2 i c2), (4, Value.int IntKind.i64 (((i : Nat) : Int))), (8, Value.bool false)] : Fr) ++ lr38) (pts' := []) (eqs := []) (by kernel_rfl) trivial (AllC_nil _) ?_
    refine PO.mk ?_
    change WP _ _ (CA Tryd.f19 [1, 1, 1, 1]) _ _ _
    refine fk_cut ([(0, Value.slice p0 n c), (2, Value.string (St ((l.take i).map lq))), (3, Value.slice p2 i c2), (4, Value.int IntKind.i64 (((i : Nat) : Int))), (8, Value.bool false)] : Fr) (by kernel_rfl) (fun a => WP _ _ _ _ a _) (fun lr40 => ?_)
    refine gi_rt (by kernel_rfl) ?_
    repeat (first | simp only [Exit.inBlock] | simp only [Exit.then])
    have h41 : sat g w8 [X, Sl 5 1 p2 i c2 (fl eB ((l.take i).map lq)), R] := sat_sel [1, 0, 2] rfl h9
    have h42 : sat g w8 [X, R] := sat_sel [0, 2] rfl h41
    refine hi_out [] (Value.string (St ((l.take i).map lq))) [] (by kernel_rfl) (by intro q hq; cases hq) ?_
    exact ⟨Value.string (St ((l.take i).map lq)), [X], rfl, ⟨by rw [show (l.take i).map lq = l.map lq from tk_all (by omega)], rfl⟩, h42⟩

set_option maxHeartbeats 4000000 in
theorem ofs_ht (n : Nat) (z : Int) (hz : z = (n : Int)) (c : UInt8) (hn : n ≤ 1099511627776) : HT Tryd.prog 23 [Value.int IntKind.i64 z, Value.int IntKind.u8 (((c.toNat : Nat) : Int))] [] (fun v K => ∃ p, v = Value.slice p n n ∧ K = [Sl 5 1 p n n (fl eB (List.replicate n c))]) := by
  have hc8 := u8_lt c
  refine hi_in 19 ([(0, Value.int IntKind.i64 z), (1, Value.int IntKind.u8 (((c.toNat : Nat) : Int)))] : Fr) Tryd.func23 (by kernel_rfl) Tryd.ntmps23 rfl rfl ?_
  intro g w0 R h0
  refine gi_seq (x := CA Tryd.f23 [0]) (y := CA Tryd.f23 [1]) (by kernel_rfl) ?_
  refine gi_pln (id := 0) (ops := RA Tryd.f23 [0]) [0] (by kernel_rfl) (by kernel_rfl) (by kernel_rfl) ?_
  refine plain_batch (rest := []) [⟨0, [], none⟩] (l' := ([(4, Value.slice none 0 0), (0, Value.int IntKind.i64 z), (1, Value.int IntKind.u8 (((c.toNat : Nat) : Int)))] : Fr)) (pts' := []) (eqs := []) (by kernel_rfl) trivial (AllC_nil _) ?_
  refine PO.mk ?_
  change WP _ _ (CA Tryd.f23 [1]) _ _ _
  refine fk_cut ([(0, Value.int IntKind.i64 z), (1, Value.int IntKind.u8 (((c.toNat : Nat) : Int))), (4, Value.slice none 0 0)] : Fr) (by kernel_rfl) (fun a => WP _ _ _ _ a _) (fun lr1 => ?_)
  refine gi_seq (x := CA Tryd.f23 [1, 0]) (y := CA Tryd.f23 [1, 1]) (by kernel_rfl) ?_
  refine gi_pln (id := 1) (ops := RA Tryd.f23 [1, 0]) [0, 1, 2] (by kernel_rfl) (by kernel_rfl) (by kernel_rfl) ?_
  refine plain_batch (rest := [1, 2]) [⟨0, [], none⟩] (l' := ([(7, Value.int IntKind.i64 z), (0, Value.int IntKind.i64 z), (1, Value.int IntKind.u8 (((c.toNat : Nat) : Int))), (4, Value.slice none 0 0)] : Fr) ++ lr1) (pts' := []) (eqs := []) (by kernel_rfl) trivial (AllC_nil _) ?_
  refine plain_act (i := 1) (by kernel_rfl) ?_
  refine an_make (k1 := IntKind.i64) (k2 := IntKind.i64) (d := 8) (x := (Operand.tmp 7)) (y := (Operand.tmp 7)) (z := Value.int IntKind.u8 0) (sz := 1) (by_ := 1) (zi := z) (by kernel_rfl) (by kernel_rfl) rfl Tryd.underlying34 (by kernel_rfl) n (by omega) (by kernel_rfl) (by kernel_rfl) (by omega) (by omega) h0 (fl eB (List.replicate n 0)) (made_bytes _) ?_
  intro r2 w3 h4
  obtain ⟨p5, hp6⟩ : ∃ p : Option Addr, p = some ⟨r2, 0, none⟩ := ⟨_, rfl⟩
  have h7 : sat g w3 [Sl 5 1 p5 n n (fl eB (List.replicate n 0)), R] := by rw [hp6]; exact sl_of_cl h4 (by rw [fl_len eB_ok, List.length_replicate]) (by omega)
  rw [← hp6]
  refine plain_batch (rest := []) [⟨2, [], none⟩] (l' := ([(5, Value.slice p5 n n), (8, Value.slice p5 n n), (7, Value.int IntKind.i64 z), (0, Value.int IntKind.i64 z), (1, Value.int IntKind.u8 (((c.toNat : Nat) : Int))), (4, Value.slice none 0 0)] : Fr) ++ lr1) (pts' := []) (eqs := []) (by kernel_rfl) trivial (AllC_nil _) ?_
  refine PO.mk ?_
  change WP _ _ (CA Tryd.f23 [1, 1]) _ _ _
  refine fk_cut ([(0, Value.int IntKind.i64 z), (1, Value.int IntKind.u8 (((c.toNat : Nat) : Int))), (4, Value.slice none 0 0), (5, Value.slice p5 n n)] : Fr) (by kernel_rfl) (fun a => WP _ _ _ _ a _) (fun lr8 => ?_)
  refine gi_seq (x := CA Tryd.f23 [1, 1, 0]) (y := CA Tryd.f23 [1, 1, 1]) (by kernel_rfl) ?_
  refine gi_seq (x := CA Tryd.f23 [1, 1, 0, 0]) (y := CA Tryd.f23 [1, 1, 0, 1]) (by kernel_rfl) ?_
  refine gi_pln (id := 2) (ops := RA Tryd.f23 [1, 1, 0, 0]) [0] (by kernel_rfl) (by kernel_rfl) (by kernel_rfl) ?_
  refine plain_batch (rest := []) [⟨0, [], none⟩] (l' := ([(6, Value.int IntKind.i64 0), (0, Value.int IntKind.i64 z), (1, Value.int IntKind.u8 (((c.toNat : Nat) : Int))), (4, Value.slice none 0 0), (5, Value.slice p5 n n)] : Fr) ++ lr8) (pts' := []) (eqs := []) (by kernel_rfl) trivial (AllC_nil _) ?_
  refine PO.mk ?_
  change WP _ _ (CA Tryd.f23 [1, 1, 0, 1]) _ _ _
  refine fk_cut ([(0, Value.int IntKind.i64 z), (1, Value.int IntKind.u8 (((c.toNat : Nat) : Int))), (4, Value.slice none 0 0), (5, Value.slice p5 n n), (6, Value.int IntKind.i64 0)] : Fr) (by kernel_rfl) (fun a => WP _ _ _ _ a _) (fun lr9 => ?_)
  refine gi_blk (id := 0) (x := CA Tryd.f23 [1, 1, 0, 1, 0]) (by kernel_rfl) ?_
  have h10 : sat g w3 [Sl 5 1 p5 n n (fl eB (List.replicate 0 c ++ List.replicate (n - 0) 0)), R] := (show (List.replicate n 0) = (List.replicate 0 c ++ List.replicate (n - 0) 0) from (by simp)) ▸ h7
  refine gi_lp (x := CA Tryd.f23 [1, 1, 0, 1, 0, 0]) (by kernel_rfl) (fun mz_ a w => ∃ i : Nat, ∃ lr : Fr, mz_ = n - i ∧ (i ≤ n) ∧ a = mk 19 (([(0, Value.int IntKind.i64 z), (1, Value.int IntKind.u8 (((c.toNat : Nat) : Int))), (5, Value.slice p5 n n), (6, Value.int IntKind.i64 (((i : Nat) : Int)))] : Fr) ++ lr) ∧ sat g w [Sl 5 1 p5 n n (fl eB (List.replicate i c ++ List.replicate (n - i) 0)), R]) (n - 0) ⟨0, _, rfl, (Nat.zero_le _), (mk_live [(0, Value.int IntKind.i64 z), (1, Value.int IntKind.u8 (((c.toNat : Nat) : Int))), (5, Value.slice p5 n n), (6, Value.int IntKind.i64 (((0 : Nat) : Int)))] ⟨rfl, rfl, rfl, (ov_int (by omega)), trivial⟩), h10⟩ ?_
  rintro m12 a13 w14 ⟨i, lr11, rfl, hi, rfl, h15⟩
  skip
  change WP _ _ (CA Tryd.f23 [1, 1, 0, 1, 0, 0]) _ _ _
  refine gi_seq (x := CA Tryd.f23 [1, 1, 0, 1, 0, 0, 0]) (y := CA Tryd.f23 [1, 1, 0, 1, 0, 0, 1]) (by kernel_rfl) ?_
  refine gi_seq (x := CA Tryd.f23 [1, 1, 0, 1, 0, 0, 0, 0]) (y := CA Tryd.f23 [1, 1, 0, 1, 0, 0, 0, 1]) (by kernel_rfl) ?_
  refine gi_pln (id := 3) (ops := RA Tryd.f23 [1, 1, 0, 1, 0, 0, 0, 0]) [0, 1, 2] (by kernel_rfl) (by kernel_rfl) (by kernel_rfl) ?_
  refine plain_batch (rest := [2]) [⟨0, [], none⟩, ⟨1, [], none⟩] (l' := ([(10, Value.int IntKind.i64 z), (9, Value.int IntKind.i64 (((i : Nat) : Int))), (0, Value.int IntKind.i64 z), (1, Value.int IntKind.u8 (((c.toNat : Nat) : Int))), (5, Value.slice p5 n n), (6, Value.int IntKind.i64 (((i : Nat) : Int)))] : Fr) ++ lr11) (pts' := []) (eqs := []) (by kernel_rfl) trivial (AllC_nil _) ?_
  by_cases c16 : ((i : Nat) : Int) < z
  ·
    refine plain_batch (rest := []) [⟨2, [], some (Value.bool true)⟩] (l' := ([(11, Value.bool true), (10, Value.int IntKind.i64 z), (9, Value.int IntKind.i64 (((i : Nat) : Int))), (0, Value.int IntKind.i64 z), (1, Value.int IntKind.u8 (((c.toNat : Nat) : Int))), (5, Value.slice p5 n n), (6, Value.int IntKind.i64 (((i : Nat) : Int)))] : Fr) ++ lr11) (pts' := []) (eqs := [(Value.bool (decide (((i : Nat) : Int) < z)), Value.bool true)]) (by kernel_rfl) ⟨(ov_t (by omega)), trivial⟩ (AllC_nil _) ?_
    refine PO.mk ?_
    change WP _ _ (CA Tryd.f23 [1, 1, 0, 1, 0, 0, 0, 1]) _ _ _
    refine fk_cut ([(0, Value.int IntKind.i64 z), (1, Value.int IntKind.u8 (((c.toNat : Nat) : Int))), (5, Value.slice p5 n n), (6, Value.int IntKind.i64 (((i : Nat) : Int))), (11, Value.bool true)] : Fr) (by kernel_rfl) (fun a => WP _ _ _ _ a _) (fun lr17 => ?_)
    refine gi_cnd (x := (Operand.tmp 11)) (s := CA Tryd.f23 [1, 1, 0, 1, 0, 0, 0, 1, 0]) (t := CA Tryd.f23 [1, 1, 0, 1, 0, 0, 0, 1, 1]) true (by kernel_rfl) (by kernel_rfl) ?_
    change WP _ _ (CA Tryd.f23 [1, 1, 0, 1, 0, 0, 0, 1, 0]) _ _ _
    refine gi_skp (by kernel_rfl) ?_
    change WP _ _ (CA Tryd.f23 [1, 1, 0, 1, 0, 0, 1]) _ _ _
    refine gi_seq (x := CA Tryd.f23 [1, 1, 0, 1, 0, 0, 1, 0]) (y := CA Tryd.f23 [1, 1, 0, 1, 0, 0, 1, 1]) (by kernel_rfl) ?_
    refine gi_blk (id := 1) (x := CA Tryd.f23 [1, 1, 0, 1, 0, 0, 1, 0, 0]) (by kernel_rfl) ?_
    refine gi_pln (id := 5) (ops := RA Tryd.f23 [1, 1, 0, 1, 0, 0, 1, 0, 0]) [0, 1, 2, 3, 4] (by kernel_rfl) (by kernel_rfl) (by kernel_rfl) ?_
    obtain ⟨b18, hp19⟩ := sl_ptr0 (j := 0) h15 rfl (by omega)
    refine plain_batch (rest := [3, 4]) [⟨0, [], none⟩, ⟨1, [], none⟩, ⟨2, [], none⟩] (l' := ([(16, Value.int IntKind.u8 (((c.toNat : Nat) : Int))), (15, Value.int IntKind.i64 (((i : Nat) : Int))), (14, Value.slice p5 n n), (0, Value.int IntKind.i64 z), (1, Value.int IntKind.u8 (((c.toNat : Nat) : Int))), (5, Value.slice p5 n n), (6, Value.int IntKind.i64 (((i : Nat) : Int))), (11, Value.bool true)] : Fr) ++ lr17) (pts' := []) (eqs := []) (by kernel_rfl) trivial (AllC_nil _) ?_
    refine plain_law (i := 3) 17 (Value.pointer (some ⟨b18, i, none⟩)) (by kernel_rfl) (law_indexSlP (o := opA (RA Tryd.f23 [1, 1, 0, 1, 0, 0, 1, 0, 0]) 3) (x := (Operand.tmp 14)) (i := (Operand.tmp 15)) (p := p5) (b := b18) (off := 0) (z := (((i : Nat) : Int))) (len := n) (cap := n) (by kernel_rfl) Tryd.underlying34 1 (by kernel_rfl) i (by kernel_rfl) hp19 (by kernel_rfl) (by omega) (by omega) i (by omega) _) ?_
    refine plain_act (i := 4) (by kernel_rfl) ?_
    refine an_storeSl (b := b18) [(i, Value.int IntKind.u8 (((c.toNat : Nat) : Int)))] (cs' := (fl eB (List.replicate (i + 1) c ++ List.replicate (n - (i + 1)) 0))) (by kernel_rfl) (by kernel_rfl) hp19 (allq ⟨⟨by omega, rfl⟩, trivial⟩) (by omega) ((setB _ _ _).trans (by rw [show i = i from by omega, fill_set c (by omega)])) h15 ?_
    intro w20 (h21 : sat g w20 [Sl 5 1 p5 n n (fl eB (List.replicate (i + 1) c ++ List.replicate (n - (i + 1)) 0)), R])
    refine PO.mk ?_
    change WP _ _ (CA Tryd.f23 [1, 1, 0, 1, 0, 0, 1, 1]) _ _ _
    refine fk_cut ([(0, Value.int IntKind.i64 z), (1, Value.int IntKind.u8 (((c.toNat : Nat) : Int))), (5, Value.slice p5 n n), (6, Value.int IntKind.i64 (((i : Nat) : Int))), (11, Value.bool true)] : Fr) (by kernel_rfl) (fun a => WP _ _ _ _ a _) (fun lr22 => ?_)
    refine gi_pln (id := 4) (ops := RA Tryd.f23 [1, 1, 0, 1, 0, 0, 1, 1]) [0, 1, 2] (by kernel_rfl) (by kernel_rfl) (by kernel_rfl) ?_
    refine plain_batch (rest := []) [⟨0, [], none⟩, ⟨1, [], some (Value.int IntKind.i64 (((i : Nat) : Int) + 1))⟩, ⟨2, [], none⟩] (l' := ([(6, Value.int IntKind.i64 (((i : Nat) : Int) + 1)), (13, Value.int IntKind.i64 (((i : Nat) : Int) + 1)), (12, Value.int IntKind.i64 (((i : Nat) : Int))), (0, Value.int IntKind.i64 z), (1, Value.int IntKind.u8 (((c.toNat : Nat) : Int))), (5, Value.slice p5 n n), (6, Value.int IntKind.i64 (((i : Nat) : Int))), (11, Value.bool true)] : Fr) ++ lr22) (pts' := []) (eqs := [(Value.int IntKind.i64 (IntKind.wrap IntKind.i64 ((((i : Nat) : Int)) + 1)), Value.int IntKind.i64 (((i : Nat) : Int) + 1))]) (by kernel_rfl) ⟨(ov_i64 (by omega) (by omega) (by omega)), trivial⟩ (AllC_nil _) ?_
    refine PO.mk ?_
    change ∃ n', n' < _ ∧ _
    refine ⟨(n - (i + 1)), by omega, (i + 1), _, rfl, (by omega), (mk_live [(0, Value.int IntKind.i64 z), (1, Value.int IntKind.u8 (((c.toNat : Nat) : Int))), (5, Value.slice p5 n n), (6, Value.int IntKind.i64 ((((i + 1) : Nat) : Int)))] ⟨rfl, rfl, rfl, (ov_int (by omega)), trivial⟩), h21⟩
  ·
    refine plain_batch (rest := []) [⟨2, [], some (Value.bool false)⟩] (l' := ([(11, Value.bool false), (10, Value.int IntKind.i64 z), (9, Value.int IntKind.i64 (((i : Nat) : Int))), (0, Value.int IntKind.i64 z), (1, Value.int IntKind.u8 (((c.toNat : Nat) : Int))), (5, Value.slice p5 n n), (6, Value.int IntKind.i64 (((i : Nat) : Int)))] : Fr) ++ lr11) (pts' := []) (eqs := [(Value.bool (decide (((i : Nat) : Int) < z)), Value.bool false)]) (by kernel_rfl) ⟨(ov_f (by omega)), trivial⟩ (AllC_nil _) ?_
    refine PO.mk ?_
    change WP _ _ (CA Tryd.f23 [1, 1, 0, 1, 0, 0, 0, 1]) _ _ _
    refine fk_cut ([(0, Value.int IntKind.i64 z), (1, Value.int IntKind.u8 (((c.toNat : Nat) : Int))), (5, Value.slice p5 n n), (6, Value.int IntKind.i64 (((i : Nat) : Int))), (11, Value.bool false)] : Fr) (by kernel_rfl) (fun a => WP _ _ _ _ a _) (fun lr23 => ?_)
    refine gi_cnd (x := (Operand.tmp 11)) (s := CA Tryd.f23 [1, 1, 0, 1, 0, 0, 0, 1, 0]) (t := CA Tryd.f23 [1, 1, 0, 1, 0, 0, 0, 1, 1]) false (by kernel_rfl) (by kernel_rfl) ?_
    change WP _ _ (CA Tryd.f23 [1, 1, 0, 1, 0, 0, 0, 1, 1]) _ _ _
    refine gi_ext (id := 0) (by kernel_rfl) ?_
    change WP _ _ (CA Tryd.f23 [1, 1, 1]) _ _ _
    refine gi_seq (x := CA Tryd.f23 [1, 1, 1, 0]) (y := CA Tryd.f23 [1, 1, 1, 1]) (by kernel_rfl) ?_
    refine gi_pln (id := 6) (ops := RA Tryd.f23 [1, 1, 1, 0]) [0, 1] (by kernel_rfl) (by kernel_rfl) (by kernel_rfl) ?_
    refine plain_batch (rest := []) [⟨0, [], none⟩, ⟨1, [], none⟩] (l' := ([(4, Value.slice p5 n n), (18, Value.slice p5 n n), (0, Value.int IntKind.i64 z), (1, Value.int IntKind.u8 (((c.toNat : Nat) : Int))), (5, Value.slice p5 n n), (6, Value.int IntKind.i64 (((i : Nat) : Int))), (11, Value.bool false)] : Fr) ++ lr23) (pts' := []) (eqs := []) (by kernel_rfl) trivial (AllC_nil _) ?_
    refine PO.mk ?_
    change WP _ _ (CA Tryd.f23 [1, 1, 1, 1]) _ _ _
    refine fk_cut ([(0, Value.int IntKind.i64 z), (1, Value.int IntKind.u8 (((c.toNat : Nat) : Int))), (4, Value.slice p5 n n), (5, Value.slice p5 n n), (6, Value.int IntKind.i64 (((i : Nat) : Int))), (11, Value.bool false)] : Fr) (by kernel_rfl) (fun a => WP _ _ _ _ a _) (fun lr24 => ?_)
    refine gi_rt (by kernel_rfl) ?_
    repeat (first | simp only [Exit.inBlock] | simp only [Exit.then])
    have h25 : sat g w14 [Sl 5 1 p5 n n (fl eB (List.replicate n c)), R] := (show (List.replicate i c ++ List.replicate (n - i) 0) = (List.replicate n c) from (by rw [show n - i = 0 from by omega, show i = n from by omega]; simp)) ▸ h15
    refine hi_out [] (Value.slice p5 n n) [] (by kernel_rfl) (by intro q hq; cases hq) ?_
    exact ⟨Value.slice p5 n n, [Sl 5 1 p5 n n (fl eB (List.replicate n c))], rfl, ⟨p5, rfl, rfl⟩, h25⟩

end Go.Proofs.YtjedglbadkbneaaDoor
