/- Walks, printed by my generator gen2.py. -/
import Derived.Test.YtjedglbadkbneaaDoorA1
namespace Go.Proofs.YtjedglbadkbneaaDoor
set_option maxHeartbeats 4000000 in
theorem rparse_ht (l : List UInt8) (hl : l.length ≤ 1099511627776) : HT Tryd.prog 13 [Value.string (St l)] [] (fun v K => ∃ p c, v = Value.tuple #[Value.slice p (prs l).1.length c, Value.int .i64 (prs l).2] ∧ K = [Sl 3 1 p (prs l).1.length c (fl eI (prs l).1)]) := by
  have hgl := gl_le l
  refine hi_in 34 ([(0, Value.string (St l))] : Fr) Tryd.func13 (by kernel_rfl) Tryd.ntmps13 rfl rfl ?_
  intro g w0 R h0
  refine gi_seq (x := CA Tryd.f13 [0]) (y := CA Tryd.f13 [1]) (by kernel_rfl) ?_
  refine gi_pln (id := 0) (ops := RA Tryd.f13 [0]) [0, 1] (by kernel_rfl) (by kernel_rfl) (by kernel_rfl) ?_
  refine plain_batch (rest := []) [⟨0, [], none⟩, ⟨1, [], none⟩] (l' := ([(3, Value.int IntKind.i64 0), (2, Value.slice none 0 0), (0, Value.string (St l))] : Fr)) (pts' := []) (eqs := []) (by kernel_rfl) trivial (AllC_nil _) ?_
  refine PO.mk ?_
  change WP _ _ (CA Tryd.f13 [1]) _ _ _
  refine fk_cut ([(0, Value.string (St l)), (2, Value.slice none 0 0), (3, Value.int IntKind.i64 0)] : Fr) (by kernel_rfl) (fun a => WP _ _ _ _ a _) (fun lr1 => ?_)
  refine gi_seq (x := CA Tryd.f13 [1, 0]) (y := CA Tryd.f13 [1, 1]) (by kernel_rfl) ?_
  refine gi_seq (x := CA Tryd.f13 [1, 0, 0]) (y := CA Tryd.f13 [1, 0, 1]) (by kernel_rfl) ?_
  refine gi_pln (id := 1) (ops := RA Tryd.f13 [1, 0, 0]) [0, 1, 2] (by kernel_rfl) (by kernel_rfl) (by kernel_rfl) ?_
  refine plain_batch (rest := [2]) [⟨0, [], none⟩, ⟨1, [], some (Value.int IntKind.i64 (((l.length : Nat) : Int)))⟩] (l' := ([(7, Value.int IntKind.i64 (((l.length : Nat) : Int))), (6, Value.string (St l)), (0, Value.string (St l)), (2, Value.slice none 0 0), (3, Value.int IntKind.i64 0)] : Fr) ++ lr1) (pts' := []) (eqs := [(Value.int IntKind.i64 ((St l).size : Int), Value.int IntKind.i64 (((l.length : Nat) : Int)))]) (by kernel_rfl) ⟨(ov_int (st_len _)), trivial⟩ (AllC_nil _) ?_
  by_cases c2 : ((l.length : Nat) : Int) > 2000
  ·
    refine plain_batch (rest := []) [⟨2, [], some (Value.bool true)⟩] (l' := ([(8, Value.bool true), (7, Value.int IntKind.i64 (((l.length : Nat) : Int))), (6, Value.string (St l)), (0, Value.string (St l)), (2, Value.slice none 0 0), (3, Value.int IntKind.i64 0)] : Fr) ++ lr1) (pts' := []) (eqs := [(Value.bool (decide (((l.length : Nat) : Int) > 2000)), Value.bool true)]) (by kernel_rfl) ⟨(ov_t (by omega)), trivial⟩ (AllC_nil _) ?_
    refine PO.mk ?_
    change WP _ _ (CA Tryd.f13 [1, 0, 1]) _ _ _
    refine fk_cut ([(0, Value.string (St l)), (2, Value.slice none 0 0), (3, Value.int IntKind.i64 0), (8, Value.bool true)] : Fr) (by kernel_rfl) (fun a => WP _ _ _ _ a _) (fun lr3 => ?_)
    refine gi_cnd (x := (Operand.tmp 8)) (s := CA Tryd.f13 [1, 0, 1, 0]) (t := CA Tryd.f13 [1, 0, 1, 1]) true (by kernel_rfl) (by kernel_rfl) ?_
    change WP _ _ (CA Tryd.f13 [1, 0, 1, 0]) _ _ _
    refine gi_seq (x := CA Tryd.f13 [1, 0, 1, 0, 0]) (y := CA Tryd.f13 [1, 0, 1, 0, 1]) (by kernel_rfl) ?_
    refine gi_pln (id := 2) (ops := RA Tryd.f13 [1, 0, 1, 0, 0]) [0, 1] (by kernel_rfl) (by kernel_rfl) (by kernel_rfl) ?_
    refine plain_batch (rest := []) [⟨0, [], none⟩, ⟨1, [], none⟩] (l' := ([(3, Value.int IntKind.i64 11), (2, Value.slice none 0 0), (0, Value.string (St l)), (2, Value.slice none 0 0), (3, Value.int IntKind.i64 0), (8, Value.bool true)] : Fr) ++ lr3) (pts' := []) (eqs := []) (by kernel_rfl) trivial (AllC_nil _) ?_
    refine PO.mk ?_
    change WP _ _ (CA Tryd.f13 [1, 0, 1, 0, 1]) _ _ _
    refine fk_cut ([(0, Value.string (St l)), (2, Value.slice none 0 0), (3, Value.int IntKind.i64 11), (8, Value.bool true)] : Fr) (by kernel_rfl) (fun a => WP _ _ _ _ a _) (fun lr4 => ?_)
    refine gi_rt (by kernel_rfl) ?_
    repeat (first | simp only [Exit.inBlock] | simp only [Exit.then])
    have h5 : sat g w0 [Sl 3 1 none 0 0 (fl eI []), R] := sl_nil 3 1 h0
    refine hi_out [] (Value.tuple #[Value.slice none 0 0, Value.int IntKind.i64 11]) [] (by kernel_rfl) (by intro q hq; cases hq) ?_
    exact ⟨Value.tuple #[Value.slice none 0 0, Value.int IntKind.i64 11], [Sl 3 1 none 0 0 (fl eI [])], rfl, ⟨none, 0, (by rw [(prs_many (by omega))]; rfl), (by rw [(prs_many (by omega))]; rfl)⟩, h5⟩
  ·
    refine plain_batch (rest := []) [⟨2, [], some (Value.bool false)⟩] (l' := ([(8, Value.bool false), (7, Value.int IntKind.i64 (((l.length : Nat) : Int))), (6, Value.string (St l)), (0, Value.string (St l)), (2, Value.slice none 0 0), (3, Value.int IntKind.i64 0)] : Fr) ++ lr1) (pts' := []) (eqs := [(Value.bool (decide (((l.length : Nat) : Int) > 2000)), Value.bool false)]) (by kernel_rfl) ⟨(ov_f (by omega)), trivial⟩ (AllC_nil _) ?_
    refine PO.mk ?_
    change WP _ _ (CA Tryd.f13 [1, 0, 1]) _ _ _
    refine fk_cut ([(0, Value.string (St l)), (2, Value.slice none 0 0), (3, Value.int IntKind.i64 0), (8, Value.bool false)] : Fr) (by kernel_rfl) (fun a => WP _ _ _ _ a _) (fun lr6 => ?_)
    refine gi_cnd (x := (Operand.tmp 8)) (s := CA Tryd.f13 [1, 0, 1, 0]) (t := CA Tryd.f13 [1, 0, 1, 1]) false (by kernel_rfl) (by kernel_rfl) ?_
    change WP _ _ (CA Tryd.f13 [1, 0, 1, 1]) _ _ _
    refine gi_skp (by kernel_rfl) ?_
    change WP _ _ (CA Tryd.f13 [1, 1]) _ _ _
    refine gi_seq (x := CA Tryd.f13 [1, 1, 0]) (y := CA Tryd.f13 [1, 1, 1]) (by kernel_rfl) ?_
    refine gi_pln (id := 3) (ops := RA Tryd.f13 [1, 1, 0]) [0] (by kernel_rfl) (by kernel_rfl) (by kernel_rfl) ?_
    refine plain_batch (rest := []) [⟨0, [], none⟩] (l' := ([(4, Value.slice none 0 0), (0, Value.string (St l)), (2, Value.slice none 0 0), (3, Value.int IntKind.i64 0), (8, Value.bool false)] : Fr) ++ lr6) (pts' := []) (eqs := []) (by kernel_rfl) trivial (AllC_nil _) ?_
    refine PO.mk ?_
    change WP _ _ (CA Tryd.f13 [1, 1, 1]) _ _ _
    refine fk_cut ([(0, Value.string (St l)), (2, Value.slice none 0 0), (3, Value.int IntKind.i64 0), (4, Value.slice none 0 0), (8, Value.bool false)] : Fr) (by kernel_rfl) (fun a => WP _ _ _ _ a _) (fun lr7 => ?_)
    refine gi_seq (x := CA Tryd.f13 [1, 1, 1, 0]) (y := CA Tryd.f13 [1, 1, 1, 1]) (by kernel_rfl) ?_
    refine gi_seq (x := CA Tryd.f13 [1, 1, 1, 0, 0]) (y := CA Tryd.f13 [1, 1, 1, 0, 1]) (by kernel_rfl) ?_
    refine gi_pln (id := 4) (ops := RA Tryd.f13 [1, 1, 1, 0, 0]) [0] (by kernel_rfl) (by kernel_rfl) (by kernel_rfl) ?_
    refine plain_batch (rest := []) [⟨0, [], none⟩] (l' := ([(5, Value.int IntKind.i64 0), (0, Value.string (St l)), (2, Value.slice none 0 0), (3, Value.int IntKind.i64 0), (4, Value.slice none 0 0), (8, Value.bool false)] : Fr) ++ lr7) (pts' := []) (eqs := []) (by kernel_rfl) trivial (AllC_nil _) ?_
    refine PO.mk ?_
    change WP _ _ (CA Tryd.f13 [1, 1, 1, 0, 1]) _ _ _
    refine fk_cut ([(0, Value.string (St l)), (2, Value.slice none 0 0), (3, Value.int IntKind.i64 0), (4, Value.slice none 0 0), (5, Value.int IntKind.i64 0), (8, Value.bool false)] : Fr) (by kernel_rfl) (fun a => WP _ _ _ _ a _) (fun lr8 => ?_)
    refine gi_blk (id := 0) (x := CA Tryd.f13 [1, 1, 1, 0, 1, 0]) (by kernel_rfl) ?_
    have h9 : sat g w0 [Sl 3 1 none 0 0 (fl eI []), R] := sl_nil 3 1 h0
    refine gi_lp (x := CA Tryd.f13 [1, 1, 1, 0, 1, 0, 0]) (by kernel_rfl) (fun mz_ a w => ∃ i : Nat, ∃ p : Option Addr, ∃ c : Nat, ∃ lr : Fr, mz_ = l.length - i ∧ (i ≤ gl l) ∧ a = mk 34 (([(0, Value.string (St l)), (4, Value.slice p i c), (5, Value.int IntKind.i64 (((i : Nat) : Int)))] : Fr) ++ lr) ∧ sat g w [Sl 3 1 p i c (fl eI ((l.take i).map cd)), R]) (l.length - 0) ⟨0, none, 0, _, rfl, (Nat.zero_le _), (mk_live [(0, Value.string (St l)), (4, Value.slice none 0 0), (5, Value.int IntKind.i64 (((0 : Nat) : Int)))] ⟨rfl, rfl, (ov_int (by omega)), trivial⟩), h9⟩ ?_
    rintro m11 a12 w13 ⟨i, p, c, lr10, rfl, hi, rfl, h14⟩
    obtain ⟨_, _⟩ := sl_le h14
    change WP _ _ (CA Tryd.f13 [1, 1, 1, 0, 1, 0, 0]) _ _ _
    refine gi_seq (x := CA Tryd.f13 [1, 1, 1, 0, 1, 0, 0, 0]) (y := CA Tryd.f13 [1, 1, 1, 0, 1, 0, 0, 1]) (by kernel_rfl) ?_
    refine gi_seq (x := CA Tryd.f13 [1, 1, 1, 0, 1, 0, 0, 0, 0]) (y := CA Tryd.f13 [1, 1, 1, 0, 1, 0, 0, 0, 1]) (by kernel_rfl) ?_
    refine gi_pln (id := 5) (ops := RA Tryd.f13 [1, 1, 1, 0, 1, 0, 0, 0, 0]) [0, 1, 2, 3] (by kernel_rfl) (by kernel_rfl) (by kernel_rfl) ?_
    refine plain_batch (rest := [3]) [⟨0, [], none⟩, ⟨1, [], none⟩, ⟨2, [], some (Value.int IntKind.i64 (((l.length : Nat) : Int)))⟩] (l' := ([(11, Value.int IntKind.i64 (((l.length : Nat) : Int))), (10, Value.string (St l)), (9, Value.int IntKind.i64 (((i : Nat) : Int))), (0, Value.string (St l)), (4, Value.slice p i c), (5, Value.int IntKind.i64 (((i : Nat) : Int)))] : Fr) ++ lr10) (pts' := []) (eqs := [(Value.int IntKind.i64 ((St l).size : Int), Value.int IntKind.i64 (((l.length : Nat) : Int)))]) (by kernel_rfl) ⟨(ov_int (st_len _)), trivial⟩ (AllC_nil _) ?_
    by_cases c15 : ((i : Nat) : Int) < ((l.length : Nat) : Int)
    ·
      refine plain_batch (rest := []) [⟨3, [], some (Value.bool true)⟩] (l' := ([(12, Value.bool true), (11, Value.int IntKind.i64 (((l.length : Nat) : Int))), (10, Value.string (St l)), (9, Value.int IntKind.i64 (((i : Nat) : Int))), (0, Value.string (St l)), (4, Value.slice p i c), (5, Value.int IntKind.i64 (((i : Nat) : Int)))] : Fr) ++ lr10) (pts' := []) (eqs := [(Value.bool (decide (((i : Nat) : Int) < ((l.length : Nat) : Int))), Value.bool true)]) (by kernel_rfl) ⟨(ov_t (by omega)), trivial⟩ (AllC_nil _) ?_
      refine PO.mk ?_
      change WP _ _ (CA Tryd.f13 [1, 1, 1, 0, 1, 0, 0, 0, 1]) _ _ _
      refine fk_cut ([(0, Value.string (St l)), (4, Value.slice p i c), (5, Value.int IntKind.i64 (((i : Nat) : Int))), (12, Value.bool true)] : Fr) (by kernel_rfl) (fun a => WP _ _ _ _ a _) (fun lr16 => ?_)
      refine gi_cnd (x := (Operand.tmp 12)) (s := CA Tryd.f13 [1, 1, 1, 0, 1, 0, 0, 0, 1, 0]) (t := CA Tryd.f13 [1, 1, 1, 0, 1, 0, 0, 0, 1, 1]) true (by kernel_rfl) (by kernel_rfl) ?_
      change WP _ _ (CA Tryd.f13 [1, 1, 1, 0, 1, 0, 0, 0, 1, 0]) _ _ _
      refine gi_skp (by kernel_rfl) ?_
      change WP _ _ (CA Tryd.f13 [1, 1, 1, 0, 1, 0, 0, 1]) _ _ _
      refine gi_seq (x := CA Tryd.f13 [1, 1, 1, 0, 1, 0, 0, 1, 0]) (y := CA Tryd.f13 [1, 1, 1, 0, 1, 0, 0, 1, 1]) (by kernel_rfl) ?_
      refine gi_blk (id := 1) (x := CA Tryd.f13 [1, 1, 1, 0, 1, 0, 0, 1, 0, 0]) (by kernel_rfl) ?_
      refine gi_seq (x := CA Tryd.f13 [1, 1, 1, 0, 1, 0, 0, 1, 0, 0, 0]) (y := CA Tryd.f13 [1, 1, 1, 0, 1, 0, 0, 1, 0, 0, 1]) (by kernel_rfl) ?_
      refine gi_pln (id := 7) (ops := RA Tryd.f13 [1, 1, 1, 0, 1, 0, 0, 1, 0, 0, 0]) [0, 1, 2] (by kernel_rfl) (by kernel_rfl) (by kernel_rfl) ?_
      obtain ⟨x17, hx18⟩ : ∃ x, l[i]? = some x := ⟨_, List.getElem?_eq_getElem (by omega)⟩
      have hb19 := u8_lt x17
      refine plain_batch (rest := [2]) [⟨0, [], none⟩, ⟨1, [], none⟩] (l' := ([(16, Value.int IntKind.i64 (((i : Nat) : Int))), (15, Value.string (St l)), (0, Value.string (St l)), (4, Value.slice p i c), (5, Value.int IntKind.i64 (((i : Nat) : Int))), (12, Value.bool true)] : Fr) ++ lr16) (pts' := []) (eqs := []) (by kernel_rfl) trivial (AllC_nil _) ?_
      refine plain_law (i := 2) 17 (Value.int IntKind.u8 (((x17.toNat : Nat) : Int))) (by kernel_rfl) (law_idxStr (o := opA (RA Tryd.f13 [1, 1, 1, 0, 1, 0, 0, 1, 0, 0, 0]) 2) (x := (Operand.tmp 15)) (i := (Operand.tmp 16)) (k := IntKind.i64) (s := l) (z := (((i : Nat) : Int))) (b := x17) (by kernel_rfl) Tryd.underlying9 (by kernel_rfl) (by kernel_rfl) i (by omega) hx18 _) ?_
      refine PO.mk ?_
      change WP _ _ (CA Tryd.f13 [1, 1, 1, 0, 1, 0, 0, 1, 0, 0, 1]) _ _ _
      refine fk_cut ([(0, Value.string (St l)), (4, Value.slice p i c), (5, Value.int IntKind.i64 (((i : Nat) : Int))), (12, Value.bool true), (17, Value.int IntKind.u8 (((x17.toNat : Nat) : Int)))] : Fr) (by kernel_rfl) (fun a => WP _ _ _ _ a _) (fun lr20 => ?_)
      refine gi_blk (id := 2) (x := CA Tryd.f13 [1, 1, 1, 0, 1, 0, 0, 1, 0, 0, 1, 0]) (by kernel_rfl) ?_
      refine gi_seq (x := CA Tryd.f13 [1, 1, 1, 0, 1, 0, 0, 1, 0, 0, 1, 0, 0]) (y := CA Tryd.f13 [1, 1, 1, 0, 1, 0, 0, 1, 0, 0, 1, 0, 1]) (by kernel_rfl) ?_
      refine gi_pln (id := 9) (ops := RA Tryd.f13 [1, 1, 1, 0, 1, 0, 0, 1, 0, 0, 1, 0, 0]) [0, 1] (by kernel_rfl) (by kernel_rfl) (by kernel_rfl) ?_
      by_cases c21 : ((x17.toNat : Nat) : Int) = 111
      ·
        refine plain_batch (rest := []) [⟨0, [], some (Value.bool true)⟩, ⟨1, [], none⟩] (l' := ([(18, Value.bool true), (19, Value.bool true), (0, Value.string (St l)), (4, Value.slice p i c), (5, Value.int IntKind.i64 (((i : Nat) : Int))), (12, Value.bool true), (17, Value.int IntKind.u8 (((x17.toNat : Nat) : Int)))] : Fr) ++ lr20) (pts' := []) (eqs := [(Value.bool ((((x17.toNat : Nat) : Int)) == 111), Value.bool true)]) (by kernel_rfl) ⟨(ov_et (by omega)), trivial⟩ (AllC_nil _) ?_
        refine PO.mk ?_
        change WP _ _ (CA Tryd.f13 [1, 1, 1, 0, 1, 0, 0, 1, 0, 0, 1, 0, 1]) _ _ _
        refine fk_cut ([(0, Value.string (St l)), (4, Value.slice p i c), (5, Value.int IntKind.i64 (((i : Nat) : Int))), (12, Value.bool true), (17, Value.int IntKind.u8 (((x17.toNat : Nat) : Int))), (18, Value.bool true)] : Fr) (by kernel_rfl) (fun a => WP _ _ _ _ a _) (fun lr22 => ?_)
        refine gi_cnd (x := (Operand.tmp 18)) (s := CA Tryd.f13 [1, 1, 1, 0, 1, 0, 0, 1, 0, 0, 1, 0, 1, 0]) (t := CA Tryd.f13 [1, 1, 1, 0, 1, 0, 0, 1, 0, 0, 1, 0, 1, 1]) true (by kernel_rfl) (by kernel_rfl) ?_
        change WP _ _ (CA Tryd.f13 [1, 1, 1, 0, 1, 0, 0, 1, 0, 0, 1, 0, 1, 0]) _ _ _
        refine gi_pln (id := 10) (ops := RA Tryd.f13 [1, 1, 1, 0, 1, 0, 0, 1, 0, 0, 1, 0, 1, 0]) [0, 1, 2, 3] (by kernel_rfl) (by kernel_rfl) (by kernel_rfl) ?_
        refine plain_batch (rest := [1, 2, 3]) [⟨0, [], none⟩] (l' := ([(20, Value.slice p i c), (0, Value.string (St l)), (4, Value.slice p i c), (5, Value.int IntKind.i64 (((i : Nat) : Int))), (12, Value.bool true), (17, Value.int IntKind.u8 (((x17.toNat : Nat) : Int))), (18, Value.bool true)] : Fr) ++ lr22) (pts' := []) (eqs := []) (by kernel_rfl) trivial (AllC_nil _) ?_
        refine plain_act (i := 1) (by kernel_rfl) ?_
        refine an_new (d := 21) (fun xb_ => Value.slice (some ⟨xb_, 0, none⟩) 1 1) (fun xb_ => Obj.cells [Value.int IntKind.i64 1].toArray 3 (0, 0)) (fun xb_ => by kernel_rfl) (by kernel_rfl) rfl h14 ?_
        intro r23 w24 (h25 : sat g w24 [Cl r23 [Value.int IntKind.i64 1] 3, Sl 3 1 p i c (fl eI ((l.take i).map cd)), R])
        have h26 : sat g w24 [Sl 3 1 p i c (fl eI ((l.take i).map cd)), Cl r23 [Value.int IntKind.i64 1] 3, R] := sat_sel [1, 0, 2] rfl h25
        refine plain_act (i := 2) (by kernel_rfl) ?_
        refine an_append (d := 22) (sz := 1) (s := (Operand.tmp 20)) (x := (Operand.tmp 21)) (z := Value.int IntKind.i64 0) (p := p) (m := i) (c := c) (k := 1) (c2 := 1) (a := ⟨r23, 0, none⟩) (by_ := 8) (by kernel_rfl) (by kernel_rfl) rfl Tryd.underlying22 (by kernel_rfl) rfl (by decide) (by kernel_rfl) (by kernel_rfl) h26 (fl eI [1]) rfl (fun j u hj => by rw [add_off]; exact sat_cell h26 1 rfl (by rw [Nat.zero_add]; exact hj)) (fl_one eI_ok _) (by omega) (by omega) (i + 1) (by omega) ?_
        intro p27 cap28 w29 (h30 : sat g w29 [Sl 3 1 p27 (i + 1) cap28 ((fl eI ((l.take i).map cd)) ++ (fl eI [1])), Cl r23 [Value.int IntKind.i64 1] 3, R])
        have h31 : sat g w29 [Sl 3 1 p27 (i + 1) cap28 (fl eI (((l.take i).map cd) ++ [1])), Cl r23 [Value.int IntKind.i64 1] 3, R] := sat_imp h30 (fun _ hh => by rw [fl_app]; exact hh)
        obtain ⟨hn32, hn33⟩ := sl_le h31
        refine plain_batch (rest := []) [⟨3, [], none⟩] (l' := ([(4, Value.slice p27 (i + 1) cap28), (22, Value.slice p27 (i + 1) cap28), (21, Value.slice (some ⟨r23, 0, none⟩) 1 1), (20, Value.slice p i c), (0, Value.string (St l)), (4, Value.slice p i c), (5, Value.int IntKind.i64 (((i : Nat) : Int))), (12, Value.bool true), (17, Value.int IntKind.u8 (((x17.toNat : Nat) : Int))), (18, Value.bool true)] : Fr) ++ lr22) (pts' := []) (eqs := []) (by kernel_rfl) trivial (AllC_nil _) ?_
        refine PO.mk ?_
        change WP _ _ (CA Tryd.f13 [1, 1, 1, 0, 1, 0, 0, 1, 1]) _ _ _
        refine fk_cut ([(0, Value.string (St l)), (4, Value.slice p27 (i + 1) cap28), (5, Value.int IntKind.i64 (((i : Nat) : Int))), (12, Value.bool true), (17, Value.int IntKind.u8 (((x17.toNat : Nat) : Int))), (18, Value.bool true)] : Fr) (by kernel_rfl) (fun a => WP _ _ _ _ a _) (fun lr34 => ?_)
        refine gi_pln (id := 6) (ops := RA Tryd.f13 [1, 1, 1, 0, 1, 0, 0, 1, 1]) [0, 1, 2] (by kernel_rfl) (by kernel_rfl) (by kernel_rfl) ?_
        refine plain_batch (rest := []) [⟨0, [], none⟩, ⟨1, [], some (Value.int IntKind.i64 (((i : Nat) : Int) + 1))⟩, ⟨2, [], none⟩] (l' := ([(5, Value.int IntKind.i64 (((i : Nat) : Int) + 1)), (14, Value.int IntKind.i64 (((i : Nat) : Int) + 1)), (13, Value.int IntKind.i64 (((i : Nat) : Int))), (0, Value.string (St l)), (4, Value.slice p27 (i + 1) cap28), (5, Value.int IntKind.i64 (((i : Nat) : Int))), (12, Value.bool true), (17, Value.int IntKind.u8 (((x17.toNat : Nat) : Int))), (18, Value.bool true)] : Fr) ++ lr34) (pts' := []) (eqs := [(Value.int IntKind.i64 (IntKind.wrap IntKind.i64 ((((i : Nat) : Int)) + 1)), Value.int IntKind.i64 (((i : Nat) : Int) + 1))]) (by kernel_rfl) ⟨(ov_i64 (by omega) (by omega) (by omega)), trivial⟩ (AllC_nil _) ?_
        refine PO.mk ?_
        have hc_ := cd1 (x := x17) (by omega)
        have hg_ := gl_go (by omega) hx18 (by omega)
        have h35 : sat g w29 [Sl 3 1 p27 (i + 1) cap28 (fl eI ((l.take (i + 1)).map cd)), Cl r23 [Value.int IntKind.i64 1] 3, R] := (show (((l.take i).map cd) ++ [1]) = ((l.take (i + 1)).map cd) from (tk_eq hx18 hc_)) ▸ h31
        have h36 : sat g w29 [Sl 3 1 p27 (i + 1) cap28 (fl eI ((l.take (i + 1)).map cd)), R, Cl r23 [Value.int IntKind.i64 1] 3] := sat_sel [0, 2, 1] rfl h35
        have h37 : sat g w29 [Sl 3 1 p27 (i + 1) cap28 (fl eI ((l.take (i + 1)).map cd)), R] := sat_sel [0, 1] rfl h36
        change ∃ n', n' < _ ∧ _
        refine ⟨(l.length - (i + 1)), by omega, (i + 1), p27, cap28, _, rfl, (by omega), (mk_live [(0, Value.string (St l)), (4, Value.slice p27 (i + 1) cap28), (5, Value.int IntKind.i64 ((((i + 1) : Nat) : Int)))] ⟨rfl, rfl, (ov_int (by omega)), trivial⟩), h37⟩
      ·
        refine plain_batch (rest := []) [⟨0, [], some (Value.bool false)⟩, ⟨1, [], none⟩] (l' := ([(18, Value.bool false), (19, Value.bool false), (0, Value.string (St l)), (4, Value.slice p i c), (5, Value.int IntKind.i64 (((i : Nat) : Int))), (12, Value.bool true), (17, Value.int IntKind.u8 (((x17.toNat : Nat) : Int)))] : Fr) ++ lr20) (pts' := []) (eqs := [(Value.bool ((((x17.toNat : Nat) : Int)) == 111), Value.bool false)]) (by kernel_rfl) ⟨(ov_ef (by omega)), trivial⟩ (AllC_nil _) ?_
        refine PO.mk ?_
        change WP _ _ (CA Tryd.f13 [1, 1, 1, 0, 1, 0, 0, 1, 0, 0, 1, 0, 1]) _ _ _
        refine fk_cut ([(0, Value.string (St l)), (4, Value.slice p i c), (5, Value.int IntKind.i64 (((i : Nat) : Int))), (12, Value.bool true), (17, Value.int IntKind.u8 (((x17.toNat : Nat) : Int))), (18, Value.bool false)] : Fr) (by kernel_rfl) (fun a => WP _ _ _ _ a _) (fun lr38 => ?_)
        refine gi_cnd (x := (Operand.tmp 18)) (s := CA Tryd.f13 [1, 1, 1, 0, 1, 0, 0, 1, 0, 0, 1, 0, 1, 0]) (t := CA Tryd.f13 [1, 1, 1, 0, 1, 0, 0, 1, 0, 0, 1, 0, 1, 1]) false (by kernel_rfl) (by kernel_rfl) ?_
        change WP _ _ (CA Tryd.f13 [1, 1, 1, 0, 1, 0, 0, 1, 0, 0, 1, 0, 1, 1]) _ _ _
        refine gi_seq (x := CA Tryd.f13 [1, 1, 1, 0, 1, 0, 0, 1, 0, 0, 1, 0, 1, 1, 0]) (y := CA Tryd.f13 [1, 1, 1, 0, 1, 0, 0, 1, 0, 0, 1, 0, 1, 1, 1]) (by kernel_rfl) ?_
        refine gi_pln (id := 11) (ops := RA Tryd.f13 [1, 1, 1, 0, 1, 0, 0, 1, 0, 0, 1, 0, 1, 1, 0]) [0, 1] (by kernel_rfl) (by kernel_rfl) (by kernel_rfl) ?_
        by_cases c39 : ((x17.toNat : Nat) : Int) = 108
        ·
          refine plain_batch (rest := []) [⟨0, [], some (Value.bool true)⟩, ⟨1, [], none⟩] (l' := ([(23, Value.bool true), (24, Value.bool true), (0, Value.string (St l)), (4, Value.slice p i c), (5, Value.int IntKind.i64 (((i : Nat) : Int))), (12, Value.bool true), (17, Value.int IntKind.u8 (((x17.toNat : Nat) : Int))), (18, Value.bool false)] : Fr) ++ lr38) (pts' := []) (eqs := [(Value.bool ((((x17.toNat : Nat) : Int)) == 108), Value.bool true)]) (by kernel_rfl) ⟨(ov_et (by omega)), trivial⟩ (AllC_nil _) ?_
          refine PO.mk ?_
          change WP _ _ (CA Tryd.f13 [1, 1, 1, 0, 1, 0, 0, 1, 0, 0, 1, 0, 1, 1, 1]) _ _ _
          refine fk_cut ([(0, Value.string (St l)), (4, Value.slice p i c), (5, Value.int IntKind.i64 (((i : Nat) : Int))), (12, Value.bool true), (17, Value.int IntKind.u8 (((x17.toNat : Nat) : Int))), (18, Value.bool false), (23, Value.bool true)] : Fr) (by kernel_rfl) (fun a => WP _ _ _ _ a _) (fun lr40 => ?_)
          refine gi_cnd (x := (Operand.tmp 23)) (s := CA Tryd.f13 [1, 1, 1, 0, 1, 0, 0, 1, 0, 0, 1, 0, 1, 1, 1, 0]) (t := CA Tryd.f13 [1, 1, 1, 0, 1, 0, 0, 1, 0, 0, 1, 0, 1, 1, 1, 1]) true (by kernel_rfl) (by kernel_rfl) ?_
          change WP _ _ (CA Tryd.f13 [1, 1, 1, 0, 1, 0, 0, 1, 0, 0, 1, 0, 1, 1, 1, 0]) _ _ _
          refine gi_pln (id := 12) (ops := RA Tryd.f13 [1, 1, 1, 0, 1, 0, 0, 1, 0, 0, 1, 0, 1, 1, 1, 0]) [0, 1, 2, 3] (by kernel_rfl) (by kernel_rfl) (by kernel_rfl) ?_
          refine plain_batch (rest := [1, 2, 3]) [⟨0, [], none⟩] (l' := ([(25, Value.slice p i c), (0, Value.string (St l)), (4, Value.slice p i c), (5, Value.int IntKind.i64 (((i : Nat) : Int))), (12, Value.bool true), (17, Value.int IntKind.u8 (((x17.toNat : Nat) : Int))), (18, Value.bool false), (23, Value.bool true)] : Fr) ++ lr40) (pts' := []) (eqs := []) (by kernel_rfl) trivial (AllC_nil _) ?_
          refine plain_act (i := 1) (by kernel_rfl) ?_
          refine an_new (d := 26) (fun xb_ => Value.slice (some ⟨xb_, 0, none⟩) 1 1) (fun xb_ => Obj.cells [Value.int IntKind.i64 2].toArray 3 (0, 0)) (fun xb_ => by kernel_rfl) (by kernel_rfl) rfl h14 ?_
          intro r41 w42 (h43 : sat g w42 [Cl r41 [Value.int IntKind.i64 2] 3, Sl 3 1 p i c (fl eI ((l.take i).map cd)), R])
          have h44 : sat g w42 [Sl 3 1 p i c (fl eI ((l.take i).map cd)), Cl r41 [Value.int IntKind.i64 2] 3, R] := sat_sel [1, 0, 2] rfl h43
          refine plain_act (i := 2) (by kernel_rfl) ?_
          refine an_append (d := 27) (sz := 1) (s := (Operand.tmp 25)) (x := (Operand.tmp 26)) (z := Value.int IntKind.i64 0) (p := p) (m := i) (c := c) (k := 1) (c2 := 1) (a := ⟨r41, 0, none⟩) (by_ := 8) (by kernel_rfl) (by kernel_rfl) rfl Tryd.underlying22 (by kernel_rfl) rfl (by decide) (by kernel_rfl) (by kernel_rfl) h44 (fl eI [2]) rfl (fun j u hj => by rw [add_off]; exact sat_cell h44 1 rfl (by rw [Nat.zero_add]; exact hj)) (fl_one eI_ok _) (by omega) (by omega) (i + 1) (by omega) ?_
          intro p45 cap46 w47 (h48 : sat g w47 [Sl 3 1 p45 (i + 1) cap46 ((fl eI ((l.take i).map cd)) ++ (fl eI [2])), Cl r41 [Value.int IntKind.i64 2] 3, R])
          have h49 : sat g w47 [Sl 3 1 p45 (i + 1) cap46 (fl eI (((l.take i).map cd) ++ [2])), Cl r41 [Value.int IntKind.i64 2] 3, R] := sat_imp h48 (fun _ hh => by rw [fl_app]; exact hh)
          obtain ⟨hn50, hn51⟩ := sl_le h49
          refine plain_batch (rest := []) [⟨3, [], none⟩] (l' := ([(4, Value.slice p45 (i + 1) cap46), (27, Value.slice p45 (i + 1) cap46), (26, Value.slice (some ⟨r41, 0, none⟩) 1 1), (25, Value.slice p i c), (0, Value.string (St l)), (4, Value.slice p i c), (5, Value.int IntKind.i64 (((i : Nat) : Int))), (12, Value.bool true), (17, Value.int IntKind.u8 (((x17.toNat : Nat) : Int))), (18, Value.bool false), (23, Value.bool true)] : Fr) ++ lr40) (pts' := []) (eqs := []) (by kernel_rfl) trivial (AllC_nil _) ?_
          refine PO.mk ?_
          change WP _ _ (CA Tryd.f13 [1, 1, 1, 0, 1, 0, 0, 1, 1]) _ _ _
          refine fk_cut ([(0, Value.string (St l)), (4, Value.slice p45 (i + 1) cap46), (5, Value.int IntKind.i64 (((i : Nat) : Int))), (12, Value.bool true), (17, Value.int IntKind.u8 (((x17.toNat : Nat) : Int))), (18, Value.bool false), (23, Value.bool true)] : Fr) (by kernel_rfl) (fun a => WP _ _ _ _ a _) (fun lr52 => ?_)
          refine gi_pln (id := 6) (ops := RA Tryd.f13 [1, 1, 1, 0, 1, 0, 0, 1, 1]) [0, 1, 2] (by kernel_rfl) (by kernel_rfl) (by kernel_rfl) ?_
          refine plain_batch (rest := []) [⟨0, [], none⟩, ⟨1, [], some (Value.int IntKind.i64 (((i : Nat) : Int) + 1))⟩, ⟨2, [], none⟩] (l' := ([(5, Value.int IntKind.i64 (((i : Nat) : Int) + 1)), (14, Value.int IntKind.i64 (((i : Nat) : Int) + 1)), (13, Value.int IntKind.i64 (((i : Nat) : Int))), (0, Value.string (St l)), (4, Value.slice p45 (i + 1) cap46), (5, Value.int IntKind.i64 (((i : Nat) : Int))), (12, Value.bool true), (17, Value.int IntKind.u8 (((x17.toNat : Nat) : Int))), (18, Value.bool false), (23, Value.bool true)] : Fr) ++ lr52) (pts' := []) (eqs := [(Value.int IntKind.i64 (IntKind.wrap IntKind.i64 ((((i : Nat) : Int)) + 1)), Value.int IntKind.i64 (((i : Nat) : Int) + 1))]) (by kernel_rfl) ⟨(ov_i64 (by omega) (by omega) (by omega)), trivial⟩ (AllC_nil _) ?_
          refine PO.mk ?_
          have hc_ := cd2 (x := x17) (by omega)
          have hg_ := gl_go (by omega) hx18 (by omega)
          have h53 : sat g w47 [Sl 3 1 p45 (i + 1) cap46 (fl eI ((l.take (i + 1)).map cd)), Cl r41 [Value.int IntKind.i64 2] 3, R] := (show (((l.take i).map cd) ++ [2]) = ((l.take (i + 1)).map cd) from (tk_eq hx18 hc_)) ▸ h49
          have h54 : sat g w47 [Sl 3 1 p45 (i + 1) cap46 (fl eI ((l.take (i + 1)).map cd)), R, Cl r41 [Value.int IntKind.i64 2] 3] := sat_sel [0, 2, 1] rfl h53
          have h55 : sat g w47 [Sl 3 1 p45 (i + 1) cap46 (fl eI ((l.take (i + 1)).map cd)), R] := sat_sel [0, 1] rfl h54
          change ∃ n', n' < _ ∧ _
          refine ⟨(l.length - (i + 1)), by omega, (i + 1), p45, cap46, _, rfl, (by omega), (mk_live [(0, Value.string (St l)), (4, Value.slice p45 (i + 1) cap46), (5, Value.int IntKind.i64 ((((i + 1) : Nat) : Int)))] ⟨rfl, rfl, (ov_int (by omega)), trivial⟩), h55⟩
        ·
          refine plain_batch (rest := []) [⟨0, [], some (Value.bool false)⟩, ⟨1, [], none⟩] (l' := ([(23, Value.bool false), (24, Value.bool false), (0, Value.string (St l)), (4, Value.slice p i c), (5, Value.int IntKind.i64 (((i : Nat) : Int))), (12, Value.bool true), (17, Value.int IntKind.u8 (((x17.toNat : Nat) : Int))), (18, Value.bool false)] : Fr) ++ lr38) (pts' := []) (eqs := [(Value.bool ((((x17.toNat : Nat) : Int)) == 108), Value.bool false)]) (by kernel_rfl) ⟨(ov_ef (by omega)), trivial⟩ (AllC_nil _) ?_
          refine PO.mk ?_
          change WP _ _ (CA Tryd.f13 [1, 1, 1, 0, 1, 0, 0, 1, 0, 0, 1, 0, 1, 1, 1]) _ _ _
          refine fk_cut ([(0, Value.string (St l)), (4, Value.slice p i c), (5, Value.int IntKind.i64 (((i : Nat) : Int))), (12, Value.bool true), (17, Value.int IntKind.u8 (((x17.toNat : Nat) : Int))), (18, Value.bool false), (23, Value.bool false)] : Fr) (by kernel_rfl) (fun a => WP _ _ _ _ a _) (fun lr56 => ?_)
          refine gi_cnd (x := (Operand.tmp 23)) (s := CA Tryd.f13 [1, 1, 1, 0, 1, 0, 0, 1, 0, 0, 1, 0, 1, 1, 1, 0]) (t := CA Tryd.f13 [1, 1, 1, 0, 1, 0, 0, 1, 0, 0, 1, 0, 1, 1, 1, 1]) false (by kernel_rfl) (by kernel_rfl) ?_
          change WP _ _ (CA Tryd.f13 [1, 1, 1, 0, 1, 0, 0, 1, 0, 0, 1, 0, 1, 1, 1, 1]) _ _ _
          refine gi_seq (x := CA Tryd.f13 [1, 1, 1, 0, 1, 0, 0, 1, 0, 0, 1, 0, 1, 1, 1, 1, 0]) (y := CA Tryd.f13 [1, 1, 1, 0, 1, 0, 0, 1, 0, 0, 1, 0, 1, 1, 1, 1, 1]) (by kernel_rfl) ?_
          refine gi_pln (id := 13) (ops := RA Tryd.f13 [1, 1, 1, 0, 1, 0, 0, 1, 0, 0, 1, 0, 1, 1, 1, 1, 0]) [0, 1] (by kernel_rfl) (by kernel_rfl) (by kernel_rfl) ?_
          by_cases c57 : ((x17.toNat : Nat) : Int) = 102
          ·
            refine plain_batch (rest := []) [⟨0, [], some (Value.bool true)⟩, ⟨1, [], none⟩] (l' := ([(28, Value.bool true), (29, Value.bool true), (0, Value.string (St l)), (4, Value.slice p i c), (5, Value.int IntKind.i64 (((i : Nat) : Int))), (12, Value.bool true), (17, Value.int IntKind.u8 (((x17.toNat : Nat) : Int))), (18, Value.bool false), (23, Value.bool false)] : Fr) ++ lr56) (pts' := []) (eqs := [(Value.bool ((((x17.toNat : Nat) : Int)) == 102), Value.bool true)]) (by kernel_rfl) ⟨(ov_et (by omega)), trivial⟩ (AllC_nil _) ?_
            refine PO.mk ?_
            change WP _ _ (CA Tryd.f13 [1, 1, 1, 0, 1, 0, 0, 1, 0, 0, 1, 0, 1, 1, 1, 1, 1]) _ _ _
            refine fk_cut ([(0, Value.string (St l)), (4, Value.slice p i c), (5, Value.int IntKind.i64 (((i : Nat) : Int))), (12, Value.bool true), (17, Value.int IntKind.u8 (((x17.toNat : Nat) : Int))), (18, Value.bool false), (23, Value.bool false), (28, Value.bool true)] : Fr) (by kernel_rfl) (fun a => WP _ _ _ _ a _) (fun lr58 => ?_)
            refine gi_cnd (x := (Operand.tmp 28)) (s := CA Tryd.f13 [1, 1, 1, 0, 1, 0, 0, 1, 0, 0, 1, 0, 1, 1, 1, 1, 1, 0]) (t := CA Tryd.f13 [1, 1, 1, 0, 1, 0, 0, 1, 0, 0, 1, 0, 1, 1, 1, 1, 1, 1]) true (by kernel_rfl) (by kernel_rfl) ?_
            change WP _ _ (CA Tryd.f13 [1, 1, 1, 0, 1, 0, 0, 1, 0, 0, 1, 0, 1, 1, 1, 1, 1, 0]) _ _ _
            refine gi_pln (id := 14) (ops := RA Tryd.f13 [1, 1, 1, 0, 1, 0, 0, 1, 0, 0, 1, 0, 1, 1, 1, 1, 1, 0]) [0, 1, 2, 3] (by kernel_rfl) (by kernel_rfl) (by kernel_rfl) ?_
            refine plain_batch (rest := [1, 2, 3]) [⟨0, [], none⟩] (l' := ([(30, Value.slice p i c), (0, Value.string (St l)), (4, Value.slice p i c), (5, Value.int IntKind.i64 (((i : Nat) : Int))), (12, Value.bool true), (17, Value.int IntKind.u8 (((x17.toNat : Nat) : Int))), (18, Value.bool false), (23, Value.bool false), (28, Value.bool true)] : Fr) ++ lr58) (pts' := []) (eqs := []) (by kernel_rfl) trivial (AllC_nil _) ?_
            refine plain_act (i := 1) (by kernel_rfl) ?_
            refine an_new (d := 31) (fun xb_ => Value.slice (some ⟨xb_, 0, none⟩) 1 1) (fun xb_ => Obj.cells [Value.int IntKind.i64 3].toArray 3 (0, 0)) (fun xb_ => by kernel_rfl) (by kernel_rfl) rfl h14 ?_
            intro r59 w60 (h61 : sat g w60 [Cl r59 [Value.int IntKind.i64 3] 3, Sl 3 1 p i c (fl eI ((l.take i).map cd)), R])
            have h62 : sat g w60 [Sl 3 1 p i c (fl eI ((l.take i).map cd)), Cl r59 [Value.int IntKind.i64 3] 3, R] := sat_sel [1, 0, 2] rfl h61
            refine plain_act (i := 2) (by kernel_rfl) ?_
            refine an_append (d := 32) (sz := 1) (s := (Operand.tmp 30)) (x := (Operand.tmp 31)) (z := Value.int IntKind.i64 0) (p := p) (m := i) (c := c) (k := 1) (c2 := 1) (a := ⟨r59, 0, none⟩) (by_ := 8) (by kernel_rfl) (by kernel_rfl) rfl Tryd.underlying22 (by kernel_rfl) rfl (by decide) (by kernel_rfl) (by kernel_rfl) h62 (fl eI [3]) rfl (fun j u hj => by rw [add_off]; exact sat_cell h62 1 rfl (by rw [Nat.zero_add]; exact hj)) (fl_one eI_ok _) (by omega) (by omega) (i + 1) (by omega) ?_
            intro p63 cap64 w65 (h66 : sat g w65 [Sl 3 1 p63 (i + 1) cap64 ((fl eI ((l.take i).map cd)) ++ (fl eI [3])), Cl r59 [Value.int IntKind.i64 3] 3, R])
            have h67 : sat g w65 [Sl 3 1 p63 (i + 1) cap64 (fl eI (((l.take i).map cd) ++ [3])), Cl r59 [Value.int IntKind.i64 3] 3, R] := sat_imp h66 (fun _ hh => by rw [fl_app]; exact hh)
            obtain ⟨hn68, hn69⟩ := sl_le h67
            refine plain_batch (rest := []) [⟨3, [], none⟩] (l' := ([(4, Value.slice p63 (i + 1) cap64), (32, Value.slice p63 (i + 1) cap64), (31, Value.slice (some ⟨r59, 0, none⟩) 1 1), (30, Value.slice p i c), (0, Value.string (St l)), (4, Value.slice p i c), (5, Value.int IntKind.i64 (((i : Nat) : Int))), (12, Value.bool true), (17, Value.int IntKind.u8 (((x17.toNat : Nat) : Int))), (18, Value.bool false), (23, Value.bool false), (28, Value.bool true)] : Fr) ++ lr58) (pts' := []) (eqs := []) (by kernel_rfl) trivial (AllC_nil _) ?_
            refine PO.mk ?_
            change WP _ _ (CA Tryd.f13 [1, 1, 1, 0, 1, 0, 0, 1, 1]) _ _ _
            refine fk_cut ([(0, Value.string (St l)), (4, Value.slice p63 (i + 1) cap64), (5, Value.int IntKind.i64 (((i : Nat) : Int))), (12, Value.bool true), (17, Value.int IntKind.u8 (((x17.toNat : Nat) : Int))), (18, Value.bool false), (23, Value.bool false), (28, Value.bool true)] : Fr) (by kernel_rfl) (fun a => WP _ _ _ _ a _) (fun lr70 => ?_)
            refine gi_pln (id := 6) (ops := RA Tryd.f13 [1, 1, 1, 0, 1, 0, 0, 1, 1]) [0, 1, 2] (by kernel_rfl) (by kernel_rfl) (by kernel_rfl) ?_
            refine plain_batch (rest := []) [⟨0, [], none⟩, ⟨1, [], some (Value.int IntKind.i64 (((i : Nat) : Int) + 1))⟩, ⟨2, [], none⟩] (l' := ([(5, Value.int IntKind.i64 (((i : Nat) : Int) + 1)), (14, Value.int IntKind.i64 (((i : Nat) : Int) + 1)), (13, Value.int IntKind.i64 (((i : Nat) : Int))), (0, Value.string (St l)), (4, Value.slice p63 (i + 1) cap64), (5, Value.int IntKind.i64 (((i : Nat) : Int))), (12, Value.bool true), (17, Value.int IntKind.u8 (((x17.toNat : Nat) : Int))), (18, Value.bool false), (23, Value.bool false), (28, Value.bool true)] : Fr) ++ lr70) (pts' := []) (eqs := [(Value.int IntKind.i64 (IntKind.wrap IntKind.i64 ((((i : Nat) : Int)) + 1)), Value.int IntKind.i64 (((i : Nat) : Int) + 1))]) (by kernel_rfl) ⟨(ov_i64 (by omega) (by omega) (by omega)), trivial⟩ (AllC_nil _) ?_
            refine PO.mk ?_
            have hc_ := cd3 (x := x17) (by omega)
            have hg_ := gl_go (by omega) hx18 (by omega)
            have h71 : sat g w65 [Sl 3 1 p63 (i + 1) cap64 (fl eI ((l.take (i + 1)).map cd)), Cl r59 [Value.int IntKind.i64 3] 3, R] := (show (((l.take i).map cd) ++ [3]) = ((l.take (i + 1)).map cd) from (tk_eq hx18 hc_)) ▸ h67
            have h72 : sat g w65 [Sl 3 1 p63 (i + 1) cap64 (fl eI ((l.take (i + 1)).map cd)), R, Cl r59 [Value.int IntKind.i64 3] 3] := sat_sel [0, 2, 1] rfl h71
            have h73 : sat g w65 [Sl 3 1 p63 (i + 1) cap64 (fl eI ((l.take (i + 1)).map cd)), R] := sat_sel [0, 1] rfl h72
            change ∃ n', n' < _ ∧ _
            refine ⟨(l.length - (i + 1)), by omega, (i + 1), p63, cap64, _, rfl, (by omega), (mk_live [(0, Value.string (St l)), (4, Value.slice p63 (i + 1) cap64), (5, Value.int IntKind.i64 ((((i + 1) : Nat) : Int)))] ⟨rfl, rfl, (ov_int (by omega)), trivial⟩), h73⟩
          ·
            refine plain_batch (rest := []) [⟨0, [], some (Value.bool false)⟩, ⟨1, [], none⟩] (l' := ([(28, Value.bool false), (29, Value.bool false), (0, Value.string (St l)), (4, Value.slice p i c), (5, Value.int IntKind.i64 (((i : Nat) : Int))), (12, Value.bool true), (17, Value.int IntKind.u8 (((x17.toNat : Nat) : Int))), (18, Value.bool false), (23, Value.bool false)] : Fr) ++ lr56) (pts' := []) (eqs := [(Value.bool ((((x17.toNat : Nat) : Int)) == 102), Value.bool false)]) (by kernel_rfl) ⟨(ov_ef (by omega)), trivial⟩ (AllC_nil _) ?_
            refine PO.mk ?_
            change WP _ _ (CA Tryd.f13 [1, 1, 1, 0, 1, 0, 0, 1, 0, 0, 1, 0, 1, 1, 1, 1, 1]) _ _ _
            refine fk_cut ([(0, Value.string (St l)), (4, Value.slice p i c), (5, Value.int IntKind.i64 (((i : Nat) : Int))), (12, Value.bool true), (17, Value.int IntKind.u8 (((x17.toNat : Nat) : Int))), (18, Value.bool false), (23, Value.bool false), (28, Value.bool false)] : Fr) (by kernel_rfl) (fun a => WP _ _ _ _ a _) (fun lr74 => ?_)
            refine gi_cnd (x := (Operand.tmp 28)) (s := CA Tryd.f13 [1, 1, 1, 0, 1, 0, 0, 1, 0, 0, 1, 0, 1, 1, 1, 1, 1, 0]) (t := CA Tryd.f13 [1, 1, 1, 0, 1, 0, 0, 1, 0, 0, 1, 0, 1, 1, 1, 1, 1, 1]) false (by kernel_rfl) (by kernel_rfl) ?_
            change WP _ _ (CA Tryd.f13 [1, 1, 1, 0, 1, 0, 0, 1, 0, 0, 1, 0, 1, 1, 1, 1, 1, 1]) _ _ _
            refine gi_seq (x := CA Tryd.f13 [1, 1, 1, 0, 1, 0, 0, 1, 0, 0, 1, 0, 1, 1, 1, 1, 1, 1, 0]) (y := CA Tryd.f13 [1, 1, 1, 0, 1, 0, 0, 1, 0, 0, 1, 0, 1, 1, 1, 1, 1, 1, 1]) (by kernel_rfl) ?_
            refine gi_pln (id := 8) (ops := RA Tryd.f13 [1, 1, 1, 0, 1, 0, 0, 1, 0, 0, 1, 0, 1, 1, 1, 1, 1, 1, 0]) [0, 1] (by kernel_rfl) (by kernel_rfl) (by kernel_rfl) ?_
            refine plain_batch (rest := []) [⟨0, [], none⟩, ⟨1, [], none⟩] (l' := ([(3, Value.int IntKind.i64 9), (2, Value.slice none 0 0), (0, Value.string (St l)), (4, Value.slice p i c), (5, Value.int IntKind.i64 (((i : Nat) : Int))), (12, Value.bool true), (17, Value.int IntKind.u8 (((x17.toNat : Nat) : Int))), (18, Value.bool false), (23, Value.bool false), (28, Value.bool false)] : Fr) ++ lr74) (pts' := []) (eqs := []) (by kernel_rfl) trivial (AllC_nil _) ?_
            refine PO.mk ?_
            change WP _ _ (CA Tryd.f13 [1, 1, 1, 0, 1, 0, 0, 1, 0, 0, 1, 0, 1, 1, 1, 1, 1, 1, 1]) _ _ _
            refine fk_cut ([(0, Value.string (St l)), (2, Value.slice none 0 0), (3, Value.int IntKind.i64 9), (4, Value.slice p i c), (5, Value.int IntKind.i64 (((i : Nat) : Int))), (12, Value.bool true), (17, Value.int IntKind.u8 (((x17.toNat : Nat) : Int))), (18, Value.bool false), (23, Value.bool false), (28, Value.bool false)] : Fr) (by kernel_rfl) (fun a => WP _ _ _ _ a _) (fun lr75 => ?_)
            refine gi_rt (by kernel_rfl) ?_
            repeat (first | simp only [Exit.inBlock] | simp only [Exit.then])
            have hst := gl_stop (by omega) hx18 (cd0 (by omega) (by omega) (by omega))
            have hlt := (List.getElem?_eq_some_iff.1 hx18).1
            have h76 : sat g w13 [Sl 3 1 none 0 0 (fl eI []), Sl 3 1 p i c (fl eI ((l.take i).map cd)), R] := sl_nil 3 1 h14
            have h77 : sat g w13 [Sl 3 1 none 0 0 (fl eI []), R] := sat_sel [0, 2] rfl h76
            refine hi_out [] (Value.tuple #[Value.slice none 0 0, Value.int IntKind.i64 9]) [] (by kernel_rfl) (by intro q hq; cases hq) ?_
            exact ⟨Value.tuple #[Value.slice none 0 0, Value.int IntKind.i64 9], [Sl 3 1 none 0 0 (fl eI [])], rfl, ⟨none, 0, (by rw [(prs_form (by omega) (by omega))]; rfl), (by rw [(prs_form (by omega) (by omega))]; rfl)⟩, h77⟩
    ·
      refine plain_batch (rest := []) [⟨3, [], some (Value.bool false)⟩] (l' := ([(12, Value.bool false), (11, Value.int IntKind.i64 (((l.length : Nat) : Int))), (10, Value.string (St l)), (9, Value.int IntKind.i64 (((i : Nat) : Int))), (0, Value.string (St l)), (4, Value.slice p i c), (5, Value.int IntKind.i64 (((i : Nat) : Int)))] : Fr) ++ lr10) (pts' := []) (eqs := [(Value.bool (decide (((i : Nat) : Int) < ((l.length : Nat) : Int))), Value.bool false)]) (by kernel_rfl) ⟨(ov_f (by omega)), trivial⟩ (AllC_nil _) ?_
      refine PO.mk ?_
      change WP _ _ (CA Tryd.f13 [1, 1, 1, 0, 1, 0, 0, 0, 1]) _ _ _
      refine fk_cut ([(0, Value.string (St l)), (4, Value.slice p i c), (5, Value.int IntKind.i64 (((i : Nat) : Int))), (12, Value.bool false)] : Fr) (by kernel_rfl) (fun a => WP _ _ _ _ a _) (fun lr78 => ?_)
      refine gi_cnd (x := (Operand.tmp 12)) (s := CA Tryd.f13 [1, 1, 1, 0, 1, 0, 0, 0, 1, 0]) (t := CA Tryd.f13 [1, 1, 1, 0, 1, 0, 0, 0, 1, 1]) false (by kernel_rfl) (by kernel_rfl) ?_
      change WP _ _ (CA Tryd.f13 [1, 1, 1, 0, 1, 0, 0, 0, 1, 1]) _ _ _
      refine gi_ext (id := 0) (by kernel_rfl) ?_
      change WP _ _ (CA Tryd.f13 [1, 1, 1, 1]) _ _ _
      refine gi_seq (x := CA Tryd.f13 [1, 1, 1, 1, 0]) (y := CA Tryd.f13 [1, 1, 1, 1, 1]) (by kernel_rfl) ?_
      refine gi_pln (id := 15) (ops := RA Tryd.f13 [1, 1, 1, 1, 0]) [0, 1, 2] (by kernel_rfl) (by kernel_rfl) (by kernel_rfl) ?_
      refine plain_batch (rest := []) [⟨0, [], none⟩, ⟨1, [], none⟩, ⟨2, [], none⟩] (l' := ([(3, Value.int IntKind.i64 0), (2, Value.slice p i c), (33, Value.slice p i c), (0, Value.string (St l)), (4, Value.slice p i c), (5, Value.int IntKind.i64 (((i : Nat) : Int))), (12, Value.bool false)] : Fr) ++ lr78) (pts' := []) (eqs := []) (by kernel_rfl) trivial (AllC_nil _) ?_
      refine PO.mk ?_
      change WP _ _ (CA Tryd.f13 [1, 1, 1, 1, 1]) _ _ _
      refine fk_cut ([(0, Value.string (St l)), (2, Value.slice p i c), (3, Value.int IntKind.i64 0), (4, Value.slice p i c), (5, Value.int IntKind.i64 (((i : Nat) : Int))), (12, Value.bool false)] : Fr) (by kernel_rfl) (fun a => WP _ _ _ _ a _) (fun lr79 => ?_)
      refine gi_rt (by kernel_rfl) ?_
      repeat (first | simp only [Exit.inBlock] | simp only [Exit.then])
      have h80 : sat g w13 [Sl 3 1 p l.length c (fl eI ((l.take i).map cd)), R] := (show i = l.length from (by omega)) ▸ h14
      have h81 : sat g w13 [Sl 3 1 p l.length c (fl eI (l.map cd)), R] := (show ((l.take i).map cd) = (l.map cd) from (tk_all (by omega))) ▸ h80
      have h82 : sat g w13 [Sl 3 1 p (((l.map cd).length)) c (fl eI (l.map cd)), R] := (show l.length = (l.map cd).length from (List.length_map _).symm) ▸ h81
      refine hi_out [] (Value.tuple #[Value.slice p i c, Value.int IntKind.i64 0]) [] (by kernel_rfl) (by intro q hq; cases hq) ?_
      exact ⟨Value.tuple #[Value.slice p i c, Value.int IntKind.i64 0], [Sl 3 1 p (((l.map cd).length)) c (fl eI (l.map cd))], rfl, ⟨p, c, (by rw [(prs_ok (by omega) (by omega)), show i = l.length from by omega, ← List.length_map cd] <;> rfl), (by rw [(prs_ok (by omega) (by omega))])⟩, h82⟩

set_option maxHeartbeats 4000000 in
theorem same_ht (p q : Option Addr) (n m c d : Nat) (L M : List Int) (X Y : Assn) (hX : Gv X p n (fl eI L)) (hY : Gv Y q m (fl eI M)) (hlL : L.length = n) (hlM : M.length = m) (r : Bool) (hr : decide (L = M) = r) (hn : n ≤ 1099511627776) : HT Tryd.prog 16 [Value.slice p n c, Value.slice q m d] [X, Y] (fun v K => v = Value.bool r ∧ K = [X, Y]) := by
  refine hi_in 26 ([(0, Value.slice p n c), (1, Value.slice q m d)] : Fr) Tryd.func16 (by kernel_rfl) Tryd.ntmps16 rfl rfl ?_
  intro g w0 R h0
  refine gi_seq (x := CA Tryd.f16 [0]) (y := CA Tryd.f16 [1]) (by kernel_rfl) ?_
  refine gi_pln (id := 0) (ops := RA Tryd.f16 [0]) [0] (by kernel_rfl) (by kernel_rfl) (by kernel_rfl) ?_
  refine plain_batch (rest := []) [⟨0, [], none⟩] (l' := ([(4, Value.bool false), (0, Value.slice p n c), (1, Value.slice q m d)] : Fr)) (pts' := []) (eqs := []) (by kernel_rfl) trivial (AllC_nil _) ?_
  refine PO.mk ?_
  change WP _ _ (CA Tryd.f16 [1]) _ _ _
  refine fk_cut ([(0, Value.slice p n c), (1, Value.slice q m d), (4, Value.bool false)] : Fr) (by kernel_rfl) (fun a => WP _ _ _ _ a _) (fun lr1 => ?_)
  refine gi_seq (x := CA Tryd.f16 [1, 0]) (y := CA Tryd.f16 [1, 1]) (by kernel_rfl) ?_
  refine gi_seq (x := CA Tryd.f16 [1, 0, 0]) (y := CA Tryd.f16 [1, 0, 1]) (by kernel_rfl) ?_
  refine gi_pln (id := 1) (ops := RA Tryd.f16 [1, 0, 0]) [0, 1, 2, 3, 4] (by kernel_rfl) (by kernel_rfl) (by kernel_rfl) ?_
  refine plain_batch (rest := [4]) [⟨0, [], none⟩, ⟨1, [], none⟩, ⟨2, [], none⟩, ⟨3, [], none⟩] (l' := ([(9, Value.int IntKind.i64 (((m : Nat) : Int))), (8, Value.slice q m d), (7, Value.int IntKind.i64 (((n : Nat) : Int))), (6, Value.slice p n c), (0, Value.slice p n c), (1, Value.slice q m d), (4, Value.bool false)] : Fr) ++ lr1) (pts' := []) (eqs := []) (by kernel_rfl) trivial (AllC_nil _) ?_
  by_cases c2 : ((n : Nat) : Int) = ((m : Nat) : Int)
  ·
    refine plain_batch (rest := []) [⟨4, [], some (Value.bool false)⟩] (l' := ([(10, Value.bool false), (9, Value.int IntKind.i64 (((m : Nat) : Int))), (8, Value.slice q m d), (7, Value.int IntKind.i64 (((n : Nat) : Int))), (6, Value.slice p n c), (0, Value.slice p n c), (1, Value.slice q m d), (4, Value.bool false)] : Fr) ++ lr1) (pts' := []) (eqs := [(Value.bool ((((n : Nat) : Int)) != (((m : Nat) : Int))), Value.bool false)]) (by kernel_rfl) ⟨(ov_nf (by omega)), trivial⟩ (AllC_nil _) ?_
    refine PO.mk ?_
    change WP _ _ (CA Tryd.f16 [1, 0, 1]) _ _ _
    refine fk_cut ([(0, Value.slice p n c), (1, Value.slice q m d), (4, Value.bool false), (10, Value.bool false)] : Fr) (by kernel_rfl) (fun a => WP _ _ _ _ a _) (fun lr3 => ?_)
    refine gi_cnd (x := (Operand.tmp 10)) (s := CA Tryd.f16 [1, 0, 1, 0]) (t := CA Tryd.f16 [1, 0, 1, 1]) false (by kernel_rfl) (by kernel_rfl) ?_
    change WP _ _ (CA Tryd.f16 [1, 0, 1, 1]) _ _ _
    refine gi_skp (by kernel_rfl) ?_
    change WP _ _ (CA Tryd.f16 [1, 1]) _ _ _
    refine gi_seq (x := CA Tryd.f16 [1, 1, 0]) (y := CA Tryd.f16 [1, 1, 1]) (by kernel_rfl) ?_
    refine gi_seq (x := CA Tryd.f16 [1, 1, 0, 0]) (y := CA Tryd.f16 [1, 1, 0, 1]) (by kernel_rfl) ?_
    refine gi_pln (id := 3) (ops := RA Tryd.f16 [1, 1, 0, 0]) [0] (by kernel_rfl) (by kernel_rfl) (by kernel_rfl) ?_
    refine plain_batch (rest := []) [⟨0, [], none⟩] (l' := ([(5, Value.int IntKind.i64 0), (0, Value.slice p n c), (1, Value.slice q m d), (4, Value.bool false), (10, Value.bool false)] : Fr) ++ lr3) (pts' := []) (eqs := []) (by kernel_rfl) trivial (AllC_nil _) ?_
    refine PO.mk ?_
    change WP _ _ (CA Tryd.f16 [1, 1, 0, 1]) _ _ _
    refine fk_cut ([(0, Value.slice p n c), (1, Value.slice q m d), (4, Value.bool false), (5, Value.int IntKind.i64 0), (10, Value.bool false)] : Fr) (by kernel_rfl) (fun a => WP _ _ _ _ a _) (fun lr4 => ?_)
    refine gi_blk (id := 0) (x := CA Tryd.f16 [1, 1, 0, 1, 0]) (by kernel_rfl) ?_
    refine gi_lp (x := CA Tryd.f16 [1, 1, 0, 1, 0, 0]) (by kernel_rfl) (fun mz_ a w => ∃ i : Nat, ∃ lr : Fr, mz_ = n - i ∧ (i ≤ n) ∧ (L.take i = M.take i) ∧ a = mk 26 (([(0, Value.slice p n c), (1, Value.slice q m d), (5, Value.int IntKind.i64 (((i : Nat) : Int)))] : Fr) ++ lr) ∧ sat g w [X, Y, R]) (n - 0) ⟨0, _, rfl, (Nat.zero_le _), rfl, (mk_live [(0, Value.slice p n c), (1, Value.slice q m d), (5, Value.int IntKind.i64 (((0 : Nat) : Int)))] ⟨rfl, rfl, (ov_int (by omega)), trivial⟩), h0⟩ ?_
    rintro m6 a7 w8 ⟨i, lr5, rfl, hi, ht, rfl, h9⟩
    change WP _ _ (CA Tryd.f16 [1, 1, 0, 1, 0, 0]) _ _ _
    refine gi_seq (x := CA Tryd.f16 [1, 1, 0, 1, 0, 0, 0]) (y := CA Tryd.f16 [1, 1, 0, 1, 0, 0, 1]) (by kernel_rfl) ?_
    refine gi_seq (x := CA Tryd.f16 [1, 1, 0, 1, 0, 0, 0, 0]) (y := CA Tryd.f16 [1, 1, 0, 1, 0, 0, 0, 1]) (by kernel_rfl) ?_
    refine gi_pln (id := 4) (ops := RA Tryd.f16 [1, 1, 0, 1, 0, 0, 0, 0]) [0, 1, 2, 3] (by kernel_rfl) (by kernel_rfl) (by kernel_rfl) ?_
    refine plain_batch (rest := [3]) [⟨0, [], none⟩, ⟨1, [], none⟩, ⟨2, [], none⟩] (l' := ([(13, Value.int IntKind.i64 (((n : Nat) : Int))), (12, Value.slice p n c), (11, Value.int IntKind.i64 (((i : Nat) : Int))), (0, Value.slice p n c), (1, Value.slice q m d), (5, Value.int IntKind.i64 (((i : Nat) : Int)))] : Fr) ++ lr5) (pts' := []) (eqs := []) (by kernel_rfl) trivial (AllC_nil _) ?_
    by_cases c10 : ((i : Nat) : Int) < ((n : Nat) : Int)
    ·
      refine plain_batch (rest := []) [⟨3, [], some (Value.bool true)⟩] (l' := ([(14, Value.bool true), (13, Value.int IntKind.i64 (((n : Nat) : Int))), (12, Value.slice p n c), (11, Value.int IntKind.i64 (((i : Nat) : Int))), (0, Value.slice p n c), (1, Value.slice q m d), (5, Value.int IntKind.i64 (((i : Nat) : Int)))] : Fr) ++ lr5) (pts' := []) (eqs := [(Value.bool (decide (((i : Nat) : Int) < ((n : Nat) : Int))), Value.bool true)]) (by kernel_rfl) ⟨(ov_t (by omega)), trivial⟩ (AllC_nil _) ?_
      refine PO.mk ?_
      change WP _ _ (CA Tryd.f16 [1, 1, 0, 1, 0, 0, 0, 1]) _ _ _
      refine fk_cut ([(0, Value.slice p n c), (1, Value.slice q m d), (5, Value.int IntKind.i64 (((i : Nat) : Int))), (14, Value.bool true)] : Fr) (by kernel_rfl) (fun a => WP _ _ _ _ a _) (fun lr11 => ?_)
      refine gi_cnd (x := (Operand.tmp 14)) (s := CA Tryd.f16 [1, 1, 0, 1, 0, 0, 0, 1, 0]) (t := CA Tryd.f16 [1, 1, 0, 1, 0, 0, 0, 1, 1]) true (by kernel_rfl) (by kernel_rfl) ?_
      change WP _ _ (CA Tryd.f16 [1, 1, 0, 1, 0, 0, 0, 1, 0]) _ _ _
      refine gi_skp (by kernel_rfl) ?_
      change WP _ _ (CA Tryd.f16 [1, 1, 0, 1, 0, 0, 1]) _ _ _
      refine gi_seq (x := CA Tryd.f16 [1, 1, 0, 1, 0, 0, 1, 0]) (y := CA Tryd.f16 [1, 1, 0, 1, 0, 0, 1, 1]) (by kernel_rfl) ?_
      refine gi_blk (id := 1) (x := CA Tryd.f16 [1, 1, 0, 1, 0, 0, 1, 0, 0]) (by kernel_rfl) ?_
      refine gi_seq (x := CA Tryd.f16 [1, 1, 0, 1, 0, 0, 1, 0, 0, 0]) (y := CA Tryd.f16 [1, 1, 0, 1, 0, 0, 1, 0, 0, 1]) (by kernel_rfl) ?_
      refine gi_drw (id := 6) (ops := RA Tryd.f16 [1, 1, 0, 1, 0, 0, 1, 0, 0, 0]) (Tr.fl 0 (Tr.fl 1 (Tr.fl 2 (Tr.fl 3 (Tr.fl 4 (Tr.fl 5 (Tr.fl 6 (Tr.fl 7 (Tr.fl 8 Tr.nil))))))))) (by kernel_rfl) (by kernel_rfl) (by kernel_rfl) (by kernel_rfl) (by kernel_rfl) (fun _ _ d _ _ h => by cases d <;> exact h) h9 ?_
      intro w12 h13
      obtain ⟨b14, off16, hp15⟩ := gv_ptr (j := 0) h13 rfl hX (by omega)
      refine draw_batch (t := (Tr.fl 2 (Tr.fl 3 (Tr.fl 4 (Tr.fl 5 (Tr.fl 6 (Tr.fl 7 (Tr.fl 8 Tr.nil)))))))) [⟨0, [], none⟩, ⟨1, [], none⟩] (l' := ([(18, Value.int IntKind.i64 (((i : Nat) : Int))), (17, Value.slice p n c), (0, Value.slice p n c), (1, Value.slice q m d), (5, Value.int IntKind.i64 (((i : Nat) : Int))), (14, Value.bool true)] : Fr) ++ lr11) (pts' := []) (eqs := []) (by kernel_rfl) trivial (AllC_nil _) ?_
      refine draw_law (i := 2) 19 (Value.pointer (some ⟨b14, off16 + i, none⟩)) [] (by kernel_rfl) (fun _ _ => law_indexSlP (o := opA (RA Tryd.f16 [1, 1, 0, 1, 0, 0, 1, 0, 0, 0]) 2) (x := (Operand.tmp 17)) (i := (Operand.tmp 18)) (p := p) (b := b14) (off := off16) (z := (((i : Nat) : Int))) (len := n) (cap := c) (by kernel_rfl) Tryd.underlying22 1 (by kernel_rfl) i (by kernel_rfl) hp15 (by kernel_rfl) (by omega) (by omega) (off16 + i) (by omega) _) (by intro q hq; cases hq) ?_
      obtain ⟨x17, hx18⟩ : ∃ x, L[i]? = some x := ⟨_, List.getElem?_eq_getElem (by rw [hlL]; omega)⟩
      obtain ⟨b19, off21, hp20⟩ := gv_ptr (j := 1) h13 rfl hY (by omega)
      refine draw_batch (t := (Tr.fl 6 (Tr.fl 7 (Tr.fl 8 Tr.nil)))) [⟨3, [Value.int IntKind.i64 x17], none⟩, ⟨4, [], none⟩, ⟨5, [], none⟩] (l' := ([(22, Value.int IntKind.i64 (((i : Nat) : Int))), (21, Value.slice q m d), (20, Value.int IntKind.i64 x17), (19, Value.pointer (some ⟨b14, off16 + i, none⟩)), (18, Value.int IntKind.i64 (((i : Nat) : Int))), (17, Value.slice p n c), (0, Value.slice p n c), (1, Value.slice q m d), (5, Value.int IntKind.i64 (((i : Nat) : Int))), (14, Value.bool true)] : Fr) ++ lr11) (pts' := [(3, ⟨b14, off16 + i, none⟩, Value.int IntKind.i64 x17)]) (eqs := []) (by kernel_rfl) trivial (AllC_cons (gv_cell (j := 0) h13 rfl hX hp15 (fl_get eI_ok (j := 0) (v := Value.int IntKind.i64 x17) hx18 rfl) (off16 + i) (by omega)) (AllC_nil _)) ?_
      refine draw_law (i := 6) 23 (Value.pointer (some ⟨b19, off21 + i, none⟩)) [] (by kernel_rfl) (fun _ _ => law_indexSlP (o := opA (RA Tryd.f16 [1, 1, 0, 1, 0, 0, 1, 0, 0, 0]) 6) (x := (Operand.tmp 21)) (i := (Operand.tmp 22)) (p := q) (b := b19) (off := off21) (z := (((i : Nat) : Int))) (len := m) (cap := d) (by kernel_rfl) Tryd.underlying22 1 (by kernel_rfl) i (by kernel_rfl) hp20 (by kernel_rfl) (by omega) (by omega) (off21 + i) (by omega) _) (by intro q hq; cases hq) ?_
      obtain ⟨x22, hx23⟩ : ∃ x, M[i]? = some x := ⟨_, List.getElem?_eq_getElem (by rw [hlM]; omega)⟩
      refine draw_batch (t := (Tr.fl 8 Tr.nil)) [⟨7, [Value.int IntKind.i64 x22], none⟩] (l' := ([(24, Value.int IntKind.i64 x22), (23, Value.pointer (some ⟨b19, off21 + i, none⟩)), (22, Value.int IntKind.i64 (((i : Nat) : Int))), (21, Value.slice q m d), (20, Value.int IntKind.i64 x17), (19, Value.pointer (some ⟨b14, off16 + i, none⟩)), (18, Value.int IntKind.i64 (((i : Nat) : Int))), (17, Value.slice p n c), (0, Value.slice p n c), (1, Value.slice q m d), (5, Value.int IntKind.i64 (((i : Nat) : Int))), (14, Value.bool true)] : Fr) ++ lr11) (pts' := [(7, ⟨b19, off21 + i, none⟩, Value.int IntKind.i64 x22)]) (eqs := []) (by kernel_rfl) trivial (AllC_cons (gv_cell (j := 1) h13 rfl hY hp20 (fl_get eI_ok (j := 0) (v := Value.int IntKind.i64 x22) hx23 rfl) (off21 + i) (by omega)) (AllC_nil _)) ?_
      by_cases c24 : x17 = x22
      ·
        refine draw_batch (t := Tr.nil) [⟨8, [], some (Value.bool false)⟩] (l' := ([(25, Value.bool false), (24, Value.int IntKind.i64 x22), (23, Value.pointer (some ⟨b19, off21 + i, none⟩)), (22, Value.int IntKind.i64 (((i : Nat) : Int))), (21, Value.slice q m d), (20, Value.int IntKind.i64 x17), (19, Value.pointer (some ⟨b14, off16 + i, none⟩)), (18, Value.int IntKind.i64 (((i : Nat) : Int))), (17, Value.slice p n c), (0, Value.slice p n c), (1, Value.slice q m d), (5, Value.int IntKind.i64 (((i : Nat) : Int))), (14, Value.bool true)] : Fr) ++ lr11) (pts' := []) (eqs := [(Value.bool (x17 != x22), Value.bool false)]) (by kernel_rfl) ⟨(ov_nf (by omega)), trivial⟩ (AllC_nil _) ?_
        change WP _ _ (CA Tryd.f16 [1, 1, 0, 1, 0, 0, 1, 0, 0, 1]) _ _ _
        refine fk_cut ([(0, Value.slice p n c), (1, Value.slice q m d), (5, Value.int IntKind.i64 (((i : Nat) : Int))), (14, Value.bool true), (25, Value.bool false)] : Fr) (by kernel_rfl) (fun a => WP _ _ _ _ a _) (fun lr25 => ?_)
        refine gi_cnd (x := (Operand.tmp 25)) (s := CA Tryd.f16 [1, 1, 0, 1, 0, 0, 1, 0, 0, 1, 0]) (t := CA Tryd.f16 [1, 1, 0, 1, 0, 0, 1, 0, 0, 1, 1]) false (by kernel_rfl) (by kernel_rfl) ?_
        change WP _ _ (CA Tryd.f16 [1, 1, 0, 1, 0, 0, 1, 0, 0, 1, 1]) _ _ _
        refine gi_skp (by kernel_rfl) ?_
        change WP _ _ (CA Tryd.f16 [1, 1, 0, 1, 0, 0, 1, 1]) _ _ _
        refine gi_pln (id := 5) (ops := RA Tryd.f16 [1, 1, 0, 1, 0, 0, 1, 1]) [0, 1, 2] (by kernel_rfl) (by kernel_rfl) (by kernel_rfl) ?_
        refine plain_batch (rest := []) [⟨0, [], none⟩, ⟨1, [], some (Value.int IntKind.i64 (((i : Nat) : Int) + 1))⟩, ⟨2, [], none⟩] (l' := ([(5, Value.int IntKind.i64 (((i : Nat) : Int) + 1)), (16, Value.int IntKind.i64 (((i : Nat) : Int) + 1)), (15, Value.int IntKind.i64 (((i : Nat) : Int))), (0, Value.slice p n c), (1, Value.slice q m d), (5, Value.int IntKind.i64 (((i : Nat) : Int))), (14, Value.bool true), (25, Value.bool false)] : Fr) ++ lr25) (pts' := []) (eqs := [(Value.int IntKind.i64 (IntKind.wrap IntKind.i64 ((((i : Nat) : Int)) + 1)), Value.int IntKind.i64 (((i : Nat) : Int) + 1))]) (by kernel_rfl) ⟨(ov_i64 (by omega) (by omega) (by omega)), trivial⟩ (AllC_nil _) ?_
        refine PO.mk ?_
        change ∃ n', n' < _ ∧ _
        refine ⟨(n - (i + 1)), by omega, (i + 1), _, rfl, (by omega), (take_go ht hx18 hx23 (by omega)), (mk_live [(0, Value.slice p n c), (1, Value.slice q m d), (5, Value.int IntKind.i64 ((((i + 1) : Nat) : Int)))] ⟨rfl, rfl, (ov_int (by omega)), trivial⟩), h13⟩
      ·
        refine draw_batch (t := Tr.nil) [⟨8, [], some (Value.bool true)⟩] (l' := ([(25, Value.bool true), (24, Value.int IntKind.i64 x22), (23, Value.pointer (some ⟨b19, off21 + i, none⟩)), (22, Value.int IntKind.i64 (((i : Nat) : Int))), (21, Value.slice q m d), (20, Value.int IntKind.i64 x17), (19, Value.pointer (some ⟨b14, off16 + i, none⟩)), (18, Value.int IntKind.i64 (((i : Nat) : Int))), (17, Value.slice p n c), (0, Value.slice p n c), (1, Value.slice q m d), (5, Value.int IntKind.i64 (((i : Nat) : Int))), (14, Value.bool true)] : Fr) ++ lr11) (pts' := []) (eqs := [(Value.bool (x17 != x22), Value.bool true)]) (by kernel_rfl) ⟨(ov_nt (by omega)), trivial⟩ (AllC_nil _) ?_
        change WP _ _ (CA Tryd.f16 [1, 1, 0, 1, 0, 0, 1, 0, 0, 1]) _ _ _
        refine fk_cut ([(0, Value.slice p n c), (1, Value.slice q m d), (5, Value.int IntKind.i64 (((i : Nat) : Int))), (14, Value.bool true), (25, Value.bool true)] : Fr) (by kernel_rfl) (fun a => WP _ _ _ _ a _) (fun lr26 => ?_)
        refine gi_cnd (x := (Operand.tmp 25)) (s := CA Tryd.f16 [1, 1, 0, 1, 0, 0, 1, 0, 0, 1, 0]) (t := CA Tryd.f16 [1, 1, 0, 1, 0, 0, 1, 0, 0, 1, 1]) true (by kernel_rfl) (by kernel_rfl) ?_
        change WP _ _ (CA Tryd.f16 [1, 1, 0, 1, 0, 0, 1, 0, 0, 1, 0]) _ _ _
        refine gi_seq (x := CA Tryd.f16 [1, 1, 0, 1, 0, 0, 1, 0, 0, 1, 0, 0]) (y := CA Tryd.f16 [1, 1, 0, 1, 0, 0, 1, 0, 0, 1, 0, 1]) (by kernel_rfl) ?_
        refine gi_pln (id := 7) (ops := RA Tryd.f16 [1, 1, 0, 1, 0, 0, 1, 0, 0, 1, 0, 0]) [0] (by kernel_rfl) (by kernel_rfl) (by kernel_rfl) ?_
        refine plain_batch (rest := []) [⟨0, [], none⟩] (l' := ([(4, Value.bool false), (0, Value.slice p n c), (1, Value.slice q m d), (5, Value.int IntKind.i64 (((i : Nat) : Int))), (14, Value.bool true), (25, Value.bool true)] : Fr) ++ lr26) (pts' := []) (eqs := []) (by kernel_rfl) trivial (AllC_nil _) ?_
        refine PO.mk ?_
        change WP _ _ (CA Tryd.f16 [1, 1, 0, 1, 0, 0, 1, 0, 0, 1, 0, 1]) _ _ _
        refine fk_cut ([(0, Value.slice p n c), (1, Value.slice q m d), (4, Value.bool false), (5, Value.int IntKind.i64 (((i : Nat) : Int))), (14, Value.bool true), (25, Value.bool true)] : Fr) (by kernel_rfl) (fun a => WP _ _ _ _ a _) (fun lr27 => ?_)
        refine gi_rt (by kernel_rfl) ?_
        repeat (first | simp only [Exit.inBlock] | simp only [Exit.then])
        refine hi_out [] (Value.bool false) [] (by kernel_rfl) (by intro q hq; cases hq) ?_
        exact ⟨Value.bool false, [X, Y], rfl, ⟨congrArg Value.bool ((same_f hx18 hx23 (by omega)).symm.trans hr), rfl⟩, h13⟩
    ·
      refine plain_batch (rest := []) [⟨3, [], some (Value.bool false)⟩] (l' := ([(14, Value.bool false), (13, Value.int IntKind.i64 (((n : Nat) : Int))), (12, Value.slice p n c), (11, Value.int IntKind.i64 (((i : Nat) : Int))), (0, Value.slice p n c), (1, Value.slice q m d), (5, Value.int IntKind.i64 (((i : Nat) : Int)))] : Fr) ++ lr5) (pts' := []) (eqs := [(Value.bool (decide (((i : Nat) : Int) < ((n : Nat) : Int))), Value.bool false)]) (by kernel_rfl) ⟨(ov_f (by omega)), trivial⟩ (AllC_nil _) ?_
      refine PO.mk ?_
      change WP _ _ (CA Tryd.f16 [1, 1, 0, 1, 0, 0, 0, 1]) _ _ _
      refine fk_cut ([(0, Value.slice p n c), (1, Value.slice q m d), (5, Value.int IntKind.i64 (((i : Nat) : Int))), (14, Value.bool false)] : Fr) (by kernel_rfl) (fun a => WP _ _ _ _ a _) (fun lr28 => ?_)
      refine gi_cnd (x := (Operand.tmp 14)) (s := CA Tryd.f16 [1, 1, 0, 1, 0, 0, 0, 1, 0]) (t := CA Tryd.f16 [1, 1, 0, 1, 0, 0, 0, 1, 1]) false (by kernel_rfl) (by kernel_rfl) ?_
      change WP _ _ (CA Tryd.f16 [1, 1, 0, 1, 0, 0, 0, 1, 1]) _ _ _
      refine gi_ext (id := 0) (by kernel_rfl) ?_
      change WP _ _ (CA Tryd.f16 [1, 1, 1]) _ _ _
      refine gi_seq (x := CA Tryd.f16 [1, 1, 1, 0]) (y := CA Tryd.f16 [1, 1, 1, 1]) (by kernel_rfl) ?_
      refine gi_pln (id := 8) (ops := RA Tryd.f16 [1, 1, 1, 0]) [0] (by kernel_rfl) (by kernel_rfl) (by kernel_rfl) ?_
      refine plain_batch (rest := []) [⟨0, [], none⟩] (l' := ([(4, Value.bool true), (0, Value.slice p n c), (1, Value.slice q m d), (5, Value.int IntKind.i64 (((i : Nat) : Int))), (14, Value.bool false)] : Fr) ++ lr28) (pts' := []) (eqs := []) (by kernel_rfl) trivial (AllC_nil _) ?_
      refine PO.mk ?_
      change WP _ _ (CA Tryd.f16 [1, 1, 1, 1]) _ _ _
      refine fk_cut ([(0, Value.slice p n c), (1, Value.slice q m d), (4, Value.bool true), (5, Value.int IntKind.i64 (((i : Nat) : Int))), (14, Value.bool false)] : Fr) (by kernel_rfl) (fun a => WP _ _ _ _ a _) (fun lr29 => ?_)
      refine gi_rt (by kernel_rfl) ?_
      repeat (first | simp only [Exit.inBlock] | simp only [Exit.then])
      refine hi_out [] (Value.bool true) [] (by kernel_rfl) (by intro q hq; cases hq) ?_
      exact ⟨Value.bool true, [X, Y], rfl, ⟨congrArg Value.bool ((same_t ht (by omega) (by omega)).symm.trans hr), rfl⟩, h9⟩
  ·
    refine plain_batch (rest := []) [⟨4, [], some (Value.bool true)⟩] (l' := ([(10, Value.bool true), (9, Value.int IntKind.i64 (((m : Nat) : Int))), (8, Value.slice q m d), (7, Value.int IntKind.i64 (((n : Nat) : Int))), (6, Value.slice p n c), (0, Value.slice p n c), (1, Value.slice q m d), (4, Value.bool false)] : Fr) ++ lr1) (pts' := []) (eqs := [(Value.bool ((((n : Nat) : Int)) != (((m : Nat) : Int))), Value.bool true)]) (by kernel_rfl) ⟨(ov_nt (by omega)), trivial⟩ (AllC_nil _) ?_
    refine PO.mk ?_
    change WP _ _ (CA Tryd.f16 [1, 0, 1]) _ _ _
    refine fk_cut ([(0, Value.slice p n c), (1, Value.slice q m d), (4, Value.bool false), (10, Value.bool true)] : Fr) (by kernel_rfl) (fun a => WP _ _ _ _ a _) (fun lr30 => ?_)
    refine gi_cnd (x := (Operand.tmp 10)) (s := CA Tryd.f16 [1, 0, 1, 0]) (t := CA Tryd.f16 [1, 0, 1, 1]) true (by kernel_rfl) (by kernel_rfl) ?_
    change WP _ _ (CA Tryd.f16 [1, 0, 1, 0]) _ _ _
    refine gi_seq (x := CA Tryd.f16 [1, 0, 1, 0, 0]) (y := CA Tryd.f16 [1, 0, 1, 0, 1]) (by kernel_rfl) ?_
    refine gi_pln (id := 2) (ops := RA Tryd.f16 [1, 0, 1, 0, 0]) [0] (by kernel_rfl) (by kernel_rfl) (by kernel_rfl) ?_
    refine plain_batch (rest := []) [⟨0, [], none⟩] (l' := ([(4, Value.bool false), (0, Value.slice p n c), (1, Value.slice q m d), (4, Value.bool false), (10, Value.bool true)] : Fr) ++ lr30) (pts' := []) (eqs := []) (by kernel_rfl) trivial (AllC_nil _) ?_
    refine PO.mk ?_
    change WP _ _ (CA Tryd.f16 [1, 0, 1, 0, 1]) _ _ _
    refine fk_cut ([(0, Value.slice p n c), (1, Value.slice q m d), (4, Value.bool false), (10, Value.bool true)] : Fr) (by kernel_rfl) (fun a => WP _ _ _ _ a _) (fun lr31 => ?_)
    refine gi_rt (by kernel_rfl) ?_
    repeat (first | simp only [Exit.inBlock] | simp only [Exit.then])
    refine hi_out [] (Value.bool false) [] (by kernel_rfl) (by intro q hq; cases hq) ?_
    exact ⟨Value.bool false, [X, Y], rfl, ⟨congrArg Value.bool ((same_n (by omega)).symm.trans hr), rfl⟩, h0⟩

set_option maxHeartbeats 4000000 in
theorem valid_ht (b : Nat) (v0 : Value) : HT Tryd.prog 34 [Value.pointer (some ⟨b, 0, none⟩)] [Cl b [Value.bool true, v0] 52] (fun v K => v = Value.bool true ∧ K = [Cl b [Value.bool true, v0] 52]) := by
  refine hi_in 11 ([(0, Value.pointer (some ⟨b, 0, none⟩))] : Fr) Tryd.func34 (by kernel_rfl) Tryd.ntmps34 rfl rfl ?_
  intro g w0 R h0
  refine gi_seq (x := CA Tryd.f34 [0]) (y := CA Tryd.f34 [1]) (by kernel_rfl) ?_
  refine gi_pln (id := 0) (ops := RA Tryd.f34 [0]) [0] (by kernel_rfl) (by kernel_rfl) (by kernel_rfl) ?_
  refine plain_batch (rest := []) [⟨0, [], none⟩] (l' := ([(2, Value.bool false), (0, Value.pointer (some ⟨b, 0, none⟩))] : Fr)) (pts' := []) (eqs := []) (by kernel_rfl) trivial (AllC_nil _) ?_
  refine PO.mk ?_
  change WP _ _ (CA Tryd.f34 [1]) _ _ _
  refine fk_cut ([(0, Value.pointer (some ⟨b, 0, none⟩)), (2, Value.bool false)] : Fr) (by kernel_rfl) (fun a => WP _ _ _ _ a _) (fun lr1 => ?_)
  refine gi_seq (x := CA Tryd.f34 [1, 0]) (y := CA Tryd.f34 [1, 1]) (by kernel_rfl) ?_
  refine gi_pln (id := 1) (ops := RA Tryd.f34 [1, 0]) [0, 1, 2, 3, 4, 5, 6, 7, 8] (by kernel_rfl) (by kernel_rfl) (by kernel_rfl) ?_
  refine plain_batch (rest := []) [⟨0, [], none⟩, ⟨1, [], none⟩, ⟨2, [], none⟩, ⟨3, [], none⟩, ⟨4, [], none⟩, ⟨5, [], none⟩, ⟨6, [Value.bool true], none⟩, ⟨7, [], none⟩, ⟨8, [], none⟩] (l' := ([(2, Value.bool true), (10, Value.bool true), (9, Value.bool true), (8, Value.pointer (some ⟨b, 0, none⟩)), (7, Value.pointer (some ⟨b, 0, none⟩)), (6, Value.pointer (some ⟨b, 0, none⟩)), (5, Value.bool true), (4, Value.bool true), (3, Value.pointer (some ⟨b, 0, none⟩)), (0, Value.pointer (some ⟨b, 0, none⟩)), (2, Value.bool false)] : Fr) ++ lr1) (pts' := [(6, ⟨b, 0, none⟩, Value.bool true)]) (eqs := []) (by kernel_rfl) trivial (AllC_cons (sat_cell h0 0 rfl rfl) (AllC_nil _)) ?_
  refine PO.mk ?_
  change WP _ _ (CA Tryd.f34 [1, 1]) _ _ _
  refine fk_cut ([(0, Value.pointer (some ⟨b, 0, none⟩)), (2, Value.bool true)] : Fr) (by kernel_rfl) (fun a => WP _ _ _ _ a _) (fun lr2 => ?_)
  refine gi_rt (by kernel_rfl) ?_
  repeat (first | simp only [Exit.inBlock] | simp only [Exit.then])
  refine hi_out [] (Value.bool true) [] (by kernel_rfl) (by intro q hq; cases hq) ?_
  exact ⟨Value.bool true, [Cl b [Value.bool true, v0] 52], rfl, ⟨rfl, rfl⟩, h0⟩

set_option maxHeartbeats 4000000 in
theorem valid_un (b : Nat) (v0 : Value) : HT Tryd.prog 34 [Value.pointer (some ⟨b, 0, none⟩)] [Cl b [Value.bool false, v0] 52] (fun v K => v = Value.bool false ∧ K = [Cl b [Value.bool false, v0] 52]) := by
  refine hi_in 11 ([(0, Value.pointer (some ⟨b, 0, none⟩))] : Fr) Tryd.func34 (by kernel_rfl) Tryd.ntmps34 rfl rfl ?_
  intro g w0 R h0
  refine gi_seq (x := CA Tryd.f34 [0]) (y := CA Tryd.f34 [1]) (by kernel_rfl) ?_
  refine gi_pln (id := 0) (ops := RA Tryd.f34 [0]) [0] (by kernel_rfl) (by kernel_rfl) (by kernel_rfl) ?_
  refine plain_batch (rest := []) [⟨0, [], none⟩] (l' := ([(2, Value.bool false), (0, Value.pointer (some ⟨b, 0, none⟩))] : Fr)) (pts' := []) (eqs := []) (by kernel_rfl) trivial (AllC_nil _) ?_
  refine PO.mk ?_
  change WP _ _ (CA Tryd.f34 [1]) _ _ _
  refine fk_cut ([(0, Value.pointer (some ⟨b, 0, none⟩)), (2, Value.bool false)] : Fr) (by kernel_rfl) (fun a => WP _ _ _ _ a _) (fun lr1 => ?_)
  refine gi_seq (x := CA Tryd.f34 [1, 0]) (y := CA Tryd.f34 [1, 1]) (by kernel_rfl) ?_
  refine gi_pln (id := 1) (ops := RA Tryd.f34 [1, 0]) [0, 1, 2, 3, 4, 5, 6, 7, 8] (by kernel_rfl) (by kernel_rfl) (by kernel_rfl) ?_
  refine plain_batch (rest := []) [⟨0, [], none⟩, ⟨1, [], none⟩, ⟨2, [], none⟩, ⟨3, [], none⟩, ⟨4, [], none⟩, ⟨5, [], none⟩, ⟨6, [Value.bool false], none⟩, ⟨7, [], none⟩, ⟨8, [], none⟩] (l' := ([(2, Value.bool false), (10, Value.bool false), (9, Value.bool false), (8, Value.pointer (some ⟨b, 0, none⟩)), (7, Value.pointer (some ⟨b, 0, none⟩)), (6, Value.pointer (some ⟨b, 0, none⟩)), (5, Value.bool true), (4, Value.bool true), (3, Value.pointer (some ⟨b, 0, none⟩)), (0, Value.pointer (some ⟨b, 0, none⟩)), (2, Value.bool false)] : Fr) ++ lr1) (pts' := [(6, ⟨b, 0, none⟩, Value.bool false)]) (eqs := []) (by kernel_rfl) trivial (AllC_cons (sat_cell h0 0 rfl rfl) (AllC_nil _)) ?_
  refine PO.mk ?_
  change WP _ _ (CA Tryd.f34 [1, 1]) _ _ _
  refine fk_cut ([(0, Value.pointer (some ⟨b, 0, none⟩)), (2, Value.bool false)] : Fr) (by kernel_rfl) (fun a => WP _ _ _ _ a _) (fun lr2 => ?_)
  refine gi_rt (by kernel_rfl) ?_
  repeat (first | simp only [Exit.inBlock] | simp only [Exit.then])
  refine hi_out [] (Value.bool false) [] (by kernel_rfl) (by intro q hq; cases hq) ?_
  exact ⟨Value.bool false, [Cl b [Value.bool false, v0] 52], rfl, ⟨rfl, rfl⟩, h0⟩

set_option maxHeartbeats 4000000 in
theorem valid_nil  : HT Tryd.prog 34 [Value.pointer none] [] (fun v K => v = Value.bool false ∧ K = []) := by
  refine hi_in 11 ([(0, Value.pointer none)] : Fr) Tryd.func34 (by kernel_rfl) Tryd.ntmps34 rfl rfl ?_
  intro g w0 R h0
  refine gi_seq (x := CA Tryd.f34 [0]) (y := CA Tryd.f34 [1]) (by kernel_rfl) ?_
  refine gi_pln (id := 0) (ops := RA Tryd.f34 [0]) [0] (by kernel_rfl) (by kernel_rfl) (by kernel_rfl) ?_
  refine plain_batch (rest := []) [⟨0, [], none⟩] (l' := ([(2, Value.bool false), (0, Value.pointer none)] : Fr)) (pts' := []) (eqs := []) (by kernel_rfl) trivial (AllC_nil _) ?_
  refine PO.mk ?_
  change WP _ _ (CA Tryd.f34 [1]) _ _ _
  refine fk_cut ([(0, Value.pointer none), (2, Value.bool false)] : Fr) (by kernel_rfl) (fun a => WP _ _ _ _ a _) (fun lr1 => ?_)
  refine gi_seq (x := CA Tryd.f34 [1, 0]) (y := CA Tryd.f34 [1, 1]) (by kernel_rfl) ?_
  refine gi_pln (id := 1) (ops := RA Tryd.f34 [1, 0]) [0, 1, 2, 3, 4, 5, 6, 7, 8] (by kernel_rfl) (by kernel_rfl) (by kernel_rfl) ?_
  refine plain_batch (rest := []) [⟨0, [], none⟩, ⟨1, [], none⟩, ⟨2, [], none⟩, ⟨3, [], none⟩, ⟨4, [], none⟩, ⟨5, [], none⟩, ⟨6, [], none⟩, ⟨7, [], none⟩, ⟨8, [], none⟩] (l' := ([(2, Value.bool false), (10, Value.bool false), (9, undef), (8, undef), (7, undef), (6, undef), (5, Value.bool false), (4, Value.bool false), (3, Value.pointer none), (0, Value.pointer none), (2, Value.bool false)] : Fr) ++ lr1) (pts' := []) (eqs := []) (by kernel_rfl) trivial (AllC_nil _) ?_
  refine PO.mk ?_
  change WP _ _ (CA Tryd.f34 [1, 1]) _ _ _
  refine fk_cut ([(0, Value.pointer none), (2, Value.bool false)] : Fr) (by kernel_rfl) (fun a => WP _ _ _ _ a _) (fun lr2 => ?_)
  refine gi_rt (by kernel_rfl) ?_
  repeat (first | simp only [Exit.inBlock] | simp only [Exit.then])
  refine hi_out [] (Value.bool false) [] (by kernel_rfl) (by intro q hq; cases hq) ?_
  exact ⟨Value.bool false, [], rfl, ⟨rfl, rfl⟩, h0⟩

set_option maxHeartbeats 4000000 in
theorem rvalid_ht (b : Nat) (v0 : Value) : HT Tryd.prog 37 [Value.pointer (some ⟨b, 0, none⟩)] [Cl b [Value.bool true, v0] 70] (fun v K => v = Value.bool true ∧ K = [Cl b [Value.bool true, v0] 70]) := by
  refine hi_in 11 ([(0, Value.pointer (some ⟨b, 0, none⟩))] : Fr) Tryd.func37 (by kernel_rfl) Tryd.ntmps37 rfl rfl ?_
  intro g w0 R h0
  refine gi_seq (x := CA Tryd.f37 [0]) (y := CA Tryd.f37 [1]) (by kernel_rfl) ?_
  refine gi_pln (id := 0) (ops := RA Tryd.f37 [0]) [0] (by kernel_rfl) (by kernel_rfl) (by kernel_rfl) ?_
  refine plain_batch (rest := []) [⟨0, [], none⟩] (l' := ([(2, Value.bool false), (0, Value.pointer (some ⟨b, 0, none⟩))] : Fr)) (pts' := []) (eqs := []) (by kernel_rfl) trivial (AllC_nil _) ?_
  refine PO.mk ?_
  change WP _ _ (CA Tryd.f37 [1]) _ _ _
  refine fk_cut ([(0, Value.pointer (some ⟨b, 0, none⟩)), (2, Value.bool false)] : Fr) (by kernel_rfl) (fun a => WP _ _ _ _ a _) (fun lr1 => ?_)
  refine gi_seq (x := CA Tryd.f37 [1, 0]) (y := CA Tryd.f37 [1, 1]) (by kernel_rfl) ?_
  refine gi_pln (id := 1) (ops := RA Tryd.f37 [1, 0]) [0, 1, 2, 3, 4, 5, 6, 7, 8] (by kernel_rfl) (by kernel_rfl) (by kernel_rfl) ?_
  refine plain_batch (rest := []) [⟨0, [], none⟩, ⟨1, [], none⟩, ⟨2, [], none⟩, ⟨3, [], none⟩, ⟨4, [], none⟩, ⟨5, [], none⟩, ⟨6, [Value.bool true], none⟩, ⟨7, [], none⟩, ⟨8, [], none⟩] (l' := ([(2, Value.bool true), (10, Value.bool true), (9, Value.bool true), (8, Value.pointer (some ⟨b, 0, none⟩)), (7, Value.pointer (some ⟨b, 0, none⟩)), (6, Value.pointer (some ⟨b, 0, none⟩)), (5, Value.bool true), (4, Value.bool true), (3, Value.pointer (some ⟨b, 0, none⟩)), (0, Value.pointer (some ⟨b, 0, none⟩)), (2, Value.bool false)] : Fr) ++ lr1) (pts' := [(6, ⟨b, 0, none⟩, Value.bool true)]) (eqs := []) (by kernel_rfl) trivial (AllC_cons (sat_cell h0 0 rfl rfl) (AllC_nil _)) ?_
  refine PO.mk ?_
  change WP _ _ (CA Tryd.f37 [1, 1]) _ _ _
  refine fk_cut ([(0, Value.pointer (some ⟨b, 0, none⟩)), (2, Value.bool true)] : Fr) (by kernel_rfl) (fun a => WP _ _ _ _ a _) (fun lr2 => ?_)
  refine gi_rt (by kernel_rfl) ?_
  repeat (first | simp only [Exit.inBlock] | simp only [Exit.then])
  refine hi_out [] (Value.bool true) [] (by kernel_rfl) (by intro q hq; cases hq) ?_
  exact ⟨Value.bool true, [Cl b [Value.bool true, v0] 70], rfl, ⟨rfl, rfl⟩, h0⟩

set_option maxHeartbeats 4000000 in
theorem rvalid_un (b : Nat) (v0 : Value) : HT Tryd.prog 37 [Value.pointer (some ⟨b, 0, none⟩)] [Cl b [Value.bool false, v0] 70] (fun v K => v = Value.bool false ∧ K = [Cl b [Value.bool false, v0] 70]) := by
  refine hi_in 11 ([(0, Value.pointer (some ⟨b, 0, none⟩))] : Fr) Tryd.func37 (by kernel_rfl) Tryd.ntmps37 rfl rfl ?_
  intro g w0 R h0
  refine gi_seq (x := CA Tryd.f37 [0]) (y := CA Tryd.f37 [1]) (by kernel_rfl) ?_
  refine gi_pln (id := 0) (ops := RA Tryd.f37 [0]) [0] (by kernel_rfl) (by kernel_rfl) (by kernel_rfl) ?_
  refine plain_batch (rest := []) [⟨0, [], none⟩] (l' := ([(2, Value.bool false), (0, Value.pointer (some ⟨b, 0, none⟩))] : Fr)) (pts' := []) (eqs := []) (by kernel_rfl) trivial (AllC_nil _) ?_
  refine PO.mk ?_
  change WP _ _ (CA Tryd.f37 [1]) _ _ _
  refine fk_cut ([(0, Value.pointer (some ⟨b, 0, none⟩)), (2, Value.bool false)] : Fr) (by kernel_rfl) (fun a => WP _ _ _ _ a _) (fun lr1 => ?_)
  refine gi_seq (x := CA Tryd.f37 [1, 0]) (y := CA Tryd.f37 [1, 1]) (by kernel_rfl) ?_
  refine gi_pln (id := 1) (ops := RA Tryd.f37 [1, 0]) [0, 1, 2, 3, 4, 5, 6, 7, 8] (by kernel_rfl) (by kernel_rfl) (by kernel_rfl) ?_
  refine plain_batch (rest := []) [⟨0, [], none⟩, ⟨1, [], none⟩, ⟨2, [], none⟩, ⟨3, [], none⟩, ⟨4, [], none⟩, ⟨5, [], none⟩, ⟨6, [Value.bool false], none⟩, ⟨7, [], none⟩, ⟨8, [], none⟩] (l' := ([(2, Value.bool false), (10, Value.bool false), (9, Value.bool false), (8, Value.pointer (some ⟨b, 0, none⟩)), (7, Value.pointer (some ⟨b, 0, none⟩)), (6, Value.pointer (some ⟨b, 0, none⟩)), (5, Value.bool true), (4, Value.bool true), (3, Value.pointer (some ⟨b, 0, none⟩)), (0, Value.pointer (some ⟨b, 0, none⟩)), (2, Value.bool false)] : Fr) ++ lr1) (pts' := [(6, ⟨b, 0, none⟩, Value.bool false)]) (eqs := []) (by kernel_rfl) trivial (AllC_cons (sat_cell h0 0 rfl rfl) (AllC_nil _)) ?_
  refine PO.mk ?_
  change WP _ _ (CA Tryd.f37 [1, 1]) _ _ _
  refine fk_cut ([(0, Value.pointer (some ⟨b, 0, none⟩)), (2, Value.bool false)] : Fr) (by kernel_rfl) (fun a => WP _ _ _ _ a _) (fun lr2 => ?_)
  refine gi_rt (by kernel_rfl) ?_
  repeat (first | simp only [Exit.inBlock] | simp only [Exit.then])
  refine hi_out [] (Value.bool false) [] (by kernel_rfl) (by intro q hq; cases hq) ?_
  exact ⟨Value.bool false, [Cl b [Value.bool false, v0] 70], rfl, ⟨rfl, rfl⟩, h0⟩

set_option maxHeartbeats 4000000 in
theorem rvalid_nil  : HT Tryd.prog 37 [Value.pointer none] [] (fun v K => v = Value.bool false ∧ K = []) := by
  refine hi_in 11 ([(0, Value.pointer none)] : Fr) Tryd.func37 (by kernel_rfl) Tryd.ntmps37 rfl rfl ?_
  intro g w0 R h0
  refine gi_seq (x := CA Tryd.f37 [0]) (y := CA Tryd.f37 [1]) (by kernel_rfl) ?_
  refine gi_pln (id := 0) (ops := RA Tryd.f37 [0]) [0] (by kernel_rfl) (by kernel_rfl) (by kernel_rfl) ?_
  refine plain_batch (rest := []) [⟨0, [], none⟩] (l' := ([(2, Value.bool false), (0, Value.pointer none)] : Fr)) (pts' := []) (eqs := []) (by kernel_rfl) trivial (AllC_nil _) ?_
  refine PO.mk ?_
  change WP _ _ (CA Tryd.f37 [1]) _ _ _
  refine fk_cut ([(0, Value.pointer none), (2, Value.bool false)] : Fr) (by kernel_rfl) (fun a => WP _ _ _ _ a _) (fun lr1 => ?_)
  refine gi_seq (x := CA Tryd.f37 [1, 0]) (y := CA Tryd.f37 [1, 1]) (by kernel_rfl) ?_
  refine gi_pln (id := 1) (ops := RA Tryd.f37 [1, 0]) [0, 1, 2, 3, 4, 5, 6, 7, 8] (by kernel_rfl) (by kernel_rfl) (by kernel_rfl) ?_
  refine plain_batch (rest := []) [⟨0, [], none⟩, ⟨1, [], none⟩, ⟨2, [], none⟩, ⟨3, [], none⟩, ⟨4, [], none⟩, ⟨5, [], none⟩, ⟨6, [], none⟩, ⟨7, [], none⟩, ⟨8, [], none⟩] (l' := ([(2, Value.bool false), (10, Value.bool false), (9, undef), (8, undef), (7, undef), (6, undef), (5, Value.bool false), (4, Value.bool false), (3, Value.pointer none), (0, Value.pointer none), (2, Value.bool false)] : Fr) ++ lr1) (pts' := []) (eqs := []) (by kernel_rfl) trivial (AllC_nil _) ?_
  refine PO.mk ?_
  change WP _ _ (CA Tryd.f37 [1, 1]) _ _ _
  refine fk_cut ([(0, Value.pointer none), (2, Value.bool false)] : Fr) (by kernel_rfl) (fun a => WP _ _ _ _ a _) (fun lr2 => ?_)
  refine gi_rt (by kernel_rfl) ?_
  repeat (first | simp only [Exit.inBlock] | simp only [Exit.then])
  refine hi_out [] (Value.bool false) [] (by kernel_rfl) (by intro q hq; cases hq) ?_
  exact ⟨Value.bool false, [], rfl, ⟨rfl, rfl⟩, h0⟩

set_option maxHeartbeats 4000000 in
theorem grow_ht (k : Nat) (z : Int) (hz : z = (k : Int)) (hk : k ≤ 1099511627776) : HT Tryd.prog 41 [Value.slice none 0 0, Value.int IntKind.i64 z] [] (fun v K => ∃ p c, v = Value.slice p 0 c ∧ K = [Sl 3 1 p 0 c (fl eI [])]) := by
  refine hi_in 27 ([(0, Value.slice none 0 0), (1, Value.int IntKind.i64 z)] : Fr) Tryd.func41 (by kernel_rfl) Tryd.ntmps41 rfl rfl ?_
  intro g w0 R h0
  refine gi_seq (x := CA Tryd.f41 [0]) (y := CA Tryd.f41 [1]) (by kernel_rfl) ?_
  refine gi_pln (id := 0) (ops := RA Tryd.f41 [0]) [0] (by kernel_rfl) (by kernel_rfl) (by kernel_rfl) ?_
  refine plain_batch (rest := []) [⟨0, [], none⟩] (l' := ([(4, Value.slice none 0 0), (0, Value.slice none 0 0), (1, Value.int IntKind.i64 z)] : Fr)) (pts' := []) (eqs := []) (by kernel_rfl) trivial (AllC_nil _) ?_
  refine PO.mk ?_
  change WP _ _ (CA Tryd.f41 [1]) _ _ _
  refine fk_cut ([(0, Value.slice none 0 0), (1, Value.int IntKind.i64 z), (4, Value.slice none 0 0)] : Fr) (by kernel_rfl) (fun a => WP _ _ _ _ a _) (fun lr1 => ?_)
  refine gi_seq (x := CA Tryd.f41 [1, 0]) (y := CA Tryd.f41 [1, 1]) (by kernel_rfl) ?_
  refine gi_seq (x := CA Tryd.f41 [1, 0, 0]) (y := CA Tryd.f41 [1, 0, 1]) (by kernel_rfl) ?_
  refine gi_pln (id := 1) (ops := RA Tryd.f41 [1, 0, 0]) [0, 1] (by kernel_rfl) (by kernel_rfl) (by kernel_rfl) ?_
  refine plain_batch (rest := []) [⟨0, [], none⟩, ⟨1, [], some (Value.bool false)⟩] (l' := ([(6, Value.bool false), (5, Value.int IntKind.i64 z), (0, Value.slice none 0 0), (1, Value.int IntKind.i64 z), (4, Value.slice none 0 0)] : Fr) ++ lr1) (pts' := []) (eqs := [(Value.bool (decide (z < 0)), Value.bool false)]) (by kernel_rfl) ⟨(ov_f (by omega)), trivial⟩ (AllC_nil _) ?_
  refine PO.mk ?_
  change WP _ _ (CA Tryd.f41 [1, 0, 1]) _ _ _
  refine fk_cut ([(0, Value.slice none 0 0), (1, Value.int IntKind.i64 z), (4, Value.slice none 0 0), (6, Value.bool false)] : Fr) (by kernel_rfl) (fun a => WP _ _ _ _ a _) (fun lr2 => ?_)
  refine gi_cnd (x := (Operand.tmp 6)) (s := CA Tryd.f41 [1, 0, 1, 0]) (t := CA Tryd.f41 [1, 0, 1, 1]) false (by kernel_rfl) (by kernel_rfl) ?_
  change WP _ _ (CA Tryd.f41 [1, 0, 1, 1]) _ _ _
  refine gi_skp (by kernel_rfl) ?_
  change WP _ _ (CA Tryd.f41 [1, 1]) _ _ _
  refine gi_seq (x := CA Tryd.f41 [1, 1, 0]) (y := CA Tryd.f41 [1, 1, 1]) (by kernel_rfl) ?_
  refine gi_seq (x := CA Tryd.f41 [1, 1, 0, 0]) (y := CA Tryd.f41 [1, 1, 0, 1]) (by kernel_rfl) ?_
  refine gi_pln (id := 3) (ops := RA Tryd.f41 [1, 1, 0, 0]) [0, 1, 2, 3, 4, 5, 6, 7] (by kernel_rfl) (by kernel_rfl) (by kernel_rfl) ?_
  refine plain_batch (rest := []) [⟨0, [], none⟩, ⟨1, [], none⟩, ⟨2, [], none⟩, ⟨3, [], none⟩, ⟨4, [], none⟩, ⟨5, [], none⟩, ⟨6, [], some (Value.int IntKind.i64 z)⟩, ⟨7, [], none⟩] (l' := ([(1, Value.int IntKind.i64 z), (14, Value.int IntKind.i64 z), (13, Value.int IntKind.i64 0), (12, Value.int IntKind.i64 0), (11, Value.slice none 0 0), (10, Value.int IntKind.i64 0), (9, Value.slice none 0 0), (8, Value.int IntKind.i64 z), (0, Value.slice none 0 0), (1, Value.int IntKind.i64 z), (4, Value.slice none 0 0), (6, Value.bool false)] : Fr) ++ lr2) (pts' := []) (eqs := [(Value.int IntKind.i64 (IntKind.wrap IntKind.i64 (z - 0)), Value.int IntKind.i64 z)]) (by kernel_rfl) ⟨(ov_i64 (by omega) (by omega) (by omega)), trivial⟩ (AllC_nil _) ?_
  refine PO.mk ?_
  change WP _ _ (CA Tryd.f41 [1, 1, 0, 1]) _ _ _
  refine fk_cut ([(0, Value.slice none 0 0), (1, Value.int IntKind.i64 z), (4, Value.slice none 0 0), (6, Value.bool false)] : Fr) (by kernel_rfl) (fun a => WP _ _ _ _ a _) (fun lr3 => ?_)
  refine gi_seq (x := CA Tryd.f41 [1, 1, 0, 1, 0]) (y := CA Tryd.f41 [1, 1, 0, 1, 1]) (by kernel_rfl) ?_
  refine gi_pln (id := 4) (ops := RA Tryd.f41 [1, 1, 0, 1, 0]) [0, 1] (by kernel_rfl) (by kernel_rfl) (by kernel_rfl) ?_
  refine plain_batch (rest := [1]) [⟨0, [], none⟩] (l' := ([(15, Value.int IntKind.i64 z), (0, Value.slice none 0 0), (1, Value.int IntKind.i64 z), (4, Value.slice none 0 0), (6, Value.bool false)] : Fr) ++ lr3) (pts' := []) (eqs := []) (by kernel_rfl) trivial (AllC_nil _) ?_
  by_cases c4 : z > 0
  ·
    refine plain_batch (rest := []) [⟨1, [], some (Value.bool true)⟩] (l' := ([(16, Value.bool true), (15, Value.int IntKind.i64 z), (0, Value.slice none 0 0), (1, Value.int IntKind.i64 z), (4, Value.slice none 0 0), (6, Value.bool false)] : Fr) ++ lr3) (pts' := []) (eqs := [(Value.bool (decide (z > 0)), Value.bool true)]) (by kernel_rfl) ⟨(ov_t (by omega)), trivial⟩ (AllC_nil _) ?_
    refine PO.mk ?_
    change WP _ _ (CA Tryd.f41 [1, 1, 0, 1, 1]) _ _ _
    refine fk_cut ([(0, Value.slice none 0 0), (1, Value.int IntKind.i64 z), (4, Value.slice none 0 0), (6, Value.bool false), (16, Value.bool true)] : Fr) (by kernel_rfl) (fun a => WP _ _ _ _ a _) (fun lr5 => ?_)
    refine gi_cnd (x := (Operand.tmp 16)) (s := CA Tryd.f41 [1, 1, 0, 1, 1, 0]) (t := CA Tryd.f41 [1, 1, 0, 1, 1, 1]) true (by kernel_rfl) (by kernel_rfl) ?_
    change WP _ _ (CA Tryd.f41 [1, 1, 0, 1, 1, 0]) _ _ _
    refine gi_pln (id := 5) (ops := RA Tryd.f41 [1, 1, 0, 1, 1, 0]) [0, 1, 2, 3, 4, 5, 6, 7, 8, 9] (by kernel_rfl) (by kernel_rfl) (by kernel_rfl) ?_
    refine plain_batch (rest := [3, 4, 5, 6, 7, 8, 9]) [⟨0, [], none⟩, ⟨1, [], none⟩, ⟨2, [], none⟩] (l' := ([(19, Value.int IntKind.i64 0), (18, Value.slice none 0 0), (17, Value.slice none 0 0), (0, Value.slice none 0 0), (1, Value.int IntKind.i64 z), (4, Value.slice none 0 0), (6, Value.bool false), (16, Value.bool true)] : Fr) ++ lr5) (pts' := []) (eqs := []) (by kernel_rfl) trivial (AllC_nil _) ?_
    refine plain_law (i := 3) 20 (Value.slice none 0 0) (by kernel_rfl) (law_sliceTo (o := opA (RA Tryd.f41 [1, 1, 0, 1, 1, 0]) 3) (x := (Operand.tmp 17)) (y := (Operand.tmp 19)) (p := none) (m := 0) (c := 0) (z := 0) (by kernel_rfl) Tryd.underlying22 (by kernel_rfl) (by kernel_rfl) (by kernel_rfl) 0 (by omega) (by omega) _) ?_
    refine plain_batch (rest := [5, 6, 7, 8, 9]) [⟨4, [], none⟩] (l' := ([(21, Value.int IntKind.i64 z), (20, Value.slice none 0 0), (19, Value.int IntKind.i64 0), (18, Value.slice none 0 0), (17, Value.slice none 0 0), (0, Value.slice none 0 0), (1, Value.int IntKind.i64 z), (4, Value.slice none 0 0), (6, Value.bool false), (16, Value.bool true)] : Fr) ++ lr5) (pts' := []) (eqs := []) (by kernel_rfl) trivial (AllC_nil _) ?_
    refine plain_act (i := 5) (by kernel_rfl) ?_
    refine an_append_room (kx := IntKind.i64) (d := 22) (sz := 1) (by_ := 8) (s := (Operand.tmp 20)) (x := (Operand.tmp 21)) (z := Value.int IntKind.i64 0) (zi := z) (by kernel_rfl) (by kernel_rfl) rfl Tryd.underlying22 Tryd.underlying3 (by kernel_rfl) rfl (by decide) k (by omega) (by omega) (by kernel_rfl) (by kernel_rfl) h0 (by omega) (by omega) ?_
    intro r6 cap7 w8 hn10 hn11 h9
    obtain ⟨p12, hp13⟩ : ∃ p : Option Addr, p = some ⟨r6, 0, none⟩ := ⟨_, rfl⟩
    have h14 : sat g w8 [Sl 3 1 p12 0 cap7 (fl eI []), R] := by rw [hp13]; exact h9
    rw [← hp13]
    refine plain_batch (rest := [8, 9]) [⟨6, [], none⟩, ⟨7, [], none⟩] (l' := ([(24, Value.int IntKind.i64 0), (23, Value.slice none 0 0), (22, Value.slice p12 k cap7), (21, Value.int IntKind.i64 z), (20, Value.slice none 0 0), (19, Value.int IntKind.i64 0), (18, Value.slice none 0 0), (17, Value.slice none 0 0), (0, Value.slice none 0 0), (1, Value.int IntKind.i64 z), (4, Value.slice none 0 0), (6, Value.bool false), (16, Value.bool true)] : Fr) ++ lr5) (pts' := []) (eqs := []) (by kernel_rfl) trivial (AllC_nil _) ?_
    refine plain_law (i := 8) 25 (Value.slice p12 0 cap7) (by kernel_rfl) (law_sliceTo (o := opA (RA Tryd.f41 [1, 1, 0, 1, 1, 0]) 8) (x := (Operand.tmp 22)) (y := (Operand.tmp 24)) (p := p12) (m := k) (c := cap7) (z := 0) (by kernel_rfl) Tryd.underlying22 (by kernel_rfl) (by kernel_rfl) (by kernel_rfl) 0 (by omega) (by omega) _) ?_
    refine plain_batch (rest := []) [⟨9, [], none⟩] (l' := ([(0, Value.slice p12 0 cap7), (25, Value.slice p12 0 cap7), (24, Value.int IntKind.i64 0), (23, Value.slice none 0 0), (22, Value.slice p12 k cap7), (21, Value.int IntKind.i64 z), (20, Value.slice none 0 0), (19, Value.int IntKind.i64 0), (18, Value.slice none 0 0), (17, Value.slice none 0 0), (0, Value.slice none 0 0), (1, Value.int IntKind.i64 z), (4, Value.slice none 0 0), (6, Value.bool false), (16, Value.bool true)] : Fr) ++ lr5) (pts' := []) (eqs := []) (by kernel_rfl) trivial (AllC_nil _) ?_
    refine PO.mk ?_
    change WP _ _ (CA Tryd.f41 [1, 1, 1]) _ _ _
    refine fk_cut ([(0, Value.slice p12 0 cap7), (1, Value.int IntKind.i64 z), (4, Value.slice none 0 0), (6, Value.bool false), (16, Value.bool true)] : Fr) (by kernel_rfl) (fun a => WP _ _ _ _ a _) (fun lr15 => ?_)
    refine gi_seq (x := CA Tryd.f41 [1, 1, 1, 0]) (y := CA Tryd.f41 [1, 1, 1, 1]) (by kernel_rfl) ?_
    refine gi_pln (id := 6) (ops := RA Tryd.f41 [1, 1, 1, 0]) [0, 1] (by kernel_rfl) (by kernel_rfl) (by kernel_rfl) ?_
    refine plain_batch (rest := []) [⟨0, [], none⟩, ⟨1, [], none⟩] (l' := ([(4, Value.slice p12 0 cap7), (26, Value.slice p12 0 cap7), (0, Value.slice p12 0 cap7), (1, Value.int IntKind.i64 z), (4, Value.slice none 0 0), (6, Value.bool false), (16, Value.bool true)] : Fr) ++ lr15) (pts' := []) (eqs := []) (by kernel_rfl) trivial (AllC_nil _) ?_
    refine PO.mk ?_
    change WP _ _ (CA Tryd.f41 [1, 1, 1, 1]) _ _ _
    refine fk_cut ([(0, Value.slice p12 0 cap7), (1, Value.int IntKind.i64 z), (4, Value.slice p12 0 cap7), (6, Value.bool false), (16, Value.bool true)] : Fr) (by kernel_rfl) (fun a => WP _ _ _ _ a _) (fun lr16 => ?_)
    refine gi_rt (by kernel_rfl) ?_
    repeat (first | simp only [Exit.inBlock] | simp only [Exit.then])
    refine hi_out [] (Value.slice p12 0 cap7) [] (by kernel_rfl) (by intro q hq; cases hq) ?_
    exact ⟨Value.slice p12 0 cap7, [Sl 3 1 p12 0 cap7 (fl eI [])], rfl, ⟨p12, cap7, rfl, rfl⟩, h14⟩
  ·
    refine plain_batch (rest := []) [⟨1, [], some (Value.bool false)⟩] (l' := ([(16, Value.bool false), (15, Value.int IntKind.i64 z), (0, Value.slice none 0 0), (1, Value.int IntKind.i64 z), (4, Value.slice none 0 0), (6, Value.bool false)] : Fr) ++ lr3) (pts' := []) (eqs := [(Value.bool (decide (z > 0)), Value.bool false)]) (by kernel_rfl) ⟨(ov_f (by omega)), trivial⟩ (AllC_nil _) ?_
    refine PO.mk ?_
    change WP _ _ (CA Tryd.f41 [1, 1, 0, 1, 1]) _ _ _
    refine fk_cut ([(0, Value.slice none 0 0), (1, Value.int IntKind.i64 z), (4, Value.slice none 0 0), (6, Value.bool false), (16, Value.bool false)] : Fr) (by kernel_rfl) (fun a => WP _ _ _ _ a _) (fun lr17 => ?_)
    refine gi_cnd (x := (Operand.tmp 16)) (s := CA Tryd.f41 [1, 1, 0, 1, 1, 0]) (t := CA Tryd.f41 [1, 1, 0, 1, 1, 1]) false (by kernel_rfl) (by kernel_rfl) ?_
    change WP _ _ (CA Tryd.f41 [1, 1, 0, 1, 1, 1]) _ _ _
    refine gi_skp (by kernel_rfl) ?_
    change WP _ _ (CA Tryd.f41 [1, 1, 1]) _ _ _
    refine gi_seq (x := CA Tryd.f41 [1, 1, 1, 0]) (y := CA Tryd.f41 [1, 1, 1, 1]) (by kernel_rfl) ?_
    refine gi_pln (id := 6) (ops := RA Tryd.f41 [1, 1, 1, 0]) [0, 1] (by kernel_rfl) (by kernel_rfl) (by kernel_rfl) ?_
    refine plain_batch (rest := []) [⟨0, [], none⟩, ⟨1, [], none⟩] (l' := ([(4, Value.slice none 0 0), (26, Value.slice none 0 0), (0, Value.slice none 0 0), (1, Value.int IntKind.i64 z), (4, Value.slice none 0 0), (6, Value.bool false), (16, Value.bool false)] : Fr) ++ lr17) (pts' := []) (eqs := []) (by kernel_rfl) trivial (AllC_nil _) ?_
    refine PO.mk ?_
    change WP _ _ (CA Tryd.f41 [1, 1, 1, 1]) _ _ _
    refine fk_cut ([(0, Value.slice none 0 0), (1, Value.int IntKind.i64 z), (4, Value.slice none 0 0), (6, Value.bool false), (16, Value.bool false)] : Fr) (by kernel_rfl) (fun a => WP _ _ _ _ a _) (fun lr18 => ?_)
    refine gi_rt (by kernel_rfl) ?_
    repeat (first | simp only [Exit.inBlock] | simp only [Exit.then])
    have h19 : sat g w0 [Sl 3 1 none 0 0 (fl eI []), R] := sl_nil 3 1 h0
    refine hi_out [] (Value.slice none 0 0) [] (by kernel_rfl) (by intro q hq; cases hq) ?_
    exact ⟨Value.slice none 0 0, [Sl 3 1 none 0 0 (fl eI [])], rfl, ⟨none, 0, rfl, rfl⟩, h19⟩

set_option maxHeartbeats 4000000 in
theorem clone_nil (c : Nat) (X : Assn) : HT Tryd.prog 36 [Value.slice none 0 c] [X] (fun v K => ∃ p c, v = Value.slice p 0 c ∧ K = [Sl 3 1 p 0 c (fl eI []), X]) := by
  refine hi_in 8 ([(0, Value.slice none 0 c)] : Fr) Tryd.func36 (by kernel_rfl) Tryd.ntmps36 rfl rfl ?_
  intro g w0 R h0
  refine gi_seq (x := CA Tryd.f36 [0]) (y := CA Tryd.f36 [1]) (by kernel_rfl) ?_
  refine gi_pln (id := 0) (ops := RA Tryd.f36 [0]) [0] (by kernel_rfl) (by kernel_rfl) (by kernel_rfl) ?_
  refine plain_batch (rest := []) [⟨0, [], none⟩] (l' := ([(2, Value.slice none 0 0), (0, Value.slice none 0 c)] : Fr)) (pts' := []) (eqs := []) (by kernel_rfl) trivial (AllC_nil _) ?_
  refine PO.mk ?_
  change WP _ _ (CA Tryd.f36 [1]) _ _ _
  refine fk_cut ([(0, Value.slice none 0 c), (2, Value.slice none 0 0)] : Fr) (by kernel_rfl) (fun a => WP _ _ _ _ a _) (fun lr1 => ?_)
  refine gi_seq (x := CA Tryd.f36 [1, 0]) (y := CA Tryd.f36 [1, 1]) (by kernel_rfl) ?_
  refine gi_seq (x := CA Tryd.f36 [1, 0, 0]) (y := CA Tryd.f36 [1, 0, 1]) (by kernel_rfl) ?_
  refine gi_pln (id := 1) (ops := RA Tryd.f36 [1, 0, 0]) [0, 1] (by kernel_rfl) (by kernel_rfl) (by kernel_rfl) ?_
  refine plain_batch (rest := []) [⟨0, [], none⟩, ⟨1, [], none⟩] (l' := ([(4, Value.bool true), (3, Value.slice none 0 c), (0, Value.slice none 0 c), (2, Value.slice none 0 0)] : Fr) ++ lr1) (pts' := []) (eqs := []) (by kernel_rfl) trivial (AllC_nil _) ?_
  refine PO.mk ?_
  change WP _ _ (CA Tryd.f36 [1, 0, 1]) _ _ _
  refine fk_cut ([(0, Value.slice none 0 c), (2, Value.slice none 0 0), (4, Value.bool true)] : Fr) (by kernel_rfl) (fun a => WP _ _ _ _ a _) (fun lr2 => ?_)
  refine gi_cnd (x := (Operand.tmp 4)) (s := CA Tryd.f36 [1, 0, 1, 0]) (t := CA Tryd.f36 [1, 0, 1, 1]) true (by kernel_rfl) (by kernel_rfl) ?_
  change WP _ _ (CA Tryd.f36 [1, 0, 1, 0]) _ _ _
  refine gi_seq (x := CA Tryd.f36 [1, 0, 1, 0, 0]) (y := CA Tryd.f36 [1, 0, 1, 0, 1]) (by kernel_rfl) ?_
  refine gi_pln (id := 2) (ops := RA Tryd.f36 [1, 0, 1, 0, 0]) [0] (by kernel_rfl) (by kernel_rfl) (by kernel_rfl) ?_
  refine plain_batch (rest := []) [⟨0, [], none⟩] (l' := ([(2, Value.slice none 0 0), (0, Value.slice none 0 c), (2, Value.slice none 0 0), (4, Value.bool true)] : Fr) ++ lr2) (pts' := []) (eqs := []) (by kernel_rfl) trivial (AllC_nil _) ?_
  refine PO.mk ?_
  change WP _ _ (CA Tryd.f36 [1, 0, 1, 0, 1]) _ _ _
  refine fk_cut ([(0, Value.slice none 0 c), (2, Value.slice none 0 0), (4, Value.bool true)] : Fr) (by kernel_rfl) (fun a => WP _ _ _ _ a _) (fun lr3 => ?_)
  refine gi_rt (by kernel_rfl) ?_
  repeat (first | simp only [Exit.inBlock] | simp only [Exit.then])
  have h4 : sat g w0 [Sl 3 1 none 0 0 (fl eI []), X, R] := sl_nil 3 1 h0
  refine hi_out [] (Value.slice none 0 0) [] (by kernel_rfl) (by intro q hq; cases hq) ?_
  exact ⟨Value.slice none 0 0, [Sl 3 1 none 0 0 (fl eI []), X], rfl, ⟨none, 0, rfl, rfl⟩, h4⟩

theorem clone_none (n c : Nat) (L : List Int) (X : Assn) (hX : Gv X none n (fl eI L)) (hL : L.length = n) : HT Tryd.prog 36 [Value.slice none n c] [X] (fun v K => ∃ p c, v = Value.slice p n c ∧ K = [Sl 3 1 p n c (fl eI L), X]) := by
  have hn0 : n = 0 ∨ 0 < n := by omega
  rcases hn0 with hn0 | hn0
  · have hl0 : L = [] := List.eq_nil_of_length_eq_zero (by omega)
    subst hl0
    subst hn0
    exact clone_nil c X
  · intro g w F hs
    obtain ⟨b, off, h1⟩ := gv_ptr (j := 0) hs rfl hX hn0
    cases h1

set_option maxHeartbeats 4000000 in
theorem clone_some (a : Addr) (p : Option Addr) (hp : p = some a) (n c : Nat) (L : List Int) (X : Assn) (hX : Gv X p n (fl eI L)) (hL : L.length = n) (hn : n ≤ 1099511627776) : HT Tryd.prog 36 [Value.slice p n c] [X] (fun v K => ∃ p c, v = Value.slice p n c ∧ K = [Sl 3 1 p n c (fl eI L), X]) := by
  refine hi_in 8 ([(0, Value.slice p n c)] : Fr) Tryd.func36 (by kernel_rfl) Tryd.ntmps36 rfl rfl ?_
  intro g w0 R h0
  refine gi_seq (x := CA Tryd.f36 [0]) (y := CA Tryd.f36 [1]) (by kernel_rfl) ?_
  refine gi_pln (id := 0) (ops := RA Tryd.f36 [0]) [0] (by kernel_rfl) (by kernel_rfl) (by kernel_rfl) ?_
  refine plain_batch (rest := []) [⟨0, [], none⟩] (l' := ([(2, Value.slice none 0 0), (0, Value.slice p n c)] : Fr)) (pts' := []) (eqs := []) (by kernel_rfl) trivial (AllC_nil _) ?_
  refine PO.mk ?_
  change WP _ _ (CA Tryd.f36 [1]) _ _ _
  refine fk_cut ([(0, Value.slice p n c), (2, Value.slice none 0 0)] : Fr) (by kernel_rfl) (fun a => WP _ _ _ _ a _) (fun lr1 => ?_)
  refine gi_seq (x := CA Tryd.f36 [1, 0]) (y := CA Tryd.f36 [1, 1]) (by kernel_rfl) ?_
  refine gi_seq (x := CA Tryd.f36 [1, 0, 0]) (y := CA Tryd.f36 [1, 0, 1]) (by kernel_rfl) ?_
  refine gi_pln (id := 1) (ops := RA Tryd.f36 [1, 0, 0]) [0, 1] (by kernel_rfl) (by kernel_rfl) (by kernel_rfl) ?_
  refine plain_batch (rest := [1]) [⟨0, [], none⟩] (l' := ([(3, Value.slice p n c), (0, Value.slice p n c), (2, Value.slice none 0 0)] : Fr) ++ lr1) (pts' := []) (eqs := []) (by kernel_rfl) trivial (AllC_nil _) ?_
  refine plain_law (i := 1) 4 (Value.bool false) (by kernel_rfl) (law_sliceSome (o := opA (RA Tryd.f36 [1, 0, 0]) 1) (x := (Operand.tmp 3)) (y := (Operand.const (Value.slice none 0 0))) (m := n) (c := c) (by kernel_rfl) Tryd.underlying22 (by kernel_rfl) hp (by kernel_rfl) _) ?_
  refine PO.mk ?_
  change WP _ _ (CA Tryd.f36 [1, 0, 1]) _ _ _
  refine fk_cut ([(0, Value.slice p n c), (2, Value.slice none 0 0), (4, Value.bool false)] : Fr) (by kernel_rfl) (fun a => WP _ _ _ _ a _) (fun lr2 => ?_)
  refine gi_cnd (x := (Operand.tmp 4)) (s := CA Tryd.f36 [1, 0, 1, 0]) (t := CA Tryd.f36 [1, 0, 1, 1]) false (by kernel_rfl) (by kernel_rfl) ?_
  change WP _ _ (CA Tryd.f36 [1, 0, 1, 1]) _ _ _
  refine gi_skp (by kernel_rfl) ?_
  change WP _ _ (CA Tryd.f36 [1, 1]) _ _ _
  refine gi_seq (x := CA Tryd.f36 [1, 1, 0]) (y := CA Tryd.f36 [1, 1, 1]) (by kernel_rfl) ?_
  refine gi_pln (id := 3) (ops := RA Tryd.f36 [1, 1, 0]) [0, 1, 2, 3] (by kernel_rfl) (by kernel_rfl) (by kernel_rfl) ?_
  refine plain_act (i := 0) (by kernel_rfl) ?_
  refine an_new (d := 5) (fun xb_ => Value.slice (some ⟨xb_, 0, none⟩) 0 0) (fun xb_ => Obj.cells [].toArray 3 (0, 0)) (fun xb_ => by kernel_rfl) (by kernel_rfl) rfl h0 ?_
  intro r3 w4 (h5 : sat g w4 [Cl r3 [] 3, X, R])
  refine plain_batch (rest := [2, 3]) [⟨1, [], none⟩] (l' := ([(6, Value.slice p n c), (5, Value.slice (some ⟨r3, 0, none⟩) 0 0), (0, Value.slice p n c), (2, Value.slice none 0 0), (4, Value.bool false)] : Fr) ++ lr2) (pts' := []) (eqs := []) (by kernel_rfl) trivial (AllC_nil _) ?_
  have h6 : sat g w4 [Sl 3 1 (some ⟨r3, 0, none⟩) 0 0 (fl eI []), X, R] := sl_of_cl h5 rfl (by omega)
  refine plain_act (i := 2) (by kernel_rfl) ?_
  refine an_append_gv (d := 7) (sz := 1) (s := (Operand.tmp 5)) (x := (Operand.tmp 6)) (z := Value.int IntKind.i64 0) (p := (some ⟨r3, 0, none⟩)) (p2 := p) (m := 0) (c := 0) (k := n) (c2 := c) (by_ := 8) (by kernel_rfl) (by kernel_rfl) rfl Tryd.underlying22 (by kernel_rfl) rfl (by decide) (by kernel_rfl) (by kernel_rfl) h6 1 rfl (fl eI L) hX (by rw [fl_len eI_ok, hL]) (fl_one eI_ok _) (by omega) (by omega) n (by omega) ?_
  intro p7 cap8 w9 (h10 : sat g w9 [Sl 3 1 p7 n cap8 ((fl eI []) ++ (fl eI L)), X, R])
  have h11 : sat g w9 [Sl 3 1 p7 n cap8 (fl eI L), X, R] := sat_imp h10 (fun _ hh => by exact hh)
  obtain ⟨hn12, hn13⟩ := sl_le h11
  refine plain_batch (rest := []) [⟨3, [], none⟩] (l' := ([(2, Value.slice p7 n cap8), (7, Value.slice p7 n cap8), (6, Value.slice p n c), (5, Value.slice (some ⟨r3, 0, none⟩) 0 0), (0, Value.slice p n c), (2, Value.slice none 0 0), (4, Value.bool false)] : Fr) ++ lr2) (pts' := []) (eqs := []) (by kernel_rfl) trivial (AllC_nil _) ?_
  refine PO.mk ?_
  change WP _ _ (CA Tryd.f36 [1, 1, 1]) _ _ _
  refine fk_cut ([(0, Value.slice p n c), (2, Value.slice p7 n cap8), (4, Value.bool false)] : Fr) (by kernel_rfl) (fun a => WP _ _ _ _ a _) (fun lr14 => ?_)
  refine gi_rt (by kernel_rfl) ?_
  repeat (first | simp only [Exit.inBlock] | simp only [Exit.then])
  refine hi_out [] (Value.slice p7 n cap8) [] (by kernel_rfl) (by intro q hq; cases hq) ?_
  exact ⟨Value.slice p7 n cap8, [Sl 3 1 p7 n cap8 (fl eI L), X], rfl, ⟨p7, cap8, rfl, rfl⟩, h11⟩

theorem clone_ht (p : Option Addr) (n c : Nat) (L : List Int) (X : Assn) (hX : Gv X p n (fl eI L)) (hL : L.length = n) (hn : n ≤ 1099511627776) : HT Tryd.prog 36 [Value.slice p n c] [X] (fun v K => ∃ p c, v = Value.slice p n c ∧ K = [Sl 3 1 p n c (fl eI L), X]) := by
  cases p with
  | none => exact clone_none n c L X hX hL
  | some a => exact clone_some a _ rfl n c L X hX hL hn

set_option maxHeartbeats 4000000 in
theorem concat_ht (r : Nat) (p q : Option Addr) (n m c d : Nat) (L M : List Int) (X Y : Assn) (hX : Gv X p n (fl eI L)) (hY : Gv Y q m (fl eI M)) (hlL : L.length = n) (hlM : M.length = m) (hb : n + m ≤ 1099511627776) : HT Tryd.prog 35 [Value.slice (some ⟨r, 0, none⟩) 2 2] [Cl r [Value.slice p n c, Value.slice q m d] 22, X, Y] (fun v K => ∃ p2 c2, v = Value.slice p2 (n + m) c2 ∧ K = [Sl 3 1 p2 (n + m) c2 (fl eI (L ++ M)), Cl r [Value.slice p n c, Value.slice q m d] 22, X, Y]) := by
  refine hi_in 36 ([(0, Value.slice (some ⟨r, 0, none⟩) 2 2)] : Fr) Tryd.func35 (by kernel_rfl) Tryd.ntmps35 rfl rfl ?_
  intro g w0 R h0
  refine gi_seq (x := CA Tryd.f35 [0]) (y := CA Tryd.f35 [1]) (by kernel_rfl) ?_
  refine gi_pln (id := 0) (ops := RA Tryd.f35 [0]) [0] (by kernel_rfl) (by kernel_rfl) (by kernel_rfl) ?_
  refine plain_batch (rest := []) [⟨0, [], none⟩] (l' := ([(2, Value.slice none 0 0), (0, Value.slice (some ⟨r, 0, none⟩) 2 2)] : Fr)) (pts' := []) (eqs := []) (by kernel_rfl) trivial (AllC_nil _) ?_
  refine PO.mk ?_
  change WP _ _ (CA Tryd.f35 [1]) _ _ _
  refine fk_cut ([(0, Value.slice (some ⟨r, 0, none⟩) 2 2), (2, Value.slice none 0 0)] : Fr) (by kernel_rfl) (fun a => WP _ _ _ _ a _) (fun lr1 => ?_)
  refine gi_seq (x := CA Tryd.f35 [1, 0]) (y := CA Tryd.f35 [1, 1]) (by kernel_rfl) ?_
  refine gi_pln (id := 1) (ops := RA Tryd.f35 [1, 0]) [0] (by kernel_rfl) (by kernel_rfl) (by kernel_rfl) ?_
  refine plain_batch (rest := []) [⟨0, [], none⟩] (l' := ([(3, Value.int IntKind.i64 0), (0, Value.slice (some ⟨r, 0, none⟩) 2 2), (2, Value.slice none 0 0)] : Fr) ++ lr1) (pts' := []) (eqs := []) (by kernel_rfl) trivial (AllC_nil _) ?_
  refine PO.mk ?_
  change WP _ _ (CA Tryd.f35 [1, 1]) _ _ _
  refine fk_cut ([(0, Value.slice (some ⟨r, 0, none⟩) 2 2), (2, Value.slice none 0 0), (3, Value.int IntKind.i64 0)] : Fr) (by kernel_rfl) (fun a => WP _ _ _ _ a _) (fun lr2 => ?_)
  refine gi_seq (x := CA Tryd.f35 [1, 1, 0]) (y := CA Tryd.f35 [1, 1, 1]) (by kernel_rfl) ?_
  refine gi_seq (x := CA Tryd.f35 [1, 1, 0, 0]) (y := CA Tryd.f35 [1, 1, 0, 1]) (by kernel_rfl) ?_
  refine gi_pln (id := 2) (ops := RA Tryd.f35 [1, 1, 0, 0]) [0, 1, 2] (by kernel_rfl) (by kernel_rfl) (by kernel_rfl) ?_
  refine plain_batch (rest := []) [⟨0, [], none⟩, ⟨1, [], some (Value.int IntKind.i64 2)⟩, ⟨2, [], none⟩] (l' := ([(11, Value.int IntKind.i64 0), (10, Value.int IntKind.i64 2), (9, Value.slice (some ⟨r, 0, none⟩) 2 2), (0, Value.slice (some ⟨r, 0, none⟩) 2 2), (2, Value.slice none 0 0), (3, Value.int IntKind.i64 0)] : Fr) ++ lr2) (pts' := []) (eqs := [(Value.int IntKind.i64 ((2 : Nat) : Int), Value.int IntKind.i64 2)]) (by kernel_rfl) ⟨(ov_int (by omega)), trivial⟩ (AllC_nil _) ?_
  refine PO.mk ?_
  change WP _ _ (CA Tryd.f35 [1, 1, 0, 1]) _ _ _
  refine fk_cut ([(0, Value.slice (some ⟨r, 0, none⟩) 2 2), (2, Value.slice none 0 0), (3, Value.int IntKind.i64 0), (9, Value.slice (some ⟨r, 0, none⟩) 2 2), (10, Value.int IntKind.i64 2), (11, Value.int IntKind.i64 0)] : Fr) (by kernel_rfl) (fun a => WP _ _ _ _ a _) (fun lr3 => ?_)
  refine gi_blk (id := 0) (x := CA Tryd.f35 [1, 1, 0, 1, 0]) (by kernel_rfl) ?_
  refine gi_unr (x := CA Tryd.f35 [1, 1, 0, 1, 0, 0]) 3 (by kernel_rfl) ?_
  change WP _ _ (CA Tryd.f35 [1, 1, 0, 1, 0, 0]) _ _ _
  refine gi_seq (x := CA Tryd.f35 [1, 1, 0, 1, 0, 0, 0]) (y := CA Tryd.f35 [1, 1, 0, 1, 0, 0, 1]) (by kernel_rfl) ?_
  refine gi_pln (id := 3) (ops := RA Tryd.f35 [1, 1, 0, 1, 0, 0, 0]) [0] (by kernel_rfl) (by kernel_rfl) (by kernel_rfl) ?_
  refine plain_batch (rest := []) [⟨0, [], none⟩] (l' := ([(12, Value.bool true), (0, Value.slice (some ⟨r, 0, none⟩) 2 2), (2, Value.slice none 0 0), (3, Value.int IntKind.i64 0), (9, Value.slice (some ⟨r, 0, none⟩) 2 2), (10, Value.int IntKind.i64 2), (11, Value.int IntKind.i64 0)] : Fr) ++ lr3) (pts' := []) (eqs := []) (by kernel_rfl) trivial (AllC_nil _) ?_
  refine PO.mk ?_
  change WP _ _ (CA Tryd.f35 [1, 1, 0, 1, 0, 0, 1]) _ _ _
  refine fk_cut ([(0, Value.slice (some ⟨r, 0, none⟩) 2 2), (2, Value.slice none 0 0), (3, Value.int IntKind.i64 0), (9, Value.slice (some ⟨r, 0, none⟩) 2 2), (10, Value.int IntKind.i64 2), (11, Value.int IntKind.i64 0), (12, Value.bool true)] : Fr) (by kernel_rfl) (fun a => WP _ _ _ _ a _) (fun lr4 => ?_)
  refine gi_seq (x := CA Tryd.f35 [1, 1, 0, 1, 0, 0, 1, 0]) (y := CA Tryd.f35 [1, 1, 0, 1, 0, 0, 1, 1]) (by kernel_rfl) ?_
  refine gi_cnd (x := (Operand.tmp 12)) (s := CA Tryd.f35 [1, 1, 0, 1, 0, 0, 1, 0, 0]) (t := CA Tryd.f35 [1, 1, 0, 1, 0, 0, 1, 0, 1]) true (by kernel_rfl) (by kernel_rfl) ?_
  change WP _ _ (CA Tryd.f35 [1, 1, 0, 1, 0, 0, 1, 0, 0]) _ _ _
  refine gi_skp (by kernel_rfl) ?_
  change WP _ _ (CA Tryd.f35 [1, 1, 0, 1, 0, 0, 1, 1]) _ _ _
  refine gi_seq (x := CA Tryd.f35 [1, 1, 0, 1, 0, 0, 1, 1, 0]) (y := CA Tryd.f35 [1, 1, 0, 1, 0, 0, 1, 1, 1]) (by kernel_rfl) ?_
  refine gi_blk (id := 1) (x := CA Tryd.f35 [1, 1, 0, 1, 0, 0, 1, 1, 0, 0]) (by kernel_rfl) ?_
  refine gi_seq (x := CA Tryd.f35 [1, 1, 0, 1, 0, 0, 1, 1, 0, 0, 0]) (y := CA Tryd.f35 [1, 1, 0, 1, 0, 0, 1, 1, 0, 0, 1]) (by kernel_rfl) ?_
  refine gi_pln (id := 4) (ops := RA Tryd.f35 [1, 1, 0, 1, 0, 0, 1, 1, 0, 0, 0]) [0, 1, 2] (by kernel_rfl) (by kernel_rfl) (by kernel_rfl) ?_
  refine plain_law (i := 0) 13 (Value.pointer (some ⟨r, 0, none⟩)) (by kernel_rfl) (law_indexSl (o := opA (RA Tryd.f35 [1, 1, 0, 1, 0, 0, 1, 1, 0, 0, 0]) 0) (x := (Operand.tmp 9)) (i := (Operand.tmp 11)) (b := r) (off := 0) (z := 0) (len := 2) (cap := 2) (by kernel_rfl) Tryd.underlying74 1 (by kernel_rfl) 0 (by kernel_rfl) (by kernel_rfl) (by omega) (by omega) 0 (by omega) _) ?_
  refine plain_batch (rest := []) [⟨1, [Value.slice p n c], none⟩, ⟨2, [], none⟩] (l' := ([(5, Value.slice p n c), (14, Value.slice p n c), (13, Value.pointer (some ⟨r, 0, none⟩)), (0, Value.slice (some ⟨r, 0, none⟩) 2 2), (2, Value.slice none 0 0), (3, Value.int IntKind.i64 0), (9, Value.slice (some ⟨r, 0, none⟩) 2 2), (10, Value.int IntKind.i64 2), (11, Value.int IntKind.i64 0), (12, Value.bool true)] : Fr) ++ lr4) (pts' := [(1, ⟨r, 0, none⟩, Value.slice p n c)]) (eqs := []) (by kernel_rfl) trivial (AllC_cons (sat_cell h0 0 rfl rfl) (AllC_nil _)) ?_
  refine PO.mk ?_
  change WP _ _ (CA Tryd.f35 [1, 1, 0, 1, 0, 0, 1, 1, 0, 0, 1]) _ _ _
  refine fk_cut ([(0, Value.slice (some ⟨r, 0, none⟩) 2 2), (2, Value.slice none 0 0), (3, Value.int IntKind.i64 0), (5, Value.slice p n c), (9, Value.slice (some ⟨r, 0, none⟩) 2 2), (10, Value.int IntKind.i64 2), (11, Value.int IntKind.i64 0), (12, Value.bool true)] : Fr) (by kernel_rfl) (fun a => WP _ _ _ _ a _) (fun lr5 => ?_)
  refine gi_seq (x := CA Tryd.f35 [1, 1, 0, 1, 0, 0, 1, 1, 0, 0, 1, 0]) (y := CA Tryd.f35 [1, 1, 0, 1, 0, 0, 1, 1, 0, 0, 1, 1]) (by kernel_rfl) ?_
  refine gi_pln (id := 5) (ops := RA Tryd.f35 [1, 1, 0, 1, 0, 0, 1, 1, 0, 0, 1, 0]) [0, 1, 2, 3, 4] (by kernel_rfl) (by kernel_rfl) (by kernel_rfl) ?_
  refine plain_batch (rest := []) [⟨0, [], none⟩, ⟨1, [], none⟩, ⟨2, [], none⟩, ⟨3, [], some (Value.int IntKind.i64 (((n : Nat) : Int)))⟩, ⟨4, [], none⟩] (l' := ([(3, Value.int IntKind.i64 (((n : Nat) : Int))), (18, Value.int IntKind.i64 (((n : Nat) : Int))), (17, Value.int IntKind.i64 (((n : Nat) : Int))), (16, Value.slice p n c), (15, Value.int IntKind.i64 0), (0, Value.slice (some ⟨r, 0, none⟩) 2 2), (2, Value.slice none 0 0), (3, Value.int IntKind.i64 0), (5, Value.slice p n c), (9, Value.slice (some ⟨r, 0, none⟩) 2 2), (10, Value.int IntKind.i64 2), (11, Value.int IntKind.i64 0), (12, Value.bool true)] : Fr) ++ lr5) (pts' := []) (eqs := [(Value.int IntKind.i64 (IntKind.wrap IntKind.i64 (0 + (((n : Nat) : Int)))), Value.int IntKind.i64 (((n : Nat) : Int)))]) (by kernel_rfl) ⟨(ov_i64 (by omega) (by omega) (by omega)), trivial⟩ (AllC_nil _) ?_
  refine PO.mk ?_
  change WP _ _ (CA Tryd.f35 [1, 1, 0, 1, 0, 0, 1, 1, 0, 0, 1, 1]) _ _ _
  refine fk_cut ([(0, Value.slice (some ⟨r, 0, none⟩) 2 2), (2, Value.slice none 0 0), (3, Value.int IntKind.i64 (((n : Nat) : Int))), (5, Value.slice p n c), (9, Value.slice (some ⟨r, 0, none⟩) 2 2), (10, Value.int IntKind.i64 2), (11, Value.int IntKind.i64 0), (12, Value.bool true)] : Fr) (by kernel_rfl) (fun a => WP _ _ _ _ a _) (fun lr6 => ?_)
  refine gi_seq (x := CA Tryd.f35 [1, 1, 0, 1, 0, 0, 1, 1, 0, 0, 1, 1, 0]) (y := CA Tryd.f35 [1, 1, 0, 1, 0, 0, 1, 1, 0, 0, 1, 1, 1]) (by kernel_rfl) ?_
  refine gi_pln (id := 6) (ops := RA Tryd.f35 [1, 1, 0, 1, 0, 0, 1, 1, 0, 0, 1, 1, 0]) [0, 1] (by kernel_rfl) (by kernel_rfl) (by kernel_rfl) ?_
  refine plain_batch (rest := []) [⟨0, [], none⟩, ⟨1, [], some (Value.bool false)⟩] (l' := ([(20, Value.bool false), (19, Value.int IntKind.i64 (((n : Nat) : Int))), (0, Value.slice (some ⟨r, 0, none⟩) 2 2), (2, Value.slice none 0 0), (3, Value.int IntKind.i64 (((n : Nat) : Int))), (5, Value.slice p n c), (9, Value.slice (some ⟨r, 0, none⟩) 2 2), (10, Value.int IntKind.i64 2), (11, Value.int IntKind.i64 0), (12, Value.bool true)] : Fr) ++ lr6) (pts' := []) (eqs := [(Value.bool (decide (((n : Nat) : Int) < 0)), Value.bool false)]) (by kernel_rfl) ⟨(ov_f (by omega)), trivial⟩ (AllC_nil _) ?_
  refine PO.mk ?_
  change WP _ _ (CA Tryd.f35 [1, 1, 0, 1, 0, 0, 1, 1, 0, 0, 1, 1, 1]) _ _ _
  refine fk_cut ([(0, Value.slice (some ⟨r, 0, none⟩) 2 2), (2, Value.slice none 0 0), (3, Value.int IntKind.i64 (((n : Nat) : Int))), (5, Value.slice p n c), (9, Value.slice (some ⟨r, 0, none⟩) 2 2), (10, Value.int IntKind.i64 2), (11, Value.int IntKind.i64 0), (12, Value.bool true), (20, Value.bool false)] : Fr) (by kernel_rfl) (fun a => WP _ _ _ _ a _) (fun lr7 => ?_)
  refine gi_cnd (x := (Operand.tmp 20)) (s := CA Tryd.f35 [1, 1, 0, 1, 0, 0, 1, 1, 0, 0, 1, 1, 1, 0]) (t := CA Tryd.f35 [1, 1, 0, 1, 0, 0, 1, 1, 0, 0, 1, 1, 1, 1]) false (by kernel_rfl) (by kernel_rfl) ?_
  change WP _ _ (CA Tryd.f35 [1, 1, 0, 1, 0, 0, 1, 1, 0, 0, 1, 1, 1, 1]) _ _ _
  refine gi_skp (by kernel_rfl) ?_
  change WP _ _ (CA Tryd.f35 [1, 1, 0, 1, 0, 0, 1, 1, 1]) _ _ _
  refine gi_pln (id := 8) (ops := RA Tryd.f35 [1, 1, 0, 1, 0, 0, 1, 1, 1]) [0, 1] (by kernel_rfl) (by kernel_rfl) (by kernel_rfl) ?_
  refine plain_batch (rest := []) [⟨0, [], none⟩, ⟨1, [], none⟩] (l' := ([(11, Value.int IntKind.i64 1), (22, Value.int IntKind.i64 1), (0, Value.slice (some ⟨r, 0, none⟩) 2 2), (2, Value.slice none 0 0), (3, Value.int IntKind.i64 (((n : Nat) : Int))), (5, Value.slice p n c), (9, Value.slice (some ⟨r, 0, none⟩) 2 2), (10, Value.int IntKind.i64 2), (11, Value.int IntKind.i64 0), (12, Value.bool true), (20, Value.bool false)] : Fr) ++ lr7) (pts' := []) (eqs := []) (by kernel_rfl) trivial (AllC_nil _) ?_
  refine PO.mk ?_
  change WP _ _ (CA Tryd.f35 [1, 1, 0, 1, 0, 0]) _ _ _
  refine fk_cut ([(0, Value.slice (some ⟨r, 0, none⟩) 2 2), (2, Value.slice none 0 0), (3, Value.int IntKind.i64 (((n : Nat) : Int))), (5, Value.slice p n c), (9, Value.slice (some ⟨r, 0, none⟩) 2 2), (10, Value.int IntKind.i64 2), (11, Value.int IntKind.i64 1), (12, Value.bool true), (20, Value.bool false)] : Fr) (by kernel_rfl) (fun a => WP _ _ _ _ a _) (fun lr8 => ?_)
  refine gi_seq (x := CA Tryd.f35 [1, 1, 0, 1, 0, 0, 0]) (y := CA Tryd.f35 [1, 1, 0, 1, 0, 0, 1]) (by kernel_rfl) ?_
  refine gi_pln (id := 3) (ops := RA Tryd.f35 [1, 1, 0, 1, 0, 0, 0]) [0] (by kernel_rfl) (by kernel_rfl) (by kernel_rfl) ?_
  refine plain_batch (rest := []) [⟨0, [], none⟩] (l' := ([(12, Value.bool true), (0, Value.slice (some ⟨r, 0, none⟩) 2 2), (2, Value.slice none 0 0), (3, Value.int IntKind.i64 (((n : Nat) : Int))), (5, Value.slice p n c), (9, Value.slice (some ⟨r, 0, none⟩) 2 2), (10, Value.int IntKind.i64 2), (11, Value.int IntKind.i64 1), (12, Value.bool true), (20, Value.bool false)] : Fr) ++ lr8) (pts' := []) (eqs := []) (by kernel_rfl) trivial (AllC_nil _) ?_
  refine PO.mk ?_
  change WP _ _ (CA Tryd.f35 [1, 1, 0, 1, 0, 0, 1]) _ _ _
  refine fk_cut ([(0, Value.slice (some ⟨r, 0, none⟩) 2 2), (2, Value.slice none 0 0), (3, Value.int IntKind.i64 (((n : Nat) : Int))), (5, Value.slice p n c), (9, Value.slice (some ⟨r, 0, none⟩) 2 2), (10, Value.int IntKind.i64 2), (11, Value.int IntKind.i64 1), (12, Value.bool true), (20, Value.bool false)] : Fr) (by kernel_rfl) (fun a => WP _ _ _ _ a _) (fun lr9 => ?_)
  refine gi_seq (x := CA Tryd.f35 [1, 1, 0, 1, 0, 0, 1, 0]) (y := CA Tryd.f35 [1, 1, 0, 1, 0, 0, 1, 1]) (by kernel_rfl) ?_
  refine gi_cnd (x := (Operand.tmp 12)) (s := CA Tryd.f35 [1, 1, 0, 1, 0, 0, 1, 0, 0]) (t := CA Tryd.f35 [1, 1, 0, 1, 0, 0, 1, 0, 1]) true (by kernel_rfl) (by kernel_rfl) ?_
  change WP _ _ (CA Tryd.f35 [1, 1, 0, 1, 0, 0, 1, 0, 0]) _ _ _
  refine gi_skp (by kernel_rfl) ?_
  change WP _ _ (CA Tryd.f35 [1, 1, 0, 1, 0, 0, 1, 1]) _ _ _
  refine gi_seq (x := CA Tryd.f35 [1, 1, 0, 1, 0, 0, 1, 1, 0]) (y := CA Tryd.f35 [1, 1, 0, 1, 0, 0, 1, 1, 1]) (by kernel_rfl) ?_
  refine gi_blk (id := 1) (x := CA Tryd.f35 [1, 1, 0, 1, 0, 0, 1, 1, 0, 0]) (by kernel_rfl) ?_
  refine gi_seq (x := CA Tryd.f35 [1, 1, 0, 1, 0, 0, 1, 1, 0, 0, 0]) (y := CA Tryd.f35 [1, 1, 0, 1, 0, 0, 1, 1, 0, 0, 1]) (by kernel_rfl) ?_
  refine gi_pln (id := 4) (ops := RA Tryd.f35 [1, 1, 0, 1, 0, 0, 1, 1, 0, 0, 0]) [0, 1, 2] (by kernel_rfl) (by kernel_rfl) (by kernel_rfl) ?_
  refine plain_law (i := 0) 13 (Value.pointer (some ⟨r, 1, none⟩)) (by kernel_rfl) (law_indexSl (o := opA (RA Tryd.f35 [1, 1, 0, 1, 0, 0, 1, 1, 0, 0, 0]) 0) (x := (Operand.tmp 9)) (i := (Operand.tmp 11)) (b := r) (off := 0) (z := 1) (len := 2) (cap := 2) (by kernel_rfl) Tryd.underlying74 1 (by kernel_rfl) 1 (by kernel_rfl) (by kernel_rfl) (by omega) (by omega) 1 (by omega) _) ?_
  refine plain_batch (rest := []) [⟨1, [Value.slice q m d], none⟩, ⟨2, [], none⟩] (l' := ([(5, Value.slice q m d), (14, Value.slice q m d), (13, Value.pointer (some ⟨r, 1, none⟩)), (0, Value.slice (some ⟨r, 0, none⟩) 2 2), (2, Value.slice none 0 0), (3, Value.int IntKind.i64 (((n : Nat) : Int))), (5, Value.slice p n c), (9, Value.slice (some ⟨r, 0, none⟩) 2 2), (10, Value.int IntKind.i64 2), (11, Value.int IntKind.i64 1), (12, Value.bool true), (20, Value.bool false)] : Fr) ++ lr9) (pts' := [(1, ⟨r, 1, none⟩, Value.slice q m d)]) (eqs := []) (by kernel_rfl) trivial (AllC_cons (sat_cell h0 0 rfl rfl) (AllC_nil _)) ?_
  refine PO.mk ?_
  change WP _ _ (CA Tryd.f35 [1, 1, 0, 1, 0, 0, 1, 1, 0, 0, 1]) _ _ _
  refine fk_cut ([(0, Value.slice (some ⟨r, 0, none⟩) 2 2), (2, Value.slice none 0 0), (3, Value.int IntKind.i64 (((n : Nat) : Int))), (5, Value.slice q m d), (9, Value.slice (some ⟨r, 0, none⟩) 2 2), (10, Value.int IntKind.i64 2), (11, Value.int IntKind.i64 1), (12, Value.bool true), (20, Value.bool false)] : Fr) (by kernel_rfl) (fun a => WP _ _ _ _ a _) (fun lr10 => ?_)
  refine gi_seq (x := CA Tryd.f35 [1, 1, 0, 1, 0, 0, 1, 1, 0, 0, 1, 0]) (y := CA Tryd.f35 [1, 1, 0, 1, 0, 0, 1, 1, 0, 0, 1, 1]) (by kernel_rfl) ?_
  refine gi_pln (id := 5) (ops := RA Tryd.f35 [1, 1, 0, 1, 0, 0, 1, 1, 0, 0, 1, 0]) [0, 1, 2, 3, 4] (by kernel_rfl) (by kernel_rfl) (by kernel_rfl) ?_
  refine plain_batch (rest := []) [⟨0, [], none⟩, ⟨1, [], none⟩, ⟨2, [], none⟩, ⟨3, [], some (Value.int IntKind.i64 (((n : Nat) : Int) + ((m : Nat) : Int)))⟩, ⟨4, [], none⟩] (l' := ([(3, Value.int IntKind.i64 (((n : Nat) : Int) + ((m : Nat) : Int))), (18, Value.int IntKind.i64 (((n : Nat) : Int) + ((m : Nat) : Int))), (17, Value.int IntKind.i64 (((m : Nat) : Int))), (16, Value.slice q m d), (15, Value.int IntKind.i64 (((n : Nat) : Int))), (0, Value.slice (some ⟨r, 0, none⟩) 2 2), (2, Value.slice none 0 0), (3, Value.int IntKind.i64 (((n : Nat) : Int))), (5, Value.slice q m d), (9, Value.slice (some ⟨r, 0, none⟩) 2 2), (10, Value.int IntKind.i64 2), (11, Value.int IntKind.i64 1), (12, Value.bool true), (20, Value.bool false)] : Fr) ++ lr10) (pts' := []) (eqs := [(Value.int IntKind.i64 (IntKind.wrap IntKind.i64 ((((n : Nat) : Int)) + (((m : Nat) : Int)))), Value.int IntKind.i64 (((n : Nat) : Int) + ((m : Nat) : Int)))]) (by kernel_rfl) ⟨(ov_i64 (by omega) (by omega) (by omega)), trivial⟩ (AllC_nil _) ?_
  refine PO.mk ?_
  change WP _ _ (CA Tryd.f35 [1, 1, 0, 1, 0, 0, 1, 1, 0, 0, 1, 1]) _ _ _
  refine fk_cut ([(0, Value.slice (some ⟨r, 0, none⟩) 2 2), (2, Value.slice none 0 0), (3, Value.int IntKind.i64 (((n : Nat) : Int) + ((m : Nat) : Int))), (5, Value.slice q m d), (9, Value.slice (some ⟨r, 0, none⟩) 2 2), (10, Value.int IntKind.i64 2), (11, Value.int IntKind.i64 1), (12, Value.bool true), (20, Value.bool false)] : Fr) (by kernel_rfl) (fun a => WP _ _ _ _ a _) (fun lr11 => ?_)
  refine gi_seq (x := CA Tryd.f35 [1, 1, 0, 1, 0, 0, 1, 1, 0, 0, 1, 1, 0]) (y := CA Tryd.f35 [1, 1, 0, 1, 0, 0, 1, 1, 0, 0, 1, 1, 1]) (by kernel_rfl) ?_
  refine gi_pln (id := 6) (ops := RA Tryd.f35 [1, 1, 0, 1, 0, 0, 1, 1, 0, 0, 1, 1, 0]) [0, 1] (by kernel_rfl) (by kernel_rfl) (by kernel_rfl) ?_
  refine plain_batch (rest := []) [⟨0, [], none⟩, ⟨1, [], some (Value.bool false)⟩] (l' := ([(20, Value.bool false), (19, Value.int IntKind.i64 (((n : Nat) : Int) + ((m : Nat) : Int))), (0, Value.slice (some ⟨r, 0, none⟩) 2 2), (2, Value.slice none 0 0), (3, Value.int IntKind.i64 (((n : Nat) : Int) + ((m : Nat) : Int))), (5, Value.slice q m d), (9, Value.slice (some ⟨r, 0, none⟩) 2 2), (10, Value.int IntKind.i64 2), (11, Value.int IntKind.i64 1), (12, Value.bool true), (20, Value.bool false)] : Fr) ++ lr11) (pts' := []) (eqs := [(Value.bool (decide (((n : Nat) : Int) + ((m : Nat) : Int) < 0)), Value.bool false)]) (by kernel_rfl) ⟨(ov_f (by omega)), trivial⟩ (AllC_nil _) ?_
  refine PO.mk ?_
  change WP _ _ (CA Tryd.f35 [1, 1, 0, 1, 0, 0, 1, 1, 0, 0, 1, 1, 1]) _ _ _
  refine fk_cut ([(0, Value.slice (some ⟨r, 0, none⟩) 2 2), (2, Value.slice none 0 0), (3, Value.int IntKind.i64 (((n : Nat) : Int) + ((m : Nat) : Int))), (5, Value.slice q m d), (9, Value.slice (some ⟨r, 0, none⟩) 2 2), (10, Value.int IntKind.i64 2), (11, Value.int IntKind.i64 1), (12, Value.bool true), (20, Value.bool false)] : Fr) (by kernel_rfl) (fun a => WP _ _ _ _ a _) (fun lr12 => ?_)
  refine gi_cnd (x := (Operand.tmp 20)) (s := CA Tryd.f35 [1, 1, 0, 1, 0, 0, 1, 1, 0, 0, 1, 1, 1, 0]) (t := CA Tryd.f35 [1, 1, 0, 1, 0, 0, 1, 1, 0, 0, 1, 1, 1, 1]) false (by kernel_rfl) (by kernel_rfl) ?_
  change WP _ _ (CA Tryd.f35 [1, 1, 0, 1, 0, 0, 1, 1, 0, 0, 1, 1, 1, 1]) _ _ _
  refine gi_skp (by kernel_rfl) ?_
  change WP _ _ (CA Tryd.f35 [1, 1, 0, 1, 0, 0, 1, 1, 1]) _ _ _
  refine gi_pln (id := 8) (ops := RA Tryd.f35 [1, 1, 0, 1, 0, 0, 1, 1, 1]) [0, 1] (by kernel_rfl) (by kernel_rfl) (by kernel_rfl) ?_
  refine plain_batch (rest := []) [⟨0, [], none⟩, ⟨1, [], none⟩] (l' := ([(11, Value.int IntKind.i64 2), (22, Value.int IntKind.i64 2), (0, Value.slice (some ⟨r, 0, none⟩) 2 2), (2, Value.slice none 0 0), (3, Value.int IntKind.i64 (((n : Nat) : Int) + ((m : Nat) : Int))), (5, Value.slice q m d), (9, Value.slice (some ⟨r, 0, none⟩) 2 2), (10, Value.int IntKind.i64 2), (11, Value.int IntKind.i64 1), (12, Value.bool true), (20, Value.bool false)] : Fr) ++ lr12) (pts' := []) (eqs := []) (by kernel_rfl) trivial (AllC_nil _) ?_
  refine PO.mk ?_
  change WP _ _ (CA Tryd.f35 [1, 1, 0, 1, 0, 0]) _ _ _
  refine fk_cut ([(0, Value.slice (some ⟨r, 0, none⟩) 2 2), (2, Value.slice none 0 0), (3, Value.int IntKind.i64 (((n : Nat) : Int) + ((m : Nat) : Int))), (5, Value.slice q m d), (9, Value.slice (some ⟨r, 0, none⟩) 2 2), (10, Value.int IntKind.i64 2), (11, Value.int IntKind.i64 2), (12, Value.bool true), (20, Value.bool false)] : Fr) (by kernel_rfl) (fun a => WP _ _ _ _ a _) (fun lr13 => ?_)
  refine gi_seq (x := CA Tryd.f35 [1, 1, 0, 1, 0, 0, 0]) (y := CA Tryd.f35 [1, 1, 0, 1, 0, 0, 1]) (by kernel_rfl) ?_
  refine gi_pln (id := 3) (ops := RA Tryd.f35 [1, 1, 0, 1, 0, 0, 0]) [0] (by kernel_rfl) (by kernel_rfl) (by kernel_rfl) ?_
  refine plain_batch (rest := []) [⟨0, [], none⟩] (l' := ([(12, Value.bool false), (0, Value.slice (some ⟨r, 0, none⟩) 2 2), (2, Value.slice none 0 0), (3, Value.int IntKind.i64 (((n : Nat) : Int) + ((m : Nat) : Int))), (5, Value.slice q m d), (9, Value.slice (some ⟨r, 0, none⟩) 2 2), (10, Value.int IntKind.i64 2), (11, Value.int IntKind.i64 2), (12, Value.bool true), (20, Value.bool false)] : Fr) ++ lr13) (pts' := []) (eqs := []) (by kernel_rfl) trivial (AllC_nil _) ?_
  refine PO.mk ?_
  change WP _ _ (CA Tryd.f35 [1, 1, 0, 1, 0, 0, 1]) _ _ _
  refine fk_cut ([(0, Value.slice (some ⟨r, 0, none⟩) 2 2), (2, Value.slice none 0 0), (3, Value.int IntKind.i64 (((n : Nat) : Int) + ((m : Nat) : Int))), (5, Value.slice q m d), (9, Value.slice (some ⟨r, 0, none⟩) 2 2), (10, Value.int IntKind.i64 2), (11, Value.int IntKind.i64 2), (12, Value.bool false), (20, Value.bool false)] : Fr) (by kernel_rfl) (fun a => WP _ _ _ _ a _) (fun lr14 => ?_)
  refine gi_seq (x := CA Tryd.f35 [1, 1, 0, 1, 0, 0, 1, 0]) (y := CA Tryd.f35 [1, 1, 0, 1, 0, 0, 1, 1]) (by kernel_rfl) ?_
  refine gi_cnd (x := (Operand.tmp 12)) (s := CA Tryd.f35 [1, 1, 0, 1, 0, 0, 1, 0, 0]) (t := CA Tryd.f35 [1, 1, 0, 1, 0, 0, 1, 0, 1]) false (by kernel_rfl) (by kernel_rfl) ?_
  change WP _ _ (CA Tryd.f35 [1, 1, 0, 1, 0, 0, 1, 0, 1]) _ _ _
  refine gi_ext (id := 0) (by kernel_rfl) ?_
  change WP _ _ (CA Tryd.f35 [1, 1, 1]) _ _ _
  refine gi_seq (x := CA Tryd.f35 [1, 1, 1, 0]) (y := CA Tryd.f35 [1, 1, 1, 1]) (by kernel_rfl) ?_
  refine gi_pln (id := 9) (ops := RA Tryd.f35 [1, 1, 1, 0]) [0, 1, 2] (by kernel_rfl) (by kernel_rfl) (by kernel_rfl) ?_
  refine plain_batch (rest := [1, 2]) [⟨0, [], none⟩] (l' := ([(23, Value.int IntKind.i64 (((n : Nat) : Int) + ((m : Nat) : Int))), (0, Value.slice (some ⟨r, 0, none⟩) 2 2), (2, Value.slice none 0 0), (3, Value.int IntKind.i64 (((n : Nat) : Int) + ((m : Nat) : Int))), (5, Value.slice q m d), (9, Value.slice (some ⟨r, 0, none⟩) 2 2), (10, Value.int IntKind.i64 2), (11, Value.int IntKind.i64 2), (12, Value.bool false), (20, Value.bool false)] : Fr) ++ lr14) (pts' := []) (eqs := []) (by kernel_rfl) trivial (AllC_nil _) ?_
  refine plain_act (i := 1) (by kernel_rfl) ?_
  refine an_call (d := some 24) (f := 41) (args := [Value.slice none 0 0, Value.int IntKind.i64 (((n : Nat) : Int) + ((m : Nat) : Int))]) (by kernel_rfl) Tryd.call41 (grow_ht (n + m) (((n : Nat) : Int) + ((m : Nat) : Int)) (by omega) (by omega)) (F := [Cl r [Value.slice p n c, Value.slice q m d] 22, X, Y, R]) h0 ?_
  rintro v K w17 (⟨p15, cap16, rfl, rfl⟩) h18
  refine ⟨_, rfl, ?_⟩
  have h19 : sat g w17 [Sl 3 1 p15 0 cap16 (fl eI []), Cl r [Value.slice p n c, Value.slice q m d] 22, X, Y, R] := h18
  obtain ⟨hn20, hn21⟩ := sl_le h19
  refine plain_batch (rest := []) [⟨2, [], none⟩] (l' := ([(6, Value.slice p15 0 cap16), (24, Value.slice p15 0 cap16), (23, Value.int IntKind.i64 (((n : Nat) : Int) + ((m : Nat) : Int))), (0, Value.slice (some ⟨r, 0, none⟩) 2 2), (2, Value.slice none 0 0), (3, Value.int IntKind.i64 (((n : Nat) : Int) + ((m : Nat) : Int))), (5, Value.slice q m d), (9, Value.slice (some ⟨r, 0, none⟩) 2 2), (10, Value.int IntKind.i64 2), (11, Value.int IntKind.i64 2), (12, Value.bool false), (20, Value.bool false)] : Fr) ++ lr14) (pts' := []) (eqs := []) (by kernel_rfl) trivial (AllC_nil _) ?_
  refine PO.mk ?_
  change WP _ _ (CA Tryd.f35 [1, 1, 1, 1]) _ _ _
  refine fk_cut ([(0, Value.slice (some ⟨r, 0, none⟩) 2 2), (2, Value.slice none 0 0), (3, Value.int IntKind.i64 (((n : Nat) : Int) + ((m : Nat) : Int))), (5, Value.slice q m d), (6, Value.slice p15 0 cap16), (9, Value.slice (some ⟨r, 0, none⟩) 2 2), (10, Value.int IntKind.i64 2), (11, Value.int IntKind.i64 2), (12, Value.bool false), (20, Value.bool false)] : Fr) (by kernel_rfl) (fun a => WP _ _ _ _ a _) (fun lr22 => ?_)
  refine gi_seq (x := CA Tryd.f35 [1, 1, 1, 1, 0]) (y := CA Tryd.f35 [1, 1, 1, 1, 1]) (by kernel_rfl) ?_
  refine gi_seq (x := CA Tryd.f35 [1, 1, 1, 1, 0, 0]) (y := CA Tryd.f35 [1, 1, 1, 1, 0, 1]) (by kernel_rfl) ?_
  refine gi_pln (id := 10) (ops := RA Tryd.f35 [1, 1, 1, 1, 0, 0]) [0, 1, 2] (by kernel_rfl) (by kernel_rfl) (by kernel_rfl) ?_
  refine plain_batch (rest := []) [⟨0, [], none⟩, ⟨1, [], some (Value.int IntKind.i64 2)⟩, ⟨2, [], none⟩] (l' := ([(27, Value.int IntKind.i64 0), (26, Value.int IntKind.i64 2), (25, Value.slice (some ⟨r, 0, none⟩) 2 2), (0, Value.slice (some ⟨r, 0, none⟩) 2 2), (2, Value.slice none 0 0), (3, Value.int IntKind.i64 (((n : Nat) : Int) + ((m : Nat) : Int))), (5, Value.slice q m d), (6, Value.slice p15 0 cap16), (9, Value.slice (some ⟨r, 0, none⟩) 2 2), (10, Value.int IntKind.i64 2), (11, Value.int IntKind.i64 2), (12, Value.bool false), (20, Value.bool false)] : Fr) ++ lr22) (pts' := []) (eqs := [(Value.int IntKind.i64 ((2 : Nat) : Int), Value.int IntKind.i64 2)]) (by kernel_rfl) ⟨(ov_int (by omega)), trivial⟩ (AllC_nil _) ?_
  refine PO.mk ?_
  change WP _ _ (CA Tryd.f35 [1, 1, 1, 1, 0, 1]) _ _ _
  refine fk_cut ([(0, Value.slice (some ⟨r, 0, none⟩) 2 2), (2, Value.slice none 0 0), (3, Value.int IntKind.i64 (((n : Nat) : Int) + ((m : Nat) : Int))), (5, Value.slice q m d), (6, Value.slice p15 0 cap16), (9, Value.slice (some ⟨r, 0, none⟩) 2 2), (10, Value.int IntKind.i64 2), (11, Value.int IntKind.i64 2), (12, Value.bool false), (20, Value.bool false), (25, Value.slice (some ⟨r, 0, none⟩) 2 2), (26, Value.int IntKind.i64 2), (27, Value.int IntKind.i64 0)] : Fr) (by kernel_rfl) (fun a => WP _ _ _ _ a _) (fun lr23 => ?_)
  refine gi_blk (id := 2) (x := CA Tryd.f35 [1, 1, 1, 1, 0, 1, 0]) (by kernel_rfl) ?_
  refine gi_unr (x := CA Tryd.f35 [1, 1, 1, 1, 0, 1, 0, 0]) 3 (by kernel_rfl) ?_
  change WP _ _ (CA Tryd.f35 [1, 1, 1, 1, 0, 1, 0, 0]) _ _ _
  refine gi_seq (x := CA Tryd.f35 [1, 1, 1, 1, 0, 1, 0, 0, 0]) (y := CA Tryd.f35 [1, 1, 1, 1, 0, 1, 0, 0, 1]) (by kernel_rfl) ?_
  refine gi_pln (id := 11) (ops := RA Tryd.f35 [1, 1, 1, 1, 0, 1, 0, 0, 0]) [0] (by kernel_rfl) (by kernel_rfl) (by kernel_rfl) ?_
  refine plain_batch (rest := []) [⟨0, [], none⟩] (l' := ([(28, Value.bool true), (0, Value.slice (some ⟨r, 0, none⟩) 2 2), (2, Value.slice none 0 0), (3, Value.int IntKind.i64 (((n : Nat) : Int) + ((m : Nat) : Int))), (5, Value.slice q m d), (6, Value.slice p15 0 cap16), (9, Value.slice (some ⟨r, 0, none⟩) 2 2), (10, Value.int IntKind.i64 2), (11, Value.int IntKind.i64 2), (12, Value.bool false), (20, Value.bool false), (25, Value.slice (some ⟨r, 0, none⟩) 2 2), (26, Value.int IntKind.i64 2), (27, Value.int IntKind.i64 0)] : Fr) ++ lr23) (pts' := []) (eqs := []) (by kernel_rfl) trivial (AllC_nil _) ?_
  refine PO.mk ?_
  change WP _ _ (CA Tryd.f35 [1, 1, 1, 1, 0, 1, 0, 0, 1]) _ _ _
  refine fk_cut ([(0, Value.slice (some ⟨r, 0, none⟩) 2 2), (2, Value.slice none 0 0), (3, Value.int IntKind.i64 (((n : Nat) : Int) + ((m : Nat) : Int))), (5, Value.slice q m d), (6, Value.slice p15 0 cap16), (9, Value.slice (some ⟨r, 0, none⟩) 2 2), (10, Value.int IntKind.i64 2), (11, Value.int IntKind.i64 2), (12, Value.bool false), (20, Value.bool false), (25, Value.slice (some ⟨r, 0, none⟩) 2 2), (26, Value.int IntKind.i64 2), (27, Value.int IntKind.i64 0), (28, Value.bool true)] : Fr) (by kernel_rfl) (fun a => WP _ _ _ _ a _) (fun lr24 => ?_)
  refine gi_seq (x := CA Tryd.f35 [1, 1, 1, 1, 0, 1, 0, 0, 1, 0]) (y := CA Tryd.f35 [1, 1, 1, 1, 0, 1, 0, 0, 1, 1]) (by kernel_rfl) ?_
  refine gi_cnd (x := (Operand.tmp 28)) (s := CA Tryd.f35 [1, 1, 1, 1, 0, 1, 0, 0, 1, 0, 0]) (t := CA Tryd.f35 [1, 1, 1, 1, 0, 1, 0, 0, 1, 0, 1]) true (by kernel_rfl) (by kernel_rfl) ?_
  change WP _ _ (CA Tryd.f35 [1, 1, 1, 1, 0, 1, 0, 0, 1, 0, 0]) _ _ _
  refine gi_skp (by kernel_rfl) ?_
  change WP _ _ (CA Tryd.f35 [1, 1, 1, 1, 0, 1, 0, 0, 1, 1]) _ _ _
  refine gi_seq (x := CA Tryd.f35 [1, 1, 1, 1, 0, 1, 0, 0, 1, 1, 0]) (y := CA Tryd.f35 [1, 1, 1, 1, 0, 1, 0, 0, 1, 1, 1]) (by kernel_rfl) ?_
  refine gi_blk (id := 3) (x := CA Tryd.f35 [1, 1, 1, 1, 0, 1, 0, 0, 1, 1, 0, 0]) (by kernel_rfl) ?_
  refine gi_seq (x := CA Tryd.f35 [1, 1, 1, 1, 0, 1, 0, 0, 1, 1, 0, 0, 0]) (y := CA Tryd.f35 [1, 1, 1, 1, 0, 1, 0, 0, 1, 1, 0, 0, 1]) (by kernel_rfl) ?_
  refine gi_pln (id := 12) (ops := RA Tryd.f35 [1, 1, 1, 1, 0, 1, 0, 0, 1, 1, 0, 0, 0]) [0, 1, 2] (by kernel_rfl) (by kernel_rfl) (by kernel_rfl) ?_
  refine plain_law (i := 0) 29 (Value.pointer (some ⟨r, 0, none⟩)) (by kernel_rfl) (law_indexSl (o := opA (RA Tryd.f35 [1, 1, 1, 1, 0, 1, 0, 0, 1, 1, 0, 0, 0]) 0) (x := (Operand.tmp 25)) (i := (Operand.tmp 27)) (b := r) (off := 0) (z := 0) (len := 2) (cap := 2) (by kernel_rfl) Tryd.underlying74 1 (by kernel_rfl) 0 (by kernel_rfl) (by kernel_rfl) (by omega) (by omega) 0 (by omega) _) ?_
  refine plain_batch (rest := []) [⟨1, [Value.slice p n c], none⟩, ⟨2, [], none⟩] (l' := ([(8, Value.slice p n c), (30, Value.slice p n c), (29, Value.pointer (some ⟨r, 0, none⟩)), (0, Value.slice (some ⟨r, 0, none⟩) 2 2), (2, Value.slice none 0 0), (3, Value.int IntKind.i64 (((n : Nat) : Int) + ((m : Nat) : Int))), (5, Value.slice q m d), (6, Value.slice p15 0 cap16), (9, Value.slice (some ⟨r, 0, none⟩) 2 2), (10, Value.int IntKind.i64 2), (11, Value.int IntKind.i64 2), (12, Value.bool false), (20, Value.bool false), (25, Value.slice (some ⟨r, 0, none⟩) 2 2), (26, Value.int IntKind.i64 2), (27, Value.int IntKind.i64 0), (28, Value.bool true)] : Fr) ++ lr24) (pts' := [(1, ⟨r, 0, none⟩, Value.slice p n c)]) (eqs := []) (by kernel_rfl) trivial (AllC_cons (sat_cell h19 1 rfl rfl) (AllC_nil _)) ?_
  refine PO.mk ?_
  change WP _ _ (CA Tryd.f35 [1, 1, 1, 1, 0, 1, 0, 0, 1, 1, 0, 0, 1]) _ _ _
  refine fk_cut ([(0, Value.slice (some ⟨r, 0, none⟩) 2 2), (2, Value.slice none 0 0), (3, Value.int IntKind.i64 (((n : Nat) : Int) + ((m : Nat) : Int))), (5, Value.slice q m d), (6, Value.slice p15 0 cap16), (8, Value.slice p n c), (9, Value.slice (some ⟨r, 0, none⟩) 2 2), (10, Value.int IntKind.i64 2), (11, Value.int IntKind.i64 2), (12, Value.bool false), (20, Value.bool false), (25, Value.slice (some ⟨r, 0, none⟩) 2 2), (26, Value.int IntKind.i64 2), (27, Value.int IntKind.i64 0), (28, Value.bool true)] : Fr) (by kernel_rfl) (fun a => WP _ _ _ _ a _) (fun lr25 => ?_)
  refine gi_pln (id := 13) (ops := RA Tryd.f35 [1, 1, 1, 1, 0, 1, 0, 0, 1, 1, 0, 0, 1]) [0, 1, 2, 3] (by kernel_rfl) (by kernel_rfl) (by kernel_rfl) ?_
  refine plain_batch (rest := [2, 3]) [⟨0, [], none⟩, ⟨1, [], none⟩] (l' := ([(32, Value.slice p n c), (31, Value.slice p15 0 cap16), (0, Value.slice (some ⟨r, 0, none⟩) 2 2), (2, Value.slice none 0 0), (3, Value.int IntKind.i64 (((n : Nat) : Int) + ((m : Nat) : Int))), (5, Value.slice q m d), (6, Value.slice p15 0 cap16), (8, Value.slice p n c), (9, Value.slice (some ⟨r, 0, none⟩) 2 2), (10, Value.int IntKind.i64 2), (11, Value.int IntKind.i64 2), (12, Value.bool false), (20, Value.bool false), (25, Value.slice (some ⟨r, 0, none⟩) 2 2), (26, Value.int IntKind.i64 2), (27, Value.int IntKind.i64 0), (28, Value.bool true)] : Fr) ++ lr25) (pts' := []) (eqs := []) (by kernel_rfl) trivial (AllC_nil _) ?_
  refine plain_act (i := 2) (by kernel_rfl) ?_
  refine an_append_gv (d := 33) (sz := 1) (s := (Operand.tmp 31)) (x := (Operand.tmp 32)) (z := Value.int IntKind.i64 0) (p := p15) (p2 := p) (m := 0) (c := cap16) (k := n) (c2 := c) (by_ := 8) (by kernel_rfl) (by kernel_rfl) rfl Tryd.underlying22 (by kernel_rfl) rfl (by decide) (by kernel_rfl) (by kernel_rfl) h19 2 rfl (fl eI L) hX (by rw [fl_len eI_ok, hlL]) (fl_one eI_ok _) (by omega) (by omega) n (by omega) ?_
  intro p26 cap27 w28 (h29 : sat g w28 [Sl 3 1 p26 n cap27 ((fl eI []) ++ (fl eI L)), Cl r [Value.slice p n c, Value.slice q m d] 22, X, Y, R])
  have h30 : sat g w28 [Sl 3 1 p26 n cap27 (fl eI L), Cl r [Value.slice p n c, Value.slice q m d] 22, X, Y, R] := sat_imp h29 (fun _ hh => by exact hh)
  obtain ⟨hn31, hn32⟩ := sl_le h30
  refine plain_batch (rest := []) [⟨3, [], none⟩] (l' := ([(6, Value.slice p26 n cap27), (33, Value.slice p26 n cap27), (32, Value.slice p n c), (31, Value.slice p15 0 cap16), (0, Value.slice (some ⟨r, 0, none⟩) 2 2), (2, Value.slice none 0 0), (3, Value.int IntKind.i64 (((n : Nat) : Int) + ((m : Nat) : Int))), (5, Value.slice q m d), (6, Value.slice p15 0 cap16), (8, Value.slice p n c), (9, Value.slice (some ⟨r, 0, none⟩) 2 2), (10, Value.int IntKind.i64 2), (11, Value.int IntKind.i64 2), (12, Value.bool false), (20, Value.bool false), (25, Value.slice (some ⟨r, 0, none⟩) 2 2), (26, Value.int IntKind.i64 2), (27, Value.int IntKind.i64 0), (28, Value.bool true)] : Fr) ++ lr25) (pts' := []) (eqs := []) (by kernel_rfl) trivial (AllC_nil _) ?_
  refine PO.mk ?_
  change WP _ _ (CA Tryd.f35 [1, 1, 1, 1, 0, 1, 0, 0, 1, 1, 1]) _ _ _
  refine fk_cut ([(0, Value.slice (some ⟨r, 0, none⟩) 2 2), (2, Value.slice none 0 0), (3, Value.int IntKind.i64 (((n : Nat) : Int) + ((m : Nat) : Int))), (5, Value.slice q m d), (6, Value.slice p26 n cap27), (8, Value.slice p n c), (9, Value.slice (some ⟨r, 0, none⟩) 2 2), (10, Value.int IntKind.i64 2), (11, Value.int IntKind.i64 2), (12, Value.bool false), (20, Value.bool false), (25, Value.slice (some ⟨r, 0, none⟩) 2 2), (26, Value.int IntKind.i64 2), (27, Value.int IntKind.i64 0), (28, Value.bool true)] : Fr) (by kernel_rfl) (fun a => WP _ _ _ _ a _) (fun lr33 => ?_)
  refine gi_pln (id := 14) (ops := RA Tryd.f35 [1, 1, 1, 1, 0, 1, 0, 0, 1, 1, 1]) [0, 1] (by kernel_rfl) (by kernel_rfl) (by kernel_rfl) ?_
  refine plain_batch (rest := []) [⟨0, [], none⟩, ⟨1, [], none⟩] (l' := ([(27, Value.int IntKind.i64 1), (34, Value.int IntKind.i64 1), (0, Value.slice (some ⟨r, 0, none⟩) 2 2), (2, Value.slice none 0 0), (3, Value.int IntKind.i64 (((n : Nat) : Int) + ((m : Nat) : Int))), (5, Value.slice q m d), (6, Value.slice p26 n cap27), (8, Value.slice p n c), (9, Value.slice (some ⟨r, 0, none⟩) 2 2), (10, Value.int IntKind.i64 2), (11, Value.int IntKind.i64 2), (12, Value.bool false), (20, Value.bool false), (25, Value.slice (some ⟨r, 0, none⟩) 2 2), (26, Value.int IntKind.i64 2), (27, Value.int IntKind.i64 0), (28, Value.bool true)] : Fr) ++ lr33) (pts' := []) (eqs := []) (by kernel_rfl) trivial (AllC_nil _) ?_
  refine PO.mk ?_
  change WP _ _ (CA Tryd.f35 [1, 1, 1, 1, 0, 1, 0, 0]) _ _ _
  refine fk_cut ([(0, Value.slice (some ⟨r, 0, none⟩) 2 2), (2, Value.slice none 0 0), (3, Value.int IntKind.i64 (((n : Nat) : Int) + ((m : Nat) : Int))), (5, Value.slice q m d), (6, Value.slice p26 n cap27), (8, Value.slice p n c), (9, Value.slice (some ⟨r, 0, none⟩) 2 2), (10, Value.int IntKind.i64 2), (11, Value.int IntKind.i64 2), (12, Value.bool false), (20, Value.bool false), (25, Value.slice (some ⟨r, 0, none⟩) 2 2), (26, Value.int IntKind.i64 2), (27, Value.int IntKind.i64 1), (28, Value.bool true)] : Fr) (by kernel_rfl) (fun a => WP _ _ _ _ a _) (fun lr34 => ?_)
  refine gi_seq (x := CA Tryd.f35 [1, 1, 1, 1, 0, 1, 0, 0, 0]) (y := CA Tryd.f35 [1, 1, 1, 1, 0, 1, 0, 0, 1]) (by kernel_rfl) ?_
  refine gi_pln (id := 11) (ops := RA Tryd.f35 [1, 1, 1, 1, 0, 1, 0, 0, 0]) [0] (by kernel_rfl) (by kernel_rfl) (by kernel_rfl) ?_
  refine plain_batch (rest := []) [⟨0, [], none⟩] (l' := ([(28, Value.bool true), (0, Value.slice (some ⟨r, 0, none⟩) 2 2), (2, Value.slice none 0 0), (3, Value.int IntKind.i64 (((n : Nat) : Int) + ((m : Nat) : Int))), (5, Value.slice q m d), (6, Value.slice p26 n cap27), (8, Value.slice p n c), (9, Value.slice (some ⟨r, 0, none⟩) 2 2), (10, Value.int IntKind.i64 2), (11, Value.int IntKind.i64 2), (12, Value.bool false), (20, Value.bool false), (25, Value.slice (some ⟨r, 0, none⟩) 2 2), (26, Value.int IntKind.i64 2), (27, Value.int IntKind.i64 1), (28, Value.bool true)] : Fr) ++ lr34) (pts' := []) (eqs := []) (by kernel_rfl) trivial (AllC_nil _) ?_
  refine PO.mk ?_
  change WP _ _ (CA Tryd.f35 [1, 1, 1, 1, 0, 1, 0, 0, 1]) _ _ _
  refine fk_cut ([(0, Value.slice (some ⟨r, 0, none⟩) 2 2), (2, Value.slice none 0 0), (3, Value.int IntKind.i64 (((n : Nat) : Int) + ((m : Nat) : Int))), (5, Value.slice q m d), (6, Value.slice p26 n cap27), (8, Value.slice p n c), (9, Value.slice (some ⟨r, 0, none⟩) 2 2), (10, Value.int IntKind.i64 2), (11, Value.int IntKind.i64 2), (12, Value.bool false), (20, Value.bool false), (25, Value.slice (some ⟨r, 0, none⟩) 2 2), (26, Value.int IntKind.i64 2), (27, Value.int IntKind.i64 1), (28, Value.bool true)] : Fr) (by kernel_rfl) (fun a => WP _ _ _ _ a _) (fun lr35 => ?_)
  refine gi_seq (x := CA Tryd.f35 [1, 1, 1, 1, 0, 1, 0, 0, 1, 0]) (y := CA Tryd.f35 [1, 1, 1, 1, 0, 1, 0, 0, 1, 1]) (by kernel_rfl) ?_
  refine gi_cnd (x := (Operand.tmp 28)) (s := CA Tryd.f35 [1, 1, 1, 1, 0, 1, 0, 0, 1, 0, 0]) (t := CA Tryd.f35 [1, 1, 1, 1, 0, 1, 0, 0, 1, 0, 1]) true (by kernel_rfl) (by kernel_rfl) ?_
  change WP _ _ (CA Tryd.f35 [1, 1, 1, 1, 0, 1, 0, 0, 1, 0, 0]) _ _ _
  refine gi_skp (by kernel_rfl) ?_
  change WP _ _ (CA Tryd.f35 [1, 1, 1, 1, 0, 1, 0, 0, 1, 1]) _ _ _
  refine gi_seq (x := CA Tryd.f35 [1, 1, 1, 1, 0, 1, 0, 0, 1, 1, 0]) (y := CA Tryd.f35 [1, 1, 1, 1, 0, 1, 0, 0, 1, 1, 1]) (by kernel_rfl) ?_
  refine gi_blk (id := 3) (x := CA Tryd.f35 [1, 1, 1, 1, 0, 1, 0, 0, 1, 1, 0, 0]) (by kernel_rfl) ?_
  refine gi_seq (x := CA Tryd.f35 [1, 1, 1, 1, 0, 1, 0, 0, 1, 1, 0, 0, 0]) (y := CA Tryd.f35 [1, 1, 1, 1, 0, 1, 0, 0, 1, 1, 0, 0, 1]) (by kernel_rfl) ?_
  refine gi_pln (id := 12) (ops := RA Tryd.f35 [1, 1, 1, 1, 0, 1, 0, 0, 1, 1, 0, 0, 0]) [0, 1, 2] (by kernel_rfl) (by kernel_rfl) (by kernel_rfl) ?_
  refine plain_law (i := 0) 29 (Value.pointer (some ⟨r, 1, none⟩)) (by kernel_rfl) (law_indexSl (o := opA (RA Tryd.f35 [1, 1, 1, 1, 0, 1, 0, 0, 1, 1, 0, 0, 0]) 0) (x := (Operand.tmp 25)) (i := (Operand.tmp 27)) (b := r) (off := 0) (z := 1) (len := 2) (cap := 2) (by kernel_rfl) Tryd.underlying74 1 (by kernel_rfl) 1 (by kernel_rfl) (by kernel_rfl) (by omega) (by omega) 1 (by omega) _) ?_
  refine plain_batch (rest := []) [⟨1, [Value.slice q m d], none⟩, ⟨2, [], none⟩] (l' := ([(8, Value.slice q m d), (30, Value.slice q m d), (29, Value.pointer (some ⟨r, 1, none⟩)), (0, Value.slice (some ⟨r, 0, none⟩) 2 2), (2, Value.slice none 0 0), (3, Value.int IntKind.i64 (((n : Nat) : Int) + ((m : Nat) : Int))), (5, Value.slice q m d), (6, Value.slice p26 n cap27), (8, Value.slice p n c), (9, Value.slice (some ⟨r, 0, none⟩) 2 2), (10, Value.int IntKind.i64 2), (11, Value.int IntKind.i64 2), (12, Value.bool false), (20, Value.bool false), (25, Value.slice (some ⟨r, 0, none⟩) 2 2), (26, Value.int IntKind.i64 2), (27, Value.int IntKind.i64 1), (28, Value.bool true)] : Fr) ++ lr35) (pts' := [(1, ⟨r, 1, none⟩, Value.slice q m d)]) (eqs := []) (by kernel_rfl) trivial (AllC_cons (sat_cell h30 1 rfl rfl) (AllC_nil _)) ?_
  refine PO.mk ?_
  change WP _ _ (CA Tryd.f35 [1, 1, 1, 1, 0, 1, 0, 0, 1, 1, 0, 0, 1]) _ _ _
  refine fk_cut ([(0, Value.slice (some ⟨r, 0, none⟩) 2 2), (2, Value.slice none 0 0), (3, Value.int IntKind.i64 (((n : Nat) : Int) + ((m : Nat) : Int))), (5, Value.slice q m d), (6, Value.slice p26 n cap27), (8, Value.slice q m d), (9, Value.slice (some ⟨r, 0, none⟩) 2 2), (10, Value.int IntKind.i64 2), (11, Value.int IntKind.i64 2), (12, Value.bool false), (20, Value.bool false), (25, Value.slice (some ⟨r, 0, none⟩) 2 2), (26, Value.int IntKind.i64 2), (27, Value.int IntKind.i64 1), (28, Value.bool true)] : Fr) (by kernel_rfl) (fun a => WP _ _ _ _ a _) (fun lr36 => ?_)
  refine gi_pln (id := 13) (ops := RA Tryd.f35 [1, 1, 1, 1, 0, 1, 0, 0, 1, 1, 0, 0, 1]) [0, 1, 2, 3] (by kernel_rfl) (by kernel_rfl) (by kernel_rfl) ?_
  refine plain_batch (rest := [2, 3]) [⟨0, [], none⟩, ⟨1, [], none⟩] (l' := ([(32, Value.slice q m d), (31, Value.slice p26 n cap27), (0, Value.slice (some ⟨r, 0, none⟩) 2 2), (2, Value.slice none 0 0), (3, Value.int IntKind.i64 (((n : Nat) : Int) + ((m : Nat) : Int))), (5, Value.slice q m d), (6, Value.slice p26 n cap27), (8, Value.slice q m d), (9, Value.slice (some ⟨r, 0, none⟩) 2 2), (10, Value.int IntKind.i64 2), (11, Value.int IntKind.i64 2), (12, Value.bool false), (20, Value.bool false), (25, Value.slice (some ⟨r, 0, none⟩) 2 2), (26, Value.int IntKind.i64 2), (27, Value.int IntKind.i64 1), (28, Value.bool true)] : Fr) ++ lr36) (pts' := []) (eqs := []) (by kernel_rfl) trivial (AllC_nil _) ?_
  refine plain_act (i := 2) (by kernel_rfl) ?_
  refine an_append_gv (d := 33) (sz := 1) (s := (Operand.tmp 31)) (x := (Operand.tmp 32)) (z := Value.int IntKind.i64 0) (p := p26) (p2 := q) (m := n) (c := cap27) (k := m) (c2 := d) (by_ := 8) (by kernel_rfl) (by kernel_rfl) rfl Tryd.underlying22 (by kernel_rfl) rfl (by decide) (by kernel_rfl) (by kernel_rfl) h30 3 rfl (fl eI M) hY (by rw [fl_len eI_ok, hlM]) (fl_one eI_ok _) (by omega) (by omega) (n + m) (by omega) ?_
  intro p37 cap38 w39 (h40 : sat g w39 [Sl 3 1 p37 (n + m) cap38 ((fl eI L) ++ (fl eI M)), Cl r [Value.slice p n c, Value.slice q m d] 22, X, Y, R])
  have h41 : sat g w39 [Sl 3 1 p37 (n + m) cap38 (fl eI (L ++ M)), Cl r [Value.slice p n c, Value.slice q m d] 22, X, Y, R] := sat_imp h40 (fun _ hh => by rw [fl_app]; exact hh)
  obtain ⟨hn42, hn43⟩ := sl_le h41
  refine plain_batch (rest := []) [⟨3, [], none⟩] (l' := ([(6, Value.slice p37 (n + m) cap38), (33, Value.slice p37 (n + m) cap38), (32, Value.slice q m d), (31, Value.slice p26 n cap27), (0, Value.slice (some ⟨r, 0, none⟩) 2 2), (2, Value.slice none 0 0), (3, Value.int IntKind.i64 (((n : Nat) : Int) + ((m : Nat) : Int))), (5, Value.slice q m d), (6, Value.slice p26 n cap27), (8, Value.slice q m d), (9, Value.slice (some ⟨r, 0, none⟩) 2 2), (10, Value.int IntKind.i64 2), (11, Value.int IntKind.i64 2), (12, Value.bool false), (20, Value.bool false), (25, Value.slice (some ⟨r, 0, none⟩) 2 2), (26, Value.int IntKind.i64 2), (27, Value.int IntKind.i64 1), (28, Value.bool true)] : Fr) ++ lr36) (pts' := []) (eqs := []) (by kernel_rfl) trivial (AllC_nil _) ?_
  refine PO.mk ?_
  change WP _ _ (CA Tryd.f35 [1, 1, 1, 1, 0, 1, 0, 0, 1, 1, 1]) _ _ _
  refine fk_cut ([(0, Value.slice (some ⟨r, 0, none⟩) 2 2), (2, Value.slice none 0 0), (3, Value.int IntKind.i64 (((n : Nat) : Int) + ((m : Nat) : Int))), (5, Value.slice q m d), (6, Value.slice p37 (n + m) cap38), (8, Value.slice q m d), (9, Value.slice (some ⟨r, 0, none⟩) 2 2), (10, Value.int IntKind.i64 2), (11, Value.int IntKind.i64 2), (12, Value.bool false), (20, Value.bool false), (25, Value.slice (some ⟨r, 0, none⟩) 2 2), (26, Value.int IntKind.i64 2), (27, Value.int IntKind.i64 1), (28, Value.bool true)] : Fr) (by kernel_rfl) (fun a => WP _ _ _ _ a _) (fun lr44 => ?_)
  refine gi_pln (id := 14) (ops := RA Tryd.f35 [1, 1, 1, 1, 0, 1, 0, 0, 1, 1, 1]) [0, 1] (by kernel_rfl) (by kernel_rfl) (by kernel_rfl) ?_
  refine plain_batch (rest := []) [⟨0, [], none⟩, ⟨1, [], none⟩] (l' := ([(27, Value.int IntKind.i64 2), (34, Value.int IntKind.i64 2), (0, Value.slice (some ⟨r, 0, none⟩) 2 2), (2, Value.slice none 0 0), (3, Value.int IntKind.i64 (((n : Nat) : Int) + ((m : Nat) : Int))), (5, Value.slice q m d), (6, Value.slice p37 (n + m) cap38), (8, Value.slice q m d), (9, Value.slice (some ⟨r, 0, none⟩) 2 2), (10, Value.int IntKind.i64 2), (11, Value.int IntKind.i64 2), (12, Value.bool false), (20, Value.bool false), (25, Value.slice (some ⟨r, 0, none⟩) 2 2), (26, Value.int IntKind.i64 2), (27, Value.int IntKind.i64 1), (28, Value.bool true)] : Fr) ++ lr44) (pts' := []) (eqs := []) (by kernel_rfl) trivial (AllC_nil _) ?_
  refine PO.mk ?_
  change WP _ _ (CA Tryd.f35 [1, 1, 1, 1, 0, 1, 0, 0]) _ _ _
  refine fk_cut ([(0, Value.slice (some ⟨r, 0, none⟩) 2 2), (2, Value.slice none 0 0), (3, Value.int IntKind.i64 (((n : Nat) : Int) + ((m : Nat) : Int))), (5, Value.slice q m d), (6, Value.slice p37 (n + m) cap38), (8, Value.slice q m d), (9, Value.slice (some ⟨r, 0, none⟩) 2 2), (10, Value.int IntKind.i64 2), (11, Value.int IntKind.i64 2), (12, Value.bool false), (20, Value.bool false), (25, Value.slice (some ⟨r, 0, none⟩) 2 2), (26, Value.int IntKind.i64 2), (27, Value.int IntKind.i64 2), (28, Value.bool true)] : Fr) (by kernel_rfl) (fun a => WP _ _ _ _ a _) (fun lr45 => ?_)
  refine gi_seq (x := CA Tryd.f35 [1, 1, 1, 1, 0, 1, 0, 0, 0]) (y := CA Tryd.f35 [1, 1, 1, 1, 0, 1, 0, 0, 1]) (by kernel_rfl) ?_
  refine gi_pln (id := 11) (ops := RA Tryd.f35 [1, 1, 1, 1, 0, 1, 0, 0, 0]) [0] (by kernel_rfl) (by kernel_rfl) (by kernel_rfl) ?_
  refine plain_batch (rest := []) [⟨0, [], none⟩] (l' := ([(28, Value.bool false), (0, Value.slice (some ⟨r, 0, none⟩) 2 2), (2, Value.slice none 0 0), (3, Value.int IntKind.i64 (((n : Nat) : Int) + ((m : Nat) : Int))), (5, Value.slice q m d), (6, Value.slice p37 (n + m) cap38), (8, Value.slice q m d), (9, Value.slice (some ⟨r, 0, none⟩) 2 2), (10, Value.int IntKind.i64 2), (11, Value.int IntKind.i64 2), (12, Value.bool false), (20, Value.bool false), (25, Value.slice (some ⟨r, 0, none⟩) 2 2), (26, Value.int IntKind.i64 2), (27, Value.int IntKind.i64 2), (28, Value.bool true)] : Fr) ++ lr45) (pts' := []) (eqs := []) (by kernel_rfl) trivial (AllC_nil _) ?_
  refine PO.mk ?_
  change WP _ _ (CA Tryd.f35 [1, 1, 1, 1, 0, 1, 0, 0, 1]) _ _ _
  refine fk_cut ([(0, Value.slice (some ⟨r, 0, none⟩) 2 2), (2, Value.slice none 0 0), (3, Value.int IntKind.i64 (((n : Nat) : Int) + ((m : Nat) : Int))), (5, Value.slice q m d), (6, Value.slice p37 (n + m) cap38), (8, Value.slice q m d), (9, Value.slice (some ⟨r, 0, none⟩) 2 2), (10, Value.int IntKind.i64 2), (11, Value.int IntKind.i64 2), (12, Value.bool false), (20, Value.bool false), (25, Value.slice (some ⟨r, 0, none⟩) 2 2), (26, Value.int IntKind.i64 2), (27, Value.int IntKind.i64 2), (28, Value.bool false)] : Fr) (by kernel_rfl) (fun a => WP _ _ _ _ a _) (fun lr46 => ?_)
  refine gi_seq (x := CA Tryd.f35 [1, 1, 1, 1, 0, 1, 0, 0, 1, 0]) (y := CA Tryd.f35 [1, 1, 1, 1, 0, 1, 0, 0, 1, 1]) (by kernel_rfl) ?_
  refine gi_cnd (x := (Operand.tmp 28)) (s := CA Tryd.f35 [1, 1, 1, 1, 0, 1, 0, 0, 1, 0, 0]) (t := CA Tryd.f35 [1, 1, 1, 1, 0, 1, 0, 0, 1, 0, 1]) false (by kernel_rfl) (by kernel_rfl) ?_
  change WP _ _ (CA Tryd.f35 [1, 1, 1, 1, 0, 1, 0, 0, 1, 0, 1]) _ _ _
  refine gi_ext (id := 2) (by kernel_rfl) ?_
  change WP _ _ (CA Tryd.f35 [1, 1, 1, 1, 1]) _ _ _
  refine gi_seq (x := CA Tryd.f35 [1, 1, 1, 1, 1, 0]) (y := CA Tryd.f35 [1, 1, 1, 1, 1, 1]) (by kernel_rfl) ?_
  refine gi_pln (id := 15) (ops := RA Tryd.f35 [1, 1, 1, 1, 1, 0]) [0, 1] (by kernel_rfl) (by kernel_rfl) (by kernel_rfl) ?_
  refine plain_batch (rest := []) [⟨0, [], none⟩, ⟨1, [], none⟩] (l' := ([(2, Value.slice p37 (n + m) cap38), (35, Value.slice p37 (n + m) cap38), (0, Value.slice (some ⟨r, 0, none⟩) 2 2), (2, Value.slice none 0 0), (3, Value.int IntKind.i64 (((n : Nat) : Int) + ((m : Nat) : Int))), (5, Value.slice q m d), (6, Value.slice p37 (n + m) cap38), (8, Value.slice q m d), (9, Value.slice (some ⟨r, 0, none⟩) 2 2), (10, Value.int IntKind.i64 2), (11, Value.int IntKind.i64 2), (12, Value.bool false), (20, Value.bool false), (25, Value.slice (some ⟨r, 0, none⟩) 2 2), (26, Value.int IntKind.i64 2), (27, Value.int IntKind.i64 2), (28, Value.bool false)] : Fr) ++ lr46) (pts' := []) (eqs := []) (by kernel_rfl) trivial (AllC_nil _) ?_
  refine PO.mk ?_
  change WP _ _ (CA Tryd.f35 [1, 1, 1, 1, 1, 1]) _ _ _
  refine fk_cut ([(0, Value.slice (some ⟨r, 0, none⟩) 2 2), (2, Value.slice p37 (n + m) cap38), (3, Value.int IntKind.i64 (((n : Nat) : Int) + ((m : Nat) : Int))), (5, Value.slice q m d), (6, Value.slice p37 (n + m) cap38), (8, Value.slice q m d), (9, Value.slice (some ⟨r, 0, none⟩) 2 2), (10, Value.int IntKind.i64 2), (11, Value.int IntKind.i64 2), (12, Value.bool false), (20, Value.bool false), (25, Value.slice (some ⟨r, 0, none⟩) 2 2), (26, Value.int IntKind.i64 2), (27, Value.int IntKind.i64 2), (28, Value.bool false)] : Fr) (by kernel_rfl) (fun a => WP _ _ _ _ a _) (fun lr47 => ?_)
  refine gi_rt (by kernel_rfl) ?_
  repeat (first | simp only [Exit.inBlock] | simp only [Exit.then])
  refine hi_out [] (Value.slice p37 (n + m) cap38) [] (by kernel_rfl) (by intro q hq; cases hq) ?_
  exact ⟨Value.slice p37 (n + m) cap38, [Sl 3 1 p37 (n + m) cap38 (fl eI (L ++ M)), Cl r [Value.slice p n c, Value.slice q m d] 22, X, Y], rfl, ⟨p37, cap38, (by rw [show n + m = n + m from by omega]), rfl⟩, h41⟩

end Go.Proofs.YtjedglbadkbneaaDoor
