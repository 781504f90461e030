/- Walks, printed by my generator gen1.py. -/
import Derived.Test.YtjedglbadkbneaaDoorAnsB
namespace Go.Proofs.YtjedglbadkbneaaDoor
set_option maxHeartbeats 4000000 in
theorem index_ht (wo : World) (hg : Lett wo) (z : Int) : HT Tryd.prog 39 [Value.slice (some ⟨0, 1, none⟩) 3 3, Value.int IntKind.u8 z] [Old wo] (fun v K => v = Value.int .i64 (ix z) ∧ K = [Old wo]) := by
  refine hi_in 19 ([(0, Value.slice (some ⟨0, 1, none⟩) 3 3), (1, Value.int IntKind.u8 z)] : Fr) Tryd.func39 (by kernel_rfl) Tryd.ntmps39 rfl rfl ?_
  intro g w0 R h0
  refine gi_seq (x := CA Tryd.f39 [0]) (y := CA Tryd.f39 [1]) (by kernel_rfl) ?_
  refine gi_pln (id := 0) (ops := RA Tryd.f39 [0]) [0] (by kernel_rfl) (by kernel_rfl) (by kernel_rfl) ?_
  refine plain_batch (rest := []) [⟨0, [], none⟩] (l' := ([(4, Value.int IntKind.i64 0), (0, Value.slice (some ⟨0, 1, none⟩) 3 3), (1, Value.int IntKind.u8 z)] : Fr)) (pts' := []) (eqs := []) (by kernel_rfl) trivial (AllC_nil _) ?_
  refine PO.mk ?_
  change WP _ _ (CA Tryd.f39 [1]) _ _ _
  refine fk_cut ([(0, Value.slice (some ⟨0, 1, none⟩) 3 3), (1, Value.int IntKind.u8 z), (4, Value.int IntKind.i64 0)] : Fr) (by kernel_rfl) (fun a => WP _ _ _ _ a _) (fun lr1 => ?_)
  refine gi_seq (x := CA Tryd.f39 [1, 0]) (y := CA Tryd.f39 [1, 1]) (by kernel_rfl) ?_
  refine gi_seq (x := CA Tryd.f39 [1, 0, 0]) (y := CA Tryd.f39 [1, 0, 1]) (by kernel_rfl) ?_
  refine gi_pln (id := 1) (ops := RA Tryd.f39 [1, 0, 0]) [0, 1, 2] (by kernel_rfl) (by kernel_rfl) (by kernel_rfl) ?_
  refine plain_batch (rest := []) [⟨0, [], none⟩, ⟨1, [], some (Value.int IntKind.i64 3)⟩, ⟨2, [], none⟩] (l' := ([(8, Value.int IntKind.i64 0), (7, Value.int IntKind.i64 3), (6, Value.slice (some ⟨0, 1, none⟩) 3 3), (0, Value.slice (some ⟨0, 1, none⟩) 3 3), (1, Value.int IntKind.u8 z), (4, Value.int IntKind.i64 0)] : Fr) ++ lr1) (pts' := []) (eqs := [(Value.int IntKind.i64 ((3 : Nat) : Int), Value.int IntKind.i64 3)]) (by kernel_rfl) ⟨(ov_int (by omega)), trivial⟩ (AllC_nil _) ?_
  refine PO.mk ?_
  change WP _ _ (CA Tryd.f39 [1, 0, 1]) _ _ _
  refine fk_cut ([(0, Value.slice (some ⟨0, 1, none⟩) 3 3), (1, Value.int IntKind.u8 z), (4, Value.int IntKind.i64 0), (7, Value.int IntKind.i64 3), (8, Value.int IntKind.i64 0)] : Fr) (by kernel_rfl) (fun a => WP _ _ _ _ a _) (fun lr2 => ?_)
  refine gi_blk (id := 0) (x := CA Tryd.f39 [1, 0, 1, 0]) (by kernel_rfl) ?_
  refine gi_unr (x := CA Tryd.f39 [1, 0, 1, 0, 0]) 4 (by kernel_rfl) ?_
  change WP _ _ (CA Tryd.f39 [1, 0, 1, 0, 0]) _ _ _
  refine gi_seq (x := CA Tryd.f39 [1, 0, 1, 0, 0, 0]) (y := CA Tryd.f39 [1, 0, 1, 0, 0, 1]) (by kernel_rfl) ?_
  refine gi_pln (id := 2) (ops := RA Tryd.f39 [1, 0, 1, 0, 0, 0]) [0] (by kernel_rfl) (by kernel_rfl) (by kernel_rfl) ?_
  refine plain_batch (rest := []) [⟨0, [], none⟩] (l' := ([(9, Value.bool true), (0, Value.slice (some ⟨0, 1, none⟩) 3 3), (1, Value.int IntKind.u8 z), (4, Value.int IntKind.i64 0), (7, Value.int IntKind.i64 3), (8, Value.int IntKind.i64 0)] : Fr) ++ lr2) (pts' := []) (eqs := []) (by kernel_rfl) trivial (AllC_nil _) ?_
  refine PO.mk ?_
  change WP _ _ (CA Tryd.f39 [1, 0, 1, 0, 0, 1]) _ _ _
  refine fk_cut ([(0, Value.slice (some ⟨0, 1, none⟩) 3 3), (1, Value.int IntKind.u8 z), (4, Value.int IntKind.i64 0), (7, Value.int IntKind.i64 3), (8, Value.int IntKind.i64 0), (9, Value.bool true)] : Fr) (by kernel_rfl) (fun a => WP _ _ _ _ a _) (fun lr3 => ?_)
  refine gi_seq (x := CA Tryd.f39 [1, 0, 1, 0, 0, 1, 0]) (y := CA Tryd.f39 [1, 0, 1, 0, 0, 1, 1]) (by kernel_rfl) ?_
  refine gi_cnd (x := (Operand.tmp 9)) (s := CA Tryd.f39 [1, 0, 1, 0, 0, 1, 0, 0]) (t := CA Tryd.f39 [1, 0, 1, 0, 0, 1, 0, 1]) true (by kernel_rfl) (by kernel_rfl) ?_
  change WP _ _ (CA Tryd.f39 [1, 0, 1, 0, 0, 1, 0, 0]) _ _ _
  refine gi_skp (by kernel_rfl) ?_
  change WP _ _ (CA Tryd.f39 [1, 0, 1, 0, 0, 1, 1]) _ _ _
  refine gi_seq (x := CA Tryd.f39 [1, 0, 1, 0, 0, 1, 1, 0]) (y := CA Tryd.f39 [1, 0, 1, 0, 0, 1, 1, 1]) (by kernel_rfl) ?_
  refine gi_blk (id := 1) (x := CA Tryd.f39 [1, 0, 1, 0, 0, 1, 1, 0, 0]) (by kernel_rfl) ?_
  refine gi_seq (x := CA Tryd.f39 [1, 0, 1, 0, 0, 1, 1, 0, 0, 0]) (y := CA Tryd.f39 [1, 0, 1, 0, 0, 1, 1, 0, 0, 1]) (by kernel_rfl) ?_
  refine gi_pln (id := 3) (ops := RA Tryd.f39 [1, 0, 1, 0, 0, 1, 1, 0, 0, 0]) [0, 1] (by kernel_rfl) (by kernel_rfl) (by kernel_rfl) ?_
  refine plain_batch (rest := []) [⟨0, [], none⟩, ⟨1, [], none⟩] (l' := ([(5, Value.int IntKind.i64 0), (10, Value.int IntKind.i64 0), (0, Value.slice (some ⟨0, 1, none⟩) 3 3), (1, Value.int IntKind.u8 z), (4, Value.int IntKind.i64 0), (7, Value.int IntKind.i64 3), (8, Value.int IntKind.i64 0), (9, Value.bool true)] : Fr) ++ lr3) (pts' := []) (eqs := []) (by kernel_rfl) trivial (AllC_nil _) ?_
  refine PO.mk ?_
  change WP _ _ (CA Tryd.f39 [1, 0, 1, 0, 0, 1, 1, 0, 0, 1]) _ _ _
  refine fk_cut ([(0, Value.slice (some ⟨0, 1, none⟩) 3 3), (1, Value.int IntKind.u8 z), (4, Value.int IntKind.i64 0), (5, Value.int IntKind.i64 0), (7, Value.int IntKind.i64 3), (8, Value.int IntKind.i64 0), (9, Value.bool true)] : Fr) (by kernel_rfl) (fun a => WP _ _ _ _ a _) (fun lr4 => ?_)
  refine gi_seq (x := CA Tryd.f39 [1, 0, 1, 0, 0, 1, 1, 0, 0, 1, 0]) (y := CA Tryd.f39 [1, 0, 1, 0, 0, 1, 1, 0, 0, 1, 1]) (by kernel_rfl) ?_
  refine gi_pln (id := 4) (ops := RA Tryd.f39 [1, 0, 1, 0, 0, 1, 1, 0, 0, 1, 0]) [0, 1, 2, 3, 4, 5] (by kernel_rfl) (by kernel_rfl) (by kernel_rfl) ?_
  refine plain_batch (rest := [3, 4, 5]) [⟨0, [], none⟩, ⟨1, [], none⟩, ⟨2, [], none⟩] (l' := ([(13, Value.int IntKind.i64 0), (12, Value.slice (some ⟨0, 1, none⟩) 3 3), (11, Value.int IntKind.u8 z), (0, Value.slice (some ⟨0, 1, none⟩) 3 3), (1, Value.int IntKind.u8 z), (4, Value.int IntKind.i64 0), (5, Value.int IntKind.i64 0), (7, Value.int IntKind.i64 3), (8, Value.int IntKind.i64 0), (9, Value.bool true)] : Fr) ++ lr4) (pts' := []) (eqs := []) (by kernel_rfl) trivial (AllC_nil _) ?_
  refine plain_law (i := 3) 14 (Value.pointer (some ⟨0, 1, none⟩)) (by kernel_rfl) (law_indexSl (o := opA (RA Tryd.f39 [1, 0, 1, 0, 0, 1, 1, 0, 0, 1, 0]) 3) (x := (Operand.tmp 12)) (i := (Operand.tmp 13)) (b := 0) (off := 1) (z := 0) (len := 3) (cap := 3) (by kernel_rfl) Tryd.underlying34 1 (by kernel_rfl) 0 (by kernel_rfl) (by kernel_rfl) (by omega) (by omega) 1 (by omega) _) ?_
  refine plain_batch (rest := [5]) [⟨4, [Value.int IntKind.u8 111], none⟩] (l' := ([(15, Value.int IntKind.u8 111), (14, Value.pointer (some ⟨0, 1, none⟩)), (13, Value.int IntKind.i64 0), (12, Value.slice (some ⟨0, 1, none⟩) 3 3), (11, Value.int IntKind.u8 z), (0, Value.slice (some ⟨0, 1, none⟩) 3 3), (1, Value.int IntKind.u8 z), (4, Value.int IntKind.i64 0), (5, Value.int IntKind.i64 0), (7, Value.int IntKind.i64 3), (8, Value.int IntKind.i64 0), (9, Value.bool true)] : Fr) ++ lr4) (pts' := [(4, ⟨0, 1, none⟩, Value.int IntKind.u8 111)]) (eqs := []) (by kernel_rfl) trivial (AllC_cons (sat_cellOld h0 0 rfl (hg 1 _ rfl)) (AllC_nil _)) ?_
  by_cases c5 : z = 111
  ·
    refine plain_batch (rest := []) [⟨5, [], some (Value.bool true)⟩] (l' := ([(16, Value.bool true), (15, Value.int IntKind.u8 111), (14, Value.pointer (some ⟨0, 1, none⟩)), (13, Value.int IntKind.i64 0), (12, Value.slice (some ⟨0, 1, none⟩) 3 3), (11, Value.int IntKind.u8 z), (0, Value.slice (some ⟨0, 1, none⟩) 3 3), (1, Value.int IntKind.u8 z), (4, Value.int IntKind.i64 0), (5, Value.int IntKind.i64 0), (7, Value.int IntKind.i64 3), (8, Value.int IntKind.i64 0), (9, Value.bool true)] : Fr) ++ lr4) (pts' := []) (eqs := [(Value.bool (z == 111), Value.bool true)]) (by kernel_rfl) ⟨(ov_et (by omega)), trivial⟩ (AllC_nil _) ?_
    refine PO.mk ?_
    change WP _ _ (CA Tryd.f39 [1, 0, 1, 0, 0, 1, 1, 0, 0, 1, 1]) _ _ _
    refine fk_cut ([(0, Value.slice (some ⟨0, 1, none⟩) 3 3), (1, Value.int IntKind.u8 z), (4, Value.int IntKind.i64 0), (5, Value.int IntKind.i64 0), (7, Value.int IntKind.i64 3), (8, Value.int IntKind.i64 0), (9, Value.bool true), (16, Value.bool true)] : Fr) (by kernel_rfl) (fun a => WP _ _ _ _ a _) (fun lr6 => ?_)
    refine gi_cnd (x := (Operand.tmp 16)) (s := CA Tryd.f39 [1, 0, 1, 0, 0, 1, 1, 0, 0, 1, 1, 0]) (t := CA Tryd.f39 [1, 0, 1, 0, 0, 1, 1, 0, 0, 1, 1, 1]) true (by kernel_rfl) (by kernel_rfl) ?_
    change WP _ _ (CA Tryd.f39 [1, 0, 1, 0, 0, 1, 1, 0, 0, 1, 1, 0]) _ _ _
    refine gi_seq (x := CA Tryd.f39 [1, 0, 1, 0, 0, 1, 1, 0, 0, 1, 1, 0, 0]) (y := CA Tryd.f39 [1, 0, 1, 0, 0, 1, 1, 0, 0, 1, 1, 0, 1]) (by kernel_rfl) ?_
    refine gi_pln (id := 5) (ops := RA Tryd.f39 [1, 0, 1, 0, 0, 1, 1, 0, 0, 1, 1, 0, 0]) [0, 1] (by kernel_rfl) (by kernel_rfl) (by kernel_rfl) ?_
    refine plain_batch (rest := []) [⟨0, [], none⟩, ⟨1, [], none⟩] (l' := ([(4, Value.int IntKind.i64 0), (17, Value.int IntKind.i64 0), (0, Value.slice (some ⟨0, 1, none⟩) 3 3), (1, Value.int IntKind.u8 z), (4, Value.int IntKind.i64 0), (5, Value.int IntKind.i64 0), (7, Value.int IntKind.i64 3), (8, Value.int IntKind.i64 0), (9, Value.bool true), (16, Value.bool true)] : Fr) ++ lr6) (pts' := []) (eqs := []) (by kernel_rfl) trivial (AllC_nil _) ?_
    refine PO.mk ?_
    change WP _ _ (CA Tryd.f39 [1, 0, 1, 0, 0, 1, 1, 0, 0, 1, 1, 0, 1]) _ _ _
    refine fk_cut ([(0, Value.slice (some ⟨0, 1, none⟩) 3 3), (1, Value.int IntKind.u8 z), (4, Value.int IntKind.i64 0), (5, Value.int IntKind.i64 0), (7, Value.int IntKind.i64 3), (8, Value.int IntKind.i64 0), (9, Value.bool true), (16, Value.bool true)] : Fr) (by kernel_rfl) (fun a => WP _ _ _ _ a _) (fun lr7 => ?_)
    refine gi_rt (by kernel_rfl) ?_
    repeat (first | simp only [Exit.inBlock] | simp only [Exit.then])
    refine hi_out [] (Value.int IntKind.i64 0) [] (by kernel_rfl) (by intro q hq; cases hq) ?_
    exact ⟨Value.int IntKind.i64 0, [Old wo], rfl, ⟨congrArg (Value.int .i64) (by unfold ix; (repeat split) <;> omega), rfl⟩, h0⟩
  ·
    refine plain_batch (rest := []) [⟨5, [], some (Value.bool false)⟩] (l' := ([(16, Value.bool false), (15, Value.int IntKind.u8 111), (14, Value.pointer (some ⟨0, 1, none⟩)), (13, Value.int IntKind.i64 0), (12, Value.slice (some ⟨0, 1, none⟩) 3 3), (11, Value.int IntKind.u8 z), (0, Value.slice (some ⟨0, 1, none⟩) 3 3), (1, Value.int IntKind.u8 z), (4, Value.int IntKind.i64 0), (5, Value.int IntKind.i64 0), (7, Value.int IntKind.i64 3), (8, Value.int IntKind.i64 0), (9, Value.bool true)] : Fr) ++ lr4) (pts' := []) (eqs := [(Value.bool (z == 111), Value.bool false)]) (by kernel_rfl) ⟨(ov_ef (by omega)), trivial⟩ (AllC_nil _) ?_
    refine PO.mk ?_
    change WP _ _ (CA Tryd.f39 [1, 0, 1, 0, 0, 1, 1, 0, 0, 1, 1]) _ _ _
    refine fk_cut ([(0, Value.slice (some ⟨0, 1, none⟩) 3 3), (1, Value.int IntKind.u8 z), (4, Value.int IntKind.i64 0), (5, Value.int IntKind.i64 0), (7, Value.int IntKind.i64 3), (8, Value.int IntKind.i64 0), (9, Value.bool true), (16, Value.bool false)] : Fr) (by kernel_rfl) (fun a => WP _ _ _ _ a _) (fun lr8 => ?_)
    refine gi_cnd (x := (Operand.tmp 16)) (s := CA Tryd.f39 [1, 0, 1, 0, 0, 1, 1, 0, 0, 1, 1, 0]) (t := CA Tryd.f39 [1, 0, 1, 0, 0, 1, 1, 0, 0, 1, 1, 1]) false (by kernel_rfl) (by kernel_rfl) ?_
    change WP _ _ (CA Tryd.f39 [1, 0, 1, 0, 0, 1, 1, 0, 0, 1, 1, 1]) _ _ _
    refine gi_skp (by kernel_rfl) ?_
    change WP _ _ (CA Tryd.f39 [1, 0, 1, 0, 0, 1, 1, 1]) _ _ _
    refine gi_pln (id := 6) (ops := RA Tryd.f39 [1, 0, 1, 0, 0, 1, 1, 1]) [0, 1] (by kernel_rfl) (by kernel_rfl) (by kernel_rfl) ?_
    refine plain_batch (rest := []) [⟨0, [], none⟩, ⟨1, [], none⟩] (l' := ([(8, Value.int IntKind.i64 1), (18, Value.int IntKind.i64 1), (0, Value.slice (some ⟨0, 1, none⟩) 3 3), (1, Value.int IntKind.u8 z), (4, Value.int IntKind.i64 0), (5, Value.int IntKind.i64 0), (7, Value.int IntKind.i64 3), (8, Value.int IntKind.i64 0), (9, Value.bool true), (16, Value.bool false)] : Fr) ++ lr8) (pts' := []) (eqs := []) (by kernel_rfl) trivial (AllC_nil _) ?_
    refine PO.mk ?_
    change WP _ _ (CA Tryd.f39 [1, 0, 1, 0, 0]) _ _ _
    refine fk_cut ([(0, Value.slice (some ⟨0, 1, none⟩) 3 3), (1, Value.int IntKind.u8 z), (4, Value.int IntKind.i64 0), (5, Value.int IntKind.i64 0), (7, Value.int IntKind.i64 3), (8, Value.int IntKind.i64 1), (9, Value.bool true), (16, Value.bool false)] : Fr) (by kernel_rfl) (fun a => WP _ _ _ _ a _) (fun lr9 => ?_)
    refine gi_seq (x := CA Tryd.f39 [1, 0, 1, 0, 0, 0]) (y := CA Tryd.f39 [1, 0, 1, 0, 0, 1]) (by kernel_rfl) ?_
    refine gi_pln (id := 2) (ops := RA Tryd.f39 [1, 0, 1, 0, 0, 0]) [0] (by kernel_rfl) (by kernel_rfl) (by kernel_rfl) ?_
    refine plain_batch (rest := []) [⟨0, [], none⟩] (l' := ([(9, Value.bool true), (0, Value.slice (some ⟨0, 1, none⟩) 3 3), (1, Value.int IntKind.u8 z), (4, Value.int IntKind.i64 0), (5, Value.int IntKind.i64 0), (7, Value.int IntKind.i64 3), (8, Value.int IntKind.i64 1), (9, Value.bool true), (16, Value.bool false)] : Fr) ++ lr9) (pts' := []) (eqs := []) (by kernel_rfl) trivial (AllC_nil _) ?_
    refine PO.mk ?_
    change WP _ _ (CA Tryd.f39 [1, 0, 1, 0, 0, 1]) _ _ _
    refine fk_cut ([(0, Value.slice (some ⟨0, 1, none⟩) 3 3), (1, Value.int IntKind.u8 z), (4, Value.int IntKind.i64 0), (5, Value.int IntKind.i64 0), (7, Value.int IntKind.i64 3), (8, Value.int IntKind.i64 1), (9, Value.bool true), (16, Value.bool false)] : Fr) (by kernel_rfl) (fun a => WP _ _ _ _ a _) (fun lr10 => ?_)
    refine gi_seq (x := CA Tryd.f39 [1, 0, 1, 0, 0, 1, 0]) (y := CA Tryd.f39 [1, 0, 1, 0, 0, 1, 1]) (by kernel_rfl) ?_
    refine gi_cnd (x := (Operand.tmp 9)) (s := CA Tryd.f39 [1, 0, 1, 0, 0, 1, 0, 0]) (t := CA Tryd.f39 [1, 0, 1, 0, 0, 1, 0, 1]) true (by kernel_rfl) (by kernel_rfl) ?_
    change WP _ _ (CA Tryd.f39 [1, 0, 1, 0, 0, 1, 0, 0]) _ _ _
    refine gi_skp (by kernel_rfl) ?_
    change WP _ _ (CA Tryd.f39 [1, 0, 1, 0, 0, 1, 1]) _ _ _
    refine gi_seq (x := CA Tryd.f39 [1, 0, 1, 0, 0, 1, 1, 0]) (y := CA Tryd.f39 [1, 0, 1, 0, 0, 1, 1, 1]) (by kernel_rfl) ?_
    refine gi_blk (id := 1) (x := CA Tryd.f39 [1, 0, 1, 0, 0, 1, 1, 0, 0]) (by kernel_rfl) ?_
    refine gi_seq (x := CA Tryd.f39 [1, 0, 1, 0, 0, 1, 1, 0, 0, 0]) (y := CA Tryd.f39 [1, 0, 1, 0, 0, 1, 1, 0, 0, 1]) (by kernel_rfl) ?_
    refine gi_pln (id := 3) (ops := RA Tryd.f39 [1, 0, 1, 0, 0, 1, 1, 0, 0, 0]) [0, 1] (by kernel_rfl) (by kernel_rfl) (by kernel_rfl) ?_
    refine plain_batch (rest := []) [⟨0, [], none⟩, ⟨1, [], none⟩] (l' := ([(5, Value.int IntKind.i64 1), (10, Value.int IntKind.i64 1), (0, Value.slice (some ⟨0, 1, none⟩) 3 3), (1, Value.int IntKind.u8 z), (4, Value.int IntKind.i64 0), (5, Value.int IntKind.i64 0), (7, Value.int IntKind.i64 3), (8, Value.int IntKind.i64 1), (9, Value.bool true), (16, Value.bool false)] : Fr) ++ lr10) (pts' := []) (eqs := []) (by kernel_rfl) trivial (AllC_nil _) ?_
    refine PO.mk ?_
    change WP _ _ (CA Tryd.f39 [1, 0, 1, 0, 0, 1, 1, 0, 0, 1]) _ _ _
    refine fk_cut ([(0, Value.slice (some ⟨0, 1, none⟩) 3 3), (1, Value.int IntKind.u8 z), (4, Value.int IntKind.i64 0), (5, Value.int IntKind.i64 1), (7, Value.int IntKind.i64 3), (8, Value.int IntKind.i64 1), (9, Value.bool true), (16, Value.bool false)] : Fr) (by kernel_rfl) (fun a => WP _ _ _ _ a _) (fun lr11 => ?_)
    refine gi_seq (x := CA Tryd.f39 [1, 0, 1, 0, 0, 1, 1, 0, 0, 1, 0]) (y := CA Tryd.f39 [1, 0, 1, 0, 0, 1, 1, 0, 0, 1, 1]) (by kernel_rfl) ?_
    refine gi_pln (id := 4) (ops := RA Tryd.f39 [1, 0, 1, 0, 0, 1, 1, 0, 0, 1, 0]) [0, 1, 2, 3, 4, 5] (by kernel_rfl) (by kernel_rfl) (by kernel_rfl) ?_
    refine plain_batch (rest := [3, 4, 5]) [⟨0, [], none⟩, ⟨1, [], none⟩, ⟨2, [], none⟩] (l' := ([(13, Value.int IntKind.i64 1), (12, Value.slice (some ⟨0, 1, none⟩) 3 3), (11, Value.int IntKind.u8 z), (0, Value.slice (some ⟨0, 1, none⟩) 3 3), (1, Value.int IntKind.u8 z), (4, Value.int IntKind.i64 0), (5, Value.int IntKind.i64 1), (7, Value.int IntKind.i64 3), (8, Value.int IntKind.i64 1), (9, Value.bool true), (16, Value.bool false)] : Fr) ++ lr11) (pts' := []) (eqs := []) (by kernel_rfl) trivial (AllC_nil _) ?_
    refine plain_law (i := 3) 14 (Value.pointer (some ⟨0, 2, none⟩)) (by kernel_rfl) (law_indexSl (o := opA (RA Tryd.f39 [1, 0, 1, 0, 0, 1, 1, 0, 0, 1, 0]) 3) (x := (Operand.tmp 12)) (i := (Operand.tmp 13)) (b := 0) (off := 1) (z := 1) (len := 3) (cap := 3) (by kernel_rfl) Tryd.underlying34 1 (by kernel_rfl) 1 (by kernel_rfl) (by kernel_rfl) (by omega) (by omega) 2 (by omega) _) ?_
    refine plain_batch (rest := [5]) [⟨4, [Value.int IntKind.u8 108], none⟩] (l' := ([(15, Value.int IntKind.u8 108), (14, Value.pointer (some ⟨0, 2, none⟩)), (13, Value.int IntKind.i64 1), (12, Value.slice (some ⟨0, 1, none⟩) 3 3), (11, Value.int IntKind.u8 z), (0, Value.slice (some ⟨0, 1, none⟩) 3 3), (1, Value.int IntKind.u8 z), (4, Value.int IntKind.i64 0), (5, Value.int IntKind.i64 1), (7, Value.int IntKind.i64 3), (8, Value.int IntKind.i64 1), (9, Value.bool true), (16, Value.bool false)] : Fr) ++ lr11) (pts' := [(4, ⟨0, 2, none⟩, Value.int IntKind.u8 108)]) (eqs := []) (by kernel_rfl) trivial (AllC_cons (sat_cellOld h0 0 rfl (hg 2 _ rfl)) (AllC_nil _)) ?_
    by_cases c12 : z = 108
    ·
      refine plain_batch (rest := []) [⟨5, [], some (Value.bool true)⟩] (l' := ([(16, Value.bool true), (15, Value.int IntKind.u8 108), (14, Value.pointer (some ⟨0, 2, none⟩)), (13, Value.int IntKind.i64 1), (12, Value.slice (some ⟨0, 1, none⟩) 3 3), (11, Value.int IntKind.u8 z), (0, Value.slice (some ⟨0, 1, none⟩) 3 3), (1, Value.int IntKind.u8 z), (4, Value.int IntKind.i64 0), (5, Value.int IntKind.i64 1), (7, Value.int IntKind.i64 3), (8, Value.int IntKind.i64 1), (9, Value.bool true), (16, Value.bool false)] : Fr) ++ lr11) (pts' := []) (eqs := [(Value.bool (z == 108), Value.bool true)]) (by kernel_rfl) ⟨(ov_et (by omega)), trivial⟩ (AllC_nil _) ?_
      refine PO.mk ?_
      change WP _ _ (CA Tryd.f39 [1, 0, 1, 0, 0, 1, 1, 0, 0, 1, 1]) _ _ _
      refine fk_cut ([(0, Value.slice (some ⟨0, 1, none⟩) 3 3), (1, Value.int IntKind.u8 z), (4, Value.int IntKind.i64 0), (5, Value.int IntKind.i64 1), (7, Value.int IntKind.i64 3), (8, Value.int IntKind.i64 1), (9, Value.bool true), (16, Value.bool true)] : Fr) (by kernel_rfl) (fun a => WP _ _ _ _ a _) (fun lr13 => ?_)
      refine gi_cnd (x := (Operand.tmp 16)) (s := CA Tryd.f39 [1, 0, 1, 0, 0, 1, 1, 0, 0, 1, 1, 0]) (t := CA Tryd.f39 [1, 0, 1, 0, 0, 1, 1, 0, 0, 1, 1, 1]) true (by kernel_rfl) (by kernel_rfl) ?_
      change WP _ _ (CA Tryd.f39 [1, 0, 1, 0, 0, 1, 1, 0, 0, 1, 1, 0]) _ _ _
      refine gi_seq (x := CA Tryd.f39 [1, 0, 1, 0, 0, 1, 1, 0, 0, 1, 1, 0, 0]) (y := CA Tryd.f39 [1, 0, 1, 0, 0, 1, 1, 0, 0, 1, 1, 0, 1]) (by kernel_rfl) ?_
      refine gi_pln (id := 5) (ops := RA Tryd.f39 [1, 0, 1, 0, 0, 1, 1, 0, 0, 1, 1, 0, 0]) [0, 1] (by kernel_rfl) (by kernel_rfl) (by kernel_rfl) ?_
      refine plain_batch (rest := []) [⟨0, [], none⟩, ⟨1, [], none⟩] (l' := ([(4, Value.int IntKind.i64 1), (17, Value.int IntKind.i64 1), (0, Value.slice (some ⟨0, 1, none⟩) 3 3), (1, Value.int IntKind.u8 z), (4, Value.int IntKind.i64 0), (5, Value.int IntKind.i64 1), (7, Value.int IntKind.i64 3), (8, Value.int IntKind.i64 1), (9, Value.bool true), (16, Value.bool true)] : Fr) ++ lr13) (pts' := []) (eqs := []) (by kernel_rfl) trivial (AllC_nil _) ?_
      refine PO.mk ?_
      change WP _ _ (CA Tryd.f39 [1, 0, 1, 0, 0, 1, 1, 0, 0, 1, 1, 0, 1]) _ _ _
      refine fk_cut ([(0, Value.slice (some ⟨0, 1, none⟩) 3 3), (1, Value.int IntKind.u8 z), (4, Value.int IntKind.i64 1), (5, Value.int IntKind.i64 1), (7, Value.int IntKind.i64 3), (8, Value.int IntKind.i64 1), (9, Value.bool true), (16, Value.bool true)] : Fr) (by kernel_rfl) (fun a => WP _ _ _ _ a _) (fun lr14 => ?_)
      refine gi_rt (by kernel_rfl) ?_
      repeat (first | simp only [Exit.inBlock] | simp only [Exit.then])
      refine hi_out [] (Value.int IntKind.i64 1) [] (by kernel_rfl) (by intro q hq; cases hq) ?_
      exact ⟨Value.int IntKind.i64 1, [Old wo], rfl, ⟨congrArg (Value.int .i64) (by unfold ix; (repeat split) <;> omega), rfl⟩, h0⟩
    ·
      refine plain_batch (rest := []) [⟨5, [], some (Value.bool false)⟩] (l' := ([(16, Value.bool false), (15, Value.int IntKind.u8 108), (14, Value.pointer (some ⟨0, 2, none⟩)), (13, Value.int IntKind.i64 1), (12, Value.slice (some ⟨0, 1, none⟩) 3 3), (11, Value.int IntKind.u8 z), (0, Value.slice (some ⟨0, 1, none⟩) 3 3), (1, Value.int IntKind.u8 z), (4, Value.int IntKind.i64 0), (5, Value.int IntKind.i64 1), (7, Value.int IntKind.i64 3), (8, Value.int IntKind.i64 1), (9, Value.bool true), (16, Value.bool false)] : Fr) ++ lr11) (pts' := []) (eqs := [(Value.bool (z == 108), Value.bool false)]) (by kernel_rfl) ⟨(ov_ef (by omega)), trivial⟩ (AllC_nil _) ?_
      refine PO.mk ?_
      change WP _ _ (CA Tryd.f39 [1, 0, 1, 0, 0, 1, 1, 0, 0, 1, 1]) _ _ _
      refine fk_cut ([(0, Value.slice (some ⟨0, 1, none⟩) 3 3), (1, Value.int IntKind.u8 z), (4, Value.int IntKind.i64 0), (5, Value.int IntKind.i64 1), (7, Value.int IntKind.i64 3), (8, Value.int IntKind.i64 1), (9, Value.bool true), (16, Value.bool false)] : Fr) (by kernel_rfl) (fun a => WP _ _ _ _ a _) (fun lr15 => ?_)
      refine gi_cnd (x := (Operand.tmp 16)) (s := CA Tryd.f39 [1, 0, 1, 0, 0, 1, 1, 0, 0, 1, 1, 0]) (t := CA Tryd.f39 [1, 0, 1, 0, 0, 1, 1, 0, 0, 1, 1, 1]) false (by kernel_rfl) (by kernel_rfl) ?_
      change WP _ _ (CA Tryd.f39 [1, 0, 1, 0, 0, 1, 1, 0, 0, 1, 1, 1]) _ _ _
      refine gi_skp (by kernel_rfl) ?_
      change WP _ _ (CA Tryd.f39 [1, 0, 1, 0, 0, 1, 1, 1]) _ _ _
      refine gi_pln (id := 6) (ops := RA Tryd.f39 [1, 0, 1, 0, 0, 1, 1, 1]) [0, 1] (by kernel_rfl) (by kernel_rfl) (by kernel_rfl) ?_
      refine plain_batch (rest := []) [⟨0, [], none⟩, ⟨1, [], none⟩] (l' := ([(8, Value.int IntKind.i64 2), (18, Value.int IntKind.i64 2), (0, Value.slice (some ⟨0, 1, none⟩) 3 3), (1, Value.int IntKind.u8 z), (4, Value.int IntKind.i64 0), (5, Value.int IntKind.i64 1), (7, Value.int IntKind.i64 3), (8, Value.int IntKind.i64 1), (9, Value.bool true), (16, Value.bool false)] : Fr) ++ lr15) (pts' := []) (eqs := []) (by kernel_rfl) trivial (AllC_nil _) ?_
      refine PO.mk ?_
      change WP _ _ (CA Tryd.f39 [1, 0, 1, 0, 0]) _ _ _
      refine fk_cut ([(0, Value.slice (some ⟨0, 1, none⟩) 3 3), (1, Value.int IntKind.u8 z), (4, Value.int IntKind.i64 0), (5, Value.int IntKind.i64 1), (7, Value.int IntKind.i64 3), (8, Value.int IntKind.i64 2), (9, Value.bool true), (16, Value.bool false)] : Fr) (by kernel_rfl) (fun a => WP _ _ _ _ a _) (fun lr16 => ?_)
      refine gi_seq (x := CA Tryd.f39 [1, 0, 1, 0, 0, 0]) (y := CA Tryd.f39 [1, 0, 1, 0, 0, 1]) (by kernel_rfl) ?_
      refine gi_pln (id := 2) (ops := RA Tryd.f39 [1, 0, 1, 0, 0, 0]) [0] (by kernel_rfl) (by kernel_rfl) (by kernel_rfl) ?_
      refine plain_batch (rest := []) [⟨0, [], none⟩] (l' := ([(9, Value.bool true), (0, Value.slice (some ⟨0, 1, none⟩) 3 3), (1, Value.int IntKind.u8 z), (4, Value.int IntKind.i64 0), (5, Value.int IntKind.i64 1), (7, Value.int IntKind.i64 3), (8, Value.int IntKind.i64 2), (9, Value.bool true), (16, Value.bool false)] : Fr) ++ lr16) (pts' := []) (eqs := []) (by kernel_rfl) trivial (AllC_nil _) ?_
      refine PO.mk ?_
      change WP _ _ (CA Tryd.f39 [1, 0, 1, 0, 0, 1]) _ _ _
      refine fk_cut ([(0, Value.slice (some ⟨0, 1, none⟩) 3 3), (1, Value.int IntKind.u8 z), (4, Value.int IntKind.i64 0), (5, Value.int IntKind.i64 1), (7, Value.int IntKind.i64 3), (8, Value.int IntKind.i64 2), (9, Value.bool true), (16, Value.bool false)] : Fr) (by kernel_rfl) (fun a => WP _ _ _ _ a _) (fun lr17 => ?_)
      refine gi_seq (x := CA Tryd.f39 [1, 0, 1, 0, 0, 1, 0]) (y := CA Tryd.f39 [1, 0, 1, 0, 0, 1, 1]) (by kernel_rfl) ?_
      refine gi_cnd (x := (Operand.tmp 9)) (s := CA Tryd.f39 [1, 0, 1, 0, 0, 1, 0, 0]) (t := CA Tryd.f39 [1, 0, 1, 0, 0, 1, 0, 1]) true (by kernel_rfl) (by kernel_rfl) ?_
      change WP _ _ (CA Tryd.f39 [1, 0, 1, 0, 0, 1, 0, 0]) _ _ _
      refine gi_skp (by kernel_rfl) ?_
      change WP _ _ (CA Tryd.f39 [1, 0, 1, 0, 0, 1, 1]) _ _ _
      refine gi_seq (x := CA Tryd.f39 [1, 0, 1, 0, 0, 1, 1, 0]) (y := CA Tryd.f39 [1, 0, 1, 0, 0, 1, 1, 1]) (by kernel_rfl) ?_
      refine gi_blk (id := 1) (x := CA Tryd.f39 [1, 0, 1, 0, 0, 1, 1, 0, 0]) (by kernel_rfl) ?_
      refine gi_seq (x := CA Tryd.f39 [1, 0, 1, 0, 0, 1, 1, 0, 0, 0]) (y := CA Tryd.f39 [1, 0, 1, 0, 0, 1, 1, 0, 0, 1]) (by kernel_rfl) ?_
      refine gi_pln (id := 3) (ops := RA Tryd.f39 [1, 0, 1, 0, 0, 1, 1, 0, 0, 0]) [0, 1] (by kernel_rfl) (by kernel_rfl) (by kernel_rfl) ?_
      refine plain_batch (rest := []) [⟨0, [], none⟩, ⟨1, [], none⟩] (l' := ([(5, Value.int IntKind.i64 2), (10, Value.int IntKind.i64 2), (0, Value.slice (some ⟨0, 1, none⟩) 3 3), (1, Value.int IntKind.u8 z), (4, Value.int IntKind.i64 0), (5, Value.int IntKind.i64 1), (7, Value.int IntKind.i64 3), (8, Value.int IntKind.i64 2), (9, Value.bool true), (16, Value.bool false)] : Fr) ++ lr17) (pts' := []) (eqs := []) (by kernel_rfl) trivial (AllC_nil _) ?_
      refine PO.mk ?_
      change WP _ _ (CA Tryd.f39 [1, 0, 1, 0, 0, 1, 1, 0, 0, 1]) _ _ _
      refine fk_cut ([(0, Value.slice (some ⟨0, 1, none⟩) 3 3), (1, Value.int IntKind.u8 z), (4, Value.int IntKind.i64 0), (5, Value.int IntKind.i64 2), (7, Value.int IntKind.i64 3), (8, Value.int IntKind.i64 2), (9, Value.bool true), (16, Value.bool false)] : Fr) (by kernel_rfl) (fun a => WP _ _ _ _ a _) (fun lr18 => ?_)
      refine gi_seq (x := CA Tryd.f39 [1, 0, 1, 0, 0, 1, 1, 0, 0, 1, 0]) (y := CA Tryd.f39 [1, 0, 1, 0, 0, 1, 1, 0, 0, 1, 1]) (by kernel_rfl) ?_
      refine gi_pln (id := 4) (ops := RA Tryd.f39 [1, 0, 1, 0, 0, 1, 1, 0, 0, 1, 0]) [0, 1, 2, 3, 4, 5] (by kernel_rfl) (by kernel_rfl) (by kernel_rfl) ?_
      refine plain_batch (rest := [3, 4, 5]) [⟨0, [], none⟩, ⟨1, [], none⟩, ⟨2, [], none⟩] (l' := ([(13, Value.int IntKind.i64 2), (12, Value.slice (some ⟨0, 1, none⟩) 3 3), (11, Value.int IntKind.u8 z), (0, Value.slice (some ⟨0, 1, none⟩) 3 3), (1, Value.int IntKind.u8 z), (4, Value.int IntKind.i64 0), (5, Value.int IntKind.i64 2), (7, Value.int IntKind.i64 3), (8, Value.int IntKind.i64 2), (9, Value.bool true), (16, Value.bool false)] : Fr) ++ lr18) (pts' := []) (eqs := []) (by kernel_rfl) trivial (AllC_nil _) ?_
      refine plain_law (i := 3) 14 (Value.pointer (some ⟨0, 3, none⟩)) (by kernel_rfl) (law_indexSl (o := opA (RA Tryd.f39 [1, 0, 1, 0, 0, 1, 1, 0, 0, 1, 0]) 3) (x := (Operand.tmp 12)) (i := (Operand.tmp 13)) (b := 0) (off := 1) (z := 2) (len := 3) (cap := 3) (by kernel_rfl) Tryd.underlying34 1 (by kernel_rfl) 2 (by kernel_rfl) (by kernel_rfl) (by omega) (by omega) 3 (by omega) _) ?_
      refine plain_batch (rest := [5]) [⟨4, [Value.int IntKind.u8 102], none⟩] (l' := ([(15, Value.int IntKind.u8 102), (14, Value.pointer (some ⟨0, 3, none⟩)), (13, Value.int IntKind.i64 2), (12, Value.slice (some ⟨0, 1, none⟩) 3 3), (11, Value.int IntKind.u8 z), (0, Value.slice (some ⟨0, 1, none⟩) 3 3), (1, Value.int IntKind.u8 z), (4, Value.int IntKind.i64 0), (5, Value.int IntKind.i64 2), (7, Value.int IntKind.i64 3), (8, Value.int IntKind.i64 2), (9, Value.bool true), (16, Value.bool false)] : Fr) ++ lr18) (pts' := [(4, ⟨0, 3, none⟩, Value.int IntKind.u8 102)]) (eqs := []) (by kernel_rfl) trivial (AllC_cons (sat_cellOld h0 0 rfl (hg 3 _ rfl)) (AllC_nil _)) ?_
      by_cases c19 : z = 102
      ·
        refine plain_batch (rest := []) [⟨5, [], some (Value.bool true)⟩] (l' := ([(16, Value.bool true), (15, Value.int IntKind.u8 102), (14, Value.pointer (some ⟨0, 3, none⟩)), (13, Value.int IntKind.i64 2), (12, Value.slice (some ⟨0, 1, none⟩) 3 3), (11, Value.int IntKind.u8 z), (0, Value.slice (some ⟨0, 1, none⟩) 3 3), (1, Value.int IntKind.u8 z), (4, Value.int IntKind.i64 0), (5, Value.int IntKind.i64 2), (7, Value.int IntKind.i64 3), (8, Value.int IntKind.i64 2), (9, Value.bool true), (16, Value.bool false)] : Fr) ++ lr18) (pts' := []) (eqs := [(Value.bool (z == 102), Value.bool true)]) (by kernel_rfl) ⟨(ov_et (by omega)), trivial⟩ (AllC_nil _) ?_
        refine PO.mk ?_
        change WP _ _ (CA Tryd.f39 [1, 0, 1, 0, 0, 1, 1, 0, 0, 1, 1]) _ _ _
        refine fk_cut ([(0, Value.slice (some ⟨0, 1, none⟩) 3 3), (1, Value.int IntKind.u8 z), (4, Value.int IntKind.i64 0), (5, Value.int IntKind.i64 2), (7, Value.int IntKind.i64 3), (8, Value.int IntKind.i64 2), (9, Value.bool true), (16, Value.bool true)] : Fr) (by kernel_rfl) (fun a => WP _ _ _ _ a _) (fun lr20 => ?_)
        refine gi_cnd (x := (Operand.tmp 16)) (s := CA Tryd.f39 [1, 0, 1, 0, 0, 1, 1, 0, 0, 1, 1, 0]) (t := CA Tryd.f39 [1, 0, 1, 0, 0, 1, 1, 0, 0, 1, 1, 1]) true (by kernel_rfl) (by kernel_rfl) ?_
        change WP _ _ (CA Tryd.f39 [1, 0, 1, 0, 0, 1, 1, 0, 0, 1, 1, 0]) _ _ _
        refine gi_seq (x := CA Tryd.f39 [1, 0, 1, 0, 0, 1, 1, 0, 0, 1, 1, 0, 0]) (y := CA Tryd.f39 [1, 0, 1, 0, 0, 1, 1, 0, 0, 1, 1, 0, 1]) (by kernel_rfl) ?_
        refine gi_pln (id := 5) (ops := RA Tryd.f39 [1, 0, 1, 0, 0, 1, 1, 0, 0, 1, 1, 0, 0]) [0, 1] (by kernel_rfl) (by kernel_rfl) (by kernel_rfl) ?_
        refine plain_batch (rest := []) [⟨0, [], none⟩, ⟨1, [], none⟩] (l' := ([(4, Value.int IntKind.i64 2), (17, Value.int IntKind.i64 2), (0, Value.slice (some ⟨0, 1, none⟩) 3 3), (1, Value.int IntKind.u8 z), (4, Value.int IntKind.i64 0), (5, Value.int IntKind.i64 2), (7, Value.int IntKind.i64 3), (8, Value.int IntKind.i64 2), (9, Value.bool true), (16, Value.bool true)] : Fr) ++ lr20) (pts' := []) (eqs := []) (by kernel_rfl) trivial (AllC_nil _) ?_
        refine PO.mk ?_
        change WP _ _ (CA Tryd.f39 [1, 0, 1, 0, 0, 1, 1, 0, 0, 1, 1, 0, 1]) _ _ _
        refine fk_cut ([(0, Value.slice (some ⟨0, 1, none⟩) 3 3), (1, Value.int IntKind.u8 z), (4, Value.int IntKind.i64 2), (5, Value.int IntKind.i64 2), (7, Value.int IntKind.i64 3), (8, Value.int IntKind.i64 2), (9, Value.bool true), (16, Value.bool true)] : Fr) (by kernel_rfl) (fun a => WP _ _ _ _ a _) (fun lr21 => ?_)
        refine gi_rt (by kernel_rfl) ?_
        repeat (first | simp only [Exit.inBlock] | simp only [Exit.then])
        refine hi_out [] (Value.int IntKind.i64 2) [] (by kernel_rfl) (by intro q hq; cases hq) ?_
        exact ⟨Value.int IntKind.i64 2, [Old wo], rfl, ⟨congrArg (Value.int .i64) (by unfold ix; (repeat split) <;> omega), rfl⟩, h0⟩
      ·
        refine plain_batch (rest := []) [⟨5, [], some (Value.bool false)⟩] (l' := ([(16, Value.bool false), (15, Value.int IntKind.u8 102), (14, Value.pointer (some ⟨0, 3, none⟩)), (13, Value.int IntKind.i64 2), (12, Value.slice (some ⟨0, 1, none⟩) 3 3), (11, Value.int IntKind.u8 z), (0, Value.slice (some ⟨0, 1, none⟩) 3 3), (1, Value.int IntKind.u8 z), (4, Value.int IntKind.i64 0), (5, Value.int IntKind.i64 2), (7, Value.int IntKind.i64 3), (8, Value.int IntKind.i64 2), (9, Value.bool true), (16, Value.bool false)] : Fr) ++ lr18) (pts' := []) (eqs := [(Value.bool (z == 102), Value.bool false)]) (by kernel_rfl) ⟨(ov_ef (by omega)), trivial⟩ (AllC_nil _) ?_
        refine PO.mk ?_
        change WP _ _ (CA Tryd.f39 [1, 0, 1, 0, 0, 1, 1, 0, 0, 1, 1]) _ _ _
        refine fk_cut ([(0, Value.slice (some ⟨0, 1, none⟩) 3 3), (1, Value.int IntKind.u8 z), (4, Value.int IntKind.i64 0), (5, Value.int IntKind.i64 2), (7, Value.int IntKind.i64 3), (8, Value.int IntKind.i64 2), (9, Value.bool true), (16, Value.bool false)] : Fr) (by kernel_rfl) (fun a => WP _ _ _ _ a _) (fun lr22 => ?_)
        refine gi_cnd (x := (Operand.tmp 16)) (s := CA Tryd.f39 [1, 0, 1, 0, 0, 1, 1, 0, 0, 1, 1, 0]) (t := CA Tryd.f39 [1, 0, 1, 0, 0, 1, 1, 0, 0, 1, 1, 1]) false (by kernel_rfl) (by kernel_rfl) ?_
        change WP _ _ (CA Tryd.f39 [1, 0, 1, 0, 0, 1, 1, 0, 0, 1, 1, 1]) _ _ _
        refine gi_skp (by kernel_rfl) ?_
        change WP _ _ (CA Tryd.f39 [1, 0, 1, 0, 0, 1, 1, 1]) _ _ _
        refine gi_pln (id := 6) (ops := RA Tryd.f39 [1, 0, 1, 0, 0, 1, 1, 1]) [0, 1] (by kernel_rfl) (by kernel_rfl) (by kernel_rfl) ?_
        refine plain_batch (rest := []) [⟨0, [], none⟩, ⟨1, [], none⟩] (l' := ([(8, Value.int IntKind.i64 3), (18, Value.int IntKind.i64 3), (0, Value.slice (some ⟨0, 1, none⟩) 3 3), (1, Value.int IntKind.u8 z), (4, Value.int IntKind.i64 0), (5, Value.int IntKind.i64 2), (7, Value.int IntKind.i64 3), (8, Value.int IntKind.i64 2), (9, Value.bool true), (16, Value.bool false)] : Fr) ++ lr22) (pts' := []) (eqs := []) (by kernel_rfl) trivial (AllC_nil _) ?_
        refine PO.mk ?_
        change WP _ _ (CA Tryd.f39 [1, 0, 1, 0, 0]) _ _ _
        refine fk_cut ([(0, Value.slice (some ⟨0, 1, none⟩) 3 3), (1, Value.int IntKind.u8 z), (4, Value.int IntKind.i64 0), (5, Value.int IntKind.i64 2), (7, Value.int IntKind.i64 3), (8, Value.int IntKind.i64 3), (9, Value.bool true), (16, Value.bool false)] : Fr) (by kernel_rfl) (fun a => WP _ _ _ _ a _) (fun lr23 => ?_)
        refine gi_seq (x := CA Tryd.f39 [1, 0, 1, 0, 0, 0]) (y := CA Tryd.f39 [1, 0, 1, 0, 0, 1]) (by kernel_rfl) ?_
        refine gi_pln (id := 2) (ops := RA Tryd.f39 [1, 0, 1, 0, 0, 0]) [0] (by kernel_rfl) (by kernel_rfl) (by kernel_rfl) ?_
        refine plain_batch (rest := []) [⟨0, [], none⟩] (l' := ([(9, Value.bool false), (0, Value.slice (some ⟨0, 1, none⟩) 3 3), (1, Value.int IntKind.u8 z), (4, Value.int IntKind.i64 0), (5, Value.int IntKind.i64 2), (7, Value.int IntKind.i64 3), (8, Value.int IntKind.i64 3), (9, Value.bool true), (16, Value.bool false)] : Fr) ++ lr23) (pts' := []) (eqs := []) (by kernel_rfl) trivial (AllC_nil _) ?_
        refine PO.mk ?_
        change WP _ _ (CA Tryd.f39 [1, 0, 1, 0, 0, 1]) _ _ _
        refine fk_cut ([(0, Value.slice (some ⟨0, 1, none⟩) 3 3), (1, Value.int IntKind.u8 z), (4, Value.int IntKind.i64 0), (5, Value.int IntKind.i64 2), (7, Value.int IntKind.i64 3), (8, Value.int IntKind.i64 3), (9, Value.bool false), (16, Value.bool false)] : Fr) (by kernel_rfl) (fun a => WP _ _ _ _ a _) (fun lr24 => ?_)
        refine gi_seq (x := CA Tryd.f39 [1, 0, 1, 0, 0, 1, 0]) (y := CA Tryd.f39 [1, 0, 1, 0, 0, 1, 1]) (by kernel_rfl) ?_
        refine gi_cnd (x := (Operand.tmp 9)) (s := CA Tryd.f39 [1, 0, 1, 0, 0, 1, 0, 0]) (t := CA Tryd.f39 [1, 0, 1, 0, 0, 1, 0, 1]) false (by kernel_rfl) (by kernel_rfl) ?_
        change WP _ _ (CA Tryd.f39 [1, 0, 1, 0, 0, 1, 0, 1]) _ _ _
        refine gi_ext (id := 0) (by kernel_rfl) ?_
        change WP _ _ (CA Tryd.f39 [1, 1]) _ _ _
        refine gi_seq (x := CA Tryd.f39 [1, 1, 0]) (y := CA Tryd.f39 [1, 1, 1]) (by kernel_rfl) ?_
        refine gi_pln (id := 7) (ops := RA Tryd.f39 [1, 1, 0]) [0] (by kernel_rfl) (by kernel_rfl) (by kernel_rfl) ?_
        refine plain_batch (rest := []) [⟨0, [], none⟩] (l' := ([(4, Value.int IntKind.i64 (-1)), (0, Value.slice (some ⟨0, 1, none⟩) 3 3), (1, Value.int IntKind.u8 z), (4, Value.int IntKind.i64 0), (5, Value.int IntKind.i64 2), (7, Value.int IntKind.i64 3), (8, Value.int IntKind.i64 3), (9, Value.bool false), (16, Value.bool false)] : Fr) ++ lr24) (pts' := []) (eqs := []) (by kernel_rfl) trivial (AllC_nil _) ?_
        refine PO.mk ?_
        change WP _ _ (CA Tryd.f39 [1, 1, 1]) _ _ _
        refine fk_cut ([(0, Value.slice (some ⟨0, 1, none⟩) 3 3), (1, Value.int IntKind.u8 z), (4, Value.int IntKind.i64 (-1)), (5, Value.int IntKind.i64 2), (7, Value.int IntKind.i64 3), (8, Value.int IntKind.i64 3), (9, Value.bool false), (16, Value.bool false)] : Fr) (by kernel_rfl) (fun a => WP _ _ _ _ a _) (fun lr25 => ?_)
        refine gi_rt (by kernel_rfl) ?_
        repeat (first | simp only [Exit.inBlock] | simp only [Exit.then])
        refine hi_out [] (Value.int IntKind.i64 (-1)) [] (by kernel_rfl) (by intro q hq; cases hq) ?_
        exact ⟨Value.int IntKind.i64 (-1), [Old wo], rfl, ⟨congrArg (Value.int .i64) (by unfold ix; (repeat split) <;> omega), rfl⟩, h0⟩

set_option maxHeartbeats 4000000 in
theorem read_ht (l : List UInt8) : HT Tryd.prog 31 [Value.string (St l)] [] (fun v K => ∃ b, v = Value.func (Fn.func 38) #[] #[Value.pointer (some ⟨b, 0, none⟩)] ∧ K = [Cl b [Value.string (St l)] 9]) := by
  refine hi_in 4 ([(0, Value.string (St l))] : Fr) Tryd.func31 (by kernel_rfl) Tryd.ntmps31 rfl rfl ?_
  intro g w0 R h0
  refine gi_seq (x := CA Tryd.f31 [0]) (y := CA Tryd.f31 [1]) (by kernel_rfl) ?_
  refine gi_pln (id := 0) (ops := RA Tryd.f31 [0]) [0, 1] (by kernel_rfl) (by kernel_rfl) (by kernel_rfl) ?_
  refine plain_act (i := 0) (by kernel_rfl) ?_
  refine an_new (d := 1) (fun xb_ => Value.pointer (some ⟨xb_, 0, none⟩)) (fun xb_ => Obj.cells [Value.string (St l)].toArray 9 (0, 0)) (fun xb_ => by kernel_rfl) (by kernel_rfl) rfl h0 ?_
  intro r1 w2 (h3 : sat g w2 [Cl r1 [Value.string (St l)] 9, R])
  refine plain_batch (rest := []) [⟨1, [], none⟩] (l' := ([(2, Value.nilFunc), (1, Value.pointer (some ⟨r1, 0, none⟩)), (0, Value.string (St l))] : Fr)) (pts' := []) (eqs := []) (by kernel_rfl) trivial (AllC_nil _) ?_
  refine PO.mk ?_
  change WP _ _ (CA Tryd.f31 [1]) _ _ _
  refine fk_cut ([(0, Value.string (St l)), (1, Value.pointer (some ⟨r1, 0, none⟩)), (2, Value.nilFunc)] : Fr) (by kernel_rfl) (fun a => WP _ _ _ _ a _) (fun lr4 => ?_)
  refine gi_seq (x := CA Tryd.f31 [1, 0]) (y := CA Tryd.f31 [1, 1]) (by kernel_rfl) ?_
  refine gi_pln (id := 1) (ops := RA Tryd.f31 [1, 0]) [0, 1] (by kernel_rfl) (by kernel_rfl) (by kernel_rfl) ?_
  refine plain_batch (rest := []) [⟨0, [], none⟩, ⟨1, [], none⟩] (l' := ([(2, Value.func (Fn.func 38) #[] #[Value.pointer (some ⟨r1, 0, none⟩)]), (3, Value.func (Fn.func 38) #[] #[Value.pointer (some ⟨r1, 0, none⟩)]), (0, Value.string (St l)), (1, Value.pointer (some ⟨r1, 0, none⟩)), (2, Value.nilFunc)] : Fr) ++ lr4) (pts' := []) (eqs := []) (by kernel_rfl) trivial (AllC_nil _) ?_
  refine PO.mk ?_
  change WP _ _ (CA Tryd.f31 [1, 1]) _ _ _
  refine fk_cut ([(0, Value.string (St l)), (1, Value.pointer (some ⟨r1, 0, none⟩)), (2, Value.func (Fn.func 38) #[] #[Value.pointer (some ⟨r1, 0, none⟩)])] : Fr) (by kernel_rfl) (fun a => WP _ _ _ _ a _) (fun lr5 => ?_)
  refine gi_rt (by kernel_rfl) ?_
  repeat (first | simp only [Exit.inBlock] | simp only [Exit.then])
  refine hi_out [] (Value.func (Fn.func 38) #[] #[Value.pointer (some ⟨r1, 0, none⟩)]) [] (by kernel_rfl) (by intro q hq; cases hq) ?_
  exact ⟨Value.func (Fn.func 38) #[] #[Value.pointer (some ⟨r1, 0, none⟩)], [Cl r1 [Value.string (St l)] 9], rfl, ⟨r1, rfl, rfl⟩, h3⟩

set_option maxHeartbeats 4000000 in
theorem read_it (wo : World) (hg : Lett wo) (b : Nat) (l : List UInt8) (hl : l.length ≤ 1099511627776) : IT Tryd.prog 38 [Value.pointer (some ⟨b, 0, none⟩)] ((gl l)) ((fun i => [Value.int IntKind.i64 (cd (l.getD i 0))])) [Cl b [Value.string (St l)] 9, Old wo] := by
  have hgl := gl_le l
  refine it_in 25 (fun k_ => ([(0, Value.func (Fn.yield k_) #[] #[]), (1, Value.pointer (some ⟨b, 0, none⟩))] : Fr)) Tryd.func38 (by kernel_rfl) Tryd.ntmps38 rfl (fun _ => rfl) ?_
  intro g w0 R k_ J_ E_ hY h0
  have h1 : sat g w0 [J_ 0, Cl b [Value.string (St l)] 9, Old wo, R] := h0
  change WP _ _ (CA Tryd.f38 []) _ (mk 25 (([(0, Value.func (Fn.yield k_) #[] #[]), (1, Value.pointer (some ⟨b, 0, none⟩))] : Fr))) _
  refine gi_seq (x := CA Tryd.f38 [0]) (y := CA Tryd.f38 [1]) (by kernel_rfl) ?_
  refine gi_pln (id := 0) (ops := RA Tryd.f38 [0]) [0, 1, 2] (by kernel_rfl) (by kernel_rfl) (by kernel_rfl) ?_
  refine plain_batch (rest := []) [⟨0, [Value.string (St l)], none⟩, ⟨1, [], some (Value.int IntKind.i64 (((l.length : Nat) : Int)))⟩, ⟨2, [], none⟩] (l' := ([(7, Value.int IntKind.i64 0), (6, Value.int IntKind.i64 (((l.length : Nat) : Int))), (5, Value.string (St l)), (0, Value.func (Fn.yield k_) #[] #[]), (1, Value.pointer (some ⟨b, 0, none⟩))] : Fr)) (pts' := [(0, ⟨b, 0, none⟩, Value.string (St l))]) (eqs := [(Value.int IntKind.i64 ((St l).size : Int), Value.int IntKind.i64 (((l.length : Nat) : Int)))]) (by kernel_rfl) ⟨(ov_int (st_len _)), trivial⟩ (AllC_cons (sat_cell h1 1 rfl rfl) (AllC_nil _)) ?_
  refine PO.mk ?_
  change WP _ _ (CA Tryd.f38 [1]) _ _ _
  refine fk_cut ([(0, Value.func (Fn.yield k_) #[] #[]), (1, Value.pointer (some ⟨b, 0, none⟩)), (6, Value.int IntKind.i64 (((l.length : Nat) : Int))), (7, Value.int IntKind.i64 0)] : Fr) (by kernel_rfl) (fun a => WP _ _ _ _ a _) (fun lr2 => ?_)
  refine gi_blk (id := 0) (x := CA Tryd.f38 [1, 0]) (by kernel_rfl) ?_
  refine gi_lp (x := CA Tryd.f38 [1, 0, 0]) (by kernel_rfl) (fun mz_ a w => ∃ i : Nat, ∃ lr : Fr, mz_ = l.length - i ∧ (i ≤ gl l) ∧ a = mk 25 (([(0, Value.func (Fn.yield k_) #[] #[]), (1, Value.pointer (some ⟨b, 0, none⟩)), (6, Value.int IntKind.i64 (((l.length : Nat) : Int))), (7, Value.int IntKind.i64 (((i : Nat) : Int)))] : Fr) ++ lr) ∧ sat g w [J_ i, Cl b [Value.string (St l)] 9, Old wo, R]) (l.length - 0) ⟨0, _, rfl, (Nat.zero_le _), (mk_live [(0, Value.func (Fn.yield k_) #[] #[]), (1, Value.pointer (some ⟨b, 0, none⟩)), (6, Value.int IntKind.i64 (((l.length : Nat) : Int))), (7, Value.int IntKind.i64 (((0 : Nat) : Int)))] ⟨rfl, rfl, rfl, (ov_int (by omega)), trivial⟩), h1⟩ ?_
  rintro m4 a5 w6 ⟨i, lr3, rfl, hi, rfl, h7⟩
  change WP _ _ (CA Tryd.f38 [1, 0, 0]) _ _ _
  refine gi_seq (x := CA Tryd.f38 [1, 0, 0, 0]) (y := CA Tryd.f38 [1, 0, 0, 1]) (by kernel_rfl) ?_
  refine gi_pln (id := 1) (ops := RA Tryd.f38 [1, 0, 0, 0]) [0] (by kernel_rfl) (by kernel_rfl) (by kernel_rfl) ?_
  by_cases c8 : ((i : Nat) : Int) < ((l.length : Nat) : Int)
  ·
    refine plain_batch (rest := []) [⟨0, [], some (Value.bool true)⟩] (l' := ([(8, Value.bool true), (0, Value.func (Fn.yield k_) #[] #[]), (1, Value.pointer (some ⟨b, 0, none⟩)), (6, Value.int IntKind.i64 (((l.length : Nat) : Int))), (7, Value.int IntKind.i64 (((i : Nat) : Int)))] : Fr) ++ lr3) (pts' := []) (eqs := [(Value.bool (decide (((i : Nat) : Int) < ((l.length : Nat) : Int))), Value.bool true)]) (by kernel_rfl) ⟨(ov_t (by omega)), trivial⟩ (AllC_nil _) ?_
    refine PO.mk ?_
    change WP _ _ (CA Tryd.f38 [1, 0, 0, 1]) _ _ _
    refine fk_cut ([(0, Value.func (Fn.yield k_) #[] #[]), (1, Value.pointer (some ⟨b, 0, none⟩)), (6, Value.int IntKind.i64 (((l.length : Nat) : Int))), (7, Value.int IntKind.i64 (((i : Nat) : Int))), (8, Value.bool true)] : Fr) (by kernel_rfl) (fun a => WP _ _ _ _ a _) (fun lr9 => ?_)
    refine gi_seq (x := CA Tryd.f38 [1, 0, 0, 1, 0]) (y := CA Tryd.f38 [1, 0, 0, 1, 1]) (by kernel_rfl) ?_
    refine gi_cnd (x := (Operand.tmp 8)) (s := CA Tryd.f38 [1, 0, 0, 1, 0, 0]) (t := CA Tryd.f38 [1, 0, 0, 1, 0, 1]) true (by kernel_rfl) (by kernel_rfl) ?_
    change WP _ _ (CA Tryd.f38 [1, 0, 0, 1, 0, 0]) _ _ _
    refine gi_skp (by kernel_rfl) ?_
    change WP _ _ (CA Tryd.f38 [1, 0, 0, 1, 1]) _ _ _
    refine gi_seq (x := CA Tryd.f38 [1, 0, 0, 1, 1, 0]) (y := CA Tryd.f38 [1, 0, 0, 1, 1, 1]) (by kernel_rfl) ?_
    refine gi_blk (id := 1) (x := CA Tryd.f38 [1, 0, 0, 1, 1, 0, 0]) (by kernel_rfl) ?_
    refine gi_seq (x := CA Tryd.f38 [1, 0, 0, 1, 1, 0, 0, 0]) (y := CA Tryd.f38 [1, 0, 0, 1, 1, 0, 0, 1]) (by kernel_rfl) ?_
    refine gi_pln (id := 2) (ops := RA Tryd.f38 [1, 0, 0, 1, 1, 0, 0, 0]) [0, 1] (by kernel_rfl) (by kernel_rfl) (by kernel_rfl) ?_
    refine plain_batch (rest := []) [⟨0, [], none⟩, ⟨1, [], none⟩] (l' := ([(3, Value.int IntKind.i64 (((i : Nat) : Int))), (9, Value.int IntKind.i64 (((i : Nat) : Int))), (0, Value.func (Fn.yield k_) #[] #[]), (1, Value.pointer (some ⟨b, 0, none⟩)), (6, Value.int IntKind.i64 (((l.length : Nat) : Int))), (7, Value.int IntKind.i64 (((i : Nat) : Int))), (8, Value.bool true)] : Fr) ++ lr9) (pts' := []) (eqs := []) (by kernel_rfl) trivial (AllC_nil _) ?_
    refine PO.mk ?_
    change WP _ _ (CA Tryd.f38 [1, 0, 0, 1, 1, 0, 0, 1]) _ _ _
    refine fk_cut ([(0, Value.func (Fn.yield k_) #[] #[]), (1, Value.pointer (some ⟨b, 0, none⟩)), (3, Value.int IntKind.i64 (((i : Nat) : Int))), (6, Value.int IntKind.i64 (((l.length : Nat) : Int))), (7, Value.int IntKind.i64 (((i : Nat) : Int))), (8, Value.bool true)] : Fr) (by kernel_rfl) (fun a => WP _ _ _ _ a _) (fun lr10 => ?_)
    refine gi_seq (x := CA Tryd.f38 [1, 0, 0, 1, 1, 0, 0, 1, 0]) (y := CA Tryd.f38 [1, 0, 0, 1, 1, 0, 0, 1, 1]) (by kernel_rfl) ?_
    refine gi_drw (id := 3) (ops := RA Tryd.f38 [1, 0, 0, 1, 1, 0, 0, 1, 0]) (Tr.fl 0 (Tr.fl 1 (Tr.fl 2 (Tr.fl 3 (Tr.an 4 (Tr.fl 5 (Tr.fl 6 Tr.nil))))))) (by kernel_rfl) (by kernel_rfl) (by kernel_rfl) (by kernel_rfl) (by kernel_rfl) (fun _ _ d _ _ h => by cases d <;> exact h) h7 ?_
    intro w11 h12
    refine draw_law (i := 0) 10 (Value.slice (some ⟨0, 1, none⟩) 3 3) [] (by kernel_rfl) (fun _ _ => law_sliceArr (o := opA (RA Tryd.f38 [1, 0, 0, 1, 1, 0, 0, 1, 0]) 0) (x := (Operand.global 0)) (lo := (some (Operand.const (Value.int IntKind.i64 1)))) (hi := none) (b := 0) (off := 0) (by kernel_rfl) Tryd.underlying65 1 (by kernel_rfl) 1 4 1 4 (by kernel_rfl) (show fe _ _ (Operand.const (Value.int IntKind.i64 1)) = _ from by kernel_rfl) rfl (by omega) (by omega) (by omega) (by omega) 1 ((if_neg (by omega)).trans (by omega)) 3 3 (by omega) (by omega) _) (by intro q hq; cases hq) ?_
    obtain ⟨x13, hx14⟩ : ∃ x, l[i]? = some x := ⟨_, List.getElem?_eq_getElem (by omega)⟩
    have hb15 := u8_lt x13
    refine draw_batch (t := (Tr.fl 3 (Tr.an 4 (Tr.fl 5 (Tr.fl 6 Tr.nil))))) [⟨1, [Value.string (St l)], none⟩, ⟨2, [], none⟩] (l' := ([(12, Value.int IntKind.i64 (((i : Nat) : Int))), (11, Value.string (St l)), (10, Value.slice (some ⟨0, 1, none⟩) 3 3), (0, Value.func (Fn.yield k_) #[] #[]), (1, Value.pointer (some ⟨b, 0, none⟩)), (3, Value.int IntKind.i64 (((i : Nat) : Int))), (6, Value.int IntKind.i64 (((l.length : Nat) : Int))), (7, Value.int IntKind.i64 (((i : Nat) : Int))), (8, Value.bool true)] : Fr) ++ lr10) (pts' := [(1, ⟨b, 0, none⟩, Value.string (St l))]) (eqs := []) (by kernel_rfl) trivial (AllC_cons (sat_cell h12 1 rfl rfl) (AllC_nil _)) ?_
    refine draw_law (i := 3) 13 (Value.int IntKind.u8 (((x13.toNat : Nat) : Int))) [] (by kernel_rfl) (fun _ _ => law_idxStr (o := opA (RA Tryd.f38 [1, 0, 0, 1, 1, 0, 0, 1, 0]) 3) (x := (Operand.tmp 11)) (i := (Operand.tmp 12)) (k := IntKind.i64) (s := l) (z := (((i : Nat) : Int))) (b := x13) (by kernel_rfl) Tryd.underlying9 (by kernel_rfl) (by kernel_rfl) i (by omega) hx14 _) (by intro q hq; cases hq) ?_
    have h16 : sat g w11 [Old wo, J_ i, Cl b [Value.string (St l)] 9, R] := sat_sel [2, 0, 1, 3] rfl h12
    refine draw_act (i := 4) [(1, ⟨b, 0, none⟩, Value.string (St l))] (by kernel_rfl) (by kernel_rfl) ?_
    refine an_call (d := some 14) (f := 39) (args := [Value.slice (some ⟨0, 1, none⟩) 3 3, Value.int IntKind.u8 (((x13.toNat : Nat) : Int))]) (by kernel_rfl) Tryd.call39 (index_ht wo hg (((x13.toNat : Nat) : Int))) (F := [J_ i, Cl b [Value.string (St l)] 9, R]) h16 ?_
    rintro v K w17 (⟨rfl, rfl⟩) h18
    refine ⟨_, rfl, ?_⟩
    have h19 : sat g w17 [Old wo, J_ i, Cl b [Value.string (St l)] 9, R] := h18
    have hx20 := ix_bd (((x13.toNat : Nat) : Int))
    refine ⟨(AllC_cons (sat_cell h19 2 rfl rfl) (AllC_nil _)), ?_⟩
    refine draw_batch (t := Tr.nil) [⟨5, [], some (Value.int IntKind.i64 ((ix (((x13.toNat : Nat) : Int))) + 1))⟩, ⟨6, [], none⟩] (l' := ([(4, Value.int IntKind.i64 ((ix (((x13.toNat : Nat) : Int))) + 1)), (15, Value.int IntKind.i64 ((ix (((x13.toNat : Nat) : Int))) + 1)), (14, Value.int IntKind.i64 ((ix (((x13.toNat : Nat) : Int))))), (13, Value.int IntKind.u8 (((x13.toNat : Nat) : Int))), (12, Value.int IntKind.i64 (((i : Nat) : Int))), (11, Value.string (St l)), (10, Value.slice (some ⟨0, 1, none⟩) 3 3), (0, Value.func (Fn.yield k_) #[] #[]), (1, Value.pointer (some ⟨b, 0, none⟩)), (3, Value.int IntKind.i64 (((i : Nat) : Int))), (6, Value.int IntKind.i64 (((l.length : Nat) : Int))), (7, Value.int IntKind.i64 (((i : Nat) : Int))), (8, Value.bool true)] : Fr) ++ lr10) (pts' := []) (eqs := [(Value.int IntKind.i64 (IntKind.wrap IntKind.i64 (((ix (((x13.toNat : Nat) : Int)))) + 1)), Value.int IntKind.i64 ((ix (((x13.toNat : Nat) : Int))) + 1))]) (by kernel_rfl) ⟨(ov_i64 (by omega) (by omega) (by omega)), trivial⟩ (AllC_nil _) ?_
    change WP _ _ (CA Tryd.f38 [1, 0, 0, 1, 1, 0, 0, 1, 1]) _ _ _
    refine fk_cut ([(0, Value.func (Fn.yield k_) #[] #[]), (1, Value.pointer (some ⟨b, 0, none⟩)), (3, Value.int IntKind.i64 (((i : Nat) : Int))), (4, Value.int IntKind.i64 ((ix (((x13.toNat : Nat) : Int))) + 1)), (6, Value.int IntKind.i64 (((l.length : Nat) : Int))), (7, Value.int IntKind.i64 (((i : Nat) : Int))), (8, Value.bool true)] : Fr) (by kernel_rfl) (fun a => WP _ _ _ _ a _) (fun lr21 => ?_)
    refine gi_seq (x := CA Tryd.f38 [1, 0, 0, 1, 1, 0, 0, 1, 1, 0]) (y := CA Tryd.f38 [1, 0, 0, 1, 1, 0, 0, 1, 1, 1]) (by kernel_rfl) ?_
    refine gi_ply (id := 4) (ops := RA Tryd.f38 [1, 0, 0, 1, 1, 0, 0, 1, 1, 0]) [0, 1, 2, 3, 4] [5, 6, 7] (by kernel_rfl) (by kernel_rfl) (by kernel_rfl) ?_
    refine plain_batch (rest := [1, 2, 3, 4]) [⟨0, [], none⟩] (l' := ([(16, Value.int IntKind.i64 ((ix (((x13.toNat : Nat) : Int))) + 1)), (0, Value.func (Fn.yield k_) #[] #[]), (1, Value.pointer (some ⟨b, 0, none⟩)), (3, Value.int IntKind.i64 (((i : Nat) : Int))), (4, Value.int IntKind.i64 ((ix (((x13.toNat : Nat) : Int))) + 1)), (6, Value.int IntKind.i64 (((l.length : Nat) : Int))), (7, Value.int IntKind.i64 (((i : Nat) : Int))), (8, Value.bool true)] : Fr) ++ lr21) (pts' := []) (eqs := []) (by kernel_rfl) trivial (AllC_nil _) ?_
    by_cases c22 : (ix (((x13.toNat : Nat) : Int))) + 1 = 0
    ·
      refine plain_batch (rest := []) [⟨1, [], some (Value.bool true)⟩, ⟨2, [], none⟩, ⟨3, [], none⟩, ⟨4, [], none⟩] (l' := ([(20, undef), (19, undef), (18, Value.bool true), (17, Value.bool true), (16, Value.int IntKind.i64 ((ix (((x13.toNat : Nat) : Int))) + 1)), (0, Value.func (Fn.yield k_) #[] #[]), (1, Value.pointer (some ⟨b, 0, none⟩)), (3, Value.int IntKind.i64 (((i : Nat) : Int))), (4, Value.int IntKind.i64 ((ix (((x13.toNat : Nat) : Int))) + 1)), (6, Value.int IntKind.i64 (((l.length : Nat) : Int))), (7, Value.int IntKind.i64 (((i : Nat) : Int))), (8, Value.bool true)] : Fr) ++ lr21) (pts' := []) (eqs := [(Value.bool (((ix (((x13.toNat : Nat) : Int))) + 1) == 0), Value.bool true)]) (by kernel_rfl) ⟨(ov_et (by omega)), trivial⟩ (AllC_nil _) ?_
      refine PO.mk ?_
      refine yp_skip (by kernel_rfl) ?_
      refine plain_skip (by kernel_rfl : chkN (RA Tryd.f38 [1, 0, 0, 1, 1, 0, 0, 1, 1, 0]) 25 _ 5 = some (some 21)) rfl ?_
      refine plain_batch (rest := []) [⟨6, [], none⟩, ⟨7, [], none⟩] (l' := ([(23, Value.bool true), (22, undef), (21, undef), (20, undef), (19, undef), (18, Value.bool true), (17, Value.bool true), (16, Value.int IntKind.i64 ((ix (((x13.toNat : Nat) : Int))) + 1)), (0, Value.func (Fn.yield k_) #[] #[]), (1, Value.pointer (some ⟨b, 0, none⟩)), (3, Value.int IntKind.i64 (((i : Nat) : Int))), (4, Value.int IntKind.i64 ((ix (((x13.toNat : Nat) : Int))) + 1)), (6, Value.int IntKind.i64 (((l.length : Nat) : Int))), (7, Value.int IntKind.i64 (((i : Nat) : Int))), (8, Value.bool true)] : Fr) ++ lr21) (pts' := []) (eqs := []) (by kernel_rfl) trivial (AllC_nil _) ?_
      refine PO.mk ?_
      change WP _ _ (CA Tryd.f38 [1, 0, 0, 1, 1, 0, 0, 1, 1, 1]) _ _ _
      refine fk_cut ([(0, Value.func (Fn.yield k_) #[] #[]), (1, Value.pointer (some ⟨b, 0, none⟩)), (3, Value.int IntKind.i64 (((i : Nat) : Int))), (4, Value.int IntKind.i64 ((ix (((x13.toNat : Nat) : Int))) + 1)), (6, Value.int IntKind.i64 (((l.length : Nat) : Int))), (7, Value.int IntKind.i64 (((i : Nat) : Int))), (8, Value.bool true), (23, Value.bool true)] : Fr) (by kernel_rfl) (fun a => WP _ _ _ _ a _) (fun lr23 => ?_)
      refine gi_cnd (x := (Operand.tmp 23)) (s := CA Tryd.f38 [1, 0, 0, 1, 1, 0, 0, 1, 1, 1, 0]) (t := CA Tryd.f38 [1, 0, 0, 1, 1, 0, 0, 1, 1, 1, 1]) true (by kernel_rfl) (by kernel_rfl) ?_
      change WP _ _ (CA Tryd.f38 [1, 0, 0, 1, 1, 0, 0, 1, 1, 1, 0]) _ _ _
      refine gi_rt (by kernel_rfl) ?_
      repeat (first | simp only [Exit.inBlock] | simp only [Exit.then])
      refine hi_out [] (Value.tuple #[]) [] (by kernel_rfl) (by intro q hq; cases hq) ⟨⟨_, rfl⟩, ?_⟩
      have h24 : sat g w17 [J_ i, Cl b [Value.string (St l)] 9, Old wo, R] := sat_sel [1, 2, 0, 3] rfl h19
      have he_ : i = (gl l) := (gl_stop (by omega) hx14 (by unfold cd; omega))
      exact .inl (he_ ▸ h24)
    ·
      refine plain_batch (rest := []) [⟨1, [], some (Value.bool false)⟩, ⟨2, [], none⟩, ⟨3, [], none⟩, ⟨4, [], none⟩] (l' := ([(20, Value.int IntKind.i64 ((ix (((x13.toNat : Nat) : Int))) + 1)), (19, Value.func (Fn.yield k_) #[] #[]), (18, Value.bool false), (17, Value.bool false), (16, Value.int IntKind.i64 ((ix (((x13.toNat : Nat) : Int))) + 1)), (0, Value.func (Fn.yield k_) #[] #[]), (1, Value.pointer (some ⟨b, 0, none⟩)), (3, Value.int IntKind.i64 (((i : Nat) : Int))), (4, Value.int IntKind.i64 ((ix (((x13.toNat : Nat) : Int))) + 1)), (6, Value.int IntKind.i64 (((l.length : Nat) : Int))), (7, Value.int IntKind.i64 (((i : Nat) : Int))), (8, Value.bool true)] : Fr) ++ lr21) (pts' := []) (eqs := [(Value.bool (((ix (((x13.toNat : Nat) : Int))) + 1) == 0), Value.bool false)]) (by kernel_rfl) ⟨(ov_ef (by omega)), trivial⟩ (AllC_nil _) ?_
      refine PO.mk ?_
      have h25 : sat g w17 [J_ i, Cl b [Value.string (St l)] 9, Old wo, R] := sat_sel [1, 2, 0, 3] rfl h19
      change YP _ (RA Tryd.f38 [1, 0, 0, 1, 1, 0, 0, 1, 1, 0]) _ [5, 6, 7] (mk 25 (([(20, Value.int IntKind.i64 ((ix (((x13.toNat : Nat) : Int))) + 1)), (19, Value.func (Fn.yield k_) #[] #[]), (18, Value.bool false), (17, Value.bool false), (16, Value.int IntKind.i64 ((ix (((x13.toNat : Nat) : Int))) + 1)), (0, Value.func (Fn.yield k_) #[] #[]), (1, Value.pointer (some ⟨b, 0, none⟩)), (3, Value.int IntKind.i64 (((i : Nat) : Int))), (4, Value.int IntKind.i64 ((ix (((x13.toNat : Nat) : Int))) + 1)), (6, Value.int IntKind.i64 (((l.length : Nat) : Int))), (7, Value.int IntKind.i64 (((i : Nat) : Int))), (8, Value.bool true)] : Fr) ++ lr21)) _
      refine yp_yield (d := some 21) (k := k_) (args := [Value.int IntKind.i64 ((ix (((x13.toNat : Nat) : Int))) + 1)]) (xa := ((fun i => [Value.int IntKind.i64 (cd (l.getD i 0))])) i) (S1 := fun w => sat g w [J_ (i + 1), Cl b [Value.string (St l)] 9, Old wo, R]) (S2 := fun w => sat g w [E_ i, R]) (by kernel_rfl) (by kernel_rfl) (by kernel_rfl) ((by show [Value.int IntKind.i64 (cd (l.getD i 0))] = _; rw [getD_some hx14]; rfl)) (hY i ((gl_go (by omega) hx14 (by unfold cd; omega))) _ [R] h25) ?_ ?_
      ·
        intro w26 h27
        refine ⟨_, rfl, ?_⟩
        have h28 : sat g w26 [J_ (i + 1), Cl b [Value.string (St l)] 9, Old wo, R] := h27
        have hlt29 := ((gl_go (by omega) hx14 (by unfold cd; omega)) : i < (gl l))
        refine plain_batch (rest := []) [⟨6, [], none⟩, ⟨7, [], none⟩] (l' := ([(23, Value.bool false), (22, Value.bool false), (21, Value.bool true), (20, Value.int IntKind.i64 ((ix (((x13.toNat : Nat) : Int))) + 1)), (19, Value.func (Fn.yield k_) #[] #[]), (18, Value.bool false), (17, Value.bool false), (16, Value.int IntKind.i64 ((ix (((x13.toNat : Nat) : Int))) + 1)), (0, Value.func (Fn.yield k_) #[] #[]), (1, Value.pointer (some ⟨b, 0, none⟩)), (3, Value.int IntKind.i64 (((i : Nat) : Int))), (4, Value.int IntKind.i64 ((ix (((x13.toNat : Nat) : Int))) + 1)), (6, Value.int IntKind.i64 (((l.length : Nat) : Int))), (7, Value.int IntKind.i64 (((i : Nat) : Int))), (8, Value.bool true)] : Fr) ++ lr21) (pts' := []) (eqs := []) (by kernel_rfl) trivial (AllC_nil _) ?_
        refine PO.mk ?_
        change WP _ _ (CA Tryd.f38 [1, 0, 0, 1, 1, 0, 0, 1, 1, 1]) _ _ _
        refine fk_cut ([(0, Value.func (Fn.yield k_) #[] #[]), (1, Value.pointer (some ⟨b, 0, none⟩)), (3, Value.int IntKind.i64 (((i : Nat) : Int))), (4, Value.int IntKind.i64 ((ix (((x13.toNat : Nat) : Int))) + 1)), (6, Value.int IntKind.i64 (((l.length : Nat) : Int))), (7, Value.int IntKind.i64 (((i : Nat) : Int))), (8, Value.bool true), (23, Value.bool false)] : Fr) (by kernel_rfl) (fun a => WP _ _ _ _ a _) (fun lr30 => ?_)
        refine gi_cnd (x := (Operand.tmp 23)) (s := CA Tryd.f38 [1, 0, 0, 1, 1, 0, 0, 1, 1, 1, 0]) (t := CA Tryd.f38 [1, 0, 0, 1, 1, 0, 0, 1, 1, 1, 1]) false (by kernel_rfl) (by kernel_rfl) ?_
        change WP _ _ (CA Tryd.f38 [1, 0, 0, 1, 1, 0, 0, 1, 1, 1, 1]) _ _ _
        refine gi_skp (by kernel_rfl) ?_
        change WP _ _ (CA Tryd.f38 [1, 0, 0, 1, 1, 1]) _ _ _
        refine gi_pln (id := 5) (ops := RA Tryd.f38 [1, 0, 0, 1, 1, 1]) [0, 1] (by kernel_rfl) (by kernel_rfl) (by kernel_rfl) ?_
        refine plain_batch (rest := []) [⟨0, [], some (Value.int IntKind.i64 (((i : Nat) : Int) + 1))⟩, ⟨1, [], none⟩] (l' := ([(7, Value.int IntKind.i64 (((i : Nat) : Int) + 1)), (24, Value.int IntKind.i64 (((i : Nat) : Int) + 1)), (0, Value.func (Fn.yield k_) #[] #[]), (1, Value.pointer (some ⟨b, 0, none⟩)), (3, Value.int IntKind.i64 (((i : Nat) : Int))), (4, Value.int IntKind.i64 ((ix (((x13.toNat : Nat) : Int))) + 1)), (6, Value.int IntKind.i64 (((l.length : Nat) : Int))), (7, Value.int IntKind.i64 (((i : Nat) : Int))), (8, Value.bool true), (23, Value.bool false)] : Fr) ++ lr30) (pts' := []) (eqs := [(Value.int IntKind.i64 (IntKind.wrap IntKind.i64 ((((i : Nat) : Int)) + 1)), Value.int IntKind.i64 (((i : Nat) : Int) + 1))]) (by kernel_rfl) ⟨(ov_i64 (by omega) (by omega) (by omega)), trivial⟩ (AllC_nil _) ?_
        refine PO.mk ?_
        change ∃ n', n' < _ ∧ _
        refine ⟨(l.length - (i + 1)), by omega, (i + 1), _, rfl, (by omega), (mk_live [(0, Value.func (Fn.yield k_) #[] #[]), (1, Value.pointer (some ⟨b, 0, none⟩)), (6, Value.int IntKind.i64 (((l.length : Nat) : Int))), (7, Value.int IntKind.i64 ((((i + 1) : Nat) : Int)))] ⟨rfl, rfl, rfl, (ov_int (by omega)), trivial⟩), h28⟩
      ·
        intro w31 h32
        refine ⟨_, rfl, ?_⟩
        have h33 : sat g w31 [E_ i, R] := h32
        have hlt34 := ((gl_go (by omega) hx14 (by unfold cd; omega)) : i < (gl l))
        refine plain_batch (rest := []) [⟨6, [], none⟩, ⟨7, [], none⟩] (l' := ([(23, Value.bool true), (22, Value.bool true), (21, Value.bool false), (20, Value.int IntKind.i64 ((ix (((x13.toNat : Nat) : Int))) + 1)), (19, Value.func (Fn.yield k_) #[] #[]), (18, Value.bool false), (17, Value.bool false), (16, Value.int IntKind.i64 ((ix (((x13.toNat : Nat) : Int))) + 1)), (0, Value.func (Fn.yield k_) #[] #[]), (1, Value.pointer (some ⟨b, 0, none⟩)), (3, Value.int IntKind.i64 (((i : Nat) : Int))), (4, Value.int IntKind.i64 ((ix (((x13.toNat : Nat) : Int))) + 1)), (6, Value.int IntKind.i64 (((l.length : Nat) : Int))), (7, Value.int IntKind.i64 (((i : Nat) : Int))), (8, Value.bool true)] : Fr) ++ lr21) (pts' := []) (eqs := []) (by kernel_rfl) trivial (AllC_nil _) ?_
        refine PO.mk ?_
        change WP _ _ (CA Tryd.f38 [1, 0, 0, 1, 1, 0, 0, 1, 1, 1]) _ _ _
        refine fk_cut ([(0, Value.func (Fn.yield k_) #[] #[]), (1, Value.pointer (some ⟨b, 0, none⟩)), (3, Value.int IntKind.i64 (((i : Nat) : Int))), (4, Value.int IntKind.i64 ((ix (((x13.toNat : Nat) : Int))) + 1)), (6, Value.int IntKind.i64 (((l.length : Nat) : Int))), (7, Value.int IntKind.i64 (((i : Nat) : Int))), (8, Value.bool true), (23, Value.bool true)] : Fr) (by kernel_rfl) (fun a => WP _ _ _ _ a _) (fun lr35 => ?_)
        refine gi_cnd (x := (Operand.tmp 23)) (s := CA Tryd.f38 [1, 0, 0, 1, 1, 0, 0, 1, 1, 1, 0]) (t := CA Tryd.f38 [1, 0, 0, 1, 1, 0, 0, 1, 1, 1, 1]) true (by kernel_rfl) (by kernel_rfl) ?_
        change WP _ _ (CA Tryd.f38 [1, 0, 0, 1, 1, 0, 0, 1, 1, 1, 0]) _ _ _
        refine gi_rt (by kernel_rfl) ?_
        repeat (first | simp only [Exit.inBlock] | simp only [Exit.then])
        refine hi_out [] (Value.tuple #[]) [] (by kernel_rfl) (by intro q hq; cases hq) ⟨⟨_, rfl⟩, ?_⟩
        exact .inr ⟨i, (by omega), h33⟩
  ·
    refine plain_batch (rest := []) [⟨0, [], some (Value.bool false)⟩] (l' := ([(8, Value.bool false), (0, Value.func (Fn.yield k_) #[] #[]), (1, Value.pointer (some ⟨b, 0, none⟩)), (6, Value.int IntKind.i64 (((l.length : Nat) : Int))), (7, Value.int IntKind.i64 (((i : Nat) : Int)))] : Fr) ++ lr3) (pts' := []) (eqs := [(Value.bool (decide (((i : Nat) : Int) < ((l.length : Nat) : Int))), Value.bool false)]) (by kernel_rfl) ⟨(ov_f (by omega)), trivial⟩ (AllC_nil _) ?_
    refine PO.mk ?_
    change WP _ _ (CA Tryd.f38 [1, 0, 0, 1]) _ _ _
    refine fk_cut ([(0, Value.func (Fn.yield k_) #[] #[]), (1, Value.pointer (some ⟨b, 0, none⟩)), (6, Value.int IntKind.i64 (((l.length : Nat) : Int))), (7, Value.int IntKind.i64 (((i : Nat) : Int))), (8, Value.bool false)] : Fr) (by kernel_rfl) (fun a => WP _ _ _ _ a _) (fun lr36 => ?_)
    refine gi_seq (x := CA Tryd.f38 [1, 0, 0, 1, 0]) (y := CA Tryd.f38 [1, 0, 0, 1, 1]) (by kernel_rfl) ?_
    refine gi_cnd (x := (Operand.tmp 8)) (s := CA Tryd.f38 [1, 0, 0, 1, 0, 0]) (t := CA Tryd.f38 [1, 0, 0, 1, 0, 1]) false (by kernel_rfl) (by kernel_rfl) ?_
    change WP _ _ (CA Tryd.f38 [1, 0, 0, 1, 0, 1]) _ _ _
    refine gi_ext (id := 0) (by kernel_rfl) ?_
    repeat (first | simp only [Exit.inBlock] | simp only [Exit.then])
    refine hi_outn [] (Value.tuple #[]) [] (by kernel_rfl) (by intro q hq; cases hq) ⟨⟨_, rfl⟩, ?_⟩
    have he_ : i = (gl l) := (by omega)
    exact .inl (he_ ▸ h7)

set_option maxHeartbeats 4000000 in
theorem parse_ht (wo : World) (hg : Lett wo) (l : List UInt8) (hl : l.length ≤ 1099511627776) : HT Tryd.prog 12 [Value.string (St l)] [Old wo] (fun v K => ∃ p c, v = Value.tuple #[Value.slice p (prs l).1.length c, Value.int .i64 (prs l).2] ∧ K = [Sl 3 1 p (prs l).1.length c (fl eI (prs l).1), Old wo]) := by
  have hgl := gl_le l
  refine hi_in 22 ([(0, Value.string (St l))] : Fr) Tryd.func12 (by kernel_rfl) Tryd.ntmps12 rfl rfl ?_
  intro g w0 R h0
  refine gi_seq (x := CA Tryd.f12 [0]) (y := CA Tryd.f12 [1]) (by kernel_rfl) ?_
  refine gi_pln (id := 0) (ops := RA Tryd.f12 [0]) [0, 1] (by kernel_rfl) (by kernel_rfl) (by kernel_rfl) ?_
  refine plain_batch (rest := []) [⟨0, [], none⟩, ⟨1, [], none⟩] (l' := ([(3, Value.int IntKind.i64 0), (2, Value.slice none 0 0), (0, Value.string (St l))] : Fr)) (pts' := []) (eqs := []) (by kernel_rfl) trivial (AllC_nil _) ?_
  refine PO.mk ?_
  change WP _ _ (CA Tryd.f12 [1]) _ _ _
  refine fk_cut ([(0, Value.string (St l)), (2, Value.slice none 0 0), (3, Value.int IntKind.i64 0)] : Fr) (by kernel_rfl) (fun a => WP _ _ _ _ a _) (fun lr1 => ?_)
  refine gi_seq (x := CA Tryd.f12 [1, 0]) (y := CA Tryd.f12 [1, 1]) (by kernel_rfl) ?_
  refine gi_seq (x := CA Tryd.f12 [1, 0, 0]) (y := CA Tryd.f12 [1, 0, 1]) (by kernel_rfl) ?_
  refine gi_pln (id := 1) (ops := RA Tryd.f12 [1, 0, 0]) [0, 1, 2] (by kernel_rfl) (by kernel_rfl) (by kernel_rfl) ?_
  refine plain_batch (rest := [2]) [⟨0, [], none⟩, ⟨1, [], some (Value.int IntKind.i64 (((l.length : Nat) : Int)))⟩] (l' := ([(7, Value.int IntKind.i64 (((l.length : Nat) : Int))), (6, Value.string (St l)), (0, Value.string (St l)), (2, Value.slice none 0 0), (3, Value.int IntKind.i64 0)] : Fr) ++ lr1) (pts' := []) (eqs := [(Value.int IntKind.i64 ((St l).size : Int), Value.int IntKind.i64 (((l.length : Nat) : Int)))]) (by kernel_rfl) ⟨(ov_int (st_len _)), trivial⟩ (AllC_nil _) ?_
  by_cases c2 : ((l.length : Nat) : Int) > 2000
  ·
    refine plain_batch (rest := []) [⟨2, [], some (Value.bool true)⟩] (l' := ([(8, Value.bool true), (7, Value.int IntKind.i64 (((l.length : Nat) : Int))), (6, Value.string (St l)), (0, Value.string (St l)), (2, Value.slice none 0 0), (3, Value.int IntKind.i64 0)] : Fr) ++ lr1) (pts' := []) (eqs := [(Value.bool (decide (((l.length : Nat) : Int) > 2000)), Value.bool true)]) (by kernel_rfl) ⟨(ov_t (by omega)), trivial⟩ (AllC_nil _) ?_
    refine PO.mk ?_
    change WP _ _ (CA Tryd.f12 [1, 0, 1]) _ _ _
    refine fk_cut ([(0, Value.string (St l)), (2, Value.slice none 0 0), (3, Value.int IntKind.i64 0), (8, Value.bool true)] : Fr) (by kernel_rfl) (fun a => WP _ _ _ _ a _) (fun lr3 => ?_)
    refine gi_cnd (x := (Operand.tmp 8)) (s := CA Tryd.f12 [1, 0, 1, 0]) (t := CA Tryd.f12 [1, 0, 1, 1]) true (by kernel_rfl) (by kernel_rfl) ?_
    change WP _ _ (CA Tryd.f12 [1, 0, 1, 0]) _ _ _
    refine gi_seq (x := CA Tryd.f12 [1, 0, 1, 0, 0]) (y := CA Tryd.f12 [1, 0, 1, 0, 1]) (by kernel_rfl) ?_
    refine gi_pln (id := 2) (ops := RA Tryd.f12 [1, 0, 1, 0, 0]) [0, 1] (by kernel_rfl) (by kernel_rfl) (by kernel_rfl) ?_
    refine plain_batch (rest := []) [⟨0, [], none⟩, ⟨1, [], none⟩] (l' := ([(3, Value.int IntKind.i64 11), (2, Value.slice none 0 0), (0, Value.string (St l)), (2, Value.slice none 0 0), (3, Value.int IntKind.i64 0), (8, Value.bool true)] : Fr) ++ lr3) (pts' := []) (eqs := []) (by kernel_rfl) trivial (AllC_nil _) ?_
    refine PO.mk ?_
    change WP _ _ (CA Tryd.f12 [1, 0, 1, 0, 1]) _ _ _
    refine fk_cut ([(0, Value.string (St l)), (2, Value.slice none 0 0), (3, Value.int IntKind.i64 11), (8, Value.bool true)] : Fr) (by kernel_rfl) (fun a => WP _ _ _ _ a _) (fun lr4 => ?_)
    refine gi_rt (by kernel_rfl) ?_
    repeat (first | simp only [Exit.inBlock] | simp only [Exit.then])
    have h5 : sat g w0 [Sl 3 1 none 0 0 (fl eI []), Old wo, R] := sl_nil 3 1 h0
    refine hi_out [] (Value.tuple #[Value.slice none 0 0, Value.int IntKind.i64 11]) [] (by kernel_rfl) (by intro q hq; cases hq) ?_
    exact ⟨Value.tuple #[Value.slice none 0 0, Value.int IntKind.i64 11], [Sl 3 1 none 0 0 (fl eI []), Old wo], rfl, ⟨none, 0, (by rw [(prs_many (by omega))]; rfl), (by rw [(prs_many (by omega))]; rfl)⟩, h5⟩
  ·
    refine plain_batch (rest := []) [⟨2, [], some (Value.bool false)⟩] (l' := ([(8, Value.bool false), (7, Value.int IntKind.i64 (((l.length : Nat) : Int))), (6, Value.string (St l)), (0, Value.string (St l)), (2, Value.slice none 0 0), (3, Value.int IntKind.i64 0)] : Fr) ++ lr1) (pts' := []) (eqs := [(Value.bool (decide (((l.length : Nat) : Int) > 2000)), Value.bool false)]) (by kernel_rfl) ⟨(ov_f (by omega)), trivial⟩ (AllC_nil _) ?_
    refine PO.mk ?_
    change WP _ _ (CA Tryd.f12 [1, 0, 1]) _ _ _
    refine fk_cut ([(0, Value.string (St l)), (2, Value.slice none 0 0), (3, Value.int IntKind.i64 0), (8, Value.bool false)] : Fr) (by kernel_rfl) (fun a => WP _ _ _ _ a _) (fun lr6 => ?_)
    refine gi_cnd (x := (Operand.tmp 8)) (s := CA Tryd.f12 [1, 0, 1, 0]) (t := CA Tryd.f12 [1, 0, 1, 1]) false (by kernel_rfl) (by kernel_rfl) ?_
    change WP _ _ (CA Tryd.f12 [1, 0, 1, 1]) _ _ _
    refine gi_skp (by kernel_rfl) ?_
    change WP _ _ (CA Tryd.f12 [1, 1]) _ _ _
    refine gi_seq (x := CA Tryd.f12 [1, 1, 0]) (y := CA Tryd.f12 [1, 1, 1]) (by kernel_rfl) ?_
    refine gi_pln (id := 3) (ops := RA Tryd.f12 [1, 1, 0]) [0] (by kernel_rfl) (by kernel_rfl) (by kernel_rfl) ?_
    refine plain_act (i := 0) (by kernel_rfl) ?_
    refine an_new (d := 4) (fun xb_ => Value.pointer (some ⟨xb_, 0, none⟩)) (fun xb_ => Obj.cells [Value.slice none 0 0].toArray 22 (0, 0)) (fun xb_ => by kernel_rfl) (by kernel_rfl) rfl h0 ?_
    intro r7 w8 (h9 : sat g w8 [Cl r7 [Value.slice none 0 0] 22, Old wo, R])
    refine PO.mk ?_
    change WP _ _ (CA Tryd.f12 [1, 1, 1]) _ _ _
    refine fk_cut ([(0, Value.string (St l)), (2, Value.slice none 0 0), (3, Value.int IntKind.i64 0), (4, Value.pointer (some ⟨r7, 0, none⟩)), (8, Value.bool false)] : Fr) (by kernel_rfl) (fun a => WP _ _ _ _ a _) (fun lr10 => ?_)
    refine gi_seq (x := CA Tryd.f12 [1, 1, 1, 0]) (y := CA Tryd.f12 [1, 1, 1, 1]) (by kernel_rfl) ?_
    refine gi_seq (x := CA Tryd.f12 [1, 1, 1, 0, 0]) (y := CA Tryd.f12 [1, 1, 1, 0, 1]) (by kernel_rfl) ?_
    refine gi_pln (id := 4) (ops := RA Tryd.f12 [1, 1, 1, 0, 0]) [0, 1] (by kernel_rfl) (by kernel_rfl) (by kernel_rfl) ?_
    refine plain_batch (rest := [1]) [⟨0, [], none⟩] (l' := ([(9, Value.string (St l)), (0, Value.string (St l)), (2, Value.slice none 0 0), (3, Value.int IntKind.i64 0), (4, Value.pointer (some ⟨r7, 0, none⟩)), (8, Value.bool false)] : Fr) ++ lr10) (pts' := []) (eqs := []) (by kernel_rfl) trivial (AllC_nil _) ?_
    refine plain_act (i := 1) (by kernel_rfl) ?_
    refine an_call (d := some 10) (f := 31) (args := [Value.string (St l)]) (by kernel_rfl) Tryd.call31 (read_ht l) (F := [Cl r7 [Value.slice none 0 0] 22, Old wo, R]) h9 ?_
    rintro v K w12 (⟨b11, rfl, rfl⟩) h13
    refine ⟨_, rfl, ?_⟩
    have h14 : sat g w12 [Cl b11 [Value.string (St l)] 9, Cl r7 [Value.slice none 0 0] 22, Old wo, R] := h13
    refine PO.mk ?_
    change WP _ _ (CA Tryd.f12 [1, 1, 1, 0, 1]) _ _ _
    refine fk_cut ([(0, Value.string (St l)), (2, Value.slice none 0 0), (3, Value.int IntKind.i64 0), (4, Value.pointer (some ⟨r7, 0, none⟩)), (8, Value.bool false), (10, Value.func (Fn.func 38) #[] #[Value.pointer (some ⟨b11, 0, none⟩)])] : Fr) (by kernel_rfl) (fun a => WP _ _ _ _ a _) (fun lr15 => ?_)
    refine gi_blk (id := 0) (x := CA Tryd.f12 [1, 1, 1, 0, 1, 0]) (by kernel_rfl) ?_
    have h16 : sat g w12 [Sl 3 1 none 0 0 (fl eI []), Cl b11 [Value.string (St l)] 9, Cl r7 [Value.slice none 0 0] 22, Old wo, R] := sl_nil 3 1 h14
    have h17 : sat g w12 [Cl r7 [Value.slice none 0 0] 22, Sl 3 1 none 0 0 (fl eI []), Cl b11 [Value.string (St l)] 9, Old wo, R] := sat_sel [2, 0, 1, 3, 4] rfl h16
    refine gi_rf (x := (Operand.tmp 10)) (ps := #[11]) (asg := CA Tryd.f12 [1, 1, 1, 0, 1, 0, 1]) (bd := CA Tryd.f12 [1, 1, 1, 0, 1, 0, 0]) (gf := 38) (cap := [Value.pointer (some ⟨b11, 0, none⟩)]) (N := (gl l)) (xs := fun i => [Value.int IntKind.i64 ((cd (l.getD i 0)))]) (At := [Cl b11 [Value.string (St l)] 9, Old wo]) (K0 := [Cl r7 [Value.slice none 0 0] 22, Sl 3 1 none 0 0 (fl eI [])]) (L := [R]) (fun i => [(11, Value.int IntKind.i64 ((cd (l.getD i 0))))] ++ (([(0, Value.string (St l)), (2, Value.slice none 0 0), (3, Value.int IntKind.i64 0), (4, Value.pointer (some ⟨r7, 0, none⟩)), (8, Value.bool false), (10, Value.func (Fn.func 38) #[] #[Value.pointer (some ⟨b11, 0, none⟩)])] : Fr) ++ lr15)) (fun i => ([(5, Value.int IntKind.i64 ((cd (l.getD i 0)))), (11, Value.int IntKind.i64 ((cd (l.getD i 0))))] : Fr) ++ (([(0, Value.string (St l)), (2, Value.slice none 0 0), (3, Value.int IntKind.i64 0), (4, Value.pointer (some ⟨r7, 0, none⟩)), (8, Value.bool false), (10, Value.func (Fn.func 38) #[] #[Value.pointer (some ⟨b11, 0, none⟩)])] : Fr) ++ lr15)) (fun i K => ∃ p : Option Addr, ∃ c : Nat, K = [Cl r7 [Value.slice p i c] 22, Sl 3 1 p i c (fl eI ((l.take i).map cd))]) (fun c i K => False) (by kernel_rfl) (by kernel_rfl) Tryd.call38 (read_it wo hg b11 l (by omega)) ⟨none, 0, rfl⟩ h17 (fun _ _ => rfl) (fun _ _ => rf_frame1 rfl) ?_ ?_ ?_ ?_
    ·
      intro i hi_ lp_ w18 K_ hk19
      change WP _ _ (CA Tryd.f12 [1, 1, 1, 0, 1, 0, 1]) _ (mk 22 (([(11, Value.int IntKind.i64 ((cd (l.getD i 0)))), (0, Value.string (St l)), (2, Value.slice none 0 0), (3, Value.int IntKind.i64 0), (4, Value.pointer (some ⟨r7, 0, none⟩)), (8, Value.bool false), (10, Value.func (Fn.func 38) #[] #[Value.pointer (some ⟨b11, 0, none⟩)])] : Fr) ++ lr15)) _
      refine gi_pln (id := 5) (ops := RA Tryd.f12 [1, 1, 1, 0, 1, 0, 1]) [0] (by kernel_rfl) (by kernel_rfl) (by kernel_rfl) ?_
      refine plain_batch (rest := []) [⟨0, [], none⟩] (l' := ([(5, Value.int IntKind.i64 ((cd (l.getD i 0)))), (11, Value.int IntKind.i64 ((cd (l.getD i 0)))), (0, Value.string (St l)), (2, Value.slice none 0 0), (3, Value.int IntKind.i64 0), (4, Value.pointer (some ⟨r7, 0, none⟩)), (8, Value.bool false), (10, Value.func (Fn.func 38) #[] #[Value.pointer (some ⟨b11, 0, none⟩)])] : Fr) ++ lr15) (pts' := []) (eqs := []) (by kernel_rfl) trivial (AllC_nil _) ?_
      refine PO.mk ?_
      exact hk19
    ·
      rintro i hi22 lp_ w20 K_ G ⟨p, c, rfl⟩ h21
      have h23 : sat g w20 [Cl r7 [Value.slice p i c] 22, Sl 3 1 p i c (fl eI ((l.take i).map cd)), Cl b11 [Value.string (St l)] 9, Old wo, G] := h21
      change WP _ _ (CA Tryd.f12 [1, 1, 1, 0, 1, 0, 0]) _ (mk 22 (([(5, Value.int IntKind.i64 ((cd (l.getD i 0)))), (11, Value.int IntKind.i64 ((cd (l.getD i 0)))), (0, Value.string (St l)), (2, Value.slice none 0 0), (3, Value.int IntKind.i64 0), (4, Value.pointer (some ⟨r7, 0, none⟩)), (8, Value.bool false), (10, Value.func (Fn.func 38) #[] #[Value.pointer (some ⟨b11, 0, none⟩)])] : Fr) ++ lr15)) _
      obtain ⟨_, _⟩ := sl_le (sat_sel [1] rfl h23)
      refine gi_blk (id := 1) (x := CA Tryd.f12 [1, 1, 1, 0, 1, 0, 0, 0]) (by kernel_rfl) ?_
      refine gi_pln (id := 6) (ops := RA Tryd.f12 [1, 1, 1, 0, 1, 0, 0, 0]) [0, 1, 2, 3, 4] (by kernel_rfl) (by kernel_rfl) (by kernel_rfl) ?_
      refine plain_batch (rest := [2, 3, 4]) [⟨0, [Value.slice p i c], none⟩, ⟨1, [], none⟩] (l' := ([(13, Value.int IntKind.i64 ((cd (l.getD i 0)))), (12, Value.slice p i c), (5, Value.int IntKind.i64 ((cd (l.getD i 0)))), (11, Value.int IntKind.i64 ((cd (l.getD i 0)))), (0, Value.string (St l)), (2, Value.slice none 0 0), (3, Value.int IntKind.i64 0), (4, Value.pointer (some ⟨r7, 0, none⟩)), (8, Value.bool false), (10, Value.func (Fn.func 38) #[] #[Value.pointer (some ⟨b11, 0, none⟩)])] : Fr) ++ lr15) (pts' := [(0, ⟨r7, 0, none⟩, Value.slice p i c)]) (eqs := []) (by kernel_rfl) trivial (AllC_cons (sat_cell h23 0 rfl rfl) (AllC_nil _)) ?_
      refine plain_act (i := 2) (by kernel_rfl) ?_
      refine an_new (d := 14) (fun xb_ => Value.slice (some ⟨xb_, 0, none⟩) 1 1) (fun xb_ => Obj.cells [Value.int IntKind.i64 ((cd (l.getD i 0)))].toArray 3 (0, 0)) (fun xb_ => by kernel_rfl) (by kernel_rfl) rfl h23 ?_
      intro r24 w25 (h26 : sat g w25 [Cl r24 [Value.int IntKind.i64 ((cd (l.getD i 0)))] 3, Cl r7 [Value.slice p i c] 22, Sl 3 1 p i c (fl eI ((l.take i).map cd)), Cl b11 [Value.string (St l)] 9, Old wo, G])
      have h27 : sat g w25 [Sl 3 1 p i c (fl eI ((l.take i).map cd)), Cl r24 [Value.int IntKind.i64 ((cd (l.getD i 0)))] 3, Cl r7 [Value.slice p i c] 22, Cl b11 [Value.string (St l)] 9, Old wo, G] := sat_sel [2, 0, 1, 3, 4, 5] rfl h26
      refine plain_act (i := 3) (by kernel_rfl) ?_
      refine an_append (d := 15) (sz := 1) (s := (Operand.tmp 12)) (x := (Operand.tmp 14)) (z := Value.int IntKind.i64 0) (p := p) (m := i) (c := c) (k := 1) (c2 := 1) (a := ⟨r24, 0, none⟩) (by_ := 8) (by kernel_rfl) (by kernel_rfl) rfl Tryd.underlying22 (by kernel_rfl) rfl (by decide) (by kernel_rfl) (by kernel_rfl) h27 (fl eI [(cd (l.getD i 0))]) rfl (fun j u hj => by rw [add_off]; exact sat_cell h27 1 rfl (by rw [Nat.zero_add]; exact hj)) (fl_one eI_ok _) (by omega) (by omega) (i + 1) (by omega) ?_
      intro p28 cap29 w30 (h31 : sat g w30 [Sl 3 1 p28 (i + 1) cap29 ((fl eI ((l.take i).map cd)) ++ (fl eI [(cd (l.getD i 0))])), Cl r24 [Value.int IntKind.i64 ((cd (l.getD i 0)))] 3, Cl r7 [Value.slice p i c] 22, Cl b11 [Value.string (St l)] 9, Old wo, G])
      have h32 : sat g w30 [Sl 3 1 p28 (i + 1) cap29 (fl eI (((l.take i).map cd) ++ [(cd (l.getD i 0))])), Cl r24 [Value.int IntKind.i64 ((cd (l.getD i 0)))] 3, Cl r7 [Value.slice p i c] 22, Cl b11 [Value.string (St l)] 9, Old wo, G] := sat_imp h31 (fun _ hh => by rw [fl_app]; exact hh)
      obtain ⟨hn33, hn34⟩ := sl_le h32
      have h35 : sat g w30 [Cl r7 [Value.slice p i c] 22, Sl 3 1 p28 (i + 1) cap29 (fl eI (((l.take i).map cd) ++ [(cd (l.getD i 0))])), Cl r24 [Value.int IntKind.i64 ((cd (l.getD i 0)))] 3, Cl b11 [Value.string (St l)] 9, Old wo, G] := sat_sel [2, 0, 1, 3, 4, 5] rfl h32
      refine plain_act (i := 4) (by kernel_rfl) ?_
      refine an_store [(0, Value.slice p28 (i + 1) cap29)] (cs' := [Value.slice p28 (i + 1) cap29]) (by kernel_rfl) (by kernel_rfl) (allq ⟨⟨by simp, rfl⟩, trivial⟩) rfl h35 ?_
      intro w36 (h37 : sat g w36 [Cl r7 [Value.slice p28 (i + 1) cap29] 22, Sl 3 1 p28 (i + 1) cap29 (fl eI (((l.take i).map cd) ++ [(cd (l.getD i 0))])), Cl r24 [Value.int IntKind.i64 ((cd (l.getD i 0)))] 3, Cl b11 [Value.string (St l)] 9, Old wo, G])
      refine PO.mk ?_
      repeat (first | simp only [Exit.inBlock] | simp only [Exit.then])
      obtain ⟨x38, hx39⟩ : ∃ x, l[i]? = some x := ⟨_, List.getElem?_eq_getElem (by omega)⟩
      have h40 : sat g w36 [Sl 3 1 p28 (i + 1) cap29 (fl eI (((l.take i).map cd) ++ [(cd (l.getD i 0))])), Cl r7 [Value.slice p28 (i + 1) cap29] 22, Cl r24 [Value.int IntKind.i64 ((cd (l.getD i 0)))] 3, Cl b11 [Value.string (St l)] 9, Old wo, G] := sat_sel [1, 0, 2, 3, 4, 5] rfl h37
      have h41 : sat g w36 [Sl 3 1 p28 (i + 1) cap29 (fl eI ((l.take (i + 1)).map cd)), Cl r7 [Value.slice p28 (i + 1) cap29] 22, Cl r24 [Value.int IntKind.i64 ((cd (l.getD i 0)))] 3, Cl b11 [Value.string (St l)] 9, Old wo, G] := (show (((l.take i).map cd) ++ [(cd (l.getD i 0))]) = ((l.take (i + 1)).map cd) from (tk_eq hx39 (congrArg cd (getD_some hx39).symm))) ▸ h40
      have h42 : sat g w36 [Cl r7 [Value.slice p28 (i + 1) cap29] 22, Sl 3 1 p28 (i + 1) cap29 (fl eI ((l.take (i + 1)).map cd)), Cl b11 [Value.string (St l)] 9, Old wo, G, Cl r24 [Value.int IntKind.i64 ((cd (l.getD i 0)))] 3] := sat_sel [1, 0, 3, 4, 5, 2] rfl h41
      have h43 : sat g w36 [Cl r7 [Value.slice p28 (i + 1) cap29] 22, Sl 3 1 p28 (i + 1) cap29 (fl eI ((l.take (i + 1)).map cd)), Cl b11 [Value.string (St l)] 9, Old wo, G] := sat_sel [0, 1, 2, 3, 4] rfl h42
      exact ⟨_, ⟨p28, cap29, rfl⟩, h43⟩
    ·
      rintro D44 w45 K_ ⟨p, c, rfl⟩ h46
      have h47 : sat g w45 [pt D44 (Obj.deferred (some [])), Cl r7 [Value.slice p ((gl l)) c] 22, Sl 3 1 p ((gl l)) c (fl eI ((l.take (gl l)).map cd)), Cl b11 [Value.string (St l)] 9, Old wo, R] := h46
      change WP _ _ (CA Tryd.f12 [1, 1, 1, 1]) _ _ _
      refine fk_cut ([(0, Value.string (St l)), (2, Value.slice none 0 0), (3, Value.int IntKind.i64 0), (4, Value.pointer (some ⟨r7, 0, none⟩)), (8, Value.bool false), (10, Value.func (Fn.func 38) #[] #[Value.pointer (some ⟨b11, 0, none⟩)])] : Fr) (by kernel_rfl) (fun a => WP _ _ _ _ a _) (fun lr48 => ?_)
      refine gi_seq (x := CA Tryd.f12 [1, 1, 1, 1, 0]) (y := CA Tryd.f12 [1, 1, 1, 1, 1]) (by kernel_rfl) ?_
      refine gi_seq (x := CA Tryd.f12 [1, 1, 1, 1, 0, 0]) (y := CA Tryd.f12 [1, 1, 1, 1, 0, 1]) (by kernel_rfl) ?_
      refine gi_pln (id := 7) (ops := RA Tryd.f12 [1, 1, 1, 1, 0, 0]) [0, 1, 2, 3, 4] (by kernel_rfl) (by kernel_rfl) (by kernel_rfl) ?_
      refine plain_batch (rest := [4]) [⟨0, [Value.slice p ((gl l)) c], none⟩, ⟨1, [], none⟩, ⟨2, [], none⟩, ⟨3, [], some (Value.int IntKind.i64 (((l.length : Nat) : Int)))⟩] (l' := ([(19, Value.int IntKind.i64 (((l.length : Nat) : Int))), (18, Value.string (St l)), (17, Value.int IntKind.i64 (((gl l : Nat) : Int))), (16, Value.slice p ((gl l)) c), (0, Value.string (St l)), (2, Value.slice none 0 0), (3, Value.int IntKind.i64 0), (4, Value.pointer (some ⟨r7, 0, none⟩)), (8, Value.bool false), (10, Value.func (Fn.func 38) #[] #[Value.pointer (some ⟨b11, 0, none⟩)])] : Fr) ++ lr48) (pts' := [(0, ⟨r7, 0, none⟩, Value.slice p ((gl l)) c)]) (eqs := [(Value.int IntKind.i64 ((St l).size : Int), Value.int IntKind.i64 (((l.length : Nat) : Int)))]) (by kernel_rfl) ⟨(ov_int (st_len _)), trivial⟩ (AllC_cons (sat_cell h47 1 rfl rfl) (AllC_nil _)) ?_
      by_cases c49 : ((gl l : Nat) : Int) < ((l.length : Nat) : Int)
      ·
        refine plain_batch (rest := []) [⟨4, [], some (Value.bool true)⟩] (l' := ([(20, Value.bool true), (19, Value.int IntKind.i64 (((l.length : Nat) : Int))), (18, Value.string (St l)), (17, Value.int IntKind.i64 (((gl l : Nat) : Int))), (16, Value.slice p ((gl l)) c), (0, Value.string (St l)), (2, Value.slice none 0 0), (3, Value.int IntKind.i64 0), (4, Value.pointer (some ⟨r7, 0, none⟩)), (8, Value.bool false), (10, Value.func (Fn.func 38) #[] #[Value.pointer (some ⟨b11, 0, none⟩)])] : Fr) ++ lr48) (pts' := []) (eqs := [(Value.bool (decide (((gl l : Nat) : Int) < ((l.length : Nat) : Int))), Value.bool true)]) (by kernel_rfl) ⟨(ov_t (by omega)), trivial⟩ (AllC_nil _) ?_
        refine PO.mk ?_
        change WP _ _ (CA Tryd.f12 [1, 1, 1, 1, 0, 1]) _ _ _
        refine fk_cut ([(0, Value.string (St l)), (2, Value.slice none 0 0), (3, Value.int IntKind.i64 0), (4, Value.pointer (some ⟨r7, 0, none⟩)), (8, Value.bool false), (10, Value.func (Fn.func 38) #[] #[Value.pointer (some ⟨b11, 0, none⟩)]), (20, Value.bool true)] : Fr) (by kernel_rfl) (fun a => WP _ _ _ _ a _) (fun lr50 => ?_)
        refine gi_cnd (x := (Operand.tmp 20)) (s := CA Tryd.f12 [1, 1, 1, 1, 0, 1, 0]) (t := CA Tryd.f12 [1, 1, 1, 1, 0, 1, 1]) true (by kernel_rfl) (by kernel_rfl) ?_
        change WP _ _ (CA Tryd.f12 [1, 1, 1, 1, 0, 1, 0]) _ _ _
        refine gi_seq (x := CA Tryd.f12 [1, 1, 1, 1, 0, 1, 0, 0]) (y := CA Tryd.f12 [1, 1, 1, 1, 0, 1, 0, 1]) (by kernel_rfl) ?_
        refine gi_pln (id := 8) (ops := RA Tryd.f12 [1, 1, 1, 1, 0, 1, 0, 0]) [0, 1] (by kernel_rfl) (by kernel_rfl) (by kernel_rfl) ?_
        refine plain_batch (rest := []) [⟨0, [], none⟩, ⟨1, [], none⟩] (l' := ([(3, Value.int IntKind.i64 9), (2, Value.slice none 0 0), (0, Value.string (St l)), (2, Value.slice none 0 0), (3, Value.int IntKind.i64 0), (4, Value.pointer (some ⟨r7, 0, none⟩)), (8, Value.bool false), (10, Value.func (Fn.func 38) #[] #[Value.pointer (some ⟨b11, 0, none⟩)]), (20, Value.bool true)] : Fr) ++ lr50) (pts' := []) (eqs := []) (by kernel_rfl) trivial (AllC_nil _) ?_
        refine PO.mk ?_
        change WP _ _ (CA Tryd.f12 [1, 1, 1, 1, 0, 1, 0, 1]) _ _ _
        refine fk_cut ([(0, Value.string (St l)), (2, Value.slice none 0 0), (3, Value.int IntKind.i64 9), (4, Value.pointer (some ⟨r7, 0, none⟩)), (8, Value.bool false), (10, Value.func (Fn.func 38) #[] #[Value.pointer (some ⟨b11, 0, none⟩)]), (20, Value.bool true)] : Fr) (by kernel_rfl) (fun a => WP _ _ _ _ a _) (fun lr51 => ?_)
        refine gi_rt (by kernel_rfl) ?_
        repeat (first | simp only [Exit.inBlock] | simp only [Exit.then])
        have h52 : sat g w45 [Sl 3 1 none 0 0 (fl eI []), pt D44 (Obj.deferred (some [])), Cl r7 [Value.slice p ((gl l)) c] 22, Sl 3 1 p ((gl l)) c (fl eI ((l.take (gl l)).map cd)), Cl b11 [Value.string (St l)] 9, Old wo, R] := sl_nil 3 1 h47
        have h53 : sat g w45 [pt D44 (Obj.deferred (some [])), Sl 3 1 none 0 0 (fl eI []), Cl r7 [Value.slice p ((gl l)) c] 22, Sl 3 1 p ((gl l)) c (fl eI ((l.take (gl l)).map cd)), Cl b11 [Value.string (St l)] 9, Old wo, R] := sat_sel [1, 0, 2, 3, 4, 5, 6] rfl h52
        refine hi_out1 h53 [] (Value.tuple #[Value.slice none 0 0, Value.int IntKind.i64 9]) [] (by kernel_rfl) (fun w55 h54 => ⟨by (intro q hq; cases hq), ?_⟩)
        have h56 : sat g w55 [Sl 3 1 none 0 0 (fl eI []), Old wo, pt D44 (Obj.deferred none), Cl r7 [Value.slice p ((gl l)) c] 22, Sl 3 1 p ((gl l)) c (fl eI ((l.take (gl l)).map cd)), Cl b11 [Value.string (St l)] 9, R] := sat_sel [1, 5, 0, 2, 3, 4, 6] rfl h54
        have h57 : sat g w55 [Sl 3 1 none 0 0 (fl eI []), Old wo, R] := sat_sel [0, 1, 6] rfl h56
        exact ⟨Value.tuple #[Value.slice none 0 0, Value.int IntKind.i64 9], [Sl 3 1 none 0 0 (fl eI []), Old wo], rfl, ⟨none, 0, (by rw [(prs_form (by omega) (by omega))]; rfl), (by rw [(prs_form (by omega) (by omega))]; rfl)⟩, h57⟩
      ·
        refine plain_batch (rest := []) [⟨4, [], some (Value.bool false)⟩] (l' := ([(20, Value.bool false), (19, Value.int IntKind.i64 (((l.length : Nat) : Int))), (18, Value.string (St l)), (17, Value.int IntKind.i64 (((gl l : Nat) : Int))), (16, Value.slice p ((gl l)) c), (0, Value.string (St l)), (2, Value.slice none 0 0), (3, Value.int IntKind.i64 0), (4, Value.pointer (some ⟨r7, 0, none⟩)), (8, Value.bool false), (10, Value.func (Fn.func 38) #[] #[Value.pointer (some ⟨b11, 0, none⟩)])] : Fr) ++ lr48) (pts' := []) (eqs := [(Value.bool (decide (((gl l : Nat) : Int) < ((l.length : Nat) : Int))), Value.bool false)]) (by kernel_rfl) ⟨(ov_f (by omega)), trivial⟩ (AllC_nil _) ?_
        refine PO.mk ?_
        change WP _ _ (CA Tryd.f12 [1, 1, 1, 1, 0, 1]) _ _ _
        refine fk_cut ([(0, Value.string (St l)), (2, Value.slice none 0 0), (3, Value.int IntKind.i64 0), (4, Value.pointer (some ⟨r7, 0, none⟩)), (8, Value.bool false), (10, Value.func (Fn.func 38) #[] #[Value.pointer (some ⟨b11, 0, none⟩)]), (20, Value.bool false)] : Fr) (by kernel_rfl) (fun a => WP _ _ _ _ a _) (fun lr58 => ?_)
        refine gi_cnd (x := (Operand.tmp 20)) (s := CA Tryd.f12 [1, 1, 1, 1, 0, 1, 0]) (t := CA Tryd.f12 [1, 1, 1, 1, 0, 1, 1]) false (by kernel_rfl) (by kernel_rfl) ?_
        change WP _ _ (CA Tryd.f12 [1, 1, 1, 1, 0, 1, 1]) _ _ _
        refine gi_skp (by kernel_rfl) ?_
        change WP _ _ (CA Tryd.f12 [1, 1, 1, 1, 1]) _ _ _
        refine gi_seq (x := CA Tryd.f12 [1, 1, 1, 1, 1, 0]) (y := CA Tryd.f12 [1, 1, 1, 1, 1, 1]) (by kernel_rfl) ?_
        refine gi_pln (id := 9) (ops := RA Tryd.f12 [1, 1, 1, 1, 1, 0]) [0, 1, 2] (by kernel_rfl) (by kernel_rfl) (by kernel_rfl) ?_
        refine plain_batch (rest := []) [⟨0, [Value.slice p ((gl l)) c], none⟩, ⟨1, [], none⟩, ⟨2, [], none⟩] (l' := ([(3, Value.int IntKind.i64 0), (2, Value.slice p ((gl l)) c), (21, Value.slice p ((gl l)) c), (0, Value.string (St l)), (2, Value.slice none 0 0), (3, Value.int IntKind.i64 0), (4, Value.pointer (some ⟨r7, 0, none⟩)), (8, Value.bool false), (10, Value.func (Fn.func 38) #[] #[Value.pointer (some ⟨b11, 0, none⟩)]), (20, Value.bool false)] : Fr) ++ lr58) (pts' := [(0, ⟨r7, 0, none⟩, Value.slice p ((gl l)) c)]) (eqs := []) (by kernel_rfl) trivial (AllC_cons (sat_cell h47 1 rfl rfl) (AllC_nil _)) ?_
        refine PO.mk ?_
        change WP _ _ (CA Tryd.f12 [1, 1, 1, 1, 1, 1]) _ _ _
        refine fk_cut ([(0, Value.string (St l)), (2, Value.slice p ((gl l)) c), (3, Value.int IntKind.i64 0), (4, Value.pointer (some ⟨r7, 0, none⟩)), (8, Value.bool false), (10, Value.func (Fn.func 38) #[] #[Value.pointer (some ⟨b11, 0, none⟩)]), (20, Value.bool false)] : Fr) (by kernel_rfl) (fun a => WP _ _ _ _ a _) (fun lr59 => ?_)
        refine gi_rt (by kernel_rfl) ?_
        repeat (first | simp only [Exit.inBlock] | simp only [Exit.then])
        have h60 : sat g w45 [Sl 3 1 p ((gl l)) c (fl eI ((l.take (gl l)).map cd)), pt D44 (Obj.deferred (some [])), Cl r7 [Value.slice p ((gl l)) c] 22, Cl b11 [Value.string (St l)] 9, Old wo, R] := sat_sel [2, 0, 1, 3, 4, 5] rfl h47
        have h61 : sat g w45 [Sl 3 1 p l.length c (fl eI ((l.take (gl l)).map cd)), pt D44 (Obj.deferred (some [])), Cl r7 [Value.slice p ((gl l)) c] 22, Cl b11 [Value.string (St l)] 9, Old wo, R] := (show (gl l) = l.length from (by omega)) ▸ h60
        have h62 : sat g w45 [Sl 3 1 p l.length c (fl eI (l.map cd)), pt D44 (Obj.deferred (some [])), Cl r7 [Value.slice p ((gl l)) c] 22, Cl b11 [Value.string (St l)] 9, Old wo, R] := (show ((l.take (gl l)).map cd) = (l.map cd) from (tk_all (by omega))) ▸ h61
        have h63 : sat g w45 [Sl 3 1 p (((l.map cd).length)) c (fl eI (l.map cd)), pt D44 (Obj.deferred (some [])), Cl r7 [Value.slice p ((gl l)) c] 22, Cl b11 [Value.string (St l)] 9, Old wo, R] := (show l.length = (l.map cd).length from (List.length_map _).symm) ▸ h62
        have h64 : sat g w45 [pt D44 (Obj.deferred (some [])), Sl 3 1 p (((l.map cd).length)) c (fl eI (l.map cd)), Cl r7 [Value.slice p ((gl l)) c] 22, Cl b11 [Value.string (St l)] 9, Old wo, R] := sat_sel [1, 0, 2, 3, 4, 5] rfl h63
        refine hi_out1 h64 [] (Value.tuple #[Value.slice p ((gl l)) c, Value.int IntKind.i64 0]) [] (by kernel_rfl) (fun w66 h65 => ⟨by (intro q hq; cases hq), ?_⟩)
        have h67 : sat g w66 [Sl 3 1 p (((l.map cd).length)) c (fl eI (l.map cd)), Old wo, pt D44 (Obj.deferred none), Cl r7 [Value.slice p ((gl l)) c] 22, Cl b11 [Value.string (St l)] 9, R] := sat_sel [1, 4, 0, 2, 3, 5] rfl h65
        have h68 : sat g w66 [Sl 3 1 p (((l.map cd).length)) c (fl eI (l.map cd)), Old wo, R] := sat_sel [0, 1, 5] rfl h67
        exact ⟨Value.tuple #[Value.slice p ((gl l)) c, Value.int IntKind.i64 0], [Sl 3 1 p (((l.map cd).length)) c (fl eI (l.map cd)), Old wo], rfl, ⟨p, c, (by rw [(prs_ok (by omega) (by omega)), show (gl l) = l.length from by omega, ← List.length_map cd] <;> rfl), (by rw [(prs_ok (by omega) (by omega))])⟩, h68⟩
    ·
      intro _ _ _ _ _ _ hf_; exact hf_.elim

end Go.Proofs.YtjedglbadkbneaaDoor
