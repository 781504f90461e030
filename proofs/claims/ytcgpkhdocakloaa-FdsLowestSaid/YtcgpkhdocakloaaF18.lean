/- Walks, printed by my generator gen18.py. -/
import Derived.Test.YtcgpkhdocakloaaF12
import Derived.Test.YtcgpkhdocakloaaDel
namespace Go.Proofs.Ytcgpkhdocakloaa
theorem del_fin {L : List Ky} {m k : Nat} (hl : L.length = m) (hk : k < m) (q j r : Nat) (hq : q + 1 = m) (hj : j = k + 1) (hr : r + k = q) (zs rest : List Value) : ((fl eO (L.take k ++ (L.drop j).take r ++ L.drop q)).take (q * 3) ++ zs ++ rest).take (q * 3) = fl eO (L.eraseIdx k) := by
  subst hj
  have hl1 : (L.take k ++ (L.drop (k + 1)).take r).length = q := by
    simp only [List.length_append, List.length_take, List.length_drop, hl]
    omega
  have h1 : (L.take k ++ (L.drop (k + 1)).take r ++ L.drop q).take q = L.eraseIdx k := by
    rw [List.take_append_of_le_length (by omega), List.take_of_length_le (by omega), List.eraseIdx_eq_take_drop_succ, List.take_of_length_le (l := L.drop (k + 1)) (by rw [List.length_drop, hl]; omega)]
  rw [fl_take eO_ok, h1, List.append_assoc, List.take_append_of_le_length, List.take_of_length_le]
  · rw [fl_len eO_ok, List.length_eraseIdx, hl, if_pos hk]
    omega
  · rw [fl_len eO_ok, List.length_eraseIdx, hl, if_pos hk]
    omega

set_option maxHeartbeats 4000000 in
theorem sdel_ht (p : Option Addr) (m c k : Nat) (L : List Ky) (hk : k < m) (hm : m ≤ 1000000) : HT Try.prog 27 [Value.slice p m c, Value.int IntKind.i64 (((k : Nat) : Int)), Value.int IntKind.i64 (((k : Nat) : Int) + 1)] [Sl 28 3 p m c (fl eO L)] (fun v K => v = Value.slice p (m - 1) c ∧ K = [Sl 28 3 p (m - 1) c (fl eO (L.eraseIdx k))]) := by
  refine hi_in 33 ([(0, .slice p m c), (1, .int .i64 (((k : Nat) : Int))), (2, .int .i64 (((k : Nat) : Int) + 1))] : Fr) Try.func27 (by kernel_rfl) Try.ntmps27 rfl rfl ?_
  intro g w0 R h0
  have hLl_ := fl_n eO_ok (by decide) h0
  obtain ⟨hn1, hn2⟩ := sl_le h0
  refine gi_seq (x := CA Try.f27 [0]) (y := CA Try.f27 [1]) (by kernel_rfl) ?_
  refine gi_pln (id := 0) (ops := RA Try.f27 [0]) [0] (by kernel_rfl) (by kernel_rfl) (by kernel_rfl) ?_
  refine plain_batch (rest := []) [⟨0, [], none⟩] (l' := ([(6, .slice none 0 0), (0, .slice p m c), (1, .int .i64 (((k : Nat) : Int))), (2, .int .i64 (((k : Nat) : Int) + 1))] : Fr)) (pts' := []) (eqs := []) (by kernel_rfl) trivial (AllC_nil _) ?_
  refine PO.mk ?_
  change WP _ _ (CA Try.f27 [1]) _ _ _
  refine fk_cut ([(0, .slice p m c), (1, .int .i64 (((k : Nat) : Int))), (2, .int .i64 (((k : Nat) : Int) + 1)), (6, .slice none 0 0)] : Fr) (by kernel_rfl) (fun a => WP _ _ _ _ a _) (fun lr3 => ?_)
  refine gi_seq (x := CA Try.f27 [1, 0]) (y := CA Try.f27 [1, 1]) (by kernel_rfl) ?_
  refine gi_pln (id := 1) (ops := RA Try.f27 [1, 0]) [0, 1, 2, 3, 4, 5] (by kernel_rfl) (by kernel_rfl) (by kernel_rfl) ?_
  obtain ⟨b4, hp5⟩ := sl_ptr0 (j := 0) h0 rfl (by omega)
  refine plain_batch (rest := [5]) [⟨0, [], none⟩, ⟨1, [], none⟩, ⟨2, [], none⟩, ⟨3, [], none⟩, ⟨4, [], none⟩] (l' := ([(12, .int .i64 (((m : Nat) : Int))), (11, .slice p m c), (10, .int .i64 (((k : Nat) : Int) + 1)), (9, .int .i64 (((k : Nat) : Int))), (8, .slice p m c), (0, .slice p m c), (1, .int .i64 (((k : Nat) : Int))), (2, .int .i64 (((k : Nat) : Int) + 1)), (6, .slice none 0 0)] : Fr) ++ lr3) (pts' := []) (eqs := []) (by kernel_rfl) trivial (AllC_nil _) ?_
  refine plain_law (i := 5) 13 (.slice (some ⟨b4, (if m = k then 0 else k * 3), none⟩) 1 (m - k)) (by kernel_rfl) (law_slice3 (p := p) (b := b4) (off := 0) (m := m) (c := c) (x := (Operand.tmp 8)) (y := (Operand.tmp 9)) (z := (Operand.tmp 10)) (u := (Operand.tmp 12)) (zi := (((k : Nat) : Int))) (zj := (((k : Nat) : Int) + 1)) (zq := (((m : Nat) : Int))) (by kernel_rfl) Try.underlying42 3 (by kernel_rfl) (by kernel_rfl) hp5 (by kernel_rfl) (by kernel_rfl) (by kernel_rfl) k (k + 1) m (by omega) (by omega) (by omega) (by omega) (by omega) (by omega) ((if m = k then 0 else k * 3)) (ite_r (by omega)) 1 (m - k) (by omega) (by omega) _) ?_
  refine PO.mk ?_
  change WP _ _ (CA Try.f27 [1, 1]) _ _ _
  refine fk_cut ([(0, .slice p m c), (1, .int .i64 (((k : Nat) : Int))), (2, .int .i64 (((k : Nat) : Int) + 1)), (6, .slice none 0 0)] : Fr) (by kernel_rfl) (fun a => WP _ _ _ _ a _) (fun lr6 => ?_)
  refine gi_seq (x := CA Try.f27 [1, 1, 0]) (y := CA Try.f27 [1, 1, 1]) (by kernel_rfl) ?_
  refine gi_seq (x := CA Try.f27 [1, 1, 0, 0]) (y := CA Try.f27 [1, 1, 0, 1]) (by kernel_rfl) ?_
  refine gi_pln (id := 2) (ops := RA Try.f27 [1, 1, 0, 0]) [0, 1, 2] (by kernel_rfl) (by kernel_rfl) (by kernel_rfl) ?_
  refine plain_batch (rest := []) [⟨0, [], none⟩, ⟨1, [], none⟩, ⟨2, [], some (.bool false)⟩] (l' := ([(16, .bool false), (15, .int .i64 (((k : Nat) : Int) + 1)), (14, .int .i64 (((k : Nat) : Int))), (0, .slice p m c), (1, .int .i64 (((k : Nat) : Int))), (2, .int .i64 (((k : Nat) : Int) + 1)), (6, .slice none 0 0)] : Fr) ++ lr6) (pts' := []) (eqs := [(.bool ((((k : Nat) : Int)) == (((k : Nat) : Int) + 1)), .bool false)]) (by kernel_rfl) ⟨(ov_ef (by omega)), trivial⟩ (AllC_nil _) ?_
  refine PO.mk ?_
  change WP _ _ (CA Try.f27 [1, 1, 0, 1]) _ _ _
  refine fk_cut ([(0, .slice p m c), (1, .int .i64 (((k : Nat) : Int))), (2, .int .i64 (((k : Nat) : Int) + 1)), (6, .slice none 0 0), (16, .bool false)] : Fr) (by kernel_rfl) (fun a => WP _ _ _ _ a _) (fun lr7 => ?_)
  refine gi_cnd (x := (Operand.tmp 16)) (s := CA Try.f27 [1, 1, 0, 1, 0]) (t := CA Try.f27 [1, 1, 0, 1, 1]) false (by kernel_rfl) (by kernel_rfl) ?_
  change WP _ _ (CA Try.f27 [1, 1, 0, 1, 1]) _ _ _
  refine gi_skp (by kernel_rfl) ?_
  change WP _ _ (CA Try.f27 [1, 1, 1]) _ _ _
  refine gi_seq (x := CA Try.f27 [1, 1, 1, 0]) (y := CA Try.f27 [1, 1, 1, 1]) (by kernel_rfl) ?_
  refine gi_pln (id := 4) (ops := RA Try.f27 [1, 1, 1, 0]) [0, 1, 2] (by kernel_rfl) (by kernel_rfl) (by kernel_rfl) ?_
  refine plain_batch (rest := []) [⟨0, [], none⟩, ⟨1, [], none⟩, ⟨2, [], none⟩] (l' := ([(7, .int .i64 (((m : Nat) : Int))), (19, .int .i64 (((m : Nat) : Int))), (18, .slice p m c), (0, .slice p m c), (1, .int .i64 (((k : Nat) : Int))), (2, .int .i64 (((k : Nat) : Int) + 1)), (6, .slice none 0 0), (16, .bool false)] : Fr) ++ lr7) (pts' := []) (eqs := []) (by kernel_rfl) trivial (AllC_nil _) ?_
  refine PO.mk ?_
  change WP _ _ (CA Try.f27 [1, 1, 1, 1]) _ _ _
  refine fk_cut ([(0, .slice p m c), (1, .int .i64 (((k : Nat) : Int))), (2, .int .i64 (((k : Nat) : Int) + 1)), (6, .slice none 0 0), (7, .int .i64 (((m : Nat) : Int))), (16, .bool false)] : Fr) (by kernel_rfl) (fun a => WP _ _ _ _ a _) (fun lr8 => ?_)
  refine gi_seq (x := CA Try.f27 [1, 1, 1, 1, 0]) (y := CA Try.f27 [1, 1, 1, 1, 1]) (by kernel_rfl) ?_
  refine gi_drw (id := 5) (ops := RA Try.f27 [1, 1, 1, 1, 0]) (Tr.fl 0 (Tr.fl 1 (Tr.fl 2 (Tr.fl 3 (Tr.fl 4 (Tr.fl 5 (Tr.an 6 (Tr.fl 7 Tr.nil)))))))) (by kernel_rfl) (by kernel_rfl) (by kernel_rfl) (by kernel_rfl) (by kernel_rfl) (fun _ _ d _ _ h => by cases d <;> exact h) h0 ?_
  intro w9 h10
  refine draw_batch (t := (Tr.fl 2 (Tr.fl 3 (Tr.fl 4 (Tr.fl 5 (Tr.an 6 (Tr.fl 7 Tr.nil))))))) [⟨0, [], none⟩, ⟨1, [], none⟩] (l' := ([(21, .int .i64 (((k : Nat) : Int))), (20, .slice p m c), (0, .slice p m c), (1, .int .i64 (((k : Nat) : Int))), (2, .int .i64 (((k : Nat) : Int) + 1)), (6, .slice none 0 0), (7, .int .i64 (((m : Nat) : Int))), (16, .bool false)] : Fr) ++ lr8) (pts' := []) (eqs := []) (by kernel_rfl) trivial (AllC_nil _) ?_
  refine draw_law (i := 2) 22 (.slice p k c) [] (by kernel_rfl) (fun _ _ => law_sliceTo (o := opA (RA Try.f27 [1, 1, 1, 1, 0]) 2) (x := (Operand.tmp 20)) (y := (Operand.tmp 21)) (p := p) (m := m) (c := c) (z := (((k : Nat) : Int))) (by kernel_rfl) Try.underlying42 (by kernel_rfl) (by kernel_rfl) (by kernel_rfl) k (by omega) (by omega) _) (by intro q hq; cases hq) ?_
  refine draw_batch (t := (Tr.fl 5 (Tr.an 6 (Tr.fl 7 Tr.nil)))) [⟨3, [], none⟩, ⟨4, [], none⟩] (l' := ([(24, .int .i64 (((k : Nat) : Int) + 1)), (23, .slice p m c), (22, .slice p k c), (21, .int .i64 (((k : Nat) : Int))), (20, .slice p m c), (0, .slice p m c), (1, .int .i64 (((k : Nat) : Int))), (2, .int .i64 (((k : Nat) : Int) + 1)), (6, .slice none 0 0), (7, .int .i64 (((m : Nat) : Int))), (16, .bool false)] : Fr) ++ lr8) (pts' := []) (eqs := []) (by kernel_rfl) trivial (AllC_nil _) ?_
  refine draw_law (i := 5) 25 (.slice (some ⟨b4, (if c = k + 1 then 0 else k * 3 + 3), none⟩) (m - k - 1) (c - k - 1)) [] (by kernel_rfl) (fun _ _ => law_sliceSlP (p := p) (o := opA (RA Try.f27 [1, 1, 1, 1, 0]) 5) (x := (Operand.tmp 23)) (lo := (some (Operand.tmp 24))) (hi := none) (b := b4) (off := 0) (m := m) (c := c) (by kernel_rfl) Try.underlying42 3 (by kernel_rfl) (((k : Nat) : Int) + 1) (((m : Nat) : Int)) (k + 1) m (by kernel_rfl) hp5 (show fe _ _ (Operand.tmp 24) = _ from by kernel_rfl) rfl (by omega) (by omega) (by omega) (by omega) ((if c = k + 1 then 0 else k * 3 + 3)) (ite_r (by omega)) (m - k - 1) (c - k - 1) (by omega) (by omega) _) (by intro q hq; cases hq) ?_
  have hl11 := fl_n eO_ok (by decide) h10
  refine draw_act (i := 6) [] (by kernel_rfl) (by kernel_rfl) ?_
  refine an_append_in (d := 26) (sz := 3) (s := (Operand.tmp 22)) (x := (Operand.tmp 25)) (p := p) (b := b4) (m := m) (c := c) (i := k) (k := (m - k - 1)) (c2 := (c - k - 1)) (a := ⟨b4, (if c = k + 1 then 0 else k * 3 + 3), none⟩) (by kernel_rfl) (by kernel_rfl) rfl Try.underlying42 (by kernel_rfl) hp5 (by kernel_rfl) (by kernel_rfl) h10 (by omega) (fl eO ((L.drop (k + 1)).take (m - k - 1))) (by rw [fl_len eO_ok, List.length_take, List.length_drop, hl11]; omega) (fun j u hj => by rw [add_off]; exact gv_cell (j := 0) h10 rfl (gv_sl _ _ _) hp5 (fl_part eO_ok L (k + 1) (m - k - 1) j u hj) _ (by have hjl := (List.getElem?_eq_some_iff.1 hj).1; rw [fl_len eO_ok, List.length_take, List.length_drop, hl11] at hjl; split <;> omega)) (fl_one eO_ok _) (by omega) (m - 1) (by omega) ?_
  intro w12 h13
  have h14 : sat g w12 [Sl 28 3 p m c (fl eO (L.take k ++ ((L.drop (k + 1)).take (m - k - 1)) ++ L.drop (m - 1))), R] := sat_imp h13 (fun _ hh => by rw [fl_take eO_ok, fl_drop eO_ok, ← fl_app, ← fl_app] at hh; exact hh)
  refine ⟨(AllC_nil _), ?_⟩
  refine draw_batch (t := Tr.nil) [⟨7, [], none⟩] (l' := ([(0, .slice p (m - 1) c), (26, .slice p (m - 1) c), (25, .slice (some ⟨b4, (if c = k + 1 then 0 else k * 3 + 3), none⟩) (m - k - 1) (c - k - 1)), (24, .int .i64 (((k : Nat) : Int) + 1)), (23, .slice p m c), (22, .slice p k c), (21, .int .i64 (((k : Nat) : Int))), (20, .slice p m c), (0, .slice p m c), (1, .int .i64 (((k : Nat) : Int))), (2, .int .i64 (((k : Nat) : Int) + 1)), (6, .slice none 0 0), (7, .int .i64 (((m : Nat) : Int))), (16, .bool false)] : Fr) ++ lr8) (pts' := []) (eqs := []) (by kernel_rfl) trivial (AllC_nil _) ?_
  change WP _ _ (CA Try.f27 [1, 1, 1, 1, 1]) _ _ _
  refine fk_cut ([(0, .slice p (m - 1) c), (1, .int .i64 (((k : Nat) : Int))), (2, .int .i64 (((k : Nat) : Int) + 1)), (6, .slice none 0 0), (7, .int .i64 (((m : Nat) : Int))), (16, .bool false)] : Fr) (by kernel_rfl) (fun a => WP _ _ _ _ a _) (fun lr15 => ?_)
  refine gi_seq (x := CA Try.f27 [1, 1, 1, 1, 1, 0]) (y := CA Try.f27 [1, 1, 1, 1, 1, 1]) (by kernel_rfl) ?_
  refine gi_pln (id := 6) (ops := RA Try.f27 [1, 1, 1, 1, 1, 0]) [0, 1, 2, 3, 4, 5] (by kernel_rfl) (by kernel_rfl) (by kernel_rfl) ?_
  refine plain_batch (rest := [4, 5]) [⟨0, [], none⟩, ⟨1, [], none⟩, ⟨2, [], some (.int .i64 (((m : Nat) : Int) - 1))⟩, ⟨3, [], none⟩] (l' := ([(30, .int .i64 (((m : Nat) : Int))), (29, .int .i64 (((m : Nat) : Int) - 1)), (28, .slice p (m - 1) c), (27, .slice p (m - 1) c), (0, .slice p (m - 1) c), (1, .int .i64 (((k : Nat) : Int))), (2, .int .i64 (((k : Nat) : Int) + 1)), (6, .slice none 0 0), (7, .int .i64 (((m : Nat) : Int))), (16, .bool false)] : Fr) ++ lr15) (pts' := []) (eqs := [(.int .i64 ((m - 1 : Nat) : Int), .int .i64 (((m : Nat) : Int) - 1))]) (by kernel_rfl) ⟨(ov_int (by omega)), trivial⟩ (AllC_nil _) ?_
  refine plain_law (i := 4) 31 (.slice (some ⟨b4, m * 3 - 3, none⟩) 1 (c + 1 - m)) (by kernel_rfl) (law_sliceSlP (p := p) (o := opA (RA Try.f27 [1, 1, 1, 1, 1, 0]) 4) (x := (Operand.tmp 27)) (lo := (some (Operand.tmp 29))) (hi := (some (Operand.tmp 30))) (b := b4) (off := 0) (m := (m - 1)) (c := c) (by kernel_rfl) Try.underlying42 3 (by kernel_rfl) (((m : Nat) : Int) - 1) (((m : Nat) : Int)) (m - 1) m (by kernel_rfl) hp5 (show fe _ _ (Operand.tmp 29) = _ from by kernel_rfl) (show fe _ _ (Operand.tmp 30) = _ from by kernel_rfl) (by omega) (by omega) (by omega) (by omega) (m * 3 - 3) ((if_neg (by omega)).trans (by omega)) 1 (c + 1 - m) (by omega) (by omega) _) ?_
  refine plain_act (i := 5) (by kernel_rfl) ?_
  refine an_clear (d := none) (sz := 3) (x := (Operand.tmp 31)) (z := .agg #[.int .i64 0, .int .i64 0, .int .u32 0]) (p := p) (b := b4) (m := m) (c := c) (i := (m - 1)) (k := 1) (c2 := (c + 1 - m)) (v := some ⟨b4, m * 3 - 3, none⟩) (by kernel_rfl) rfl Try.underlying42 (by kernel_rfl) (by kernel_rfl) hp5 (by kernel_rfl) (fun _ => by rw [show m * 3 - 3 = (m - 1) * 3 from by omega]) h14 (by omega) (allq ⟨rfl, rfl, rfl, trivial⟩) (by omega) ?_
  intro w16 h17
  have h18 : sat g w16 [Sl 28 3 p (m - 1) c (fl eO (L.eraseIdx k)), R] := sat_imp (sl_trim (k := (m - 1)) h17 (by omega) (by omega)) (fun _ hh => by rw [del_fin hLl_ (by omega) (m - 1) (k + 1) (m - k - 1) (by omega) rfl (by omega)] at hh; exact hh)
  refine PO.mk ?_
  change WP _ _ (CA Try.f27 [1, 1, 1, 1, 1, 1]) _ _ _
  refine fk_cut ([(0, .slice p (m - 1) c), (1, .int .i64 (((k : Nat) : Int))), (2, .int .i64 (((k : Nat) : Int) + 1)), (6, .slice none 0 0), (7, .int .i64 (((m : Nat) : Int))), (16, .bool false)] : Fr) (by kernel_rfl) (fun a => WP _ _ _ _ a _) (fun lr19 => ?_)
  refine gi_seq (x := CA Try.f27 [1, 1, 1, 1, 1, 1, 0]) (y := CA Try.f27 [1, 1, 1, 1, 1, 1, 1]) (by kernel_rfl) ?_
  refine gi_pln (id := 7) (ops := RA Try.f27 [1, 1, 1, 1, 1, 1, 0]) [0, 1] (by kernel_rfl) (by kernel_rfl) (by kernel_rfl) ?_
  refine plain_batch (rest := []) [⟨0, [], none⟩, ⟨1, [], none⟩] (l' := ([(6, .slice p (m - 1) c), (32, .slice p (m - 1) c), (0, .slice p (m - 1) c), (1, .int .i64 (((k : Nat) : Int))), (2, .int .i64 (((k : Nat) : Int) + 1)), (6, .slice none 0 0), (7, .int .i64 (((m : Nat) : Int))), (16, .bool false)] : Fr) ++ lr19) (pts' := []) (eqs := []) (by kernel_rfl) trivial (AllC_nil _) ?_
  refine PO.mk ?_
  change WP _ _ (CA Try.f27 [1, 1, 1, 1, 1, 1, 1]) _ _ _
  refine fk_cut ([(0, .slice p (m - 1) c), (1, .int .i64 (((k : Nat) : Int))), (2, .int .i64 (((k : Nat) : Int) + 1)), (6, .slice p (m - 1) c), (7, .int .i64 (((m : Nat) : Int))), (16, .bool false)] : Fr) (by kernel_rfl) (fun a => WP _ _ _ _ a _) (fun lr20 => ?_)
  refine gi_rt (by kernel_rfl) ?_
  repeat (first | simp only [Exit.inBlock] | simp only [Exit.then])
  refine hi_out [] (.slice p (m - 1) c) [] (by kernel_rfl) (by intro q hq; cases hq) ?_
  exact ⟨.slice p (m - 1) c, [Sl 28 3 p (m - 1) c (fl eO (L.eraseIdx k))], rfl, ⟨rfl, rfl⟩, h18⟩

set_option maxHeartbeats 4000000 in
theorem sclone_ht (p : Option Addr) (m c : Nat) (L : List Ky) (hk : 0 < m) (hm : m ≤ 1000000) : HT Try.prog 28 [Value.slice p m c] [Sl 28 3 p m c (fl eO L)] (fun v K => ∃ (p2 : Option Addr) (c2 : Nat), v = Value.slice p2 m c2 ∧ K = [Sl 28 3 p2 m c2 (fl eO L), Sl 28 3 p m c (fl eO L)]) := by
  refine hi_in 8 ([(0, .slice p m c)] : Fr) Try.func28 (by kernel_rfl) Try.ntmps28 rfl rfl ?_
  intro g w0 R h0
  refine gi_seq (x := CA Try.f28 [0]) (y := CA Try.f28 [1]) (by kernel_rfl) ?_
  refine gi_pln (id := 0) (ops := RA Try.f28 [0]) [0] (by kernel_rfl) (by kernel_rfl) (by kernel_rfl) ?_
  refine plain_batch (rest := []) [⟨0, [], none⟩] (l' := ([(2, .slice none 0 0), (0, .slice p m c)] : Fr)) (pts' := []) (eqs := []) (by kernel_rfl) trivial (AllC_nil _) ?_
  refine PO.mk ?_
  change WP _ _ (CA Try.f28 [1]) _ _ _
  refine fk_cut ([(0, .slice p m c), (2, .slice none 0 0)] : Fr) (by kernel_rfl) (fun a => WP _ _ _ _ a _) (fun lr1 => ?_)
  refine gi_seq (x := CA Try.f28 [1, 0]) (y := CA Try.f28 [1, 1]) (by kernel_rfl) ?_
  refine gi_seq (x := CA Try.f28 [1, 0, 0]) (y := CA Try.f28 [1, 0, 1]) (by kernel_rfl) ?_
  refine gi_pln (id := 1) (ops := RA Try.f28 [1, 0, 0]) [0, 1] (by kernel_rfl) (by kernel_rfl) (by kernel_rfl) ?_
  obtain ⟨b2, hp3⟩ := sl_ptr0 (j := 0) h0 rfl (by omega)
  refine plain_batch (rest := [1]) [⟨0, [], none⟩] (l' := ([(3, .slice p m c), (0, .slice p m c), (2, .slice none 0 0)] : Fr) ++ lr1) (pts' := []) (eqs := []) (by kernel_rfl) trivial (AllC_nil _) ?_
  refine plain_law (i := 1) 4 (.bool false) (by kernel_rfl) (law_sliceSome (o := opA (RA Try.f28 [1, 0, 0]) 1) (x := (Operand.tmp 3)) (y := (Operand.const (.slice none 0 0))) (m := m) (c := c) (by kernel_rfl) Try.underlying42 (by kernel_rfl) hp3 (by kernel_rfl) _) ?_
  refine PO.mk ?_
  change WP _ _ (CA Try.f28 [1, 0, 1]) _ _ _
  refine fk_cut ([(0, .slice p m c), (2, .slice none 0 0), (4, .bool false)] : Fr) (by kernel_rfl) (fun a => WP _ _ _ _ a _) (fun lr4 => ?_)
  refine gi_cnd (x := (Operand.tmp 4)) (s := CA Try.f28 [1, 0, 1, 0]) (t := CA Try.f28 [1, 0, 1, 1]) false (by kernel_rfl) (by kernel_rfl) ?_
  change WP _ _ (CA Try.f28 [1, 0, 1, 1]) _ _ _
  refine gi_skp (by kernel_rfl) ?_
  change WP _ _ (CA Try.f28 [1, 1]) _ _ _
  refine gi_seq (x := CA Try.f28 [1, 1, 0]) (y := CA Try.f28 [1, 1, 1]) (by kernel_rfl) ?_
  refine gi_pln (id := 3) (ops := RA Try.f28 [1, 1, 0]) [0, 1, 2, 3] (by kernel_rfl) (by kernel_rfl) (by kernel_rfl) ?_
  refine plain_act (i := 0) (by kernel_rfl) ?_
  refine an_new (d := 5) (fun xb_ => .slice (some ⟨xb_, 0, none⟩) 0 0) (fun xb_ => Obj.cells [].toArray 28 (0, 0)) (fun xb_ => by kernel_rfl) (by kernel_rfl) rfl h0 ?_
  intro r5 w6 (h7 : sat g w6 [Cl r5 [] 28, Sl 28 3 p m c (fl eO L), R])
  refine plain_batch (rest := [2, 3]) [⟨1, [], none⟩] (l' := ([(6, .slice p m c), (5, .slice (some ⟨r5, 0, none⟩) 0 0), (0, .slice p m c), (2, .slice none 0 0), (4, .bool false)] : Fr) ++ lr4) (pts' := []) (eqs := []) (by kernel_rfl) trivial (AllC_nil _) ?_
  have h8 : sat g w6 [Sl 28 3 p m c (fl eO L), Cl r5 [] 28, R] := sat_sel [1, 0, 2] rfl h7
  have hl9 := fl_n eO_ok (by decide) h8
  have h10 : sat g w6 [Cl r5 [] 28, Sl 28 3 p m c (fl eO L), R] := sat_sel [1, 0, 2] rfl h8
  have h11 : sat g w6 [Sl 28 3 (some ⟨r5, 0, none⟩) 0 0 (fl eO []), Sl 28 3 p m c (fl eO L), R] := sl_of_cl h10 rfl (by omega)
  refine plain_act (i := 2) (by kernel_rfl) ?_
  refine an_append_gv (d := 7) (sz := 3) (s := (Operand.tmp 5)) (x := (Operand.tmp 6)) (z := .agg #[.int .i64 0, .int .i64 0, .int .u32 0]) (p := (some ⟨r5, 0, none⟩)) (p2 := p) (m := 0) (c := 0) (k := m) (c2 := c) (by_ := 24) (by kernel_rfl) (by kernel_rfl) rfl Try.underlying42 (by kernel_rfl) rfl (by decide) (by kernel_rfl) (by kernel_rfl) h11 1 rfl (fl eO L) (gv_sl _ _ _) (by rw [fl_len eO_ok, hl9]) (fl_one eO_ok _) (by omega) (by omega) m (by omega) ?_
  intro p12 cap13 w14 (h15 : sat g w14 [Sl 28 3 p12 m cap13 ((fl eO []) ++ (fl eO L)), Sl 28 3 p m c (fl eO L), R])
  have h16 : sat g w14 [Sl 28 3 p12 m cap13 (fl eO L), Sl 28 3 p m c (fl eO L), R] := sat_imp h15 (fun _ hh => by exact hh)
  obtain ⟨hn17, hn18⟩ := sl_le h16
  refine plain_batch (rest := []) [⟨3, [], none⟩] (l' := ([(2, .slice p12 m cap13), (7, .slice p12 m cap13), (6, .slice p m c), (5, .slice (some ⟨r5, 0, none⟩) 0 0), (0, .slice p m c), (2, .slice none 0 0), (4, .bool false)] : Fr) ++ lr4) (pts' := []) (eqs := []) (by kernel_rfl) trivial (AllC_nil _) ?_
  refine PO.mk ?_
  change WP _ _ (CA Try.f28 [1, 1, 1]) _ _ _
  refine fk_cut ([(0, .slice p m c), (2, .slice p12 m cap13), (4, .bool false)] : Fr) (by kernel_rfl) (fun a => WP _ _ _ _ a _) (fun lr19 => ?_)
  refine gi_rt (by kernel_rfl) ?_
  repeat (first | simp only [Exit.inBlock] | simp only [Exit.then])
  refine hi_out [] (.slice p12 m cap13) [] (by kernel_rfl) (by intro q hq; cases hq) ?_
  exact ⟨.slice p12 m cap13, [Sl 28 3 p12 m cap13 (fl eO L), Sl 28 3 p m c (fl eO L)], rfl, ⟨p12, cap13, rfl, rfl⟩, h16⟩

end Go.Proofs.Ytcgpkhdocakloaa
