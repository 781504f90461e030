/- Walks, printed by my generator gen6.py. -/
import Derived.Test.YtcgpkhdocakloaaF5
namespace Go.Proofs.Ytcgpkhdocakloaa
set_option maxHeartbeats 4000000 in
theorem taken_ht (b n : Nat) (A : List Sl2) : HT Try.prog 41 [Value.pointer (some ⟨b, 0, none⟩)] [Tb b n A] (fun v K => ∃ (p : Option Addr) (c : Nat), v = Value.slice p ((inS 1 A 0).length) c ∧ K = [Tb b n A, Sl 79 2 p (((inS 1 A 0).length)) c (fl eRf (inS 1 A 0))]) := by
  refine hi_in 17 ([(0, .pointer (some ⟨b, 0, none⟩))] : Fr) Try.func41 (by kernel_rfl) Try.ntmps41 rfl rfl ?_
  intro g w0 R h0
  refine gi_seq (x := CA Try.f41 [0]) (y := CA Try.f41 [1]) (by kernel_rfl) ?_
  refine gi_pln (id := 0) (ops := RA Try.f41 [0]) [0] (by kernel_rfl) (by kernel_rfl) (by kernel_rfl) ?_
  refine plain_batch (rest := []) [⟨0, [], none⟩] (l' := ([(2, .slice none 0 0), (0, .pointer (some ⟨b, 0, none⟩))] : Fr)) (pts' := []) (eqs := []) (by kernel_rfl) trivial (AllC_nil _) ?_
  refine PO.mk ?_
  change WP _ _ (CA Try.f41 [1]) _ _ _
  refine fk_cut ([(0, .pointer (some ⟨b, 0, none⟩)), (2, .slice none 0 0)] : Fr) (by kernel_rfl) (fun a => WP _ _ _ _ a _) (fun lr1 => ?_)
  refine gi_seq (x := CA Try.f41 [1, 0]) (y := CA Try.f41 [1, 1]) (by kernel_rfl) ?_
  refine gi_pln (id := 1) (ops := RA Try.f41 [1, 0]) [0] (by kernel_rfl) (by kernel_rfl) (by kernel_rfl) ?_
  refine plain_act (i := 0) (by kernel_rfl) ?_
  refine an_new (d := 3) (fun xb_ => .pointer (some ⟨xb_, 0, none⟩)) (fun xb_ => Obj.cells [.slice none 0 0].toArray 88 (0, 0)) (fun xb_ => by kernel_rfl) (by kernel_rfl) rfl h0 ?_
  intro r2 w3 (h4 : sat g w3 [Cl r2 [.slice none 0 0] 88, Tb b n A, R])
  refine PO.mk ?_
  change WP _ _ (CA Try.f41 [1, 1]) _ _ _
  refine fk_cut ([(0, .pointer (some ⟨b, 0, none⟩)), (2, .slice none 0 0), (3, .pointer (some ⟨r2, 0, none⟩))] : Fr) (by kernel_rfl) (fun a => WP _ _ _ _ a _) (fun lr5 => ?_)
  refine gi_seq (x := CA Try.f41 [1, 1, 0]) (y := CA Try.f41 [1, 1, 1]) (by kernel_rfl) ?_
  refine gi_seq (x := CA Try.f41 [1, 1, 0, 0]) (y := CA Try.f41 [1, 1, 0, 1]) (by kernel_rfl) ?_
  refine gi_pln (id := 2) (ops := RA Try.f41 [1, 1, 0, 0]) [0, 1] (by kernel_rfl) (by kernel_rfl) (by kernel_rfl) ?_
  refine plain_batch (rest := [1]) [⟨0, [], none⟩] (l' := ([(6, .pointer (some ⟨b, 0, none⟩)), (0, .pointer (some ⟨b, 0, none⟩)), (2, .slice none 0 0), (3, .pointer (some ⟨r2, 0, none⟩))] : Fr) ++ lr5) (pts' := []) (eqs := []) (by kernel_rfl) trivial (AllC_nil _) ?_
  refine plain_act (i := 1) (by kernel_rfl) ?_
  refine an_call (d := some 7) (f := 52) (args := [.pointer (some ⟨b, 0, none⟩), .int .i64 1]) (by kernel_rfl) Try.call52 (in_ht b 1) (F := [Cl r2 [.slice none 0 0] 88, Tb b n A, R]) h4 ?_
  rintro v K w8 (⟨b6, b7, rfl, rfl⟩) h9
  refine ⟨_, rfl, ?_⟩
  have h10 : sat g w8 [Cl b6 [.pointer (some ⟨b, 0, none⟩)] 60, Cl b7 [.int .i64 1] 3, Cl r2 [.slice none 0 0] 88, Tb b n A, R] := h9
  refine PO.mk ?_
  change WP _ _ (CA Try.f41 [1, 1, 0, 1]) _ _ _
  refine fk_cut ([(0, .pointer (some ⟨b, 0, none⟩)), (2, .slice none 0 0), (3, .pointer (some ⟨r2, 0, none⟩)), (7, .func (Fn.func 71) #[] #[.pointer (some ⟨b6, 0, none⟩), .pointer (some ⟨b7, 0, none⟩)])] : Fr) (by kernel_rfl) (fun a => WP _ _ _ _ a _) (fun lr11 => ?_)
  refine gi_blk (id := 0) (x := CA Try.f41 [1, 1, 0, 1, 0]) (by kernel_rfl) ?_
  have hb12 := tb_bd (j := 3) h10 rfl
  have hb13 := hb12.2.1; have hb14 := hb12.2.2.1
  have hl_ : ((inS 1 A 0).length) ≤ 256 := by have h_ := inS_len 1 A 0; omega
  have hz_ : (inS 1 A 0).take 0 = [] := rfl
  have h15 : sat g w8 [Sl 79 2 none 0 0 (fl eRf []), Cl b6 [.pointer (some ⟨b, 0, none⟩)] 60, Cl b7 [.int .i64 1] 3, Cl r2 [.slice none 0 0] 88, Tb b n A, R] := sl_nil 79 2 h10
  have h16 : sat g w8 [Cl r2 [.slice none 0 0] 88, Sl 79 2 none 0 0 (fl eRf []), Cl b6 [.pointer (some ⟨b, 0, none⟩)] 60, Cl b7 [.int .i64 1] 3, Tb b n A, R] := sat_sel [3, 0, 1, 2, 4, 5] rfl h15
  refine gi_rf (x := (Operand.tmp 7)) (ps := #[8, 9]) (asg := CA Try.f41 [1, 1, 0, 1, 0, 1]) (bd := CA Try.f41 [1, 1, 0, 1, 0, 0]) (gf := 71) (cap := [.pointer (some ⟨b6, 0, none⟩), .pointer (some ⟨b7, 0, none⟩)]) (N := ((inS 1 A 0).length)) (xs := fun i => [.int .i64 (((((inS 1 A 0).getD i (0, 0)).1 : Nat) : Int)), .int .u32 (((inS 1 A 0).getD i (0, 0)).2)]) (At := [Cl b6 [.pointer (some ⟨b, 0, none⟩)] 60, Cl b7 [.int .i64 1] 3, Tb b n A]) (K0 := [Cl r2 [.slice none 0 0] 88, Sl 79 2 none 0 0 (fl eRf [])]) (L := [R]) (fun i => [(9, .int .u32 (((inS 1 A 0).getD i (0, 0)).2)), (8, .int .i64 (((((inS 1 A 0).getD i (0, 0)).1 : Nat) : Int)))] ++ (([(0, .pointer (some ⟨b, 0, none⟩)), (2, .slice none 0 0), (3, .pointer (some ⟨r2, 0, none⟩)), (7, .func (Fn.func 71) #[] #[.pointer (some ⟨b6, 0, none⟩), .pointer (some ⟨b7, 0, none⟩)])] : Fr) ++ lr11)) (fun i => ([(5, .int .u32 (((inS 1 A 0).getD i (0, 0)).2)), (4, .int .i64 (((((inS 1 A 0).getD i (0, 0)).1 : Nat) : Int))), (9, .int .u32 (((inS 1 A 0).getD i (0, 0)).2)), (8, .int .i64 (((((inS 1 A 0).getD i (0, 0)).1 : Nat) : Int)))] : Fr) ++ (([(0, .pointer (some ⟨b, 0, none⟩)), (2, .slice none 0 0), (3, .pointer (some ⟨r2, 0, none⟩)), (7, .func (Fn.func 71) #[] #[.pointer (some ⟨b6, 0, none⟩), .pointer (some ⟨b7, 0, none⟩)])] : Fr) ++ lr11)) (fun i K => ∃ p : Option Addr, ∃ c : Nat, K = [Cl r2 [.slice p i c] 88, Sl 79 2 p i c (fl eRf ((inS 1 A 0).take i))]) (fun c i K => False) (by kernel_rfl) (by kernel_rfl) Try.call71 (in_it b6 b7 b n 1 A (by omega) (by omega)) ⟨none, 0, rfl⟩ h16 (fun _ _ => rfl) (fun _ _ => rf_frame2 rfl rfl) ?_ ?_ ?_ ?_
  ·
    intro i hi_ lp_ w17 K_ hk18
    change WP _ _ (CA Try.f41 [1, 1, 0, 1, 0, 1]) _ (mk 17 (([(9, .int .u32 (((inS 1 A 0).getD i (0, 0)).2)), (8, .int .i64 (((((inS 1 A 0).getD i (0, 0)).1 : Nat) : Int))), (0, .pointer (some ⟨b, 0, none⟩)), (2, .slice none 0 0), (3, .pointer (some ⟨r2, 0, none⟩)), (7, .func (Fn.func 71) #[] #[.pointer (some ⟨b6, 0, none⟩), .pointer (some ⟨b7, 0, none⟩)])] : Fr) ++ lr11)) _
    refine gi_seq (x := CA Try.f41 [1, 1, 0, 1, 0, 1, 0]) (y := CA Try.f41 [1, 1, 0, 1, 0, 1, 1]) (by kernel_rfl) ?_
    refine gi_pln (id := 3) (ops := RA Try.f41 [1, 1, 0, 1, 0, 1, 0]) [0] (by kernel_rfl) (by kernel_rfl) (by kernel_rfl) ?_
    refine plain_batch (rest := []) [⟨0, [], none⟩] (l' := ([(4, .int .i64 (((((inS 1 A 0).getD i (0, 0)).1 : Nat) : Int))), (9, .int .u32 (((inS 1 A 0).getD i (0, 0)).2)), (8, .int .i64 (((((inS 1 A 0).getD i (0, 0)).1 : Nat) : Int))), (0, .pointer (some ⟨b, 0, none⟩)), (2, .slice none 0 0), (3, .pointer (some ⟨r2, 0, none⟩)), (7, .func (Fn.func 71) #[] #[.pointer (some ⟨b6, 0, none⟩), .pointer (some ⟨b7, 0, none⟩)])] : Fr) ++ lr11) (pts' := []) (eqs := []) (by kernel_rfl) trivial (AllC_nil _) ?_
    refine PO.mk ?_
    change WP _ _ (CA Try.f41 [1, 1, 0, 1, 0, 1, 1]) _ _ _
    refine gi_pln (id := 4) (ops := RA Try.f41 [1, 1, 0, 1, 0, 1, 1]) [0] (by kernel_rfl) (by kernel_rfl) (by kernel_rfl) ?_
    refine plain_batch (rest := []) [⟨0, [], none⟩] (l' := ([(5, .int .u32 (((inS 1 A 0).getD i (0, 0)).2)), (4, .int .i64 (((((inS 1 A 0).getD i (0, 0)).1 : Nat) : Int))), (9, .int .u32 (((inS 1 A 0).getD i (0, 0)).2)), (8, .int .i64 (((((inS 1 A 0).getD i (0, 0)).1 : Nat) : Int))), (0, .pointer (some ⟨b, 0, none⟩)), (2, .slice none 0 0), (3, .pointer (some ⟨r2, 0, none⟩)), (7, .func (Fn.func 71) #[] #[.pointer (some ⟨b6, 0, none⟩), .pointer (some ⟨b7, 0, none⟩)])] : Fr) ++ lr11) (pts' := []) (eqs := []) (by kernel_rfl) trivial (AllC_nil _) ?_
    refine PO.mk ?_
    exact hk18
  ·
    rintro i hi21 lp_ w19 K_ G ⟨p, c, rfl⟩ h20
    have h22 : sat g w19 [Cl r2 [.slice p i c] 88, Sl 79 2 p i c (fl eRf ((inS 1 A 0).take i)), Cl b6 [.pointer (some ⟨b, 0, none⟩)] 60, Cl b7 [.int .i64 1] 3, Tb b n A, G] := h20
    change WP _ _ (CA Try.f41 [1, 1, 0, 1, 0, 0]) _ (mk 17 (([(5, .int .u32 (((inS 1 A 0).getD i (0, 0)).2)), (4, .int .i64 (((((inS 1 A 0).getD i (0, 0)).1 : Nat) : Int))), (9, .int .u32 (((inS 1 A 0).getD i (0, 0)).2)), (8, .int .i64 (((((inS 1 A 0).getD i (0, 0)).1 : Nat) : Int))), (0, .pointer (some ⟨b, 0, none⟩)), (2, .slice none 0 0), (3, .pointer (some ⟨r2, 0, none⟩)), (7, .func (Fn.func 71) #[] #[.pointer (some ⟨b6, 0, none⟩), .pointer (some ⟨b7, 0, none⟩)])] : Fr) ++ lr11)) _
    refine gi_blk (id := 1) (x := CA Try.f41 [1, 1, 0, 1, 0, 0, 0]) (by kernel_rfl) ?_
    refine gi_pln (id := 5) (ops := RA Try.f41 [1, 1, 0, 1, 0, 0, 0]) [0, 1, 2, 3, 4, 5, 6] (by kernel_rfl) (by kernel_rfl) (by kernel_rfl) ?_
    refine plain_batch (rest := [4, 5, 6]) [⟨0, [.slice p i c], none⟩, ⟨1, [], none⟩, ⟨2, [], none⟩, ⟨3, [], none⟩] (l' := ([(13, .agg #[.int .i64 (((((inS 1 A 0).getD i (0, 0)).1 : Nat) : Int)), .int .u32 (((inS 1 A 0).getD i (0, 0)).2)]), (12, .int .u32 (((inS 1 A 0).getD i (0, 0)).2)), (11, .int .i64 (((((inS 1 A 0).getD i (0, 0)).1 : Nat) : Int))), (10, .slice p i c), (5, .int .u32 (((inS 1 A 0).getD i (0, 0)).2)), (4, .int .i64 (((((inS 1 A 0).getD i (0, 0)).1 : Nat) : Int))), (9, .int .u32 (((inS 1 A 0).getD i (0, 0)).2)), (8, .int .i64 (((((inS 1 A 0).getD i (0, 0)).1 : Nat) : Int))), (0, .pointer (some ⟨b, 0, none⟩)), (2, .slice none 0 0), (3, .pointer (some ⟨r2, 0, none⟩)), (7, .func (Fn.func 71) #[] #[.pointer (some ⟨b6, 0, none⟩), .pointer (some ⟨b7, 0, none⟩)])] : Fr) ++ lr11) (pts' := [(0, ⟨r2, 0, none⟩, .slice p i c)]) (eqs := []) (by kernel_rfl) trivial (AllC_cons (sat_cell h22 0 rfl rfl) (AllC_nil _)) ?_
    refine plain_act (i := 4) (by kernel_rfl) ?_
    refine an_new (d := 14) (fun xb_ => .slice (some ⟨xb_, 0, none⟩) 1 1) (fun xb_ => Obj.cells [.int .i64 (((((inS 1 A 0).getD i (0, 0)).1 : Nat) : Int)), .int .u32 (((inS 1 A 0).getD i (0, 0)).2)].toArray 79 (0, 0)) (fun xb_ => by kernel_rfl) (by kernel_rfl) rfl h22 ?_
    intro r23 w24 (h25 : sat g w24 [Cl r23 [.int .i64 (((((inS 1 A 0).getD i (0, 0)).1 : Nat) : Int)), .int .u32 (((inS 1 A 0).getD i (0, 0)).2)] 79, Cl r2 [.slice p i c] 88, Sl 79 2 p i c (fl eRf ((inS 1 A 0).take i)), Cl b6 [.pointer (some ⟨b, 0, none⟩)] 60, Cl b7 [.int .i64 1] 3, Tb b n A, G])
    have h26 : sat g w24 [Sl 79 2 p i c (fl eRf ((inS 1 A 0).take i)), Cl r23 [.int .i64 (((((inS 1 A 0).getD i (0, 0)).1 : Nat) : Int)), .int .u32 (((inS 1 A 0).getD i (0, 0)).2)] 79, Cl r2 [.slice p i c] 88, Cl b6 [.pointer (some ⟨b, 0, none⟩)] 60, Cl b7 [.int .i64 1] 3, Tb b n A, G] := sat_sel [2, 0, 1, 3, 4, 5, 6] rfl h25
    refine plain_act (i := 5) (by kernel_rfl) ?_
    refine an_append (d := 15) (sz := 2) (s := (Operand.tmp 10)) (x := (Operand.tmp 14)) (z := .agg #[.int .i64 0, .int .u32 0]) (p := p) (m := i) (c := c) (k := 1) (c2 := 1) (a := ⟨r23, 0, none⟩) (by_ := 16) (by kernel_rfl) (by kernel_rfl) rfl Try.underlying88 (by kernel_rfl) rfl (by decide) (by kernel_rfl) (by kernel_rfl) h26 (fl eRf [(((((inS 1 A 0).getD i (0, 0)).1)), ((inS 1 A 0).getD i (0, 0)).2)]) rfl (fun j u hj => by rw [add_off]; exact sat_cell h26 1 rfl (by rw [Nat.zero_add]; exact hj)) (fl_one eRf_ok _) (by omega) (by omega) (i + 1) (by omega) ?_
    intro p27 cap28 w29 (h30 : sat g w29 [Sl 79 2 p27 (i + 1) cap28 ((fl eRf ((inS 1 A 0).take i)) ++ (fl eRf [(((((inS 1 A 0).getD i (0, 0)).1)), ((inS 1 A 0).getD i (0, 0)).2)])), Cl r23 [.int .i64 (((((inS 1 A 0).getD i (0, 0)).1 : Nat) : Int)), .int .u32 (((inS 1 A 0).getD i (0, 0)).2)] 79, Cl r2 [.slice p i c] 88, Cl b6 [.pointer (some ⟨b, 0, none⟩)] 60, Cl b7 [.int .i64 1] 3, Tb b n A, G])
    have h31 : sat g w29 [Sl 79 2 p27 (i + 1) cap28 (fl eRf (((inS 1 A 0).take i) ++ [(((((inS 1 A 0).getD i (0, 0)).1)), ((inS 1 A 0).getD i (0, 0)).2)])), Cl r23 [.int .i64 (((((inS 1 A 0).getD i (0, 0)).1 : Nat) : Int)), .int .u32 (((inS 1 A 0).getD i (0, 0)).2)] 79, Cl r2 [.slice p i c] 88, Cl b6 [.pointer (some ⟨b, 0, none⟩)] 60, Cl b7 [.int .i64 1] 3, Tb b n A, G] := sat_imp h30 (fun _ hh => by rw [fl_app]; exact hh)
    obtain ⟨hn32, hn33⟩ := sl_le h31
    have h34 : sat g w29 [Cl r2 [.slice p i c] 88, Sl 79 2 p27 (i + 1) cap28 (fl eRf (((inS 1 A 0).take i) ++ [(((((inS 1 A 0).getD i (0, 0)).1)), ((inS 1 A 0).getD i (0, 0)).2)])), Cl r23 [.int .i64 (((((inS 1 A 0).getD i (0, 0)).1 : Nat) : Int)), .int .u32 (((inS 1 A 0).getD i (0, 0)).2)] 79, Cl b6 [.pointer (some ⟨b, 0, none⟩)] 60, Cl b7 [.int .i64 1] 3, Tb b n A, G] := sat_sel [2, 0, 1, 3, 4, 5, 6] rfl h31
    refine plain_act (i := 6) (by kernel_rfl) ?_
    refine an_store [(0, .slice p27 (i + 1) cap28)] (cs' := [.slice p27 (i + 1) cap28]) (by kernel_rfl) (by kernel_rfl) (allq ⟨⟨by simp, rfl⟩, trivial⟩) rfl h34 ?_
    intro w35 (h36 : sat g w35 [Cl r2 [.slice p27 (i + 1) cap28] 88, Sl 79 2 p27 (i + 1) cap28 (fl eRf (((inS 1 A 0).take i) ++ [(((((inS 1 A 0).getD i (0, 0)).1)), ((inS 1 A 0).getD i (0, 0)).2)])), Cl r23 [.int .i64 (((((inS 1 A 0).getD i (0, 0)).1 : Nat) : Int)), .int .u32 (((inS 1 A 0).getD i (0, 0)).2)] 79, Cl b6 [.pointer (some ⟨b, 0, none⟩)] 60, Cl b7 [.int .i64 1] 3, Tb b n A, G])
    refine PO.mk ?_
    repeat (first | simp only [Exit.inBlock] | simp only [Exit.then])
    have h37 : sat g w35 [Sl 79 2 p27 (i + 1) cap28 (fl eRf (((inS 1 A 0).take i) ++ [(((((inS 1 A 0).getD i (0, 0)).1)), ((inS 1 A 0).getD i (0, 0)).2)])), Cl r2 [.slice p27 (i + 1) cap28] 88, Cl r23 [.int .i64 (((((inS 1 A 0).getD i (0, 0)).1 : Nat) : Int)), .int .u32 (((inS 1 A 0).getD i (0, 0)).2)] 79, Cl b6 [.pointer (some ⟨b, 0, none⟩)] 60, Cl b7 [.int .i64 1] 3, Tb b n A, G] := sat_sel [1, 0, 2, 3, 4, 5, 6] rfl h36
    have h38 : sat g w35 [Sl 79 2 p27 (i + 1) cap28 (fl eRf ((inS 1 A 0).take (i + 1))), Cl r2 [.slice p27 (i + 1) cap28] 88, Cl r23 [.int .i64 (((((inS 1 A 0).getD i (0, 0)).1 : Nat) : Int)), .int .u32 (((inS 1 A 0).getD i (0, 0)).2)] 79, Cl b6 [.pointer (some ⟨b, 0, none⟩)] 60, Cl b7 [.int .i64 1] 3, Tb b n A, G] := (show (((inS 1 A 0).take i) ++ [(((((inS 1 A 0).getD i (0, 0)).1)), ((inS 1 A 0).getD i (0, 0)).2)]) = ((inS 1 A 0).take (i + 1)) from take_getD (by omega)) ▸ h37
    have h39 : sat g w35 [Cl r2 [.slice p27 (i + 1) cap28] 88, Sl 79 2 p27 (i + 1) cap28 (fl eRf ((inS 1 A 0).take (i + 1))), Cl b6 [.pointer (some ⟨b, 0, none⟩)] 60, Cl b7 [.int .i64 1] 3, Tb b n A, G, Cl r23 [.int .i64 (((((inS 1 A 0).getD i (0, 0)).1 : Nat) : Int)), .int .u32 (((inS 1 A 0).getD i (0, 0)).2)] 79] := sat_sel [1, 0, 3, 4, 5, 6, 2] rfl h38
    have h40 : sat g w35 [Cl r2 [.slice p27 (i + 1) cap28] 88, Sl 79 2 p27 (i + 1) cap28 (fl eRf ((inS 1 A 0).take (i + 1))), Cl b6 [.pointer (some ⟨b, 0, none⟩)] 60, Cl b7 [.int .i64 1] 3, Tb b n A, G] := sat_sel [0, 1, 2, 3, 4, 5] rfl h39
    exact ⟨_, ⟨p27, cap28, rfl⟩, h40⟩
  ·
    rintro D41 w42 K_ ⟨p, c, rfl⟩ h43
    have h44 : sat g w42 [pt D41 (Obj.deferred (some [])), Cl r2 [.slice p (((inS 1 A 0).length)) c] 88, Sl 79 2 p (((inS 1 A 0).length)) c (fl eRf ((inS 1 A 0).take ((inS 1 A 0).length))), Cl b6 [.pointer (some ⟨b, 0, none⟩)] 60, Cl b7 [.int .i64 1] 3, Tb b n A, R] := h43
    have h45 : sat g w42 [Sl 79 2 p (((inS 1 A 0).length)) c (fl eRf ((inS 1 A 0).take ((inS 1 A 0).length))), pt D41 (Obj.deferred (some [])), Cl r2 [.slice p (((inS 1 A 0).length)) c] 88, Cl b6 [.pointer (some ⟨b, 0, none⟩)] 60, Cl b7 [.int .i64 1] 3, Tb b n A, R] := sat_sel [2, 0, 1, 3, 4, 5, 6] rfl h44
    have h46 : sat g w42 [Sl 79 2 p (((inS 1 A 0).length)) c (fl eRf (inS 1 A 0)), pt D41 (Obj.deferred (some [])), Cl r2 [.slice p (((inS 1 A 0).length)) c] 88, Cl b6 [.pointer (some ⟨b, 0, none⟩)] 60, Cl b7 [.int .i64 1] 3, Tb b n A, R] := sat_imp h45 (fun _ hh => by rw [List.take_length] at hh; exact hh)
    change WP _ _ (CA Try.f41 [1, 1, 1]) _ _ _
    refine fk_cut ([(0, .pointer (some ⟨b, 0, none⟩)), (2, .slice none 0 0), (3, .pointer (some ⟨r2, 0, none⟩)), (7, .func (Fn.func 71) #[] #[.pointer (some ⟨b6, 0, none⟩), .pointer (some ⟨b7, 0, none⟩)])] : Fr) (by kernel_rfl) (fun a => WP _ _ _ _ a _) (fun lr47 => ?_)
    refine gi_seq (x := CA Try.f41 [1, 1, 1, 0]) (y := CA Try.f41 [1, 1, 1, 1]) (by kernel_rfl) ?_
    refine gi_pln (id := 6) (ops := RA Try.f41 [1, 1, 1, 0]) [0, 1] (by kernel_rfl) (by kernel_rfl) (by kernel_rfl) ?_
    refine plain_batch (rest := []) [⟨0, [.slice p (((inS 1 A 0).length)) c], none⟩, ⟨1, [], none⟩] (l' := ([(2, .slice p (((inS 1 A 0).length)) c), (16, .slice p (((inS 1 A 0).length)) c), (0, .pointer (some ⟨b, 0, none⟩)), (2, .slice none 0 0), (3, .pointer (some ⟨r2, 0, none⟩)), (7, .func (Fn.func 71) #[] #[.pointer (some ⟨b6, 0, none⟩), .pointer (some ⟨b7, 0, none⟩)])] : Fr) ++ lr47) (pts' := [(0, ⟨r2, 0, none⟩, .slice p (((inS 1 A 0).length)) c)]) (eqs := []) (by kernel_rfl) trivial (AllC_cons (sat_cell h46 2 rfl rfl) (AllC_nil _)) ?_
    refine PO.mk ?_
    change WP _ _ (CA Try.f41 [1, 1, 1, 1]) _ _ _
    refine fk_cut ([(0, .pointer (some ⟨b, 0, none⟩)), (2, .slice p (((inS 1 A 0).length)) c), (3, .pointer (some ⟨r2, 0, none⟩)), (7, .func (Fn.func 71) #[] #[.pointer (some ⟨b6, 0, none⟩), .pointer (some ⟨b7, 0, none⟩)])] : Fr) (by kernel_rfl) (fun a => WP _ _ _ _ a _) (fun lr48 => ?_)
    refine gi_rt (by kernel_rfl) ?_
    repeat (first | simp only [Exit.inBlock] | simp only [Exit.then])
    have h49 : sat g w42 [pt D41 (Obj.deferred (some [])), Sl 79 2 p (((inS 1 A 0).length)) c (fl eRf (inS 1 A 0)), Cl r2 [.slice p (((inS 1 A 0).length)) c] 88, Cl b6 [.pointer (some ⟨b, 0, none⟩)] 60, Cl b7 [.int .i64 1] 3, Tb b n A, R] := sat_sel [1, 0, 2, 3, 4, 5, 6] rfl h46
    refine hi_out1 h49 [] (.slice p (((inS 1 A 0).length)) c) [] (by kernel_rfl) (fun w51 h50 => ⟨?_, ?_⟩)
    · exact (by intro q hq; cases hq)
    ·
      have h52 : sat g w51 [pt D41 (Obj.deferred none), Sl 79 2 p (((inS 1 A 0).length)) c (fl eRf (inS 1 A 0)), Cl r2 [.slice p (((inS 1 A 0).length)) c] 88, Cl b6 [.pointer (some ⟨b, 0, none⟩)] 60, Cl b7 [.int .i64 1] 3, Tb b n A, R] := h50
      have h53 : sat g w51 [Tb b n A, Sl 79 2 p (((inS 1 A 0).length)) c (fl eRf (inS 1 A 0)), pt D41 (Obj.deferred none), Cl r2 [.slice p (((inS 1 A 0).length)) c] 88, Cl b6 [.pointer (some ⟨b, 0, none⟩)] 60, Cl b7 [.int .i64 1] 3, R] := sat_sel [5, 1, 0, 2, 3, 4, 6] rfl h52
      have h54 : sat g w51 [Tb b n A, Sl 79 2 p (((inS 1 A 0).length)) c (fl eRf (inS 1 A 0)), R] := sat_sel [0, 1, 6] rfl h53
      exact ⟨.slice p (((inS 1 A 0).length)) c, [Tb b n A, Sl 79 2 p (((inS 1 A 0).length)) c (fl eRf (inS 1 A 0))], rfl, ⟨p, c, rfl, rfl⟩, h54⟩
  ·
    intro _ _ _ _ _ _ hf_; exact hf_.elim

set_option maxHeartbeats 4000000 in
theorem give_ht (b n : Nat) (A : List Sl2) (q : Nat) (x : Sl2) (hx : A[q]? = some x) (ix gn : Int) (hc : ix = (q : Int) ∧ x.1 = 1 ∧ x.2 = gn) : HT Try.prog 39 [Value.pointer (some ⟨b, 0, none⟩), Value.agg #[Value.int IntKind.i64 ix, Value.int IntKind.u32 gn]] [Tb b n A] (fun v K => v = Value.int .i64 0 ∧ K = [Tb b n (giveA A q gn)]) := by
  refine hi_in 38 ([(0, .pointer (some ⟨b, 0, none⟩)), (1, .agg #[.int .i64 ix, .int .u32 gn])] : Fr) Try.func39 (by kernel_rfl) Try.ntmps39 rfl rfl ?_
  intro g w0 R h0
  have hb1 := tb_bd (j := 0) h0 rfl
  have hq_ : q < n := by have h_ := (List.getElem?_eq_some_iff.1 hx).1; rw [hb1.1] at h_; exact h_
  have hx_ := hb1.2.2.2 x (List.mem_of_getElem? hx)
  have hb1_ := hb1.2.1; have hb2_ := hb1.2.2.1; have hb3_ := hb1.2.2.2
  refine gi_seq (x := CA Try.f39 [0]) (y := CA Try.f39 [1]) (by kernel_rfl) ?_
  refine gi_pln (id := 0) (ops := RA Try.f39 [0]) [0, 1] (by kernel_rfl) (by kernel_rfl) (by kernel_rfl) ?_
  refine plain_act (i := 0) (by kernel_rfl) ?_
  refine an_new (d := 3) (fun xb_ => .pointer (some ⟨xb_, 0, none⟩)) (fun xb_ => Obj.cells [.int .i64 ix, .int .u32 gn].toArray 79 (0, 0)) (fun xb_ => by kernel_rfl) (by kernel_rfl) rfl h0 ?_
  intro r2 w3 (h4 : sat g w3 [Cl r2 [.int .i64 ix, .int .u32 gn] 79, Tb b n A, R])
  refine plain_batch (rest := []) [⟨1, [], none⟩] (l' := ([(4, .int .i64 0), (3, .pointer (some ⟨r2, 0, none⟩)), (0, .pointer (some ⟨b, 0, none⟩)), (1, .agg #[.int .i64 ix, .int .u32 gn])] : Fr)) (pts' := []) (eqs := []) (by kernel_rfl) trivial (AllC_nil _) ?_
  refine PO.mk ?_
  change WP _ _ (CA Try.f39 [1]) _ _ _
  refine fk_cut ([(0, .pointer (some ⟨b, 0, none⟩)), (1, .agg #[.int .i64 ix, .int .u32 gn]), (3, .pointer (some ⟨r2, 0, none⟩)), (4, .int .i64 0)] : Fr) (by kernel_rfl) (fun a => WP _ _ _ _ a _) (fun lr5 => ?_)
  refine gi_seq (x := CA Try.f39 [1, 0]) (y := CA Try.f39 [1, 1]) (by kernel_rfl) ?_
  refine gi_seq (x := CA Try.f39 [1, 0, 0]) (y := CA Try.f39 [1, 0, 1]) (by kernel_rfl) ?_
  refine gi_pln (id := 1) (ops := RA Try.f39 [1, 0, 0]) [0, 1, 2, 3] (by kernel_rfl) (by kernel_rfl) (by kernel_rfl) ?_
  refine plain_batch (rest := [2, 3]) [⟨0, [], none⟩, ⟨1, [.int .i64 ix, .int .u32 gn], none⟩] (l' := ([(10, .agg #[.int .i64 ix, .int .u32 gn]), (9, .pointer (some ⟨b, 0, none⟩)), (0, .pointer (some ⟨b, 0, none⟩)), (1, .agg #[.int .i64 ix, .int .u32 gn]), (3, .pointer (some ⟨r2, 0, none⟩)), (4, .int .i64 0)] : Fr) ++ lr5) (pts' := [(1, ⟨r2, 0, none⟩, .int .i64 ix), (1, ⟨r2, 1, none⟩, .int .u32 gn)]) (eqs := []) (by kernel_rfl) trivial (AllC_cons (sat_cell h4 0 rfl rfl) (AllC_cons (sat_cell h4 0 rfl rfl) (AllC_nil _))) ?_
  have h6 : sat g w3 [Tb b n A, Cl r2 [.int .i64 ix, .int .u32 gn] 79, R] := sat_sel [1, 0, 2] rfl h4
  refine plain_act (i := 2) (by kernel_rfl) ?_
  refine an_call (d := some 11) (f := 54) (args := [.pointer (some ⟨b, 0, none⟩), .agg #[.int .i64 ix, .int .u32 gn]]) (by kernel_rfl) Try.call54 (check_ok b n A q x hx ix gn (by omega)) (F := [Cl r2 [.int .i64 ix, .int .u32 gn] 79, R]) h6 ?_
  rintro v K w7 (⟨rfl, rfl⟩) h8
  refine ⟨_, rfl, ?_⟩
  have h9 : sat g w7 [Tb b n A, Cl r2 [.int .i64 ix, .int .u32 gn] 79, R] := h8
  refine plain_batch (rest := []) [⟨3, [], none⟩] (l' := ([(5, .int .i64 0), (11, .int .i64 0), (10, .agg #[.int .i64 ix, .int .u32 gn]), (9, .pointer (some ⟨b, 0, none⟩)), (0, .pointer (some ⟨b, 0, none⟩)), (1, .agg #[.int .i64 ix, .int .u32 gn]), (3, .pointer (some ⟨r2, 0, none⟩)), (4, .int .i64 0)] : Fr) ++ lr5) (pts' := []) (eqs := []) (by kernel_rfl) trivial (AllC_nil _) ?_
  refine PO.mk ?_
  change WP _ _ (CA Try.f39 [1, 0, 1]) _ _ _
  refine fk_cut ([(0, .pointer (some ⟨b, 0, none⟩)), (1, .agg #[.int .i64 ix, .int .u32 gn]), (3, .pointer (some ⟨r2, 0, none⟩)), (4, .int .i64 0), (5, .int .i64 0)] : Fr) (by kernel_rfl) (fun a => WP _ _ _ _ a _) (fun lr10 => ?_)
  refine gi_seq (x := CA Try.f39 [1, 0, 1, 0]) (y := CA Try.f39 [1, 0, 1, 1]) (by kernel_rfl) ?_
  refine gi_pln (id := 2) (ops := RA Try.f39 [1, 0, 1, 0]) [0, 1] (by kernel_rfl) (by kernel_rfl) (by kernel_rfl) ?_
  refine plain_batch (rest := []) [⟨0, [], none⟩, ⟨1, [], none⟩] (l' := ([(13, .bool false), (12, .int .i64 0), (0, .pointer (some ⟨b, 0, none⟩)), (1, .agg #[.int .i64 ix, .int .u32 gn]), (3, .pointer (some ⟨r2, 0, none⟩)), (4, .int .i64 0), (5, .int .i64 0)] : Fr) ++ lr10) (pts' := []) (eqs := []) (by kernel_rfl) trivial (AllC_nil _) ?_
  refine PO.mk ?_
  change WP _ _ (CA Try.f39 [1, 0, 1, 1]) _ _ _
  refine fk_cut ([(0, .pointer (some ⟨b, 0, none⟩)), (1, .agg #[.int .i64 ix, .int .u32 gn]), (3, .pointer (some ⟨r2, 0, none⟩)), (4, .int .i64 0), (5, .int .i64 0), (13, .bool false)] : Fr) (by kernel_rfl) (fun a => WP _ _ _ _ a _) (fun lr11 => ?_)
  refine gi_cnd (x := (Operand.tmp 13)) (s := CA Try.f39 [1, 0, 1, 1, 0]) (t := CA Try.f39 [1, 0, 1, 1, 1]) false (by kernel_rfl) (by kernel_rfl) ?_
  change WP _ _ (CA Try.f39 [1, 0, 1, 1, 1]) _ _ _
  refine gi_skp (by kernel_rfl) ?_
  change WP _ _ (CA Try.f39 [1, 1]) _ _ _
  refine gi_seq (x := CA Try.f39 [1, 1, 0]) (y := CA Try.f39 [1, 1, 1]) (by kernel_rfl) ?_
  refine gi_seq (x := CA Try.f39 [1, 1, 0, 0]) (y := CA Try.f39 [1, 1, 0, 1]) (by kernel_rfl) ?_
  refine gi_pln (id := 4) (ops := RA Try.f39 [1, 1, 0, 0]) [0, 1, 2, 3, 4, 5, 6, 7, 8, 9] (by kernel_rfl) (by kernel_rfl) (by kernel_rfl) ?_
  refine plain_batch (rest := [2, 3, 4, 5, 6, 7, 8, 9]) [⟨0, [], none⟩, ⟨1, [.int .u32 gn], none⟩] (l' := ([(17, .int .u32 gn), (16, .pointer (some ⟨r2, 1, none⟩)), (0, .pointer (some ⟨b, 0, none⟩)), (1, .agg #[.int .i64 ix, .int .u32 gn]), (3, .pointer (some ⟨r2, 0, none⟩)), (4, .int .i64 0), (5, .int .i64 0), (13, .bool false)] : Fr) ++ lr11) (pts' := [(1, ⟨r2, 1, none⟩, .int .u32 gn)]) (eqs := []) (by kernel_rfl) trivial (AllC_cons (sat_cell h9 1 rfl rfl) (AllC_nil _)) ?_
  by_cases c12 : gn < 4294967295
  ·
    refine plain_act (i := 2) (by kernel_rfl) ?_
    refine an_call (d := some 18) (f := 55) (args := [.int .u32 gn]) (by kernel_rfl) Try.call55 (next_ok gn (by omega) (by omega)) (F := [Tb b n A, Cl r2 [.int .i64 ix, .int .u32 gn] 79, R]) h9 ?_
    rintro v K w13 (⟨rfl, rfl⟩) h14
    refine ⟨_, rfl, ?_⟩
    have h15 : sat g w13 [Tb b n A, Cl r2 [.int .i64 ix, .int .u32 gn] 79, R] := h14
    refine plain_batch (rest := []) [⟨3, [], none⟩, ⟨4, [], none⟩, ⟨5, [], none⟩, ⟨6, [], none⟩, ⟨7, [], none⟩, ⟨8, [], none⟩, ⟨9, [], none⟩] (l' := ([(8, .int .i64 0), (7, .bool true), (6, .int .u32 (gn + 1)), (21, .int .i64 0), (20, .bool true), (19, .int .u32 (gn + 1)), (15, .tuple #[.int .u32 (gn + 1), .bool true, .int .i64 0]), (18, .tuple #[.int .u32 (gn + 1), .bool true, .int .i64 0]), (17, .int .u32 gn), (16, .pointer (some ⟨r2, 1, none⟩)), (0, .pointer (some ⟨b, 0, none⟩)), (1, .agg #[.int .i64 ix, .int .u32 gn]), (3, .pointer (some ⟨r2, 0, none⟩)), (4, .int .i64 0), (5, .int .i64 0), (13, .bool false)] : Fr) ++ lr11) (pts' := []) (eqs := []) (by kernel_rfl) trivial (AllC_nil _) ?_
    refine PO.mk ?_
    change WP _ _ (CA Try.f39 [1, 1, 0, 1]) _ _ _
    refine fk_cut ([(0, .pointer (some ⟨b, 0, none⟩)), (1, .agg #[.int .i64 ix, .int .u32 gn]), (3, .pointer (some ⟨r2, 0, none⟩)), (4, .int .i64 0), (5, .int .i64 0), (6, .int .u32 (gn + 1)), (7, .bool true), (13, .bool false)] : Fr) (by kernel_rfl) (fun a => WP _ _ _ _ a _) (fun lr16 => ?_)
    refine gi_seq (x := CA Try.f39 [1, 1, 0, 1, 0]) (y := CA Try.f39 [1, 1, 0, 1, 1]) (by kernel_rfl) ?_
    refine gi_pln (id := 5) (ops := RA Try.f39 [1, 1, 0, 1, 0]) [0] (by kernel_rfl) (by kernel_rfl) (by kernel_rfl) ?_
    refine plain_batch (rest := []) [⟨0, [], none⟩] (l' := ([(22, .bool true), (0, .pointer (some ⟨b, 0, none⟩)), (1, .agg #[.int .i64 ix, .int .u32 gn]), (3, .pointer (some ⟨r2, 0, none⟩)), (4, .int .i64 0), (5, .int .i64 0), (6, .int .u32 (gn + 1)), (7, .bool true), (13, .bool false)] : Fr) ++ lr16) (pts' := []) (eqs := []) (by kernel_rfl) trivial (AllC_nil _) ?_
    refine PO.mk ?_
    change WP _ _ (CA Try.f39 [1, 1, 0, 1, 1]) _ _ _
    refine fk_cut ([(0, .pointer (some ⟨b, 0, none⟩)), (1, .agg #[.int .i64 ix, .int .u32 gn]), (3, .pointer (some ⟨r2, 0, none⟩)), (4, .int .i64 0), (5, .int .i64 0), (6, .int .u32 (gn + 1)), (7, .bool true), (13, .bool false), (22, .bool true)] : Fr) (by kernel_rfl) (fun a => WP _ _ _ _ a _) (fun lr17 => ?_)
    refine gi_cnd (x := (Operand.tmp 22)) (s := CA Try.f39 [1, 1, 0, 1, 1, 0]) (t := CA Try.f39 [1, 1, 0, 1, 1, 1]) true (by kernel_rfl) (by kernel_rfl) ?_
    change WP _ _ (CA Try.f39 [1, 1, 0, 1, 1, 0]) _ _ _
    obtain ⟨T18, hp19, h20⟩ := tb_open h15
    have hq21 := hp19.2.1; have hq22 := hp19.2.2.1; have hq23 := hp19.2.2.2.2
    refine gi_drw (id := 6) (ops := RA Try.f39 [1, 1, 0, 1, 1, 0]) (Tr.fl 0 (Tr.fl 1 (Tr.fl 2 (Tr.fl 3 (Tr.fl 4 (Tr.fl 5 (Tr.fl 6 (Tr.fl 7 (Tr.an 8 Tr.nil))))))))) (by kernel_rfl) (by kernel_rfl) (by kernel_rfl) (by kernel_rfl) (by kernel_rfl) (fun _ _ d _ _ h => by cases d <;> exact h) h20 ?_
    intro w24 h25
    refine draw_batch (t := (Tr.fl 7 (Tr.an 8 Tr.nil))) [⟨0, [], none⟩, ⟨1, [], none⟩, ⟨2, [.int .i64 ix], none⟩, ⟨3, [], none⟩, ⟨4, [], none⟩, ⟨5, [], none⟩, ⟨6, [], none⟩] (l' := ([(29, .pointer (some ⟨b, 1, none⟩)), (28, .pointer (some ⟨b, 0, none⟩)), (27, .agg #[.int .i64 0, .int .u32 (gn + 1)]), (26, .int .u32 (gn + 1)), (25, .int .i64 ix), (24, .pointer (some ⟨r2, 0, none⟩)), (23, .pointer (some ⟨b, 0, none⟩)), (0, .pointer (some ⟨b, 0, none⟩)), (1, .agg #[.int .i64 ix, .int .u32 gn]), (3, .pointer (some ⟨r2, 0, none⟩)), (4, .int .i64 0), (5, .int .i64 0), (6, .int .u32 (gn + 1)), (7, .bool true), (13, .bool false), (22, .bool true)] : Fr) ++ lr17) (pts' := [(2, ⟨r2, 0, none⟩, .int .i64 ix)]) (eqs := []) (by kernel_rfl) trivial (AllC_cons (sat_cell h25 1 rfl rfl) (AllC_nil _)) ?_
    refine draw_law (i := 7) 30 (.pointer (some ⟨b, q * 2 + 1, none⟩)) [] (by kernel_rfl) (fun _ _ => law_indexArr (o := opA (RA Try.f39 [1, 1, 0, 1, 1, 0]) 7) (x := (Operand.tmp 29)) (i := (Operand.tmp 25)) (b := b) (off := 1) (z := ix) (by kernel_rfl) Try.underlying105 2 (by kernel_rfl) q (by kernel_rfl) (by kernel_rfl) (by omega) (by omega) (q * 2 + 1) (by omega) _) (by intro q hq; cases hq) ?_
    refine draw_act (i := 8) [] (by kernel_rfl) (by kernel_rfl) ?_
    refine an_store [(q * 2 + 1, .int .i64 0), (q * 2 + 2, .int .u32 (gn + 1))] (cs' := (tbl n ((A.set q (0, gn + 1)) ++ T18))) (by kernel_rfl) (by kernel_rfl) (allq ⟨⟨by rw [tbl_len]; omega, rfl⟩, ⟨by rw [tbl_len]; omega, rfl⟩, trivial⟩) (tbl_put2k hx 0 (gn + 1) (by omega) (by omega)) h25 ?_
    intro w26 (h27 : sat g w26 [Cl b (tbl n ((A.set q (0, gn + 1)) ++ T18)) 107, Cl r2 [.int .i64 ix, .int .u32 gn] 79, R])
    refine ⟨(AllC_nil _), ?_⟩
    have hA_ : (A.set q (0, gn + 1)) = giveA A q gn := by unfold giveA; rw [if_pos (by omega)]
    have h28 : sat g w26 [Cl b (tbl n ((giveA A q gn) ++ T18)) 107, Cl r2 [.int .i64 ix, .int .u32 gn] 79, R] := hA_ ▸ h27
    have h29 : sat g w26 [Tb b n (giveA A q gn), Cl r2 [.int .i64 ix, .int .u32 gn] 79, R] := tb_close ⟨by unfold giveA; split <;> (rw [List.length_set]; exact hp19.1), hp19.2.1, hp19.2.2.1, slOk_give hp19.2.2.2.1 hx (by omega), by have h_ := hp19.2.2.2.2; rw [List.length_append] at h_ ⊢; unfold giveA; split <;> (rw [List.length_set]; exact h_)⟩ h28
    change WP _ _ (CA Try.f39 [1, 1, 1]) _ _ _
    refine fk_cut ([(0, .pointer (some ⟨b, 0, none⟩)), (1, .agg #[.int .i64 ix, .int .u32 gn]), (3, .pointer (some ⟨r2, 0, none⟩)), (4, .int .i64 0), (5, .int .i64 0), (6, .int .u32 (gn + 1)), (7, .bool true), (13, .bool false), (22, .bool true)] : Fr) (by kernel_rfl) (fun a => WP _ _ _ _ a _) (fun lr30 => ?_)
    refine gi_seq (x := CA Try.f39 [1, 1, 1, 0]) (y := CA Try.f39 [1, 1, 1, 1]) (by kernel_rfl) ?_
    refine gi_pln (id := 8) (ops := RA Try.f39 [1, 1, 1, 0]) [0] (by kernel_rfl) (by kernel_rfl) (by kernel_rfl) ?_
    refine plain_batch (rest := []) [⟨0, [], none⟩] (l' := ([(4, .int .i64 0), (0, .pointer (some ⟨b, 0, none⟩)), (1, .agg #[.int .i64 ix, .int .u32 gn]), (3, .pointer (some ⟨r2, 0, none⟩)), (4, .int .i64 0), (5, .int .i64 0), (6, .int .u32 (gn + 1)), (7, .bool true), (13, .bool false), (22, .bool true)] : Fr) ++ lr30) (pts' := []) (eqs := []) (by kernel_rfl) trivial (AllC_nil _) ?_
    refine PO.mk ?_
    change WP _ _ (CA Try.f39 [1, 1, 1, 1]) _ _ _
    refine fk_cut ([(0, .pointer (some ⟨b, 0, none⟩)), (1, .agg #[.int .i64 ix, .int .u32 gn]), (3, .pointer (some ⟨r2, 0, none⟩)), (4, .int .i64 0), (5, .int .i64 0), (6, .int .u32 (gn + 1)), (7, .bool true), (13, .bool false), (22, .bool true)] : Fr) (by kernel_rfl) (fun a => WP _ _ _ _ a _) (fun lr31 => ?_)
    refine gi_rt (by kernel_rfl) ?_
    repeat (first | simp only [Exit.inBlock] | simp only [Exit.then])
    have h32 : sat g w26 [Tb b n (giveA A q gn), R] := sat_sel [0, 2] rfl h29
    refine hi_out [] (.int .i64 0) [] (by kernel_rfl) (by intro q hq; cases hq) ?_
    exact ⟨.int .i64 0, [Tb b n (giveA A q gn)], rfl, ⟨rfl, rfl⟩, h32⟩
  ·
    refine plain_act (i := 2) (by kernel_rfl) ?_
    refine an_call (d := some 18) (f := 55) (args := [.int .u32 gn]) (by kernel_rfl) Try.call55 (next_no gn (by omega)) (F := [Tb b n A, Cl r2 [.int .i64 ix, .int .u32 gn] 79, R]) h9 ?_
    rintro v K w33 (⟨rfl, rfl⟩) h34
    refine ⟨_, rfl, ?_⟩
    have h35 : sat g w33 [Tb b n A, Cl r2 [.int .i64 ix, .int .u32 gn] 79, R] := h34
    refine plain_batch (rest := []) [⟨3, [], none⟩, ⟨4, [], none⟩, ⟨5, [], none⟩, ⟨6, [], none⟩, ⟨7, [], none⟩, ⟨8, [], none⟩, ⟨9, [], none⟩] (l' := ([(8, .int .i64 0), (7, .bool false), (6, .int .u32 0), (21, .int .i64 0), (20, .bool false), (19, .int .u32 0), (15, .tuple #[.int .u32 0, .bool false, .int .i64 0]), (18, .tuple #[.int .u32 0, .bool false, .int .i64 0]), (17, .int .u32 gn), (16, .pointer (some ⟨r2, 1, none⟩)), (0, .pointer (some ⟨b, 0, none⟩)), (1, .agg #[.int .i64 ix, .int .u32 gn]), (3, .pointer (some ⟨r2, 0, none⟩)), (4, .int .i64 0), (5, .int .i64 0), (13, .bool false)] : Fr) ++ lr11) (pts' := []) (eqs := []) (by kernel_rfl) trivial (AllC_nil _) ?_
    refine PO.mk ?_
    change WP _ _ (CA Try.f39 [1, 1, 0, 1]) _ _ _
    refine fk_cut ([(0, .pointer (some ⟨b, 0, none⟩)), (1, .agg #[.int .i64 ix, .int .u32 gn]), (3, .pointer (some ⟨r2, 0, none⟩)), (4, .int .i64 0), (5, .int .i64 0), (6, .int .u32 0), (7, .bool false), (13, .bool false)] : Fr) (by kernel_rfl) (fun a => WP _ _ _ _ a _) (fun lr36 => ?_)
    refine gi_seq (x := CA Try.f39 [1, 1, 0, 1, 0]) (y := CA Try.f39 [1, 1, 0, 1, 1]) (by kernel_rfl) ?_
    refine gi_pln (id := 5) (ops := RA Try.f39 [1, 1, 0, 1, 0]) [0] (by kernel_rfl) (by kernel_rfl) (by kernel_rfl) ?_
    refine plain_batch (rest := []) [⟨0, [], none⟩] (l' := ([(22, .bool false), (0, .pointer (some ⟨b, 0, none⟩)), (1, .agg #[.int .i64 ix, .int .u32 gn]), (3, .pointer (some ⟨r2, 0, none⟩)), (4, .int .i64 0), (5, .int .i64 0), (6, .int .u32 0), (7, .bool false), (13, .bool false)] : Fr) ++ lr36) (pts' := []) (eqs := []) (by kernel_rfl) trivial (AllC_nil _) ?_
    refine PO.mk ?_
    change WP _ _ (CA Try.f39 [1, 1, 0, 1, 1]) _ _ _
    refine fk_cut ([(0, .pointer (some ⟨b, 0, none⟩)), (1, .agg #[.int .i64 ix, .int .u32 gn]), (3, .pointer (some ⟨r2, 0, none⟩)), (4, .int .i64 0), (5, .int .i64 0), (6, .int .u32 0), (7, .bool false), (13, .bool false), (22, .bool false)] : Fr) (by kernel_rfl) (fun a => WP _ _ _ _ a _) (fun lr37 => ?_)
    refine gi_cnd (x := (Operand.tmp 22)) (s := CA Try.f39 [1, 1, 0, 1, 1, 0]) (t := CA Try.f39 [1, 1, 0, 1, 1, 1]) false (by kernel_rfl) (by kernel_rfl) ?_
    change WP _ _ (CA Try.f39 [1, 1, 0, 1, 1, 1]) _ _ _
    obtain ⟨T38, hp39, h40⟩ := tb_open h35
    have hq41 := hp39.2.1; have hq42 := hp39.2.2.1; have hq43 := hp39.2.2.2.2
    refine gi_drw (id := 7) (ops := RA Try.f39 [1, 1, 0, 1, 1, 1]) (Tr.fl 0 (Tr.fl 1 (Tr.fl 2 (Tr.fl 3 (Tr.fl 4 (Tr.fl 5 (Tr.fl 6 (Tr.an 7 Tr.nil)))))))) (by kernel_rfl) (by kernel_rfl) (by kernel_rfl) (by kernel_rfl) (by kernel_rfl) (fun _ _ d _ _ h => by cases d <;> exact h) h40 ?_
    intro w44 h45
    refine draw_batch (t := (Tr.fl 5 (Tr.fl 6 (Tr.an 7 Tr.nil)))) [⟨0, [], none⟩, ⟨1, [], none⟩, ⟨2, [.int .i64 ix], none⟩, ⟨3, [], none⟩, ⟨4, [], none⟩] (l' := ([(35, .pointer (some ⟨b, 1, none⟩)), (34, .pointer (some ⟨b, 0, none⟩)), (33, .int .i64 ix), (32, .pointer (some ⟨r2, 0, none⟩)), (31, .pointer (some ⟨b, 0, none⟩)), (0, .pointer (some ⟨b, 0, none⟩)), (1, .agg #[.int .i64 ix, .int .u32 gn]), (3, .pointer (some ⟨r2, 0, none⟩)), (4, .int .i64 0), (5, .int .i64 0), (6, .int .u32 0), (7, .bool false), (13, .bool false), (22, .bool false)] : Fr) ++ lr37) (pts' := [(2, ⟨r2, 0, none⟩, .int .i64 ix)]) (eqs := []) (by kernel_rfl) trivial (AllC_cons (sat_cell h45 1 rfl rfl) (AllC_nil _)) ?_
    refine draw_law (i := 5) 36 (.pointer (some ⟨b, q * 2 + 1, none⟩)) [] (by kernel_rfl) (fun _ _ => law_indexArr (o := opA (RA Try.f39 [1, 1, 0, 1, 1, 1]) 5) (x := (Operand.tmp 35)) (i := (Operand.tmp 33)) (b := b) (off := 1) (z := ix) (by kernel_rfl) Try.underlying105 2 (by kernel_rfl) q (by kernel_rfl) (by kernel_rfl) (by omega) (by omega) (q * 2 + 1) (by omega) _) (by intro q hq; cases hq) ?_
    refine draw_batch (t := (Tr.an 7 Tr.nil)) [⟨6, [], none⟩] (l' := ([(37, .pointer (some ⟨b, q * 2 + 1, none⟩)), (36, .pointer (some ⟨b, q * 2 + 1, none⟩)), (35, .pointer (some ⟨b, 1, none⟩)), (34, .pointer (some ⟨b, 0, none⟩)), (33, .int .i64 ix), (32, .pointer (some ⟨r2, 0, none⟩)), (31, .pointer (some ⟨b, 0, none⟩)), (0, .pointer (some ⟨b, 0, none⟩)), (1, .agg #[.int .i64 ix, .int .u32 gn]), (3, .pointer (some ⟨r2, 0, none⟩)), (4, .int .i64 0), (5, .int .i64 0), (6, .int .u32 0), (7, .bool false), (13, .bool false), (22, .bool false)] : Fr) ++ lr37) (pts' := []) (eqs := []) (by kernel_rfl) trivial (AllC_nil _) ?_
    refine draw_act (i := 7) [] (by kernel_rfl) (by kernel_rfl) ?_
    refine an_store [(q * 2 + 1, .int .i64 2)] (cs' := (tbl n ((A.set q (2, x.2)) ++ T38))) (by kernel_rfl) (by kernel_rfl) (allq ⟨⟨by rw [tbl_len]; omega, rfl⟩, trivial⟩) (tbl_putSk hx 2 (by omega)) h45 ?_
    intro w46 (h47 : sat g w46 [Cl b (tbl n ((A.set q (2, x.2)) ++ T38)) 107, Cl r2 [.int .i64 ix, .int .u32 gn] 79, R])
    refine ⟨(AllC_nil _), ?_⟩
    have hA_ : (A.set q (2, x.2)) = giveA A q gn := by unfold giveA; rw [if_neg (by omega), show x.2 = gn from by omega]
    have h48 : sat g w46 [Cl b (tbl n ((giveA A q gn) ++ T38)) 107, Cl r2 [.int .i64 ix, .int .u32 gn] 79, R] := hA_ ▸ h47
    have h49 : sat g w46 [Tb b n (giveA A q gn), Cl r2 [.int .i64 ix, .int .u32 gn] 79, R] := tb_close ⟨by unfold giveA; split <;> (rw [List.length_set]; exact hp39.1), hp39.2.1, hp39.2.2.1, slOk_give hp39.2.2.2.1 hx (by omega), by have h_ := hp39.2.2.2.2; rw [List.length_append] at h_ ⊢; unfold giveA; split <;> (rw [List.length_set]; exact h_)⟩ h48
    change WP _ _ (CA Try.f39 [1, 1, 1]) _ _ _
    refine fk_cut ([(0, .pointer (some ⟨b, 0, none⟩)), (1, .agg #[.int .i64 ix, .int .u32 gn]), (3, .pointer (some ⟨r2, 0, none⟩)), (4, .int .i64 0), (5, .int .i64 0), (6, .int .u32 0), (7, .bool false), (13, .bool false), (22, .bool false)] : Fr) (by kernel_rfl) (fun a => WP _ _ _ _ a _) (fun lr50 => ?_)
    refine gi_seq (x := CA Try.f39 [1, 1, 1, 0]) (y := CA Try.f39 [1, 1, 1, 1]) (by kernel_rfl) ?_
    refine gi_pln (id := 8) (ops := RA Try.f39 [1, 1, 1, 0]) [0] (by kernel_rfl) (by kernel_rfl) (by kernel_rfl) ?_
    refine plain_batch (rest := []) [⟨0, [], none⟩] (l' := ([(4, .int .i64 0), (0, .pointer (some ⟨b, 0, none⟩)), (1, .agg #[.int .i64 ix, .int .u32 gn]), (3, .pointer (some ⟨r2, 0, none⟩)), (4, .int .i64 0), (5, .int .i64 0), (6, .int .u32 0), (7, .bool false), (13, .bool false), (22, .bool false)] : Fr) ++ lr50) (pts' := []) (eqs := []) (by kernel_rfl) trivial (AllC_nil _) ?_
    refine PO.mk ?_
    change WP _ _ (CA Try.f39 [1, 1, 1, 1]) _ _ _
    refine fk_cut ([(0, .pointer (some ⟨b, 0, none⟩)), (1, .agg #[.int .i64 ix, .int .u32 gn]), (3, .pointer (some ⟨r2, 0, none⟩)), (4, .int .i64 0), (5, .int .i64 0), (6, .int .u32 0), (7, .bool false), (13, .bool false), (22, .bool false)] : Fr) (by kernel_rfl) (fun a => WP _ _ _ _ a _) (fun lr51 => ?_)
    refine gi_rt (by kernel_rfl) ?_
    repeat (first | simp only [Exit.inBlock] | simp only [Exit.then])
    have h52 : sat g w46 [Tb b n (giveA A q gn), R] := sat_sel [0, 2] rfl h49
    refine hi_out [] (.int .i64 0) [] (by kernel_rfl) (by intro q hq; cases hq) ?_
    exact ⟨.int .i64 0, [Tb b n (giveA A q gn)], rfl, ⟨rfl, rfl⟩, h52⟩

set_option maxHeartbeats 4000000 in
theorem scopy_ht (b n : Nat) (A : List Sl2) : HT Try.prog 44 [Value.pointer (some ⟨b, 0, none⟩)] [Tb b n A] (fun v K => ∃ b2 : Nat, v = Value.pointer (some ⟨b2, 0, none⟩) ∧ K = [Tb b n A, Tb b2 n A]) := by
  refine hi_in 10 ([(0, .pointer (some ⟨b, 0, none⟩))] : Fr) Try.func44 (by kernel_rfl) Try.ntmps44 rfl rfl ?_
  intro g w0 R h0
  refine gi_seq (x := CA Try.f44 [0]) (y := CA Try.f44 [1]) (by kernel_rfl) ?_
  refine gi_pln (id := 0) (ops := RA Try.f44 [0]) [0] (by kernel_rfl) (by kernel_rfl) (by kernel_rfl) ?_
  refine plain_batch (rest := []) [⟨0, [], none⟩] (l' := ([(2, .pointer none), (0, .pointer (some ⟨b, 0, none⟩))] : Fr)) (pts' := []) (eqs := []) (by kernel_rfl) trivial (AllC_nil _) ?_
  refine PO.mk ?_
  change WP _ _ (CA Try.f44 [1]) _ _ _
  refine fk_cut ([(0, .pointer (some ⟨b, 0, none⟩)), (2, .pointer none)] : Fr) (by kernel_rfl) (fun a => WP _ _ _ _ a _) (fun lr1 => ?_)
  refine gi_seq (x := CA Try.f44 [1, 0]) (y := CA Try.f44 [1, 1]) (by kernel_rfl) ?_
  refine gi_seq (x := CA Try.f44 [1, 0, 0]) (y := CA Try.f44 [1, 0, 1]) (by kernel_rfl) ?_
  refine gi_pln (id := 1) (ops := RA Try.f44 [1, 0, 0]) [0, 1, 2] (by kernel_rfl) (by kernel_rfl) (by kernel_rfl) ?_
  refine plain_batch (rest := [1, 2]) [⟨0, [], none⟩] (l' := ([(4, .pointer (some ⟨b, 0, none⟩)), (0, .pointer (some ⟨b, 0, none⟩)), (2, .pointer none)] : Fr) ++ lr1) (pts' := []) (eqs := []) (by kernel_rfl) trivial (AllC_nil _) ?_
  refine plain_act (i := 1) (by kernel_rfl) ?_
  refine an_call (d := some 5) (f := 51) (args := [.pointer (some ⟨b, 0, none⟩)]) (by kernel_rfl) Try.call51 (svalid_ht b n A) (F := [R]) h0 ?_
  rintro v K w2 (⟨rfl, rfl⟩) h3
  refine ⟨_, rfl, ?_⟩
  have h4 : sat g w2 [Tb b n A, R] := h3
  refine plain_batch (rest := []) [⟨2, [], none⟩] (l' := ([(6, .bool false), (5, .bool true), (4, .pointer (some ⟨b, 0, none⟩)), (0, .pointer (some ⟨b, 0, none⟩)), (2, .pointer none)] : Fr) ++ lr1) (pts' := []) (eqs := []) (by kernel_rfl) trivial (AllC_nil _) ?_
  refine PO.mk ?_
  change WP _ _ (CA Try.f44 [1, 0, 1]) _ _ _
  refine fk_cut ([(0, .pointer (some ⟨b, 0, none⟩)), (2, .pointer none), (6, .bool false)] : Fr) (by kernel_rfl) (fun a => WP _ _ _ _ a _) (fun lr5 => ?_)
  refine gi_cnd (x := (Operand.tmp 6)) (s := CA Try.f44 [1, 0, 1, 0]) (t := CA Try.f44 [1, 0, 1, 1]) false (by kernel_rfl) (by kernel_rfl) ?_
  change WP _ _ (CA Try.f44 [1, 0, 1, 1]) _ _ _
  refine gi_skp (by kernel_rfl) ?_
  change WP _ _ (CA Try.f44 [1, 1]) _ _ _
  refine gi_seq (x := CA Try.f44 [1, 1, 0]) (y := CA Try.f44 [1, 1, 1]) (by kernel_rfl) ?_
  obtain ⟨T6, hp7, h8⟩ := tb_open h4
  have hq9 := hp7.2.1; have hq10 := hp7.2.2.1; have hq11 := hp7.2.2.2.2
  refine gi_pln (id := 3) (ops := RA Try.f44 [1, 1, 0]) [0, 1, 2, 3, 4] (by kernel_rfl) (by kernel_rfl) (by kernel_rfl) ?_
  refine plain_batch (rest := [2, 3, 4]) [⟨0, [], none⟩, ⟨1, [], none⟩] (l' := ([(8, .pointer (some ⟨b, 0, none⟩)), (7, .pointer (some ⟨b, 0, none⟩)), (0, .pointer (some ⟨b, 0, none⟩)), (2, .pointer none), (6, .bool false)] : Fr) ++ lr5) (pts' := []) (eqs := []) (by kernel_rfl) trivial (AllC_nil _) ?_
  refine plain_law (i := 2) 9 (.agg (tbl n (A ++ T6)).toArray) (by kernel_rfl) (law_loadRow (o := opA (RA Try.f44 [1, 1, 0]) 2) (x := (Operand.tmp 8)) (by kernel_rfl) 0 h8 rfl _ rfl Try.underlying107 (by rw [tbl_len, hp7.2.2.2.2]; kernel_rfl) (by kernel_rfl)) ?_
  refine plain_act (i := 3) (by kernel_rfl) ?_
  refine an_new (d := 3) (fun xb_ => .pointer (some ⟨xb_, 0, none⟩)) (fun xb_ => Obj.cells (tbl 0 (List.replicate 256 (0, 0))).toArray 107 (0, 0)) (fun xb_ => by kernel_rfl) (by kernel_rfl) rfl h8 ?_
  intro r12 w13 (h14 : sat g w13 [Cl r12 (tbl 0 (List.replicate 256 (0, 0))) 107, Cl b (tbl n (A ++ T6)) 107, R])
  refine plain_act (i := 4) (by kernel_rfl) ?_
  refine an_storeRow (t := 107) (x := (Operand.tmp 3)) (y := (Operand.tmp 9)) (cs := (tbl n (A ++ T6))) (by kernel_rfl) (by kernel_rfl) h14 (by rw [tbl_len, hp7.2.2.2.2]; kernel_rfl) (by rw [tbl_len, tbl_len, hp7.2.2.2.2, List.length_replicate]) (tbl_one _ _) (by kernel_rfl) (by kernel_rfl) ?_
  intro w15 (h16 : sat g w15 [Cl r12 (tbl n (A ++ T6)) 107, Cl b (tbl n (A ++ T6)) 107, R])
  refine PO.mk ?_
  change WP _ _ (CA Try.f44 [1, 1, 1]) _ _ _
  refine fk_cut ([(0, .pointer (some ⟨b, 0, none⟩)), (2, .pointer none), (3, .pointer (some ⟨r12, 0, none⟩)), (6, .bool false)] : Fr) (by kernel_rfl) (fun a => WP _ _ _ _ a _) (fun lr17 => ?_)
  refine gi_seq (x := CA Try.f44 [1, 1, 1, 0]) (y := CA Try.f44 [1, 1, 1, 1]) (by kernel_rfl) ?_
  refine gi_pln (id := 4) (ops := RA Try.f44 [1, 1, 1, 0]) [0] (by kernel_rfl) (by kernel_rfl) (by kernel_rfl) ?_
  refine plain_batch (rest := []) [⟨0, [], none⟩] (l' := ([(2, .pointer (some ⟨r12, 0, none⟩)), (0, .pointer (some ⟨b, 0, none⟩)), (2, .pointer none), (3, .pointer (some ⟨r12, 0, none⟩)), (6, .bool false)] : Fr) ++ lr17) (pts' := []) (eqs := []) (by kernel_rfl) trivial (AllC_nil _) ?_
  refine PO.mk ?_
  change WP _ _ (CA Try.f44 [1, 1, 1, 1]) _ _ _
  refine fk_cut ([(0, .pointer (some ⟨b, 0, none⟩)), (2, .pointer (some ⟨r12, 0, none⟩)), (3, .pointer (some ⟨r12, 0, none⟩)), (6, .bool false)] : Fr) (by kernel_rfl) (fun a => WP _ _ _ _ a _) (fun lr18 => ?_)
  refine gi_rt (by kernel_rfl) ?_
  repeat (first | simp only [Exit.inBlock] | simp only [Exit.then])
  have h19 : sat g w15 [Tb r12 n A, Cl b (tbl n (A ++ T6)) 107, R] := tb_close hp7 h16
  have h20 : sat g w15 [Cl b (tbl n (A ++ T6)) 107, Tb r12 n A, R] := sat_sel [1, 0, 2] rfl h19
  have h21 : sat g w15 [Tb b n A, Tb r12 n A, R] := tb_close hp7 h20
  refine hi_out [] (.pointer (some ⟨r12, 0, none⟩)) [] (by kernel_rfl) (by intro q hq; cases hq) ?_
  exact ⟨.pointer (some ⟨r12, 0, none⟩), [Tb b n A, Tb r12 n A], rfl, ⟨r12, rfl, rfl⟩, h21⟩

end Go.Proofs.Ytcgpkhdocakloaa
