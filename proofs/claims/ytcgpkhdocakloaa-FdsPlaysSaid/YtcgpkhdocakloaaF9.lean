/- Walks, printed by my generator gen9.py. -/
import Derived.Test.YtcgpkhdocakloaaF8
import Derived.Test.YtcgpkhdocakloaaFdsY
namespace Go.Proofs.Ytcgpkhdocakloaa
section
variable {g w : World} {L : List Assn} {b n : Nat} {X Y : Xs}
theorem dc_close2 {p : Option Addr} {c : Nat} (h1 : X.length = n ∧ 1 ≤ n ∧ n ≤ 64 ∧ SlOk (As X)) (hl : Y.length = X.length) (hk : SlOk (As Y)) (h : sat g w (Cl b [.slice p n c] 92 :: Sl 94 4 p n c (fl eId Y) :: L)) : sat g w (Dc b n Y :: L) :=
  dc_close ⟨hl.trans h1.1, h1.2.1, h1.2.2.1, hk⟩ h
end
set_option maxHeartbeats 4000000 in
theorem dnew_ok (n : Nat) (gn : Int) (hn : 1 ≤ n ∧ n ≤ 64) (hgn : 1 ≤ gn ∧ gn ≤ 4294967295) : HT Try.prog 20 [Value.int IntKind.i64 (((n : Nat) : Int)), Value.int IntKind.u32 gn] [] (fun v K => ∃ b : Nat, v = Value.tuple #[Value.pointer (some ⟨b, 0, none⟩), Value.int .i64 0] ∧ K = [Dc b n (List.replicate n (0, gn, 0))]) := by
  refine hi_in 37 ([(0, .int .i64 (((n : Nat) : Int))), (1, .int .u32 gn)] : Fr) Try.func20 (by kernel_rfl) Try.ntmps20 rfl rfl ?_
  intro g w0 R h0
  refine gi_seq (x := CA Try.f20 [0]) (y := CA Try.f20 [1]) (by kernel_rfl) ?_
  refine gi_pln (id := 0) (ops := RA Try.f20 [0]) [0, 1] (by kernel_rfl) (by kernel_rfl) (by kernel_rfl) ?_
  refine plain_batch (rest := []) [⟨0, [], none⟩, ⟨1, [], none⟩] (l' := ([(5, .int .i64 0), (4, .pointer none), (0, .int .i64 (((n : Nat) : Int))), (1, .int .u32 gn)] : Fr)) (pts' := []) (eqs := []) (by kernel_rfl) trivial (AllC_nil _) ?_
  refine PO.mk ?_
  change WP _ _ (CA Try.f20 [1]) _ _ _
  refine fk_cut ([(0, .int .i64 (((n : Nat) : Int))), (1, .int .u32 gn), (4, .pointer none), (5, .int .i64 0)] : Fr) (by kernel_rfl) (fun a => WP _ _ _ _ a _) (fun lr1 => ?_)
  refine gi_seq (x := CA Try.f20 [1, 0]) (y := CA Try.f20 [1, 1]) (by kernel_rfl) ?_
  refine gi_seq (x := CA Try.f20 [1, 0, 0]) (y := CA Try.f20 [1, 0, 1]) (by kernel_rfl) ?_
  refine gi_pln (id := 1) (ops := RA Try.f20 [1, 0, 0]) [0, 1, 2, 3, 4, 5, 6, 7, 8, 9] (by kernel_rfl) (by kernel_rfl) (by kernel_rfl) ?_
  refine plain_batch (rest := []) [⟨0, [], none⟩, ⟨1, [], some (.bool false)⟩, ⟨2, [], none⟩, ⟨3, [], none⟩, ⟨4, [], some (.bool false)⟩, ⟨5, [], none⟩, ⟨6, [], none⟩, ⟨7, [], none⟩, ⟨8, [], some (.bool false)⟩, ⟨9, [], none⟩] (l' := ([(17, .bool false), (16, .bool false), (15, .int .u32 gn), (14, .bool false), (13, .bool false), (12, .bool false), (11, .int .i64 (((n : Nat) : Int))), (10, .bool false), (9, .bool false), (8, .int .i64 (((n : Nat) : Int))), (0, .int .i64 (((n : Nat) : Int))), (1, .int .u32 gn), (4, .pointer none), (5, .int .i64 0)] : Fr) ++ lr1) (pts' := []) (eqs := [(.bool (decide (((n : Nat) : Int) < 1)), .bool false), (.bool (decide (((n : Nat) : Int) > 64)), .bool false), (.bool (gn == 0), .bool false)]) (by kernel_rfl) ⟨(ov_f (by omega)), (ov_f (by omega)), (ov_ef (by omega)), trivial⟩ (AllC_nil _) ?_
  refine PO.mk ?_
  change WP _ _ (CA Try.f20 [1, 0, 1]) _ _ _
  refine fk_cut ([(0, .int .i64 (((n : Nat) : Int))), (1, .int .u32 gn), (4, .pointer none), (5, .int .i64 0), (17, .bool false)] : Fr) (by kernel_rfl) (fun a => WP _ _ _ _ a _) (fun lr2 => ?_)
  refine gi_cnd (x := (Operand.tmp 17)) (s := CA Try.f20 [1, 0, 1, 0]) (t := CA Try.f20 [1, 0, 1, 1]) false (by kernel_rfl) (by kernel_rfl) ?_
  change WP _ _ (CA Try.f20 [1, 0, 1, 1]) _ _ _
  refine gi_skp (by kernel_rfl) ?_
  change WP _ _ (CA Try.f20 [1, 1]) _ _ _
  refine gi_seq (x := CA Try.f20 [1, 1, 0]) (y := CA Try.f20 [1, 1, 1]) (by kernel_rfl) ?_
  refine gi_pln (id := 3) (ops := RA Try.f20 [1, 1, 0]) [0, 1, 2] (by kernel_rfl) (by kernel_rfl) (by kernel_rfl) ?_
  refine plain_batch (rest := [1, 2]) [⟨0, [], none⟩] (l' := ([(18, .agg #[.slice none 0 0]), (0, .int .i64 (((n : Nat) : Int))), (1, .int .u32 gn), (4, .pointer none), (5, .int .i64 0), (17, .bool false)] : Fr) ++ lr2) (pts' := []) (eqs := []) (by kernel_rfl) trivial (AllC_nil _) ?_
  refine plain_act (i := 1) (by kernel_rfl) ?_
  refine an_new (d := 19) (fun xb_ => .pointer (some ⟨xb_, 0, none⟩)) (fun xb_ => Obj.cells [.slice none 0 0].toArray 92 (0, 0)) (fun xb_ => by kernel_rfl) (by kernel_rfl) rfl h0 ?_
  intro r3 w4 (h5 : sat g w4 [Cl r3 [.slice none 0 0] 92, R])
  refine plain_batch (rest := []) [⟨2, [], none⟩] (l' := ([(6, .pointer (some ⟨r3, 0, none⟩)), (19, .pointer (some ⟨r3, 0, none⟩)), (18, .agg #[.slice none 0 0]), (0, .int .i64 (((n : Nat) : Int))), (1, .int .u32 gn), (4, .pointer none), (5, .int .i64 0), (17, .bool false)] : Fr) ++ lr2) (pts' := []) (eqs := []) (by kernel_rfl) trivial (AllC_nil _) ?_
  refine PO.mk ?_
  change WP _ _ (CA Try.f20 [1, 1, 1]) _ _ _
  refine fk_cut ([(0, .int .i64 (((n : Nat) : Int))), (1, .int .u32 gn), (4, .pointer none), (5, .int .i64 0), (6, .pointer (some ⟨r3, 0, none⟩)), (17, .bool false)] : Fr) (by kernel_rfl) (fun a => WP _ _ _ _ a _) (fun lr6 => ?_)
  refine gi_seq (x := CA Try.f20 [1, 1, 1, 0]) (y := CA Try.f20 [1, 1, 1, 1]) (by kernel_rfl) ?_
  refine gi_seq (x := CA Try.f20 [1, 1, 1, 0, 0]) (y := CA Try.f20 [1, 1, 1, 0, 1]) (by kernel_rfl) ?_
  refine gi_pln (id := 4) (ops := RA Try.f20 [1, 1, 1, 0, 0]) [0] (by kernel_rfl) (by kernel_rfl) (by kernel_rfl) ?_
  refine plain_batch (rest := []) [⟨0, [], none⟩] (l' := ([(7, .int .i64 0), (0, .int .i64 (((n : Nat) : Int))), (1, .int .u32 gn), (4, .pointer none), (5, .int .i64 0), (6, .pointer (some ⟨r3, 0, none⟩)), (17, .bool false)] : Fr) ++ lr6) (pts' := []) (eqs := []) (by kernel_rfl) trivial (AllC_nil _) ?_
  refine PO.mk ?_
  change WP _ _ (CA Try.f20 [1, 1, 1, 0, 1]) _ _ _
  refine fk_cut ([(0, .int .i64 (((n : Nat) : Int))), (1, .int .u32 gn), (4, .pointer none), (5, .int .i64 0), (6, .pointer (some ⟨r3, 0, none⟩)), (7, .int .i64 0), (17, .bool false)] : Fr) (by kernel_rfl) (fun a => WP _ _ _ _ a _) (fun lr7 => ?_)
  refine gi_blk (id := 0) (x := CA Try.f20 [1, 1, 1, 0, 1, 0]) (by kernel_rfl) ?_
  have h8 : sat g w4 [Sl 94 4 none 0 0 (fl eId []), Cl r3 [.slice none 0 0] 92, R] := sl_nil 94 4 h5
  refine gi_lp (x := CA Try.f20 [1, 1, 1, 0, 1, 0, 0]) (by kernel_rfl) (fun mz_ a w => ∃ i : Nat, ∃ p2 : Option Addr, ∃ c2 : Nat, ∃ lr : Fr, mz_ = n - i ∧ (i ≤ n) ∧ a = mk 37 (([(0, .int .i64 (((n : Nat) : Int))), (1, .int .u32 gn), (6, .pointer (some ⟨r3, 0, none⟩)), (7, .int .i64 (((i : Nat) : Int)))] : Fr) ++ lr) ∧ sat g w [Sl 94 4 p2 i c2 (fl eId (List.replicate i (0, gn, 0))), Cl r3 [.slice p2 i c2] 92, R]) (n - 0) ⟨0, none, 0, _, rfl, (Nat.zero_le _), (mk_live [(0, .int .i64 (((n : Nat) : Int))), (1, .int .u32 gn), (6, .pointer (some ⟨r3, 0, none⟩)), (7, .int .i64 (((0 : Nat) : Int)))] ⟨rfl, rfl, rfl, (ov_int (by omega)), trivial⟩), h8⟩ ?_
  rintro m10 a11 w12 ⟨i, p2, c2, lr9, rfl, hi, rfl, h13⟩
  change WP _ _ (CA Try.f20 [1, 1, 1, 0, 1, 0, 0]) _ _ _
  refine gi_seq (x := CA Try.f20 [1, 1, 1, 0, 1, 0, 0, 0]) (y := CA Try.f20 [1, 1, 1, 0, 1, 0, 0, 1]) (by kernel_rfl) ?_
  refine gi_seq (x := CA Try.f20 [1, 1, 1, 0, 1, 0, 0, 0, 0]) (y := CA Try.f20 [1, 1, 1, 0, 1, 0, 0, 0, 1]) (by kernel_rfl) ?_
  refine gi_pln (id := 5) (ops := RA Try.f20 [1, 1, 1, 0, 1, 0, 0, 0, 0]) [0, 1, 2] (by kernel_rfl) (by kernel_rfl) (by kernel_rfl) ?_
  refine plain_batch (rest := [2]) [⟨0, [], none⟩, ⟨1, [], none⟩] (l' := ([(21, .int .i64 (((n : Nat) : Int))), (20, .int .i64 (((i : Nat) : Int))), (0, .int .i64 (((n : Nat) : Int))), (1, .int .u32 gn), (6, .pointer (some ⟨r3, 0, none⟩)), (7, .int .i64 (((i : Nat) : Int)))] : Fr) ++ lr9) (pts' := []) (eqs := []) (by kernel_rfl) trivial (AllC_nil _) ?_
  by_cases c14 : ((i : Nat) : Int) < ((n : Nat) : Int)
  ·
    refine plain_batch (rest := []) [⟨2, [], some (.bool true)⟩] (l' := ([(22, .bool true), (21, .int .i64 (((n : Nat) : Int))), (20, .int .i64 (((i : Nat) : Int))), (0, .int .i64 (((n : Nat) : Int))), (1, .int .u32 gn), (6, .pointer (some ⟨r3, 0, none⟩)), (7, .int .i64 (((i : Nat) : Int)))] : Fr) ++ lr9) (pts' := []) (eqs := [(.bool (decide (((i : Nat) : Int) < ((n : Nat) : Int))), .bool true)]) (by kernel_rfl) ⟨(ov_t (by omega)), trivial⟩ (AllC_nil _) ?_
    refine PO.mk ?_
    change WP _ _ (CA Try.f20 [1, 1, 1, 0, 1, 0, 0, 0, 1]) _ _ _
    refine fk_cut ([(0, .int .i64 (((n : Nat) : Int))), (1, .int .u32 gn), (6, .pointer (some ⟨r3, 0, none⟩)), (7, .int .i64 (((i : Nat) : Int))), (22, .bool true)] : Fr) (by kernel_rfl) (fun a => WP _ _ _ _ a _) (fun lr15 => ?_)
    refine gi_cnd (x := (Operand.tmp 22)) (s := CA Try.f20 [1, 1, 1, 0, 1, 0, 0, 0, 1, 0]) (t := CA Try.f20 [1, 1, 1, 0, 1, 0, 0, 0, 1, 1]) true (by kernel_rfl) (by kernel_rfl) ?_
    change WP _ _ (CA Try.f20 [1, 1, 1, 0, 1, 0, 0, 0, 1, 0]) _ _ _
    refine gi_skp (by kernel_rfl) ?_
    change WP _ _ (CA Try.f20 [1, 1, 1, 0, 1, 0, 0, 1]) _ _ _
    refine gi_seq (x := CA Try.f20 [1, 1, 1, 0, 1, 0, 0, 1, 0]) (y := CA Try.f20 [1, 1, 1, 0, 1, 0, 0, 1, 1]) (by kernel_rfl) ?_
    refine gi_blk (id := 1) (x := CA Try.f20 [1, 1, 1, 0, 1, 0, 0, 1, 0, 0]) (by kernel_rfl) ?_
    refine gi_pln (id := 7) (ops := RA Try.f20 [1, 1, 1, 0, 1, 0, 0, 1, 0, 0]) [0, 1, 2, 3, 4, 5, 6, 7, 8, 9, 10, 11] (by kernel_rfl) (by kernel_rfl) (by kernel_rfl) ?_
    refine plain_batch (rest := [7, 8, 9, 10, 11]) [⟨0, [], none⟩, ⟨1, [], none⟩, ⟨2, [], none⟩, ⟨3, [], none⟩, ⟨4, [.slice p2 i c2], none⟩, ⟨5, [], none⟩, ⟨6, [], none⟩] (l' := ([(31, .agg #[.bool false, .bool false, .int .u32 gn, .int .i64 0]), (30, .int .u32 gn), (29, .slice p2 i c2), (28, .pointer (some ⟨r3, 0, none⟩)), (27, .pointer (some ⟨r3, 0, none⟩)), (26, .pointer (some ⟨r3, 0, none⟩)), (25, .pointer (some ⟨r3, 0, none⟩)), (0, .int .i64 (((n : Nat) : Int))), (1, .int .u32 gn), (6, .pointer (some ⟨r3, 0, none⟩)), (7, .int .i64 (((i : Nat) : Int))), (22, .bool true)] : Fr) ++ lr15) (pts' := [(4, ⟨r3, 0, none⟩, .slice p2 i c2)]) (eqs := []) (by kernel_rfl) trivial (AllC_cons (sat_cell h13 1 rfl rfl) (AllC_nil _)) ?_
    refine plain_act (i := 7) (by kernel_rfl) ?_
    refine an_new (d := 32) (fun xb_ => .slice (some ⟨xb_, 0, none⟩) 1 1) (fun xb_ => Obj.cells [.bool false, .bool false, .int .u32 gn, .int .i64 0].toArray 94 (0, 0)) (fun xb_ => by kernel_rfl) (by kernel_rfl) rfl h13 ?_
    intro r16 w17 (h18 : sat g w17 [Cl r16 [.bool false, .bool false, .int .u32 gn, .int .i64 0] 94, Sl 94 4 p2 i c2 (fl eId (List.replicate i (0, gn, 0))), Cl r3 [.slice p2 i c2] 92, R])
    have h19 : sat g w17 [Sl 94 4 p2 i c2 (fl eId (List.replicate i (0, gn, 0))), Cl r16 [.bool false, .bool false, .int .u32 gn, .int .i64 0] 94, Cl r3 [.slice p2 i c2] 92, R] := sat_sel [1, 0, 2, 3] rfl h18
    refine plain_act (i := 8) (by kernel_rfl) ?_
    refine an_append (d := 33) (sz := 4) (s := (Operand.tmp 29)) (x := (Operand.tmp 32)) (z := .agg #[.bool false, .bool false, .int .u32 0, .int .i64 0]) (p := p2) (m := i) (c := c2) (k := 1) (c2 := 1) (a := ⟨r16, 0, none⟩) (by_ := 16) (by kernel_rfl) (by kernel_rfl) rfl Try.underlying90 (by kernel_rfl) rfl (by decide) (by kernel_rfl) (by kernel_rfl) h19 (fl eId [(0, gn, 0)]) rfl (fun j u hj => by rw [add_off]; exact sat_cell h19 1 rfl (by rw [Nat.zero_add]; exact hj)) (fl_one eId_ok _) (by omega) (by omega) (i + 1) (by omega) ?_
    intro p20 cap21 w22 (h23 : sat g w22 [Sl 94 4 p20 (i + 1) cap21 ((fl eId (List.replicate i (0, gn, 0))) ++ (fl eId [(0, gn, 0)])), Cl r16 [.bool false, .bool false, .int .u32 gn, .int .i64 0] 94, Cl r3 [.slice p2 i c2] 92, R])
    have h24 : sat g w22 [Sl 94 4 p20 (i + 1) cap21 (fl eId ((List.replicate i (0, gn, 0)) ++ [(0, gn, 0)])), Cl r16 [.bool false, .bool false, .int .u32 gn, .int .i64 0] 94, Cl r3 [.slice p2 i c2] 92, R] := sat_imp h23 (fun _ hh => by rw [fl_app]; exact hh)
    obtain ⟨hn25, hn26⟩ := sl_le h24
    refine plain_batch (rest := [11]) [⟨9, [], none⟩, ⟨10, [], none⟩] (l' := ([(35, .pointer (some ⟨r3, 0, none⟩)), (34, .pointer (some ⟨r3, 0, none⟩)), (33, .slice p20 (i + 1) cap21), (32, .slice (some ⟨r16, 0, none⟩) 1 1), (31, .agg #[.bool false, .bool false, .int .u32 gn, .int .i64 0]), (30, .int .u32 gn), (29, .slice p2 i c2), (28, .pointer (some ⟨r3, 0, none⟩)), (27, .pointer (some ⟨r3, 0, none⟩)), (26, .pointer (some ⟨r3, 0, none⟩)), (25, .pointer (some ⟨r3, 0, none⟩)), (0, .int .i64 (((n : Nat) : Int))), (1, .int .u32 gn), (6, .pointer (some ⟨r3, 0, none⟩)), (7, .int .i64 (((i : Nat) : Int))), (22, .bool true)] : Fr) ++ lr15) (pts' := []) (eqs := []) (by kernel_rfl) trivial (AllC_nil _) ?_
    have h27 : sat g w22 [Cl r3 [.slice p2 i c2] 92, Sl 94 4 p20 (i + 1) cap21 (fl eId ((List.replicate i (0, gn, 0)) ++ [(0, gn, 0)])), Cl r16 [.bool false, .bool false, .int .u32 gn, .int .i64 0] 94, R] := sat_sel [2, 0, 1, 3] rfl h24
    refine plain_act (i := 11) (by kernel_rfl) ?_
    refine an_store [(0, .slice p20 (i + 1) cap21)] (cs' := [.slice p20 (i + 1) cap21]) (by kernel_rfl) (by kernel_rfl) (allq ⟨⟨by simp, rfl⟩, trivial⟩) rfl h27 ?_
    intro w28 (h29 : sat g w28 [Cl r3 [.slice p20 (i + 1) cap21] 92, Sl 94 4 p20 (i + 1) cap21 (fl eId ((List.replicate i (0, gn, 0)) ++ [(0, gn, 0)])), Cl r16 [.bool false, .bool false, .int .u32 gn, .int .i64 0] 94, R])
    refine PO.mk ?_
    change WP _ _ (CA Try.f20 [1, 1, 1, 0, 1, 0, 0, 1, 1]) _ _ _
    refine fk_cut ([(0, .int .i64 (((n : Nat) : Int))), (1, .int .u32 gn), (6, .pointer (some ⟨r3, 0, none⟩)), (7, .int .i64 (((i : Nat) : Int))), (22, .bool true)] : Fr) (by kernel_rfl) (fun a => WP _ _ _ _ a _) (fun lr30 => ?_)
    refine gi_pln (id := 6) (ops := RA Try.f20 [1, 1, 1, 0, 1, 0, 0, 1, 1]) [0, 1, 2] (by kernel_rfl) (by kernel_rfl) (by kernel_rfl) ?_
    refine plain_batch (rest := []) [⟨0, [], none⟩, ⟨1, [], some (.int .i64 (((i : Nat) : Int) + 1))⟩, ⟨2, [], none⟩] (l' := ([(7, .int .i64 (((i : Nat) : Int) + 1)), (24, .int .i64 (((i : Nat) : Int) + 1)), (23, .int .i64 (((i : Nat) : Int))), (0, .int .i64 (((n : Nat) : Int))), (1, .int .u32 gn), (6, .pointer (some ⟨r3, 0, none⟩)), (7, .int .i64 (((i : Nat) : Int))), (22, .bool true)] : Fr) ++ lr30) (pts' := []) (eqs := [(.int .i64 (IntKind.wrap .i64 ((((i : Nat) : Int)) + 1)), .int .i64 (((i : Nat) : Int) + 1))]) (by kernel_rfl) ⟨(ov_i64 (by omega) (by omega) (by omega)), trivial⟩ (AllC_nil _) ?_
    refine PO.mk ?_
    have h31 : sat g w28 [Sl 94 4 p20 (i + 1) cap21 (fl eId ((List.replicate i (0, gn, 0)) ++ [(0, gn, 0)])), Cl r3 [.slice p20 (i + 1) cap21] 92, Cl r16 [.bool false, .bool false, .int .u32 gn, .int .i64 0] 94, R] := sat_sel [1, 0, 2, 3] rfl h29
    have h32 : sat g w28 [Sl 94 4 p20 (i + 1) cap21 (fl eId (List.replicate (i + 1) (0, gn, 0))), Cl r3 [.slice p20 (i + 1) cap21] 92, Cl r16 [.bool false, .bool false, .int .u32 gn, .int .i64 0] 94, R] := sat_imp h31 (fun _ hh_ => by rw [show (((List.replicate i (0, gn, 0)) ++ [(0, gn, 0)]) : List Fl) = (List.replicate (i + 1) (0, gn, 0)) from List.replicate_succ'.symm] at hh_; exact hh_)
    have h33 : sat g w28 [Sl 94 4 p20 (i + 1) cap21 (fl eId (List.replicate (i + 1) (0, gn, 0))), Cl r3 [.slice p20 (i + 1) cap21] 92, R, Cl r16 [.bool false, .bool false, .int .u32 gn, .int .i64 0] 94] := sat_sel [0, 1, 3, 2] rfl h32
    have h34 : sat g w28 [Sl 94 4 p20 (i + 1) cap21 (fl eId (List.replicate (i + 1) (0, gn, 0))), Cl r3 [.slice p20 (i + 1) cap21] 92, R] := sat_sel [0, 1, 2] rfl h33
    change ∃ n', n' < _ ∧ _
    refine ⟨(n - (i + 1)), by omega, (i + 1), p20, cap21, _, rfl, (by omega), (mk_live [(0, .int .i64 (((n : Nat) : Int))), (1, .int .u32 gn), (6, .pointer (some ⟨r3, 0, none⟩)), (7, .int .i64 ((((i + 1) : Nat) : Int)))] ⟨rfl, rfl, rfl, (ov_int (by omega)), trivial⟩), h34⟩
  ·
    refine plain_batch (rest := []) [⟨2, [], some (.bool false)⟩] (l' := ([(22, .bool false), (21, .int .i64 (((n : Nat) : Int))), (20, .int .i64 (((i : Nat) : Int))), (0, .int .i64 (((n : Nat) : Int))), (1, .int .u32 gn), (6, .pointer (some ⟨r3, 0, none⟩)), (7, .int .i64 (((i : Nat) : Int)))] : Fr) ++ lr9) (pts' := []) (eqs := [(.bool (decide (((i : Nat) : Int) < ((n : Nat) : Int))), .bool false)]) (by kernel_rfl) ⟨(ov_f (by omega)), trivial⟩ (AllC_nil _) ?_
    refine PO.mk ?_
    change WP _ _ (CA Try.f20 [1, 1, 1, 0, 1, 0, 0, 0, 1]) _ _ _
    refine fk_cut ([(0, .int .i64 (((n : Nat) : Int))), (1, .int .u32 gn), (6, .pointer (some ⟨r3, 0, none⟩)), (7, .int .i64 (((i : Nat) : Int))), (22, .bool false)] : Fr) (by kernel_rfl) (fun a => WP _ _ _ _ a _) (fun lr35 => ?_)
    refine gi_cnd (x := (Operand.tmp 22)) (s := CA Try.f20 [1, 1, 1, 0, 1, 0, 0, 0, 1, 0]) (t := CA Try.f20 [1, 1, 1, 0, 1, 0, 0, 0, 1, 1]) false (by kernel_rfl) (by kernel_rfl) ?_
    change WP _ _ (CA Try.f20 [1, 1, 1, 0, 1, 0, 0, 0, 1, 1]) _ _ _
    refine gi_ext (id := 0) (by kernel_rfl) ?_
    change WP _ _ (CA Try.f20 [1, 1, 1, 1]) _ _ _
    refine gi_seq (x := CA Try.f20 [1, 1, 1, 1, 0]) (y := CA Try.f20 [1, 1, 1, 1, 1]) (by kernel_rfl) ?_
    refine gi_pln (id := 8) (ops := RA Try.f20 [1, 1, 1, 1, 0]) [0, 1, 2] (by kernel_rfl) (by kernel_rfl) (by kernel_rfl) ?_
    refine plain_batch (rest := []) [⟨0, [], none⟩, ⟨1, [], none⟩, ⟨2, [], none⟩] (l' := ([(5, .int .i64 0), (4, .pointer (some ⟨r3, 0, none⟩)), (36, .pointer (some ⟨r3, 0, none⟩)), (0, .int .i64 (((n : Nat) : Int))), (1, .int .u32 gn), (6, .pointer (some ⟨r3, 0, none⟩)), (7, .int .i64 (((i : Nat) : Int))), (22, .bool false)] : Fr) ++ lr35) (pts' := []) (eqs := []) (by kernel_rfl) trivial (AllC_nil _) ?_
    refine PO.mk ?_
    change WP _ _ (CA Try.f20 [1, 1, 1, 1, 1]) _ _ _
    refine fk_cut ([(0, .int .i64 (((n : Nat) : Int))), (1, .int .u32 gn), (4, .pointer (some ⟨r3, 0, none⟩)), (5, .int .i64 0), (6, .pointer (some ⟨r3, 0, none⟩)), (7, .int .i64 (((i : Nat) : Int))), (22, .bool false)] : Fr) (by kernel_rfl) (fun a => WP _ _ _ _ a _) (fun lr36 => ?_)
    refine gi_rt (by kernel_rfl) ?_
    repeat (first | simp only [Exit.inBlock] | simp only [Exit.then])
    have h37 : sat g w12 [Cl r3 [.slice p2 i c2] 92, Sl 94 4 p2 i c2 (fl eId (List.replicate i (0, gn, 0))), R] := sat_sel [1, 0, 2] rfl h13
    have hi_ : i = n := by omega
    have h38 : sat g w12 [Dc r3 n (List.replicate n (0, gn, 0)), R] := by rw [hi_] at h37; exact dc_close ⟨List.length_replicate, by omega, by omega, slok_rep ⟨by omega, by omega⟩⟩ h37
    refine hi_out [] (.tuple #[.pointer (some ⟨r3, 0, none⟩), .int .i64 0]) [] (by kernel_rfl) (by intro q hq; cases hq) ?_
    exact ⟨.tuple #[.pointer (some ⟨r3, 0, none⟩), .int .i64 0], [Dc r3 n (List.replicate n (0, gn, 0))], rfl, ⟨r3, rfl, rfl⟩, h38⟩

set_option maxHeartbeats 4000000 in
theorem dnew_no (z gn : Int) (hgn : 0 ≤ gn ∧ gn ≤ 4294967295) (hz : z < 1 ∨ 64 < z ∨ gn = 0) : HT Try.prog 20 [Value.int IntKind.i64 z, Value.int IntKind.u32 gn] [] (fun v K => v = Value.tuple #[Value.pointer none, Value.int .i64 2] ∧ K = []) := by
  refine hi_in 37 ([(0, .int .i64 z), (1, .int .u32 gn)] : Fr) Try.func20 (by kernel_rfl) Try.ntmps20 rfl rfl ?_
  intro g w0 R h0
  refine gi_seq (x := CA Try.f20 [0]) (y := CA Try.f20 [1]) (by kernel_rfl) ?_
  refine gi_pln (id := 0) (ops := RA Try.f20 [0]) [0, 1] (by kernel_rfl) (by kernel_rfl) (by kernel_rfl) ?_
  refine plain_batch (rest := []) [⟨0, [], none⟩, ⟨1, [], none⟩] (l' := ([(5, .int .i64 0), (4, .pointer none), (0, .int .i64 z), (1, .int .u32 gn)] : Fr)) (pts' := []) (eqs := []) (by kernel_rfl) trivial (AllC_nil _) ?_
  refine PO.mk ?_
  change WP _ _ (CA Try.f20 [1]) _ _ _
  refine fk_cut ([(0, .int .i64 z), (1, .int .u32 gn), (4, .pointer none), (5, .int .i64 0)] : Fr) (by kernel_rfl) (fun a => WP _ _ _ _ a _) (fun lr1 => ?_)
  refine gi_seq (x := CA Try.f20 [1, 0]) (y := CA Try.f20 [1, 1]) (by kernel_rfl) ?_
  refine gi_seq (x := CA Try.f20 [1, 0, 0]) (y := CA Try.f20 [1, 0, 1]) (by kernel_rfl) ?_
  refine gi_pln (id := 1) (ops := RA Try.f20 [1, 0, 0]) [0, 1, 2, 3, 4, 5, 6, 7, 8, 9] (by kernel_rfl) (by kernel_rfl) (by kernel_rfl) ?_
  refine plain_batch (rest := [1, 2, 3, 4, 5, 6, 7, 8, 9]) [⟨0, [], none⟩] (l' := ([(8, .int .i64 z), (0, .int .i64 z), (1, .int .u32 gn), (4, .pointer none), (5, .int .i64 0)] : Fr) ++ lr1) (pts' := []) (eqs := []) (by kernel_rfl) trivial (AllC_nil _) ?_
  by_cases c2 : z < 1
  ·
    refine plain_batch (rest := []) [⟨1, [], some (.bool true)⟩, ⟨2, [], none⟩, ⟨3, [], none⟩, ⟨4, [], none⟩, ⟨5, [], none⟩, ⟨6, [], none⟩, ⟨7, [], none⟩, ⟨8, [], none⟩, ⟨9, [], none⟩] (l' := ([(17, .bool true), (16, undef), (15, undef), (14, .bool true), (13, .bool true), (12, undef), (11, undef), (10, .bool true), (9, .bool true), (8, .int .i64 z), (0, .int .i64 z), (1, .int .u32 gn), (4, .pointer none), (5, .int .i64 0)] : Fr) ++ lr1) (pts' := []) (eqs := [(.bool (decide (z < 1)), .bool true)]) (by kernel_rfl) ⟨(ov_t (by omega)), trivial⟩ (AllC_nil _) ?_
    refine PO.mk ?_
    change WP _ _ (CA Try.f20 [1, 0, 1]) _ _ _
    refine fk_cut ([(0, .int .i64 z), (1, .int .u32 gn), (4, .pointer none), (5, .int .i64 0), (17, .bool true)] : Fr) (by kernel_rfl) (fun a => WP _ _ _ _ a _) (fun lr3 => ?_)
    refine gi_cnd (x := (Operand.tmp 17)) (s := CA Try.f20 [1, 0, 1, 0]) (t := CA Try.f20 [1, 0, 1, 1]) true (by kernel_rfl) (by kernel_rfl) ?_
    change WP _ _ (CA Try.f20 [1, 0, 1, 0]) _ _ _
    refine gi_seq (x := CA Try.f20 [1, 0, 1, 0, 0]) (y := CA Try.f20 [1, 0, 1, 0, 1]) (by kernel_rfl) ?_
    refine gi_pln (id := 2) (ops := RA Try.f20 [1, 0, 1, 0, 0]) [0, 1] (by kernel_rfl) (by kernel_rfl) (by kernel_rfl) ?_
    refine plain_batch (rest := []) [⟨0, [], none⟩, ⟨1, [], none⟩] (l' := ([(5, .int .i64 2), (4, .pointer none), (0, .int .i64 z), (1, .int .u32 gn), (4, .pointer none), (5, .int .i64 0), (17, .bool true)] : Fr) ++ lr3) (pts' := []) (eqs := []) (by kernel_rfl) trivial (AllC_nil _) ?_
    refine PO.mk ?_
    change WP _ _ (CA Try.f20 [1, 0, 1, 0, 1]) _ _ _
    refine fk_cut ([(0, .int .i64 z), (1, .int .u32 gn), (4, .pointer none), (5, .int .i64 2), (17, .bool true)] : Fr) (by kernel_rfl) (fun a => WP _ _ _ _ a _) (fun lr4 => ?_)
    refine gi_rt (by kernel_rfl) ?_
    repeat (first | simp only [Exit.inBlock] | simp only [Exit.then])
    refine hi_out [] (.tuple #[.pointer none, .int .i64 2]) [] (by kernel_rfl) (by intro q hq; cases hq) ?_
    exact ⟨.tuple #[.pointer none, .int .i64 2], [], rfl, ⟨rfl, rfl⟩, h0⟩
  ·
    refine plain_batch (rest := [4, 5, 6, 7, 8, 9]) [⟨1, [], some (.bool false)⟩, ⟨2, [], none⟩, ⟨3, [], none⟩] (l' := ([(11, .int .i64 z), (10, .bool false), (9, .bool false), (8, .int .i64 z), (0, .int .i64 z), (1, .int .u32 gn), (4, .pointer none), (5, .int .i64 0)] : Fr) ++ lr1) (pts' := []) (eqs := [(.bool (decide (z < 1)), .bool false)]) (by kernel_rfl) ⟨(ov_f (by omega)), trivial⟩ (AllC_nil _) ?_
    by_cases c5 : z > 64
    ·
      refine plain_batch (rest := []) [⟨4, [], some (.bool true)⟩, ⟨5, [], none⟩, ⟨6, [], none⟩, ⟨7, [], none⟩, ⟨8, [], none⟩, ⟨9, [], none⟩] (l' := ([(17, .bool true), (16, undef), (15, undef), (14, .bool true), (13, .bool true), (12, .bool true), (11, .int .i64 z), (10, .bool false), (9, .bool false), (8, .int .i64 z), (0, .int .i64 z), (1, .int .u32 gn), (4, .pointer none), (5, .int .i64 0)] : Fr) ++ lr1) (pts' := []) (eqs := [(.bool (decide (z > 64)), .bool true)]) (by kernel_rfl) ⟨(ov_t (by omega)), trivial⟩ (AllC_nil _) ?_
      refine PO.mk ?_
      change WP _ _ (CA Try.f20 [1, 0, 1]) _ _ _
      refine fk_cut ([(0, .int .i64 z), (1, .int .u32 gn), (4, .pointer none), (5, .int .i64 0), (17, .bool true)] : Fr) (by kernel_rfl) (fun a => WP _ _ _ _ a _) (fun lr6 => ?_)
      refine gi_cnd (x := (Operand.tmp 17)) (s := CA Try.f20 [1, 0, 1, 0]) (t := CA Try.f20 [1, 0, 1, 1]) true (by kernel_rfl) (by kernel_rfl) ?_
      change WP _ _ (CA Try.f20 [1, 0, 1, 0]) _ _ _
      refine gi_seq (x := CA Try.f20 [1, 0, 1, 0, 0]) (y := CA Try.f20 [1, 0, 1, 0, 1]) (by kernel_rfl) ?_
      refine gi_pln (id := 2) (ops := RA Try.f20 [1, 0, 1, 0, 0]) [0, 1] (by kernel_rfl) (by kernel_rfl) (by kernel_rfl) ?_
      refine plain_batch (rest := []) [⟨0, [], none⟩, ⟨1, [], none⟩] (l' := ([(5, .int .i64 2), (4, .pointer none), (0, .int .i64 z), (1, .int .u32 gn), (4, .pointer none), (5, .int .i64 0), (17, .bool true)] : Fr) ++ lr6) (pts' := []) (eqs := []) (by kernel_rfl) trivial (AllC_nil _) ?_
      refine PO.mk ?_
      change WP _ _ (CA Try.f20 [1, 0, 1, 0, 1]) _ _ _
      refine fk_cut ([(0, .int .i64 z), (1, .int .u32 gn), (4, .pointer none), (5, .int .i64 2), (17, .bool true)] : Fr) (by kernel_rfl) (fun a => WP _ _ _ _ a _) (fun lr7 => ?_)
      refine gi_rt (by kernel_rfl) ?_
      repeat (first | simp only [Exit.inBlock] | simp only [Exit.then])
      refine hi_out [] (.tuple #[.pointer none, .int .i64 2]) [] (by kernel_rfl) (by intro q hq; cases hq) ?_
      exact ⟨.tuple #[.pointer none, .int .i64 2], [], rfl, ⟨rfl, rfl⟩, h0⟩
    ·
      refine plain_batch (rest := []) [⟨4, [], some (.bool false)⟩, ⟨5, [], none⟩, ⟨6, [], none⟩, ⟨7, [], none⟩, ⟨8, [], some (.bool true)⟩, ⟨9, [], none⟩] (l' := ([(17, .bool true), (16, .bool true), (15, .int .u32 gn), (14, .bool false), (13, .bool false), (12, .bool false), (11, .int .i64 z), (10, .bool false), (9, .bool false), (8, .int .i64 z), (0, .int .i64 z), (1, .int .u32 gn), (4, .pointer none), (5, .int .i64 0)] : Fr) ++ lr1) (pts' := []) (eqs := [(.bool (decide (z > 64)), .bool false), (.bool (gn == 0), .bool true)]) (by kernel_rfl) ⟨(ov_f (by omega)), (ov_et (by omega)), trivial⟩ (AllC_nil _) ?_
      refine PO.mk ?_
      change WP _ _ (CA Try.f20 [1, 0, 1]) _ _ _
      refine fk_cut ([(0, .int .i64 z), (1, .int .u32 gn), (4, .pointer none), (5, .int .i64 0), (17, .bool true)] : Fr) (by kernel_rfl) (fun a => WP _ _ _ _ a _) (fun lr8 => ?_)
      refine gi_cnd (x := (Operand.tmp 17)) (s := CA Try.f20 [1, 0, 1, 0]) (t := CA Try.f20 [1, 0, 1, 1]) true (by kernel_rfl) (by kernel_rfl) ?_
      change WP _ _ (CA Try.f20 [1, 0, 1, 0]) _ _ _
      refine gi_seq (x := CA Try.f20 [1, 0, 1, 0, 0]) (y := CA Try.f20 [1, 0, 1, 0, 1]) (by kernel_rfl) ?_
      refine gi_pln (id := 2) (ops := RA Try.f20 [1, 0, 1, 0, 0]) [0, 1] (by kernel_rfl) (by kernel_rfl) (by kernel_rfl) ?_
      refine plain_batch (rest := []) [⟨0, [], none⟩, ⟨1, [], none⟩] (l' := ([(5, .int .i64 2), (4, .pointer none), (0, .int .i64 z), (1, .int .u32 gn), (4, .pointer none), (5, .int .i64 0), (17, .bool true)] : Fr) ++ lr8) (pts' := []) (eqs := []) (by kernel_rfl) trivial (AllC_nil _) ?_
      refine PO.mk ?_
      change WP _ _ (CA Try.f20 [1, 0, 1, 0, 1]) _ _ _
      refine fk_cut ([(0, .int .i64 z), (1, .int .u32 gn), (4, .pointer none), (5, .int .i64 2), (17, .bool true)] : Fr) (by kernel_rfl) (fun a => WP _ _ _ _ a _) (fun lr9 => ?_)
      refine gi_rt (by kernel_rfl) ?_
      repeat (first | simp only [Exit.inBlock] | simp only [Exit.then])
      refine hi_out [] (.tuple #[.pointer none, .int .i64 2]) [] (by kernel_rfl) (by intro q hq; cases hq) ?_
      exact ⟨.tuple #[.pointer none, .int .i64 2], [], rfl, ⟨rfl, rfl⟩, h0⟩

set_option maxHeartbeats 4000000 in
theorem dcouter_ok (x y z : Int) (hz0 : 0 ≤ z) (hz1 : z ≤ 4294967295) (hg : 1 ≤ x ∧ x ≤ 3 ∧ 0 ≤ y ∧ y ≤ 63 ∧ 1 ≤ z) : HT Try.prog 59 [Value.agg #[Value.int IntKind.i64 x, Value.int IntKind.i64 y, Value.int IntKind.u32 z]] [] (fun v K => v = Value.int .i64 0 ∧ K = []) := by
  refine hi_in 26 ([(0, .agg #[.int .i64 x, .int .i64 y, .int .u32 z])] : Fr) Try.func59 (by kernel_rfl) Try.ntmps59 rfl rfl ?_
  intro g w0 R h0
  refine gi_seq (x := CA Try.f59 [0]) (y := CA Try.f59 [1]) (by kernel_rfl) ?_
  refine gi_pln (id := 0) (ops := RA Try.f59 [0]) [0, 1] (by kernel_rfl) (by kernel_rfl) (by kernel_rfl) ?_
  refine plain_act (i := 0) (by kernel_rfl) ?_
  refine an_new (d := 1) (fun xb_ => .pointer (some ⟨xb_, 0, none⟩)) (fun xb_ => Obj.cells [.int .i64 x, .int .i64 y, .int .u32 z].toArray 28 (0, 0)) (fun xb_ => by kernel_rfl) (by kernel_rfl) rfl h0 ?_
  intro r1 w2 (h3 : sat g w2 [Cl r1 [.int .i64 x, .int .i64 y, .int .u32 z] 28, R])
  refine plain_batch (rest := []) [⟨1, [], none⟩] (l' := ([(2, .int .i64 0), (1, .pointer (some ⟨r1, 0, none⟩)), (0, .agg #[.int .i64 x, .int .i64 y, .int .u32 z])] : Fr)) (pts' := []) (eqs := []) (by kernel_rfl) trivial (AllC_nil _) ?_
  refine PO.mk ?_
  change WP _ _ (CA Try.f59 [1]) _ _ _
  refine fk_cut ([(0, .agg #[.int .i64 x, .int .i64 y, .int .u32 z]), (1, .pointer (some ⟨r1, 0, none⟩)), (2, .int .i64 0)] : Fr) (by kernel_rfl) (fun a => WP _ _ _ _ a _) (fun lr4 => ?_)
  refine gi_seq (x := CA Try.f59 [1, 0]) (y := CA Try.f59 [1, 1]) (by kernel_rfl) ?_
  refine gi_seq (x := CA Try.f59 [1, 0, 0]) (y := CA Try.f59 [1, 0, 1]) (by kernel_rfl) ?_
  refine gi_pln (id := 1) (ops := RA Try.f59 [1, 0, 0]) [0, 1, 2, 3, 4, 5, 6, 7, 8, 9, 10, 11, 12, 13, 14, 15, 16, 17, 18, 19, 20, 21, 22] (by kernel_rfl) (by kernel_rfl) (by kernel_rfl) ?_
  refine plain_batch (rest := []) [⟨0, [], none⟩, ⟨1, [.int .i64 x], none⟩, ⟨2, [], some (.bool false)⟩, ⟨3, [], none⟩, ⟨4, [], none⟩, ⟨5, [.int .i64 x], none⟩, ⟨6, [], some (.bool false)⟩, ⟨7, [], none⟩, ⟨8, [], none⟩, ⟨9, [], none⟩, ⟨10, [.int .i64 y], none⟩, ⟨11, [], some (.bool false)⟩, ⟨12, [], none⟩, ⟨13, [], none⟩, ⟨14, [], none⟩, ⟨15, [.int .i64 y], none⟩, ⟨16, [], some (.bool false)⟩, ⟨17, [], none⟩, ⟨18, [], none⟩, ⟨19, [], none⟩, ⟨20, [.int .u32 z], none⟩, ⟨21, [], some (.bool false)⟩, ⟨22, [], none⟩] (l' := ([(25, .bool false), (24, .bool false), (23, .int .u32 z), (22, .pointer (some ⟨r1, 2, none⟩)), (21, .bool false), (20, .bool false), (19, .bool false), (18, .int .i64 y), (17, .pointer (some ⟨r1, 1, none⟩)), (16, .bool false), (15, .bool false), (14, .bool false), (13, .int .i64 y), (12, .pointer (some ⟨r1, 1, none⟩)), (11, .bool false), (10, .bool false), (9, .bool false), (8, .int .i64 x), (7, .pointer (some ⟨r1, 0, none⟩)), (6, .bool false), (5, .bool false), (4, .int .i64 x), (3, .pointer (some ⟨r1, 0, none⟩)), (0, .agg #[.int .i64 x, .int .i64 y, .int .u32 z]), (1, .pointer (some ⟨r1, 0, none⟩)), (2, .int .i64 0)] : Fr) ++ lr4) (pts' := [(20, ⟨r1, 2, none⟩, .int .u32 z), (15, ⟨r1, 1, none⟩, .int .i64 y), (10, ⟨r1, 1, none⟩, .int .i64 y), (5, ⟨r1, 0, none⟩, .int .i64 x), (1, ⟨r1, 0, none⟩, .int .i64 x)]) (eqs := [(.bool (decide (x < 1)), .bool false), (.bool (decide (x > 3)), .bool false), (.bool (decide (y < 0)), .bool false), (.bool (decide (y ≥ 64)), .bool false), (.bool (z == 0), .bool false)]) (by kernel_rfl) ⟨(ov_f (by omega)), (ov_f (by omega)), (ov_f (by omega)), (ov_f (by omega)), (ov_ef (by omega)), trivial⟩ (AllC_cons (sat_cell h3 0 rfl rfl) (AllC_cons (sat_cell h3 0 rfl rfl) (AllC_cons (sat_cell h3 0 rfl rfl) (AllC_cons (sat_cell h3 0 rfl rfl) (AllC_cons (sat_cell h3 0 rfl rfl) (AllC_nil _)))))) ?_
  refine PO.mk ?_
  change WP _ _ (CA Try.f59 [1, 0, 1]) _ _ _
  refine fk_cut ([(0, .agg #[.int .i64 x, .int .i64 y, .int .u32 z]), (1, .pointer (some ⟨r1, 0, none⟩)), (2, .int .i64 0), (25, .bool false)] : Fr) (by kernel_rfl) (fun a => WP _ _ _ _ a _) (fun lr5 => ?_)
  refine gi_cnd (x := (Operand.tmp 25)) (s := CA Try.f59 [1, 0, 1, 0]) (t := CA Try.f59 [1, 0, 1, 1]) false (by kernel_rfl) (by kernel_rfl) ?_
  change WP _ _ (CA Try.f59 [1, 0, 1, 1]) _ _ _
  refine gi_skp (by kernel_rfl) ?_
  change WP _ _ (CA Try.f59 [1, 1]) _ _ _
  refine gi_seq (x := CA Try.f59 [1, 1, 0]) (y := CA Try.f59 [1, 1, 1]) (by kernel_rfl) ?_
  refine gi_pln (id := 3) (ops := RA Try.f59 [1, 1, 0]) [0] (by kernel_rfl) (by kernel_rfl) (by kernel_rfl) ?_
  refine plain_batch (rest := []) [⟨0, [], none⟩] (l' := ([(2, .int .i64 0), (0, .agg #[.int .i64 x, .int .i64 y, .int .u32 z]), (1, .pointer (some ⟨r1, 0, none⟩)), (2, .int .i64 0), (25, .bool false)] : Fr) ++ lr5) (pts' := []) (eqs := []) (by kernel_rfl) trivial (AllC_nil _) ?_
  refine PO.mk ?_
  change WP _ _ (CA Try.f59 [1, 1, 1]) _ _ _
  refine fk_cut ([(0, .agg #[.int .i64 x, .int .i64 y, .int .u32 z]), (1, .pointer (some ⟨r1, 0, none⟩)), (2, .int .i64 0), (25, .bool false)] : Fr) (by kernel_rfl) (fun a => WP _ _ _ _ a _) (fun lr6 => ?_)
  refine gi_rt (by kernel_rfl) ?_
  repeat (first | simp only [Exit.inBlock] | simp only [Exit.then])
  have h7 : sat g w2 [R] := sat_sel [1] rfl h3
  refine hi_out [] (.int .i64 0) [] (by kernel_rfl) (by intro q hq; cases hq) ?_
  exact ⟨.int .i64 0, [], rfl, ⟨rfl, rfl⟩, h7⟩

set_option maxHeartbeats 4000000 in
theorem dcouter_no (x y z : Int) (hz0 : 0 ≤ z) (hz1 : z ≤ 4294967295) (hg : ¬ (1 ≤ x ∧ x ≤ 3 ∧ 0 ≤ y ∧ y ≤ 63 ∧ 1 ≤ z)) : HT Try.prog 59 [Value.agg #[Value.int IntKind.i64 x, Value.int IntKind.i64 y, Value.int IntKind.u32 z]] [] (fun v K => v = Value.int .i64 2 ∧ K = []) := by
  refine hi_in 26 ([(0, .agg #[.int .i64 x, .int .i64 y, .int .u32 z])] : Fr) Try.func59 (by kernel_rfl) Try.ntmps59 rfl rfl ?_
  intro g w0 R h0
  refine gi_seq (x := CA Try.f59 [0]) (y := CA Try.f59 [1]) (by kernel_rfl) ?_
  refine gi_pln (id := 0) (ops := RA Try.f59 [0]) [0, 1] (by kernel_rfl) (by kernel_rfl) (by kernel_rfl) ?_
  refine plain_act (i := 0) (by kernel_rfl) ?_
  refine an_new (d := 1) (fun xb_ => .pointer (some ⟨xb_, 0, none⟩)) (fun xb_ => Obj.cells [.int .i64 x, .int .i64 y, .int .u32 z].toArray 28 (0, 0)) (fun xb_ => by kernel_rfl) (by kernel_rfl) rfl h0 ?_
  intro r1 w2 (h3 : sat g w2 [Cl r1 [.int .i64 x, .int .i64 y, .int .u32 z] 28, R])
  refine plain_batch (rest := []) [⟨1, [], none⟩] (l' := ([(2, .int .i64 0), (1, .pointer (some ⟨r1, 0, none⟩)), (0, .agg #[.int .i64 x, .int .i64 y, .int .u32 z])] : Fr)) (pts' := []) (eqs := []) (by kernel_rfl) trivial (AllC_nil _) ?_
  refine PO.mk ?_
  change WP _ _ (CA Try.f59 [1]) _ _ _
  refine fk_cut ([(0, .agg #[.int .i64 x, .int .i64 y, .int .u32 z]), (1, .pointer (some ⟨r1, 0, none⟩)), (2, .int .i64 0)] : Fr) (by kernel_rfl) (fun a => WP _ _ _ _ a _) (fun lr4 => ?_)
  refine gi_seq (x := CA Try.f59 [1, 0]) (y := CA Try.f59 [1, 1]) (by kernel_rfl) ?_
  refine gi_seq (x := CA Try.f59 [1, 0, 0]) (y := CA Try.f59 [1, 0, 1]) (by kernel_rfl) ?_
  refine gi_pln (id := 1) (ops := RA Try.f59 [1, 0, 0]) [0, 1, 2, 3, 4, 5, 6, 7, 8, 9, 10, 11, 12, 13, 14, 15, 16, 17, 18, 19, 20, 21, 22] (by kernel_rfl) (by kernel_rfl) (by kernel_rfl) ?_
  refine plain_batch (rest := [2, 3, 4, 5, 6, 7, 8, 9, 10, 11, 12, 13, 14, 15, 16, 17, 18, 19, 20, 21, 22]) [⟨0, [], none⟩, ⟨1, [.int .i64 x], none⟩] (l' := ([(4, .int .i64 x), (3, .pointer (some ⟨r1, 0, none⟩)), (0, .agg #[.int .i64 x, .int .i64 y, .int .u32 z]), (1, .pointer (some ⟨r1, 0, none⟩)), (2, .int .i64 0)] : Fr) ++ lr4) (pts' := [(1, ⟨r1, 0, none⟩, .int .i64 x)]) (eqs := []) (by kernel_rfl) trivial (AllC_cons (sat_cell h3 0 rfl rfl) (AllC_nil _)) ?_
  by_cases c5 : x < 1
  ·
    refine plain_batch (rest := []) [⟨2, [], some (.bool true)⟩, ⟨3, [], none⟩, ⟨4, [], none⟩, ⟨5, [], none⟩, ⟨6, [], none⟩, ⟨7, [], none⟩, ⟨8, [], none⟩, ⟨9, [], none⟩, ⟨10, [], none⟩, ⟨11, [], none⟩, ⟨12, [], none⟩, ⟨13, [], none⟩, ⟨14, [], none⟩, ⟨15, [], none⟩, ⟨16, [], none⟩, ⟨17, [], none⟩, ⟨18, [], none⟩, ⟨19, [], none⟩, ⟨20, [], none⟩, ⟨21, [], none⟩, ⟨22, [], none⟩] (l' := ([(25, .bool true), (24, undef), (23, undef), (22, undef), (21, .bool true), (20, .bool true), (19, undef), (18, undef), (17, undef), (16, .bool true), (15, .bool true), (14, undef), (13, undef), (12, undef), (11, .bool true), (10, .bool true), (9, undef), (8, undef), (7, undef), (6, .bool true), (5, .bool true), (4, .int .i64 x), (3, .pointer (some ⟨r1, 0, none⟩)), (0, .agg #[.int .i64 x, .int .i64 y, .int .u32 z]), (1, .pointer (some ⟨r1, 0, none⟩)), (2, .int .i64 0)] : Fr) ++ lr4) (pts' := []) (eqs := [(.bool (decide (x < 1)), .bool true)]) (by kernel_rfl) ⟨(ov_t (by omega)), trivial⟩ (AllC_nil _) ?_
    refine PO.mk ?_
    change WP _ _ (CA Try.f59 [1, 0, 1]) _ _ _
    refine fk_cut ([(0, .agg #[.int .i64 x, .int .i64 y, .int .u32 z]), (1, .pointer (some ⟨r1, 0, none⟩)), (2, .int .i64 0), (25, .bool true)] : Fr) (by kernel_rfl) (fun a => WP _ _ _ _ a _) (fun lr6 => ?_)
    refine gi_cnd (x := (Operand.tmp 25)) (s := CA Try.f59 [1, 0, 1, 0]) (t := CA Try.f59 [1, 0, 1, 1]) true (by kernel_rfl) (by kernel_rfl) ?_
    change WP _ _ (CA Try.f59 [1, 0, 1, 0]) _ _ _
    refine gi_seq (x := CA Try.f59 [1, 0, 1, 0, 0]) (y := CA Try.f59 [1, 0, 1, 0, 1]) (by kernel_rfl) ?_
    refine gi_pln (id := 2) (ops := RA Try.f59 [1, 0, 1, 0, 0]) [0] (by kernel_rfl) (by kernel_rfl) (by kernel_rfl) ?_
    refine plain_batch (rest := []) [⟨0, [], none⟩] (l' := ([(2, .int .i64 2), (0, .agg #[.int .i64 x, .int .i64 y, .int .u32 z]), (1, .pointer (some ⟨r1, 0, none⟩)), (2, .int .i64 0), (25, .bool true)] : Fr) ++ lr6) (pts' := []) (eqs := []) (by kernel_rfl) trivial (AllC_nil _) ?_
    refine PO.mk ?_
    change WP _ _ (CA Try.f59 [1, 0, 1, 0, 1]) _ _ _
    refine fk_cut ([(0, .agg #[.int .i64 x, .int .i64 y, .int .u32 z]), (1, .pointer (some ⟨r1, 0, none⟩)), (2, .int .i64 2), (25, .bool true)] : Fr) (by kernel_rfl) (fun a => WP _ _ _ _ a _) (fun lr7 => ?_)
    refine gi_rt (by kernel_rfl) ?_
    repeat (first | simp only [Exit.inBlock] | simp only [Exit.then])
    have h8 : sat g w2 [R] := sat_sel [1] rfl h3
    refine hi_out [] (.int .i64 2) [] (by kernel_rfl) (by intro q hq; cases hq) ?_
    exact ⟨.int .i64 2, [], rfl, ⟨rfl, rfl⟩, h8⟩
  ·
    refine plain_batch (rest := [6, 7, 8, 9, 10, 11, 12, 13, 14, 15, 16, 17, 18, 19, 20, 21, 22]) [⟨2, [], some (.bool false)⟩, ⟨3, [], none⟩, ⟨4, [], none⟩, ⟨5, [.int .i64 x], none⟩] (l' := ([(8, .int .i64 x), (7, .pointer (some ⟨r1, 0, none⟩)), (6, .bool false), (5, .bool false), (4, .int .i64 x), (3, .pointer (some ⟨r1, 0, none⟩)), (0, .agg #[.int .i64 x, .int .i64 y, .int .u32 z]), (1, .pointer (some ⟨r1, 0, none⟩)), (2, .int .i64 0)] : Fr) ++ lr4) (pts' := [(5, ⟨r1, 0, none⟩, .int .i64 x)]) (eqs := [(.bool (decide (x < 1)), .bool false)]) (by kernel_rfl) ⟨(ov_f (by omega)), trivial⟩ (AllC_cons (sat_cell h3 0 rfl rfl) (AllC_nil _)) ?_
    by_cases c9 : x > 3
    ·
      refine plain_batch (rest := []) [⟨6, [], some (.bool true)⟩, ⟨7, [], none⟩, ⟨8, [], none⟩, ⟨9, [], none⟩, ⟨10, [], none⟩, ⟨11, [], none⟩, ⟨12, [], none⟩, ⟨13, [], none⟩, ⟨14, [], none⟩, ⟨15, [], none⟩, ⟨16, [], none⟩, ⟨17, [], none⟩, ⟨18, [], none⟩, ⟨19, [], none⟩, ⟨20, [], none⟩, ⟨21, [], none⟩, ⟨22, [], none⟩] (l' := ([(25, .bool true), (24, undef), (23, undef), (22, undef), (21, .bool true), (20, .bool true), (19, undef), (18, undef), (17, undef), (16, .bool true), (15, .bool true), (14, undef), (13, undef), (12, undef), (11, .bool true), (10, .bool true), (9, .bool true), (8, .int .i64 x), (7, .pointer (some ⟨r1, 0, none⟩)), (6, .bool false), (5, .bool false), (4, .int .i64 x), (3, .pointer (some ⟨r1, 0, none⟩)), (0, .agg #[.int .i64 x, .int .i64 y, .int .u32 z]), (1, .pointer (some ⟨r1, 0, none⟩)), (2, .int .i64 0)] : Fr) ++ lr4) (pts' := []) (eqs := [(.bool (decide (x > 3)), .bool true)]) (by kernel_rfl) ⟨(ov_t (by omega)), trivial⟩ (AllC_nil _) ?_
      refine PO.mk ?_
      change WP _ _ (CA Try.f59 [1, 0, 1]) _ _ _
      refine fk_cut ([(0, .agg #[.int .i64 x, .int .i64 y, .int .u32 z]), (1, .pointer (some ⟨r1, 0, none⟩)), (2, .int .i64 0), (25, .bool true)] : Fr) (by kernel_rfl) (fun a => WP _ _ _ _ a _) (fun lr10 => ?_)
      refine gi_cnd (x := (Operand.tmp 25)) (s := CA Try.f59 [1, 0, 1, 0]) (t := CA Try.f59 [1, 0, 1, 1]) true (by kernel_rfl) (by kernel_rfl) ?_
      change WP _ _ (CA Try.f59 [1, 0, 1, 0]) _ _ _
      refine gi_seq (x := CA Try.f59 [1, 0, 1, 0, 0]) (y := CA Try.f59 [1, 0, 1, 0, 1]) (by kernel_rfl) ?_
      refine gi_pln (id := 2) (ops := RA Try.f59 [1, 0, 1, 0, 0]) [0] (by kernel_rfl) (by kernel_rfl) (by kernel_rfl) ?_
      refine plain_batch (rest := []) [⟨0, [], none⟩] (l' := ([(2, .int .i64 2), (0, .agg #[.int .i64 x, .int .i64 y, .int .u32 z]), (1, .pointer (some ⟨r1, 0, none⟩)), (2, .int .i64 0), (25, .bool true)] : Fr) ++ lr10) (pts' := []) (eqs := []) (by kernel_rfl) trivial (AllC_nil _) ?_
      refine PO.mk ?_
      change WP _ _ (CA Try.f59 [1, 0, 1, 0, 1]) _ _ _
      refine fk_cut ([(0, .agg #[.int .i64 x, .int .i64 y, .int .u32 z]), (1, .pointer (some ⟨r1, 0, none⟩)), (2, .int .i64 2), (25, .bool true)] : Fr) (by kernel_rfl) (fun a => WP _ _ _ _ a _) (fun lr11 => ?_)
      refine gi_rt (by kernel_rfl) ?_
      repeat (first | simp only [Exit.inBlock] | simp only [Exit.then])
      have h12 : sat g w2 [R] := sat_sel [1] rfl h3
      refine hi_out [] (.int .i64 2) [] (by kernel_rfl) (by intro q hq; cases hq) ?_
      exact ⟨.int .i64 2, [], rfl, ⟨rfl, rfl⟩, h12⟩
    ·
      refine plain_batch (rest := [11, 12, 13, 14, 15, 16, 17, 18, 19, 20, 21, 22]) [⟨6, [], some (.bool false)⟩, ⟨7, [], none⟩, ⟨8, [], none⟩, ⟨9, [], none⟩, ⟨10, [.int .i64 y], none⟩] (l' := ([(13, .int .i64 y), (12, .pointer (some ⟨r1, 1, none⟩)), (11, .bool false), (10, .bool false), (9, .bool false), (8, .int .i64 x), (7, .pointer (some ⟨r1, 0, none⟩)), (6, .bool false), (5, .bool false), (4, .int .i64 x), (3, .pointer (some ⟨r1, 0, none⟩)), (0, .agg #[.int .i64 x, .int .i64 y, .int .u32 z]), (1, .pointer (some ⟨r1, 0, none⟩)), (2, .int .i64 0)] : Fr) ++ lr4) (pts' := [(10, ⟨r1, 1, none⟩, .int .i64 y)]) (eqs := [(.bool (decide (x > 3)), .bool false)]) (by kernel_rfl) ⟨(ov_f (by omega)), trivial⟩ (AllC_cons (sat_cell h3 0 rfl rfl) (AllC_nil _)) ?_
      by_cases c13 : y < 0
      ·
        refine plain_batch (rest := []) [⟨11, [], some (.bool true)⟩, ⟨12, [], none⟩, ⟨13, [], none⟩, ⟨14, [], none⟩, ⟨15, [], none⟩, ⟨16, [], none⟩, ⟨17, [], none⟩, ⟨18, [], none⟩, ⟨19, [], none⟩, ⟨20, [], none⟩, ⟨21, [], none⟩, ⟨22, [], none⟩] (l' := ([(25, .bool true), (24, undef), (23, undef), (22, undef), (21, .bool true), (20, .bool true), (19, undef), (18, undef), (17, undef), (16, .bool true), (15, .bool true), (14, .bool true), (13, .int .i64 y), (12, .pointer (some ⟨r1, 1, none⟩)), (11, .bool false), (10, .bool false), (9, .bool false), (8, .int .i64 x), (7, .pointer (some ⟨r1, 0, none⟩)), (6, .bool false), (5, .bool false), (4, .int .i64 x), (3, .pointer (some ⟨r1, 0, none⟩)), (0, .agg #[.int .i64 x, .int .i64 y, .int .u32 z]), (1, .pointer (some ⟨r1, 0, none⟩)), (2, .int .i64 0)] : Fr) ++ lr4) (pts' := []) (eqs := [(.bool (decide (y < 0)), .bool true)]) (by kernel_rfl) ⟨(ov_t (by omega)), trivial⟩ (AllC_nil _) ?_
        refine PO.mk ?_
        change WP _ _ (CA Try.f59 [1, 0, 1]) _ _ _
        refine fk_cut ([(0, .agg #[.int .i64 x, .int .i64 y, .int .u32 z]), (1, .pointer (some ⟨r1, 0, none⟩)), (2, .int .i64 0), (25, .bool true)] : Fr) (by kernel_rfl) (fun a => WP _ _ _ _ a _) (fun lr14 => ?_)
        refine gi_cnd (x := (Operand.tmp 25)) (s := CA Try.f59 [1, 0, 1, 0]) (t := CA Try.f59 [1, 0, 1, 1]) true (by kernel_rfl) (by kernel_rfl) ?_
        change WP _ _ (CA Try.f59 [1, 0, 1, 0]) _ _ _
        refine gi_seq (x := CA Try.f59 [1, 0, 1, 0, 0]) (y := CA Try.f59 [1, 0, 1, 0, 1]) (by kernel_rfl) ?_
        refine gi_pln (id := 2) (ops := RA Try.f59 [1, 0, 1, 0, 0]) [0] (by kernel_rfl) (by kernel_rfl) (by kernel_rfl) ?_
        refine plain_batch (rest := []) [⟨0, [], none⟩] (l' := ([(2, .int .i64 2), (0, .agg #[.int .i64 x, .int .i64 y, .int .u32 z]), (1, .pointer (some ⟨r1, 0, none⟩)), (2, .int .i64 0), (25, .bool true)] : Fr) ++ lr14) (pts' := []) (eqs := []) (by kernel_rfl) trivial (AllC_nil _) ?_
        refine PO.mk ?_
        change WP _ _ (CA Try.f59 [1, 0, 1, 0, 1]) _ _ _
        refine fk_cut ([(0, .agg #[.int .i64 x, .int .i64 y, .int .u32 z]), (1, .pointer (some ⟨r1, 0, none⟩)), (2, .int .i64 2), (25, .bool true)] : Fr) (by kernel_rfl) (fun a => WP _ _ _ _ a _) (fun lr15 => ?_)
        refine gi_rt (by kernel_rfl) ?_
        repeat (first | simp only [Exit.inBlock] | simp only [Exit.then])
        have h16 : sat g w2 [R] := sat_sel [1] rfl h3
        refine hi_out [] (.int .i64 2) [] (by kernel_rfl) (by intro q hq; cases hq) ?_
        exact ⟨.int .i64 2, [], rfl, ⟨rfl, rfl⟩, h16⟩
      ·
        refine plain_batch (rest := [16, 17, 18, 19, 20, 21, 22]) [⟨11, [], some (.bool false)⟩, ⟨12, [], none⟩, ⟨13, [], none⟩, ⟨14, [], none⟩, ⟨15, [.int .i64 y], none⟩] (l' := ([(18, .int .i64 y), (17, .pointer (some ⟨r1, 1, none⟩)), (16, .bool false), (15, .bool false), (14, .bool false), (13, .int .i64 y), (12, .pointer (some ⟨r1, 1, none⟩)), (11, .bool false), (10, .bool false), (9, .bool false), (8, .int .i64 x), (7, .pointer (some ⟨r1, 0, none⟩)), (6, .bool false), (5, .bool false), (4, .int .i64 x), (3, .pointer (some ⟨r1, 0, none⟩)), (0, .agg #[.int .i64 x, .int .i64 y, .int .u32 z]), (1, .pointer (some ⟨r1, 0, none⟩)), (2, .int .i64 0)] : Fr) ++ lr4) (pts' := [(15, ⟨r1, 1, none⟩, .int .i64 y)]) (eqs := [(.bool (decide (y < 0)), .bool false)]) (by kernel_rfl) ⟨(ov_f (by omega)), trivial⟩ (AllC_cons (sat_cell h3 0 rfl rfl) (AllC_nil _)) ?_
        by_cases c17 : y ≥ 64
        ·
          refine plain_batch (rest := []) [⟨16, [], some (.bool true)⟩, ⟨17, [], none⟩, ⟨18, [], none⟩, ⟨19, [], none⟩, ⟨20, [], none⟩, ⟨21, [], none⟩, ⟨22, [], none⟩] (l' := ([(25, .bool true), (24, undef), (23, undef), (22, undef), (21, .bool true), (20, .bool true), (19, .bool true), (18, .int .i64 y), (17, .pointer (some ⟨r1, 1, none⟩)), (16, .bool false), (15, .bool false), (14, .bool false), (13, .int .i64 y), (12, .pointer (some ⟨r1, 1, none⟩)), (11, .bool false), (10, .bool false), (9, .bool false), (8, .int .i64 x), (7, .pointer (some ⟨r1, 0, none⟩)), (6, .bool false), (5, .bool false), (4, .int .i64 x), (3, .pointer (some ⟨r1, 0, none⟩)), (0, .agg #[.int .i64 x, .int .i64 y, .int .u32 z]), (1, .pointer (some ⟨r1, 0, none⟩)), (2, .int .i64 0)] : Fr) ++ lr4) (pts' := []) (eqs := [(.bool (decide (y ≥ 64)), .bool true)]) (by kernel_rfl) ⟨(ov_t (by omega)), trivial⟩ (AllC_nil _) ?_
          refine PO.mk ?_
          change WP _ _ (CA Try.f59 [1, 0, 1]) _ _ _
          refine fk_cut ([(0, .agg #[.int .i64 x, .int .i64 y, .int .u32 z]), (1, .pointer (some ⟨r1, 0, none⟩)), (2, .int .i64 0), (25, .bool true)] : Fr) (by kernel_rfl) (fun a => WP _ _ _ _ a _) (fun lr18 => ?_)
          refine gi_cnd (x := (Operand.tmp 25)) (s := CA Try.f59 [1, 0, 1, 0]) (t := CA Try.f59 [1, 0, 1, 1]) true (by kernel_rfl) (by kernel_rfl) ?_
          change WP _ _ (CA Try.f59 [1, 0, 1, 0]) _ _ _
          refine gi_seq (x := CA Try.f59 [1, 0, 1, 0, 0]) (y := CA Try.f59 [1, 0, 1, 0, 1]) (by kernel_rfl) ?_
          refine gi_pln (id := 2) (ops := RA Try.f59 [1, 0, 1, 0, 0]) [0] (by kernel_rfl) (by kernel_rfl) (by kernel_rfl) ?_
          refine plain_batch (rest := []) [⟨0, [], none⟩] (l' := ([(2, .int .i64 2), (0, .agg #[.int .i64 x, .int .i64 y, .int .u32 z]), (1, .pointer (some ⟨r1, 0, none⟩)), (2, .int .i64 0), (25, .bool true)] : Fr) ++ lr18) (pts' := []) (eqs := []) (by kernel_rfl) trivial (AllC_nil _) ?_
          refine PO.mk ?_
          change WP _ _ (CA Try.f59 [1, 0, 1, 0, 1]) _ _ _
          refine fk_cut ([(0, .agg #[.int .i64 x, .int .i64 y, .int .u32 z]), (1, .pointer (some ⟨r1, 0, none⟩)), (2, .int .i64 2), (25, .bool true)] : Fr) (by kernel_rfl) (fun a => WP _ _ _ _ a _) (fun lr19 => ?_)
          refine gi_rt (by kernel_rfl) ?_
          repeat (first | simp only [Exit.inBlock] | simp only [Exit.then])
          have h20 : sat g w2 [R] := sat_sel [1] rfl h3
          refine hi_out [] (.int .i64 2) [] (by kernel_rfl) (by intro q hq; cases hq) ?_
          exact ⟨.int .i64 2, [], rfl, ⟨rfl, rfl⟩, h20⟩
        ·
          refine plain_batch (rest := []) [⟨16, [], some (.bool false)⟩, ⟨17, [], none⟩, ⟨18, [], none⟩, ⟨19, [], none⟩, ⟨20, [.int .u32 z], none⟩, ⟨21, [], some (.bool true)⟩, ⟨22, [], none⟩] (l' := ([(25, .bool true), (24, .bool true), (23, .int .u32 z), (22, .pointer (some ⟨r1, 2, none⟩)), (21, .bool false), (20, .bool false), (19, .bool false), (18, .int .i64 y), (17, .pointer (some ⟨r1, 1, none⟩)), (16, .bool false), (15, .bool false), (14, .bool false), (13, .int .i64 y), (12, .pointer (some ⟨r1, 1, none⟩)), (11, .bool false), (10, .bool false), (9, .bool false), (8, .int .i64 x), (7, .pointer (some ⟨r1, 0, none⟩)), (6, .bool false), (5, .bool false), (4, .int .i64 x), (3, .pointer (some ⟨r1, 0, none⟩)), (0, .agg #[.int .i64 x, .int .i64 y, .int .u32 z]), (1, .pointer (some ⟨r1, 0, none⟩)), (2, .int .i64 0)] : Fr) ++ lr4) (pts' := [(20, ⟨r1, 2, none⟩, .int .u32 z)]) (eqs := [(.bool (decide (y ≥ 64)), .bool false), (.bool (z == 0), .bool true)]) (by kernel_rfl) ⟨(ov_f (by omega)), (ov_et (by omega)), trivial⟩ (AllC_cons (sat_cell h3 0 rfl rfl) (AllC_nil _)) ?_
          refine PO.mk ?_
          change WP _ _ (CA Try.f59 [1, 0, 1]) _ _ _
          refine fk_cut ([(0, .agg #[.int .i64 x, .int .i64 y, .int .u32 z]), (1, .pointer (some ⟨r1, 0, none⟩)), (2, .int .i64 0), (25, .bool true)] : Fr) (by kernel_rfl) (fun a => WP _ _ _ _ a _) (fun lr21 => ?_)
          refine gi_cnd (x := (Operand.tmp 25)) (s := CA Try.f59 [1, 0, 1, 0]) (t := CA Try.f59 [1, 0, 1, 1]) true (by kernel_rfl) (by kernel_rfl) ?_
          change WP _ _ (CA Try.f59 [1, 0, 1, 0]) _ _ _
          refine gi_seq (x := CA Try.f59 [1, 0, 1, 0, 0]) (y := CA Try.f59 [1, 0, 1, 0, 1]) (by kernel_rfl) ?_
          refine gi_pln (id := 2) (ops := RA Try.f59 [1, 0, 1, 0, 0]) [0] (by kernel_rfl) (by kernel_rfl) (by kernel_rfl) ?_
          refine plain_batch (rest := []) [⟨0, [], none⟩] (l' := ([(2, .int .i64 2), (0, .agg #[.int .i64 x, .int .i64 y, .int .u32 z]), (1, .pointer (some ⟨r1, 0, none⟩)), (2, .int .i64 0), (25, .bool true)] : Fr) ++ lr21) (pts' := []) (eqs := []) (by kernel_rfl) trivial (AllC_nil _) ?_
          refine PO.mk ?_
          change WP _ _ (CA Try.f59 [1, 0, 1, 0, 1]) _ _ _
          refine fk_cut ([(0, .agg #[.int .i64 x, .int .i64 y, .int .u32 z]), (1, .pointer (some ⟨r1, 0, none⟩)), (2, .int .i64 2), (25, .bool true)] : Fr) (by kernel_rfl) (fun a => WP _ _ _ _ a _) (fun lr22 => ?_)
          refine gi_rt (by kernel_rfl) ?_
          repeat (first | simp only [Exit.inBlock] | simp only [Exit.then])
          have h23 : sat g w2 [R] := sat_sel [1] rfl h3
          refine hi_out [] (.int .i64 2) [] (by kernel_rfl) (by intro q hq; cases hq) ?_
          exact ⟨.int .i64 2, [], rfl, ⟨rfl, rfl⟩, h23⟩

set_option maxHeartbeats 4000000 in
theorem dchk_ht (b n : Nat) (X : Xs) (x y z : Int) (hz0 : 0 ≤ z) (hz1 : z ≤ 4294967295) : HT Try.prog 43 [Value.pointer (some ⟨b, 0, none⟩), Value.agg #[Value.int IntKind.i64 x, Value.int IntKind.i64 y, Value.int IntKind.u32 z]] [Dc b n X] (fun v K => v = Value.int .i64 (errA (As X) (x, y, z)) ∧ K = [Dc b n X]) := by
  refine hi_in 45 ([(0, .pointer (some ⟨b, 0, none⟩)), (1, .agg #[.int .i64 x, .int .i64 y, .int .u32 z])] : Fr) Try.func43 (by kernel_rfl) Try.ntmps43 rfl rfl ?_
  intro g w0 R h0
  refine gi_seq (x := CA Try.f43 [0]) (y := CA Try.f43 [1]) (by kernel_rfl) ?_
  refine gi_pln (id := 0) (ops := RA Try.f43 [0]) [0, 1] (by kernel_rfl) (by kernel_rfl) (by kernel_rfl) ?_
  refine plain_act (i := 0) (by kernel_rfl) ?_
  refine an_new (d := 3) (fun xb_ => .pointer (some ⟨xb_, 0, none⟩)) (fun xb_ => Obj.cells [.int .i64 x, .int .i64 y, .int .u32 z].toArray 28 (0, 0)) (fun xb_ => by kernel_rfl) (by kernel_rfl) rfl h0 ?_
  intro r1 w2 (h3 : sat g w2 [Cl r1 [.int .i64 x, .int .i64 y, .int .u32 z] 28, Dc b n X, R])
  refine plain_batch (rest := []) [⟨1, [], none⟩] (l' := ([(4, .int .i64 0), (3, .pointer (some ⟨r1, 0, none⟩)), (0, .pointer (some ⟨b, 0, none⟩)), (1, .agg #[.int .i64 x, .int .i64 y, .int .u32 z])] : Fr)) (pts' := []) (eqs := []) (by kernel_rfl) trivial (AllC_nil _) ?_
  refine PO.mk ?_
  change WP _ _ (CA Try.f43 [1]) _ _ _
  refine fk_cut ([(0, .pointer (some ⟨b, 0, none⟩)), (1, .agg #[.int .i64 x, .int .i64 y, .int .u32 z]), (3, .pointer (some ⟨r1, 0, none⟩)), (4, .int .i64 0)] : Fr) (by kernel_rfl) (fun a => WP _ _ _ _ a _) (fun lr4 => ?_)
  refine gi_seq (x := CA Try.f43 [1, 0]) (y := CA Try.f43 [1, 1]) (by kernel_rfl) ?_
  refine gi_seq (x := CA Try.f43 [1, 0, 0]) (y := CA Try.f43 [1, 0, 1]) (by kernel_rfl) ?_
  refine gi_pln (id := 1) (ops := RA Try.f43 [1, 0, 0]) [0, 1, 2, 3, 4, 5, 6, 7] (by kernel_rfl) (by kernel_rfl) (by kernel_rfl) ?_
  refine plain_batch (rest := [1, 2, 3, 4, 5, 6, 7]) [⟨0, [.int .i64 x, .int .i64 y, .int .u32 z], none⟩] (l' := ([(5, .agg #[.int .i64 x, .int .i64 y, .int .u32 z]), (0, .pointer (some ⟨b, 0, none⟩)), (1, .agg #[.int .i64 x, .int .i64 y, .int .u32 z]), (3, .pointer (some ⟨r1, 0, none⟩)), (4, .int .i64 0)] : Fr) ++ lr4) (pts' := [(0, ⟨r1, 0, none⟩, .int .i64 x), (0, ⟨r1, 1, none⟩, .int .i64 y), (0, ⟨r1, 2, none⟩, .int .u32 z)]) (eqs := []) (by kernel_rfl) trivial (AllC_cons (sat_cell h3 0 rfl rfl) (AllC_cons (sat_cell h3 0 rfl rfl) (AllC_cons (sat_cell h3 0 rfl rfl) (AllC_nil _)))) ?_
  by_cases c5 : 1 ≤ x
  ·
    by_cases c6 : x ≤ 3
    ·
      by_cases c7 : 0 ≤ y
      ·
        by_cases c8 : y ≤ 63
        ·
          by_cases c9 : 1 ≤ z
          ·
            refine plain_act (i := 1) (by kernel_rfl) ?_
            refine an_call (d := some 6) (f := 59) (args := [.agg #[.int .i64 x, .int .i64 y, .int .u32 z]]) (by kernel_rfl) Try.call59 (dcouter_ok x y z (by omega) (by omega) (by omega)) (F := [Cl r1 [.int .i64 x, .int .i64 y, .int .u32 z] 28, Dc b n X, R]) h3 ?_
            rintro v K w10 (⟨rfl, rfl⟩) h11
            refine ⟨_, rfl, ?_⟩
            have h12 : sat g w10 [Cl r1 [.int .i64 x, .int .i64 y, .int .u32 z] 28, Dc b n X, R] := h11
            refine plain_batch (rest := [6, 7]) [⟨2, [], none⟩, ⟨3, [], none⟩, ⟨4, [], none⟩, ⟨5, [.int .i64 x], none⟩] (l' := ([(10, .int .i64 x), (9, .pointer (some ⟨r1, 0, none⟩)), (8, .bool false), (7, .bool false), (6, .int .i64 0), (5, .agg #[.int .i64 x, .int .i64 y, .int .u32 z]), (0, .pointer (some ⟨b, 0, none⟩)), (1, .agg #[.int .i64 x, .int .i64 y, .int .u32 z]), (3, .pointer (some ⟨r1, 0, none⟩)), (4, .int .i64 0)] : Fr) ++ lr4) (pts' := [(5, ⟨r1, 0, none⟩, .int .i64 x)]) (eqs := []) (by kernel_rfl) trivial (AllC_cons (sat_cell h12 0 rfl rfl) (AllC_nil _)) ?_
            by_cases c13 : x = 1
            ·
              refine plain_batch (rest := []) [⟨6, [], some (.bool false)⟩, ⟨7, [], none⟩] (l' := ([(12, .bool false), (11, .bool false), (10, .int .i64 x), (9, .pointer (some ⟨r1, 0, none⟩)), (8, .bool false), (7, .bool false), (6, .int .i64 0), (5, .agg #[.int .i64 x, .int .i64 y, .int .u32 z]), (0, .pointer (some ⟨b, 0, none⟩)), (1, .agg #[.int .i64 x, .int .i64 y, .int .u32 z]), (3, .pointer (some ⟨r1, 0, none⟩)), (4, .int .i64 0)] : Fr) ++ lr4) (pts' := []) (eqs := [(.bool (x != 1), .bool false)]) (by kernel_rfl) ⟨(ov_nf (by omega)), trivial⟩ (AllC_nil _) ?_
              refine PO.mk ?_
              change WP _ _ (CA Try.f43 [1, 0, 1]) _ _ _
              refine fk_cut ([(0, .pointer (some ⟨b, 0, none⟩)), (1, .agg #[.int .i64 x, .int .i64 y, .int .u32 z]), (3, .pointer (some ⟨r1, 0, none⟩)), (4, .int .i64 0), (12, .bool false)] : Fr) (by kernel_rfl) (fun a => WP _ _ _ _ a _) (fun lr14 => ?_)
              refine gi_cnd (x := (Operand.tmp 12)) (s := CA Try.f43 [1, 0, 1, 0]) (t := CA Try.f43 [1, 0, 1, 1]) false (by kernel_rfl) (by kernel_rfl) ?_
              change WP _ _ (CA Try.f43 [1, 0, 1, 1]) _ _ _
              refine gi_skp (by kernel_rfl) ?_
              change WP _ _ (CA Try.f43 [1, 1]) _ _ _
              refine gi_seq (x := CA Try.f43 [1, 1, 0]) (y := CA Try.f43 [1, 1, 1]) (by kernel_rfl) ?_
              refine gi_seq (x := CA Try.f43 [1, 1, 0, 0]) (y := CA Try.f43 [1, 1, 0, 1]) (by kernel_rfl) ?_
              refine gi_drw (id := 3) (ops := RA Try.f43 [1, 1, 0, 0]) (Tr.fl 0 (Tr.fl 1 (Tr.fl 2 (Tr.fl 3 (Tr.fl 4 (Tr.fl 5 (Tr.fl 6 (Tr.fl 7 Tr.nil)))))))) (by kernel_rfl) (by kernel_rfl) (by kernel_rfl) (by kernel_rfl) (by kernel_rfl) (fun _ _ d _ _ h => by cases d <;> exact h) h12 ?_
              intro w15 h16
              have h17 : sat g w15 [Dc b n X, Cl r1 [.int .i64 x, .int .i64 y, .int .u32 z] 28, R] := sat_sel [1, 0, 2] rfl h16
              obtain ⟨p18, c19, hD20, h21⟩ := dc_open h17
              have hXl_ := hD20.1; have hn1_ := hD20.2.1; have hn64_ := hD20.2.2.1; have hok_ := hD20.2.2.2; have hal_ := as_len X
              refine draw_batch (t := (Tr.fl 7 Tr.nil)) [⟨0, [], none⟩, ⟨1, [.int .i64 y], none⟩, ⟨2, [], none⟩, ⟨3, [], none⟩, ⟨4, [], none⟩, ⟨5, [.slice p18 n c19], none⟩, ⟨6, [], none⟩] (l' := ([(19, .int .i64 (((n : Nat) : Int))), (18, .slice p18 n c19), (17, .pointer (some ⟨b, 0, none⟩)), (16, .pointer (some ⟨b, 0, none⟩)), (15, .pointer (some ⟨b, 0, none⟩)), (14, .int .i64 y), (13, .pointer (some ⟨r1, 1, none⟩)), (0, .pointer (some ⟨b, 0, none⟩)), (1, .agg #[.int .i64 x, .int .i64 y, .int .u32 z]), (3, .pointer (some ⟨r1, 0, none⟩)), (4, .int .i64 0), (12, .bool false)] : Fr) ++ lr14) (pts' := [(5, ⟨b, 0, none⟩, .slice p18 n c19), (1, ⟨r1, 1, none⟩, .int .i64 y)]) (eqs := []) (by kernel_rfl) trivial (AllC_cons (sat_cell h21 0 rfl rfl) (AllC_cons (sat_cell h16 0 rfl rfl) (AllC_nil _))) ?_
              by_cases c22 : y ≥ ((n : Nat) : Int)
              ·
                refine draw_batch (t := Tr.nil) [⟨7, [], some (.bool true)⟩] (l' := ([(20, .bool true), (19, .int .i64 (((n : Nat) : Int))), (18, .slice p18 n c19), (17, .pointer (some ⟨b, 0, none⟩)), (16, .pointer (some ⟨b, 0, none⟩)), (15, .pointer (some ⟨b, 0, none⟩)), (14, .int .i64 y), (13, .pointer (some ⟨r1, 1, none⟩)), (0, .pointer (some ⟨b, 0, none⟩)), (1, .agg #[.int .i64 x, .int .i64 y, .int .u32 z]), (3, .pointer (some ⟨r1, 0, none⟩)), (4, .int .i64 0), (12, .bool false)] : Fr) ++ lr14) (pts' := []) (eqs := [(.bool (decide (y ≥ ((n : Nat) : Int))), .bool true)]) (by kernel_rfl) ⟨(ov_t (by omega)), trivial⟩ (AllC_nil _) ?_
                change WP _ _ (CA Try.f43 [1, 1, 0, 1]) _ _ _
                refine fk_cut ([(0, .pointer (some ⟨b, 0, none⟩)), (1, .agg #[.int .i64 x, .int .i64 y, .int .u32 z]), (3, .pointer (some ⟨r1, 0, none⟩)), (4, .int .i64 0), (12, .bool false), (20, .bool true)] : Fr) (by kernel_rfl) (fun a => WP _ _ _ _ a _) (fun lr23 => ?_)
                refine gi_cnd (x := (Operand.tmp 20)) (s := CA Try.f43 [1, 1, 0, 1, 0]) (t := CA Try.f43 [1, 1, 0, 1, 1]) true (by kernel_rfl) (by kernel_rfl) ?_
                change WP _ _ (CA Try.f43 [1, 1, 0, 1, 0]) _ _ _
                refine gi_seq (x := CA Try.f43 [1, 1, 0, 1, 0, 0]) (y := CA Try.f43 [1, 1, 0, 1, 0, 1]) (by kernel_rfl) ?_
                refine gi_pln (id := 4) (ops := RA Try.f43 [1, 1, 0, 1, 0, 0]) [0] (by kernel_rfl) (by kernel_rfl) (by kernel_rfl) ?_
                refine plain_batch (rest := []) [⟨0, [], none⟩] (l' := ([(4, .int .i64 3), (0, .pointer (some ⟨b, 0, none⟩)), (1, .agg #[.int .i64 x, .int .i64 y, .int .u32 z]), (3, .pointer (some ⟨r1, 0, none⟩)), (4, .int .i64 0), (12, .bool false), (20, .bool true)] : Fr) ++ lr23) (pts' := []) (eqs := []) (by kernel_rfl) trivial (AllC_nil _) ?_
                refine PO.mk ?_
                change WP _ _ (CA Try.f43 [1, 1, 0, 1, 0, 1]) _ _ _
                refine fk_cut ([(0, .pointer (some ⟨b, 0, none⟩)), (1, .agg #[.int .i64 x, .int .i64 y, .int .u32 z]), (3, .pointer (some ⟨r1, 0, none⟩)), (4, .int .i64 3), (12, .bool false), (20, .bool true)] : Fr) (by kernel_rfl) (fun a => WP _ _ _ _ a _) (fun lr24 => ?_)
                refine gi_rt (by kernel_rfl) ?_
                repeat (first | simp only [Exit.inBlock] | simp only [Exit.then])
                have he_ : errA (As X) (x, y, z) = 3 := chk_range (As X) (as_len X) (by omega) (by omega) (by omega) (by omega) (by omega)
                have h25 : sat g w15 [Dc b n X, Cl r1 [.int .i64 x, .int .i64 y, .int .u32 z] 28, R] := dc_close hD20 h21
                have h26 : sat g w15 [Dc b n X, R] := sat_sel [0, 2] rfl h25
                refine hi_out [] (.int .i64 3) [] (by kernel_rfl) (by intro q hq; cases hq) ?_
                exact ⟨.int .i64 3, [Dc b n X], rfl, ⟨by rw [he_], rfl⟩, h26⟩
              ·
                refine draw_batch (t := Tr.nil) [⟨7, [], some (.bool false)⟩] (l' := ([(20, .bool false), (19, .int .i64 (((n : Nat) : Int))), (18, .slice p18 n c19), (17, .pointer (some ⟨b, 0, none⟩)), (16, .pointer (some ⟨b, 0, none⟩)), (15, .pointer (some ⟨b, 0, none⟩)), (14, .int .i64 y), (13, .pointer (some ⟨r1, 1, none⟩)), (0, .pointer (some ⟨b, 0, none⟩)), (1, .agg #[.int .i64 x, .int .i64 y, .int .u32 z]), (3, .pointer (some ⟨r1, 0, none⟩)), (4, .int .i64 0), (12, .bool false)] : Fr) ++ lr14) (pts' := []) (eqs := [(.bool (decide (y ≥ ((n : Nat) : Int))), .bool false)]) (by kernel_rfl) ⟨(ov_f (by omega)), trivial⟩ (AllC_nil _) ?_
                change WP _ _ (CA Try.f43 [1, 1, 0, 1]) _ _ _
                refine fk_cut ([(0, .pointer (some ⟨b, 0, none⟩)), (1, .agg #[.int .i64 x, .int .i64 y, .int .u32 z]), (3, .pointer (some ⟨r1, 0, none⟩)), (4, .int .i64 0), (12, .bool false), (20, .bool false)] : Fr) (by kernel_rfl) (fun a => WP _ _ _ _ a _) (fun lr27 => ?_)
                refine gi_cnd (x := (Operand.tmp 20)) (s := CA Try.f43 [1, 1, 0, 1, 0]) (t := CA Try.f43 [1, 1, 0, 1, 1]) false (by kernel_rfl) (by kernel_rfl) ?_
                change WP _ _ (CA Try.f43 [1, 1, 0, 1, 1]) _ _ _
                refine gi_skp (by kernel_rfl) ?_
                change WP _ _ (CA Try.f43 [1, 1, 1]) _ _ _
                refine gi_seq (x := CA Try.f43 [1, 1, 1, 0]) (y := CA Try.f43 [1, 1, 1, 1]) (by kernel_rfl) ?_
                refine gi_seq (x := CA Try.f43 [1, 1, 1, 0, 0]) (y := CA Try.f43 [1, 1, 1, 0, 1]) (by kernel_rfl) ?_
                refine gi_drw (id := 5) (ops := RA Try.f43 [1, 1, 1, 0, 0]) (Tr.fl 0 (Tr.fl 1 (Tr.fl 2 (Tr.fl 3 (Tr.fl 4 (Tr.fl 5 (Tr.fl 6 (Tr.fl 7 (Tr.fl 8 (Tr.fl 9 (Tr.fl 10 (Tr.fl 11 (Tr.fl 12 (Tr.fl 13 (Tr.fl 14 (Tr.fl 15 (Tr.fl 16 (Tr.fl 17 (Tr.fl 18 (Tr.fl 19 (Tr.fl 20 (Tr.fl 21 (Tr.fl 22 (Tr.fl 23 Tr.nil)))))))))))))))))))))))) (by kernel_rfl) (by kernel_rfl) (by kernel_rfl) (by kernel_rfl) (by kernel_rfl) (fun _ _ d _ _ h => by cases d <;> exact h) h21 ?_
                intro w28 h29
                obtain ⟨b30, hp31⟩ := sl_ptr0 (j := 1) h29 rfl (by omega)
                obtain ⟨kk32, hk33⟩ : ∃ z_ : Nat, y = (z_ : Int) := ⟨(y).toNat, by omega⟩
                refine draw_batch (t := (Tr.fl 6 (Tr.fl 7 (Tr.fl 8 (Tr.fl 9 (Tr.fl 10 (Tr.fl 11 (Tr.fl 12 (Tr.fl 13 (Tr.fl 14 (Tr.fl 15 (Tr.fl 16 (Tr.fl 17 (Tr.fl 18 (Tr.fl 19 (Tr.fl 20 (Tr.fl 21 (Tr.fl 22 (Tr.fl 23 Tr.nil))))))))))))))))))) [⟨0, [], none⟩, ⟨1, [], none⟩, ⟨2, [], none⟩, ⟨3, [.slice p18 n c19], none⟩, ⟨4, [], none⟩, ⟨5, [.int .i64 y], none⟩] (l' := ([(26, .int .i64 y), (25, .pointer (some ⟨r1, 1, none⟩)), (24, .slice p18 n c19), (23, .pointer (some ⟨b, 0, none⟩)), (22, .pointer (some ⟨b, 0, none⟩)), (21, .pointer (some ⟨b, 0, none⟩)), (0, .pointer (some ⟨b, 0, none⟩)), (1, .agg #[.int .i64 x, .int .i64 y, .int .u32 z]), (3, .pointer (some ⟨r1, 0, none⟩)), (4, .int .i64 0), (12, .bool false), (20, .bool false)] : Fr) ++ lr27) (pts' := [(5, ⟨r1, 1, none⟩, .int .i64 y), (3, ⟨b, 0, none⟩, .slice p18 n c19)]) (eqs := []) (by kernel_rfl) trivial (AllC_cons (sat_cell h29 2 rfl rfl) (AllC_cons (sat_cell h29 0 rfl rfl) (AllC_nil _))) ?_
                refine draw_law (i := 6) 27 (.pointer (some ⟨b30, kk32 * 4, none⟩)) [] (by kernel_rfl) (fun _ _ => law_indexSlP (o := opA (RA Try.f43 [1, 1, 1, 0, 0]) 6) (x := (Operand.tmp 24)) (i := (Operand.tmp 26)) (p := p18) (b := b30) (off := 0) (z := y) (len := n) (cap := c19) (by kernel_rfl) Try.underlying90 4 (by kernel_rfl) kk32 (by kernel_rfl) hp31 (by kernel_rfl) (by omega) (by omega) (kk32 * 4) (by omega) _) (by intro q hq; cases hq) ?_
                have h34 : sat g w28 [Sl 94 4 p18 n c19 (fl eId X), Cl b [.slice p18 n c19] 92, Cl r1 [.int .i64 x, .int .i64 y, .int .u32 z] 28, R] := sat_sel [1, 0, 2, 3] rfl h29
                have hl35 := fl_n eId_ok (by decide) h34
                obtain ⟨x36, hx37⟩ : ∃ x, X[kk32]? = some x := ⟨_, List.getElem?_eq_getElem (by rw [hl35]; omega)⟩
                have hb38 := slOk_as hok_ hx37
                refine draw_batch (t := (Tr.fl 8 (Tr.fl 9 (Tr.fl 10 (Tr.fl 11 (Tr.fl 12 (Tr.fl 13 (Tr.fl 14 (Tr.fl 15 (Tr.fl 16 (Tr.fl 17 (Tr.fl 18 (Tr.fl 19 (Tr.fl 20 (Tr.fl 21 (Tr.fl 22 (Tr.fl 23 Tr.nil))))))))))))))))) [⟨7, [], none⟩] (l' := ([(28, .pointer (some ⟨b30, kk32 * 4, none⟩)), (27, .pointer (some ⟨b30, kk32 * 4, none⟩)), (26, .int .i64 y), (25, .pointer (some ⟨r1, 1, none⟩)), (24, .slice p18 n c19), (23, .pointer (some ⟨b, 0, none⟩)), (22, .pointer (some ⟨b, 0, none⟩)), (21, .pointer (some ⟨b, 0, none⟩)), (0, .pointer (some ⟨b, 0, none⟩)), (1, .agg #[.int .i64 x, .int .i64 y, .int .u32 z]), (3, .pointer (some ⟨r1, 0, none⟩)), (4, .int .i64 0), (12, .bool false), (20, .bool false)] : Fr) ++ lr27) (pts' := []) (eqs := []) (by kernel_rfl) trivial (AllC_nil _) ?_
                by_cases c39 : x36.1 = 1
                ·
                  refine draw_batch (t := (Tr.fl 17 (Tr.fl 18 (Tr.fl 19 (Tr.fl 20 (Tr.fl 21 (Tr.fl 22 (Tr.fl 23 Tr.nil)))))))) [⟨8, [.bool (decide (x36.1 = 1))], some (.bool true)⟩, ⟨9, [], none⟩, ⟨10, [], none⟩, ⟨11, [], none⟩, ⟨12, [], none⟩, ⟨13, [], none⟩, ⟨14, [.slice p18 n c19], none⟩, ⟨15, [], none⟩, ⟨16, [.int .i64 y], none⟩] (l' := ([(37, .int .i64 y), (36, .pointer (some ⟨r1, 1, none⟩)), (35, .slice p18 n c19), (34, .pointer (some ⟨b, 0, none⟩)), (33, .pointer (some ⟨b, 0, none⟩)), (32, .pointer (some ⟨b, 0, none⟩)), (31, .bool false), (30, .bool false), (29, .bool true), (28, .pointer (some ⟨b30, kk32 * 4, none⟩)), (27, .pointer (some ⟨b30, kk32 * 4, none⟩)), (26, .int .i64 y), (25, .pointer (some ⟨r1, 1, none⟩)), (24, .slice p18 n c19), (23, .pointer (some ⟨b, 0, none⟩)), (22, .pointer (some ⟨b, 0, none⟩)), (21, .pointer (some ⟨b, 0, none⟩)), (0, .pointer (some ⟨b, 0, none⟩)), (1, .agg #[.int .i64 x, .int .i64 y, .int .u32 z]), (3, .pointer (some ⟨r1, 0, none⟩)), (4, .int .i64 0), (12, .bool false), (20, .bool false)] : Fr) ++ lr27) (pts' := [(16, ⟨r1, 1, none⟩, .int .i64 y), (14, ⟨b, 0, none⟩, .slice p18 n c19), (8, ⟨b30, kk32 * 4, none⟩, .bool (decide (x36.1 = 1)))]) (eqs := [(.bool (decide (x36.1 = 1)), .bool true)]) (by kernel_rfl) ⟨(ov_b (decide_eq_true (by omega))), trivial⟩ (AllC_cons (sat_cell h34 2 rfl rfl) (AllC_cons (sat_cell h34 1 rfl rfl) (AllC_cons (gv_cell (j := 0) h34 rfl (gv_sl _ _ _) hp31 (fl_get eId_ok (j := 0) (v := .bool (decide (x36.1 = 1))) hx37 rfl) (kk32 * 4) (by omega)) (AllC_nil _)))) ?_
                  refine draw_law (i := 17) 38 (.pointer (some ⟨b30, kk32 * 4, none⟩)) [] (by kernel_rfl) (fun _ _ => law_indexSlP (o := opA (RA Try.f43 [1, 1, 1, 0, 0]) 17) (x := (Operand.tmp 35)) (i := (Operand.tmp 37)) (p := p18) (b := b30) (off := 0) (z := y) (len := n) (cap := c19) (by kernel_rfl) Try.underlying90 4 (by kernel_rfl) kk32 (by kernel_rfl) hp31 (by kernel_rfl) (by omega) (by omega) (kk32 * 4) (by omega) _) (by intro q hq; cases hq) ?_
                  refine draw_batch (t := (Tr.fl 22 (Tr.fl 23 Tr.nil))) [⟨18, [], none⟩, ⟨19, [.int .u32 x36.2.1], none⟩, ⟨20, [], none⟩, ⟨21, [.int .u32 z], none⟩] (l' := ([(42, .int .u32 z), (41, .pointer (some ⟨r1, 2, none⟩)), (40, .int .u32 x36.2.1), (39, .pointer (some ⟨b30, kk32 * 4 + 2, none⟩)), (38, .pointer (some ⟨b30, kk32 * 4, none⟩)), (37, .int .i64 y), (36, .pointer (some ⟨r1, 1, none⟩)), (35, .slice p18 n c19), (34, .pointer (some ⟨b, 0, none⟩)), (33, .pointer (some ⟨b, 0, none⟩)), (32, .pointer (some ⟨b, 0, none⟩)), (31, .bool false), (30, .bool false), (29, .bool true), (28, .pointer (some ⟨b30, kk32 * 4, none⟩)), (27, .pointer (some ⟨b30, kk32 * 4, none⟩)), (26, .int .i64 y), (25, .pointer (some ⟨r1, 1, none⟩)), (24, .slice p18 n c19), (23, .pointer (some ⟨b, 0, none⟩)), (22, .pointer (some ⟨b, 0, none⟩)), (21, .pointer (some ⟨b, 0, none⟩)), (0, .pointer (some ⟨b, 0, none⟩)), (1, .agg #[.int .i64 x, .int .i64 y, .int .u32 z]), (3, .pointer (some ⟨r1, 0, none⟩)), (4, .int .i64 0), (12, .bool false), (20, .bool false)] : Fr) ++ lr27) (pts' := [(21, ⟨r1, 2, none⟩, .int .u32 z), (19, ⟨b30, kk32 * 4 + 2, none⟩, .int .u32 x36.2.1)]) (eqs := []) (by kernel_rfl) trivial (AllC_cons (sat_cell h34 2 rfl rfl) (AllC_cons (gv_cell (j := 0) h34 rfl (gv_sl _ _ _) hp31 (fl_get eId_ok (j := 2) (v := .int .u32 x36.2.1) hx37 rfl) (kk32 * 4 + 2) (by omega)) (AllC_nil _))) ?_
                  refine fk_cut ([(42, .int .u32 z), (40, .int .u32 x36.2.1), (31, .bool false), (0, .pointer (some ⟨b, 0, none⟩)), (1, .agg #[.int .i64 x, .int .i64 y, .int .u32 z]), (3, .pointer (some ⟨r1, 0, none⟩)), (4, .int .i64 0), (12, .bool false), (20, .bool false)] : Fr) (by kernel_rfl) (fun a => RW _ _ _ _ _ a _) (fun lr40 => ?_)
                  by_cases c41 : x36.2.1 = z
                  ·
                    refine draw_batch (t := Tr.nil) [⟨22, [], some (.bool false)⟩, ⟨23, [], none⟩] (l' := ([(44, .bool false), (43, .bool false), (42, .int .u32 z), (40, .int .u32 x36.2.1), (31, .bool false), (0, .pointer (some ⟨b, 0, none⟩)), (1, .agg #[.int .i64 x, .int .i64 y, .int .u32 z]), (3, .pointer (some ⟨r1, 0, none⟩)), (4, .int .i64 0), (12, .bool false), (20, .bool false)] : Fr) ++ lr40) (pts' := []) (eqs := [(.bool (x36.2.1 != z), .bool false)]) (by kernel_rfl) ⟨(ov_nf (by omega)), trivial⟩ (AllC_nil _) ?_
                    change WP _ _ (CA Try.f43 [1, 1, 1, 0, 1]) _ _ _
                    refine fk_cut ([(0, .pointer (some ⟨b, 0, none⟩)), (1, .agg #[.int .i64 x, .int .i64 y, .int .u32 z]), (3, .pointer (some ⟨r1, 0, none⟩)), (4, .int .i64 0), (12, .bool false), (20, .bool false), (44, .bool false)] : Fr) (by kernel_rfl) (fun a => WP _ _ _ _ a _) (fun lr42 => ?_)
                    refine gi_cnd (x := (Operand.tmp 44)) (s := CA Try.f43 [1, 1, 1, 0, 1, 0]) (t := CA Try.f43 [1, 1, 1, 0, 1, 1]) false (by kernel_rfl) (by kernel_rfl) ?_
                    change WP _ _ (CA Try.f43 [1, 1, 1, 0, 1, 1]) _ _ _
                    refine gi_skp (by kernel_rfl) ?_
                    change WP _ _ (CA Try.f43 [1, 1, 1, 1]) _ _ _
                    refine gi_seq (x := CA Try.f43 [1, 1, 1, 1, 0]) (y := CA Try.f43 [1, 1, 1, 1, 1]) (by kernel_rfl) ?_
                    refine gi_pln (id := 7) (ops := RA Try.f43 [1, 1, 1, 1, 0]) [0] (by kernel_rfl) (by kernel_rfl) (by kernel_rfl) ?_
                    refine plain_batch (rest := []) [⟨0, [], none⟩] (l' := ([(4, .int .i64 0), (0, .pointer (some ⟨b, 0, none⟩)), (1, .agg #[.int .i64 x, .int .i64 y, .int .u32 z]), (3, .pointer (some ⟨r1, 0, none⟩)), (4, .int .i64 0), (12, .bool false), (20, .bool false), (44, .bool false)] : Fr) ++ lr42) (pts' := []) (eqs := []) (by kernel_rfl) trivial (AllC_nil _) ?_
                    refine PO.mk ?_
                    change WP _ _ (CA Try.f43 [1, 1, 1, 1, 1]) _ _ _
                    refine fk_cut ([(0, .pointer (some ⟨b, 0, none⟩)), (1, .agg #[.int .i64 x, .int .i64 y, .int .u32 z]), (3, .pointer (some ⟨r1, 0, none⟩)), (4, .int .i64 0), (12, .bool false), (20, .bool false), (44, .bool false)] : Fr) (by kernel_rfl) (fun a => WP _ _ _ _ a _) (fun lr43 => ?_)
                    refine gi_rt (by kernel_rfl) ?_
                    repeat (first | simp only [Exit.inBlock] | simp only [Exit.then])
                    have he_ : errA (As X) (x, y, z) = 0 := chk_ok (As X) (by omega) (by omega) (by omega) (show y = ((kk32 : Nat) : Int) from by omega) (as_get hx37) (by constructor <;> (show _ = _; omega))
                    have h44 : sat g w28 [Cl b [.slice p18 n c19] 92, Sl 94 4 p18 n c19 (fl eId X), Cl r1 [.int .i64 x, .int .i64 y, .int .u32 z] 28, R] := sat_sel [1, 0, 2, 3] rfl h34
                    have h45 : sat g w28 [Dc b n X, Cl r1 [.int .i64 x, .int .i64 y, .int .u32 z] 28, R] := dc_close hD20 h44
                    have h46 : sat g w28 [Dc b n X, R] := sat_sel [0, 2] rfl h45
                    refine hi_out [] (.int .i64 0) [] (by kernel_rfl) (by intro q hq; cases hq) ?_
                    exact ⟨.int .i64 0, [Dc b n X], rfl, ⟨by rw [he_], rfl⟩, h46⟩
                  ·
                    refine draw_batch (t := Tr.nil) [⟨22, [], some (.bool true)⟩, ⟨23, [], none⟩] (l' := ([(44, .bool true), (43, .bool true), (42, .int .u32 z), (40, .int .u32 x36.2.1), (31, .bool false), (0, .pointer (some ⟨b, 0, none⟩)), (1, .agg #[.int .i64 x, .int .i64 y, .int .u32 z]), (3, .pointer (some ⟨r1, 0, none⟩)), (4, .int .i64 0), (12, .bool false), (20, .bool false)] : Fr) ++ lr40) (pts' := []) (eqs := [(.bool (x36.2.1 != z), .bool true)]) (by kernel_rfl) ⟨(ov_nt (by omega)), trivial⟩ (AllC_nil _) ?_
                    change WP _ _ (CA Try.f43 [1, 1, 1, 0, 1]) _ _ _
                    refine fk_cut ([(0, .pointer (some ⟨b, 0, none⟩)), (1, .agg #[.int .i64 x, .int .i64 y, .int .u32 z]), (3, .pointer (some ⟨r1, 0, none⟩)), (4, .int .i64 0), (12, .bool false), (20, .bool false), (44, .bool true)] : Fr) (by kernel_rfl) (fun a => WP _ _ _ _ a _) (fun lr47 => ?_)
                    refine gi_cnd (x := (Operand.tmp 44)) (s := CA Try.f43 [1, 1, 1, 0, 1, 0]) (t := CA Try.f43 [1, 1, 1, 0, 1, 1]) true (by kernel_rfl) (by kernel_rfl) ?_
                    change WP _ _ (CA Try.f43 [1, 1, 1, 0, 1, 0]) _ _ _
                    refine gi_seq (x := CA Try.f43 [1, 1, 1, 0, 1, 0, 0]) (y := CA Try.f43 [1, 1, 1, 0, 1, 0, 1]) (by kernel_rfl) ?_
                    refine gi_pln (id := 6) (ops := RA Try.f43 [1, 1, 1, 0, 1, 0, 0]) [0] (by kernel_rfl) (by kernel_rfl) (by kernel_rfl) ?_
                    refine plain_batch (rest := []) [⟨0, [], none⟩] (l' := ([(4, .int .i64 7), (0, .pointer (some ⟨b, 0, none⟩)), (1, .agg #[.int .i64 x, .int .i64 y, .int .u32 z]), (3, .pointer (some ⟨r1, 0, none⟩)), (4, .int .i64 0), (12, .bool false), (20, .bool false), (44, .bool true)] : Fr) ++ lr47) (pts' := []) (eqs := []) (by kernel_rfl) trivial (AllC_nil _) ?_
                    refine PO.mk ?_
                    change WP _ _ (CA Try.f43 [1, 1, 1, 0, 1, 0, 1]) _ _ _
                    refine fk_cut ([(0, .pointer (some ⟨b, 0, none⟩)), (1, .agg #[.int .i64 x, .int .i64 y, .int .u32 z]), (3, .pointer (some ⟨r1, 0, none⟩)), (4, .int .i64 7), (12, .bool false), (20, .bool false), (44, .bool true)] : Fr) (by kernel_rfl) (fun a => WP _ _ _ _ a _) (fun lr48 => ?_)
                    refine gi_rt (by kernel_rfl) ?_
                    repeat (first | simp only [Exit.inBlock] | simp only [Exit.then])
                    have he_ : errA (As X) (x, y, z) = 7 := chk_stale (As X) (by omega) (by omega) (by omega) (show y = ((kk32 : Nat) : Int) from by omega) (as_get hx37) (by rintro ⟨hs1_, hs2_⟩; first | (have hs1_ := (show _ = _ from hs1_); have hs2_ := (show _ = _ from hs2_); dsimp only at hs1_ hs2_; omega))
                    have h49 : sat g w28 [Cl b [.slice p18 n c19] 92, Sl 94 4 p18 n c19 (fl eId X), Cl r1 [.int .i64 x, .int .i64 y, .int .u32 z] 28, R] := sat_sel [1, 0, 2, 3] rfl h34
                    have h50 : sat g w28 [Dc b n X, Cl r1 [.int .i64 x, .int .i64 y, .int .u32 z] 28, R] := dc_close hD20 h49
                    have h51 : sat g w28 [Dc b n X, R] := sat_sel [0, 2] rfl h50
                    refine hi_out [] (.int .i64 7) [] (by kernel_rfl) (by intro q hq; cases hq) ?_
                    exact ⟨.int .i64 7, [Dc b n X], rfl, ⟨by rw [he_], rfl⟩, h51⟩
                ·
                  refine draw_batch (t := Tr.nil) [⟨8, [.bool (decide (x36.1 = 1))], some (.bool false)⟩, ⟨9, [], none⟩, ⟨10, [], none⟩, ⟨11, [], none⟩, ⟨12, [], none⟩, ⟨13, [], none⟩, ⟨14, [], none⟩, ⟨15, [], none⟩, ⟨16, [], none⟩, ⟨17, [], none⟩, ⟨18, [], none⟩, ⟨19, [], none⟩, ⟨20, [], none⟩, ⟨21, [], none⟩, ⟨22, [], none⟩, ⟨23, [], none⟩] (l' := ([(44, .bool true), (43, undef), (42, undef), (41, undef), (40, undef), (39, undef), (38, undef), (37, undef), (36, undef), (35, undef), (34, undef), (33, undef), (32, undef), (31, .bool true), (30, .bool true), (29, .bool false), (28, .pointer (some ⟨b30, kk32 * 4, none⟩)), (27, .pointer (some ⟨b30, kk32 * 4, none⟩)), (26, .int .i64 y), (25, .pointer (some ⟨r1, 1, none⟩)), (24, .slice p18 n c19), (23, .pointer (some ⟨b, 0, none⟩)), (22, .pointer (some ⟨b, 0, none⟩)), (21, .pointer (some ⟨b, 0, none⟩)), (0, .pointer (some ⟨b, 0, none⟩)), (1, .agg #[.int .i64 x, .int .i64 y, .int .u32 z]), (3, .pointer (some ⟨r1, 0, none⟩)), (4, .int .i64 0), (12, .bool false), (20, .bool false)] : Fr) ++ lr27) (pts' := [(8, ⟨b30, kk32 * 4, none⟩, .bool (decide (x36.1 = 1)))]) (eqs := [(.bool (decide (x36.1 = 1)), .bool false)]) (by kernel_rfl) ⟨(ov_b (decide_eq_false (by omega))), trivial⟩ (AllC_cons (gv_cell (j := 0) h34 rfl (gv_sl _ _ _) hp31 (fl_get eId_ok (j := 0) (v := .bool (decide (x36.1 = 1))) hx37 rfl) (kk32 * 4) (by omega)) (AllC_nil _)) ?_
                  change WP _ _ (CA Try.f43 [1, 1, 1, 0, 1]) _ _ _
                  refine fk_cut ([(0, .pointer (some ⟨b, 0, none⟩)), (1, .agg #[.int .i64 x, .int .i64 y, .int .u32 z]), (3, .pointer (some ⟨r1, 0, none⟩)), (4, .int .i64 0), (12, .bool false), (20, .bool false), (44, .bool true)] : Fr) (by kernel_rfl) (fun a => WP _ _ _ _ a _) (fun lr52 => ?_)
                  refine gi_cnd (x := (Operand.tmp 44)) (s := CA Try.f43 [1, 1, 1, 0, 1, 0]) (t := CA Try.f43 [1, 1, 1, 0, 1, 1]) true (by kernel_rfl) (by kernel_rfl) ?_
                  change WP _ _ (CA Try.f43 [1, 1, 1, 0, 1, 0]) _ _ _
                  refine gi_seq (x := CA Try.f43 [1, 1, 1, 0, 1, 0, 0]) (y := CA Try.f43 [1, 1, 1, 0, 1, 0, 1]) (by kernel_rfl) ?_
                  refine gi_pln (id := 6) (ops := RA Try.f43 [1, 1, 1, 0, 1, 0, 0]) [0] (by kernel_rfl) (by kernel_rfl) (by kernel_rfl) ?_
                  refine plain_batch (rest := []) [⟨0, [], none⟩] (l' := ([(4, .int .i64 7), (0, .pointer (some ⟨b, 0, none⟩)), (1, .agg #[.int .i64 x, .int .i64 y, .int .u32 z]), (3, .pointer (some ⟨r1, 0, none⟩)), (4, .int .i64 0), (12, .bool false), (20, .bool false), (44, .bool true)] : Fr) ++ lr52) (pts' := []) (eqs := []) (by kernel_rfl) trivial (AllC_nil _) ?_
                  refine PO.mk ?_
                  change WP _ _ (CA Try.f43 [1, 1, 1, 0, 1, 0, 1]) _ _ _
                  refine fk_cut ([(0, .pointer (some ⟨b, 0, none⟩)), (1, .agg #[.int .i64 x, .int .i64 y, .int .u32 z]), (3, .pointer (some ⟨r1, 0, none⟩)), (4, .int .i64 7), (12, .bool false), (20, .bool false), (44, .bool true)] : Fr) (by kernel_rfl) (fun a => WP _ _ _ _ a _) (fun lr53 => ?_)
                  refine gi_rt (by kernel_rfl) ?_
                  repeat (first | simp only [Exit.inBlock] | simp only [Exit.then])
                  have he_ : errA (As X) (x, y, z) = 7 := chk_stale (As X) (by omega) (by omega) (by omega) (show y = ((kk32 : Nat) : Int) from by omega) (as_get hx37) (by rintro ⟨hs1_, hs2_⟩; first | (have hs1_ := (show _ = _ from hs1_); have hs2_ := (show _ = _ from hs2_); dsimp only at hs1_ hs2_; omega))
                  have h54 : sat g w28 [Cl b [.slice p18 n c19] 92, Sl 94 4 p18 n c19 (fl eId X), Cl r1 [.int .i64 x, .int .i64 y, .int .u32 z] 28, R] := sat_sel [1, 0, 2, 3] rfl h34
                  have h55 : sat g w28 [Dc b n X, Cl r1 [.int .i64 x, .int .i64 y, .int .u32 z] 28, R] := dc_close hD20 h54
                  have h56 : sat g w28 [Dc b n X, R] := sat_sel [0, 2] rfl h55
                  refine hi_out [] (.int .i64 7) [] (by kernel_rfl) (by intro q hq; cases hq) ?_
                  exact ⟨.int .i64 7, [Dc b n X], rfl, ⟨by rw [he_], rfl⟩, h56⟩
            ·
              refine plain_batch (rest := []) [⟨6, [], some (.bool true)⟩, ⟨7, [], none⟩] (l' := ([(12, .bool true), (11, .bool true), (10, .int .i64 x), (9, .pointer (some ⟨r1, 0, none⟩)), (8, .bool false), (7, .bool false), (6, .int .i64 0), (5, .agg #[.int .i64 x, .int .i64 y, .int .u32 z]), (0, .pointer (some ⟨b, 0, none⟩)), (1, .agg #[.int .i64 x, .int .i64 y, .int .u32 z]), (3, .pointer (some ⟨r1, 0, none⟩)), (4, .int .i64 0)] : Fr) ++ lr4) (pts' := []) (eqs := [(.bool (x != 1), .bool true)]) (by kernel_rfl) ⟨(ov_nt (by omega)), trivial⟩ (AllC_nil _) ?_
              refine PO.mk ?_
              change WP _ _ (CA Try.f43 [1, 0, 1]) _ _ _
              refine fk_cut ([(0, .pointer (some ⟨b, 0, none⟩)), (1, .agg #[.int .i64 x, .int .i64 y, .int .u32 z]), (3, .pointer (some ⟨r1, 0, none⟩)), (4, .int .i64 0), (12, .bool true)] : Fr) (by kernel_rfl) (fun a => WP _ _ _ _ a _) (fun lr57 => ?_)
              refine gi_cnd (x := (Operand.tmp 12)) (s := CA Try.f43 [1, 0, 1, 0]) (t := CA Try.f43 [1, 0, 1, 1]) true (by kernel_rfl) (by kernel_rfl) ?_
              change WP _ _ (CA Try.f43 [1, 0, 1, 0]) _ _ _
              refine gi_seq (x := CA Try.f43 [1, 0, 1, 0, 0]) (y := CA Try.f43 [1, 0, 1, 0, 1]) (by kernel_rfl) ?_
              refine gi_pln (id := 2) (ops := RA Try.f43 [1, 0, 1, 0, 0]) [0] (by kernel_rfl) (by kernel_rfl) (by kernel_rfl) ?_
              refine plain_batch (rest := []) [⟨0, [], none⟩] (l' := ([(4, .int .i64 2), (0, .pointer (some ⟨b, 0, none⟩)), (1, .agg #[.int .i64 x, .int .i64 y, .int .u32 z]), (3, .pointer (some ⟨r1, 0, none⟩)), (4, .int .i64 0), (12, .bool true)] : Fr) ++ lr57) (pts' := []) (eqs := []) (by kernel_rfl) trivial (AllC_nil _) ?_
              refine PO.mk ?_
              change WP _ _ (CA Try.f43 [1, 0, 1, 0, 1]) _ _ _
              refine fk_cut ([(0, .pointer (some ⟨b, 0, none⟩)), (1, .agg #[.int .i64 x, .int .i64 y, .int .u32 z]), (3, .pointer (some ⟨r1, 0, none⟩)), (4, .int .i64 2), (12, .bool true)] : Fr) (by kernel_rfl) (fun a => WP _ _ _ _ a _) (fun lr58 => ?_)
              refine gi_rt (by kernel_rfl) ?_
              repeat (first | simp only [Exit.inBlock] | simp only [Exit.then])
              have he_ : errA (As X) (x, y, z) = 2 := chk_arg (As X) (by omega)
              have h59 : sat g w10 [Dc b n X, Cl r1 [.int .i64 x, .int .i64 y, .int .u32 z] 28, R] := sat_sel [1, 0, 2] rfl h12
              have h60 : sat g w10 [Dc b n X, R] := sat_sel [0, 2] rfl h59
              refine hi_out [] (.int .i64 2) [] (by kernel_rfl) (by intro q hq; cases hq) ?_
              exact ⟨.int .i64 2, [Dc b n X], rfl, ⟨by rw [he_], rfl⟩, h60⟩
          ·
            refine plain_act (i := 1) (by kernel_rfl) ?_
            refine an_call (d := some 6) (f := 59) (args := [.agg #[.int .i64 x, .int .i64 y, .int .u32 z]]) (by kernel_rfl) Try.call59 (dcouter_no x y z (by omega) (by omega) (by omega)) (F := [Cl r1 [.int .i64 x, .int .i64 y, .int .u32 z] 28, Dc b n X, R]) h3 ?_
            rintro v K w61 (⟨rfl, rfl⟩) h62
            refine ⟨_, rfl, ?_⟩
            have h63 : sat g w61 [Cl r1 [.int .i64 x, .int .i64 y, .int .u32 z] 28, Dc b n X, R] := h62
            refine plain_batch (rest := []) [⟨2, [], none⟩, ⟨3, [], none⟩, ⟨4, [], none⟩, ⟨5, [], none⟩, ⟨6, [], none⟩, ⟨7, [], none⟩] (l' := ([(12, .bool true), (11, undef), (10, undef), (9, undef), (8, .bool true), (7, .bool true), (6, .int .i64 2), (5, .agg #[.int .i64 x, .int .i64 y, .int .u32 z]), (0, .pointer (some ⟨b, 0, none⟩)), (1, .agg #[.int .i64 x, .int .i64 y, .int .u32 z]), (3, .pointer (some ⟨r1, 0, none⟩)), (4, .int .i64 0)] : Fr) ++ lr4) (pts' := []) (eqs := []) (by kernel_rfl) trivial (AllC_nil _) ?_
            refine PO.mk ?_
            change WP _ _ (CA Try.f43 [1, 0, 1]) _ _ _
            refine fk_cut ([(0, .pointer (some ⟨b, 0, none⟩)), (1, .agg #[.int .i64 x, .int .i64 y, .int .u32 z]), (3, .pointer (some ⟨r1, 0, none⟩)), (4, .int .i64 0), (12, .bool true)] : Fr) (by kernel_rfl) (fun a => WP _ _ _ _ a _) (fun lr64 => ?_)
            refine gi_cnd (x := (Operand.tmp 12)) (s := CA Try.f43 [1, 0, 1, 0]) (t := CA Try.f43 [1, 0, 1, 1]) true (by kernel_rfl) (by kernel_rfl) ?_
            change WP _ _ (CA Try.f43 [1, 0, 1, 0]) _ _ _
            refine gi_seq (x := CA Try.f43 [1, 0, 1, 0, 0]) (y := CA Try.f43 [1, 0, 1, 0, 1]) (by kernel_rfl) ?_
            refine gi_pln (id := 2) (ops := RA Try.f43 [1, 0, 1, 0, 0]) [0] (by kernel_rfl) (by kernel_rfl) (by kernel_rfl) ?_
            refine plain_batch (rest := []) [⟨0, [], none⟩] (l' := ([(4, .int .i64 2), (0, .pointer (some ⟨b, 0, none⟩)), (1, .agg #[.int .i64 x, .int .i64 y, .int .u32 z]), (3, .pointer (some ⟨r1, 0, none⟩)), (4, .int .i64 0), (12, .bool true)] : Fr) ++ lr64) (pts' := []) (eqs := []) (by kernel_rfl) trivial (AllC_nil _) ?_
            refine PO.mk ?_
            change WP _ _ (CA Try.f43 [1, 0, 1, 0, 1]) _ _ _
            refine fk_cut ([(0, .pointer (some ⟨b, 0, none⟩)), (1, .agg #[.int .i64 x, .int .i64 y, .int .u32 z]), (3, .pointer (some ⟨r1, 0, none⟩)), (4, .int .i64 2), (12, .bool true)] : Fr) (by kernel_rfl) (fun a => WP _ _ _ _ a _) (fun lr65 => ?_)
            refine gi_rt (by kernel_rfl) ?_
            repeat (first | simp only [Exit.inBlock] | simp only [Exit.then])
            have he_ : errA (As X) (x, y, z) = 2 := chk_arg (As X) (by omega)
            have h66 : sat g w61 [Dc b n X, Cl r1 [.int .i64 x, .int .i64 y, .int .u32 z] 28, R] := sat_sel [1, 0, 2] rfl h63
            have h67 : sat g w61 [Dc b n X, R] := sat_sel [0, 2] rfl h66
            refine hi_out [] (.int .i64 2) [] (by kernel_rfl) (by intro q hq; cases hq) ?_
            exact ⟨.int .i64 2, [Dc b n X], rfl, ⟨by rw [he_], rfl⟩, h67⟩
        ·
          refine plain_act (i := 1) (by kernel_rfl) ?_
          refine an_call (d := some 6) (f := 59) (args := [.agg #[.int .i64 x, .int .i64 y, .int .u32 z]]) (by kernel_rfl) Try.call59 (dcouter_no x y z (by omega) (by omega) (by omega)) (F := [Cl r1 [.int .i64 x, .int .i64 y, .int .u32 z] 28, Dc b n X, R]) h3 ?_
          rintro v K w68 (⟨rfl, rfl⟩) h69
          refine ⟨_, rfl, ?_⟩
          have h70 : sat g w68 [Cl r1 [.int .i64 x, .int .i64 y, .int .u32 z] 28, Dc b n X, R] := h69
          refine plain_batch (rest := []) [⟨2, [], none⟩, ⟨3, [], none⟩, ⟨4, [], none⟩, ⟨5, [], none⟩, ⟨6, [], none⟩, ⟨7, [], none⟩] (l' := ([(12, .bool true), (11, undef), (10, undef), (9, undef), (8, .bool true), (7, .bool true), (6, .int .i64 2), (5, .agg #[.int .i64 x, .int .i64 y, .int .u32 z]), (0, .pointer (some ⟨b, 0, none⟩)), (1, .agg #[.int .i64 x, .int .i64 y, .int .u32 z]), (3, .pointer (some ⟨r1, 0, none⟩)), (4, .int .i64 0)] : Fr) ++ lr4) (pts' := []) (eqs := []) (by kernel_rfl) trivial (AllC_nil _) ?_
          refine PO.mk ?_
          change WP _ _ (CA Try.f43 [1, 0, 1]) _ _ _
          refine fk_cut ([(0, .pointer (some ⟨b, 0, none⟩)), (1, .agg #[.int .i64 x, .int .i64 y, .int .u32 z]), (3, .pointer (some ⟨r1, 0, none⟩)), (4, .int .i64 0), (12, .bool true)] : Fr) (by kernel_rfl) (fun a => WP _ _ _ _ a _) (fun lr71 => ?_)
          refine gi_cnd (x := (Operand.tmp 12)) (s := CA Try.f43 [1, 0, 1, 0]) (t := CA Try.f43 [1, 0, 1, 1]) true (by kernel_rfl) (by kernel_rfl) ?_
          change WP _ _ (CA Try.f43 [1, 0, 1, 0]) _ _ _
          refine gi_seq (x := CA Try.f43 [1, 0, 1, 0, 0]) (y := CA Try.f43 [1, 0, 1, 0, 1]) (by kernel_rfl) ?_
          refine gi_pln (id := 2) (ops := RA Try.f43 [1, 0, 1, 0, 0]) [0] (by kernel_rfl) (by kernel_rfl) (by kernel_rfl) ?_
          refine plain_batch (rest := []) [⟨0, [], none⟩] (l' := ([(4, .int .i64 2), (0, .pointer (some ⟨b, 0, none⟩)), (1, .agg #[.int .i64 x, .int .i64 y, .int .u32 z]), (3, .pointer (some ⟨r1, 0, none⟩)), (4, .int .i64 0), (12, .bool true)] : Fr) ++ lr71) (pts' := []) (eqs := []) (by kernel_rfl) trivial (AllC_nil _) ?_
          refine PO.mk ?_
          change WP _ _ (CA Try.f43 [1, 0, 1, 0, 1]) _ _ _
          refine fk_cut ([(0, .pointer (some ⟨b, 0, none⟩)), (1, .agg #[.int .i64 x, .int .i64 y, .int .u32 z]), (3, .pointer (some ⟨r1, 0, none⟩)), (4, .int .i64 2), (12, .bool true)] : Fr) (by kernel_rfl) (fun a => WP _ _ _ _ a _) (fun lr72 => ?_)
          refine gi_rt (by kernel_rfl) ?_
          repeat (first | simp only [Exit.inBlock] | simp only [Exit.then])
          have he_ : errA (As X) (x, y, z) = 2 := chk_arg (As X) (by omega)
          have h73 : sat g w68 [Dc b n X, Cl r1 [.int .i64 x, .int .i64 y, .int .u32 z] 28, R] := sat_sel [1, 0, 2] rfl h70
          have h74 : sat g w68 [Dc b n X, R] := sat_sel [0, 2] rfl h73
          refine hi_out [] (.int .i64 2) [] (by kernel_rfl) (by intro q hq; cases hq) ?_
          exact ⟨.int .i64 2, [Dc b n X], rfl, ⟨by rw [he_], rfl⟩, h74⟩
      ·
        refine plain_act (i := 1) (by kernel_rfl) ?_
        refine an_call (d := some 6) (f := 59) (args := [.agg #[.int .i64 x, .int .i64 y, .int .u32 z]]) (by kernel_rfl) Try.call59 (dcouter_no x y z (by omega) (by omega) (by omega)) (F := [Cl r1 [.int .i64 x, .int .i64 y, .int .u32 z] 28, Dc b n X, R]) h3 ?_
        rintro v K w75 (⟨rfl, rfl⟩) h76
        refine ⟨_, rfl, ?_⟩
        have h77 : sat g w75 [Cl r1 [.int .i64 x, .int .i64 y, .int .u32 z] 28, Dc b n X, R] := h76
        refine plain_batch (rest := []) [⟨2, [], none⟩, ⟨3, [], none⟩, ⟨4, [], none⟩, ⟨5, [], none⟩, ⟨6, [], none⟩, ⟨7, [], none⟩] (l' := ([(12, .bool true), (11, undef), (10, undef), (9, undef), (8, .bool true), (7, .bool true), (6, .int .i64 2), (5, .agg #[.int .i64 x, .int .i64 y, .int .u32 z]), (0, .pointer (some ⟨b, 0, none⟩)), (1, .agg #[.int .i64 x, .int .i64 y, .int .u32 z]), (3, .pointer (some ⟨r1, 0, none⟩)), (4, .int .i64 0)] : Fr) ++ lr4) (pts' := []) (eqs := []) (by kernel_rfl) trivial (AllC_nil _) ?_
        refine PO.mk ?_
        change WP _ _ (CA Try.f43 [1, 0, 1]) _ _ _
        refine fk_cut ([(0, .pointer (some ⟨b, 0, none⟩)), (1, .agg #[.int .i64 x, .int .i64 y, .int .u32 z]), (3, .pointer (some ⟨r1, 0, none⟩)), (4, .int .i64 0), (12, .bool true)] : Fr) (by kernel_rfl) (fun a => WP _ _ _ _ a _) (fun lr78 => ?_)
        refine gi_cnd (x := (Operand.tmp 12)) (s := CA Try.f43 [1, 0, 1, 0]) (t := CA Try.f43 [1, 0, 1, 1]) true (by kernel_rfl) (by kernel_rfl) ?_
        change WP _ _ (CA Try.f43 [1, 0, 1, 0]) _ _ _
        refine gi_seq (x := CA Try.f43 [1, 0, 1, 0, 0]) (y := CA Try.f43 [1, 0, 1, 0, 1]) (by kernel_rfl) ?_
        refine gi_pln (id := 2) (ops := RA Try.f43 [1, 0, 1, 0, 0]) [0] (by kernel_rfl) (by kernel_rfl) (by kernel_rfl) ?_
        refine plain_batch (rest := []) [⟨0, [], none⟩] (l' := ([(4, .int .i64 2), (0, .pointer (some ⟨b, 0, none⟩)), (1, .agg #[.int .i64 x, .int .i64 y, .int .u32 z]), (3, .pointer (some ⟨r1, 0, none⟩)), (4, .int .i64 0), (12, .bool true)] : Fr) ++ lr78) (pts' := []) (eqs := []) (by kernel_rfl) trivial (AllC_nil _) ?_
        refine PO.mk ?_
        change WP _ _ (CA Try.f43 [1, 0, 1, 0, 1]) _ _ _
        refine fk_cut ([(0, .pointer (some ⟨b, 0, none⟩)), (1, .agg #[.int .i64 x, .int .i64 y, .int .u32 z]), (3, .pointer (some ⟨r1, 0, none⟩)), (4, .int .i64 2), (12, .bool true)] : Fr) (by kernel_rfl) (fun a => WP _ _ _ _ a _) (fun lr79 => ?_)
        refine gi_rt (by kernel_rfl) ?_
        repeat (first | simp only [Exit.inBlock] | simp only [Exit.then])
        have he_ : errA (As X) (x, y, z) = 2 := chk_arg (As X) (by omega)
        have h80 : sat g w75 [Dc b n X, Cl r1 [.int .i64 x, .int .i64 y, .int .u32 z] 28, R] := sat_sel [1, 0, 2] rfl h77
        have h81 : sat g w75 [Dc b n X, R] := sat_sel [0, 2] rfl h80
        refine hi_out [] (.int .i64 2) [] (by kernel_rfl) (by intro q hq; cases hq) ?_
        exact ⟨.int .i64 2, [Dc b n X], rfl, ⟨by rw [he_], rfl⟩, h81⟩
    ·
      refine plain_act (i := 1) (by kernel_rfl) ?_
      refine an_call (d := some 6) (f := 59) (args := [.agg #[.int .i64 x, .int .i64 y, .int .u32 z]]) (by kernel_rfl) Try.call59 (dcouter_no x y z (by omega) (by omega) (by omega)) (F := [Cl r1 [.int .i64 x, .int .i64 y, .int .u32 z] 28, Dc b n X, R]) h3 ?_
      rintro v K w82 (⟨rfl, rfl⟩) h83
      refine ⟨_, rfl, ?_⟩
      have h84 : sat g w82 [Cl r1 [.int .i64 x, .int .i64 y, .int .u32 z] 28, Dc b n X, R] := h83
      refine plain_batch (rest := []) [⟨2, [], none⟩, ⟨3, [], none⟩, ⟨4, [], none⟩, ⟨5, [], none⟩, ⟨6, [], none⟩, ⟨7, [], none⟩] (l' := ([(12, .bool true), (11, undef), (10, undef), (9, undef), (8, .bool true), (7, .bool true), (6, .int .i64 2), (5, .agg #[.int .i64 x, .int .i64 y, .int .u32 z]), (0, .pointer (some ⟨b, 0, none⟩)), (1, .agg #[.int .i64 x, .int .i64 y, .int .u32 z]), (3, .pointer (some ⟨r1, 0, none⟩)), (4, .int .i64 0)] : Fr) ++ lr4) (pts' := []) (eqs := []) (by kernel_rfl) trivial (AllC_nil _) ?_
      refine PO.mk ?_
      change WP _ _ (CA Try.f43 [1, 0, 1]) _ _ _
      refine fk_cut ([(0, .pointer (some ⟨b, 0, none⟩)), (1, .agg #[.int .i64 x, .int .i64 y, .int .u32 z]), (3, .pointer (some ⟨r1, 0, none⟩)), (4, .int .i64 0), (12, .bool true)] : Fr) (by kernel_rfl) (fun a => WP _ _ _ _ a _) (fun lr85 => ?_)
      refine gi_cnd (x := (Operand.tmp 12)) (s := CA Try.f43 [1, 0, 1, 0]) (t := CA Try.f43 [1, 0, 1, 1]) true (by kernel_rfl) (by kernel_rfl) ?_
      change WP _ _ (CA Try.f43 [1, 0, 1, 0]) _ _ _
      refine gi_seq (x := CA Try.f43 [1, 0, 1, 0, 0]) (y := CA Try.f43 [1, 0, 1, 0, 1]) (by kernel_rfl) ?_
      refine gi_pln (id := 2) (ops := RA Try.f43 [1, 0, 1, 0, 0]) [0] (by kernel_rfl) (by kernel_rfl) (by kernel_rfl) ?_
      refine plain_batch (rest := []) [⟨0, [], none⟩] (l' := ([(4, .int .i64 2), (0, .pointer (some ⟨b, 0, none⟩)), (1, .agg #[.int .i64 x, .int .i64 y, .int .u32 z]), (3, .pointer (some ⟨r1, 0, none⟩)), (4, .int .i64 0), (12, .bool true)] : Fr) ++ lr85) (pts' := []) (eqs := []) (by kernel_rfl) trivial (AllC_nil _) ?_
      refine PO.mk ?_
      change WP _ _ (CA Try.f43 [1, 0, 1, 0, 1]) _ _ _
      refine fk_cut ([(0, .pointer (some ⟨b, 0, none⟩)), (1, .agg #[.int .i64 x, .int .i64 y, .int .u32 z]), (3, .pointer (some ⟨r1, 0, none⟩)), (4, .int .i64 2), (12, .bool true)] : Fr) (by kernel_rfl) (fun a => WP _ _ _ _ a _) (fun lr86 => ?_)
      refine gi_rt (by kernel_rfl) ?_
      repeat (first | simp only [Exit.inBlock] | simp only [Exit.then])
      have he_ : errA (As X) (x, y, z) = 2 := chk_arg (As X) (by omega)
      have h87 : sat g w82 [Dc b n X, Cl r1 [.int .i64 x, .int .i64 y, .int .u32 z] 28, R] := sat_sel [1, 0, 2] rfl h84
      have h88 : sat g w82 [Dc b n X, R] := sat_sel [0, 2] rfl h87
      refine hi_out [] (.int .i64 2) [] (by kernel_rfl) (by intro q hq; cases hq) ?_
      exact ⟨.int .i64 2, [Dc b n X], rfl, ⟨by rw [he_], rfl⟩, h88⟩
  ·
    refine plain_act (i := 1) (by kernel_rfl) ?_
    refine an_call (d := some 6) (f := 59) (args := [.agg #[.int .i64 x, .int .i64 y, .int .u32 z]]) (by kernel_rfl) Try.call59 (dcouter_no x y z (by omega) (by omega) (by omega)) (F := [Cl r1 [.int .i64 x, .int .i64 y, .int .u32 z] 28, Dc b n X, R]) h3 ?_
    rintro v K w89 (⟨rfl, rfl⟩) h90
    refine ⟨_, rfl, ?_⟩
    have h91 : sat g w89 [Cl r1 [.int .i64 x, .int .i64 y, .int .u32 z] 28, Dc b n X, R] := h90
    refine plain_batch (rest := []) [⟨2, [], none⟩, ⟨3, [], none⟩, ⟨4, [], none⟩, ⟨5, [], none⟩, ⟨6, [], none⟩, ⟨7, [], none⟩] (l' := ([(12, .bool true), (11, undef), (10, undef), (9, undef), (8, .bool true), (7, .bool true), (6, .int .i64 2), (5, .agg #[.int .i64 x, .int .i64 y, .int .u32 z]), (0, .pointer (some ⟨b, 0, none⟩)), (1, .agg #[.int .i64 x, .int .i64 y, .int .u32 z]), (3, .pointer (some ⟨r1, 0, none⟩)), (4, .int .i64 0)] : Fr) ++ lr4) (pts' := []) (eqs := []) (by kernel_rfl) trivial (AllC_nil _) ?_
    refine PO.mk ?_
    change WP _ _ (CA Try.f43 [1, 0, 1]) _ _ _
    refine fk_cut ([(0, .pointer (some ⟨b, 0, none⟩)), (1, .agg #[.int .i64 x, .int .i64 y, .int .u32 z]), (3, .pointer (some ⟨r1, 0, none⟩)), (4, .int .i64 0), (12, .bool true)] : Fr) (by kernel_rfl) (fun a => WP _ _ _ _ a _) (fun lr92 => ?_)
    refine gi_cnd (x := (Operand.tmp 12)) (s := CA Try.f43 [1, 0, 1, 0]) (t := CA Try.f43 [1, 0, 1, 1]) true (by kernel_rfl) (by kernel_rfl) ?_
    change WP _ _ (CA Try.f43 [1, 0, 1, 0]) _ _ _
    refine gi_seq (x := CA Try.f43 [1, 0, 1, 0, 0]) (y := CA Try.f43 [1, 0, 1, 0, 1]) (by kernel_rfl) ?_
    refine gi_pln (id := 2) (ops := RA Try.f43 [1, 0, 1, 0, 0]) [0] (by kernel_rfl) (by kernel_rfl) (by kernel_rfl) ?_
    refine plain_batch (rest := []) [⟨0, [], none⟩] (l' := ([(4, .int .i64 2), (0, .pointer (some ⟨b, 0, none⟩)), (1, .agg #[.int .i64 x, .int .i64 y, .int .u32 z]), (3, .pointer (some ⟨r1, 0, none⟩)), (4, .int .i64 0), (12, .bool true)] : Fr) ++ lr92) (pts' := []) (eqs := []) (by kernel_rfl) trivial (AllC_nil _) ?_
    refine PO.mk ?_
    change WP _ _ (CA Try.f43 [1, 0, 1, 0, 1]) _ _ _
    refine fk_cut ([(0, .pointer (some ⟨b, 0, none⟩)), (1, .agg #[.int .i64 x, .int .i64 y, .int .u32 z]), (3, .pointer (some ⟨r1, 0, none⟩)), (4, .int .i64 2), (12, .bool true)] : Fr) (by kernel_rfl) (fun a => WP _ _ _ _ a _) (fun lr93 => ?_)
    refine gi_rt (by kernel_rfl) ?_
    repeat (first | simp only [Exit.inBlock] | simp only [Exit.then])
    have he_ : errA (As X) (x, y, z) = 2 := chk_arg (As X) (by omega)
    have h94 : sat g w89 [Dc b n X, Cl r1 [.int .i64 x, .int .i64 y, .int .u32 z] 28, R] := sat_sel [1, 0, 2] rfl h91
    have h95 : sat g w89 [Dc b n X, R] := sat_sel [0, 2] rfl h94
    refine hi_out [] (.int .i64 2) [] (by kernel_rfl) (by intro q hq; cases hq) ?_
    exact ⟨.int .i64 2, [Dc b n X], rfl, ⟨by rw [he_], rfl⟩, h95⟩

set_option maxHeartbeats 4000000 in
theorem dclose_ht (b n : Nat) (X : Xs) (x y z : Int) (hz0 : 0 ≤ z) (hz1 : z ≤ 4294967295) : HT Try.prog 23 [Value.pointer (some ⟨b, 0, none⟩), Value.agg #[Value.int IntKind.i64 x, Value.int IntKind.i64 y, Value.int IntKind.u32 z]] [Dc b n X] (fun v K => v = Value.int .i64 (errA (As X) (x, y, z)) ∧ K = [Dc b n (clsX X (x, y, z))]) := by
  refine hi_in 34 ([(0, .pointer (some ⟨b, 0, none⟩)), (1, .agg #[.int .i64 x, .int .i64 y, .int .u32 z])] : Fr) Try.func23 (by kernel_rfl) Try.ntmps23 rfl rfl ?_
  intro g w0 R h0
  refine gi_seq (x := CA Try.f23 [0]) (y := CA Try.f23 [1]) (by kernel_rfl) ?_
  refine gi_pln (id := 0) (ops := RA Try.f23 [0]) [0, 1] (by kernel_rfl) (by kernel_rfl) (by kernel_rfl) ?_
  refine plain_act (i := 0) (by kernel_rfl) ?_
  refine an_new (d := 3) (fun xb_ => .pointer (some ⟨xb_, 0, none⟩)) (fun xb_ => Obj.cells [.int .i64 x, .int .i64 y, .int .u32 z].toArray 28 (0, 0)) (fun xb_ => by kernel_rfl) (by kernel_rfl) rfl h0 ?_
  intro r1 w2 (h3 : sat g w2 [Cl r1 [.int .i64 x, .int .i64 y, .int .u32 z] 28, Dc b n X, R])
  refine plain_batch (rest := []) [⟨1, [], none⟩] (l' := ([(4, .int .i64 0), (3, .pointer (some ⟨r1, 0, none⟩)), (0, .pointer (some ⟨b, 0, none⟩)), (1, .agg #[.int .i64 x, .int .i64 y, .int .u32 z])] : Fr)) (pts' := []) (eqs := []) (by kernel_rfl) trivial (AllC_nil _) ?_
  refine PO.mk ?_
  change WP _ _ (CA Try.f23 [1]) _ _ _
  refine fk_cut ([(0, .pointer (some ⟨b, 0, none⟩)), (1, .agg #[.int .i64 x, .int .i64 y, .int .u32 z]), (3, .pointer (some ⟨r1, 0, none⟩)), (4, .int .i64 0)] : Fr) (by kernel_rfl) (fun a => WP _ _ _ _ a _) (fun lr4 => ?_)
  refine gi_seq (x := CA Try.f23 [1, 0]) (y := CA Try.f23 [1, 1]) (by kernel_rfl) ?_
  refine gi_pln (id := 1) (ops := RA Try.f23 [1, 0]) [0, 1, 2, 3] (by kernel_rfl) (by kernel_rfl) (by kernel_rfl) ?_
  refine plain_batch (rest := [2, 3]) [⟨0, [], none⟩, ⟨1, [.int .i64 x, .int .i64 y, .int .u32 z], none⟩] (l' := ([(8, .agg #[.int .i64 x, .int .i64 y, .int .u32 z]), (7, .pointer (some ⟨b, 0, none⟩)), (0, .pointer (some ⟨b, 0, none⟩)), (1, .agg #[.int .i64 x, .int .i64 y, .int .u32 z]), (3, .pointer (some ⟨r1, 0, none⟩)), (4, .int .i64 0)] : Fr) ++ lr4) (pts' := [(1, ⟨r1, 0, none⟩, .int .i64 x), (1, ⟨r1, 1, none⟩, .int .i64 y), (1, ⟨r1, 2, none⟩, .int .u32 z)]) (eqs := []) (by kernel_rfl) trivial (AllC_cons (sat_cell h3 0 rfl rfl) (AllC_cons (sat_cell h3 0 rfl rfl) (AllC_cons (sat_cell h3 0 rfl rfl) (AllC_nil _)))) ?_
  have hbd_ := chk_bd (As X) (x, y, z)
  have h5 : sat g w2 [Dc b n X, Cl r1 [.int .i64 x, .int .i64 y, .int .u32 z] 28, R] := sat_sel [1, 0, 2] rfl h3
  refine plain_act (i := 2) (by kernel_rfl) ?_
  refine an_call (d := some 9) (f := 43) (args := [.pointer (some ⟨b, 0, none⟩), .agg #[.int .i64 x, .int .i64 y, .int .u32 z]]) (by kernel_rfl) Try.call43 (dchk_ht b n X x y z (by omega) (by omega)) (F := [Cl r1 [.int .i64 x, .int .i64 y, .int .u32 z] 28, R]) h5 ?_
  rintro v K w6 (⟨rfl, rfl⟩) h7
  refine ⟨_, rfl, ?_⟩
  have h8 : sat g w6 [Dc b n X, Cl r1 [.int .i64 x, .int .i64 y, .int .u32 z] 28, R] := h7
  refine plain_batch (rest := []) [⟨3, [], none⟩] (l' := ([(5, .int .i64 ((errA (As X) (x, y, z)))), (9, .int .i64 ((errA (As X) (x, y, z)))), (8, .agg #[.int .i64 x, .int .i64 y, .int .u32 z]), (7, .pointer (some ⟨b, 0, none⟩)), (0, .pointer (some ⟨b, 0, none⟩)), (1, .agg #[.int .i64 x, .int .i64 y, .int .u32 z]), (3, .pointer (some ⟨r1, 0, none⟩)), (4, .int .i64 0)] : Fr) ++ lr4) (pts' := []) (eqs := []) (by kernel_rfl) trivial (AllC_nil _) ?_
  refine PO.mk ?_
  change WP _ _ (CA Try.f23 [1, 1]) _ _ _
  refine fk_cut ([(0, .pointer (some ⟨b, 0, none⟩)), (1, .agg #[.int .i64 x, .int .i64 y, .int .u32 z]), (3, .pointer (some ⟨r1, 0, none⟩)), (4, .int .i64 0), (5, .int .i64 ((errA (As X) (x, y, z))))] : Fr) (by kernel_rfl) (fun a => WP _ _ _ _ a _) (fun lr9 => ?_)
  refine gi_seq (x := CA Try.f23 [1, 1, 0]) (y := CA Try.f23 [1, 1, 1]) (by kernel_rfl) ?_
  refine gi_seq (x := CA Try.f23 [1, 1, 0, 0]) (y := CA Try.f23 [1, 1, 0, 1]) (by kernel_rfl) ?_
  refine gi_pln (id := 2) (ops := RA Try.f23 [1, 1, 0, 0]) [0, 1] (by kernel_rfl) (by kernel_rfl) (by kernel_rfl) ?_
  refine plain_batch (rest := [1]) [⟨0, [], none⟩] (l' := ([(10, .int .i64 ((errA (As X) (x, y, z)))), (0, .pointer (some ⟨b, 0, none⟩)), (1, .agg #[.int .i64 x, .int .i64 y, .int .u32 z]), (3, .pointer (some ⟨r1, 0, none⟩)), (4, .int .i64 0), (5, .int .i64 ((errA (As X) (x, y, z))))] : Fr) ++ lr9) (pts' := []) (eqs := []) (by kernel_rfl) trivial (AllC_nil _) ?_
  by_cases c10 : (errA (As X) (x, y, z)) = 0
  ·
    refine plain_batch (rest := []) [⟨1, [], some (.bool false)⟩] (l' := ([(11, .bool false), (10, .int .i64 ((errA (As X) (x, y, z)))), (0, .pointer (some ⟨b, 0, none⟩)), (1, .agg #[.int .i64 x, .int .i64 y, .int .u32 z]), (3, .pointer (some ⟨r1, 0, none⟩)), (4, .int .i64 0), (5, .int .i64 ((errA (As X) (x, y, z))))] : Fr) ++ lr9) (pts' := []) (eqs := [(.bool (((errA (As X) (x, y, z))) != 0), .bool false)]) (by kernel_rfl) ⟨(ov_nf (by omega)), trivial⟩ (AllC_nil _) ?_
    refine PO.mk ?_
    change WP _ _ (CA Try.f23 [1, 1, 0, 1]) _ _ _
    refine fk_cut ([(0, .pointer (some ⟨b, 0, none⟩)), (1, .agg #[.int .i64 x, .int .i64 y, .int .u32 z]), (3, .pointer (some ⟨r1, 0, none⟩)), (4, .int .i64 0), (5, .int .i64 ((errA (As X) (x, y, z)))), (11, .bool false)] : Fr) (by kernel_rfl) (fun a => WP _ _ _ _ a _) (fun lr11 => ?_)
    refine gi_cnd (x := (Operand.tmp 11)) (s := CA Try.f23 [1, 1, 0, 1, 0]) (t := CA Try.f23 [1, 1, 0, 1, 1]) false (by kernel_rfl) (by kernel_rfl) ?_
    change WP _ _ (CA Try.f23 [1, 1, 0, 1, 1]) _ _ _
    refine gi_skp (by kernel_rfl) ?_
    change WP _ _ (CA Try.f23 [1, 1, 1]) _ _ _
    refine gi_seq (x := CA Try.f23 [1, 1, 1, 0]) (y := CA Try.f23 [1, 1, 1, 1]) (by kernel_rfl) ?_
    refine gi_pln (id := 4) (ops := RA Try.f23 [1, 1, 1, 0]) [0, 1, 2, 3, 4, 5, 6, 7] (by kernel_rfl) (by kernel_rfl) (by kernel_rfl) ?_
    refine plain_batch (rest := [2, 3, 4, 5, 6, 7]) [⟨0, [], none⟩, ⟨1, [.int .u32 z], none⟩] (l' := ([(14, .int .u32 z), (13, .pointer (some ⟨r1, 2, none⟩)), (0, .pointer (some ⟨b, 0, none⟩)), (1, .agg #[.int .i64 x, .int .i64 y, .int .u32 z]), (3, .pointer (some ⟨r1, 0, none⟩)), (4, .int .i64 0), (5, .int .i64 ((errA (As X) (x, y, z)))), (11, .bool false)] : Fr) ++ lr11) (pts' := [(1, ⟨r1, 2, none⟩, .int .u32 z)]) (eqs := []) (by kernel_rfl) trivial (AllC_cons (sat_cell h8 1 rfl rfl) (AllC_nil _)) ?_
    by_cases c12 : z = 4294967295
    ·
      refine plain_batch (rest := [6, 7]) [⟨2, [], some (.bool true)⟩, ⟨3, [], none⟩, ⟨4, [.int .u32 z], none⟩, ⟨5, [], none⟩] (l' := ([(18, .agg #[.bool false, .bool true, .int .u32 z, .int .i64 0]), (17, .int .u32 z), (16, .pointer (some ⟨r1, 2, none⟩)), (15, .bool true), (14, .int .u32 z), (13, .pointer (some ⟨r1, 2, none⟩)), (0, .pointer (some ⟨b, 0, none⟩)), (1, .agg #[.int .i64 x, .int .i64 y, .int .u32 z]), (3, .pointer (some ⟨r1, 0, none⟩)), (4, .int .i64 0), (5, .int .i64 ((errA (As X) (x, y, z)))), (11, .bool false)] : Fr) ++ lr11) (pts' := [(4, ⟨r1, 2, none⟩, .int .u32 z)]) (eqs := [(.bool (z == 4294967295), .bool true)]) (by kernel_rfl) ⟨(ov_et (by omega)), trivial⟩ (AllC_cons (sat_cell h8 1 rfl rfl) (AllC_nil _)) ?_
      refine plain_act (i := 6) (by kernel_rfl) ?_
      refine an_new (d := 6) (fun xb_ => .pointer (some ⟨xb_, 0, none⟩)) (fun xb_ => Obj.cells [.bool false, .bool false, .int .u32 0, .int .i64 0].toArray 94 (0, 0)) (fun xb_ => by kernel_rfl) (by kernel_rfl) rfl h8 ?_
      intro r13 w14 (h15 : sat g w14 [Cl r13 [.bool false, .bool false, .int .u32 0, .int .i64 0] 94, Dc b n X, Cl r1 [.int .i64 x, .int .i64 y, .int .u32 z] 28, R])
      refine plain_act (i := 7) (by kernel_rfl) ?_
      refine an_store [(0, .bool false), (1, .bool true), (2, .int .u32 z), (3, .int .i64 0)] (cs' := [.bool false, .bool true, .int .u32 z, .int .i64 0]) (by kernel_rfl) (by kernel_rfl) (allq ⟨⟨by simp, rfl⟩, ⟨by simp, rfl⟩, ⟨by simp, rfl⟩, ⟨by simp, rfl⟩, trivial⟩) rfl h15 ?_
      intro w16 (h17 : sat g w16 [Cl r13 [.bool false, .bool true, .int .u32 z, .int .i64 0] 94, Dc b n X, Cl r1 [.int .i64 x, .int .i64 y, .int .u32 z] 28, R])
      refine PO.mk ?_
      change WP _ _ (CA Try.f23 [1, 1, 1, 1]) _ _ _
      refine fk_cut ([(0, .pointer (some ⟨b, 0, none⟩)), (1, .agg #[.int .i64 x, .int .i64 y, .int .u32 z]), (3, .pointer (some ⟨r1, 0, none⟩)), (4, .int .i64 0), (5, .int .i64 ((errA (As X) (x, y, z)))), (6, .pointer (some ⟨r13, 0, none⟩)), (11, .bool false)] : Fr) (by kernel_rfl) (fun a => WP _ _ _ _ a _) (fun lr18 => ?_)
      refine gi_seq (x := CA Try.f23 [1, 1, 1, 1, 0]) (y := CA Try.f23 [1, 1, 1, 1, 1]) (by kernel_rfl) ?_
      refine gi_seq (x := CA Try.f23 [1, 1, 1, 1, 0, 0]) (y := CA Try.f23 [1, 1, 1, 1, 0, 1]) (by kernel_rfl) ?_
      refine gi_pln (id := 5) (ops := RA Try.f23 [1, 1, 1, 1, 0, 0]) [0, 1, 2] (by kernel_rfl) (by kernel_rfl) (by kernel_rfl) ?_
      refine plain_batch (rest := []) [⟨0, [], none⟩, ⟨1, [.bool true], none⟩, ⟨2, [], none⟩] (l' := ([(21, .bool false), (20, .bool true), (19, .pointer (some ⟨r13, 1, none⟩)), (0, .pointer (some ⟨b, 0, none⟩)), (1, .agg #[.int .i64 x, .int .i64 y, .int .u32 z]), (3, .pointer (some ⟨r1, 0, none⟩)), (4, .int .i64 0), (5, .int .i64 ((errA (As X) (x, y, z)))), (6, .pointer (some ⟨r13, 0, none⟩)), (11, .bool false)] : Fr) ++ lr18) (pts' := [(1, ⟨r13, 1, none⟩, .bool true)]) (eqs := []) (by kernel_rfl) trivial (AllC_cons (sat_cell h17 0 rfl rfl) (AllC_nil _)) ?_
      refine PO.mk ?_
      change WP _ _ (CA Try.f23 [1, 1, 1, 1, 0, 1]) _ _ _
      refine fk_cut ([(0, .pointer (some ⟨b, 0, none⟩)), (1, .agg #[.int .i64 x, .int .i64 y, .int .u32 z]), (3, .pointer (some ⟨r1, 0, none⟩)), (4, .int .i64 0), (5, .int .i64 ((errA (As X) (x, y, z)))), (6, .pointer (some ⟨r13, 0, none⟩)), (11, .bool false), (21, .bool false)] : Fr) (by kernel_rfl) (fun a => WP _ _ _ _ a _) (fun lr19 => ?_)
      refine gi_cnd (x := (Operand.tmp 21)) (s := CA Try.f23 [1, 1, 1, 1, 0, 1, 0]) (t := CA Try.f23 [1, 1, 1, 1, 0, 1, 1]) false (by kernel_rfl) (by kernel_rfl) ?_
      change WP _ _ (CA Try.f23 [1, 1, 1, 1, 0, 1, 1]) _ _ _
      refine gi_skp (by kernel_rfl) ?_
      change WP _ _ (CA Try.f23 [1, 1, 1, 1, 1]) _ _ _
      refine gi_seq (x := CA Try.f23 [1, 1, 1, 1, 1, 0]) (y := CA Try.f23 [1, 1, 1, 1, 1, 1]) (by kernel_rfl) ?_
      refine gi_drw (id := 7) (ops := RA Try.f23 [1, 1, 1, 1, 1, 0]) (Tr.fl 0 (Tr.fl 1 (Tr.fl 2 (Tr.fl 3 (Tr.fl 4 (Tr.fl 5 (Tr.fl 6 (Tr.fl 7 (Tr.an 8 Tr.nil))))))))) (by kernel_rfl) (by kernel_rfl) (by kernel_rfl) (by kernel_rfl) (by kernel_rfl) (fun _ _ d _ _ h => by cases d <;> exact h) h17 ?_
      intro w20 h21
      have h22 : sat g w20 [Dc b n X, Cl r13 [.bool false, .bool true, .int .u32 z, .int .i64 0] 94, Cl r1 [.int .i64 x, .int .i64 y, .int .u32 z] 28, R] := sat_sel [1, 0, 2, 3] rfl h21
      obtain ⟨p23, c24, hD25, h26⟩ := dc_open h22
      have hXl_ := hD25.1; have hn1_ := hD25.2.1; have hn64_ := hD25.2.2.1; have hok_ := hD25.2.2.2; have hal_ := as_len X
      have hz27 := chk_zero (o := (x, y, z)) (show errA _ _ = 0 from by omega)
      have hz28 : x = 1 ∧ 0 ≤ y ∧ y.toNat < (As X).length ∧ 1 ≤ z := ⟨hz27.2.1, hz27.1.2.2.1, hz27.2.2.1, hz27.1.2.2.2.2⟩
      obtain ⟨b29, hp30⟩ := sl_ptr0 (j := 1) h26 rfl (by omega)
      obtain ⟨kk31, hk32⟩ : ∃ z_ : Nat, y = (z_ : Int) := ⟨(y).toNat, by omega⟩
      refine draw_batch (t := (Tr.fl 7 (Tr.an 8 Tr.nil))) [⟨0, [], none⟩, ⟨1, [], none⟩, ⟨2, [], none⟩, ⟨3, [.slice p23 n c24], none⟩, ⟨4, [], none⟩, ⟨5, [.int .i64 y], none⟩, ⟨6, [.bool false, .bool true, .int .u32 z, .int .i64 0], none⟩] (l' := ([(32, .agg #[.bool false, .bool true, .int .u32 z, .int .i64 0]), (31, .int .i64 y), (30, .pointer (some ⟨r1, 1, none⟩)), (29, .slice p23 n c24), (28, .pointer (some ⟨b, 0, none⟩)), (27, .pointer (some ⟨b, 0, none⟩)), (26, .pointer (some ⟨b, 0, none⟩)), (0, .pointer (some ⟨b, 0, none⟩)), (1, .agg #[.int .i64 x, .int .i64 y, .int .u32 z]), (3, .pointer (some ⟨r1, 0, none⟩)), (4, .int .i64 0), (5, .int .i64 ((errA (As X) (x, y, z)))), (6, .pointer (some ⟨r13, 0, none⟩)), (11, .bool false), (21, .bool false)] : Fr) ++ lr19) (pts' := [(6, ⟨r13, 0, none⟩, .bool false), (6, ⟨r13, 1, none⟩, .bool true), (6, ⟨r13, 2, none⟩, .int .u32 z), (6, ⟨r13, 3, none⟩, .int .i64 0), (5, ⟨r1, 1, none⟩, .int .i64 y), (3, ⟨b, 0, none⟩, .slice p23 n c24)]) (eqs := []) (by kernel_rfl) trivial (AllC_cons (sat_cell h26 2 rfl rfl) (AllC_cons (sat_cell h26 2 rfl rfl) (AllC_cons (sat_cell h26 2 rfl rfl) (AllC_cons (sat_cell h26 2 rfl rfl) (AllC_cons (sat_cell h26 3 rfl rfl) (AllC_cons (sat_cell h26 0 rfl rfl) (AllC_nil _))))))) ?_
      refine draw_law (i := 7) 33 (.pointer (some ⟨b29, kk31 * 4, none⟩)) [] (by kernel_rfl) (fun _ _ => law_indexSlP (o := opA (RA Try.f23 [1, 1, 1, 1, 1, 0]) 7) (x := (Operand.tmp 29)) (i := (Operand.tmp 31)) (p := p23) (b := b29) (off := 0) (z := y) (len := n) (cap := c24) (by kernel_rfl) Try.underlying90 4 (by kernel_rfl) kk31 (by kernel_rfl) hp30 (by kernel_rfl) (by omega) (by omega) (kk31 * 4) (by omega) _) (by intro q hq; cases hq) ?_
      have h33 : sat g w20 [Sl 94 4 p23 n c24 (fl eId X), Cl b [.slice p23 n c24] 92, Cl r13 [.bool false, .bool true, .int .u32 z, .int .i64 0] 94, Cl r1 [.int .i64 x, .int .i64 y, .int .u32 z] 28, R] := sat_sel [1, 0, 2, 3, 4] rfl h26
      refine draw_act (i := 8) [] (by kernel_rfl) (by kernel_rfl) ?_
      have hl36 := fl_n eId_ok (by decide) h33
      obtain ⟨x37, hx38⟩ : ∃ x, X[kk31]? = some x := ⟨_, List.getElem?_eq_getElem (by rw [hl36]; omega)⟩
      have hb39 := slOk_as hok_ hx38
      refine an_storeSl (b := b29) [(kk31 * 4, .bool false), (kk31 * 4 + 1, .bool true), (kk31 * 4 + 2, .int .u32 z), (kk31 * 4 + 3, .int .i64 0)] (cs' := (fl eId (X.set kk31 (shut z)))) (by kernel_rfl) (by kernel_rfl) hp30 (allq ⟨⟨by omega, rfl⟩, ⟨by omega, rfl⟩, ⟨by omega, rfl⟩, ⟨by omega, rfl⟩, trivial⟩) (by omega) (fl_upd eId_ok (i := kk31) (x := x37) (y := (shut z)) hx38 [(0, .bool false), (1, .bool true), (2, .int .u32 z), (3, .int .i64 0)] rfl (by rw [shut_ge (by omega)]; rfl) rfl) h33 ?_
      intro w34 (h35 : sat g w34 [Sl 94 4 p23 n c24 (fl eId (X.set kk31 (shut z))), Cl b [.slice p23 n c24] 92, Cl r13 [.bool false, .bool true, .int .u32 z, .int .i64 0] 94, Cl r1 [.int .i64 x, .int .i64 y, .int .u32 z] 28, R])
      refine ⟨(AllC_nil _), ?_⟩
      change WP _ _ (CA Try.f23 [1, 1, 1, 1, 1, 1]) _ _ _
      refine fk_cut ([(0, .pointer (some ⟨b, 0, none⟩)), (1, .agg #[.int .i64 x, .int .i64 y, .int .u32 z]), (3, .pointer (some ⟨r1, 0, none⟩)), (4, .int .i64 0), (5, .int .i64 ((errA (As X) (x, y, z)))), (6, .pointer (some ⟨r13, 0, none⟩)), (11, .bool false), (21, .bool false)] : Fr) (by kernel_rfl) (fun a => WP _ _ _ _ a _) (fun lr40 => ?_)
      refine gi_seq (x := CA Try.f23 [1, 1, 1, 1, 1, 1, 0]) (y := CA Try.f23 [1, 1, 1, 1, 1, 1, 1]) (by kernel_rfl) ?_
      refine gi_pln (id := 8) (ops := RA Try.f23 [1, 1, 1, 1, 1, 1, 0]) [0] (by kernel_rfl) (by kernel_rfl) (by kernel_rfl) ?_
      refine plain_batch (rest := []) [⟨0, [], none⟩] (l' := ([(4, .int .i64 0), (0, .pointer (some ⟨b, 0, none⟩)), (1, .agg #[.int .i64 x, .int .i64 y, .int .u32 z]), (3, .pointer (some ⟨r1, 0, none⟩)), (4, .int .i64 0), (5, .int .i64 ((errA (As X) (x, y, z)))), (6, .pointer (some ⟨r13, 0, none⟩)), (11, .bool false), (21, .bool false)] : Fr) ++ lr40) (pts' := []) (eqs := []) (by kernel_rfl) trivial (AllC_nil _) ?_
      refine PO.mk ?_
      change WP _ _ (CA Try.f23 [1, 1, 1, 1, 1, 1, 1]) _ _ _
      refine fk_cut ([(0, .pointer (some ⟨b, 0, none⟩)), (1, .agg #[.int .i64 x, .int .i64 y, .int .u32 z]), (3, .pointer (some ⟨r1, 0, none⟩)), (4, .int .i64 0), (5, .int .i64 ((errA (As X) (x, y, z)))), (6, .pointer (some ⟨r13, 0, none⟩)), (11, .bool false), (21, .bool false)] : Fr) (by kernel_rfl) (fun a => WP _ _ _ _ a _) (fun lr41 => ?_)
      refine gi_rt (by kernel_rfl) ?_
      repeat (first | simp only [Exit.inBlock] | simp only [Exit.then])
      have h42 : sat g w34 [Cl b [.slice p23 n c24] 92, Sl 94 4 p23 n c24 (fl eId (X.set kk31 (shut z))), Cl r13 [.bool false, .bool true, .int .u32 z, .int .i64 0] 94, Cl r1 [.int .i64 x, .int .i64 y, .int .u32 z] 28, R] := sat_sel [1, 0, 2, 3, 4] rfl h35
      have h43 : sat g w34 [Sl 94 4 p23 n c24 (fl eId (X.set kk31 (shut z))), Cl b [.slice p23 n c24] 92, Cl r13 [.bool false, .bool true, .int .u32 z, .int .i64 0] 94, Cl r1 [.int .i64 x, .int .i64 y, .int .u32 z] 28, R] := sat_sel [1, 0, 2, 3, 4] rfl h42
      have h44 : sat g w34 [Sl 94 4 p23 n c24 (fl eId (clsX X (x, y, z))), Cl b [.slice p23 n c24] 92, Cl r13 [.bool false, .bool true, .int .u32 z, .int .i64 0] 94, Cl r1 [.int .i64 x, .int .i64 y, .int .u32 z] 28, R] := sat_imp h43 (fun _ hh_ => by rw [show ((X.set kk31 (shut z)) : List Fl) = (clsX X (x, y, z)) from clsx_ok (show errA _ _ = 0 from by omega) (by omega)] at hh_; exact hh_)
      have h45 : sat g w34 [Cl b [.slice p23 n c24] 92, Sl 94 4 p23 n c24 (fl eId (clsX X (x, y, z))), Cl r13 [.bool false, .bool true, .int .u32 z, .int .i64 0] 94, Cl r1 [.int .i64 x, .int .i64 y, .int .u32 z] 28, R] := sat_sel [1, 0, 2, 3, 4] rfl h44
      have h46 : sat g w34 [Dc b n (clsX X (x, y, z)), Cl r13 [.bool false, .bool true, .int .u32 z, .int .i64 0] 94, Cl r1 [.int .i64 x, .int .i64 y, .int .u32 z] 28, R] := dc_close2 hD25 (len_cls X _) (slok_cls hD25.2.2.2) h45
      have h47 : sat g w34 [Dc b n (clsX X (x, y, z)), R] := sat_sel [0, 3] rfl h46
      refine hi_out [] (.int .i64 0) [] (by kernel_rfl) (by intro q hq; cases hq) ?_
      exact ⟨.int .i64 0, [Dc b n (clsX X (x, y, z))], rfl, ⟨by rw [show errA (As X) (x, y, z) = 0 from by omega], rfl⟩, h47⟩
    ·
      refine plain_batch (rest := [6, 7]) [⟨2, [], some (.bool false)⟩, ⟨3, [], none⟩, ⟨4, [.int .u32 z], none⟩, ⟨5, [], none⟩] (l' := ([(18, .agg #[.bool false, .bool false, .int .u32 z, .int .i64 0]), (17, .int .u32 z), (16, .pointer (some ⟨r1, 2, none⟩)), (15, .bool false), (14, .int .u32 z), (13, .pointer (some ⟨r1, 2, none⟩)), (0, .pointer (some ⟨b, 0, none⟩)), (1, .agg #[.int .i64 x, .int .i64 y, .int .u32 z]), (3, .pointer (some ⟨r1, 0, none⟩)), (4, .int .i64 0), (5, .int .i64 ((errA (As X) (x, y, z)))), (11, .bool false)] : Fr) ++ lr11) (pts' := [(4, ⟨r1, 2, none⟩, .int .u32 z)]) (eqs := [(.bool (z == 4294967295), .bool false)]) (by kernel_rfl) ⟨(ov_ef (by omega)), trivial⟩ (AllC_cons (sat_cell h8 1 rfl rfl) (AllC_nil _)) ?_
      refine plain_act (i := 6) (by kernel_rfl) ?_
      refine an_new (d := 6) (fun xb_ => .pointer (some ⟨xb_, 0, none⟩)) (fun xb_ => Obj.cells [.bool false, .bool false, .int .u32 0, .int .i64 0].toArray 94 (0, 0)) (fun xb_ => by kernel_rfl) (by kernel_rfl) rfl h8 ?_
      intro r48 w49 (h50 : sat g w49 [Cl r48 [.bool false, .bool false, .int .u32 0, .int .i64 0] 94, Dc b n X, Cl r1 [.int .i64 x, .int .i64 y, .int .u32 z] 28, R])
      refine plain_act (i := 7) (by kernel_rfl) ?_
      refine an_store [(0, .bool false), (1, .bool false), (2, .int .u32 z), (3, .int .i64 0)] (cs' := [.bool false, .bool false, .int .u32 z, .int .i64 0]) (by kernel_rfl) (by kernel_rfl) (allq ⟨⟨by simp, rfl⟩, ⟨by simp, rfl⟩, ⟨by simp, rfl⟩, ⟨by simp, rfl⟩, trivial⟩) rfl h50 ?_
      intro w51 (h52 : sat g w51 [Cl r48 [.bool false, .bool false, .int .u32 z, .int .i64 0] 94, Dc b n X, Cl r1 [.int .i64 x, .int .i64 y, .int .u32 z] 28, R])
      refine PO.mk ?_
      change WP _ _ (CA Try.f23 [1, 1, 1, 1]) _ _ _
      refine fk_cut ([(0, .pointer (some ⟨b, 0, none⟩)), (1, .agg #[.int .i64 x, .int .i64 y, .int .u32 z]), (3, .pointer (some ⟨r1, 0, none⟩)), (4, .int .i64 0), (5, .int .i64 ((errA (As X) (x, y, z)))), (6, .pointer (some ⟨r48, 0, none⟩)), (11, .bool false)] : Fr) (by kernel_rfl) (fun a => WP _ _ _ _ a _) (fun lr53 => ?_)
      refine gi_seq (x := CA Try.f23 [1, 1, 1, 1, 0]) (y := CA Try.f23 [1, 1, 1, 1, 1]) (by kernel_rfl) ?_
      refine gi_seq (x := CA Try.f23 [1, 1, 1, 1, 0, 0]) (y := CA Try.f23 [1, 1, 1, 1, 0, 1]) (by kernel_rfl) ?_
      refine gi_pln (id := 5) (ops := RA Try.f23 [1, 1, 1, 1, 0, 0]) [0, 1, 2] (by kernel_rfl) (by kernel_rfl) (by kernel_rfl) ?_
      refine plain_batch (rest := []) [⟨0, [], none⟩, ⟨1, [.bool false], none⟩, ⟨2, [], none⟩] (l' := ([(21, .bool true), (20, .bool false), (19, .pointer (some ⟨r48, 1, none⟩)), (0, .pointer (some ⟨b, 0, none⟩)), (1, .agg #[.int .i64 x, .int .i64 y, .int .u32 z]), (3, .pointer (some ⟨r1, 0, none⟩)), (4, .int .i64 0), (5, .int .i64 ((errA (As X) (x, y, z)))), (6, .pointer (some ⟨r48, 0, none⟩)), (11, .bool false)] : Fr) ++ lr53) (pts' := [(1, ⟨r48, 1, none⟩, .bool false)]) (eqs := []) (by kernel_rfl) trivial (AllC_cons (sat_cell h52 0 rfl rfl) (AllC_nil _)) ?_
      refine PO.mk ?_
      change WP _ _ (CA Try.f23 [1, 1, 1, 1, 0, 1]) _ _ _
      refine fk_cut ([(0, .pointer (some ⟨b, 0, none⟩)), (1, .agg #[.int .i64 x, .int .i64 y, .int .u32 z]), (3, .pointer (some ⟨r1, 0, none⟩)), (4, .int .i64 0), (5, .int .i64 ((errA (As X) (x, y, z)))), (6, .pointer (some ⟨r48, 0, none⟩)), (11, .bool false), (21, .bool true)] : Fr) (by kernel_rfl) (fun a => WP _ _ _ _ a _) (fun lr54 => ?_)
      refine gi_cnd (x := (Operand.tmp 21)) (s := CA Try.f23 [1, 1, 1, 1, 0, 1, 0]) (t := CA Try.f23 [1, 1, 1, 1, 0, 1, 1]) true (by kernel_rfl) (by kernel_rfl) ?_
      change WP _ _ (CA Try.f23 [1, 1, 1, 1, 0, 1, 0]) _ _ _
      refine gi_pln (id := 6) (ops := RA Try.f23 [1, 1, 1, 1, 0, 1, 0]) [0, 1, 2, 3, 4] (by kernel_rfl) (by kernel_rfl) (by kernel_rfl) ?_
      refine plain_batch (rest := [4]) [⟨0, [], none⟩, ⟨1, [.int .u32 z], none⟩, ⟨2, [], some (.int .u32 (z + 1))⟩, ⟨3, [], none⟩] (l' := ([(25, .pointer (some ⟨r48, 2, none⟩)), (24, .int .u32 (z + 1)), (23, .int .u32 z), (22, .pointer (some ⟨r1, 2, none⟩)), (0, .pointer (some ⟨b, 0, none⟩)), (1, .agg #[.int .i64 x, .int .i64 y, .int .u32 z]), (3, .pointer (some ⟨r1, 0, none⟩)), (4, .int .i64 0), (5, .int .i64 ((errA (As X) (x, y, z)))), (6, .pointer (some ⟨r48, 0, none⟩)), (11, .bool false), (21, .bool true)] : Fr) ++ lr54) (pts' := [(1, ⟨r1, 2, none⟩, .int .u32 z)]) (eqs := [(.int .u32 (IntKind.wrap .u32 (z + 1)), .int .u32 (z + 1))]) (by kernel_rfl) ⟨(ov_u32 (by omega) (by omega) (by omega)), trivial⟩ (AllC_cons (sat_cell h52 2 rfl rfl) (AllC_nil _)) ?_
      refine plain_act (i := 4) (by kernel_rfl) ?_
      refine an_store [(2, .int .u32 (z + 1))] (cs' := [.bool false, .bool false, .int .u32 (z + 1), .int .i64 0]) (by kernel_rfl) (by kernel_rfl) (allq ⟨⟨by simp, rfl⟩, trivial⟩) rfl h52 ?_
      intro w55 (h56 : sat g w55 [Cl r48 [.bool false, .bool false, .int .u32 (z + 1), .int .i64 0] 94, Dc b n X, Cl r1 [.int .i64 x, .int .i64 y, .int .u32 z] 28, R])
      refine PO.mk ?_
      change WP _ _ (CA Try.f23 [1, 1, 1, 1, 1]) _ _ _
      refine fk_cut ([(0, .pointer (some ⟨b, 0, none⟩)), (1, .agg #[.int .i64 x, .int .i64 y, .int .u32 z]), (3, .pointer (some ⟨r1, 0, none⟩)), (4, .int .i64 0), (5, .int .i64 ((errA (As X) (x, y, z)))), (6, .pointer (some ⟨r48, 0, none⟩)), (11, .bool false), (21, .bool true)] : Fr) (by kernel_rfl) (fun a => WP _ _ _ _ a _) (fun lr57 => ?_)
      refine gi_seq (x := CA Try.f23 [1, 1, 1, 1, 1, 0]) (y := CA Try.f23 [1, 1, 1, 1, 1, 1]) (by kernel_rfl) ?_
      refine gi_drw (id := 7) (ops := RA Try.f23 [1, 1, 1, 1, 1, 0]) (Tr.fl 0 (Tr.fl 1 (Tr.fl 2 (Tr.fl 3 (Tr.fl 4 (Tr.fl 5 (Tr.fl 6 (Tr.fl 7 (Tr.an 8 Tr.nil))))))))) (by kernel_rfl) (by kernel_rfl) (by kernel_rfl) (by kernel_rfl) (by kernel_rfl) (fun _ _ d _ _ h => by cases d <;> exact h) h56 ?_
      intro w58 h59
      have h60 : sat g w58 [Dc b n X, Cl r48 [.bool false, .bool false, .int .u32 (z + 1), .int .i64 0] 94, Cl r1 [.int .i64 x, .int .i64 y, .int .u32 z] 28, R] := sat_sel [1, 0, 2, 3] rfl h59
      obtain ⟨p61, c62, hD63, h64⟩ := dc_open h60
      have hXl_ := hD63.1; have hn1_ := hD63.2.1; have hn64_ := hD63.2.2.1; have hok_ := hD63.2.2.2; have hal_ := as_len X
      have hz65 := chk_zero (o := (x, y, z)) (show errA _ _ = 0 from by omega)
      have hz66 : x = 1 ∧ 0 ≤ y ∧ y.toNat < (As X).length ∧ 1 ≤ z := ⟨hz65.2.1, hz65.1.2.2.1, hz65.2.2.1, hz65.1.2.2.2.2⟩
      obtain ⟨b67, hp68⟩ := sl_ptr0 (j := 1) h64 rfl (by omega)
      obtain ⟨kk69, hk70⟩ : ∃ z_ : Nat, y = (z_ : Int) := ⟨(y).toNat, by omega⟩
      refine draw_batch (t := (Tr.fl 7 (Tr.an 8 Tr.nil))) [⟨0, [], none⟩, ⟨1, [], none⟩, ⟨2, [], none⟩, ⟨3, [.slice p61 n c62], none⟩, ⟨4, [], none⟩, ⟨5, [.int .i64 y], none⟩, ⟨6, [.bool false, .bool false, .int .u32 (z + 1), .int .i64 0], none⟩] (l' := ([(32, .agg #[.bool false, .bool false, .int .u32 (z + 1), .int .i64 0]), (31, .int .i64 y), (30, .pointer (some ⟨r1, 1, none⟩)), (29, .slice p61 n c62), (28, .pointer (some ⟨b, 0, none⟩)), (27, .pointer (some ⟨b, 0, none⟩)), (26, .pointer (some ⟨b, 0, none⟩)), (0, .pointer (some ⟨b, 0, none⟩)), (1, .agg #[.int .i64 x, .int .i64 y, .int .u32 z]), (3, .pointer (some ⟨r1, 0, none⟩)), (4, .int .i64 0), (5, .int .i64 ((errA (As X) (x, y, z)))), (6, .pointer (some ⟨r48, 0, none⟩)), (11, .bool false), (21, .bool true)] : Fr) ++ lr57) (pts' := [(6, ⟨r48, 0, none⟩, .bool false), (6, ⟨r48, 1, none⟩, .bool false), (6, ⟨r48, 2, none⟩, .int .u32 (z + 1)), (6, ⟨r48, 3, none⟩, .int .i64 0), (5, ⟨r1, 1, none⟩, .int .i64 y), (3, ⟨b, 0, none⟩, .slice p61 n c62)]) (eqs := []) (by kernel_rfl) trivial (AllC_cons (sat_cell h64 2 rfl rfl) (AllC_cons (sat_cell h64 2 rfl rfl) (AllC_cons (sat_cell h64 2 rfl rfl) (AllC_cons (sat_cell h64 2 rfl rfl) (AllC_cons (sat_cell h64 3 rfl rfl) (AllC_cons (sat_cell h64 0 rfl rfl) (AllC_nil _))))))) ?_
      refine draw_law (i := 7) 33 (.pointer (some ⟨b67, kk69 * 4, none⟩)) [] (by kernel_rfl) (fun _ _ => law_indexSlP (o := opA (RA Try.f23 [1, 1, 1, 1, 1, 0]) 7) (x := (Operand.tmp 29)) (i := (Operand.tmp 31)) (p := p61) (b := b67) (off := 0) (z := y) (len := n) (cap := c62) (by kernel_rfl) Try.underlying90 4 (by kernel_rfl) kk69 (by kernel_rfl) hp68 (by kernel_rfl) (by omega) (by omega) (kk69 * 4) (by omega) _) (by intro q hq; cases hq) ?_
      have h71 : sat g w58 [Sl 94 4 p61 n c62 (fl eId X), Cl b [.slice p61 n c62] 92, Cl r48 [.bool false, .bool false, .int .u32 (z + 1), .int .i64 0] 94, Cl r1 [.int .i64 x, .int .i64 y, .int .u32 z] 28, R] := sat_sel [1, 0, 2, 3, 4] rfl h64
      refine draw_act (i := 8) [] (by kernel_rfl) (by kernel_rfl) ?_
      have hl74 := fl_n eId_ok (by decide) h71
      obtain ⟨x75, hx76⟩ : ∃ x, X[kk69]? = some x := ⟨_, List.getElem?_eq_getElem (by rw [hl74]; omega)⟩
      have hb77 := slOk_as hok_ hx76
      refine an_storeSl (b := b67) [(kk69 * 4, .bool false), (kk69 * 4 + 1, .bool false), (kk69 * 4 + 2, .int .u32 (z + 1)), (kk69 * 4 + 3, .int .i64 0)] (cs' := (fl eId (X.set kk69 (shut z)))) (by kernel_rfl) (by kernel_rfl) hp68 (allq ⟨⟨by omega, rfl⟩, ⟨by omega, rfl⟩, ⟨by omega, rfl⟩, ⟨by omega, rfl⟩, trivial⟩) (by omega) (fl_upd eId_ok (i := kk69) (x := x75) (y := (shut z)) hx76 [(0, .bool false), (1, .bool false), (2, .int .u32 (z + 1)), (3, .int .i64 0)] rfl (by rw [shut_lt (by omega)]; rfl) rfl) h71 ?_
      intro w72 (h73 : sat g w72 [Sl 94 4 p61 n c62 (fl eId (X.set kk69 (shut z))), Cl b [.slice p61 n c62] 92, Cl r48 [.bool false, .bool false, .int .u32 (z + 1), .int .i64 0] 94, Cl r1 [.int .i64 x, .int .i64 y, .int .u32 z] 28, R])
      refine ⟨(AllC_nil _), ?_⟩
      change WP _ _ (CA Try.f23 [1, 1, 1, 1, 1, 1]) _ _ _
      refine fk_cut ([(0, .pointer (some ⟨b, 0, none⟩)), (1, .agg #[.int .i64 x, .int .i64 y, .int .u32 z]), (3, .pointer (some ⟨r1, 0, none⟩)), (4, .int .i64 0), (5, .int .i64 ((errA (As X) (x, y, z)))), (6, .pointer (some ⟨r48, 0, none⟩)), (11, .bool false), (21, .bool true)] : Fr) (by kernel_rfl) (fun a => WP _ _ _ _ a _) (fun lr78 => ?_)
      refine gi_seq (x := CA Try.f23 [1, 1, 1, 1, 1, 1, 0]) (y := CA Try.f23 [1, 1, 1, 1, 1, 1, 1]) (by kernel_rfl) ?_
      refine gi_pln (id := 8) (ops := RA Try.f23 [1, 1, 1, 1, 1, 1, 0]) [0] (by kernel_rfl) (by kernel_rfl) (by kernel_rfl) ?_
      refine plain_batch (rest := []) [⟨0, [], none⟩] (l' := ([(4, .int .i64 0), (0, .pointer (some ⟨b, 0, none⟩)), (1, .agg #[.int .i64 x, .int .i64 y, .int .u32 z]), (3, .pointer (some ⟨r1, 0, none⟩)), (4, .int .i64 0), (5, .int .i64 ((errA (As X) (x, y, z)))), (6, .pointer (some ⟨r48, 0, none⟩)), (11, .bool false), (21, .bool true)] : Fr) ++ lr78) (pts' := []) (eqs := []) (by kernel_rfl) trivial (AllC_nil _) ?_
      refine PO.mk ?_
      change WP _ _ (CA Try.f23 [1, 1, 1, 1, 1, 1, 1]) _ _ _
      refine fk_cut ([(0, .pointer (some ⟨b, 0, none⟩)), (1, .agg #[.int .i64 x, .int .i64 y, .int .u32 z]), (3, .pointer (some ⟨r1, 0, none⟩)), (4, .int .i64 0), (5, .int .i64 ((errA (As X) (x, y, z)))), (6, .pointer (some ⟨r48, 0, none⟩)), (11, .bool false), (21, .bool true)] : Fr) (by kernel_rfl) (fun a => WP _ _ _ _ a _) (fun lr79 => ?_)
      refine gi_rt (by kernel_rfl) ?_
      repeat (first | simp only [Exit.inBlock] | simp only [Exit.then])
      have h80 : sat g w72 [Cl b [.slice p61 n c62] 92, Sl 94 4 p61 n c62 (fl eId (X.set kk69 (shut z))), Cl r48 [.bool false, .bool false, .int .u32 (z + 1), .int .i64 0] 94, Cl r1 [.int .i64 x, .int .i64 y, .int .u32 z] 28, R] := sat_sel [1, 0, 2, 3, 4] rfl h73
      have h81 : sat g w72 [Sl 94 4 p61 n c62 (fl eId (X.set kk69 (shut z))), Cl b [.slice p61 n c62] 92, Cl r48 [.bool false, .bool false, .int .u32 (z + 1), .int .i64 0] 94, Cl r1 [.int .i64 x, .int .i64 y, .int .u32 z] 28, R] := sat_sel [1, 0, 2, 3, 4] rfl h80
      have h82 : sat g w72 [Sl 94 4 p61 n c62 (fl eId (clsX X (x, y, z))), Cl b [.slice p61 n c62] 92, Cl r48 [.bool false, .bool false, .int .u32 (z + 1), .int .i64 0] 94, Cl r1 [.int .i64 x, .int .i64 y, .int .u32 z] 28, R] := sat_imp h81 (fun _ hh_ => by rw [show ((X.set kk69 (shut z)) : List Fl) = (clsX X (x, y, z)) from clsx_ok (show errA _ _ = 0 from by omega) (by omega)] at hh_; exact hh_)
      have h83 : sat g w72 [Cl b [.slice p61 n c62] 92, Sl 94 4 p61 n c62 (fl eId (clsX X (x, y, z))), Cl r48 [.bool false, .bool false, .int .u32 (z + 1), .int .i64 0] 94, Cl r1 [.int .i64 x, .int .i64 y, .int .u32 z] 28, R] := sat_sel [1, 0, 2, 3, 4] rfl h82
      have h84 : sat g w72 [Dc b n (clsX X (x, y, z)), Cl r48 [.bool false, .bool false, .int .u32 (z + 1), .int .i64 0] 94, Cl r1 [.int .i64 x, .int .i64 y, .int .u32 z] 28, R] := dc_close2 hD63 (len_cls X _) (slok_cls hD63.2.2.2) h83
      have h85 : sat g w72 [Dc b n (clsX X (x, y, z)), R] := sat_sel [0, 3] rfl h84
      refine hi_out [] (.int .i64 0) [] (by kernel_rfl) (by intro q hq; cases hq) ?_
      exact ⟨.int .i64 0, [Dc b n (clsX X (x, y, z))], rfl, ⟨by rw [show errA (As X) (x, y, z) = 0 from by omega], rfl⟩, h85⟩
  ·
    refine plain_batch (rest := []) [⟨1, [], some (.bool true)⟩] (l' := ([(11, .bool true), (10, .int .i64 ((errA (As X) (x, y, z)))), (0, .pointer (some ⟨b, 0, none⟩)), (1, .agg #[.int .i64 x, .int .i64 y, .int .u32 z]), (3, .pointer (some ⟨r1, 0, none⟩)), (4, .int .i64 0), (5, .int .i64 ((errA (As X) (x, y, z))))] : Fr) ++ lr9) (pts' := []) (eqs := [(.bool (((errA (As X) (x, y, z))) != 0), .bool true)]) (by kernel_rfl) ⟨(ov_nt (by omega)), trivial⟩ (AllC_nil _) ?_
    refine PO.mk ?_
    change WP _ _ (CA Try.f23 [1, 1, 0, 1]) _ _ _
    refine fk_cut ([(0, .pointer (some ⟨b, 0, none⟩)), (1, .agg #[.int .i64 x, .int .i64 y, .int .u32 z]), (3, .pointer (some ⟨r1, 0, none⟩)), (4, .int .i64 0), (5, .int .i64 ((errA (As X) (x, y, z)))), (11, .bool true)] : Fr) (by kernel_rfl) (fun a => WP _ _ _ _ a _) (fun lr86 => ?_)
    refine gi_cnd (x := (Operand.tmp 11)) (s := CA Try.f23 [1, 1, 0, 1, 0]) (t := CA Try.f23 [1, 1, 0, 1, 1]) true (by kernel_rfl) (by kernel_rfl) ?_
    change WP _ _ (CA Try.f23 [1, 1, 0, 1, 0]) _ _ _
    refine gi_seq (x := CA Try.f23 [1, 1, 0, 1, 0, 0]) (y := CA Try.f23 [1, 1, 0, 1, 0, 1]) (by kernel_rfl) ?_
    refine gi_pln (id := 3) (ops := RA Try.f23 [1, 1, 0, 1, 0, 0]) [0, 1] (by kernel_rfl) (by kernel_rfl) (by kernel_rfl) ?_
    refine plain_batch (rest := []) [⟨0, [], none⟩, ⟨1, [], none⟩] (l' := ([(4, .int .i64 ((errA (As X) (x, y, z)))), (12, .int .i64 ((errA (As X) (x, y, z)))), (0, .pointer (some ⟨b, 0, none⟩)), (1, .agg #[.int .i64 x, .int .i64 y, .int .u32 z]), (3, .pointer (some ⟨r1, 0, none⟩)), (4, .int .i64 0), (5, .int .i64 ((errA (As X) (x, y, z)))), (11, .bool true)] : Fr) ++ lr86) (pts' := []) (eqs := []) (by kernel_rfl) trivial (AllC_nil _) ?_
    refine PO.mk ?_
    change WP _ _ (CA Try.f23 [1, 1, 0, 1, 0, 1]) _ _ _
    refine fk_cut ([(0, .pointer (some ⟨b, 0, none⟩)), (1, .agg #[.int .i64 x, .int .i64 y, .int .u32 z]), (3, .pointer (some ⟨r1, 0, none⟩)), (4, .int .i64 ((errA (As X) (x, y, z)))), (5, .int .i64 ((errA (As X) (x, y, z)))), (11, .bool true)] : Fr) (by kernel_rfl) (fun a => WP _ _ _ _ a _) (fun lr87 => ?_)
    refine gi_rt (by kernel_rfl) ?_
    repeat (first | simp only [Exit.inBlock] | simp only [Exit.then])
    have hX_ : X = clsX X (x, y, z) := clsx_no (e := errA (As X) (x, y, z)) rfl (by omega)
    have h88 : sat g w6 [Dc b n X, R] := sat_sel [0, 2] rfl h8
    refine hi_out [] (.int .i64 ((errA (As X) (x, y, z)))) [] (by kernel_rfl) (by intro q hq; cases hq) ?_
    exact ⟨.int .i64 ((errA (As X) (x, y, z))), [Dc b n X], rfl, ⟨rfl, by rw [← hX_]⟩, h88⟩

set_option maxHeartbeats 4000000 in
theorem dnum_ht (b n : Nat) (X : Xs) (x y z : Int) (hz0 : 0 ≤ z) (hz1 : z ≤ 4294967295) : HT Try.prog 46 [Value.pointer (some ⟨b, 0, none⟩), Value.agg #[Value.int IntKind.i64 x, Value.int IntKind.i64 y, Value.int IntKind.u32 z]] [Dc b n X] (fun v K => v = Value.tuple #[Value.int .i64 (numX X (x, y, z)), Value.int .i64 (errA (As X) (x, y, z))] ∧ K = [Dc b n X]) := by
  refine hi_in 22 ([(0, .pointer (some ⟨b, 0, none⟩)), (1, .agg #[.int .i64 x, .int .i64 y, .int .u32 z])] : Fr) Try.func46 (by kernel_rfl) Try.ntmps46 rfl rfl ?_
  intro g w0 R h0
  refine gi_seq (x := CA Try.f46 [0]) (y := CA Try.f46 [1]) (by kernel_rfl) ?_
  refine gi_pln (id := 0) (ops := RA Try.f46 [0]) [0, 1, 2] (by kernel_rfl) (by kernel_rfl) (by kernel_rfl) ?_
  refine plain_act (i := 0) (by kernel_rfl) ?_
  refine an_new (d := 3) (fun xb_ => .pointer (some ⟨xb_, 0, none⟩)) (fun xb_ => Obj.cells [.int .i64 x, .int .i64 y, .int .u32 z].toArray 28 (0, 0)) (fun xb_ => by kernel_rfl) (by kernel_rfl) rfl h0 ?_
  intro r1 w2 (h3 : sat g w2 [Cl r1 [.int .i64 x, .int .i64 y, .int .u32 z] 28, Dc b n X, R])
  refine plain_batch (rest := []) [⟨1, [], none⟩, ⟨2, [], none⟩] (l' := ([(5, .int .i64 0), (4, .int .i64 0), (3, .pointer (some ⟨r1, 0, none⟩)), (0, .pointer (some ⟨b, 0, none⟩)), (1, .agg #[.int .i64 x, .int .i64 y, .int .u32 z])] : Fr)) (pts' := []) (eqs := []) (by kernel_rfl) trivial (AllC_nil _) ?_
  refine PO.mk ?_
  change WP _ _ (CA Try.f46 [1]) _ _ _
  refine fk_cut ([(0, .pointer (some ⟨b, 0, none⟩)), (1, .agg #[.int .i64 x, .int .i64 y, .int .u32 z]), (3, .pointer (some ⟨r1, 0, none⟩)), (4, .int .i64 0), (5, .int .i64 0)] : Fr) (by kernel_rfl) (fun a => WP _ _ _ _ a _) (fun lr4 => ?_)
  refine gi_seq (x := CA Try.f46 [1, 0]) (y := CA Try.f46 [1, 1]) (by kernel_rfl) ?_
  refine gi_pln (id := 1) (ops := RA Try.f46 [1, 0]) [0, 1, 2, 3] (by kernel_rfl) (by kernel_rfl) (by kernel_rfl) ?_
  refine plain_batch (rest := [2, 3]) [⟨0, [], none⟩, ⟨1, [.int .i64 x, .int .i64 y, .int .u32 z], none⟩] (l' := ([(8, .agg #[.int .i64 x, .int .i64 y, .int .u32 z]), (7, .pointer (some ⟨b, 0, none⟩)), (0, .pointer (some ⟨b, 0, none⟩)), (1, .agg #[.int .i64 x, .int .i64 y, .int .u32 z]), (3, .pointer (some ⟨r1, 0, none⟩)), (4, .int .i64 0), (5, .int .i64 0)] : Fr) ++ lr4) (pts' := [(1, ⟨r1, 0, none⟩, .int .i64 x), (1, ⟨r1, 1, none⟩, .int .i64 y), (1, ⟨r1, 2, none⟩, .int .u32 z)]) (eqs := []) (by kernel_rfl) trivial (AllC_cons (sat_cell h3 0 rfl rfl) (AllC_cons (sat_cell h3 0 rfl rfl) (AllC_cons (sat_cell h3 0 rfl rfl) (AllC_nil _)))) ?_
  have hbd_ := chk_bd (As X) (x, y, z)
  have h5 : sat g w2 [Dc b n X, Cl r1 [.int .i64 x, .int .i64 y, .int .u32 z] 28, R] := sat_sel [1, 0, 2] rfl h3
  refine plain_act (i := 2) (by kernel_rfl) ?_
  refine an_call (d := some 9) (f := 43) (args := [.pointer (some ⟨b, 0, none⟩), .agg #[.int .i64 x, .int .i64 y, .int .u32 z]]) (by kernel_rfl) Try.call43 (dchk_ht b n X x y z (by omega) (by omega)) (F := [Cl r1 [.int .i64 x, .int .i64 y, .int .u32 z] 28, R]) h5 ?_
  rintro v K w6 (⟨rfl, rfl⟩) h7
  refine ⟨_, rfl, ?_⟩
  have h8 : sat g w6 [Dc b n X, Cl r1 [.int .i64 x, .int .i64 y, .int .u32 z] 28, R] := h7
  refine plain_batch (rest := []) [⟨3, [], none⟩] (l' := ([(6, .int .i64 ((errA (As X) (x, y, z)))), (9, .int .i64 ((errA (As X) (x, y, z)))), (8, .agg #[.int .i64 x, .int .i64 y, .int .u32 z]), (7, .pointer (some ⟨b, 0, none⟩)), (0, .pointer (some ⟨b, 0, none⟩)), (1, .agg #[.int .i64 x, .int .i64 y, .int .u32 z]), (3, .pointer (some ⟨r1, 0, none⟩)), (4, .int .i64 0), (5, .int .i64 0)] : Fr) ++ lr4) (pts' := []) (eqs := []) (by kernel_rfl) trivial (AllC_nil _) ?_
  refine PO.mk ?_
  change WP _ _ (CA Try.f46 [1, 1]) _ _ _
  refine fk_cut ([(0, .pointer (some ⟨b, 0, none⟩)), (1, .agg #[.int .i64 x, .int .i64 y, .int .u32 z]), (3, .pointer (some ⟨r1, 0, none⟩)), (4, .int .i64 0), (5, .int .i64 0), (6, .int .i64 ((errA (As X) (x, y, z))))] : Fr) (by kernel_rfl) (fun a => WP _ _ _ _ a _) (fun lr9 => ?_)
  refine gi_seq (x := CA Try.f46 [1, 1, 0]) (y := CA Try.f46 [1, 1, 1]) (by kernel_rfl) ?_
  refine gi_seq (x := CA Try.f46 [1, 1, 0, 0]) (y := CA Try.f46 [1, 1, 0, 1]) (by kernel_rfl) ?_
  refine gi_pln (id := 2) (ops := RA Try.f46 [1, 1, 0, 0]) [0, 1] (by kernel_rfl) (by kernel_rfl) (by kernel_rfl) ?_
  refine plain_batch (rest := [1]) [⟨0, [], none⟩] (l' := ([(10, .int .i64 ((errA (As X) (x, y, z)))), (0, .pointer (some ⟨b, 0, none⟩)), (1, .agg #[.int .i64 x, .int .i64 y, .int .u32 z]), (3, .pointer (some ⟨r1, 0, none⟩)), (4, .int .i64 0), (5, .int .i64 0), (6, .int .i64 ((errA (As X) (x, y, z))))] : Fr) ++ lr9) (pts' := []) (eqs := []) (by kernel_rfl) trivial (AllC_nil _) ?_
  by_cases c10 : (errA (As X) (x, y, z)) = 0
  ·
    refine plain_batch (rest := []) [⟨1, [], some (.bool false)⟩] (l' := ([(11, .bool false), (10, .int .i64 ((errA (As X) (x, y, z)))), (0, .pointer (some ⟨b, 0, none⟩)), (1, .agg #[.int .i64 x, .int .i64 y, .int .u32 z]), (3, .pointer (some ⟨r1, 0, none⟩)), (4, .int .i64 0), (5, .int .i64 0), (6, .int .i64 ((errA (As X) (x, y, z))))] : Fr) ++ lr9) (pts' := []) (eqs := [(.bool (((errA (As X) (x, y, z))) != 0), .bool false)]) (by kernel_rfl) ⟨(ov_nf (by omega)), trivial⟩ (AllC_nil _) ?_
    refine PO.mk ?_
    change WP _ _ (CA Try.f46 [1, 1, 0, 1]) _ _ _
    refine fk_cut ([(0, .pointer (some ⟨b, 0, none⟩)), (1, .agg #[.int .i64 x, .int .i64 y, .int .u32 z]), (3, .pointer (some ⟨r1, 0, none⟩)), (4, .int .i64 0), (5, .int .i64 0), (6, .int .i64 ((errA (As X) (x, y, z)))), (11, .bool false)] : Fr) (by kernel_rfl) (fun a => WP _ _ _ _ a _) (fun lr11 => ?_)
    refine gi_cnd (x := (Operand.tmp 11)) (s := CA Try.f46 [1, 1, 0, 1, 0]) (t := CA Try.f46 [1, 1, 0, 1, 1]) false (by kernel_rfl) (by kernel_rfl) ?_
    change WP _ _ (CA Try.f46 [1, 1, 0, 1, 1]) _ _ _
    refine gi_skp (by kernel_rfl) ?_
    change WP _ _ (CA Try.f46 [1, 1, 1]) _ _ _
    refine gi_seq (x := CA Try.f46 [1, 1, 1, 0]) (y := CA Try.f46 [1, 1, 1, 1]) (by kernel_rfl) ?_
    refine gi_drw (id := 4) (ops := RA Try.f46 [1, 1, 1, 0]) (Tr.fl 0 (Tr.fl 1 (Tr.fl 2 (Tr.fl 3 (Tr.fl 4 (Tr.fl 5 (Tr.fl 6 (Tr.fl 7 (Tr.fl 8 (Tr.fl 9 (Tr.fl 10 Tr.nil))))))))))) (by kernel_rfl) (by kernel_rfl) (by kernel_rfl) (by kernel_rfl) (by kernel_rfl) (fun _ _ d _ _ h => by cases d <;> exact h) h8 ?_
    intro w12 h13
    obtain ⟨p14, c15, hD16, h17⟩ := dc_open h13
    have hXl_ := hD16.1; have hn1_ := hD16.2.1; have hn64_ := hD16.2.2.1; have hok_ := hD16.2.2.2; have hal_ := as_len X
    have hz18 := chk_zero (o := (x, y, z)) (show errA _ _ = 0 from by omega)
    have hz19 : x = 1 ∧ 0 ≤ y ∧ y.toNat < (As X).length ∧ 1 ≤ z := ⟨hz18.2.1, hz18.1.2.2.1, hz18.2.2.1, hz18.1.2.2.2.2⟩
    obtain ⟨b20, hp21⟩ := sl_ptr0 (j := 1) h17 rfl (by omega)
    obtain ⟨kk22, hk23⟩ : ∃ z_ : Nat, y = (z_ : Int) := ⟨(y).toNat, by omega⟩
    refine draw_batch (t := (Tr.fl 6 (Tr.fl 7 (Tr.fl 8 (Tr.fl 9 (Tr.fl 10 Tr.nil)))))) [⟨0, [], none⟩, ⟨1, [], none⟩, ⟨2, [], none⟩, ⟨3, [.slice p14 n c15], none⟩, ⟨4, [], none⟩, ⟨5, [.int .i64 y], none⟩] (l' := ([(18, .int .i64 y), (17, .pointer (some ⟨r1, 1, none⟩)), (16, .slice p14 n c15), (15, .pointer (some ⟨b, 0, none⟩)), (14, .pointer (some ⟨b, 0, none⟩)), (13, .pointer (some ⟨b, 0, none⟩)), (0, .pointer (some ⟨b, 0, none⟩)), (1, .agg #[.int .i64 x, .int .i64 y, .int .u32 z]), (3, .pointer (some ⟨r1, 0, none⟩)), (4, .int .i64 0), (5, .int .i64 0), (6, .int .i64 ((errA (As X) (x, y, z)))), (11, .bool false)] : Fr) ++ lr11) (pts' := [(5, ⟨r1, 1, none⟩, .int .i64 y), (3, ⟨b, 0, none⟩, .slice p14 n c15)]) (eqs := []) (by kernel_rfl) trivial (AllC_cons (sat_cell h17 2 rfl rfl) (AllC_cons (sat_cell h17 0 rfl rfl) (AllC_nil _))) ?_
    refine draw_law (i := 6) 19 (.pointer (some ⟨b20, kk22 * 4, none⟩)) [] (by kernel_rfl) (fun _ _ => law_indexSlP (o := opA (RA Try.f46 [1, 1, 1, 0]) 6) (x := (Operand.tmp 16)) (i := (Operand.tmp 18)) (p := p14) (b := b20) (off := 0) (z := y) (len := n) (cap := c15) (by kernel_rfl) Try.underlying90 4 (by kernel_rfl) kk22 (by kernel_rfl) hp21 (by kernel_rfl) (by omega) (by omega) (kk22 * 4) (by omega) _) (by intro q hq; cases hq) ?_
    have h24 : sat g w12 [Sl 94 4 p14 n c15 (fl eId X), Cl b [.slice p14 n c15] 92, Cl r1 [.int .i64 x, .int .i64 y, .int .u32 z] 28, R] := sat_sel [1, 0, 2, 3] rfl h17
    have hl25 := fl_n eId_ok (by decide) h24
    obtain ⟨x26, hx27⟩ : ∃ x, X[kk22]? = some x := ⟨_, List.getElem?_eq_getElem (by rw [hl25]; omega)⟩
    have hb28 := slOk_as hok_ hx27
    refine draw_batch (t := Tr.nil) [⟨7, [], none⟩, ⟨8, [.int .i64 x26.2.2], none⟩, ⟨9, [], none⟩, ⟨10, [], none⟩] (l' := ([(5, .int .i64 0), (4, .int .i64 x26.2.2), (21, .int .i64 x26.2.2), (20, .pointer (some ⟨b20, kk22 * 4 + 3, none⟩)), (19, .pointer (some ⟨b20, kk22 * 4, none⟩)), (18, .int .i64 y), (17, .pointer (some ⟨r1, 1, none⟩)), (16, .slice p14 n c15), (15, .pointer (some ⟨b, 0, none⟩)), (14, .pointer (some ⟨b, 0, none⟩)), (13, .pointer (some ⟨b, 0, none⟩)), (0, .pointer (some ⟨b, 0, none⟩)), (1, .agg #[.int .i64 x, .int .i64 y, .int .u32 z]), (3, .pointer (some ⟨r1, 0, none⟩)), (4, .int .i64 0), (5, .int .i64 0), (6, .int .i64 ((errA (As X) (x, y, z)))), (11, .bool false)] : Fr) ++ lr11) (pts' := [(8, ⟨b20, kk22 * 4 + 3, none⟩, .int .i64 x26.2.2)]) (eqs := []) (by kernel_rfl) trivial (AllC_cons (gv_cell (j := 0) h24 rfl (gv_sl _ _ _) hp21 (fl_get eId_ok (j := 3) (v := .int .i64 x26.2.2) hx27 rfl) (kk22 * 4 + 3) (by omega)) (AllC_nil _)) ?_
    change WP _ _ (CA Try.f46 [1, 1, 1, 1]) _ _ _
    refine fk_cut ([(0, .pointer (some ⟨b, 0, none⟩)), (1, .agg #[.int .i64 x, .int .i64 y, .int .u32 z]), (3, .pointer (some ⟨r1, 0, none⟩)), (4, .int .i64 x26.2.2), (5, .int .i64 0), (6, .int .i64 ((errA (As X) (x, y, z)))), (11, .bool false)] : Fr) (by kernel_rfl) (fun a => WP _ _ _ _ a _) (fun lr29 => ?_)
    refine gi_rt (by kernel_rfl) ?_
    repeat (first | simp only [Exit.inBlock] | simp only [Exit.then])
    have hN_ := numx_ok (X := X) (show errA (As X) (x, y, z) = 0 from by omega) (by omega) hx27
    have h30 : sat g w12 [Cl b [.slice p14 n c15] 92, Sl 94 4 p14 n c15 (fl eId X), Cl r1 [.int .i64 x, .int .i64 y, .int .u32 z] 28, R] := sat_sel [1, 0, 2, 3] rfl h24
    have h31 : sat g w12 [Dc b n X, Cl r1 [.int .i64 x, .int .i64 y, .int .u32 z] 28, R] := dc_close hD16 h30
    have h32 : sat g w12 [Dc b n X, R] := sat_sel [0, 2] rfl h31
    refine hi_out [] (.tuple #[.int .i64 x26.2.2, .int .i64 0]) [] (by kernel_rfl) (by intro q hq; cases hq) ?_
    exact ⟨.tuple #[.int .i64 x26.2.2, .int .i64 0], [Dc b n X], rfl, ⟨by rw [hN_, show errA (As X) (x, y, z) = 0 from by omega], rfl⟩, h32⟩
  ·
    refine plain_batch (rest := []) [⟨1, [], some (.bool true)⟩] (l' := ([(11, .bool true), (10, .int .i64 ((errA (As X) (x, y, z)))), (0, .pointer (some ⟨b, 0, none⟩)), (1, .agg #[.int .i64 x, .int .i64 y, .int .u32 z]), (3, .pointer (some ⟨r1, 0, none⟩)), (4, .int .i64 0), (5, .int .i64 0), (6, .int .i64 ((errA (As X) (x, y, z))))] : Fr) ++ lr9) (pts' := []) (eqs := [(.bool (((errA (As X) (x, y, z))) != 0), .bool true)]) (by kernel_rfl) ⟨(ov_nt (by omega)), trivial⟩ (AllC_nil _) ?_
    refine PO.mk ?_
    change WP _ _ (CA Try.f46 [1, 1, 0, 1]) _ _ _
    refine fk_cut ([(0, .pointer (some ⟨b, 0, none⟩)), (1, .agg #[.int .i64 x, .int .i64 y, .int .u32 z]), (3, .pointer (some ⟨r1, 0, none⟩)), (4, .int .i64 0), (5, .int .i64 0), (6, .int .i64 ((errA (As X) (x, y, z)))), (11, .bool true)] : Fr) (by kernel_rfl) (fun a => WP _ _ _ _ a _) (fun lr33 => ?_)
    refine gi_cnd (x := (Operand.tmp 11)) (s := CA Try.f46 [1, 1, 0, 1, 0]) (t := CA Try.f46 [1, 1, 0, 1, 1]) true (by kernel_rfl) (by kernel_rfl) ?_
    change WP _ _ (CA Try.f46 [1, 1, 0, 1, 0]) _ _ _
    refine gi_seq (x := CA Try.f46 [1, 1, 0, 1, 0, 0]) (y := CA Try.f46 [1, 1, 0, 1, 0, 1]) (by kernel_rfl) ?_
    refine gi_pln (id := 3) (ops := RA Try.f46 [1, 1, 0, 1, 0, 0]) [0, 1, 2] (by kernel_rfl) (by kernel_rfl) (by kernel_rfl) ?_
    refine plain_batch (rest := []) [⟨0, [], none⟩, ⟨1, [], none⟩, ⟨2, [], none⟩] (l' := ([(5, .int .i64 ((errA (As X) (x, y, z)))), (4, .int .i64 0), (12, .int .i64 ((errA (As X) (x, y, z)))), (0, .pointer (some ⟨b, 0, none⟩)), (1, .agg #[.int .i64 x, .int .i64 y, .int .u32 z]), (3, .pointer (some ⟨r1, 0, none⟩)), (4, .int .i64 0), (5, .int .i64 0), (6, .int .i64 ((errA (As X) (x, y, z)))), (11, .bool true)] : Fr) ++ lr33) (pts' := []) (eqs := []) (by kernel_rfl) trivial (AllC_nil _) ?_
    refine PO.mk ?_
    change WP _ _ (CA Try.f46 [1, 1, 0, 1, 0, 1]) _ _ _
    refine fk_cut ([(0, .pointer (some ⟨b, 0, none⟩)), (1, .agg #[.int .i64 x, .int .i64 y, .int .u32 z]), (3, .pointer (some ⟨r1, 0, none⟩)), (4, .int .i64 0), (5, .int .i64 ((errA (As X) (x, y, z)))), (6, .int .i64 ((errA (As X) (x, y, z)))), (11, .bool true)] : Fr) (by kernel_rfl) (fun a => WP _ _ _ _ a _) (fun lr34 => ?_)
    refine gi_rt (by kernel_rfl) ?_
    repeat (first | simp only [Exit.inBlock] | simp only [Exit.then])
    have hN_ : numX X (x, y, z) = 0 := numx_no (e := errA (As X) (x, y, z)) rfl (by omega)
    have h35 : sat g w6 [Dc b n X, R] := sat_sel [0, 2] rfl h8
    refine hi_out [] (.tuple #[.int .i64 0, .int .i64 ((errA (As X) (x, y, z)))]) [] (by kernel_rfl) (by intro q hq; cases hq) ?_
    exact ⟨.tuple #[.int .i64 0, .int .i64 ((errA (As X) (x, y, z)))], [Dc b n X], rfl, ⟨by rw [hN_], rfl⟩, h35⟩

set_option maxHeartbeats 4000000 in
theorem dopen_ht (b n : Nat) (X : Xs) (v : Int) : HT Try.prog 22 [Value.pointer (some ⟨b, 0, none⟩), Value.int IntKind.i64 v] [Dc b n X] (fun r K => r = Value.tuple #[Value.agg #[Value.int .i64 (opnO X v).1, Value.int .i64 (opnO X v).2.1, Value.int .u32 (opnO X v).2.2], Value.int .i64 (opnE X v)] ∧ K = [Dc b n (opnX X v)]) := by
  refine hi_in 69 ([(0, .pointer (some ⟨b, 0, none⟩)), (1, .int .i64 v)] : Fr) Try.func22 (by kernel_rfl) Try.ntmps22 rfl rfl ?_
  intro g w0 R h0
  refine gi_seq (x := CA Try.f22 [0]) (y := CA Try.f22 [1]) (by kernel_rfl) ?_
  refine gi_pln (id := 0) (ops := RA Try.f22 [0]) [0, 1] (by kernel_rfl) (by kernel_rfl) (by kernel_rfl) ?_
  refine plain_act (i := 0) (by kernel_rfl) ?_
  refine an_new (d := 4) (fun xb_ => .pointer (some ⟨xb_, 0, none⟩)) (fun xb_ => Obj.cells [.int .i64 0, .int .i64 0, .int .u32 0].toArray 28 (0, 0)) (fun xb_ => by kernel_rfl) (by kernel_rfl) rfl h0 ?_
  intro r1 w2 (h3 : sat g w2 [Cl r1 [.int .i64 0, .int .i64 0, .int .u32 0] 28, Dc b n X, R])
  refine plain_batch (rest := []) [⟨1, [], none⟩] (l' := ([(5, .int .i64 0), (4, .pointer (some ⟨r1, 0, none⟩)), (0, .pointer (some ⟨b, 0, none⟩)), (1, .int .i64 v)] : Fr)) (pts' := []) (eqs := []) (by kernel_rfl) trivial (AllC_nil _) ?_
  refine PO.mk ?_
  change WP _ _ (CA Try.f22 [1]) _ _ _
  refine fk_cut ([(0, .pointer (some ⟨b, 0, none⟩)), (1, .int .i64 v), (4, .pointer (some ⟨r1, 0, none⟩)), (5, .int .i64 0)] : Fr) (by kernel_rfl) (fun a => WP _ _ _ _ a _) (fun lr4 => ?_)
  refine gi_seq (x := CA Try.f22 [1, 0]) (y := CA Try.f22 [1, 1]) (by kernel_rfl) ?_
  refine gi_seq (x := CA Try.f22 [1, 0, 0]) (y := CA Try.f22 [1, 0, 1]) (by kernel_rfl) ?_
  refine gi_pln (id := 1) (ops := RA Try.f22 [1, 0, 0]) [0, 1, 2, 3, 4, 5] (by kernel_rfl) (by kernel_rfl) (by kernel_rfl) ?_
  refine plain_batch (rest := [1, 2, 3, 4, 5]) [⟨0, [], none⟩] (l' := ([(7, .int .i64 v), (0, .pointer (some ⟨b, 0, none⟩)), (1, .int .i64 v), (4, .pointer (some ⟨r1, 0, none⟩)), (5, .int .i64 0)] : Fr) ++ lr4) (pts' := []) (eqs := []) (by kernel_rfl) trivial (AllC_nil _) ?_
  by_cases c5 : v < 0
  ·
    refine plain_batch (rest := []) [⟨1, [], some (.bool true)⟩, ⟨2, [], none⟩, ⟨3, [], none⟩, ⟨4, [], none⟩, ⟨5, [], none⟩] (l' := ([(12, .bool true), (11, undef), (10, undef), (9, .bool true), (8, .bool true), (7, .int .i64 v), (0, .pointer (some ⟨b, 0, none⟩)), (1, .int .i64 v), (4, .pointer (some ⟨r1, 0, none⟩)), (5, .int .i64 0)] : Fr) ++ lr4) (pts' := []) (eqs := [(.bool (decide (v < 0)), .bool true)]) (by kernel_rfl) ⟨(ov_t (by omega)), trivial⟩ (AllC_nil _) ?_
    refine PO.mk ?_
    change WP _ _ (CA Try.f22 [1, 0, 1]) _ _ _
    refine fk_cut ([(0, .pointer (some ⟨b, 0, none⟩)), (1, .int .i64 v), (4, .pointer (some ⟨r1, 0, none⟩)), (5, .int .i64 0), (12, .bool true)] : Fr) (by kernel_rfl) (fun a => WP _ _ _ _ a _) (fun lr6 => ?_)
    refine gi_cnd (x := (Operand.tmp 12)) (s := CA Try.f22 [1, 0, 1, 0]) (t := CA Try.f22 [1, 0, 1, 1]) true (by kernel_rfl) (by kernel_rfl) ?_
    change WP _ _ (CA Try.f22 [1, 0, 1, 0]) _ _ _
    refine gi_seq (x := CA Try.f22 [1, 0, 1, 0, 0]) (y := CA Try.f22 [1, 0, 1, 0, 1]) (by kernel_rfl) ?_
    refine gi_pln (id := 2) (ops := RA Try.f22 [1, 0, 1, 0, 0]) [0, 1, 2] (by kernel_rfl) (by kernel_rfl) (by kernel_rfl) ?_
    refine plain_batch (rest := [1, 2]) [⟨0, [], none⟩] (l' := ([(13, .agg #[.int .i64 0, .int .i64 0, .int .u32 0]), (0, .pointer (some ⟨b, 0, none⟩)), (1, .int .i64 v), (4, .pointer (some ⟨r1, 0, none⟩)), (5, .int .i64 0), (12, .bool true)] : Fr) ++ lr6) (pts' := []) (eqs := []) (by kernel_rfl) trivial (AllC_nil _) ?_
    refine plain_act (i := 1) (by kernel_rfl) ?_
    refine an_store [(0, .int .i64 0), (1, .int .i64 0), (2, .int .u32 0)] (cs' := [.int .i64 0, .int .i64 0, .int .u32 0]) (by kernel_rfl) (by kernel_rfl) (allq ⟨⟨by simp, rfl⟩, ⟨by simp, rfl⟩, ⟨by simp, rfl⟩, trivial⟩) rfl h3 ?_
    intro w7 (h8 : sat g w7 [Cl r1 [.int .i64 0, .int .i64 0, .int .u32 0] 28, Dc b n X, R])
    refine plain_batch (rest := []) [⟨2, [], none⟩] (l' := ([(5, .int .i64 2), (13, .agg #[.int .i64 0, .int .i64 0, .int .u32 0]), (0, .pointer (some ⟨b, 0, none⟩)), (1, .int .i64 v), (4, .pointer (some ⟨r1, 0, none⟩)), (5, .int .i64 0), (12, .bool true)] : Fr) ++ lr6) (pts' := []) (eqs := []) (by kernel_rfl) trivial (AllC_nil _) ?_
    refine PO.mk ?_
    change WP _ _ (CA Try.f22 [1, 0, 1, 0, 1]) _ _ _
    refine fk_cut ([(0, .pointer (some ⟨b, 0, none⟩)), (1, .int .i64 v), (4, .pointer (some ⟨r1, 0, none⟩)), (5, .int .i64 2), (12, .bool true)] : Fr) (by kernel_rfl) (fun a => WP _ _ _ _ a _) (fun lr9 => ?_)
    refine gi_rt (by kernel_rfl) ?_
    repeat (first | simp only [Exit.inBlock] | simp only [Exit.then])
    have ho_ := opn_arg (X := X) (v := v) (by omega)
    have h10 : sat g w7 [Dc b n X, Cl r1 [.int .i64 0, .int .i64 0, .int .u32 0] 28, R] := sat_sel [1, 0, 2] rfl h8
    have h11 : sat g w7 [Dc b n X, R] := sat_sel [0, 2] rfl h10
    refine hi_out [.int .i64 0, .int .i64 0, .int .u32 0] (.tuple #[.agg #[.int .i64 0, .int .i64 0, .int .u32 0], .int .i64 2]) [(⟨r1, 0, none⟩, .int .i64 0), (⟨r1, 1, none⟩, .int .i64 0), (⟨r1, 2, none⟩, .int .u32 0)] (by kernel_rfl) (allq ⟨sat_cell h8 0 rfl rfl, sat_cell h8 0 rfl rfl, sat_cell h8 0 rfl rfl, trivial⟩) ?_
    exact ⟨.tuple #[.agg #[.int .i64 0, .int .i64 0, .int .u32 0], .int .i64 2], [Dc b n X], rfl, ⟨by rw [ho_.1, ho_.2.1], by rw [ho_.2.2]⟩, h11⟩
  ·
    refine plain_batch (rest := [4, 5]) [⟨1, [], some (.bool false)⟩, ⟨2, [], none⟩, ⟨3, [], none⟩] (l' := ([(10, .int .i64 v), (9, .bool false), (8, .bool false), (7, .int .i64 v), (0, .pointer (some ⟨b, 0, none⟩)), (1, .int .i64 v), (4, .pointer (some ⟨r1, 0, none⟩)), (5, .int .i64 0)] : Fr) ++ lr4) (pts' := []) (eqs := [(.bool (decide (v < 0)), .bool false)]) (by kernel_rfl) ⟨(ov_f (by omega)), trivial⟩ (AllC_nil _) ?_
    by_cases c12 : v > 65535
    ·
      refine plain_batch (rest := []) [⟨4, [], some (.bool true)⟩, ⟨5, [], none⟩] (l' := ([(12, .bool true), (11, .bool true), (10, .int .i64 v), (9, .bool false), (8, .bool false), (7, .int .i64 v), (0, .pointer (some ⟨b, 0, none⟩)), (1, .int .i64 v), (4, .pointer (some ⟨r1, 0, none⟩)), (5, .int .i64 0)] : Fr) ++ lr4) (pts' := []) (eqs := [(.bool (decide (v > 65535)), .bool true)]) (by kernel_rfl) ⟨(ov_t (by omega)), trivial⟩ (AllC_nil _) ?_
      refine PO.mk ?_
      change WP _ _ (CA Try.f22 [1, 0, 1]) _ _ _
      refine fk_cut ([(0, .pointer (some ⟨b, 0, none⟩)), (1, .int .i64 v), (4, .pointer (some ⟨r1, 0, none⟩)), (5, .int .i64 0), (12, .bool true)] : Fr) (by kernel_rfl) (fun a => WP _ _ _ _ a _) (fun lr13 => ?_)
      refine gi_cnd (x := (Operand.tmp 12)) (s := CA Try.f22 [1, 0, 1, 0]) (t := CA Try.f22 [1, 0, 1, 1]) true (by kernel_rfl) (by kernel_rfl) ?_
      change WP _ _ (CA Try.f22 [1, 0, 1, 0]) _ _ _
      refine gi_seq (x := CA Try.f22 [1, 0, 1, 0, 0]) (y := CA Try.f22 [1, 0, 1, 0, 1]) (by kernel_rfl) ?_
      refine gi_pln (id := 2) (ops := RA Try.f22 [1, 0, 1, 0, 0]) [0, 1, 2] (by kernel_rfl) (by kernel_rfl) (by kernel_rfl) ?_
      refine plain_batch (rest := [1, 2]) [⟨0, [], none⟩] (l' := ([(13, .agg #[.int .i64 0, .int .i64 0, .int .u32 0]), (0, .pointer (some ⟨b, 0, none⟩)), (1, .int .i64 v), (4, .pointer (some ⟨r1, 0, none⟩)), (5, .int .i64 0), (12, .bool true)] : Fr) ++ lr13) (pts' := []) (eqs := []) (by kernel_rfl) trivial (AllC_nil _) ?_
      refine plain_act (i := 1) (by kernel_rfl) ?_
      refine an_store [(0, .int .i64 0), (1, .int .i64 0), (2, .int .u32 0)] (cs' := [.int .i64 0, .int .i64 0, .int .u32 0]) (by kernel_rfl) (by kernel_rfl) (allq ⟨⟨by simp, rfl⟩, ⟨by simp, rfl⟩, ⟨by simp, rfl⟩, trivial⟩) rfl h3 ?_
      intro w14 (h15 : sat g w14 [Cl r1 [.int .i64 0, .int .i64 0, .int .u32 0] 28, Dc b n X, R])
      refine plain_batch (rest := []) [⟨2, [], none⟩] (l' := ([(5, .int .i64 2), (13, .agg #[.int .i64 0, .int .i64 0, .int .u32 0]), (0, .pointer (some ⟨b, 0, none⟩)), (1, .int .i64 v), (4, .pointer (some ⟨r1, 0, none⟩)), (5, .int .i64 0), (12, .bool true)] : Fr) ++ lr13) (pts' := []) (eqs := []) (by kernel_rfl) trivial (AllC_nil _) ?_
      refine PO.mk ?_
      change WP _ _ (CA Try.f22 [1, 0, 1, 0, 1]) _ _ _
      refine fk_cut ([(0, .pointer (some ⟨b, 0, none⟩)), (1, .int .i64 v), (4, .pointer (some ⟨r1, 0, none⟩)), (5, .int .i64 2), (12, .bool true)] : Fr) (by kernel_rfl) (fun a => WP _ _ _ _ a _) (fun lr16 => ?_)
      refine gi_rt (by kernel_rfl) ?_
      repeat (first | simp only [Exit.inBlock] | simp only [Exit.then])
      have ho_ := opn_arg (X := X) (v := v) (by omega)
      have h17 : sat g w14 [Dc b n X, Cl r1 [.int .i64 0, .int .i64 0, .int .u32 0] 28, R] := sat_sel [1, 0, 2] rfl h15
      have h18 : sat g w14 [Dc b n X, R] := sat_sel [0, 2] rfl h17
      refine hi_out [.int .i64 0, .int .i64 0, .int .u32 0] (.tuple #[.agg #[.int .i64 0, .int .i64 0, .int .u32 0], .int .i64 2]) [(⟨r1, 0, none⟩, .int .i64 0), (⟨r1, 1, none⟩, .int .i64 0), (⟨r1, 2, none⟩, .int .u32 0)] (by kernel_rfl) (allq ⟨sat_cell h15 0 rfl rfl, sat_cell h15 0 rfl rfl, sat_cell h15 0 rfl rfl, trivial⟩) ?_
      exact ⟨.tuple #[.agg #[.int .i64 0, .int .i64 0, .int .u32 0], .int .i64 2], [Dc b n X], rfl, ⟨by rw [ho_.1, ho_.2.1], by rw [ho_.2.2]⟩, h18⟩
    ·
      refine plain_batch (rest := []) [⟨4, [], some (.bool false)⟩, ⟨5, [], none⟩] (l' := ([(12, .bool false), (11, .bool false), (10, .int .i64 v), (9, .bool false), (8, .bool false), (7, .int .i64 v), (0, .pointer (some ⟨b, 0, none⟩)), (1, .int .i64 v), (4, .pointer (some ⟨r1, 0, none⟩)), (5, .int .i64 0)] : Fr) ++ lr4) (pts' := []) (eqs := [(.bool (decide (v > 65535)), .bool false)]) (by kernel_rfl) ⟨(ov_f (by omega)), trivial⟩ (AllC_nil _) ?_
      refine PO.mk ?_
      change WP _ _ (CA Try.f22 [1, 0, 1]) _ _ _
      refine fk_cut ([(0, .pointer (some ⟨b, 0, none⟩)), (1, .int .i64 v), (4, .pointer (some ⟨r1, 0, none⟩)), (5, .int .i64 0), (12, .bool false)] : Fr) (by kernel_rfl) (fun a => WP _ _ _ _ a _) (fun lr19 => ?_)
      refine gi_cnd (x := (Operand.tmp 12)) (s := CA Try.f22 [1, 0, 1, 0]) (t := CA Try.f22 [1, 0, 1, 1]) false (by kernel_rfl) (by kernel_rfl) ?_
      change WP _ _ (CA Try.f22 [1, 0, 1, 1]) _ _ _
      refine gi_skp (by kernel_rfl) ?_
      change WP _ _ (CA Try.f22 [1, 1]) _ _ _
      refine gi_seq (x := CA Try.f22 [1, 1, 0]) (y := CA Try.f22 [1, 1, 1]) (by kernel_rfl) ?_
      refine gi_seq (x := CA Try.f22 [1, 1, 0, 0]) (y := CA Try.f22 [1, 1, 0, 1]) (by kernel_rfl) ?_
      refine gi_pln (id := 3) (ops := RA Try.f22 [1, 1, 0, 0]) [0] (by kernel_rfl) (by kernel_rfl) (by kernel_rfl) ?_
      refine plain_batch (rest := []) [⟨0, [], none⟩] (l' := ([(6, .int .i64 0), (0, .pointer (some ⟨b, 0, none⟩)), (1, .int .i64 v), (4, .pointer (some ⟨r1, 0, none⟩)), (5, .int .i64 0), (12, .bool false)] : Fr) ++ lr19) (pts' := []) (eqs := []) (by kernel_rfl) trivial (AllC_nil _) ?_
      refine PO.mk ?_
      change WP _ _ (CA Try.f22 [1, 1, 0, 1]) _ _ _
      refine fk_cut ([(0, .pointer (some ⟨b, 0, none⟩)), (1, .int .i64 v), (4, .pointer (some ⟨r1, 0, none⟩)), (5, .int .i64 0), (6, .int .i64 0), (12, .bool false)] : Fr) (by kernel_rfl) (fun a => WP _ _ _ _ a _) (fun lr20 => ?_)
      refine gi_blk (id := 0) (x := CA Try.f22 [1, 1, 0, 1, 0]) (by kernel_rfl) ?_
      have h21 : sat g w2 [Dc b n X, Cl r1 [.int .i64 0, .int .i64 0, .int .u32 0] 28, R] := sat_sel [1, 0, 2] rfl h3
      obtain ⟨p22, c23, hD24, h25⟩ := dc_open h21
      have hXl_ := hD24.1; have hn1_ := hD24.2.1; have hn64_ := hD24.2.2.1; have hok_ := hD24.2.2.2; have hal_ := as_len X
      refine gi_lp (x := CA Try.f22 [1, 1, 0, 1, 0, 0]) (by kernel_rfl) (fun mz_ a w => ∃ i : Nat, ∃ lr : Fr, mz_ = n - i ∧ (i ≤ n) ∧ (cnt 0 (As X) i = 0) ∧ a = mk 69 (([(0, .pointer (some ⟨b, 0, none⟩)), (1, .int .i64 v), (4, .pointer (some ⟨r1, 0, none⟩)), (6, .int .i64 (((i : Nat) : Int)))] : Fr) ++ lr) ∧ sat g w [Cl b [.slice p22 n c23] 92, Sl 94 4 p22 n c23 (fl eId X), Cl r1 [.int .i64 0, .int .i64 0, .int .u32 0] 28, R]) (n - 0) ⟨0, _, rfl, (Nat.zero_le _), rfl, (mk_live [(0, .pointer (some ⟨b, 0, none⟩)), (1, .int .i64 v), (4, .pointer (some ⟨r1, 0, none⟩)), (6, .int .i64 (((0 : Nat) : Int)))] ⟨rfl, rfl, rfl, (ov_int (by omega)), trivial⟩), h25⟩ ?_
      rintro m27 a28 w29 ⟨i, lr26, rfl, hi, hc_, rfl, h30⟩
      change WP _ _ (CA Try.f22 [1, 1, 0, 1, 0, 0]) _ _ _
      refine gi_seq (x := CA Try.f22 [1, 1, 0, 1, 0, 0, 0]) (y := CA Try.f22 [1, 1, 0, 1, 0, 0, 1]) (by kernel_rfl) ?_
      refine gi_seq (x := CA Try.f22 [1, 1, 0, 1, 0, 0, 0, 0]) (y := CA Try.f22 [1, 1, 0, 1, 0, 0, 0, 1]) (by kernel_rfl) ?_
      refine gi_pln (id := 4) (ops := RA Try.f22 [1, 1, 0, 1, 0, 0, 0, 0]) [0, 1, 2, 3, 4, 5, 6] (by kernel_rfl) (by kernel_rfl) (by kernel_rfl) ?_
      refine plain_batch (rest := [6]) [⟨0, [], none⟩, ⟨1, [], none⟩, ⟨2, [], none⟩, ⟨3, [], none⟩, ⟨4, [.slice p22 n c23], none⟩, ⟨5, [], none⟩] (l' := ([(19, .int .i64 (((n : Nat) : Int))), (18, .slice p22 n c23), (17, .pointer (some ⟨b, 0, none⟩)), (16, .pointer (some ⟨b, 0, none⟩)), (15, .pointer (some ⟨b, 0, none⟩)), (14, .int .i64 (((i : Nat) : Int))), (0, .pointer (some ⟨b, 0, none⟩)), (1, .int .i64 v), (4, .pointer (some ⟨r1, 0, none⟩)), (6, .int .i64 (((i : Nat) : Int)))] : Fr) ++ lr26) (pts' := [(4, ⟨b, 0, none⟩, .slice p22 n c23)]) (eqs := []) (by kernel_rfl) trivial (AllC_cons (sat_cell h30 0 rfl rfl) (AllC_nil _)) ?_
      by_cases c31 : ((i : Nat) : Int) < ((n : Nat) : Int)
      ·
        refine plain_batch (rest := []) [⟨6, [], some (.bool true)⟩] (l' := ([(20, .bool true), (19, .int .i64 (((n : Nat) : Int))), (18, .slice p22 n c23), (17, .pointer (some ⟨b, 0, none⟩)), (16, .pointer (some ⟨b, 0, none⟩)), (15, .pointer (some ⟨b, 0, none⟩)), (14, .int .i64 (((i : Nat) : Int))), (0, .pointer (some ⟨b, 0, none⟩)), (1, .int .i64 v), (4, .pointer (some ⟨r1, 0, none⟩)), (6, .int .i64 (((i : Nat) : Int)))] : Fr) ++ lr26) (pts' := []) (eqs := [(.bool (decide (((i : Nat) : Int) < ((n : Nat) : Int))), .bool true)]) (by kernel_rfl) ⟨(ov_t (by omega)), trivial⟩ (AllC_nil _) ?_
        refine PO.mk ?_
        change WP _ _ (CA Try.f22 [1, 1, 0, 1, 0, 0, 0, 1]) _ _ _
        refine fk_cut ([(0, .pointer (some ⟨b, 0, none⟩)), (1, .int .i64 v), (4, .pointer (some ⟨r1, 0, none⟩)), (6, .int .i64 (((i : Nat) : Int))), (20, .bool true)] : Fr) (by kernel_rfl) (fun a => WP _ _ _ _ a _) (fun lr32 => ?_)
        refine gi_cnd (x := (Operand.tmp 20)) (s := CA Try.f22 [1, 1, 0, 1, 0, 0, 0, 1, 0]) (t := CA Try.f22 [1, 1, 0, 1, 0, 0, 0, 1, 1]) true (by kernel_rfl) (by kernel_rfl) ?_
        change WP _ _ (CA Try.f22 [1, 1, 0, 1, 0, 0, 0, 1, 0]) _ _ _
        refine gi_skp (by kernel_rfl) ?_
        change WP _ _ (CA Try.f22 [1, 1, 0, 1, 0, 0, 1]) _ _ _
        refine gi_seq (x := CA Try.f22 [1, 1, 0, 1, 0, 0, 1, 0]) (y := CA Try.f22 [1, 1, 0, 1, 0, 0, 1, 1]) (by kernel_rfl) ?_
        refine gi_blk (id := 1) (x := CA Try.f22 [1, 1, 0, 1, 0, 0, 1, 0, 0]) (by kernel_rfl) ?_
        refine gi_seq (x := CA Try.f22 [1, 1, 0, 1, 0, 0, 1, 0, 0, 0]) (y := CA Try.f22 [1, 1, 0, 1, 0, 0, 1, 0, 0, 1]) (by kernel_rfl) ?_
        refine gi_pln (id := 6) (ops := RA Try.f22 [1, 1, 0, 1, 0, 0, 1, 0, 0, 0]) [0, 1, 2, 3, 4, 5, 6, 7, 8, 9, 10, 11, 12, 13, 14, 15, 16, 17, 18, 19] (by kernel_rfl) (by kernel_rfl) (by kernel_rfl) ?_
        obtain ⟨b33, hp34⟩ := sl_ptr0 (j := 1) h30 rfl (by omega)
        refine plain_batch (rest := [5, 6, 7, 8, 9, 10, 11, 12, 13, 14, 15, 16, 17, 18, 19]) [⟨0, [], none⟩, ⟨1, [], none⟩, ⟨2, [], none⟩, ⟨3, [.slice p22 n c23], none⟩, ⟨4, [], none⟩] (l' := ([(27, .int .i64 (((i : Nat) : Int))), (26, .slice p22 n c23), (25, .pointer (some ⟨b, 0, none⟩)), (24, .pointer (some ⟨b, 0, none⟩)), (23, .pointer (some ⟨b, 0, none⟩)), (0, .pointer (some ⟨b, 0, none⟩)), (1, .int .i64 v), (4, .pointer (some ⟨r1, 0, none⟩)), (6, .int .i64 (((i : Nat) : Int))), (20, .bool true)] : Fr) ++ lr32) (pts' := [(3, ⟨b, 0, none⟩, .slice p22 n c23)]) (eqs := []) (by kernel_rfl) trivial (AllC_cons (sat_cell h30 0 rfl rfl) (AllC_nil _)) ?_
        refine plain_law (i := 5) 28 (.pointer (some ⟨b33, i * 4, none⟩)) (by kernel_rfl) (law_indexSlP (o := opA (RA Try.f22 [1, 1, 0, 1, 0, 0, 1, 0, 0, 0]) 5) (x := (Operand.tmp 26)) (i := (Operand.tmp 27)) (p := p22) (b := b33) (off := 0) (z := (((i : Nat) : Int))) (len := n) (cap := c23) (by kernel_rfl) Try.underlying90 4 (by kernel_rfl) i (by kernel_rfl) hp34 (by kernel_rfl) (by omega) (by omega) (i * 4) (by omega) _) ?_
        have h35 : sat g w29 [Sl 94 4 p22 n c23 (fl eId X), Cl b [.slice p22 n c23] 92, Cl r1 [.int .i64 0, .int .i64 0, .int .u32 0] 28, R] := sat_sel [1, 0, 2, 3] rfl h30
        have hl36 := fl_n eId_ok (by decide) h35
        obtain ⟨x37, hx38⟩ : ∃ x, X[i]? = some x := ⟨_, List.getElem?_eq_getElem (by rw [hl36]; omega)⟩
        have hb39 := slOk_as hok_ hx38
        refine plain_batch (rest := [7, 8, 9, 10, 11, 12, 13, 14, 15, 16, 17, 18, 19]) [⟨6, [], none⟩] (l' := ([(29, .pointer (some ⟨b33, i * 4, none⟩)), (28, .pointer (some ⟨b33, i * 4, none⟩)), (27, .int .i64 (((i : Nat) : Int))), (26, .slice p22 n c23), (25, .pointer (some ⟨b, 0, none⟩)), (24, .pointer (some ⟨b, 0, none⟩)), (23, .pointer (some ⟨b, 0, none⟩)), (0, .pointer (some ⟨b, 0, none⟩)), (1, .int .i64 v), (4, .pointer (some ⟨r1, 0, none⟩)), (6, .int .i64 (((i : Nat) : Int))), (20, .bool true)] : Fr) ++ lr32) (pts' := []) (eqs := []) (by kernel_rfl) trivial (AllC_nil _) ?_
        by_cases c40 : x37.1 = 1
        ·
          refine plain_batch (rest := []) [⟨7, [.bool (decide (x37.1 = 1))], some (.bool true)⟩, ⟨8, [], none⟩, ⟨9, [], none⟩, ⟨10, [], none⟩, ⟨11, [], none⟩, ⟨12, [], none⟩, ⟨13, [], none⟩, ⟨14, [], none⟩, ⟨15, [], none⟩, ⟨16, [], none⟩, ⟨17, [], none⟩, ⟨18, [], none⟩, ⟨19, [], none⟩] (l' := ([(42, .bool false), (41, undef), (40, undef), (39, undef), (38, undef), (37, undef), (36, undef), (35, undef), (34, undef), (33, undef), (32, .bool false), (31, .bool false), (30, .bool true), (29, .pointer (some ⟨b33, i * 4, none⟩)), (28, .pointer (some ⟨b33, i * 4, none⟩)), (27, .int .i64 (((i : Nat) : Int))), (26, .slice p22 n c23), (25, .pointer (some ⟨b, 0, none⟩)), (24, .pointer (some ⟨b, 0, none⟩)), (23, .pointer (some ⟨b, 0, none⟩)), (0, .pointer (some ⟨b, 0, none⟩)), (1, .int .i64 v), (4, .pointer (some ⟨r1, 0, none⟩)), (6, .int .i64 (((i : Nat) : Int))), (20, .bool true)] : Fr) ++ lr32) (pts' := [(7, ⟨b33, i * 4, none⟩, .bool (decide (x37.1 = 1)))]) (eqs := [(.bool (decide (x37.1 = 1)), .bool true)]) (by kernel_rfl) ⟨(ov_b (decide_eq_true (by omega))), trivial⟩ (AllC_cons (gv_cell (j := 0) h35 rfl (gv_sl _ _ _) hp34 (fl_get eId_ok (j := 0) (v := .bool (decide (x37.1 = 1))) hx38 rfl) (i * 4) (by omega)) (AllC_nil _)) ?_
          refine PO.mk ?_
          change WP _ _ (CA Try.f22 [1, 1, 0, 1, 0, 0, 1, 0, 0, 1]) _ _ _
          refine fk_cut ([(0, .pointer (some ⟨b, 0, none⟩)), (1, .int .i64 v), (4, .pointer (some ⟨r1, 0, none⟩)), (6, .int .i64 (((i : Nat) : Int))), (20, .bool true), (42, .bool false)] : Fr) (by kernel_rfl) (fun a => WP _ _ _ _ a _) (fun lr41 => ?_)
          refine gi_cnd (x := (Operand.tmp 42)) (s := CA Try.f22 [1, 1, 0, 1, 0, 0, 1, 0, 0, 1, 0]) (t := CA Try.f22 [1, 1, 0, 1, 0, 0, 1, 0, 0, 1, 1]) false (by kernel_rfl) (by kernel_rfl) ?_
          change WP _ _ (CA Try.f22 [1, 1, 0, 1, 0, 0, 1, 0, 0, 1, 1]) _ _ _
          refine gi_skp (by kernel_rfl) ?_
          change WP _ _ (CA Try.f22 [1, 1, 0, 1, 0, 0, 1, 1]) _ _ _
          refine gi_pln (id := 5) (ops := RA Try.f22 [1, 1, 0, 1, 0, 0, 1, 1]) [0, 1, 2] (by kernel_rfl) (by kernel_rfl) (by kernel_rfl) ?_
          refine plain_batch (rest := []) [⟨0, [], none⟩, ⟨1, [], some (.int .i64 (((i : Nat) : Int) + 1))⟩, ⟨2, [], none⟩] (l' := ([(6, .int .i64 (((i : Nat) : Int) + 1)), (22, .int .i64 (((i : Nat) : Int) + 1)), (21, .int .i64 (((i : Nat) : Int))), (0, .pointer (some ⟨b, 0, none⟩)), (1, .int .i64 v), (4, .pointer (some ⟨r1, 0, none⟩)), (6, .int .i64 (((i : Nat) : Int))), (20, .bool true), (42, .bool false)] : Fr) ++ lr41) (pts' := []) (eqs := [(.int .i64 (IntKind.wrap .i64 ((((i : Nat) : Int)) + 1)), .int .i64 (((i : Nat) : Int) + 1))]) (by kernel_rfl) ⟨(ov_i64 (by omega) (by omega) (by omega)), trivial⟩ (AllC_nil _) ?_
          refine PO.mk ?_
          have h42 : sat g w29 [Cl b [.slice p22 n c23] 92, Sl 94 4 p22 n c23 (fl eId X), Cl r1 [.int .i64 0, .int .i64 0, .int .u32 0] 28, R] := sat_sel [1, 0, 2, 3] rfl h35
          change ∃ n', n' < _ ∧ _
          refine ⟨(n - (i + 1)), by omega, (i + 1), _, rfl, (by omega), ((cnt_no (q := 0) (as_get hx38) (by show ¬ x37.1 = 0; omega)).trans hc_), (mk_live [(0, .pointer (some ⟨b, 0, none⟩)), (1, .int .i64 v), (4, .pointer (some ⟨r1, 0, none⟩)), (6, .int .i64 ((((i + 1) : Nat) : Int)))] ⟨rfl, rfl, rfl, (ov_int (by omega)), trivial⟩), h42⟩
        ·
          refine plain_batch (rest := [15, 16, 17, 18, 19]) [⟨7, [.bool (decide (x37.1 = 1))], some (.bool false)⟩, ⟨8, [], none⟩, ⟨9, [], none⟩, ⟨10, [], none⟩, ⟨11, [], none⟩, ⟨12, [], none⟩, ⟨13, [.slice p22 n c23], none⟩, ⟨14, [], none⟩] (l' := ([(37, .int .i64 (((i : Nat) : Int))), (36, .slice p22 n c23), (35, .pointer (some ⟨b, 0, none⟩)), (34, .pointer (some ⟨b, 0, none⟩)), (33, .pointer (some ⟨b, 0, none⟩)), (32, .bool true), (31, .bool true), (30, .bool false), (29, .pointer (some ⟨b33, i * 4, none⟩)), (28, .pointer (some ⟨b33, i * 4, none⟩)), (27, .int .i64 (((i : Nat) : Int))), (26, .slice p22 n c23), (25, .pointer (some ⟨b, 0, none⟩)), (24, .pointer (some ⟨b, 0, none⟩)), (23, .pointer (some ⟨b, 0, none⟩)), (0, .pointer (some ⟨b, 0, none⟩)), (1, .int .i64 v), (4, .pointer (some ⟨r1, 0, none⟩)), (6, .int .i64 (((i : Nat) : Int))), (20, .bool true)] : Fr) ++ lr32) (pts' := [(13, ⟨b, 0, none⟩, .slice p22 n c23), (7, ⟨b33, i * 4, none⟩, .bool (decide (x37.1 = 1)))]) (eqs := [(.bool (decide (x37.1 = 1)), .bool false)]) (by kernel_rfl) ⟨(ov_b (decide_eq_false (by omega))), trivial⟩ (AllC_cons (sat_cell h35 1 rfl rfl) (AllC_cons (gv_cell (j := 0) h35 rfl (gv_sl _ _ _) hp34 (fl_get eId_ok (j := 0) (v := .bool (decide (x37.1 = 1))) hx38 rfl) (i * 4) (by omega)) (AllC_nil _))) ?_
          refine plain_law (i := 15) 38 (.pointer (some ⟨b33, i * 4, none⟩)) (by kernel_rfl) (law_indexSlP (o := opA (RA Try.f22 [1, 1, 0, 1, 0, 0, 1, 0, 0, 0]) 15) (x := (Operand.tmp 36)) (i := (Operand.tmp 37)) (p := p22) (b := b33) (off := 0) (z := (((i : Nat) : Int))) (len := n) (cap := c23) (by kernel_rfl) Try.underlying90 4 (by kernel_rfl) i (by kernel_rfl) hp34 (by kernel_rfl) (by omega) (by omega) (i * 4) (by omega) _) ?_
          refine plain_batch (rest := [17, 18, 19]) [⟨16, [], none⟩] (l' := ([(39, .pointer (some ⟨b33, i * 4 + 1, none⟩)), (38, .pointer (some ⟨b33, i * 4, none⟩)), (37, .int .i64 (((i : Nat) : Int))), (36, .slice p22 n c23), (35, .pointer (some ⟨b, 0, none⟩)), (34, .pointer (some ⟨b, 0, none⟩)), (33, .pointer (some ⟨b, 0, none⟩)), (32, .bool true), (31, .bool true), (30, .bool false), (29, .pointer (some ⟨b33, i * 4, none⟩)), (28, .pointer (some ⟨b33, i * 4, none⟩)), (27, .int .i64 (((i : Nat) : Int))), (26, .slice p22 n c23), (25, .pointer (some ⟨b, 0, none⟩)), (24, .pointer (some ⟨b, 0, none⟩)), (23, .pointer (some ⟨b, 0, none⟩)), (0, .pointer (some ⟨b, 0, none⟩)), (1, .int .i64 v), (4, .pointer (some ⟨r1, 0, none⟩)), (6, .int .i64 (((i : Nat) : Int))), (20, .bool true)] : Fr) ++ lr32) (pts' := []) (eqs := []) (by kernel_rfl) trivial (AllC_nil _) ?_
          by_cases c43 : x37.1 = 2
          ·
            refine plain_batch (rest := []) [⟨17, [.bool (decide (x37.1 = 2))], some (.bool true)⟩, ⟨18, [], none⟩, ⟨19, [], none⟩] (l' := ([(42, .bool false), (41, .bool false), (40, .bool true), (39, .pointer (some ⟨b33, i * 4 + 1, none⟩)), (38, .pointer (some ⟨b33, i * 4, none⟩)), (37, .int .i64 (((i : Nat) : Int))), (36, .slice p22 n c23), (35, .pointer (some ⟨b, 0, none⟩)), (34, .pointer (some ⟨b, 0, none⟩)), (33, .pointer (some ⟨b, 0, none⟩)), (32, .bool true), (31, .bool true), (30, .bool false), (29, .pointer (some ⟨b33, i * 4, none⟩)), (28, .pointer (some ⟨b33, i * 4, none⟩)), (27, .int .i64 (((i : Nat) : Int))), (26, .slice p22 n c23), (25, .pointer (some ⟨b, 0, none⟩)), (24, .pointer (some ⟨b, 0, none⟩)), (23, .pointer (some ⟨b, 0, none⟩)), (0, .pointer (some ⟨b, 0, none⟩)), (1, .int .i64 v), (4, .pointer (some ⟨r1, 0, none⟩)), (6, .int .i64 (((i : Nat) : Int))), (20, .bool true)] : Fr) ++ lr32) (pts' := [(17, ⟨b33, i * 4 + 1, none⟩, .bool (decide (x37.1 = 2)))]) (eqs := [(.bool (decide (x37.1 = 2)), .bool true)]) (by kernel_rfl) ⟨(ov_b (decide_eq_true (by omega))), trivial⟩ (AllC_cons (gv_cell (j := 0) h35 rfl (gv_sl _ _ _) hp34 (fl_get eId_ok (j := 1) (v := .bool (decide (x37.1 = 2))) hx38 rfl) (i * 4 + 1) (by omega)) (AllC_nil _)) ?_
            refine PO.mk ?_
            change WP _ _ (CA Try.f22 [1, 1, 0, 1, 0, 0, 1, 0, 0, 1]) _ _ _
            refine fk_cut ([(0, .pointer (some ⟨b, 0, none⟩)), (1, .int .i64 v), (4, .pointer (some ⟨r1, 0, none⟩)), (6, .int .i64 (((i : Nat) : Int))), (20, .bool true), (42, .bool false)] : Fr) (by kernel_rfl) (fun a => WP _ _ _ _ a _) (fun lr44 => ?_)
            refine gi_cnd (x := (Operand.tmp 42)) (s := CA Try.f22 [1, 1, 0, 1, 0, 0, 1, 0, 0, 1, 0]) (t := CA Try.f22 [1, 1, 0, 1, 0, 0, 1, 0, 0, 1, 1]) false (by kernel_rfl) (by kernel_rfl) ?_
            change WP _ _ (CA Try.f22 [1, 1, 0, 1, 0, 0, 1, 0, 0, 1, 1]) _ _ _
            refine gi_skp (by kernel_rfl) ?_
            change WP _ _ (CA Try.f22 [1, 1, 0, 1, 0, 0, 1, 1]) _ _ _
            refine gi_pln (id := 5) (ops := RA Try.f22 [1, 1, 0, 1, 0, 0, 1, 1]) [0, 1, 2] (by kernel_rfl) (by kernel_rfl) (by kernel_rfl) ?_
            refine plain_batch (rest := []) [⟨0, [], none⟩, ⟨1, [], some (.int .i64 (((i : Nat) : Int) + 1))⟩, ⟨2, [], none⟩] (l' := ([(6, .int .i64 (((i : Nat) : Int) + 1)), (22, .int .i64 (((i : Nat) : Int) + 1)), (21, .int .i64 (((i : Nat) : Int))), (0, .pointer (some ⟨b, 0, none⟩)), (1, .int .i64 v), (4, .pointer (some ⟨r1, 0, none⟩)), (6, .int .i64 (((i : Nat) : Int))), (20, .bool true), (42, .bool false)] : Fr) ++ lr44) (pts' := []) (eqs := [(.int .i64 (IntKind.wrap .i64 ((((i : Nat) : Int)) + 1)), .int .i64 (((i : Nat) : Int) + 1))]) (by kernel_rfl) ⟨(ov_i64 (by omega) (by omega) (by omega)), trivial⟩ (AllC_nil _) ?_
            refine PO.mk ?_
            have h45 : sat g w29 [Cl b [.slice p22 n c23] 92, Sl 94 4 p22 n c23 (fl eId X), Cl r1 [.int .i64 0, .int .i64 0, .int .u32 0] 28, R] := sat_sel [1, 0, 2, 3] rfl h35
            change ∃ n', n' < _ ∧ _
            refine ⟨(n - (i + 1)), by omega, (i + 1), _, rfl, (by omega), ((cnt_no (q := 0) (as_get hx38) (by show ¬ x37.1 = 0; omega)).trans hc_), (mk_live [(0, .pointer (some ⟨b, 0, none⟩)), (1, .int .i64 v), (4, .pointer (some ⟨r1, 0, none⟩)), (6, .int .i64 ((((i + 1) : Nat) : Int)))] ⟨rfl, rfl, rfl, (ov_int (by omega)), trivial⟩), h45⟩
          ·
            refine plain_batch (rest := []) [⟨17, [.bool (decide (x37.1 = 2))], some (.bool false)⟩, ⟨18, [], none⟩, ⟨19, [], none⟩] (l' := ([(42, .bool true), (41, .bool true), (40, .bool false), (39, .pointer (some ⟨b33, i * 4 + 1, none⟩)), (38, .pointer (some ⟨b33, i * 4, none⟩)), (37, .int .i64 (((i : Nat) : Int))), (36, .slice p22 n c23), (35, .pointer (some ⟨b, 0, none⟩)), (34, .pointer (some ⟨b, 0, none⟩)), (33, .pointer (some ⟨b, 0, none⟩)), (32, .bool true), (31, .bool true), (30, .bool false), (29, .pointer (some ⟨b33, i * 4, none⟩)), (28, .pointer (some ⟨b33, i * 4, none⟩)), (27, .int .i64 (((i : Nat) : Int))), (26, .slice p22 n c23), (25, .pointer (some ⟨b, 0, none⟩)), (24, .pointer (some ⟨b, 0, none⟩)), (23, .pointer (some ⟨b, 0, none⟩)), (0, .pointer (some ⟨b, 0, none⟩)), (1, .int .i64 v), (4, .pointer (some ⟨r1, 0, none⟩)), (6, .int .i64 (((i : Nat) : Int))), (20, .bool true)] : Fr) ++ lr32) (pts' := [(17, ⟨b33, i * 4 + 1, none⟩, .bool (decide (x37.1 = 2)))]) (eqs := [(.bool (decide (x37.1 = 2)), .bool false)]) (by kernel_rfl) ⟨(ov_b (decide_eq_false (by omega))), trivial⟩ (AllC_cons (gv_cell (j := 0) h35 rfl (gv_sl _ _ _) hp34 (fl_get eId_ok (j := 1) (v := .bool (decide (x37.1 = 2))) hx38 rfl) (i * 4 + 1) (by omega)) (AllC_nil _)) ?_
            refine PO.mk ?_
            change WP _ _ (CA Try.f22 [1, 1, 0, 1, 0, 0, 1, 0, 0, 1]) _ _ _
            refine fk_cut ([(0, .pointer (some ⟨b, 0, none⟩)), (1, .int .i64 v), (4, .pointer (some ⟨r1, 0, none⟩)), (6, .int .i64 (((i : Nat) : Int))), (20, .bool true), (42, .bool true)] : Fr) (by kernel_rfl) (fun a => WP _ _ _ _ a _) (fun lr46 => ?_)
            refine gi_cnd (x := (Operand.tmp 42)) (s := CA Try.f22 [1, 1, 0, 1, 0, 0, 1, 0, 0, 1, 0]) (t := CA Try.f22 [1, 1, 0, 1, 0, 0, 1, 0, 0, 1, 1]) true (by kernel_rfl) (by kernel_rfl) ?_
            change WP _ _ (CA Try.f22 [1, 1, 0, 1, 0, 0, 1, 0, 0, 1, 0]) _ _ _
            refine gi_seq (x := CA Try.f22 [1, 1, 0, 1, 0, 0, 1, 0, 0, 1, 0, 0]) (y := CA Try.f22 [1, 1, 0, 1, 0, 0, 1, 0, 0, 1, 0, 1]) (by kernel_rfl) ?_
            refine gi_pln (id := 7) (ops := RA Try.f22 [1, 1, 0, 1, 0, 0, 1, 0, 0, 1, 0, 0]) [0, 1, 2, 3, 4, 5, 6, 7] (by kernel_rfl) (by kernel_rfl) (by kernel_rfl) ?_
            refine plain_batch (rest := [5, 6, 7]) [⟨0, [], none⟩, ⟨1, [], none⟩, ⟨2, [], none⟩, ⟨3, [.slice p22 n c23], none⟩, ⟨4, [], none⟩] (l' := ([(47, .int .i64 (((i : Nat) : Int))), (46, .slice p22 n c23), (45, .pointer (some ⟨b, 0, none⟩)), (44, .pointer (some ⟨b, 0, none⟩)), (43, .pointer (some ⟨b, 0, none⟩)), (0, .pointer (some ⟨b, 0, none⟩)), (1, .int .i64 v), (4, .pointer (some ⟨r1, 0, none⟩)), (6, .int .i64 (((i : Nat) : Int))), (20, .bool true), (42, .bool true)] : Fr) ++ lr46) (pts' := [(3, ⟨b, 0, none⟩, .slice p22 n c23)]) (eqs := []) (by kernel_rfl) trivial (AllC_cons (sat_cell h35 1 rfl rfl) (AllC_nil _)) ?_
            refine plain_law (i := 5) 48 (.pointer (some ⟨b33, i * 4, none⟩)) (by kernel_rfl) (law_indexSlP (o := opA (RA Try.f22 [1, 1, 0, 1, 0, 0, 1, 0, 0, 1, 0, 0]) 5) (x := (Operand.tmp 46)) (i := (Operand.tmp 47)) (p := p22) (b := b33) (off := 0) (z := (((i : Nat) : Int))) (len := n) (cap := c23) (by kernel_rfl) Try.underlying90 4 (by kernel_rfl) i (by kernel_rfl) hp34 (by kernel_rfl) (by omega) (by omega) (i * 4) (by omega) _) ?_
            refine plain_batch (rest := [7]) [⟨6, [], none⟩] (l' := ([(49, .pointer (some ⟨b33, i * 4, none⟩)), (48, .pointer (some ⟨b33, i * 4, none⟩)), (47, .int .i64 (((i : Nat) : Int))), (46, .slice p22 n c23), (45, .pointer (some ⟨b, 0, none⟩)), (44, .pointer (some ⟨b, 0, none⟩)), (43, .pointer (some ⟨b, 0, none⟩)), (0, .pointer (some ⟨b, 0, none⟩)), (1, .int .i64 v), (4, .pointer (some ⟨r1, 0, none⟩)), (6, .int .i64 (((i : Nat) : Int))), (20, .bool true), (42, .bool true)] : Fr) ++ lr46) (pts' := []) (eqs := []) (by kernel_rfl) trivial (AllC_nil _) ?_
            refine plain_act (i := 7) (by kernel_rfl) ?_
            refine an_storeSl (b := b33) [(i * 4, .bool true)] (cs' := (fl eId (X.set i (1, x37.2.1, x37.2.2)))) (by kernel_rfl) (by kernel_rfl) hp34 (allq ⟨⟨by omega, rfl⟩, trivial⟩) (by omega) (fl_upd eId_ok (i := i) (x := x37) (y := (1, x37.2.1, x37.2.2)) hx38 [(0, .bool true)] rfl (by simp [setL, eId, show ¬ x37.1 = 2 from by omega]) rfl) h35 ?_
            intro w47 (h48 : sat g w47 [Sl 94 4 p22 n c23 (fl eId (X.set i (1, x37.2.1, x37.2.2))), Cl b [.slice p22 n c23] 92, Cl r1 [.int .i64 0, .int .i64 0, .int .u32 0] 28, R])
            refine PO.mk ?_
            change WP _ _ (CA Try.f22 [1, 1, 0, 1, 0, 0, 1, 0, 0, 1, 0, 1]) _ _ _
            refine fk_cut ([(0, .pointer (some ⟨b, 0, none⟩)), (1, .int .i64 v), (4, .pointer (some ⟨r1, 0, none⟩)), (6, .int .i64 (((i : Nat) : Int))), (20, .bool true), (42, .bool true)] : Fr) (by kernel_rfl) (fun a => WP _ _ _ _ a _) (fun lr49 => ?_)
            refine gi_seq (x := CA Try.f22 [1, 1, 0, 1, 0, 0, 1, 0, 0, 1, 0, 1, 0]) (y := CA Try.f22 [1, 1, 0, 1, 0, 0, 1, 0, 0, 1, 0, 1, 1]) (by kernel_rfl) ?_
            refine gi_pln (id := 8) (ops := RA Try.f22 [1, 1, 0, 1, 0, 0, 1, 0, 0, 1, 0, 1, 0]) [0, 1, 2, 3, 4, 5, 6, 7, 8] (by kernel_rfl) (by kernel_rfl) (by kernel_rfl) ?_
            refine plain_batch (rest := [6, 7, 8]) [⟨0, [], none⟩, ⟨1, [], none⟩, ⟨2, [], none⟩, ⟨3, [.slice p22 n c23], none⟩, ⟨4, [], none⟩, ⟨5, [], none⟩] (l' := ([(55, .int .i64 v), (54, .int .i64 (((i : Nat) : Int))), (53, .slice p22 n c23), (52, .pointer (some ⟨b, 0, none⟩)), (51, .pointer (some ⟨b, 0, none⟩)), (50, .pointer (some ⟨b, 0, none⟩)), (0, .pointer (some ⟨b, 0, none⟩)), (1, .int .i64 v), (4, .pointer (some ⟨r1, 0, none⟩)), (6, .int .i64 (((i : Nat) : Int))), (20, .bool true), (42, .bool true)] : Fr) ++ lr49) (pts' := [(3, ⟨b, 0, none⟩, .slice p22 n c23)]) (eqs := []) (by kernel_rfl) trivial (AllC_cons (sat_cell h48 1 rfl rfl) (AllC_nil _)) ?_
            refine plain_law (i := 6) 56 (.pointer (some ⟨b33, i * 4, none⟩)) (by kernel_rfl) (law_indexSlP (o := opA (RA Try.f22 [1, 1, 0, 1, 0, 0, 1, 0, 0, 1, 0, 1, 0]) 6) (x := (Operand.tmp 53)) (i := (Operand.tmp 54)) (p := p22) (b := b33) (off := 0) (z := (((i : Nat) : Int))) (len := n) (cap := c23) (by kernel_rfl) Try.underlying90 4 (by kernel_rfl) i (by kernel_rfl) hp34 (by kernel_rfl) (by omega) (by omega) (i * 4) (by omega) _) ?_
            refine plain_batch (rest := [8]) [⟨7, [], none⟩] (l' := ([(57, .pointer (some ⟨b33, i * 4 + 3, none⟩)), (56, .pointer (some ⟨b33, i * 4, none⟩)), (55, .int .i64 v), (54, .int .i64 (((i : Nat) : Int))), (53, .slice p22 n c23), (52, .pointer (some ⟨b, 0, none⟩)), (51, .pointer (some ⟨b, 0, none⟩)), (50, .pointer (some ⟨b, 0, none⟩)), (0, .pointer (some ⟨b, 0, none⟩)), (1, .int .i64 v), (4, .pointer (some ⟨r1, 0, none⟩)), (6, .int .i64 (((i : Nat) : Int))), (20, .bool true), (42, .bool true)] : Fr) ++ lr49) (pts' := []) (eqs := []) (by kernel_rfl) trivial (AllC_nil _) ?_
            refine plain_act (i := 8) (by kernel_rfl) ?_
            have hl52 := fl_n eId_ok (by decide) h48
            refine an_storeSl (b := b33) [(i * 4 + 3, .int .i64 v)] (cs' := (fl eId ((X.set i (1, x37.2.1, x37.2.2)).set i (1, x37.2.1, v)))) (by kernel_rfl) (by kernel_rfl) hp34 (allq ⟨⟨by omega, rfl⟩, trivial⟩) (by omega) (fl_upd eId_ok (i := i) (x := (1, x37.2.1, x37.2.2)) (y := (1, x37.2.1, v)) (set_at hx38) [(3, .int .i64 v)] rfl rfl rfl) h48 ?_
            intro w50 (h51 : sat g w50 [Sl 94 4 p22 n c23 (fl eId ((X.set i (1, x37.2.1, x37.2.2)).set i (1, x37.2.1, v))), Cl b [.slice p22 n c23] 92, Cl r1 [.int .i64 0, .int .i64 0, .int .u32 0] 28, R])
            refine PO.mk ?_
            change WP _ _ (CA Try.f22 [1, 1, 0, 1, 0, 0, 1, 0, 0, 1, 0, 1, 1]) _ _ _
            refine fk_cut ([(0, .pointer (some ⟨b, 0, none⟩)), (1, .int .i64 v), (4, .pointer (some ⟨r1, 0, none⟩)), (6, .int .i64 (((i : Nat) : Int))), (20, .bool true), (42, .bool true)] : Fr) (by kernel_rfl) (fun a => WP _ _ _ _ a _) (fun lr53 => ?_)
            refine gi_seq (x := CA Try.f22 [1, 1, 0, 1, 0, 0, 1, 0, 0, 1, 0, 1, 1, 0]) (y := CA Try.f22 [1, 1, 0, 1, 0, 0, 1, 0, 0, 1, 0, 1, 1, 1]) (by kernel_rfl) ?_
            refine gi_pln (id := 9) (ops := RA Try.f22 [1, 1, 0, 1, 0, 0, 1, 0, 0, 1, 0, 1, 1, 0]) [0, 1, 2, 3, 4, 5, 6, 7, 8, 9, 10, 11] (by kernel_rfl) (by kernel_rfl) (by kernel_rfl) ?_
            refine plain_batch (rest := [6, 7, 8, 9, 10, 11]) [⟨0, [], none⟩, ⟨1, [], none⟩, ⟨2, [], none⟩, ⟨3, [], none⟩, ⟨4, [.slice p22 n c23], none⟩, ⟨5, [], none⟩] (l' := ([(63, .int .i64 (((i : Nat) : Int))), (62, .slice p22 n c23), (61, .pointer (some ⟨b, 0, none⟩)), (60, .pointer (some ⟨b, 0, none⟩)), (59, .pointer (some ⟨b, 0, none⟩)), (58, .int .i64 (((i : Nat) : Int))), (0, .pointer (some ⟨b, 0, none⟩)), (1, .int .i64 v), (4, .pointer (some ⟨r1, 0, none⟩)), (6, .int .i64 (((i : Nat) : Int))), (20, .bool true), (42, .bool true)] : Fr) ++ lr53) (pts' := [(4, ⟨b, 0, none⟩, .slice p22 n c23)]) (eqs := []) (by kernel_rfl) trivial (AllC_cons (sat_cell h51 1 rfl rfl) (AllC_nil _)) ?_
            refine plain_law (i := 6) 64 (.pointer (some ⟨b33, i * 4, none⟩)) (by kernel_rfl) (law_indexSlP (o := opA (RA Try.f22 [1, 1, 0, 1, 0, 0, 1, 0, 0, 1, 0, 1, 1, 0]) 6) (x := (Operand.tmp 62)) (i := (Operand.tmp 63)) (p := p22) (b := b33) (off := 0) (z := (((i : Nat) : Int))) (len := n) (cap := c23) (by kernel_rfl) Try.underlying90 4 (by kernel_rfl) i (by kernel_rfl) hp34 (by kernel_rfl) (by omega) (by omega) (i * 4) (by omega) _) ?_
            have hl54 := fl_n eId_ok (by decide) h51
            refine plain_batch (rest := [10, 11]) [⟨7, [], none⟩, ⟨8, [.int .u32 x37.2.1], none⟩, ⟨9, [], none⟩] (l' := ([(67, .agg #[.int .i64 1, .int .i64 (((i : Nat) : Int)), .int .u32 x37.2.1]), (66, .int .u32 x37.2.1), (65, .pointer (some ⟨b33, i * 4 + 2, none⟩)), (64, .pointer (some ⟨b33, i * 4, none⟩)), (63, .int .i64 (((i : Nat) : Int))), (62, .slice p22 n c23), (61, .pointer (some ⟨b, 0, none⟩)), (60, .pointer (some ⟨b, 0, none⟩)), (59, .pointer (some ⟨b, 0, none⟩)), (58, .int .i64 (((i : Nat) : Int))), (0, .pointer (some ⟨b, 0, none⟩)), (1, .int .i64 v), (4, .pointer (some ⟨r1, 0, none⟩)), (6, .int .i64 (((i : Nat) : Int))), (20, .bool true), (42, .bool true)] : Fr) ++ lr53) (pts' := [(8, ⟨b33, i * 4 + 2, none⟩, .int .u32 x37.2.1)]) (eqs := []) (by kernel_rfl) trivial (AllC_cons (gv_cell (j := 0) h51 rfl (gv_sl _ _ _) hp34 (fl_get eId_ok (j := 2) (v := .int .u32 x37.2.1) (set_at (set_at hx38)) rfl) (i * 4 + 2) (by omega)) (AllC_nil _)) ?_
            have h55 : sat g w50 [Cl r1 [.int .i64 0, .int .i64 0, .int .u32 0] 28, Sl 94 4 p22 n c23 (fl eId ((X.set i (1, x37.2.1, x37.2.2)).set i (1, x37.2.1, v))), Cl b [.slice p22 n c23] 92, R] := sat_sel [2, 0, 1, 3] rfl h51
            refine plain_act (i := 10) (by kernel_rfl) ?_
            refine an_store [(0, .int .i64 1), (1, .int .i64 (((i : Nat) : Int))), (2, .int .u32 x37.2.1)] (cs' := [.int .i64 1, .int .i64 (((i : Nat) : Int)), .int .u32 x37.2.1]) (by kernel_rfl) (by kernel_rfl) (allq ⟨⟨by simp, rfl⟩, ⟨by simp, rfl⟩, ⟨by simp, rfl⟩, trivial⟩) rfl h55 ?_
            intro w56 (h57 : sat g w56 [Cl r1 [.int .i64 1, .int .i64 (((i : Nat) : Int)), .int .u32 x37.2.1] 28, Sl 94 4 p22 n c23 (fl eId ((X.set i (1, x37.2.1, x37.2.2)).set i (1, x37.2.1, v))), Cl b [.slice p22 n c23] 92, R])
            refine plain_batch (rest := []) [⟨11, [], none⟩] (l' := ([(5, .int .i64 0), (67, .agg #[.int .i64 1, .int .i64 (((i : Nat) : Int)), .int .u32 x37.2.1]), (66, .int .u32 x37.2.1), (65, .pointer (some ⟨b33, i * 4 + 2, none⟩)), (64, .pointer (some ⟨b33, i * 4, none⟩)), (63, .int .i64 (((i : Nat) : Int))), (62, .slice p22 n c23), (61, .pointer (some ⟨b, 0, none⟩)), (60, .pointer (some ⟨b, 0, none⟩)), (59, .pointer (some ⟨b, 0, none⟩)), (58, .int .i64 (((i : Nat) : Int))), (0, .pointer (some ⟨b, 0, none⟩)), (1, .int .i64 v), (4, .pointer (some ⟨r1, 0, none⟩)), (6, .int .i64 (((i : Nat) : Int))), (20, .bool true), (42, .bool true)] : Fr) ++ lr53) (pts' := []) (eqs := []) (by kernel_rfl) trivial (AllC_nil _) ?_
            refine PO.mk ?_
            change WP _ _ (CA Try.f22 [1, 1, 0, 1, 0, 0, 1, 0, 0, 1, 0, 1, 1, 1]) _ _ _
            refine fk_cut ([(0, .pointer (some ⟨b, 0, none⟩)), (1, .int .i64 v), (4, .pointer (some ⟨r1, 0, none⟩)), (5, .int .i64 0), (6, .int .i64 (((i : Nat) : Int))), (20, .bool true), (42, .bool true)] : Fr) (by kernel_rfl) (fun a => WP _ _ _ _ a _) (fun lr58 => ?_)
            refine gi_rt (by kernel_rfl) ?_
            repeat (first | simp only [Exit.inBlock] | simp only [Exit.then])
            have ho_ := opn_ok (X := X) (v := v) ⟨by omega, by omega⟩ (opn_first hx38 (by omega) hc_)
            have h59 : sat g w56 [Cl b [.slice p22 n c23] 92, Sl 94 4 p22 n c23 (fl eId ((X.set i (1, x37.2.1, x37.2.2)).set i (1, x37.2.1, v))), Cl r1 [.int .i64 1, .int .i64 (((i : Nat) : Int)), .int .u32 x37.2.1] 28, R] := sat_sel [2, 1, 0, 3] rfl h57
            have h60 : sat g w56 [Sl 94 4 p22 n c23 (fl eId ((X.set i (1, x37.2.1, x37.2.2)).set i (1, x37.2.1, v))), Cl b [.slice p22 n c23] 92, Cl r1 [.int .i64 1, .int .i64 (((i : Nat) : Int)), .int .u32 x37.2.1] 28, R] := sat_sel [1, 0, 2, 3] rfl h59
            have h61 : sat g w56 [Sl 94 4 p22 n c23 (fl eId (opnX X v)), Cl b [.slice p22 n c23] 92, Cl r1 [.int .i64 1, .int .i64 (((i : Nat) : Int)), .int .u32 x37.2.1] 28, R] := sat_imp h60 (fun _ hh_ => by rw [show (((X.set i (1, x37.2.1, x37.2.2)).set i (1, x37.2.1, v)) : List Fl) = (opnX X v) from (by rw [List.set_set]; exact ho_.2.2.symm)] at hh_; exact hh_)
            have h62 : sat g w56 [Cl b [.slice p22 n c23] 92, Sl 94 4 p22 n c23 (fl eId (opnX X v)), Cl r1 [.int .i64 1, .int .i64 (((i : Nat) : Int)), .int .u32 x37.2.1] 28, R] := sat_sel [1, 0, 2, 3] rfl h61
            have h63 : sat g w56 [Dc b n (opnX X v), Cl r1 [.int .i64 1, .int .i64 (((i : Nat) : Int)), .int .u32 x37.2.1] 28, R] := dc_close2 hD24 (len_opn X v) (slok_opn hD24.2.2.2) h62
            have h64 : sat g w56 [Dc b n (opnX X v), R] := sat_sel [0, 2] rfl h63
            refine hi_out [.int .i64 1, .int .i64 (((i : Nat) : Int)), .int .u32 x37.2.1] (.tuple #[.agg #[.int .i64 1, .int .i64 (((i : Nat) : Int)), .int .u32 x37.2.1], .int .i64 0]) [(⟨r1, 0, none⟩, .int .i64 1), (⟨r1, 1, none⟩, .int .i64 (((i : Nat) : Int))), (⟨r1, 2, none⟩, .int .u32 x37.2.1)] (by kernel_rfl) (allq ⟨sat_cell h57 0 rfl rfl, sat_cell h57 0 rfl rfl, sat_cell h57 0 rfl rfl, trivial⟩) ?_
            exact ⟨.tuple #[.agg #[.int .i64 1, .int .i64 (((i : Nat) : Int)), .int .u32 x37.2.1], .int .i64 0], [Dc b n (opnX X v)], rfl, ⟨by rw [ho_.1, ho_.2.1], rfl⟩, h64⟩
      ·
        refine plain_batch (rest := []) [⟨6, [], some (.bool false)⟩] (l' := ([(20, .bool false), (19, .int .i64 (((n : Nat) : Int))), (18, .slice p22 n c23), (17, .pointer (some ⟨b, 0, none⟩)), (16, .pointer (some ⟨b, 0, none⟩)), (15, .pointer (some ⟨b, 0, none⟩)), (14, .int .i64 (((i : Nat) : Int))), (0, .pointer (some ⟨b, 0, none⟩)), (1, .int .i64 v), (4, .pointer (some ⟨r1, 0, none⟩)), (6, .int .i64 (((i : Nat) : Int)))] : Fr) ++ lr26) (pts' := []) (eqs := [(.bool (decide (((i : Nat) : Int) < ((n : Nat) : Int))), .bool false)]) (by kernel_rfl) ⟨(ov_f (by omega)), trivial⟩ (AllC_nil _) ?_
        refine PO.mk ?_
        change WP _ _ (CA Try.f22 [1, 1, 0, 1, 0, 0, 0, 1]) _ _ _
        refine fk_cut ([(0, .pointer (some ⟨b, 0, none⟩)), (1, .int .i64 v), (4, .pointer (some ⟨r1, 0, none⟩)), (6, .int .i64 (((i : Nat) : Int))), (20, .bool false)] : Fr) (by kernel_rfl) (fun a => WP _ _ _ _ a _) (fun lr65 => ?_)
        refine gi_cnd (x := (Operand.tmp 20)) (s := CA Try.f22 [1, 1, 0, 1, 0, 0, 0, 1, 0]) (t := CA Try.f22 [1, 1, 0, 1, 0, 0, 0, 1, 1]) false (by kernel_rfl) (by kernel_rfl) ?_
        change WP _ _ (CA Try.f22 [1, 1, 0, 1, 0, 0, 0, 1, 1]) _ _ _
        refine gi_ext (id := 0) (by kernel_rfl) ?_
        change WP _ _ (CA Try.f22 [1, 1, 1]) _ _ _
        refine gi_seq (x := CA Try.f22 [1, 1, 1, 0]) (y := CA Try.f22 [1, 1, 1, 1]) (by kernel_rfl) ?_
        refine gi_pln (id := 10) (ops := RA Try.f22 [1, 1, 1, 0]) [0, 1, 2] (by kernel_rfl) (by kernel_rfl) (by kernel_rfl) ?_
        refine plain_batch (rest := [1, 2]) [⟨0, [], none⟩] (l' := ([(68, .agg #[.int .i64 0, .int .i64 0, .int .u32 0]), (0, .pointer (some ⟨b, 0, none⟩)), (1, .int .i64 v), (4, .pointer (some ⟨r1, 0, none⟩)), (6, .int .i64 (((i : Nat) : Int))), (20, .bool false)] : Fr) ++ lr65) (pts' := []) (eqs := []) (by kernel_rfl) trivial (AllC_nil _) ?_
        have h66 : sat g w29 [Cl r1 [.int .i64 0, .int .i64 0, .int .u32 0] 28, Cl b [.slice p22 n c23] 92, Sl 94 4 p22 n c23 (fl eId X), R] := sat_sel [2, 0, 1, 3] rfl h30
        refine plain_act (i := 1) (by kernel_rfl) ?_
        refine an_store [(0, .int .i64 0), (1, .int .i64 0), (2, .int .u32 0)] (cs' := [.int .i64 0, .int .i64 0, .int .u32 0]) (by kernel_rfl) (by kernel_rfl) (allq ⟨⟨by simp, rfl⟩, ⟨by simp, rfl⟩, ⟨by simp, rfl⟩, trivial⟩) rfl h66 ?_
        intro w67 (h68 : sat g w67 [Cl r1 [.int .i64 0, .int .i64 0, .int .u32 0] 28, Cl b [.slice p22 n c23] 92, Sl 94 4 p22 n c23 (fl eId X), R])
        refine plain_batch (rest := []) [⟨2, [], none⟩] (l' := ([(5, .int .i64 4), (68, .agg #[.int .i64 0, .int .i64 0, .int .u32 0]), (0, .pointer (some ⟨b, 0, none⟩)), (1, .int .i64 v), (4, .pointer (some ⟨r1, 0, none⟩)), (6, .int .i64 (((i : Nat) : Int))), (20, .bool false)] : Fr) ++ lr65) (pts' := []) (eqs := []) (by kernel_rfl) trivial (AllC_nil _) ?_
        refine PO.mk ?_
        change WP _ _ (CA Try.f22 [1, 1, 1, 1]) _ _ _
        refine fk_cut ([(0, .pointer (some ⟨b, 0, none⟩)), (1, .int .i64 v), (4, .pointer (some ⟨r1, 0, none⟩)), (5, .int .i64 4), (6, .int .i64 (((i : Nat) : Int))), (20, .bool false)] : Fr) (by kernel_rfl) (fun a => WP _ _ _ _ a _) (fun lr69 => ?_)
        refine gi_rt (by kernel_rfl) ?_
        repeat (first | simp only [Exit.inBlock] | simp only [Exit.then])
        have ho_ := opn_full (X := X) (v := v) ⟨by omega, by omega⟩ (free_zero (i := i) (by omega) hc_)
        have h70 : sat g w67 [Cl b [.slice p22 n c23] 92, Sl 94 4 p22 n c23 (fl eId X), Cl r1 [.int .i64 0, .int .i64 0, .int .u32 0] 28, R] := sat_sel [1, 2, 0, 3] rfl h68
        have h71 : sat g w67 [Dc b n X, Cl r1 [.int .i64 0, .int .i64 0, .int .u32 0] 28, R] := dc_close hD24 h70
        have h72 : sat g w67 [Dc b n X, R] := sat_sel [0, 2] rfl h71
        refine hi_out [.int .i64 0, .int .i64 0, .int .u32 0] (.tuple #[.agg #[.int .i64 0, .int .i64 0, .int .u32 0], .int .i64 4]) [(⟨r1, 0, none⟩, .int .i64 0), (⟨r1, 1, none⟩, .int .i64 0), (⟨r1, 2, none⟩, .int .u32 0)] (by kernel_rfl) (allq ⟨sat_cell h68 0 rfl rfl, sat_cell h68 0 rfl rfl, sat_cell h68 0 rfl rfl, trivial⟩) ?_
        exact ⟨.tuple #[.agg #[.int .i64 0, .int .i64 0, .int .u32 0], .int .i64 4], [Dc b n X], rfl, ⟨by rw [ho_.1, ho_.2.1], by rw [ho_.2.2]⟩, h72⟩

set_option maxHeartbeats 4000000 in
theorem dall_ht (b n : Nat) (X : Xs) : HT Try.prog 21 [Value.pointer (some ⟨b, 0, none⟩)] [Dc b n X] (fun v K => ∃ (p : Option Addr) (c : Nat), v = Value.slice p ((inS 1 (As X) 0).length) c ∧ K = [Dc b n X, Sl 28 3 p (((inS 1 (As X) 0).length)) c (fl eO (allX X))]) := by
  refine hi_in 36 ([(0, .pointer (some ⟨b, 0, none⟩))] : Fr) Try.func21 (by kernel_rfl) Try.ntmps21 rfl rfl ?_
  intro g w0 R h0
  refine gi_seq (x := CA Try.f21 [0]) (y := CA Try.f21 [1]) (by kernel_rfl) ?_
  refine gi_pln (id := 0) (ops := RA Try.f21 [0]) [0] (by kernel_rfl) (by kernel_rfl) (by kernel_rfl) ?_
  refine plain_batch (rest := []) [⟨0, [], none⟩] (l' := ([(2, .slice none 0 0), (0, .pointer (some ⟨b, 0, none⟩))] : Fr)) (pts' := []) (eqs := []) (by kernel_rfl) trivial (AllC_nil _) ?_
  refine PO.mk ?_
  change WP _ _ (CA Try.f21 [1]) _ _ _
  refine fk_cut ([(0, .pointer (some ⟨b, 0, none⟩)), (2, .slice none 0 0)] : Fr) (by kernel_rfl) (fun a => WP _ _ _ _ a _) (fun lr1 => ?_)
  refine gi_seq (x := CA Try.f21 [1, 0]) (y := CA Try.f21 [1, 1]) (by kernel_rfl) ?_
  refine gi_pln (id := 1) (ops := RA Try.f21 [1, 0]) [0] (by kernel_rfl) (by kernel_rfl) (by kernel_rfl) ?_
  refine plain_batch (rest := []) [⟨0, [], none⟩] (l' := ([(3, .slice none 0 0), (0, .pointer (some ⟨b, 0, none⟩)), (2, .slice none 0 0)] : Fr) ++ lr1) (pts' := []) (eqs := []) (by kernel_rfl) trivial (AllC_nil _) ?_
  refine PO.mk ?_
  change WP _ _ (CA Try.f21 [1, 1]) _ _ _
  refine fk_cut ([(0, .pointer (some ⟨b, 0, none⟩)), (2, .slice none 0 0), (3, .slice none 0 0)] : Fr) (by kernel_rfl) (fun a => WP _ _ _ _ a _) (fun lr2 => ?_)
  refine gi_seq (x := CA Try.f21 [1, 1, 0]) (y := CA Try.f21 [1, 1, 1]) (by kernel_rfl) ?_
  refine gi_seq (x := CA Try.f21 [1, 1, 0, 0]) (y := CA Try.f21 [1, 1, 0, 1]) (by kernel_rfl) ?_
  refine gi_pln (id := 2) (ops := RA Try.f21 [1, 1, 0, 0]) [0] (by kernel_rfl) (by kernel_rfl) (by kernel_rfl) ?_
  refine plain_batch (rest := []) [⟨0, [], none⟩] (l' := ([(4, .int .i64 0), (0, .pointer (some ⟨b, 0, none⟩)), (2, .slice none 0 0), (3, .slice none 0 0)] : Fr) ++ lr2) (pts' := []) (eqs := []) (by kernel_rfl) trivial (AllC_nil _) ?_
  refine PO.mk ?_
  change WP _ _ (CA Try.f21 [1, 1, 0, 1]) _ _ _
  refine fk_cut ([(0, .pointer (some ⟨b, 0, none⟩)), (2, .slice none 0 0), (3, .slice none 0 0), (4, .int .i64 0)] : Fr) (by kernel_rfl) (fun a => WP _ _ _ _ a _) (fun lr3 => ?_)
  refine gi_blk (id := 0) (x := CA Try.f21 [1, 1, 0, 1, 0]) (by kernel_rfl) ?_
  obtain ⟨p4, c5, hD6, h7⟩ := dc_open h0
  have hXl_ := hD6.1; have hn1_ := hD6.2.1; have hn64_ := hD6.2.2.1; have hok_ := hD6.2.2.2; have hal_ := as_len X
  have h8 : sat g w0 [Sl 28 3 none 0 0 (fl eO []), Cl b [.slice p4 n c5] 92, Sl 94 4 p4 n c5 (fl eId X), R] := sl_nil 28 3 h7
  refine gi_lp (x := CA Try.f21 [1, 1, 0, 1, 0, 0]) (by kernel_rfl) (fun mz_ a w => ∃ i : Nat, ∃ k : Nat, ∃ p2 : Option Addr, ∃ c2 : Nat, ∃ lr : Fr, mz_ = n - i ∧ (i ≤ n) ∧ (k ≤ i) ∧ a = mk 36 (([(0, .pointer (some ⟨b, 0, none⟩)), (3, .slice p2 k c2), (4, .int .i64 (((i : Nat) : Int)))] : Fr) ++ lr) ∧ sat g w [Sl 28 3 p2 k c2 (fl eO (allT X i)), Cl b [.slice p4 n c5] 92, Sl 94 4 p4 n c5 (fl eId X), R]) (n - 0) ⟨0, 0, none, 0, _, rfl, (Nat.zero_le _), (Nat.le_refl _), (mk_live [(0, .pointer (some ⟨b, 0, none⟩)), (3, .slice none 0 0), (4, .int .i64 (((0 : Nat) : Int)))] ⟨rfl, rfl, (ov_int (by omega)), trivial⟩), h8⟩ ?_
  rintro m10 a11 w12 ⟨i, k, p2, c2, lr9, rfl, hi, hk, rfl, h13⟩
  change WP _ _ (CA Try.f21 [1, 1, 0, 1, 0, 0]) _ _ _
  refine gi_seq (x := CA Try.f21 [1, 1, 0, 1, 0, 0, 0]) (y := CA Try.f21 [1, 1, 0, 1, 0, 0, 1]) (by kernel_rfl) ?_
  refine gi_seq (x := CA Try.f21 [1, 1, 0, 1, 0, 0, 0, 0]) (y := CA Try.f21 [1, 1, 0, 1, 0, 0, 0, 1]) (by kernel_rfl) ?_
  refine gi_pln (id := 3) (ops := RA Try.f21 [1, 1, 0, 1, 0, 0, 0, 0]) [0, 1, 2, 3, 4, 5, 6] (by kernel_rfl) (by kernel_rfl) (by kernel_rfl) ?_
  refine plain_batch (rest := [6]) [⟨0, [], none⟩, ⟨1, [], none⟩, ⟨2, [], none⟩, ⟨3, [], none⟩, ⟨4, [.slice p4 n c5], none⟩, ⟨5, [], none⟩] (l' := ([(10, .int .i64 (((n : Nat) : Int))), (9, .slice p4 n c5), (8, .pointer (some ⟨b, 0, none⟩)), (7, .pointer (some ⟨b, 0, none⟩)), (6, .pointer (some ⟨b, 0, none⟩)), (5, .int .i64 (((i : Nat) : Int))), (0, .pointer (some ⟨b, 0, none⟩)), (3, .slice p2 k c2), (4, .int .i64 (((i : Nat) : Int)))] : Fr) ++ lr9) (pts' := [(4, ⟨b, 0, none⟩, .slice p4 n c5)]) (eqs := []) (by kernel_rfl) trivial (AllC_cons (sat_cell h13 1 rfl rfl) (AllC_nil _)) ?_
  by_cases c14 : ((i : Nat) : Int) < ((n : Nat) : Int)
  ·
    refine plain_batch (rest := []) [⟨6, [], some (.bool true)⟩] (l' := ([(11, .bool true), (10, .int .i64 (((n : Nat) : Int))), (9, .slice p4 n c5), (8, .pointer (some ⟨b, 0, none⟩)), (7, .pointer (some ⟨b, 0, none⟩)), (6, .pointer (some ⟨b, 0, none⟩)), (5, .int .i64 (((i : Nat) : Int))), (0, .pointer (some ⟨b, 0, none⟩)), (3, .slice p2 k c2), (4, .int .i64 (((i : Nat) : Int)))] : Fr) ++ lr9) (pts' := []) (eqs := [(.bool (decide (((i : Nat) : Int) < ((n : Nat) : Int))), .bool true)]) (by kernel_rfl) ⟨(ov_t (by omega)), trivial⟩ (AllC_nil _) ?_
    refine PO.mk ?_
    change WP _ _ (CA Try.f21 [1, 1, 0, 1, 0, 0, 0, 1]) _ _ _
    refine fk_cut ([(0, .pointer (some ⟨b, 0, none⟩)), (3, .slice p2 k c2), (4, .int .i64 (((i : Nat) : Int))), (11, .bool true)] : Fr) (by kernel_rfl) (fun a => WP _ _ _ _ a _) (fun lr15 => ?_)
    refine gi_cnd (x := (Operand.tmp 11)) (s := CA Try.f21 [1, 1, 0, 1, 0, 0, 0, 1, 0]) (t := CA Try.f21 [1, 1, 0, 1, 0, 0, 0, 1, 1]) true (by kernel_rfl) (by kernel_rfl) ?_
    change WP _ _ (CA Try.f21 [1, 1, 0, 1, 0, 0, 0, 1, 0]) _ _ _
    refine gi_skp (by kernel_rfl) ?_
    change WP _ _ (CA Try.f21 [1, 1, 0, 1, 0, 0, 1]) _ _ _
    refine gi_seq (x := CA Try.f21 [1, 1, 0, 1, 0, 0, 1, 0]) (y := CA Try.f21 [1, 1, 0, 1, 0, 0, 1, 1]) (by kernel_rfl) ?_
    refine gi_blk (id := 1) (x := CA Try.f21 [1, 1, 0, 1, 0, 0, 1, 0, 0]) (by kernel_rfl) ?_
    refine gi_seq (x := CA Try.f21 [1, 1, 0, 1, 0, 0, 1, 0, 0, 0]) (y := CA Try.f21 [1, 1, 0, 1, 0, 0, 1, 0, 0, 1]) (by kernel_rfl) ?_
    refine gi_pln (id := 5) (ops := RA Try.f21 [1, 1, 0, 1, 0, 0, 1, 0, 0, 0]) [0, 1, 2, 3, 4, 5, 6, 7] (by kernel_rfl) (by kernel_rfl) (by kernel_rfl) ?_
    obtain ⟨b16, hp17⟩ := sl_ptr0 (j := 2) h13 rfl (by omega)
    refine plain_batch (rest := [5, 6, 7]) [⟨0, [], none⟩, ⟨1, [], none⟩, ⟨2, [], none⟩, ⟨3, [.slice p4 n c5], none⟩, ⟨4, [], none⟩] (l' := ([(18, .int .i64 (((i : Nat) : Int))), (17, .slice p4 n c5), (16, .pointer (some ⟨b, 0, none⟩)), (15, .pointer (some ⟨b, 0, none⟩)), (14, .pointer (some ⟨b, 0, none⟩)), (0, .pointer (some ⟨b, 0, none⟩)), (3, .slice p2 k c2), (4, .int .i64 (((i : Nat) : Int))), (11, .bool true)] : Fr) ++ lr15) (pts' := [(3, ⟨b, 0, none⟩, .slice p4 n c5)]) (eqs := []) (by kernel_rfl) trivial (AllC_cons (sat_cell h13 1 rfl rfl) (AllC_nil _)) ?_
    refine plain_law (i := 5) 19 (.pointer (some ⟨b16, i * 4, none⟩)) (by kernel_rfl) (law_indexSlP (o := opA (RA Try.f21 [1, 1, 0, 1, 0, 0, 1, 0, 0, 0]) 5) (x := (Operand.tmp 17)) (i := (Operand.tmp 18)) (p := p4) (b := b16) (off := 0) (z := (((i : Nat) : Int))) (len := n) (cap := c5) (by kernel_rfl) Try.underlying90 4 (by kernel_rfl) i (by kernel_rfl) hp17 (by kernel_rfl) (by omega) (by omega) (i * 4) (by omega) _) ?_
    have h18 : sat g w12 [Sl 94 4 p4 n c5 (fl eId X), Sl 28 3 p2 k c2 (fl eO (allT X i)), Cl b [.slice p4 n c5] 92, R] := sat_sel [2, 0, 1, 3] rfl h13
    have hl19 := fl_n eId_ok (by decide) h18
    obtain ⟨x20, hx21⟩ : ∃ x, X[i]? = some x := ⟨_, List.getElem?_eq_getElem (by rw [hl19]; omega)⟩
    have hb22 := slOk_as hok_ hx21
    refine plain_batch (rest := [7]) [⟨6, [], none⟩] (l' := ([(20, .pointer (some ⟨b16, i * 4, none⟩)), (19, .pointer (some ⟨b16, i * 4, none⟩)), (18, .int .i64 (((i : Nat) : Int))), (17, .slice p4 n c5), (16, .pointer (some ⟨b, 0, none⟩)), (15, .pointer (some ⟨b, 0, none⟩)), (14, .pointer (some ⟨b, 0, none⟩)), (0, .pointer (some ⟨b, 0, none⟩)), (3, .slice p2 k c2), (4, .int .i64 (((i : Nat) : Int))), (11, .bool true)] : Fr) ++ lr15) (pts' := []) (eqs := []) (by kernel_rfl) trivial (AllC_nil _) ?_
    by_cases c23 : x20.1 = 1
    ·
      refine plain_batch (rest := []) [⟨7, [.bool (decide (x20.1 = 1))], some (.bool true)⟩] (l' := ([(21, .bool true), (20, .pointer (some ⟨b16, i * 4, none⟩)), (19, .pointer (some ⟨b16, i * 4, none⟩)), (18, .int .i64 (((i : Nat) : Int))), (17, .slice p4 n c5), (16, .pointer (some ⟨b, 0, none⟩)), (15, .pointer (some ⟨b, 0, none⟩)), (14, .pointer (some ⟨b, 0, none⟩)), (0, .pointer (some ⟨b, 0, none⟩)), (3, .slice p2 k c2), (4, .int .i64 (((i : Nat) : Int))), (11, .bool true)] : Fr) ++ lr15) (pts' := [(7, ⟨b16, i * 4, none⟩, .bool (decide (x20.1 = 1)))]) (eqs := [(.bool (decide (x20.1 = 1)), .bool true)]) (by kernel_rfl) ⟨(ov_b (decide_eq_true (by omega))), trivial⟩ (AllC_cons (gv_cell (j := 0) h18 rfl (gv_sl _ _ _) hp17 (fl_get eId_ok (j := 0) (v := .bool (decide (x20.1 = 1))) hx21 rfl) (i * 4) (by omega)) (AllC_nil _)) ?_
      refine PO.mk ?_
      change WP _ _ (CA Try.f21 [1, 1, 0, 1, 0, 0, 1, 0, 0, 1]) _ _ _
      refine fk_cut ([(0, .pointer (some ⟨b, 0, none⟩)), (3, .slice p2 k c2), (4, .int .i64 (((i : Nat) : Int))), (11, .bool true), (21, .bool true)] : Fr) (by kernel_rfl) (fun a => WP _ _ _ _ a _) (fun lr24 => ?_)
      refine gi_cnd (x := (Operand.tmp 21)) (s := CA Try.f21 [1, 1, 0, 1, 0, 0, 1, 0, 0, 1, 0]) (t := CA Try.f21 [1, 1, 0, 1, 0, 0, 1, 0, 0, 1, 1]) true (by kernel_rfl) (by kernel_rfl) ?_
      change WP _ _ (CA Try.f21 [1, 1, 0, 1, 0, 0, 1, 0, 0, 1, 0]) _ _ _
      refine gi_pln (id := 6) (ops := RA Try.f21 [1, 1, 0, 1, 0, 0, 1, 0, 0, 1, 0]) [0, 1, 2, 3, 4, 5, 6, 7, 8, 9, 10, 11, 12, 13] (by kernel_rfl) (by kernel_rfl) (by kernel_rfl) ?_
      refine plain_batch (rest := [7, 8, 9, 10, 11, 12, 13]) [⟨0, [], none⟩, ⟨1, [], none⟩, ⟨2, [], none⟩, ⟨3, [], none⟩, ⟨4, [], none⟩, ⟨5, [.slice p4 n c5], none⟩, ⟨6, [], none⟩] (l' := ([(28, .int .i64 (((i : Nat) : Int))), (27, .slice p4 n c5), (26, .pointer (some ⟨b, 0, none⟩)), (25, .pointer (some ⟨b, 0, none⟩)), (24, .pointer (some ⟨b, 0, none⟩)), (23, .int .i64 (((i : Nat) : Int))), (22, .slice p2 k c2), (0, .pointer (some ⟨b, 0, none⟩)), (3, .slice p2 k c2), (4, .int .i64 (((i : Nat) : Int))), (11, .bool true), (21, .bool true)] : Fr) ++ lr24) (pts' := [(5, ⟨b, 0, none⟩, .slice p4 n c5)]) (eqs := []) (by kernel_rfl) trivial (AllC_cons (sat_cell h18 2 rfl rfl) (AllC_nil _)) ?_
      refine plain_law (i := 7) 29 (.pointer (some ⟨b16, i * 4, none⟩)) (by kernel_rfl) (law_indexSlP (o := opA (RA Try.f21 [1, 1, 0, 1, 0, 0, 1, 0, 0, 1, 0]) 7) (x := (Operand.tmp 27)) (i := (Operand.tmp 28)) (p := p4) (b := b16) (off := 0) (z := (((i : Nat) : Int))) (len := n) (cap := c5) (by kernel_rfl) Try.underlying90 4 (by kernel_rfl) i (by kernel_rfl) hp17 (by kernel_rfl) (by omega) (by omega) (i * 4) (by omega) _) ?_
      refine plain_batch (rest := [11, 12, 13]) [⟨8, [], none⟩, ⟨9, [.int .u32 x20.2.1], none⟩, ⟨10, [], none⟩] (l' := ([(32, .agg #[.int .i64 1, .int .i64 (((i : Nat) : Int)), .int .u32 x20.2.1]), (31, .int .u32 x20.2.1), (30, .pointer (some ⟨b16, i * 4 + 2, none⟩)), (29, .pointer (some ⟨b16, i * 4, none⟩)), (28, .int .i64 (((i : Nat) : Int))), (27, .slice p4 n c5), (26, .pointer (some ⟨b, 0, none⟩)), (25, .pointer (some ⟨b, 0, none⟩)), (24, .pointer (some ⟨b, 0, none⟩)), (23, .int .i64 (((i : Nat) : Int))), (22, .slice p2 k c2), (0, .pointer (some ⟨b, 0, none⟩)), (3, .slice p2 k c2), (4, .int .i64 (((i : Nat) : Int))), (11, .bool true), (21, .bool true)] : Fr) ++ lr24) (pts' := [(9, ⟨b16, i * 4 + 2, none⟩, .int .u32 x20.2.1)]) (eqs := []) (by kernel_rfl) trivial (AllC_cons (gv_cell (j := 0) h18 rfl (gv_sl _ _ _) hp17 (fl_get eId_ok (j := 2) (v := .int .u32 x20.2.1) hx21 rfl) (i * 4 + 2) (by omega)) (AllC_nil _)) ?_
      refine plain_act (i := 11) (by kernel_rfl) ?_
      refine an_new (d := 33) (fun xb_ => .slice (some ⟨xb_, 0, none⟩) 1 1) (fun xb_ => Obj.cells [.int .i64 1, .int .i64 (((i : Nat) : Int)), .int .u32 x20.2.1].toArray 28 (0, 0)) (fun xb_ => by kernel_rfl) (by kernel_rfl) rfl h18 ?_
      intro r25 w26 (h27 : sat g w26 [Cl r25 [.int .i64 1, .int .i64 (((i : Nat) : Int)), .int .u32 x20.2.1] 28, Sl 94 4 p4 n c5 (fl eId X), Sl 28 3 p2 k c2 (fl eO (allT X i)), Cl b [.slice p4 n c5] 92, R])
      have h28 : sat g w26 [Sl 28 3 p2 k c2 (fl eO (allT X i)), Cl r25 [.int .i64 1, .int .i64 (((i : Nat) : Int)), .int .u32 x20.2.1] 28, Sl 94 4 p4 n c5 (fl eId X), Cl b [.slice p4 n c5] 92, R] := sat_sel [2, 0, 1, 3, 4] rfl h27
      refine plain_act (i := 12) (by kernel_rfl) ?_
      refine an_append (d := 34) (sz := 3) (s := (Operand.tmp 22)) (x := (Operand.tmp 33)) (z := .agg #[.int .i64 0, .int .i64 0, .int .u32 0]) (p := p2) (m := k) (c := c2) (k := 1) (c2 := 1) (a := ⟨r25, 0, none⟩) (by_ := 24) (by kernel_rfl) (by kernel_rfl) rfl Try.underlying42 (by kernel_rfl) rfl (by decide) (by kernel_rfl) (by kernel_rfl) h28 (fl eO [(1, ((i : Nat) : Int), x20.2.1)]) rfl (fun j u hj => by rw [add_off]; exact sat_cell h28 1 rfl (by rw [Nat.zero_add]; exact hj)) (fl_one eO_ok _) (by omega) (by omega) (k + 1) (by omega) ?_
      intro p29 cap30 w31 (h32 : sat g w31 [Sl 28 3 p29 (k + 1) cap30 ((fl eO (allT X i)) ++ (fl eO [(1, ((i : Nat) : Int), x20.2.1)])), Cl r25 [.int .i64 1, .int .i64 (((i : Nat) : Int)), .int .u32 x20.2.1] 28, Sl 94 4 p4 n c5 (fl eId X), Cl b [.slice p4 n c5] 92, R])
      have h33 : sat g w31 [Sl 28 3 p29 (k + 1) cap30 (fl eO ((allT X i) ++ [(1, ((i : Nat) : Int), x20.2.1)])), Cl r25 [.int .i64 1, .int .i64 (((i : Nat) : Int)), .int .u32 x20.2.1] 28, Sl 94 4 p4 n c5 (fl eId X), Cl b [.slice p4 n c5] 92, R] := sat_imp h32 (fun _ hh => by rw [fl_app]; exact hh)
      obtain ⟨hn34, hn35⟩ := sl_le h33
      refine plain_batch (rest := []) [⟨13, [], none⟩] (l' := ([(3, .slice p29 (k + 1) cap30), (34, .slice p29 (k + 1) cap30), (33, .slice (some ⟨r25, 0, none⟩) 1 1), (32, .agg #[.int .i64 1, .int .i64 (((i : Nat) : Int)), .int .u32 x20.2.1]), (31, .int .u32 x20.2.1), (30, .pointer (some ⟨b16, i * 4 + 2, none⟩)), (29, .pointer (some ⟨b16, i * 4, none⟩)), (28, .int .i64 (((i : Nat) : Int))), (27, .slice p4 n c5), (26, .pointer (some ⟨b, 0, none⟩)), (25, .pointer (some ⟨b, 0, none⟩)), (24, .pointer (some ⟨b, 0, none⟩)), (23, .int .i64 (((i : Nat) : Int))), (22, .slice p2 k c2), (0, .pointer (some ⟨b, 0, none⟩)), (3, .slice p2 k c2), (4, .int .i64 (((i : Nat) : Int))), (11, .bool true), (21, .bool true)] : Fr) ++ lr24) (pts' := []) (eqs := []) (by kernel_rfl) trivial (AllC_nil _) ?_
      refine PO.mk ?_
      change WP _ _ (CA Try.f21 [1, 1, 0, 1, 0, 0, 1, 1]) _ _ _
      refine fk_cut ([(0, .pointer (some ⟨b, 0, none⟩)), (3, .slice p29 (k + 1) cap30), (4, .int .i64 (((i : Nat) : Int))), (11, .bool true), (21, .bool true)] : Fr) (by kernel_rfl) (fun a => WP _ _ _ _ a _) (fun lr36 => ?_)
      refine gi_pln (id := 4) (ops := RA Try.f21 [1, 1, 0, 1, 0, 0, 1, 1]) [0, 1, 2] (by kernel_rfl) (by kernel_rfl) (by kernel_rfl) ?_
      refine plain_batch (rest := []) [⟨0, [], none⟩, ⟨1, [], some (.int .i64 (((i : Nat) : Int) + 1))⟩, ⟨2, [], none⟩] (l' := ([(4, .int .i64 (((i : Nat) : Int) + 1)), (13, .int .i64 (((i : Nat) : Int) + 1)), (12, .int .i64 (((i : Nat) : Int))), (0, .pointer (some ⟨b, 0, none⟩)), (3, .slice p29 (k + 1) cap30), (4, .int .i64 (((i : Nat) : Int))), (11, .bool true), (21, .bool true)] : Fr) ++ lr36) (pts' := []) (eqs := [(.int .i64 (IntKind.wrap .i64 ((((i : Nat) : Int)) + 1)), .int .i64 (((i : Nat) : Int) + 1))]) (by kernel_rfl) ⟨(ov_i64 (by omega) (by omega) (by omega)), trivial⟩ (AllC_nil _) ?_
      refine PO.mk ?_
      have h37 : sat g w31 [Sl 28 3 p29 (k + 1) cap30 (fl eO (allT X (i + 1))), Cl r25 [.int .i64 1, .int .i64 (((i : Nat) : Int)), .int .u32 x20.2.1] 28, Sl 94 4 p4 n c5 (fl eId X), Cl b [.slice p4 n c5] 92, R] := sat_imp h33 (fun _ hh_ => by rw [show (((allT X i) ++ [(1, ((i : Nat) : Int), x20.2.1)]) : List Ky) = (allT X (i + 1)) from allT_go hx21 (by omega)] at hh_; exact hh_)
      have h38 : sat g w31 [Sl 28 3 p29 (k + 1) cap30 (fl eO (allT X (i + 1))), Cl b [.slice p4 n c5] 92, Sl 94 4 p4 n c5 (fl eId X), R, Cl r25 [.int .i64 1, .int .i64 (((i : Nat) : Int)), .int .u32 x20.2.1] 28] := sat_sel [0, 3, 2, 4, 1] rfl h37
      have h39 : sat g w31 [Sl 28 3 p29 (k + 1) cap30 (fl eO (allT X (i + 1))), Cl b [.slice p4 n c5] 92, Sl 94 4 p4 n c5 (fl eId X), R] := sat_sel [0, 1, 2, 3] rfl h38
      change ∃ n', n' < _ ∧ _
      refine ⟨(n - (i + 1)), by omega, (i + 1), k + 1, p29, cap30, _, rfl, (by omega), (by omega), (mk_live [(0, .pointer (some ⟨b, 0, none⟩)), (3, .slice p29 (k + 1) cap30), (4, .int .i64 ((((i + 1) : Nat) : Int)))] ⟨rfl, rfl, (ov_int (by omega)), trivial⟩), h39⟩
    ·
      refine plain_batch (rest := []) [⟨7, [.bool (decide (x20.1 = 1))], some (.bool false)⟩] (l' := ([(21, .bool false), (20, .pointer (some ⟨b16, i * 4, none⟩)), (19, .pointer (some ⟨b16, i * 4, none⟩)), (18, .int .i64 (((i : Nat) : Int))), (17, .slice p4 n c5), (16, .pointer (some ⟨b, 0, none⟩)), (15, .pointer (some ⟨b, 0, none⟩)), (14, .pointer (some ⟨b, 0, none⟩)), (0, .pointer (some ⟨b, 0, none⟩)), (3, .slice p2 k c2), (4, .int .i64 (((i : Nat) : Int))), (11, .bool true)] : Fr) ++ lr15) (pts' := [(7, ⟨b16, i * 4, none⟩, .bool (decide (x20.1 = 1)))]) (eqs := [(.bool (decide (x20.1 = 1)), .bool false)]) (by kernel_rfl) ⟨(ov_b (decide_eq_false (by omega))), trivial⟩ (AllC_cons (gv_cell (j := 0) h18 rfl (gv_sl _ _ _) hp17 (fl_get eId_ok (j := 0) (v := .bool (decide (x20.1 = 1))) hx21 rfl) (i * 4) (by omega)) (AllC_nil _)) ?_
      refine PO.mk ?_
      change WP _ _ (CA Try.f21 [1, 1, 0, 1, 0, 0, 1, 0, 0, 1]) _ _ _
      refine fk_cut ([(0, .pointer (some ⟨b, 0, none⟩)), (3, .slice p2 k c2), (4, .int .i64 (((i : Nat) : Int))), (11, .bool true), (21, .bool false)] : Fr) (by kernel_rfl) (fun a => WP _ _ _ _ a _) (fun lr40 => ?_)
      refine gi_cnd (x := (Operand.tmp 21)) (s := CA Try.f21 [1, 1, 0, 1, 0, 0, 1, 0, 0, 1, 0]) (t := CA Try.f21 [1, 1, 0, 1, 0, 0, 1, 0, 0, 1, 1]) false (by kernel_rfl) (by kernel_rfl) ?_
      change WP _ _ (CA Try.f21 [1, 1, 0, 1, 0, 0, 1, 0, 0, 1, 1]) _ _ _
      refine gi_skp (by kernel_rfl) ?_
      change WP _ _ (CA Try.f21 [1, 1, 0, 1, 0, 0, 1, 1]) _ _ _
      refine gi_pln (id := 4) (ops := RA Try.f21 [1, 1, 0, 1, 0, 0, 1, 1]) [0, 1, 2] (by kernel_rfl) (by kernel_rfl) (by kernel_rfl) ?_
      refine plain_batch (rest := []) [⟨0, [], none⟩, ⟨1, [], some (.int .i64 (((i : Nat) : Int) + 1))⟩, ⟨2, [], none⟩] (l' := ([(4, .int .i64 (((i : Nat) : Int) + 1)), (13, .int .i64 (((i : Nat) : Int) + 1)), (12, .int .i64 (((i : Nat) : Int))), (0, .pointer (some ⟨b, 0, none⟩)), (3, .slice p2 k c2), (4, .int .i64 (((i : Nat) : Int))), (11, .bool true), (21, .bool false)] : Fr) ++ lr40) (pts' := []) (eqs := [(.int .i64 (IntKind.wrap .i64 ((((i : Nat) : Int)) + 1)), .int .i64 (((i : Nat) : Int) + 1))]) (by kernel_rfl) ⟨(ov_i64 (by omega) (by omega) (by omega)), trivial⟩ (AllC_nil _) ?_
      refine PO.mk ?_
      have h41 : sat g w12 [Sl 28 3 p2 k c2 (fl eO (allT X i)), Sl 94 4 p4 n c5 (fl eId X), Cl b [.slice p4 n c5] 92, R] := sat_sel [1, 0, 2, 3] rfl h18
      have h42 : sat g w12 [Sl 28 3 p2 k c2 (fl eO (allT X (i + 1))), Sl 94 4 p4 n c5 (fl eId X), Cl b [.slice p4 n c5] 92, R] := sat_imp h41 (fun _ hh_ => by rw [show ((allT X i) : List Ky) = (allT X (i + 1)) from allT_no hx21 (by omega)] at hh_; exact hh_)
      have h43 : sat g w12 [Sl 28 3 p2 k c2 (fl eO (allT X (i + 1))), Cl b [.slice p4 n c5] 92, Sl 94 4 p4 n c5 (fl eId X), R] := sat_sel [0, 2, 1, 3] rfl h42
      change ∃ n', n' < _ ∧ _
      refine ⟨(n - (i + 1)), by omega, (i + 1), k, p2, c2, _, rfl, (by omega), (by omega), (mk_live [(0, .pointer (some ⟨b, 0, none⟩)), (3, .slice p2 k c2), (4, .int .i64 ((((i + 1) : Nat) : Int)))] ⟨rfl, rfl, (ov_int (by omega)), trivial⟩), h43⟩
  ·
    refine plain_batch (rest := []) [⟨6, [], some (.bool false)⟩] (l' := ([(11, .bool false), (10, .int .i64 (((n : Nat) : Int))), (9, .slice p4 n c5), (8, .pointer (some ⟨b, 0, none⟩)), (7, .pointer (some ⟨b, 0, none⟩)), (6, .pointer (some ⟨b, 0, none⟩)), (5, .int .i64 (((i : Nat) : Int))), (0, .pointer (some ⟨b, 0, none⟩)), (3, .slice p2 k c2), (4, .int .i64 (((i : Nat) : Int)))] : Fr) ++ lr9) (pts' := []) (eqs := [(.bool (decide (((i : Nat) : Int) < ((n : Nat) : Int))), .bool false)]) (by kernel_rfl) ⟨(ov_f (by omega)), trivial⟩ (AllC_nil _) ?_
    refine PO.mk ?_
    change WP _ _ (CA Try.f21 [1, 1, 0, 1, 0, 0, 0, 1]) _ _ _
    refine fk_cut ([(0, .pointer (some ⟨b, 0, none⟩)), (3, .slice p2 k c2), (4, .int .i64 (((i : Nat) : Int))), (11, .bool false)] : Fr) (by kernel_rfl) (fun a => WP _ _ _ _ a _) (fun lr44 => ?_)
    refine gi_cnd (x := (Operand.tmp 11)) (s := CA Try.f21 [1, 1, 0, 1, 0, 0, 0, 1, 0]) (t := CA Try.f21 [1, 1, 0, 1, 0, 0, 0, 1, 1]) false (by kernel_rfl) (by kernel_rfl) ?_
    change WP _ _ (CA Try.f21 [1, 1, 0, 1, 0, 0, 0, 1, 1]) _ _ _
    refine gi_ext (id := 0) (by kernel_rfl) ?_
    change WP _ _ (CA Try.f21 [1, 1, 1]) _ _ _
    refine gi_seq (x := CA Try.f21 [1, 1, 1, 0]) (y := CA Try.f21 [1, 1, 1, 1]) (by kernel_rfl) ?_
    refine gi_pln (id := 7) (ops := RA Try.f21 [1, 1, 1, 0]) [0, 1] (by kernel_rfl) (by kernel_rfl) (by kernel_rfl) ?_
    refine plain_batch (rest := []) [⟨0, [], none⟩, ⟨1, [], none⟩] (l' := ([(2, .slice p2 k c2), (35, .slice p2 k c2), (0, .pointer (some ⟨b, 0, none⟩)), (3, .slice p2 k c2), (4, .int .i64 (((i : Nat) : Int))), (11, .bool false)] : Fr) ++ lr44) (pts' := []) (eqs := []) (by kernel_rfl) trivial (AllC_nil _) ?_
    refine PO.mk ?_
    change WP _ _ (CA Try.f21 [1, 1, 1, 1]) _ _ _
    refine fk_cut ([(0, .pointer (some ⟨b, 0, none⟩)), (2, .slice p2 k c2), (3, .slice p2 k c2), (4, .int .i64 (((i : Nat) : Int))), (11, .bool false)] : Fr) (by kernel_rfl) (fun a => WP _ _ _ _ a _) (fun lr45 => ?_)
    refine gi_rt (by kernel_rfl) ?_
    repeat (first | simp only [Exit.inBlock] | simp only [Exit.then])
    have hT_ : allT X i = allX X := allT_all (by omega)
    have h46 : sat g w12 [Sl 28 3 p2 k c2 (fl eO (allX X)), Cl b [.slice p4 n c5] 92, Sl 94 4 p4 n c5 (fl eId X), R] := sat_imp h13 (fun _ hh_ => by rw [show ((allT X i) : List Ky) = (allX X) from hT_] at hh_; exact hh_)
    have hl47 := fl_n eO_ok (by decide) h46
    have hk_ : k = ((inS 1 (As X) 0).length) := by have h_ := allX_len X; omega
    have h48 : sat g w12 [Sl 28 3 p2 (((inS 1 (As X) 0).length)) c2 (fl eO (allX X)), Cl b [.slice p4 n c5] 92, Sl 94 4 p4 n c5 (fl eId X), R] := sat_imp h46 (fun _ hh_ => by rw [← hk_]; exact hh_)
    have h49 : sat g w12 [Cl b [.slice p4 n c5] 92, Sl 94 4 p4 n c5 (fl eId X), Sl 28 3 p2 (((inS 1 (As X) 0).length)) c2 (fl eO (allX X)), R] := sat_sel [1, 2, 0, 3] rfl h48
    have h50 : sat g w12 [Dc b n X, Sl 28 3 p2 (((inS 1 (As X) 0).length)) c2 (fl eO (allX X)), R] := dc_close hD6 h49
    refine hi_out [] (.slice p2 k c2) [] (by kernel_rfl) (by intro q hq; cases hq) ?_
    exact ⟨.slice p2 k c2, [Dc b n X, Sl 28 3 p2 (((inS 1 (As X) 0).length)) c2 (fl eO (allX X))], rfl, ⟨p2, c2, by rw [hk_], rfl⟩, h50⟩

set_option maxHeartbeats 4000000 in
theorem dlen_ht (b n : Nat) (X : Xs) : HT Try.prog 47 [Value.pointer (some ⟨b, 0, none⟩)] [Dc b n X] (fun v K => v = Value.int IntKind.i64 ((((inS 1 (As X) 0).length : Nat) : Int)) ∧ K = [Dc b n X]) := by
  refine hi_in 6 ([(0, .pointer (some ⟨b, 0, none⟩))] : Fr) Try.func47 (by kernel_rfl) Try.ntmps47 rfl rfl ?_
  intro g w0 R h0
  refine gi_seq (x := CA Try.f47 [0]) (y := CA Try.f47 [1]) (by kernel_rfl) ?_
  refine gi_pln (id := 0) (ops := RA Try.f47 [0]) [0] (by kernel_rfl) (by kernel_rfl) (by kernel_rfl) ?_
  refine plain_batch (rest := []) [⟨0, [], none⟩] (l' := ([(2, .int .i64 0), (0, .pointer (some ⟨b, 0, none⟩))] : Fr)) (pts' := []) (eqs := []) (by kernel_rfl) trivial (AllC_nil _) ?_
  refine PO.mk ?_
  change WP _ _ (CA Try.f47 [1]) _ _ _
  refine fk_cut ([(0, .pointer (some ⟨b, 0, none⟩)), (2, .int .i64 0)] : Fr) (by kernel_rfl) (fun a => WP _ _ _ _ a _) (fun lr1 => ?_)
  refine gi_seq (x := CA Try.f47 [1, 0]) (y := CA Try.f47 [1, 1]) (by kernel_rfl) ?_
  refine gi_pln (id := 1) (ops := RA Try.f47 [1, 0]) [0, 1, 2, 3] (by kernel_rfl) (by kernel_rfl) (by kernel_rfl) ?_
  refine plain_batch (rest := [1, 2, 3]) [⟨0, [], none⟩] (l' := ([(3, .pointer (some ⟨b, 0, none⟩)), (0, .pointer (some ⟨b, 0, none⟩)), (2, .int .i64 0)] : Fr) ++ lr1) (pts' := []) (eqs := []) (by kernel_rfl) trivial (AllC_nil _) ?_
  refine plain_act (i := 1) (by kernel_rfl) ?_
  refine an_call (d := some 4) (f := 21) (args := [.pointer (some ⟨b, 0, none⟩)]) (by kernel_rfl) Try.call21 (dall_ht b n X) (F := [R]) h0 ?_
  rintro v K w4 (⟨p2, c3, rfl, rfl⟩) h5
  refine ⟨_, rfl, ?_⟩
  have h6 : sat g w4 [Dc b n X, Sl 28 3 p2 (((inS 1 (As X) 0).length)) c3 (fl eO (allX X)), R] := h5
  refine plain_batch (rest := []) [⟨2, [], none⟩, ⟨3, [], none⟩] (l' := ([(2, .int .i64 ((((inS 1 (As X) 0).length : Nat) : Int))), (5, .int .i64 ((((inS 1 (As X) 0).length : Nat) : Int))), (4, .slice p2 (((inS 1 (As X) 0).length)) c3), (3, .pointer (some ⟨b, 0, none⟩)), (0, .pointer (some ⟨b, 0, none⟩)), (2, .int .i64 0)] : Fr) ++ lr1) (pts' := []) (eqs := []) (by kernel_rfl) trivial (AllC_nil _) ?_
  refine PO.mk ?_
  change WP _ _ (CA Try.f47 [1, 1]) _ _ _
  refine fk_cut ([(0, .pointer (some ⟨b, 0, none⟩)), (2, .int .i64 ((((inS 1 (As X) 0).length : Nat) : Int)))] : Fr) (by kernel_rfl) (fun a => WP _ _ _ _ a _) (fun lr7 => ?_)
  refine gi_rt (by kernel_rfl) ?_
  repeat (first | simp only [Exit.inBlock] | simp only [Exit.then])
  have h8 : sat g w4 [Dc b n X, R] := sat_sel [0, 2] rfl h6
  refine hi_out [] (.int .i64 ((((inS 1 (As X) 0).length : Nat) : Int))) [] (by kernel_rfl) (by intro q hq; cases hq) ?_
  exact ⟨.int .i64 ((((inS 1 (As X) 0).length : Nat) : Int)), [Dc b n X], rfl, ⟨rfl, rfl⟩, h8⟩

set_option maxHeartbeats 4000000 in
theorem dcopy_ht (b n : Nat) (X : Xs) : HT Try.prog 25 [Value.pointer (some ⟨b, 0, none⟩)] [Dc b n X] (fun v K => ∃ b2 : Nat, v = Value.pointer (some ⟨b2, 0, none⟩) ∧ K = [Dc b n X, Dc b2 n X]) := by
  refine hi_in 11 ([(0, .pointer (some ⟨b, 0, none⟩))] : Fr) Try.func25 (by kernel_rfl) Try.ntmps25 rfl rfl ?_
  intro g w0 R h0
  refine gi_seq (x := CA Try.f25 [0]) (y := CA Try.f25 [1]) (by kernel_rfl) ?_
  refine gi_pln (id := 0) (ops := RA Try.f25 [0]) [0] (by kernel_rfl) (by kernel_rfl) (by kernel_rfl) ?_
  refine plain_batch (rest := []) [⟨0, [], none⟩] (l' := ([(2, .pointer none), (0, .pointer (some ⟨b, 0, none⟩))] : Fr)) (pts' := []) (eqs := []) (by kernel_rfl) trivial (AllC_nil _) ?_
  refine PO.mk ?_
  change WP _ _ (CA Try.f25 [1]) _ _ _
  refine fk_cut ([(0, .pointer (some ⟨b, 0, none⟩)), (2, .pointer none)] : Fr) (by kernel_rfl) (fun a => WP _ _ _ _ a _) (fun lr1 => ?_)
  refine gi_seq (x := CA Try.f25 [1, 0]) (y := CA Try.f25 [1, 1]) (by kernel_rfl) ?_
  refine gi_pln (id := 1) (ops := RA Try.f25 [1, 0]) [0, 1, 2, 3, 4, 5, 6, 7, 8] (by kernel_rfl) (by kernel_rfl) (by kernel_rfl) ?_
  refine plain_act (i := 0) (by kernel_rfl) ?_
  refine an_new (d := 3) (fun xb_ => .slice (some ⟨xb_, 0, none⟩) 0 0) (fun xb_ => Obj.cells [].toArray 94 (0, 0)) (fun xb_ => by kernel_rfl) (by kernel_rfl) rfl h0 ?_
  intro r2 w3 (h4 : sat g w3 [Cl r2 [] 94, Dc b n X, R])
  have h5 : sat g w3 [Dc b n X, Cl r2 [] 94, R] := sat_sel [1, 0, 2] rfl h4
  obtain ⟨p6, c7, hD8, h9⟩ := dc_open h5
  have hXl_ := hD8.1; have hn1_ := hD8.2.1; have hn64_ := hD8.2.2.1; have hok_ := hD8.2.2.2; have hal_ := as_len X
  refine plain_batch (rest := [5, 6, 7, 8]) [⟨1, [], none⟩, ⟨2, [], none⟩, ⟨3, [], none⟩, ⟨4, [.slice p6 n c7], none⟩] (l' := ([(7, .slice p6 n c7), (6, .pointer (some ⟨b, 0, none⟩)), (5, .pointer (some ⟨b, 0, none⟩)), (4, .pointer (some ⟨b, 0, none⟩)), (3, .slice (some ⟨r2, 0, none⟩) 0 0), (0, .pointer (some ⟨b, 0, none⟩)), (2, .pointer none)] : Fr) ++ lr1) (pts' := [(4, ⟨b, 0, none⟩, .slice p6 n c7)]) (eqs := []) (by kernel_rfl) trivial (AllC_cons (sat_cell h9 0 rfl rfl) (AllC_nil _)) ?_
  have h10 : sat g w3 [Sl 94 4 p6 n c7 (fl eId X), Cl b [.slice p6 n c7] 92, Cl r2 [] 94, R] := sat_sel [1, 0, 2, 3] rfl h9
  have hl11 := fl_n eId_ok (by decide) h10
  have h12 : sat g w3 [Cl r2 [] 94, Sl 94 4 p6 n c7 (fl eId X), Cl b [.slice p6 n c7] 92, R] := sat_sel [2, 0, 1, 3] rfl h10
  have h13 : sat g w3 [Sl 94 4 (some ⟨r2, 0, none⟩) 0 0 (fl eId []), Sl 94 4 p6 n c7 (fl eId X), Cl b [.slice p6 n c7] 92, R] := sl_of_cl h12 rfl (by omega)
  refine plain_act (i := 5) (by kernel_rfl) ?_
  refine an_append_gv (d := 8) (sz := 4) (s := (Operand.tmp 3)) (x := (Operand.tmp 7)) (z := .agg #[.bool false, .bool false, .int .u32 0, .int .i64 0]) (p := (some ⟨r2, 0, none⟩)) (p2 := p6) (m := 0) (c := 0) (k := n) (c2 := c7) (by_ := 16) (by kernel_rfl) (by kernel_rfl) rfl Try.underlying90 (by kernel_rfl) rfl (by decide) (by kernel_rfl) (by kernel_rfl) h13 1 rfl (fl eId X) (gv_sl _ _ _) (by rw [fl_len eId_ok, hl11]) (fl_one eId_ok _) (by omega) (by omega) n (by omega) ?_
  intro p14 cap15 w16 (h17 : sat g w16 [Sl 94 4 p14 n cap15 ((fl eId []) ++ (fl eId X)), Sl 94 4 p6 n c7 (fl eId X), Cl b [.slice p6 n c7] 92, R])
  have h18 : sat g w16 [Sl 94 4 p14 n cap15 (fl eId X), Sl 94 4 p6 n c7 (fl eId X), Cl b [.slice p6 n c7] 92, R] := sat_imp h17 (fun _ hh => by exact hh)
  obtain ⟨hn19, hn20⟩ := sl_le h18
  refine plain_batch (rest := [7, 8]) [⟨6, [], none⟩] (l' := ([(9, .agg #[.slice p14 n cap15]), (8, .slice p14 n cap15), (7, .slice p6 n c7), (6, .pointer (some ⟨b, 0, none⟩)), (5, .pointer (some ⟨b, 0, none⟩)), (4, .pointer (some ⟨b, 0, none⟩)), (3, .slice (some ⟨r2, 0, none⟩) 0 0), (0, .pointer (some ⟨b, 0, none⟩)), (2, .pointer none)] : Fr) ++ lr1) (pts' := []) (eqs := []) (by kernel_rfl) trivial (AllC_nil _) ?_
  refine plain_act (i := 7) (by kernel_rfl) ?_
  refine an_new (d := 10) (fun xb_ => .pointer (some ⟨xb_, 0, none⟩)) (fun xb_ => Obj.cells [.slice p14 n cap15].toArray 92 (0, 0)) (fun xb_ => by kernel_rfl) (by kernel_rfl) rfl h18 ?_
  intro r21 w22 (h23 : sat g w22 [Cl r21 [.slice p14 n cap15] 92, Sl 94 4 p14 n cap15 (fl eId X), Sl 94 4 p6 n c7 (fl eId X), Cl b [.slice p6 n c7] 92, R])
  refine plain_batch (rest := []) [⟨8, [], none⟩] (l' := ([(2, .pointer (some ⟨r21, 0, none⟩)), (10, .pointer (some ⟨r21, 0, none⟩)), (9, .agg #[.slice p14 n cap15]), (8, .slice p14 n cap15), (7, .slice p6 n c7), (6, .pointer (some ⟨b, 0, none⟩)), (5, .pointer (some ⟨b, 0, none⟩)), (4, .pointer (some ⟨b, 0, none⟩)), (3, .slice (some ⟨r2, 0, none⟩) 0 0), (0, .pointer (some ⟨b, 0, none⟩)), (2, .pointer none)] : Fr) ++ lr1) (pts' := []) (eqs := []) (by kernel_rfl) trivial (AllC_nil _) ?_
  refine PO.mk ?_
  change WP _ _ (CA Try.f25 [1, 1]) _ _ _
  refine fk_cut ([(0, .pointer (some ⟨b, 0, none⟩)), (2, .pointer (some ⟨r21, 0, none⟩))] : Fr) (by kernel_rfl) (fun a => WP _ _ _ _ a _) (fun lr24 => ?_)
  refine gi_rt (by kernel_rfl) ?_
  repeat (first | simp only [Exit.inBlock] | simp only [Exit.then])
  have h25 : sat g w22 [Cl b [.slice p6 n c7] 92, Sl 94 4 p6 n c7 (fl eId X), Cl r21 [.slice p14 n cap15] 92, Sl 94 4 p14 n cap15 (fl eId X), R] := sat_sel [3, 2, 0, 1, 4] rfl h23
  have h26 : sat g w22 [Dc b n X, Cl r21 [.slice p14 n cap15] 92, Sl 94 4 p14 n cap15 (fl eId X), R] := dc_close hD8 h25
  have h27 : sat g w22 [Cl r21 [.slice p14 n cap15] 92, Sl 94 4 p14 n cap15 (fl eId X), Dc b n X, R] := sat_sel [1, 2, 0, 3] rfl h26
  have h28 : sat g w22 [Dc r21 n X, Dc b n X, R] := dc_close hD8 h27
  have h29 : sat g w22 [Dc b n X, Dc r21 n X, R] := sat_sel [1, 0, 2] rfl h28
  refine hi_out [] (.pointer (some ⟨r21, 0, none⟩)) [] (by kernel_rfl) (by intro q hq; cases hq) ?_
  exact ⟨.pointer (some ⟨r21, 0, none⟩), [Dc b n X, Dc r21 n X], rfl, ⟨r21, rfl, rfl⟩, h29⟩

end Go.Proofs.Ytcgpkhdocakloaa
