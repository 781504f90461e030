/- Walks, printed by my generator gen8.py. -/
import Derived.Test.YtcgpkhdocakloaaF7
namespace Go.Proofs.Ytcgpkhdocakloaa
theorem take_y (b n : Nat) (A : List Sl2) (h : 0 < (inS 0 A 0).length) : HT Try.prog 34 [Value.pointer (some ⟨b, 0, none⟩)] [Tb b n A] (fun v K => v = Value.tuple #[Value.agg #[Value.int .i64 (((inS 0 A 0).getD 0 (0, 0)).1 : Int), Value.int .u32 ((inS 0 A 0).getD 0 (0, 0)).2], Value.int .i64 0] ∧ K = [Tb b n (A.set ((inS 0 A 0).getD 0 (0, 0)).1 (1, ((inS 0 A 0).getD 0 (0, 0)).2))]) :=
  (take_ht b n A).mono fun v K hP => by
    rw [(take_some h).1, (take_some h).2] at hP
    exact hP
theorem take_n (b n : Nat) (A : List Sl2) (h : (inS 0 A 0).length = 0) : HT Try.prog 34 [Value.pointer (some ⟨b, 0, none⟩)] [Tb b n A] (fun v K => v = Value.tuple #[Value.agg #[Value.int .i64 0, Value.int .u32 0], Value.int .i64 4] ∧ K = [Tb b n A]) :=
  (take_ht b n A).mono fun v K hP => by
    rw [(take_none h).1, (take_none h).2] at hP
    exact hP
theorem get_zero {L : List (Nat × Int)} (h : 0 < L.length) : L[0]? = some ((L.getD 0 (0, 0)).1, (L.getD 0 (0, 0)).2) := by
  rw [getD_some (List.getElem?_eq_getElem h), List.getElem?_eq_getElem h]
theorem tk_map {α β : Type} (f : α → β) {l : List α} {i : Nat} {x : α} (h : l[i]? = some x) : (l.take i).map f ++ [f x] = (l.take (i + 1)).map f := by
  rw [List.take_add_one, h, List.map_append]
  rfl
theorem tk_all_map {α β : Type} (f : α → β) {l : List α} {i : Nat} (h : l.length ≤ i) : (l.take i).map f = l.map f := by rw [List.take_of_length_le h]
set_option maxHeartbeats 4000000 in
theorem mclone (m : Nat) (E : Mm) : HT Try.prog 45 [Value.map (some m)] [Mp m E] (fun v K => ∃ m2 : Nat, v = Value.map (some m2) ∧ K = [Mp m E, Mp m2 E]) := by
  refine hi_in 9 ([(0, .map (some m))] : Fr) Try.func45 (by kernel_rfl) Try.ntmps45 rfl rfl ?_
  intro g w0 R h0
  refine gi_seq (x := CA Try.f45 [0]) (y := CA Try.f45 [1]) (by kernel_rfl) ?_
  refine gi_pln (id := 0) (ops := RA Try.f45 [0]) [0] (by kernel_rfl) (by kernel_rfl) (by kernel_rfl) ?_
  refine plain_batch (rest := []) [⟨0, [], none⟩] (l' := ([(2, .map none), (0, .map (some m))] : Fr)) (pts' := []) (eqs := []) (by kernel_rfl) trivial (AllC_nil _) ?_
  refine PO.mk ?_
  change WP _ _ (CA Try.f45 [1]) _ _ _
  refine fk_cut ([(0, .map (some m)), (2, .map none)] : Fr) (by kernel_rfl) (fun a => WP _ _ _ _ a _) (fun lr1 => ?_)
  refine gi_seq (x := CA Try.f45 [1, 0]) (y := CA Try.f45 [1, 1]) (by kernel_rfl) ?_
  refine gi_seq (x := CA Try.f45 [1, 0, 0]) (y := CA Try.f45 [1, 0, 1]) (by kernel_rfl) ?_
  refine gi_pln (id := 1) (ops := RA Try.f45 [1, 0, 0]) [0, 1] (by kernel_rfl) (by kernel_rfl) (by kernel_rfl) ?_
  refine plain_batch (rest := []) [⟨0, [], none⟩, ⟨1, [], none⟩] (l' := ([(4, .bool false), (3, .map (some m)), (0, .map (some m)), (2, .map none)] : Fr) ++ lr1) (pts' := []) (eqs := []) (by kernel_rfl) trivial (AllC_nil _) ?_
  refine PO.mk ?_
  change WP _ _ (CA Try.f45 [1, 0, 1]) _ _ _
  refine fk_cut ([(0, .map (some m)), (2, .map none), (4, .bool false)] : Fr) (by kernel_rfl) (fun a => WP _ _ _ _ a _) (fun lr2 => ?_)
  refine gi_cnd (x := (Operand.tmp 4)) (s := CA Try.f45 [1, 0, 1, 0]) (t := CA Try.f45 [1, 0, 1, 1]) false (by kernel_rfl) (by kernel_rfl) ?_
  change WP _ _ (CA Try.f45 [1, 0, 1, 1]) _ _ _
  refine gi_skp (by kernel_rfl) ?_
  change WP _ _ (CA Try.f45 [1, 1]) _ _ _
  refine gi_seq (x := CA Try.f45 [1, 1, 0]) (y := CA Try.f45 [1, 1, 1]) (by kernel_rfl) ?_
  refine gi_pln (id := 3) (ops := RA Try.f45 [1, 1, 0]) [0, 1, 2, 3, 4] (by kernel_rfl) (by kernel_rfl) (by kernel_rfl) ?_
  refine plain_batch (rest := [1, 2, 3, 4]) [⟨0, [], none⟩] (l' := ([(5, .map (some m)), (0, .map (some m)), (2, .map none), (4, .bool false)] : Fr) ++ lr2) (pts' := []) (eqs := []) (by kernel_rfl) trivial (AllC_nil _) ?_
  refine plain_law (i := 1) 6 (.iface 61 (.map (some m))) (by kernel_rfl) (law_mkIface (o := opA (RA Try.f45 [1, 1, 0]) 1) (t := 61) (x := (Operand.tmp 5)) (by kernel_rfl) Try.underlying61 rfl (.map (some m)) (by kernel_rfl) _) ?_
  refine plain_act (i := 2) (by kernel_rfl) ?_
  refine an_clone (t := 61) (d := 7) (f := 60) (by kernel_rfl) rfl (fun w_ => by rw [run_callFunc_extern Try.func60 (by kernel_rfl) (by kernel_rfl) (by kernel_rfl) (e := Extern.MapsClone.clone) (by kernel_rfl)]; simp only [Sem.run_bind, Sem.run_pure]) h0 ?_
  intro r3 w4 (h5 : sat g w4 [Mp r3 E, Mp m E, R])
  refine plain_law (i := 3) 8 (.map (some r3)) (by kernel_rfl) (law_tAssert (o := opA (RA Try.f45 [1, 1, 0]) 3) (t := 61) (s := 20) (x := (Operand.tmp 7)) (by kernel_rfl) Try.underlying61 rfl (.map (some r3)) (by kernel_rfl) _) ?_
  refine plain_batch (rest := []) [⟨4, [], none⟩] (l' := ([(2, .map (some r3)), (8, .map (some r3)), (7, .iface 61 (.map (some r3))), (6, .iface 61 (.map (some m))), (5, .map (some m)), (0, .map (some m)), (2, .map none), (4, .bool false)] : Fr) ++ lr2) (pts' := []) (eqs := []) (by kernel_rfl) trivial (AllC_nil _) ?_
  refine PO.mk ?_
  change WP _ _ (CA Try.f45 [1, 1, 1]) _ _ _
  refine fk_cut ([(0, .map (some m)), (2, .map (some r3)), (4, .bool false)] : Fr) (by kernel_rfl) (fun a => WP _ _ _ _ a _) (fun lr6 => ?_)
  refine gi_rt (by kernel_rfl) ?_
  repeat (first | simp only [Exit.inBlock] | simp only [Exit.then])
  have h7 : sat g w4 [Mp m E, Mp r3 E, R] := sat_sel [1, 0, 2] rfl h5
  refine hi_out [] (.map (some r3)) [] (by kernel_rfl) (by intro q hq; cases hq) ?_
  exact ⟨.map (some r3), [Mp m E, Mp r3 E], rfl, ⟨r3, rfl, rfl⟩, h7⟩

set_option maxHeartbeats 4000000 in
theorem fnew_ok (n : Nat) (gn : Int) (hn : 1 ≤ n ∧ n ≤ 64) (hgn : 1 ≤ gn ∧ gn ≤ 4294967295) : HT Try.prog 15 [Value.int IntKind.i64 (((n : Nat) : Int)), Value.int IntKind.u32 gn] [] (fun v K => ∃ b : Nat, v = Value.tuple #[Value.pointer (some ⟨b, 0, none⟩), Value.int .i64 0] ∧ K = [Fd b n (List.replicate n (0, gn, 0))]) := by
  refine hi_in 23 ([(0, .int .i64 (((n : Nat) : Int))), (1, .int .u32 gn)] : Fr) Try.func15 (by kernel_rfl) Try.ntmps15 rfl rfl ?_
  intro g w0 R h0
  refine gi_seq (x := CA Try.f15 [0]) (y := CA Try.f15 [1]) (by kernel_rfl) ?_
  refine gi_pln (id := 0) (ops := RA Try.f15 [0]) [0, 1] (by kernel_rfl) (by kernel_rfl) (by kernel_rfl) ?_
  refine plain_batch (rest := []) [⟨0, [], none⟩, ⟨1, [], none⟩] (l' := ([(5, .int .i64 0), (4, .pointer none), (0, .int .i64 (((n : Nat) : Int))), (1, .int .u32 gn)] : Fr)) (pts' := []) (eqs := []) (by kernel_rfl) trivial (AllC_nil _) ?_
  refine PO.mk ?_
  change WP _ _ (CA Try.f15 [1]) _ _ _
  refine fk_cut ([(0, .int .i64 (((n : Nat) : Int))), (1, .int .u32 gn), (4, .pointer none), (5, .int .i64 0)] : Fr) (by kernel_rfl) (fun a => WP _ _ _ _ a _) (fun lr1 => ?_)
  refine gi_seq (x := CA Try.f15 [1, 0]) (y := CA Try.f15 [1, 1]) (by kernel_rfl) ?_
  refine gi_seq (x := CA Try.f15 [1, 0, 0]) (y := CA Try.f15 [1, 0, 1]) (by kernel_rfl) ?_
  refine gi_pln (id := 1) (ops := RA Try.f15 [1, 0, 0]) [0, 1] (by kernel_rfl) (by kernel_rfl) (by kernel_rfl) ?_
  refine plain_batch (rest := []) [⟨0, [], none⟩, ⟨1, [], some (.bool false)⟩] (l' := ([(9, .bool false), (8, .int .i64 (((n : Nat) : Int))), (0, .int .i64 (((n : Nat) : Int))), (1, .int .u32 gn), (4, .pointer none), (5, .int .i64 0)] : Fr) ++ lr1) (pts' := []) (eqs := [(.bool (decide (((n : Nat) : Int) > 64)), .bool false)]) (by kernel_rfl) ⟨(ov_f (by omega)), trivial⟩ (AllC_nil _) ?_
  refine PO.mk ?_
  change WP _ _ (CA Try.f15 [1, 0, 1]) _ _ _
  refine fk_cut ([(0, .int .i64 (((n : Nat) : Int))), (1, .int .u32 gn), (4, .pointer none), (5, .int .i64 0), (9, .bool false)] : Fr) (by kernel_rfl) (fun a => WP _ _ _ _ a _) (fun lr2 => ?_)
  refine gi_cnd (x := (Operand.tmp 9)) (s := CA Try.f15 [1, 0, 1, 0]) (t := CA Try.f15 [1, 0, 1, 1]) false (by kernel_rfl) (by kernel_rfl) ?_
  change WP _ _ (CA Try.f15 [1, 0, 1, 1]) _ _ _
  refine gi_skp (by kernel_rfl) ?_
  change WP _ _ (CA Try.f15 [1, 1]) _ _ _
  refine gi_seq (x := CA Try.f15 [1, 1, 0]) (y := CA Try.f15 [1, 1, 1]) (by kernel_rfl) ?_
  refine gi_pln (id := 3) (ops := RA Try.f15 [1, 1, 0]) [0, 1, 2, 3, 4, 5, 6, 7] (by kernel_rfl) (by kernel_rfl) (by kernel_rfl) ?_
  refine plain_batch (rest := [2, 3, 4, 5, 6, 7]) [⟨0, [], none⟩, ⟨1, [], none⟩] (l' := ([(12, .int .u32 gn), (11, .int .i64 (((n : Nat) : Int))), (0, .int .i64 (((n : Nat) : Int))), (1, .int .u32 gn), (4, .pointer none), (5, .int .i64 0), (9, .bool false)] : Fr) ++ lr2) (pts' := []) (eqs := []) (by kernel_rfl) trivial (AllC_nil _) ?_
  refine plain_act (i := 2) (by kernel_rfl) ?_
  refine an_call (d := some 13) (f := 40) (args := [.int .i64 (((n : Nat) : Int)), .int .u32 gn]) (by kernel_rfl) Try.call40 (snew_ok n (by omega) gn (by omega)) (F := [R]) h0 ?_
  rintro v K w4 (⟨b3, rfl, rfl⟩) h5
  refine ⟨_, rfl, ?_⟩
  have h6 : sat g w4 [Tb b3 n (List.replicate n (0, gn)), R] := h5
  refine plain_batch (rest := []) [⟨3, [], none⟩, ⟨4, [], none⟩, ⟨5, [], none⟩, ⟨6, [], none⟩, ⟨7, [], none⟩] (l' := ([(7, .int .i64 0), (6, .pointer (some ⟨b3, 0, none⟩)), (15, .int .i64 0), (14, .pointer (some ⟨b3, 0, none⟩)), (10, .tuple #[.pointer (some ⟨b3, 0, none⟩), .int .i64 0]), (13, .tuple #[.pointer (some ⟨b3, 0, none⟩), .int .i64 0]), (12, .int .u32 gn), (11, .int .i64 (((n : Nat) : Int))), (0, .int .i64 (((n : Nat) : Int))), (1, .int .u32 gn), (4, .pointer none), (5, .int .i64 0), (9, .bool false)] : Fr) ++ lr2) (pts' := []) (eqs := []) (by kernel_rfl) trivial (AllC_nil _) ?_
  refine PO.mk ?_
  change WP _ _ (CA Try.f15 [1, 1, 1]) _ _ _
  refine fk_cut ([(0, .int .i64 (((n : Nat) : Int))), (1, .int .u32 gn), (4, .pointer none), (5, .int .i64 0), (6, .pointer (some ⟨b3, 0, none⟩)), (7, .int .i64 0), (9, .bool false)] : Fr) (by kernel_rfl) (fun a => WP _ _ _ _ a _) (fun lr7 => ?_)
  refine gi_seq (x := CA Try.f15 [1, 1, 1, 0]) (y := CA Try.f15 [1, 1, 1, 1]) (by kernel_rfl) ?_
  refine gi_seq (x := CA Try.f15 [1, 1, 1, 0, 0]) (y := CA Try.f15 [1, 1, 1, 0, 1]) (by kernel_rfl) ?_
  refine gi_pln (id := 4) (ops := RA Try.f15 [1, 1, 1, 0, 0]) [0, 1] (by kernel_rfl) (by kernel_rfl) (by kernel_rfl) ?_
  refine plain_batch (rest := []) [⟨0, [], none⟩, ⟨1, [], none⟩] (l' := ([(17, .bool false), (16, .int .i64 0), (0, .int .i64 (((n : Nat) : Int))), (1, .int .u32 gn), (4, .pointer none), (5, .int .i64 0), (6, .pointer (some ⟨b3, 0, none⟩)), (7, .int .i64 0), (9, .bool false)] : Fr) ++ lr7) (pts' := []) (eqs := []) (by kernel_rfl) trivial (AllC_nil _) ?_
  refine PO.mk ?_
  change WP _ _ (CA Try.f15 [1, 1, 1, 0, 1]) _ _ _
  refine fk_cut ([(0, .int .i64 (((n : Nat) : Int))), (1, .int .u32 gn), (4, .pointer none), (5, .int .i64 0), (6, .pointer (some ⟨b3, 0, none⟩)), (7, .int .i64 0), (9, .bool false), (17, .bool false)] : Fr) (by kernel_rfl) (fun a => WP _ _ _ _ a _) (fun lr8 => ?_)
  refine gi_cnd (x := (Operand.tmp 17)) (s := CA Try.f15 [1, 1, 1, 0, 1, 0]) (t := CA Try.f15 [1, 1, 1, 0, 1, 1]) false (by kernel_rfl) (by kernel_rfl) ?_
  change WP _ _ (CA Try.f15 [1, 1, 1, 0, 1, 1]) _ _ _
  refine gi_skp (by kernel_rfl) ?_
  change WP _ _ (CA Try.f15 [1, 1, 1, 1]) _ _ _
  refine gi_seq (x := CA Try.f15 [1, 1, 1, 1, 0]) (y := CA Try.f15 [1, 1, 1, 1, 1]) (by kernel_rfl) ?_
  refine gi_pln (id := 6) (ops := RA Try.f15 [1, 1, 1, 1, 0]) [0, 1, 2, 3, 4, 5] (by kernel_rfl) (by kernel_rfl) (by kernel_rfl) ?_
  refine plain_batch (rest := [1, 2, 3, 4, 5]) [⟨0, [], none⟩] (l' := ([(19, .pointer (some ⟨b3, 0, none⟩)), (0, .int .i64 (((n : Nat) : Int))), (1, .int .u32 gn), (4, .pointer none), (5, .int .i64 0), (6, .pointer (some ⟨b3, 0, none⟩)), (7, .int .i64 0), (9, .bool false), (17, .bool false)] : Fr) ++ lr8) (pts' := []) (eqs := []) (by kernel_rfl) trivial (AllC_nil _) ?_
  refine plain_act (i := 1) (by kernel_rfl) ?_
  refine an_makeMap (t := 61) (d := 20) (by kernel_rfl) (by kernel_rfl) rfl h6 ?_
  intro r9 w10 (h11 : sat g w10 [Mp r9 [], Tb b3 n (List.replicate n (0, gn)), R])
  refine plain_batch (rest := [3, 4, 5]) [⟨2, [], none⟩] (l' := ([(21, .agg #[.pointer (some ⟨b3, 0, none⟩), .map (some r9)]), (20, .map (some r9)), (19, .pointer (some ⟨b3, 0, none⟩)), (0, .int .i64 (((n : Nat) : Int))), (1, .int .u32 gn), (4, .pointer none), (5, .int .i64 0), (6, .pointer (some ⟨b3, 0, none⟩)), (7, .int .i64 0), (9, .bool false), (17, .bool false)] : Fr) ++ lr8) (pts' := []) (eqs := []) (by kernel_rfl) trivial (AllC_nil _) ?_
  refine plain_act (i := 3) (by kernel_rfl) ?_
  refine an_new (d := 22) (fun xb_ => .pointer (some ⟨xb_, 0, none⟩)) (fun xb_ => Obj.cells [.pointer (some ⟨b3, 0, none⟩), .map (some r9)].toArray 63 (0, 0)) (fun xb_ => by kernel_rfl) (by kernel_rfl) rfl h11 ?_
  intro r12 w13 (h14 : sat g w13 [Cl r12 [.pointer (some ⟨b3, 0, none⟩), .map (some r9)] 63, Mp r9 [], Tb b3 n (List.replicate n (0, gn)), R])
  refine plain_batch (rest := []) [⟨4, [], none⟩, ⟨5, [], none⟩] (l' := ([(5, .int .i64 0), (4, .pointer (some ⟨r12, 0, none⟩)), (22, .pointer (some ⟨r12, 0, none⟩)), (21, .agg #[.pointer (some ⟨b3, 0, none⟩), .map (some r9)]), (20, .map (some r9)), (19, .pointer (some ⟨b3, 0, none⟩)), (0, .int .i64 (((n : Nat) : Int))), (1, .int .u32 gn), (4, .pointer none), (5, .int .i64 0), (6, .pointer (some ⟨b3, 0, none⟩)), (7, .int .i64 0), (9, .bool false), (17, .bool false)] : Fr) ++ lr8) (pts' := []) (eqs := []) (by kernel_rfl) trivial (AllC_nil _) ?_
  refine PO.mk ?_
  change WP _ _ (CA Try.f15 [1, 1, 1, 1, 1]) _ _ _
  refine fk_cut ([(0, .int .i64 (((n : Nat) : Int))), (1, .int .u32 gn), (4, .pointer (some ⟨r12, 0, none⟩)), (5, .int .i64 0), (6, .pointer (some ⟨b3, 0, none⟩)), (7, .int .i64 0), (9, .bool false), (17, .bool false)] : Fr) (by kernel_rfl) (fun a => WP _ _ _ _ a _) (fun lr15 => ?_)
  refine gi_rt (by kernel_rfl) ?_
  repeat (first | simp only [Exit.inBlock] | simp only [Exit.then])
  have hn64_ : n ≤ 64 := by omega
  have h16 : sat g w13 [Cl r12 [.pointer (some ⟨b3, 0, none⟩), .map (some r9)] 63, Tb b3 n (List.replicate n (0, gn)), Mp r9 [], R] := sat_sel [0, 2, 1, 3] rfl h14
  have h17 : sat g w13 [Fd r12 n (List.replicate n (0, gn, 0)), R] := fd_close nums_nil (by omega) (List.map_replicate.symm) rfl h16
  refine hi_out [] (.tuple #[.pointer (some ⟨r12, 0, none⟩), .int .i64 0]) [] (by kernel_rfl) (by intro q hq; cases hq) ?_
  exact ⟨.tuple #[.pointer (some ⟨r12, 0, none⟩), .int .i64 0], [Fd r12 n (List.replicate n (0, gn, 0))], rfl, ⟨r12, rfl, rfl⟩, h17⟩

set_option maxHeartbeats 4000000 in
theorem fnew_no (z gn : Int) (hgn : 0 ≤ gn ∧ gn ≤ 4294967295) (hz : z < 1 ∨ 64 < z ∨ gn = 0) : HT Try.prog 15 [Value.int IntKind.i64 z, Value.int IntKind.u32 gn] [] (fun v K => v = Value.tuple #[Value.pointer none, Value.int .i64 2] ∧ K = []) := by
  refine hi_in 23 ([(0, .int .i64 z), (1, .int .u32 gn)] : Fr) Try.func15 (by kernel_rfl) Try.ntmps15 rfl rfl ?_
  intro g w0 R h0
  refine gi_seq (x := CA Try.f15 [0]) (y := CA Try.f15 [1]) (by kernel_rfl) ?_
  refine gi_pln (id := 0) (ops := RA Try.f15 [0]) [0, 1] (by kernel_rfl) (by kernel_rfl) (by kernel_rfl) ?_
  refine plain_batch (rest := []) [⟨0, [], none⟩, ⟨1, [], none⟩] (l' := ([(5, .int .i64 0), (4, .pointer none), (0, .int .i64 z), (1, .int .u32 gn)] : Fr)) (pts' := []) (eqs := []) (by kernel_rfl) trivial (AllC_nil _) ?_
  refine PO.mk ?_
  change WP _ _ (CA Try.f15 [1]) _ _ _
  refine fk_cut ([(0, .int .i64 z), (1, .int .u32 gn), (4, .pointer none), (5, .int .i64 0)] : Fr) (by kernel_rfl) (fun a => WP _ _ _ _ a _) (fun lr1 => ?_)
  refine gi_seq (x := CA Try.f15 [1, 0]) (y := CA Try.f15 [1, 1]) (by kernel_rfl) ?_
  refine gi_seq (x := CA Try.f15 [1, 0, 0]) (y := CA Try.f15 [1, 0, 1]) (by kernel_rfl) ?_
  refine gi_pln (id := 1) (ops := RA Try.f15 [1, 0, 0]) [0, 1] (by kernel_rfl) (by kernel_rfl) (by kernel_rfl) ?_
  refine plain_batch (rest := [1]) [⟨0, [], none⟩] (l' := ([(8, .int .i64 z), (0, .int .i64 z), (1, .int .u32 gn), (4, .pointer none), (5, .int .i64 0)] : Fr) ++ lr1) (pts' := []) (eqs := []) (by kernel_rfl) trivial (AllC_nil _) ?_
  by_cases c2 : z > 64
  ·
    refine plain_batch (rest := []) [⟨1, [], some (.bool true)⟩] (l' := ([(9, .bool true), (8, .int .i64 z), (0, .int .i64 z), (1, .int .u32 gn), (4, .pointer none), (5, .int .i64 0)] : Fr) ++ lr1) (pts' := []) (eqs := [(.bool (decide (z > 64)), .bool true)]) (by kernel_rfl) ⟨(ov_t (by omega)), trivial⟩ (AllC_nil _) ?_
    refine PO.mk ?_
    change WP _ _ (CA Try.f15 [1, 0, 1]) _ _ _
    refine fk_cut ([(0, .int .i64 z), (1, .int .u32 gn), (4, .pointer none), (5, .int .i64 0), (9, .bool true)] : Fr) (by kernel_rfl) (fun a => WP _ _ _ _ a _) (fun lr3 => ?_)
    refine gi_cnd (x := (Operand.tmp 9)) (s := CA Try.f15 [1, 0, 1, 0]) (t := CA Try.f15 [1, 0, 1, 1]) true (by kernel_rfl) (by kernel_rfl) ?_
    change WP _ _ (CA Try.f15 [1, 0, 1, 0]) _ _ _
    refine gi_seq (x := CA Try.f15 [1, 0, 1, 0, 0]) (y := CA Try.f15 [1, 0, 1, 0, 1]) (by kernel_rfl) ?_
    refine gi_pln (id := 2) (ops := RA Try.f15 [1, 0, 1, 0, 0]) [0, 1] (by kernel_rfl) (by kernel_rfl) (by kernel_rfl) ?_
    refine plain_batch (rest := []) [⟨0, [], none⟩, ⟨1, [], none⟩] (l' := ([(5, .int .i64 2), (4, .pointer none), (0, .int .i64 z), (1, .int .u32 gn), (4, .pointer none), (5, .int .i64 0), (9, .bool true)] : Fr) ++ lr3) (pts' := []) (eqs := []) (by kernel_rfl) trivial (AllC_nil _) ?_
    refine PO.mk ?_
    change WP _ _ (CA Try.f15 [1, 0, 1, 0, 1]) _ _ _
    refine fk_cut ([(0, .int .i64 z), (1, .int .u32 gn), (4, .pointer none), (5, .int .i64 2), (9, .bool true)] : Fr) (by kernel_rfl) (fun a => WP _ _ _ _ a _) (fun lr4 => ?_)
    refine gi_rt (by kernel_rfl) ?_
    repeat (first | simp only [Exit.inBlock] | simp only [Exit.then])
    refine hi_out [] (.tuple #[.pointer none, .int .i64 2]) [] (by kernel_rfl) (by intro q hq; cases hq) ?_
    exact ⟨.tuple #[.pointer none, .int .i64 2], [], rfl, ⟨rfl, rfl⟩, h0⟩
  ·
    refine plain_batch (rest := []) [⟨1, [], some (.bool false)⟩] (l' := ([(9, .bool false), (8, .int .i64 z), (0, .int .i64 z), (1, .int .u32 gn), (4, .pointer none), (5, .int .i64 0)] : Fr) ++ lr1) (pts' := []) (eqs := [(.bool (decide (z > 64)), .bool false)]) (by kernel_rfl) ⟨(ov_f (by omega)), trivial⟩ (AllC_nil _) ?_
    refine PO.mk ?_
    change WP _ _ (CA Try.f15 [1, 0, 1]) _ _ _
    refine fk_cut ([(0, .int .i64 z), (1, .int .u32 gn), (4, .pointer none), (5, .int .i64 0), (9, .bool false)] : Fr) (by kernel_rfl) (fun a => WP _ _ _ _ a _) (fun lr5 => ?_)
    refine gi_cnd (x := (Operand.tmp 9)) (s := CA Try.f15 [1, 0, 1, 0]) (t := CA Try.f15 [1, 0, 1, 1]) false (by kernel_rfl) (by kernel_rfl) ?_
    change WP _ _ (CA Try.f15 [1, 0, 1, 1]) _ _ _
    refine gi_skp (by kernel_rfl) ?_
    change WP _ _ (CA Try.f15 [1, 1]) _ _ _
    refine gi_seq (x := CA Try.f15 [1, 1, 0]) (y := CA Try.f15 [1, 1, 1]) (by kernel_rfl) ?_
    refine gi_pln (id := 3) (ops := RA Try.f15 [1, 1, 0]) [0, 1, 2, 3, 4, 5, 6, 7] (by kernel_rfl) (by kernel_rfl) (by kernel_rfl) ?_
    refine plain_batch (rest := [2, 3, 4, 5, 6, 7]) [⟨0, [], none⟩, ⟨1, [], none⟩] (l' := ([(12, .int .u32 gn), (11, .int .i64 z), (0, .int .i64 z), (1, .int .u32 gn), (4, .pointer none), (5, .int .i64 0), (9, .bool false)] : Fr) ++ lr5) (pts' := []) (eqs := []) (by kernel_rfl) trivial (AllC_nil _) ?_
    by_cases c6 : 1 ≤ z
    ·
      refine plain_act (i := 2) (by kernel_rfl) ?_
      refine an_call (d := some 13) (f := 40) (args := [.int .i64 z, .int .u32 gn]) (by kernel_rfl) Try.call40 (snew_no z gn (by omega) (by omega)) (F := [R]) h0 ?_
      rintro v K w7 (⟨rfl, rfl⟩) h8
      refine ⟨_, rfl, ?_⟩
      have h9 : sat g w7 [R] := h8
      refine plain_batch (rest := []) [⟨3, [], none⟩, ⟨4, [], none⟩, ⟨5, [], none⟩, ⟨6, [], none⟩, ⟨7, [], none⟩] (l' := ([(7, .int .i64 2), (6, .pointer none), (15, .int .i64 2), (14, .pointer none), (10, .tuple #[.pointer none, .int .i64 2]), (13, .tuple #[.pointer none, .int .i64 2]), (12, .int .u32 gn), (11, .int .i64 z), (0, .int .i64 z), (1, .int .u32 gn), (4, .pointer none), (5, .int .i64 0), (9, .bool false)] : Fr) ++ lr5) (pts' := []) (eqs := []) (by kernel_rfl) trivial (AllC_nil _) ?_
      refine PO.mk ?_
      change WP _ _ (CA Try.f15 [1, 1, 1]) _ _ _
      refine fk_cut ([(0, .int .i64 z), (1, .int .u32 gn), (4, .pointer none), (5, .int .i64 0), (6, .pointer none), (7, .int .i64 2), (9, .bool false)] : Fr) (by kernel_rfl) (fun a => WP _ _ _ _ a _) (fun lr10 => ?_)
      refine gi_seq (x := CA Try.f15 [1, 1, 1, 0]) (y := CA Try.f15 [1, 1, 1, 1]) (by kernel_rfl) ?_
      refine gi_seq (x := CA Try.f15 [1, 1, 1, 0, 0]) (y := CA Try.f15 [1, 1, 1, 0, 1]) (by kernel_rfl) ?_
      refine gi_pln (id := 4) (ops := RA Try.f15 [1, 1, 1, 0, 0]) [0, 1] (by kernel_rfl) (by kernel_rfl) (by kernel_rfl) ?_
      refine plain_batch (rest := []) [⟨0, [], none⟩, ⟨1, [], none⟩] (l' := ([(17, .bool true), (16, .int .i64 2), (0, .int .i64 z), (1, .int .u32 gn), (4, .pointer none), (5, .int .i64 0), (6, .pointer none), (7, .int .i64 2), (9, .bool false)] : Fr) ++ lr10) (pts' := []) (eqs := []) (by kernel_rfl) trivial (AllC_nil _) ?_
      refine PO.mk ?_
      change WP _ _ (CA Try.f15 [1, 1, 1, 0, 1]) _ _ _
      refine fk_cut ([(0, .int .i64 z), (1, .int .u32 gn), (4, .pointer none), (5, .int .i64 0), (6, .pointer none), (7, .int .i64 2), (9, .bool false), (17, .bool true)] : Fr) (by kernel_rfl) (fun a => WP _ _ _ _ a _) (fun lr11 => ?_)
      refine gi_cnd (x := (Operand.tmp 17)) (s := CA Try.f15 [1, 1, 1, 0, 1, 0]) (t := CA Try.f15 [1, 1, 1, 0, 1, 1]) true (by kernel_rfl) (by kernel_rfl) ?_
      change WP _ _ (CA Try.f15 [1, 1, 1, 0, 1, 0]) _ _ _
      refine gi_seq (x := CA Try.f15 [1, 1, 1, 0, 1, 0, 0]) (y := CA Try.f15 [1, 1, 1, 0, 1, 0, 1]) (by kernel_rfl) ?_
      refine gi_pln (id := 5) (ops := RA Try.f15 [1, 1, 1, 0, 1, 0, 0]) [0, 1, 2] (by kernel_rfl) (by kernel_rfl) (by kernel_rfl) ?_
      refine plain_batch (rest := []) [⟨0, [], none⟩, ⟨1, [], none⟩, ⟨2, [], none⟩] (l' := ([(5, .int .i64 2), (4, .pointer none), (18, .int .i64 2), (0, .int .i64 z), (1, .int .u32 gn), (4, .pointer none), (5, .int .i64 0), (6, .pointer none), (7, .int .i64 2), (9, .bool false), (17, .bool true)] : Fr) ++ lr11) (pts' := []) (eqs := []) (by kernel_rfl) trivial (AllC_nil _) ?_
      refine PO.mk ?_
      change WP _ _ (CA Try.f15 [1, 1, 1, 0, 1, 0, 1]) _ _ _
      refine fk_cut ([(0, .int .i64 z), (1, .int .u32 gn), (4, .pointer none), (5, .int .i64 2), (6, .pointer none), (7, .int .i64 2), (9, .bool false), (17, .bool true)] : Fr) (by kernel_rfl) (fun a => WP _ _ _ _ a _) (fun lr12 => ?_)
      refine gi_rt (by kernel_rfl) ?_
      repeat (first | simp only [Exit.inBlock] | simp only [Exit.then])
      refine hi_out [] (.tuple #[.pointer none, .int .i64 2]) [] (by kernel_rfl) (by intro q hq; cases hq) ?_
      exact ⟨.tuple #[.pointer none, .int .i64 2], [], rfl, ⟨rfl, rfl⟩, h9⟩
    ·
      refine plain_act (i := 2) (by kernel_rfl) ?_
      refine an_call (d := some 13) (f := 40) (args := [.int .i64 z, .int .u32 gn]) (by kernel_rfl) Try.call40 (snew_no z gn (by omega) (by omega)) (F := [R]) h0 ?_
      rintro v K w13 (⟨rfl, rfl⟩) h14
      refine ⟨_, rfl, ?_⟩
      have h15 : sat g w13 [R] := h14
      refine plain_batch (rest := []) [⟨3, [], none⟩, ⟨4, [], none⟩, ⟨5, [], none⟩, ⟨6, [], none⟩, ⟨7, [], none⟩] (l' := ([(7, .int .i64 2), (6, .pointer none), (15, .int .i64 2), (14, .pointer none), (10, .tuple #[.pointer none, .int .i64 2]), (13, .tuple #[.pointer none, .int .i64 2]), (12, .int .u32 gn), (11, .int .i64 z), (0, .int .i64 z), (1, .int .u32 gn), (4, .pointer none), (5, .int .i64 0), (9, .bool false)] : Fr) ++ lr5) (pts' := []) (eqs := []) (by kernel_rfl) trivial (AllC_nil _) ?_
      refine PO.mk ?_
      change WP _ _ (CA Try.f15 [1, 1, 1]) _ _ _
      refine fk_cut ([(0, .int .i64 z), (1, .int .u32 gn), (4, .pointer none), (5, .int .i64 0), (6, .pointer none), (7, .int .i64 2), (9, .bool false)] : Fr) (by kernel_rfl) (fun a => WP _ _ _ _ a _) (fun lr16 => ?_)
      refine gi_seq (x := CA Try.f15 [1, 1, 1, 0]) (y := CA Try.f15 [1, 1, 1, 1]) (by kernel_rfl) ?_
      refine gi_seq (x := CA Try.f15 [1, 1, 1, 0, 0]) (y := CA Try.f15 [1, 1, 1, 0, 1]) (by kernel_rfl) ?_
      refine gi_pln (id := 4) (ops := RA Try.f15 [1, 1, 1, 0, 0]) [0, 1] (by kernel_rfl) (by kernel_rfl) (by kernel_rfl) ?_
      refine plain_batch (rest := []) [⟨0, [], none⟩, ⟨1, [], none⟩] (l' := ([(17, .bool true), (16, .int .i64 2), (0, .int .i64 z), (1, .int .u32 gn), (4, .pointer none), (5, .int .i64 0), (6, .pointer none), (7, .int .i64 2), (9, .bool false)] : Fr) ++ lr16) (pts' := []) (eqs := []) (by kernel_rfl) trivial (AllC_nil _) ?_
      refine PO.mk ?_
      change WP _ _ (CA Try.f15 [1, 1, 1, 0, 1]) _ _ _
      refine fk_cut ([(0, .int .i64 z), (1, .int .u32 gn), (4, .pointer none), (5, .int .i64 0), (6, .pointer none), (7, .int .i64 2), (9, .bool false), (17, .bool true)] : Fr) (by kernel_rfl) (fun a => WP _ _ _ _ a _) (fun lr17 => ?_)
      refine gi_cnd (x := (Operand.tmp 17)) (s := CA Try.f15 [1, 1, 1, 0, 1, 0]) (t := CA Try.f15 [1, 1, 1, 0, 1, 1]) true (by kernel_rfl) (by kernel_rfl) ?_
      change WP _ _ (CA Try.f15 [1, 1, 1, 0, 1, 0]) _ _ _
      refine gi_seq (x := CA Try.f15 [1, 1, 1, 0, 1, 0, 0]) (y := CA Try.f15 [1, 1, 1, 0, 1, 0, 1]) (by kernel_rfl) ?_
      refine gi_pln (id := 5) (ops := RA Try.f15 [1, 1, 1, 0, 1, 0, 0]) [0, 1, 2] (by kernel_rfl) (by kernel_rfl) (by kernel_rfl) ?_
      refine plain_batch (rest := []) [⟨0, [], none⟩, ⟨1, [], none⟩, ⟨2, [], none⟩] (l' := ([(5, .int .i64 2), (4, .pointer none), (18, .int .i64 2), (0, .int .i64 z), (1, .int .u32 gn), (4, .pointer none), (5, .int .i64 0), (6, .pointer none), (7, .int .i64 2), (9, .bool false), (17, .bool true)] : Fr) ++ lr17) (pts' := []) (eqs := []) (by kernel_rfl) trivial (AllC_nil _) ?_
      refine PO.mk ?_
      change WP _ _ (CA Try.f15 [1, 1, 1, 0, 1, 0, 1]) _ _ _
      refine fk_cut ([(0, .int .i64 z), (1, .int .u32 gn), (4, .pointer none), (5, .int .i64 2), (6, .pointer none), (7, .int .i64 2), (9, .bool false), (17, .bool true)] : Fr) (by kernel_rfl) (fun a => WP _ _ _ _ a _) (fun lr18 => ?_)
      refine gi_rt (by kernel_rfl) ?_
      repeat (first | simp only [Exit.inBlock] | simp only [Exit.then])
      refine hi_out [] (.tuple #[.pointer none, .int .i64 2]) [] (by kernel_rfl) (by intro q hq; cases hq) ?_
      exact ⟨.tuple #[.pointer none, .int .i64 2], [], rfl, ⟨rfl, rfl⟩, h15⟩

set_option maxHeartbeats 4000000 in
theorem fopen_ht (b n : Nat) (X : Xs) (v : Int) : HT Try.prog 11 [Value.pointer (some ⟨b, 0, none⟩), Value.int IntKind.i64 v] [Fd b n X] (fun r K => r = Value.tuple #[Value.agg #[Value.int .i64 (opnO X v).1, Value.int .i64 (opnO X v).2.1, Value.int .u32 (opnO X v).2.2], Value.int .i64 (opnE X v)] ∧ K = [Fd b n (opnX X v)]) := by
  refine hi_in 43 ([(0, .pointer (some ⟨b, 0, none⟩)), (1, .int .i64 v)] : Fr) Try.func11 (by kernel_rfl) Try.ntmps11 rfl rfl ?_
  intro g w0 R h0
  obtain ⟨s1, m2, E3, hN4, h5⟩ := fd_open h0
  have hn64_ := hN4.2
  have hb6 := tb_bd (j := 1) h5 rfl
  have hAl_ := hb6.1; have hn1_ := hb6.2.1; have hok_ := hb6.2.2.2
  refine gi_seq (x := CA Try.f11 [0]) (y := CA Try.f11 [1]) (by kernel_rfl) ?_
  refine gi_pln (id := 0) (ops := RA Try.f11 [0]) [0, 1] (by kernel_rfl) (by kernel_rfl) (by kernel_rfl) ?_
  refine plain_act (i := 0) (by kernel_rfl) ?_
  refine an_new (d := 4) (fun xb_ => .pointer (some ⟨xb_, 0, none⟩)) (fun xb_ => Obj.cells [.int .i64 0, .int .i64 0, .int .u32 0].toArray 28 (0, 0)) (fun xb_ => by kernel_rfl) (by kernel_rfl) rfl h5 ?_
  intro r7 w8 (h9 : sat g w8 [Cl r7 [.int .i64 0, .int .i64 0, .int .u32 0] 28, Cl b [.pointer (some ⟨s1, 0, none⟩), .map (some m2)] 63, Tb s1 n (As X), Mp m2 E3, R])
  refine plain_batch (rest := []) [⟨1, [], none⟩] (l' := ([(5, .int .i64 0), (4, .pointer (some ⟨r7, 0, none⟩)), (0, .pointer (some ⟨b, 0, none⟩)), (1, .int .i64 v)] : Fr)) (pts' := []) (eqs := []) (by kernel_rfl) trivial (AllC_nil _) ?_
  refine PO.mk ?_
  change WP _ _ (CA Try.f11 [1]) _ _ _
  refine fk_cut ([(0, .pointer (some ⟨b, 0, none⟩)), (1, .int .i64 v), (4, .pointer (some ⟨r7, 0, none⟩)), (5, .int .i64 0)] : Fr) (by kernel_rfl) (fun a => WP _ _ _ _ a _) (fun lr10 => ?_)
  refine gi_seq (x := CA Try.f11 [1, 0]) (y := CA Try.f11 [1, 1]) (by kernel_rfl) ?_
  refine gi_blk (id := 0) (x := CA Try.f11 [1, 0, 0]) (by kernel_rfl) ?_
  refine gi_seq (x := CA Try.f11 [1, 0, 0, 0]) (y := CA Try.f11 [1, 0, 0, 1]) (by kernel_rfl) ?_
  refine gi_pln (id := 1) (ops := RA Try.f11 [1, 0, 0, 0]) [0, 1, 2, 3] (by kernel_rfl) (by kernel_rfl) (by kernel_rfl) ?_
  refine plain_batch (rest := [1, 2, 3]) [⟨0, [], none⟩] (l' := ([(10, .pointer (some ⟨b, 0, none⟩)), (0, .pointer (some ⟨b, 0, none⟩)), (1, .int .i64 v), (4, .pointer (some ⟨r7, 0, none⟩)), (5, .int .i64 0)] : Fr) ++ lr10) (pts' := []) (eqs := []) (by kernel_rfl) trivial (AllC_nil _) ?_
  have h11 : sat g w8 [Cl b [.pointer (some ⟨s1, 0, none⟩), .map (some m2)] 63, Cl r7 [.int .i64 0, .int .i64 0, .int .u32 0] 28, Tb s1 n (As X), Mp m2 E3, R] := sat_sel [1, 0, 2, 3, 4] rfl h9
  refine plain_act (i := 1) (by kernel_rfl) ?_
  refine an_call (d := some 11) (f := 33) (args := [.pointer (some ⟨b, 0, none⟩)]) (by kernel_rfl) Try.call33 (made_y b s1 m2) (F := [Cl r7 [.int .i64 0, .int .i64 0, .int .u32 0] 28, Tb s1 n (As X), Mp m2 E3, R]) h11 ?_
  rintro v K w12 (⟨rfl, rfl⟩) h13
  refine ⟨_, rfl, ?_⟩
  have h14 : sat g w12 [Cl b [.pointer (some ⟨s1, 0, none⟩), .map (some m2)] 63, Cl r7 [.int .i64 0, .int .i64 0, .int .u32 0] 28, Tb s1 n (As X), Mp m2 E3, R] := h13
  refine plain_batch (rest := []) [⟨2, [], none⟩, ⟨3, [], none⟩] (l' := ([(9, .bool false), (12, .bool false), (11, .bool true), (10, .pointer (some ⟨b, 0, none⟩)), (0, .pointer (some ⟨b, 0, none⟩)), (1, .int .i64 v), (4, .pointer (some ⟨r7, 0, none⟩)), (5, .int .i64 0)] : Fr) ++ lr10) (pts' := []) (eqs := []) (by kernel_rfl) trivial (AllC_nil _) ?_
  refine PO.mk ?_
  change WP _ _ (CA Try.f11 [1, 0, 0, 1]) _ _ _
  refine fk_cut ([(0, .pointer (some ⟨b, 0, none⟩)), (1, .int .i64 v), (4, .pointer (some ⟨r7, 0, none⟩)), (5, .int .i64 0), (9, .bool false)] : Fr) (by kernel_rfl) (fun a => WP _ _ _ _ a _) (fun lr15 => ?_)
  refine gi_cnd (x := (Operand.tmp 9)) (s := CA Try.f11 [1, 0, 0, 1, 0]) (t := CA Try.f11 [1, 0, 0, 1, 1]) false (by kernel_rfl) (by kernel_rfl) ?_
  change WP _ _ (CA Try.f11 [1, 0, 0, 1, 1]) _ _ _
  refine gi_seq (x := CA Try.f11 [1, 0, 0, 1, 1, 0]) (y := CA Try.f11 [1, 0, 0, 1, 1, 1]) (by kernel_rfl) ?_
  refine gi_pln (id := 3) (ops := RA Try.f11 [1, 0, 0, 1, 1, 0]) [0, 1, 2, 3, 4, 5, 6] (by kernel_rfl) (by kernel_rfl) (by kernel_rfl) ?_
  refine plain_batch (rest := [1, 2, 3, 4, 5, 6]) [⟨0, [], none⟩] (l' := ([(15, .int .i64 v), (0, .pointer (some ⟨b, 0, none⟩)), (1, .int .i64 v), (4, .pointer (some ⟨r7, 0, none⟩)), (5, .int .i64 0), (9, .bool false)] : Fr) ++ lr15) (pts' := []) (eqs := []) (by kernel_rfl) trivial (AllC_nil _) ?_
  by_cases c16 : v < 0
  ·
    refine plain_batch (rest := []) [⟨1, [], some (.bool true)⟩, ⟨2, [], none⟩, ⟨3, [], none⟩, ⟨4, [], none⟩, ⟨5, [], none⟩, ⟨6, [], none⟩] (l' := ([(14, .bool true), (20, .bool true), (19, undef), (18, undef), (17, .bool true), (16, .bool true), (15, .int .i64 v), (0, .pointer (some ⟨b, 0, none⟩)), (1, .int .i64 v), (4, .pointer (some ⟨r7, 0, none⟩)), (5, .int .i64 0), (9, .bool false)] : Fr) ++ lr15) (pts' := []) (eqs := [(.bool (decide (v < 0)), .bool true)]) (by kernel_rfl) ⟨(ov_t (by omega)), trivial⟩ (AllC_nil _) ?_
    refine PO.mk ?_
    change WP _ _ (CA Try.f11 [1, 0, 0, 1, 1, 1]) _ _ _
    refine fk_cut ([(0, .pointer (some ⟨b, 0, none⟩)), (1, .int .i64 v), (4, .pointer (some ⟨r7, 0, none⟩)), (5, .int .i64 0), (9, .bool false), (14, .bool true)] : Fr) (by kernel_rfl) (fun a => WP _ _ _ _ a _) (fun lr17 => ?_)
    refine gi_cnd (x := (Operand.tmp 14)) (s := CA Try.f11 [1, 0, 0, 1, 1, 1, 0]) (t := CA Try.f11 [1, 0, 0, 1, 1, 1, 1]) true (by kernel_rfl) (by kernel_rfl) ?_
    change WP _ _ (CA Try.f11 [1, 0, 0, 1, 1, 1, 0]) _ _ _
    refine gi_seq (x := CA Try.f11 [1, 0, 0, 1, 1, 1, 0, 0]) (y := CA Try.f11 [1, 0, 0, 1, 1, 1, 0, 1]) (by kernel_rfl) ?_
    refine gi_pln (id := 4) (ops := RA Try.f11 [1, 0, 0, 1, 1, 1, 0, 0]) [0, 1, 2] (by kernel_rfl) (by kernel_rfl) (by kernel_rfl) ?_
    refine plain_batch (rest := [1, 2]) [⟨0, [], none⟩] (l' := ([(21, .agg #[.int .i64 0, .int .i64 0, .int .u32 0]), (0, .pointer (some ⟨b, 0, none⟩)), (1, .int .i64 v), (4, .pointer (some ⟨r7, 0, none⟩)), (5, .int .i64 0), (9, .bool false), (14, .bool true)] : Fr) ++ lr17) (pts' := []) (eqs := []) (by kernel_rfl) trivial (AllC_nil _) ?_
    have h18 : sat g w12 [Cl r7 [.int .i64 0, .int .i64 0, .int .u32 0] 28, Cl b [.pointer (some ⟨s1, 0, none⟩), .map (some m2)] 63, Tb s1 n (As X), Mp m2 E3, R] := sat_sel [1, 0, 2, 3, 4] rfl h14
    refine plain_act (i := 1) (by kernel_rfl) ?_
    refine an_store [(0, .int .i64 0), (1, .int .i64 0), (2, .int .u32 0)] (cs' := [.int .i64 0, .int .i64 0, .int .u32 0]) (by kernel_rfl) (by kernel_rfl) (allq ⟨⟨by simp, rfl⟩, ⟨by simp, rfl⟩, ⟨by simp, rfl⟩, trivial⟩) rfl h18 ?_
    intro w19 (h20 : sat g w19 [Cl r7 [.int .i64 0, .int .i64 0, .int .u32 0] 28, Cl b [.pointer (some ⟨s1, 0, none⟩), .map (some m2)] 63, Tb s1 n (As X), Mp m2 E3, R])
    refine plain_batch (rest := []) [⟨2, [], none⟩] (l' := ([(5, .int .i64 2), (21, .agg #[.int .i64 0, .int .i64 0, .int .u32 0]), (0, .pointer (some ⟨b, 0, none⟩)), (1, .int .i64 v), (4, .pointer (some ⟨r7, 0, none⟩)), (5, .int .i64 0), (9, .bool false), (14, .bool true)] : Fr) ++ lr17) (pts' := []) (eqs := []) (by kernel_rfl) trivial (AllC_nil _) ?_
    refine PO.mk ?_
    change WP _ _ (CA Try.f11 [1, 0, 0, 1, 1, 1, 0, 1]) _ _ _
    refine fk_cut ([(0, .pointer (some ⟨b, 0, none⟩)), (1, .int .i64 v), (4, .pointer (some ⟨r7, 0, none⟩)), (5, .int .i64 2), (9, .bool false), (14, .bool true)] : Fr) (by kernel_rfl) (fun a => WP _ _ _ _ a _) (fun lr21 => ?_)
    refine gi_rt (by kernel_rfl) ?_
    repeat (first | simp only [Exit.inBlock] | simp only [Exit.then])
    have ho_ := opn_arg (X := X) (v := v) (by omega)
    have h22 : sat g w19 [Cl b [.pointer (some ⟨s1, 0, none⟩), .map (some m2)] 63, Tb s1 n (As X), Mp m2 E3, Cl r7 [.int .i64 0, .int .i64 0, .int .u32 0] 28, R] := sat_sel [1, 2, 3, 0, 4] rfl h20
    have h23 : sat g w19 [Fd b n X, Cl r7 [.int .i64 0, .int .i64 0, .int .u32 0] 28, R] := fd_close hN4.1 (by omega) rfl rfl h22
    have h24 : sat g w19 [Fd b n X, R] := sat_sel [0, 2] rfl h23
    refine hi_out [.int .i64 0, .int .i64 0, .int .u32 0] (.tuple #[.agg #[.int .i64 0, .int .i64 0, .int .u32 0], .int .i64 2]) [(⟨r7, 0, none⟩, .int .i64 0), (⟨r7, 1, none⟩, .int .i64 0), (⟨r7, 2, none⟩, .int .u32 0)] (by kernel_rfl) (allq ⟨sat_cell h20 0 rfl rfl, sat_cell h20 0 rfl rfl, sat_cell h20 0 rfl rfl, trivial⟩) ?_
    exact ⟨.tuple #[.agg #[.int .i64 0, .int .i64 0, .int .u32 0], .int .i64 2], [Fd b n X], rfl, ⟨by rw [ho_.1, ho_.2.1], by rw [ho_.2.2]⟩, h24⟩
  ·
    refine plain_batch (rest := [4, 5, 6]) [⟨1, [], some (.bool false)⟩, ⟨2, [], none⟩, ⟨3, [], none⟩] (l' := ([(18, .int .i64 v), (17, .bool false), (16, .bool false), (15, .int .i64 v), (0, .pointer (some ⟨b, 0, none⟩)), (1, .int .i64 v), (4, .pointer (some ⟨r7, 0, none⟩)), (5, .int .i64 0), (9, .bool false)] : Fr) ++ lr15) (pts' := []) (eqs := [(.bool (decide (v < 0)), .bool false)]) (by kernel_rfl) ⟨(ov_f (by omega)), trivial⟩ (AllC_nil _) ?_
    by_cases c25 : v > 65535
    ·
      refine plain_batch (rest := []) [⟨4, [], some (.bool true)⟩, ⟨5, [], none⟩, ⟨6, [], none⟩] (l' := ([(14, .bool true), (20, .bool true), (19, .bool true), (18, .int .i64 v), (17, .bool false), (16, .bool false), (15, .int .i64 v), (0, .pointer (some ⟨b, 0, none⟩)), (1, .int .i64 v), (4, .pointer (some ⟨r7, 0, none⟩)), (5, .int .i64 0), (9, .bool false)] : Fr) ++ lr15) (pts' := []) (eqs := [(.bool (decide (v > 65535)), .bool true)]) (by kernel_rfl) ⟨(ov_t (by omega)), trivial⟩ (AllC_nil _) ?_
      refine PO.mk ?_
      change WP _ _ (CA Try.f11 [1, 0, 0, 1, 1, 1]) _ _ _
      refine fk_cut ([(0, .pointer (some ⟨b, 0, none⟩)), (1, .int .i64 v), (4, .pointer (some ⟨r7, 0, none⟩)), (5, .int .i64 0), (9, .bool false), (14, .bool true)] : Fr) (by kernel_rfl) (fun a => WP _ _ _ _ a _) (fun lr26 => ?_)
      refine gi_cnd (x := (Operand.tmp 14)) (s := CA Try.f11 [1, 0, 0, 1, 1, 1, 0]) (t := CA Try.f11 [1, 0, 0, 1, 1, 1, 1]) true (by kernel_rfl) (by kernel_rfl) ?_
      change WP _ _ (CA Try.f11 [1, 0, 0, 1, 1, 1, 0]) _ _ _
      refine gi_seq (x := CA Try.f11 [1, 0, 0, 1, 1, 1, 0, 0]) (y := CA Try.f11 [1, 0, 0, 1, 1, 1, 0, 1]) (by kernel_rfl) ?_
      refine gi_pln (id := 4) (ops := RA Try.f11 [1, 0, 0, 1, 1, 1, 0, 0]) [0, 1, 2] (by kernel_rfl) (by kernel_rfl) (by kernel_rfl) ?_
      refine plain_batch (rest := [1, 2]) [⟨0, [], none⟩] (l' := ([(21, .agg #[.int .i64 0, .int .i64 0, .int .u32 0]), (0, .pointer (some ⟨b, 0, none⟩)), (1, .int .i64 v), (4, .pointer (some ⟨r7, 0, none⟩)), (5, .int .i64 0), (9, .bool false), (14, .bool true)] : Fr) ++ lr26) (pts' := []) (eqs := []) (by kernel_rfl) trivial (AllC_nil _) ?_
      have h27 : sat g w12 [Cl r7 [.int .i64 0, .int .i64 0, .int .u32 0] 28, Cl b [.pointer (some ⟨s1, 0, none⟩), .map (some m2)] 63, Tb s1 n (As X), Mp m2 E3, R] := sat_sel [1, 0, 2, 3, 4] rfl h14
      refine plain_act (i := 1) (by kernel_rfl) ?_
      refine an_store [(0, .int .i64 0), (1, .int .i64 0), (2, .int .u32 0)] (cs' := [.int .i64 0, .int .i64 0, .int .u32 0]) (by kernel_rfl) (by kernel_rfl) (allq ⟨⟨by simp, rfl⟩, ⟨by simp, rfl⟩, ⟨by simp, rfl⟩, trivial⟩) rfl h27 ?_
      intro w28 (h29 : sat g w28 [Cl r7 [.int .i64 0, .int .i64 0, .int .u32 0] 28, Cl b [.pointer (some ⟨s1, 0, none⟩), .map (some m2)] 63, Tb s1 n (As X), Mp m2 E3, R])
      refine plain_batch (rest := []) [⟨2, [], none⟩] (l' := ([(5, .int .i64 2), (21, .agg #[.int .i64 0, .int .i64 0, .int .u32 0]), (0, .pointer (some ⟨b, 0, none⟩)), (1, .int .i64 v), (4, .pointer (some ⟨r7, 0, none⟩)), (5, .int .i64 0), (9, .bool false), (14, .bool true)] : Fr) ++ lr26) (pts' := []) (eqs := []) (by kernel_rfl) trivial (AllC_nil _) ?_
      refine PO.mk ?_
      change WP _ _ (CA Try.f11 [1, 0, 0, 1, 1, 1, 0, 1]) _ _ _
      refine fk_cut ([(0, .pointer (some ⟨b, 0, none⟩)), (1, .int .i64 v), (4, .pointer (some ⟨r7, 0, none⟩)), (5, .int .i64 2), (9, .bool false), (14, .bool true)] : Fr) (by kernel_rfl) (fun a => WP _ _ _ _ a _) (fun lr30 => ?_)
      refine gi_rt (by kernel_rfl) ?_
      repeat (first | simp only [Exit.inBlock] | simp only [Exit.then])
      have ho_ := opn_arg (X := X) (v := v) (by omega)
      have h31 : sat g w28 [Cl b [.pointer (some ⟨s1, 0, none⟩), .map (some m2)] 63, Tb s1 n (As X), Mp m2 E3, Cl r7 [.int .i64 0, .int .i64 0, .int .u32 0] 28, R] := sat_sel [1, 2, 3, 0, 4] rfl h29
      have h32 : sat g w28 [Fd b n X, Cl r7 [.int .i64 0, .int .i64 0, .int .u32 0] 28, R] := fd_close hN4.1 (by omega) rfl rfl h31
      have h33 : sat g w28 [Fd b n X, R] := sat_sel [0, 2] rfl h32
      refine hi_out [.int .i64 0, .int .i64 0, .int .u32 0] (.tuple #[.agg #[.int .i64 0, .int .i64 0, .int .u32 0], .int .i64 2]) [(⟨r7, 0, none⟩, .int .i64 0), (⟨r7, 1, none⟩, .int .i64 0), (⟨r7, 2, none⟩, .int .u32 0)] (by kernel_rfl) (allq ⟨sat_cell h29 0 rfl rfl, sat_cell h29 0 rfl rfl, sat_cell h29 0 rfl rfl, trivial⟩) ?_
      exact ⟨.tuple #[.agg #[.int .i64 0, .int .i64 0, .int .u32 0], .int .i64 2], [Fd b n X], rfl, ⟨by rw [ho_.1, ho_.2.1], by rw [ho_.2.2]⟩, h33⟩
    ·
      refine plain_batch (rest := []) [⟨4, [], some (.bool false)⟩, ⟨5, [], none⟩, ⟨6, [], none⟩] (l' := ([(14, .bool false), (20, .bool false), (19, .bool false), (18, .int .i64 v), (17, .bool false), (16, .bool false), (15, .int .i64 v), (0, .pointer (some ⟨b, 0, none⟩)), (1, .int .i64 v), (4, .pointer (some ⟨r7, 0, none⟩)), (5, .int .i64 0), (9, .bool false)] : Fr) ++ lr15) (pts' := []) (eqs := [(.bool (decide (v > 65535)), .bool false)]) (by kernel_rfl) ⟨(ov_f (by omega)), trivial⟩ (AllC_nil _) ?_
      refine PO.mk ?_
      change WP _ _ (CA Try.f11 [1, 0, 0, 1, 1, 1]) _ _ _
      refine fk_cut ([(0, .pointer (some ⟨b, 0, none⟩)), (1, .int .i64 v), (4, .pointer (some ⟨r7, 0, none⟩)), (5, .int .i64 0), (9, .bool false), (14, .bool false)] : Fr) (by kernel_rfl) (fun a => WP _ _ _ _ a _) (fun lr34 => ?_)
      refine gi_cnd (x := (Operand.tmp 14)) (s := CA Try.f11 [1, 0, 0, 1, 1, 1, 0]) (t := CA Try.f11 [1, 0, 0, 1, 1, 1, 1]) false (by kernel_rfl) (by kernel_rfl) ?_
      change WP _ _ (CA Try.f11 [1, 0, 0, 1, 1, 1, 1]) _ _ _
      refine gi_skp (by kernel_rfl) ?_
      change WP _ _ (CA Try.f11 [1, 1]) _ _ _
      refine gi_seq (x := CA Try.f11 [1, 1, 0]) (y := CA Try.f11 [1, 1, 1]) (by kernel_rfl) ?_
      refine gi_pln (id := 5) (ops := RA Try.f11 [1, 1, 0]) [0, 1, 2, 3, 4, 5, 6, 7, 8, 9, 10] (by kernel_rfl) (by kernel_rfl) (by kernel_rfl) ?_
      refine plain_batch (rest := [4, 5, 6, 7, 8, 9, 10]) [⟨0, [], none⟩, ⟨1, [], none⟩, ⟨2, [], none⟩, ⟨3, [.pointer (some ⟨s1, 0, none⟩)], none⟩] (l' := ([(26, .pointer (some ⟨s1, 0, none⟩)), (25, .pointer (some ⟨b, 0, none⟩)), (24, .pointer (some ⟨b, 0, none⟩)), (23, .pointer (some ⟨b, 0, none⟩)), (0, .pointer (some ⟨b, 0, none⟩)), (1, .int .i64 v), (4, .pointer (some ⟨r7, 0, none⟩)), (5, .int .i64 0), (9, .bool false), (14, .bool false)] : Fr) ++ lr34) (pts' := [(3, ⟨b, 0, none⟩, .pointer (some ⟨s1, 0, none⟩))]) (eqs := []) (by kernel_rfl) trivial (AllC_cons (sat_cell h14 0 rfl rfl) (AllC_nil _)) ?_
      by_cases c35 : 0 < (inS 0 (As X) 0).length
      ·
        have h36 : sat g w12 [Tb s1 n (As X), Cl b [.pointer (some ⟨s1, 0, none⟩), .map (some m2)] 63, Cl r7 [.int .i64 0, .int .i64 0, .int .u32 0] 28, Mp m2 E3, R] := sat_sel [2, 0, 1, 3, 4] rfl h14
        refine plain_act (i := 4) (by kernel_rfl) ?_
        refine an_call (d := some 27) (f := 34) (args := [.pointer (some ⟨s1, 0, none⟩)]) (by kernel_rfl) Try.call34 (take_y s1 n (As X) (by omega)) (F := [Cl b [.pointer (some ⟨s1, 0, none⟩), .map (some m2)] 63, Cl r7 [.int .i64 0, .int .i64 0, .int .u32 0] 28, Mp m2 E3, R]) h36 ?_
        rintro v K w37 (⟨rfl, rfl⟩) h38
        refine ⟨_, rfl, ?_⟩
        have h39 : sat g w37 [Tb s1 n ((As X).set ((inS 0 (As X) 0).getD 0 (0, 0)).1 (1, ((inS 0 (As X) 0).getD 0 (0, 0)).2)), Cl b [.pointer (some ⟨s1, 0, none⟩), .map (some m2)] 63, Cl r7 [.int .i64 0, .int .i64 0, .int .u32 0] 28, Mp m2 E3, R] := h38
        refine plain_batch (rest := [8, 9, 10]) [⟨5, [], none⟩, ⟨6, [], none⟩, ⟨7, [], none⟩] (l' := ([(29, .int .i64 0), (28, .agg #[.int .i64 (((((inS 0 (As X) 0).getD 0 (0, 0)).1 : Nat) : Int)), .int .u32 (((inS 0 (As X) 0).getD 0 (0, 0)).2)]), (22, .tuple #[.agg #[.int .i64 (((((inS 0 (As X) 0).getD 0 (0, 0)).1 : Nat) : Int)), .int .u32 (((inS 0 (As X) 0).getD 0 (0, 0)).2)], .int .i64 0]), (27, .tuple #[.agg #[.int .i64 (((((inS 0 (As X) 0).getD 0 (0, 0)).1 : Nat) : Int)), .int .u32 (((inS 0 (As X) 0).getD 0 (0, 0)).2)], .int .i64 0]), (26, .pointer (some ⟨s1, 0, none⟩)), (25, .pointer (some ⟨b, 0, none⟩)), (24, .pointer (some ⟨b, 0, none⟩)), (23, .pointer (some ⟨b, 0, none⟩)), (0, .pointer (some ⟨b, 0, none⟩)), (1, .int .i64 v), (4, .pointer (some ⟨r7, 0, none⟩)), (5, .int .i64 0), (9, .bool false), (14, .bool false)] : Fr) ++ lr34) (pts' := []) (eqs := []) (by kernel_rfl) trivial (AllC_nil _) ?_
        refine plain_act (i := 8) (by kernel_rfl) ?_
        refine an_new (d := 6) (fun xb_ => .pointer (some ⟨xb_, 0, none⟩)) (fun xb_ => Obj.cells [.int .i64 0, .int .u32 0].toArray 79 (0, 0)) (fun xb_ => by kernel_rfl) (by kernel_rfl) rfl h39 ?_
        intro r40 w41 (h42 : sat g w41 [Cl r40 [.int .i64 0, .int .u32 0] 79, Tb s1 n ((As X).set ((inS 0 (As X) 0).getD 0 (0, 0)).1 (1, ((inS 0 (As X) 0).getD 0 (0, 0)).2)), Cl b [.pointer (some ⟨s1, 0, none⟩), .map (some m2)] 63, Cl r7 [.int .i64 0, .int .i64 0, .int .u32 0] 28, Mp m2 E3, R])
        refine plain_act (i := 9) (by kernel_rfl) ?_
        refine an_store [(0, .int .i64 (((((inS 0 (As X) 0).getD 0 (0, 0)).1 : Nat) : Int))), (1, .int .u32 (((inS 0 (As X) 0).getD 0 (0, 0)).2))] (cs' := [.int .i64 (((((inS 0 (As X) 0).getD 0 (0, 0)).1 : Nat) : Int)), .int .u32 (((inS 0 (As X) 0).getD 0 (0, 0)).2)]) (by kernel_rfl) (by kernel_rfl) (allq ⟨⟨by simp, rfl⟩, ⟨by simp, rfl⟩, trivial⟩) rfl h42 ?_
        intro w43 (h44 : sat g w43 [Cl r40 [.int .i64 (((((inS 0 (As X) 0).getD 0 (0, 0)).1 : Nat) : Int)), .int .u32 (((inS 0 (As X) 0).getD 0 (0, 0)).2)] 79, Tb s1 n ((As X).set ((inS 0 (As X) 0).getD 0 (0, 0)).1 (1, ((inS 0 (As X) 0).getD 0 (0, 0)).2)), Cl b [.pointer (some ⟨s1, 0, none⟩), .map (some m2)] 63, Cl r7 [.int .i64 0, .int .i64 0, .int .u32 0] 28, Mp m2 E3, R])
        refine plain_batch (rest := []) [⟨10, [], none⟩] (l' := ([(7, .int .i64 0), (6, .pointer (some ⟨r40, 0, none⟩)), (29, .int .i64 0), (28, .agg #[.int .i64 (((((inS 0 (As X) 0).getD 0 (0, 0)).1 : Nat) : Int)), .int .u32 (((inS 0 (As X) 0).getD 0 (0, 0)).2)]), (22, .tuple #[.agg #[.int .i64 (((((inS 0 (As X) 0).getD 0 (0, 0)).1 : Nat) : Int)), .int .u32 (((inS 0 (As X) 0).getD 0 (0, 0)).2)], .int .i64 0]), (27, .tuple #[.agg #[.int .i64 (((((inS 0 (As X) 0).getD 0 (0, 0)).1 : Nat) : Int)), .int .u32 (((inS 0 (As X) 0).getD 0 (0, 0)).2)], .int .i64 0]), (26, .pointer (some ⟨s1, 0, none⟩)), (25, .pointer (some ⟨b, 0, none⟩)), (24, .pointer (some ⟨b, 0, none⟩)), (23, .pointer (some ⟨b, 0, none⟩)), (0, .pointer (some ⟨b, 0, none⟩)), (1, .int .i64 v), (4, .pointer (some ⟨r7, 0, none⟩)), (5, .int .i64 0), (9, .bool false), (14, .bool false)] : Fr) ++ lr34) (pts' := []) (eqs := []) (by kernel_rfl) trivial (AllC_nil _) ?_
        refine PO.mk ?_
        change WP _ _ (CA Try.f11 [1, 1, 1]) _ _ _
        refine fk_cut ([(0, .pointer (some ⟨b, 0, none⟩)), (1, .int .i64 v), (4, .pointer (some ⟨r7, 0, none⟩)), (5, .int .i64 0), (6, .pointer (some ⟨r40, 0, none⟩)), (7, .int .i64 0), (9, .bool false), (14, .bool false)] : Fr) (by kernel_rfl) (fun a => WP _ _ _ _ a _) (fun lr45 => ?_)
        refine gi_seq (x := CA Try.f11 [1, 1, 1, 0]) (y := CA Try.f11 [1, 1, 1, 1]) (by kernel_rfl) ?_
        refine gi_seq (x := CA Try.f11 [1, 1, 1, 0, 0]) (y := CA Try.f11 [1, 1, 1, 0, 1]) (by kernel_rfl) ?_
        refine gi_pln (id := 6) (ops := RA Try.f11 [1, 1, 1, 0, 0]) [0, 1] (by kernel_rfl) (by kernel_rfl) (by kernel_rfl) ?_
        refine plain_batch (rest := []) [⟨0, [], none⟩, ⟨1, [], none⟩] (l' := ([(31, .bool false), (30, .int .i64 0), (0, .pointer (some ⟨b, 0, none⟩)), (1, .int .i64 v), (4, .pointer (some ⟨r7, 0, none⟩)), (5, .int .i64 0), (6, .pointer (some ⟨r40, 0, none⟩)), (7, .int .i64 0), (9, .bool false), (14, .bool false)] : Fr) ++ lr45) (pts' := []) (eqs := []) (by kernel_rfl) trivial (AllC_nil _) ?_
        refine PO.mk ?_
        change WP _ _ (CA Try.f11 [1, 1, 1, 0, 1]) _ _ _
        refine fk_cut ([(0, .pointer (some ⟨b, 0, none⟩)), (1, .int .i64 v), (4, .pointer (some ⟨r7, 0, none⟩)), (5, .int .i64 0), (6, .pointer (some ⟨r40, 0, none⟩)), (7, .int .i64 0), (9, .bool false), (14, .bool false), (31, .bool false)] : Fr) (by kernel_rfl) (fun a => WP _ _ _ _ a _) (fun lr46 => ?_)
        refine gi_cnd (x := (Operand.tmp 31)) (s := CA Try.f11 [1, 1, 1, 0, 1, 0]) (t := CA Try.f11 [1, 1, 1, 0, 1, 1]) false (by kernel_rfl) (by kernel_rfl) ?_
        change WP _ _ (CA Try.f11 [1, 1, 1, 0, 1, 1]) _ _ _
        refine gi_skp (by kernel_rfl) ?_
        change WP _ _ (CA Try.f11 [1, 1, 1, 1]) _ _ _
        refine gi_seq (x := CA Try.f11 [1, 1, 1, 1, 0]) (y := CA Try.f11 [1, 1, 1, 1, 1]) (by kernel_rfl) ?_
        refine gi_pln (id := 8) (ops := RA Try.f11 [1, 1, 1, 1, 0]) [0, 1, 2, 3] (by kernel_rfl) (by kernel_rfl) (by kernel_rfl) ?_
        refine plain_batch (rest := [1, 2, 3]) [⟨0, [.int .i64 (((((inS 0 (As X) 0).getD 0 (0, 0)).1 : Nat) : Int)), .int .u32 (((inS 0 (As X) 0).getD 0 (0, 0)).2)], none⟩] (l' := ([(34, .agg #[.int .i64 (((((inS 0 (As X) 0).getD 0 (0, 0)).1 : Nat) : Int)), .int .u32 (((inS 0 (As X) 0).getD 0 (0, 0)).2)]), (0, .pointer (some ⟨b, 0, none⟩)), (1, .int .i64 v), (4, .pointer (some ⟨r7, 0, none⟩)), (5, .int .i64 0), (6, .pointer (some ⟨r40, 0, none⟩)), (7, .int .i64 0), (9, .bool false), (14, .bool false), (31, .bool false)] : Fr) ++ lr46) (pts' := [(0, ⟨r40, 0, none⟩, .int .i64 (((((inS 0 (As X) 0).getD 0 (0, 0)).1 : Nat) : Int))), (0, ⟨r40, 1, none⟩, .int .u32 (((inS 0 (As X) 0).getD 0 (0, 0)).2))]) (eqs := []) (by kernel_rfl) trivial (AllC_cons (sat_cell h44 0 rfl rfl) (AllC_cons (sat_cell h44 0 rfl rfl) (AllC_nil _))) ?_
        refine plain_act (i := 1) (by kernel_rfl) ?_
        refine an_call (d := some 35) (f := 35) (args := [.agg #[.int .i64 (((((inS 0 (As X) 0).getD 0 (0, 0)).1 : Nat) : Int)), .int .u32 (((inS 0 (As X) 0).getD 0 (0, 0)).2)]]) (by kernel_rfl) Try.call35 (ffile (((((inS 0 (As X) 0).getD 0 (0, 0)).1 : Nat) : Int)) (((inS 0 (As X) 0).getD 0 (0, 0)).2)) (F := [Cl r40 [.int .i64 (((((inS 0 (As X) 0).getD 0 (0, 0)).1 : Nat) : Int)), .int .u32 (((inS 0 (As X) 0).getD 0 (0, 0)).2)] 79, Tb s1 n ((As X).set ((inS 0 (As X) 0).getD 0 (0, 0)).1 (1, ((inS 0 (As X) 0).getD 0 (0, 0)).2)), Cl b [.pointer (some ⟨s1, 0, none⟩), .map (some m2)] 63, Cl r7 [.int .i64 0, .int .i64 0, .int .u32 0] 28, Mp m2 E3, R]) h44 ?_
        rintro v K w47 (⟨rfl, rfl⟩) h48
        refine ⟨_, rfl, ?_⟩
        have h49 : sat g w47 [Cl r40 [.int .i64 (((((inS 0 (As X) 0).getD 0 (0, 0)).1 : Nat) : Int)), .int .u32 (((inS 0 (As X) 0).getD 0 (0, 0)).2)] 79, Tb s1 n ((As X).set ((inS 0 (As X) 0).getD 0 (0, 0)).1 (1, ((inS 0 (As X) 0).getD 0 (0, 0)).2)), Cl b [.pointer (some ⟨s1, 0, none⟩), .map (some m2)] 63, Cl r7 [.int .i64 0, .int .i64 0, .int .u32 0] 28, Mp m2 E3, R] := h48
        refine plain_act (i := 2) (by kernel_rfl) ?_
        refine an_new (d := 8) (fun xb_ => .pointer (some ⟨xb_, 0, none⟩)) (fun xb_ => Obj.cells [.int .i64 0, .int .i64 0, .int .u32 0].toArray 28 (0, 0)) (fun xb_ => by kernel_rfl) (by kernel_rfl) rfl h49 ?_
        intro r50 w51 (h52 : sat g w51 [Cl r50 [.int .i64 0, .int .i64 0, .int .u32 0] 28, Cl r40 [.int .i64 (((((inS 0 (As X) 0).getD 0 (0, 0)).1 : Nat) : Int)), .int .u32 (((inS 0 (As X) 0).getD 0 (0, 0)).2)] 79, Tb s1 n ((As X).set ((inS 0 (As X) 0).getD 0 (0, 0)).1 (1, ((inS 0 (As X) 0).getD 0 (0, 0)).2)), Cl b [.pointer (some ⟨s1, 0, none⟩), .map (some m2)] 63, Cl r7 [.int .i64 0, .int .i64 0, .int .u32 0] 28, Mp m2 E3, R])
        refine plain_act (i := 3) (by kernel_rfl) ?_
        refine an_store [(0, .int .i64 1), (1, .int .i64 (((((inS 0 (As X) 0).getD 0 (0, 0)).1 : Nat) : Int))), (2, .int .u32 (((inS 0 (As X) 0).getD 0 (0, 0)).2))] (cs' := [.int .i64 1, .int .i64 (((((inS 0 (As X) 0).getD 0 (0, 0)).1 : Nat) : Int)), .int .u32 (((inS 0 (As X) 0).getD 0 (0, 0)).2)]) (by kernel_rfl) (by kernel_rfl) (allq ⟨⟨by simp, rfl⟩, ⟨by simp, rfl⟩, ⟨by simp, rfl⟩, trivial⟩) rfl h52 ?_
        intro w53 (h54 : sat g w53 [Cl r50 [.int .i64 1, .int .i64 (((((inS 0 (As X) 0).getD 0 (0, 0)).1 : Nat) : Int)), .int .u32 (((inS 0 (As X) 0).getD 0 (0, 0)).2)] 28, Cl r40 [.int .i64 (((((inS 0 (As X) 0).getD 0 (0, 0)).1 : Nat) : Int)), .int .u32 (((inS 0 (As X) 0).getD 0 (0, 0)).2)] 79, Tb s1 n ((As X).set ((inS 0 (As X) 0).getD 0 (0, 0)).1 (1, ((inS 0 (As X) 0).getD 0 (0, 0)).2)), Cl b [.pointer (some ⟨s1, 0, none⟩), .map (some m2)] 63, Cl r7 [.int .i64 0, .int .i64 0, .int .u32 0] 28, Mp m2 E3, R])
        refine PO.mk ?_
        change WP _ _ (CA Try.f11 [1, 1, 1, 1, 1]) _ _ _
        refine fk_cut ([(0, .pointer (some ⟨b, 0, none⟩)), (1, .int .i64 v), (4, .pointer (some ⟨r7, 0, none⟩)), (5, .int .i64 0), (6, .pointer (some ⟨r40, 0, none⟩)), (7, .int .i64 0), (8, .pointer (some ⟨r50, 0, none⟩)), (9, .bool false), (14, .bool false), (31, .bool false)] : Fr) (by kernel_rfl) (fun a => WP _ _ _ _ a _) (fun lr55 => ?_)
        refine gi_seq (x := CA Try.f11 [1, 1, 1, 1, 1, 0]) (y := CA Try.f11 [1, 1, 1, 1, 1, 1]) (by kernel_rfl) ?_
        refine gi_drw (id := 9) (ops := RA Try.f11 [1, 1, 1, 1, 1, 0]) (Tr.fl 0 (Tr.fl 1 (Tr.fl 2 (Tr.fl 3 (Tr.fl 4 (Tr.fl 5 (Tr.an 6 Tr.nil))))))) (by kernel_rfl) (by kernel_rfl) (by kernel_rfl) (by kernel_rfl) (by kernel_rfl) (fun _ _ d _ _ h => by cases d <;> exact h) h54 ?_
        intro w56 h57
        refine draw_batch (t := (Tr.an 6 Tr.nil)) [⟨0, [], none⟩, ⟨1, [], none⟩, ⟨2, [], none⟩, ⟨3, [.map (some m2)], none⟩, ⟨4, [.int .i64 1, .int .i64 (((((inS 0 (As X) 0).getD 0 (0, 0)).1 : Nat) : Int)), .int .u32 (((inS 0 (As X) 0).getD 0 (0, 0)).2)], none⟩, ⟨5, [], none⟩] (l' := ([(41, .int .i64 v), (40, .agg #[.int .i64 1, .int .i64 (((((inS 0 (As X) 0).getD 0 (0, 0)).1 : Nat) : Int)), .int .u32 (((inS 0 (As X) 0).getD 0 (0, 0)).2)]), (39, .map (some m2)), (38, .pointer (some ⟨b, 1, none⟩)), (37, .pointer (some ⟨b, 0, none⟩)), (36, .pointer (some ⟨b, 0, none⟩)), (0, .pointer (some ⟨b, 0, none⟩)), (1, .int .i64 v), (4, .pointer (some ⟨r7, 0, none⟩)), (5, .int .i64 0), (6, .pointer (some ⟨r40, 0, none⟩)), (7, .int .i64 0), (8, .pointer (some ⟨r50, 0, none⟩)), (9, .bool false), (14, .bool false), (31, .bool false)] : Fr) ++ lr55) (pts' := [(4, ⟨r50, 0, none⟩, .int .i64 1), (4, ⟨r50, 1, none⟩, .int .i64 (((((inS 0 (As X) 0).getD 0 (0, 0)).1 : Nat) : Int))), (4, ⟨r50, 2, none⟩, .int .u32 (((inS 0 (As X) 0).getD 0 (0, 0)).2)), (3, ⟨b, 1, none⟩, .map (some m2))]) (eqs := []) (by kernel_rfl) trivial (AllC_cons (sat_cell h57 0 rfl rfl) (AllC_cons (sat_cell h57 0 rfl rfl) (AllC_cons (sat_cell h57 0 rfl rfl) (AllC_cons (sat_cell h57 3 rfl rfl) (AllC_nil _))))) ?_
        have h58 : sat g w56 [Mp m2 E3, Cl r50 [.int .i64 1, .int .i64 (((((inS 0 (As X) 0).getD 0 (0, 0)).1 : Nat) : Int)), .int .u32 (((inS 0 (As X) 0).getD 0 (0, 0)).2)] 28, Cl r40 [.int .i64 (((((inS 0 (As X) 0).getD 0 (0, 0)).1 : Nat) : Int)), .int .u32 (((inS 0 (As X) 0).getD 0 (0, 0)).2)] 79, Tb s1 n ((As X).set ((inS 0 (As X) 0).getD 0 (0, 0)).1 (1, ((inS 0 (As X) 0).getD 0 (0, 0)).2)), Cl b [.pointer (some ⟨s1, 0, none⟩), .map (some m2)] 63, Cl r7 [.int .i64 0, .int .i64 0, .int .u32 0] 28, R] := sat_sel [5, 0, 1, 2, 3, 4, 6] rfl h57
        refine draw_act (i := 6) [] (by kernel_rfl) (by kernel_rfl) ?_
        refine an_mapUpdate (t := 61) (m := (Operand.tmp 39)) (x := (Operand.tmp 40)) (y := (Operand.tmp 41)) (by kernel_rfl) (by kernel_rfl) Try.underlying61 keyok (1, ((((inS 0 (As X) 0).getD 0 (0, 0)).1 : Nat) : Int), ((inS 0 (As X) 0).getD 0 (0, 0)).2) v (by kernel_rfl) (by kernel_rfl) (by kernel_rfl) h58 (mset E3 (1, ((((inS 0 (As X) 0).getD 0 (0, 0)).1 : Nat) : Int), ((inS 0 (As X) 0).getD 0 (0, 0)).2) v) rfl ?_
        intro w59 (h60 : sat g w59 [Mp m2 (mset E3 (1, ((((inS 0 (As X) 0).getD 0 (0, 0)).1 : Nat) : Int), ((inS 0 (As X) 0).getD 0 (0, 0)).2) v), Cl r50 [.int .i64 1, .int .i64 (((((inS 0 (As X) 0).getD 0 (0, 0)).1 : Nat) : Int)), .int .u32 (((inS 0 (As X) 0).getD 0 (0, 0)).2)] 28, Cl r40 [.int .i64 (((((inS 0 (As X) 0).getD 0 (0, 0)).1 : Nat) : Int)), .int .u32 (((inS 0 (As X) 0).getD 0 (0, 0)).2)] 79, Tb s1 n ((As X).set ((inS 0 (As X) 0).getD 0 (0, 0)).1 (1, ((inS 0 (As X) 0).getD 0 (0, 0)).2)), Cl b [.pointer (some ⟨s1, 0, none⟩), .map (some m2)] 63, Cl r7 [.int .i64 0, .int .i64 0, .int .u32 0] 28, R])
        refine ⟨(AllC_nil _), ?_⟩
        change WP _ _ (CA Try.f11 [1, 1, 1, 1, 1, 1]) _ _ _
        refine fk_cut ([(0, .pointer (some ⟨b, 0, none⟩)), (1, .int .i64 v), (4, .pointer (some ⟨r7, 0, none⟩)), (5, .int .i64 0), (6, .pointer (some ⟨r40, 0, none⟩)), (7, .int .i64 0), (8, .pointer (some ⟨r50, 0, none⟩)), (9, .bool false), (14, .bool false), (31, .bool false)] : Fr) (by kernel_rfl) (fun a => WP _ _ _ _ a _) (fun lr61 => ?_)
        refine gi_seq (x := CA Try.f11 [1, 1, 1, 1, 1, 1, 0]) (y := CA Try.f11 [1, 1, 1, 1, 1, 1, 1]) (by kernel_rfl) ?_
        refine gi_pln (id := 10) (ops := RA Try.f11 [1, 1, 1, 1, 1, 1, 0]) [0, 1, 2] (by kernel_rfl) (by kernel_rfl) (by kernel_rfl) ?_
        refine plain_batch (rest := [1, 2]) [⟨0, [.int .i64 1, .int .i64 (((((inS 0 (As X) 0).getD 0 (0, 0)).1 : Nat) : Int)), .int .u32 (((inS 0 (As X) 0).getD 0 (0, 0)).2)], none⟩] (l' := ([(42, .agg #[.int .i64 1, .int .i64 (((((inS 0 (As X) 0).getD 0 (0, 0)).1 : Nat) : Int)), .int .u32 (((inS 0 (As X) 0).getD 0 (0, 0)).2)]), (0, .pointer (some ⟨b, 0, none⟩)), (1, .int .i64 v), (4, .pointer (some ⟨r7, 0, none⟩)), (5, .int .i64 0), (6, .pointer (some ⟨r40, 0, none⟩)), (7, .int .i64 0), (8, .pointer (some ⟨r50, 0, none⟩)), (9, .bool false), (14, .bool false), (31, .bool false)] : Fr) ++ lr61) (pts' := [(0, ⟨r50, 0, none⟩, .int .i64 1), (0, ⟨r50, 1, none⟩, .int .i64 (((((inS 0 (As X) 0).getD 0 (0, 0)).1 : Nat) : Int))), (0, ⟨r50, 2, none⟩, .int .u32 (((inS 0 (As X) 0).getD 0 (0, 0)).2))]) (eqs := []) (by kernel_rfl) trivial (AllC_cons (sat_cell h60 1 rfl rfl) (AllC_cons (sat_cell h60 1 rfl rfl) (AllC_cons (sat_cell h60 1 rfl rfl) (AllC_nil _)))) ?_
        have h62 : sat g w59 [Cl r7 [.int .i64 0, .int .i64 0, .int .u32 0] 28, Mp m2 (mset E3 (1, ((((inS 0 (As X) 0).getD 0 (0, 0)).1 : Nat) : Int), ((inS 0 (As X) 0).getD 0 (0, 0)).2) v), Cl r50 [.int .i64 1, .int .i64 (((((inS 0 (As X) 0).getD 0 (0, 0)).1 : Nat) : Int)), .int .u32 (((inS 0 (As X) 0).getD 0 (0, 0)).2)] 28, Cl r40 [.int .i64 (((((inS 0 (As X) 0).getD 0 (0, 0)).1 : Nat) : Int)), .int .u32 (((inS 0 (As X) 0).getD 0 (0, 0)).2)] 79, Tb s1 n ((As X).set ((inS 0 (As X) 0).getD 0 (0, 0)).1 (1, ((inS 0 (As X) 0).getD 0 (0, 0)).2)), Cl b [.pointer (some ⟨s1, 0, none⟩), .map (some m2)] 63, R] := sat_sel [5, 0, 1, 2, 3, 4, 6] rfl h60
        refine plain_act (i := 1) (by kernel_rfl) ?_
        refine an_store [(0, .int .i64 1), (1, .int .i64 (((((inS 0 (As X) 0).getD 0 (0, 0)).1 : Nat) : Int))), (2, .int .u32 (((inS 0 (As X) 0).getD 0 (0, 0)).2))] (cs' := [.int .i64 1, .int .i64 (((((inS 0 (As X) 0).getD 0 (0, 0)).1 : Nat) : Int)), .int .u32 (((inS 0 (As X) 0).getD 0 (0, 0)).2)]) (by kernel_rfl) (by kernel_rfl) (allq ⟨⟨by simp, rfl⟩, ⟨by simp, rfl⟩, ⟨by simp, rfl⟩, trivial⟩) rfl h62 ?_
        intro w63 (h64 : sat g w63 [Cl r7 [.int .i64 1, .int .i64 (((((inS 0 (As X) 0).getD 0 (0, 0)).1 : Nat) : Int)), .int .u32 (((inS 0 (As X) 0).getD 0 (0, 0)).2)] 28, Mp m2 (mset E3 (1, ((((inS 0 (As X) 0).getD 0 (0, 0)).1 : Nat) : Int), ((inS 0 (As X) 0).getD 0 (0, 0)).2) v), Cl r50 [.int .i64 1, .int .i64 (((((inS 0 (As X) 0).getD 0 (0, 0)).1 : Nat) : Int)), .int .u32 (((inS 0 (As X) 0).getD 0 (0, 0)).2)] 28, Cl r40 [.int .i64 (((((inS 0 (As X) 0).getD 0 (0, 0)).1 : Nat) : Int)), .int .u32 (((inS 0 (As X) 0).getD 0 (0, 0)).2)] 79, Tb s1 n ((As X).set ((inS 0 (As X) 0).getD 0 (0, 0)).1 (1, ((inS 0 (As X) 0).getD 0 (0, 0)).2)), Cl b [.pointer (some ⟨s1, 0, none⟩), .map (some m2)] 63, R])
        refine plain_batch (rest := []) [⟨2, [], none⟩] (l' := ([(5, .int .i64 0), (42, .agg #[.int .i64 1, .int .i64 (((((inS 0 (As X) 0).getD 0 (0, 0)).1 : Nat) : Int)), .int .u32 (((inS 0 (As X) 0).getD 0 (0, 0)).2)]), (0, .pointer (some ⟨b, 0, none⟩)), (1, .int .i64 v), (4, .pointer (some ⟨r7, 0, none⟩)), (5, .int .i64 0), (6, .pointer (some ⟨r40, 0, none⟩)), (7, .int .i64 0), (8, .pointer (some ⟨r50, 0, none⟩)), (9, .bool false), (14, .bool false), (31, .bool false)] : Fr) ++ lr61) (pts' := []) (eqs := []) (by kernel_rfl) trivial (AllC_nil _) ?_
        refine PO.mk ?_
        change WP _ _ (CA Try.f11 [1, 1, 1, 1, 1, 1, 1]) _ _ _
        refine fk_cut ([(0, .pointer (some ⟨b, 0, none⟩)), (1, .int .i64 v), (4, .pointer (some ⟨r7, 0, none⟩)), (5, .int .i64 0), (6, .pointer (some ⟨r40, 0, none⟩)), (7, .int .i64 0), (8, .pointer (some ⟨r50, 0, none⟩)), (9, .bool false), (14, .bool false), (31, .bool false)] : Fr) (by kernel_rfl) (fun a => WP _ _ _ _ a _) (fun lr65 => ?_)
        refine gi_rt (by kernel_rfl) ?_
        repeat (first | simp only [Exit.inBlock] | simp only [Exit.then])
        have ho_ := opn_ok (X := X) (v := v) ⟨by omega, by omega⟩ (get_zero (by omega))
        have h66 : sat g w63 [Cl b [.pointer (some ⟨s1, 0, none⟩), .map (some m2)] 63, Tb s1 n ((As X).set ((inS 0 (As X) 0).getD 0 (0, 0)).1 (1, ((inS 0 (As X) 0).getD 0 (0, 0)).2)), Mp m2 (mset E3 (1, ((((inS 0 (As X) 0).getD 0 (0, 0)).1 : Nat) : Int), ((inS 0 (As X) 0).getD 0 (0, 0)).2) v), Cl r7 [.int .i64 1, .int .i64 (((((inS 0 (As X) 0).getD 0 (0, 0)).1 : Nat) : Int)), .int .u32 (((inS 0 (As X) 0).getD 0 (0, 0)).2)] 28, Cl r50 [.int .i64 1, .int .i64 (((((inS 0 (As X) 0).getD 0 (0, 0)).1 : Nat) : Int)), .int .u32 (((inS 0 (As X) 0).getD 0 (0, 0)).2)] 28, Cl r40 [.int .i64 (((((inS 0 (As X) 0).getD 0 (0, 0)).1 : Nat) : Int)), .int .u32 (((inS 0 (As X) 0).getD 0 (0, 0)).2)] 79, R] := sat_sel [5, 4, 1, 0, 2, 3, 6] rfl h64
        have h67 : sat g w63 [Fd b n (X.set ((inS 0 (As X) 0).getD 0 (0, 0)).1 (1, ((inS 0 (As X) 0).getD 0 (0, 0)).2, v)), Cl r7 [.int .i64 1, .int .i64 (((((inS 0 (As X) 0).getD 0 (0, 0)).1 : Nat) : Int)), .int .u32 (((inS 0 (As X) 0).getD 0 (0, 0)).2)] 28, Cl r50 [.int .i64 1, .int .i64 (((((inS 0 (As X) 0).getD 0 (0, 0)).1 : Nat) : Int)), .int .u32 (((inS 0 (As X) 0).getD 0 (0, 0)).2)] 28, Cl r40 [.int .i64 (((((inS 0 (As X) 0).getD 0 (0, 0)).1 : Nat) : Int)), .int .u32 (((inS 0 (As X) 0).getD 0 (0, 0)).2)] 79, R] := fd_close (nums_open hN4.1) (by omega) (as_set X _ (1, _, v)).symm rfl h66
        have h68 : sat g w63 [Fd b n (X.set ((inS 0 (As X) 0).getD 0 (0, 0)).1 (1, ((inS 0 (As X) 0).getD 0 (0, 0)).2, v)), R] := sat_sel [0, 4] rfl h67
        refine hi_out [.int .i64 1, .int .i64 (((((inS 0 (As X) 0).getD 0 (0, 0)).1 : Nat) : Int)), .int .u32 (((inS 0 (As X) 0).getD 0 (0, 0)).2)] (.tuple #[.agg #[.int .i64 1, .int .i64 (((((inS 0 (As X) 0).getD 0 (0, 0)).1 : Nat) : Int)), .int .u32 (((inS 0 (As X) 0).getD 0 (0, 0)).2)], .int .i64 0]) [(⟨r7, 0, none⟩, .int .i64 1), (⟨r7, 1, none⟩, .int .i64 (((((inS 0 (As X) 0).getD 0 (0, 0)).1 : Nat) : Int))), (⟨r7, 2, none⟩, .int .u32 (((inS 0 (As X) 0).getD 0 (0, 0)).2))] (by kernel_rfl) (allq ⟨sat_cell h64 0 rfl rfl, sat_cell h64 0 rfl rfl, sat_cell h64 0 rfl rfl, trivial⟩) ?_
        exact ⟨.tuple #[.agg #[.int .i64 1, .int .i64 (((((inS 0 (As X) 0).getD 0 (0, 0)).1 : Nat) : Int)), .int .u32 (((inS 0 (As X) 0).getD 0 (0, 0)).2)], .int .i64 0], [Fd b n (X.set ((inS 0 (As X) 0).getD 0 (0, 0)).1 (1, ((inS 0 (As X) 0).getD 0 (0, 0)).2, v))], rfl, ⟨by rw [ho_.1, ho_.2.1], by rw [ho_.2.2]⟩, h68⟩
      ·
        have h69 : sat g w12 [Tb s1 n (As X), Cl b [.pointer (some ⟨s1, 0, none⟩), .map (some m2)] 63, Cl r7 [.int .i64 0, .int .i64 0, .int .u32 0] 28, Mp m2 E3, R] := sat_sel [2, 0, 1, 3, 4] rfl h14
        refine plain_act (i := 4) (by kernel_rfl) ?_
        refine an_call (d := some 27) (f := 34) (args := [.pointer (some ⟨s1, 0, none⟩)]) (by kernel_rfl) Try.call34 (take_n s1 n (As X) (by omega)) (F := [Cl b [.pointer (some ⟨s1, 0, none⟩), .map (some m2)] 63, Cl r7 [.int .i64 0, .int .i64 0, .int .u32 0] 28, Mp m2 E3, R]) h69 ?_
        rintro v K w70 (⟨rfl, rfl⟩) h71
        refine ⟨_, rfl, ?_⟩
        have h72 : sat g w70 [Tb s1 n (As X), Cl b [.pointer (some ⟨s1, 0, none⟩), .map (some m2)] 63, Cl r7 [.int .i64 0, .int .i64 0, .int .u32 0] 28, Mp m2 E3, R] := h71
        refine plain_batch (rest := [8, 9, 10]) [⟨5, [], none⟩, ⟨6, [], none⟩, ⟨7, [], none⟩] (l' := ([(29, .int .i64 4), (28, .agg #[.int .i64 0, .int .u32 0]), (22, .tuple #[.agg #[.int .i64 0, .int .u32 0], .int .i64 4]), (27, .tuple #[.agg #[.int .i64 0, .int .u32 0], .int .i64 4]), (26, .pointer (some ⟨s1, 0, none⟩)), (25, .pointer (some ⟨b, 0, none⟩)), (24, .pointer (some ⟨b, 0, none⟩)), (23, .pointer (some ⟨b, 0, none⟩)), (0, .pointer (some ⟨b, 0, none⟩)), (1, .int .i64 v), (4, .pointer (some ⟨r7, 0, none⟩)), (5, .int .i64 0), (9, .bool false), (14, .bool false)] : Fr) ++ lr34) (pts' := []) (eqs := []) (by kernel_rfl) trivial (AllC_nil _) ?_
        refine plain_act (i := 8) (by kernel_rfl) ?_
        refine an_new (d := 6) (fun xb_ => .pointer (some ⟨xb_, 0, none⟩)) (fun xb_ => Obj.cells [.int .i64 0, .int .u32 0].toArray 79 (0, 0)) (fun xb_ => by kernel_rfl) (by kernel_rfl) rfl h72 ?_
        intro r73 w74 (h75 : sat g w74 [Cl r73 [.int .i64 0, .int .u32 0] 79, Tb s1 n (As X), Cl b [.pointer (some ⟨s1, 0, none⟩), .map (some m2)] 63, Cl r7 [.int .i64 0, .int .i64 0, .int .u32 0] 28, Mp m2 E3, R])
        refine plain_act (i := 9) (by kernel_rfl) ?_
        refine an_store [(0, .int .i64 0), (1, .int .u32 0)] (cs' := [.int .i64 0, .int .u32 0]) (by kernel_rfl) (by kernel_rfl) (allq ⟨⟨by simp, rfl⟩, ⟨by simp, rfl⟩, trivial⟩) rfl h75 ?_
        intro w76 (h77 : sat g w76 [Cl r73 [.int .i64 0, .int .u32 0] 79, Tb s1 n (As X), Cl b [.pointer (some ⟨s1, 0, none⟩), .map (some m2)] 63, Cl r7 [.int .i64 0, .int .i64 0, .int .u32 0] 28, Mp m2 E3, R])
        refine plain_batch (rest := []) [⟨10, [], none⟩] (l' := ([(7, .int .i64 4), (6, .pointer (some ⟨r73, 0, none⟩)), (29, .int .i64 4), (28, .agg #[.int .i64 0, .int .u32 0]), (22, .tuple #[.agg #[.int .i64 0, .int .u32 0], .int .i64 4]), (27, .tuple #[.agg #[.int .i64 0, .int .u32 0], .int .i64 4]), (26, .pointer (some ⟨s1, 0, none⟩)), (25, .pointer (some ⟨b, 0, none⟩)), (24, .pointer (some ⟨b, 0, none⟩)), (23, .pointer (some ⟨b, 0, none⟩)), (0, .pointer (some ⟨b, 0, none⟩)), (1, .int .i64 v), (4, .pointer (some ⟨r7, 0, none⟩)), (5, .int .i64 0), (9, .bool false), (14, .bool false)] : Fr) ++ lr34) (pts' := []) (eqs := []) (by kernel_rfl) trivial (AllC_nil _) ?_
        refine PO.mk ?_
        change WP _ _ (CA Try.f11 [1, 1, 1]) _ _ _
        refine fk_cut ([(0, .pointer (some ⟨b, 0, none⟩)), (1, .int .i64 v), (4, .pointer (some ⟨r7, 0, none⟩)), (5, .int .i64 0), (6, .pointer (some ⟨r73, 0, none⟩)), (7, .int .i64 4), (9, .bool false), (14, .bool false)] : Fr) (by kernel_rfl) (fun a => WP _ _ _ _ a _) (fun lr78 => ?_)
        refine gi_seq (x := CA Try.f11 [1, 1, 1, 0]) (y := CA Try.f11 [1, 1, 1, 1]) (by kernel_rfl) ?_
        refine gi_seq (x := CA Try.f11 [1, 1, 1, 0, 0]) (y := CA Try.f11 [1, 1, 1, 0, 1]) (by kernel_rfl) ?_
        refine gi_pln (id := 6) (ops := RA Try.f11 [1, 1, 1, 0, 0]) [0, 1] (by kernel_rfl) (by kernel_rfl) (by kernel_rfl) ?_
        refine plain_batch (rest := []) [⟨0, [], none⟩, ⟨1, [], none⟩] (l' := ([(31, .bool true), (30, .int .i64 4), (0, .pointer (some ⟨b, 0, none⟩)), (1, .int .i64 v), (4, .pointer (some ⟨r7, 0, none⟩)), (5, .int .i64 0), (6, .pointer (some ⟨r73, 0, none⟩)), (7, .int .i64 4), (9, .bool false), (14, .bool false)] : Fr) ++ lr78) (pts' := []) (eqs := []) (by kernel_rfl) trivial (AllC_nil _) ?_
        refine PO.mk ?_
        change WP _ _ (CA Try.f11 [1, 1, 1, 0, 1]) _ _ _
        refine fk_cut ([(0, .pointer (some ⟨b, 0, none⟩)), (1, .int .i64 v), (4, .pointer (some ⟨r7, 0, none⟩)), (5, .int .i64 0), (6, .pointer (some ⟨r73, 0, none⟩)), (7, .int .i64 4), (9, .bool false), (14, .bool false), (31, .bool true)] : Fr) (by kernel_rfl) (fun a => WP _ _ _ _ a _) (fun lr79 => ?_)
        refine gi_cnd (x := (Operand.tmp 31)) (s := CA Try.f11 [1, 1, 1, 0, 1, 0]) (t := CA Try.f11 [1, 1, 1, 0, 1, 1]) true (by kernel_rfl) (by kernel_rfl) ?_
        change WP _ _ (CA Try.f11 [1, 1, 1, 0, 1, 0]) _ _ _
        refine gi_seq (x := CA Try.f11 [1, 1, 1, 0, 1, 0, 0]) (y := CA Try.f11 [1, 1, 1, 0, 1, 0, 1]) (by kernel_rfl) ?_
        refine gi_pln (id := 7) (ops := RA Try.f11 [1, 1, 1, 0, 1, 0, 0]) [0, 1, 2, 3] (by kernel_rfl) (by kernel_rfl) (by kernel_rfl) ?_
        refine plain_batch (rest := [2, 3]) [⟨0, [], none⟩, ⟨1, [], none⟩] (l' := ([(33, .int .i64 4), (32, .agg #[.int .i64 0, .int .i64 0, .int .u32 0]), (0, .pointer (some ⟨b, 0, none⟩)), (1, .int .i64 v), (4, .pointer (some ⟨r7, 0, none⟩)), (5, .int .i64 0), (6, .pointer (some ⟨r73, 0, none⟩)), (7, .int .i64 4), (9, .bool false), (14, .bool false), (31, .bool true)] : Fr) ++ lr79) (pts' := []) (eqs := []) (by kernel_rfl) trivial (AllC_nil _) ?_
        have h80 : sat g w76 [Cl r7 [.int .i64 0, .int .i64 0, .int .u32 0] 28, Cl r73 [.int .i64 0, .int .u32 0] 79, Tb s1 n (As X), Cl b [.pointer (some ⟨s1, 0, none⟩), .map (some m2)] 63, Mp m2 E3, R] := sat_sel [3, 0, 1, 2, 4, 5] rfl h77
        refine plain_act (i := 2) (by kernel_rfl) ?_
        refine an_store [(0, .int .i64 0), (1, .int .i64 0), (2, .int .u32 0)] (cs' := [.int .i64 0, .int .i64 0, .int .u32 0]) (by kernel_rfl) (by kernel_rfl) (allq ⟨⟨by simp, rfl⟩, ⟨by simp, rfl⟩, ⟨by simp, rfl⟩, trivial⟩) rfl h80 ?_
        intro w81 (h82 : sat g w81 [Cl r7 [.int .i64 0, .int .i64 0, .int .u32 0] 28, Cl r73 [.int .i64 0, .int .u32 0] 79, Tb s1 n (As X), Cl b [.pointer (some ⟨s1, 0, none⟩), .map (some m2)] 63, Mp m2 E3, R])
        refine plain_batch (rest := []) [⟨3, [], none⟩] (l' := ([(5, .int .i64 4), (33, .int .i64 4), (32, .agg #[.int .i64 0, .int .i64 0, .int .u32 0]), (0, .pointer (some ⟨b, 0, none⟩)), (1, .int .i64 v), (4, .pointer (some ⟨r7, 0, none⟩)), (5, .int .i64 0), (6, .pointer (some ⟨r73, 0, none⟩)), (7, .int .i64 4), (9, .bool false), (14, .bool false), (31, .bool true)] : Fr) ++ lr79) (pts' := []) (eqs := []) (by kernel_rfl) trivial (AllC_nil _) ?_
        refine PO.mk ?_
        change WP _ _ (CA Try.f11 [1, 1, 1, 0, 1, 0, 1]) _ _ _
        refine fk_cut ([(0, .pointer (some ⟨b, 0, none⟩)), (1, .int .i64 v), (4, .pointer (some ⟨r7, 0, none⟩)), (5, .int .i64 4), (6, .pointer (some ⟨r73, 0, none⟩)), (7, .int .i64 4), (9, .bool false), (14, .bool false), (31, .bool true)] : Fr) (by kernel_rfl) (fun a => WP _ _ _ _ a _) (fun lr83 => ?_)
        refine gi_rt (by kernel_rfl) ?_
        repeat (first | simp only [Exit.inBlock] | simp only [Exit.then])
        have ho_ := opn_full (X := X) (v := v) ⟨by omega, by omega⟩ (by omega)
        have h84 : sat g w81 [Cl b [.pointer (some ⟨s1, 0, none⟩), .map (some m2)] 63, Tb s1 n (As X), Mp m2 E3, Cl r7 [.int .i64 0, .int .i64 0, .int .u32 0] 28, Cl r73 [.int .i64 0, .int .u32 0] 79, R] := sat_sel [3, 2, 4, 0, 1, 5] rfl h82
        have h85 : sat g w81 [Fd b n X, Cl r7 [.int .i64 0, .int .i64 0, .int .u32 0] 28, Cl r73 [.int .i64 0, .int .u32 0] 79, R] := fd_close hN4.1 (by omega) rfl rfl h84
        have h86 : sat g w81 [Fd b n X, R] := sat_sel [0, 3] rfl h85
        refine hi_out [.int .i64 0, .int .i64 0, .int .u32 0] (.tuple #[.agg #[.int .i64 0, .int .i64 0, .int .u32 0], .int .i64 4]) [(⟨r7, 0, none⟩, .int .i64 0), (⟨r7, 1, none⟩, .int .i64 0), (⟨r7, 2, none⟩, .int .u32 0)] (by kernel_rfl) (allq ⟨sat_cell h82 0 rfl rfl, sat_cell h82 0 rfl rfl, sat_cell h82 0 rfl rfl, trivial⟩) ?_
        exact ⟨.tuple #[.agg #[.int .i64 0, .int .i64 0, .int .u32 0], .int .i64 4], [Fd b n X], rfl, ⟨by rw [ho_.1, ho_.2.1], by rw [ho_.2.2]⟩, h86⟩

set_option maxHeartbeats 4000000 in
theorem fclose_ht (b n : Nat) (X : Xs) (x y z : Int) (hz0 : 0 ≤ z) (hz1 : z ≤ 4294967295) : HT Try.prog 14 [Value.pointer (some ⟨b, 0, none⟩), Value.agg #[Value.int IntKind.i64 x, Value.int IntKind.i64 y, Value.int IntKind.u32 z]] [Fd b n X] (fun v K => v = Value.int .i64 (errA (As X) (x, y, z)) ∧ K = [Fd b n (clsX X (x, y, z))]) := by
  refine hi_in 20 ([(0, .pointer (some ⟨b, 0, none⟩)), (1, .agg #[.int .i64 x, .int .i64 y, .int .u32 z])] : Fr) Try.func14 (by kernel_rfl) Try.ntmps14 rfl rfl ?_
  intro g w0 R h0
  obtain ⟨s1, m2, E3, hN4, h5⟩ := fd_open h0
  have hn64_ := hN4.2
  have hb6 := tb_bd (j := 1) h5 rfl
  have hAl_ := hb6.1; have hn1_ := hb6.2.1; have hok_ := hb6.2.2.2
  refine gi_seq (x := CA Try.f14 [0]) (y := CA Try.f14 [1]) (by kernel_rfl) ?_
  refine gi_pln (id := 0) (ops := RA Try.f14 [0]) [0, 1, 2] (by kernel_rfl) (by kernel_rfl) (by kernel_rfl) ?_
  refine plain_act (i := 0) (by kernel_rfl) ?_
  refine an_new (d := 2) (fun xb_ => .pointer (some ⟨xb_, 0, none⟩)) (fun xb_ => Obj.cells [.pointer (some ⟨b, 0, none⟩)].toArray 24 (0, 0)) (fun xb_ => by kernel_rfl) (by kernel_rfl) rfl h5 ?_
  intro r7 w8 (h9 : sat g w8 [Cl r7 [.pointer (some ⟨b, 0, none⟩)] 24, Cl b [.pointer (some ⟨s1, 0, none⟩), .map (some m2)] 63, Tb s1 n (As X), Mp m2 E3, R])
  refine plain_act (i := 1) (by kernel_rfl) ?_
  refine an_new (d := 3) (fun xb_ => .pointer (some ⟨xb_, 0, none⟩)) (fun xb_ => Obj.cells [.int .i64 x, .int .i64 y, .int .u32 z].toArray 28 (0, 0)) (fun xb_ => by kernel_rfl) (by kernel_rfl) rfl h9 ?_
  intro r10 w11 (h12 : sat g w11 [Cl r10 [.int .i64 x, .int .i64 y, .int .u32 z] 28, Cl r7 [.pointer (some ⟨b, 0, none⟩)] 24, Cl b [.pointer (some ⟨s1, 0, none⟩), .map (some m2)] 63, Tb s1 n (As X), Mp m2 E3, R])
  refine plain_batch (rest := []) [⟨2, [], none⟩] (l' := ([(4, .int .i64 0), (3, .pointer (some ⟨r10, 0, none⟩)), (2, .pointer (some ⟨r7, 0, none⟩)), (0, .pointer (some ⟨b, 0, none⟩)), (1, .agg #[.int .i64 x, .int .i64 y, .int .u32 z])] : Fr)) (pts' := []) (eqs := []) (by kernel_rfl) trivial (AllC_nil _) ?_
  refine PO.mk ?_
  change WP _ _ (CA Try.f14 [1]) _ _ _
  refine fk_cut ([(0, .pointer (some ⟨b, 0, none⟩)), (1, .agg #[.int .i64 x, .int .i64 y, .int .u32 z]), (2, .pointer (some ⟨r7, 0, none⟩)), (3, .pointer (some ⟨r10, 0, none⟩)), (4, .int .i64 0)] : Fr) (by kernel_rfl) (fun a => WP _ _ _ _ a _) (fun lr13 => ?_)
  refine gi_seq (x := CA Try.f14 [1, 0]) (y := CA Try.f14 [1, 1]) (by kernel_rfl) ?_
  refine gi_pln (id := 1) (ops := RA Try.f14 [1, 0]) [0] (by kernel_rfl) (by kernel_rfl) (by kernel_rfl) ?_
  refine plain_act (i := 0) (by kernel_rfl) ?_
  refine an_new (d := 5) (fun xb_ => .pointer (some ⟨xb_, 0, none⟩)) (fun xb_ => Obj.cells [.int .i64 0].toArray 29 (0, 0)) (fun xb_ => by kernel_rfl) (by kernel_rfl) rfl h12 ?_
  intro r14 w15 (h16 : sat g w15 [Cl r14 [.int .i64 0] 29, Cl r10 [.int .i64 x, .int .i64 y, .int .u32 z] 28, Cl r7 [.pointer (some ⟨b, 0, none⟩)] 24, Cl b [.pointer (some ⟨s1, 0, none⟩), .map (some m2)] 63, Tb s1 n (As X), Mp m2 E3, R])
  refine PO.mk ?_
  change WP _ _ (CA Try.f14 [1, 1]) _ _ _
  refine fk_cut ([(0, .pointer (some ⟨b, 0, none⟩)), (1, .agg #[.int .i64 x, .int .i64 y, .int .u32 z]), (2, .pointer (some ⟨r7, 0, none⟩)), (3, .pointer (some ⟨r10, 0, none⟩)), (4, .int .i64 0), (5, .pointer (some ⟨r14, 0, none⟩))] : Fr) (by kernel_rfl) (fun a => WP _ _ _ _ a _) (fun lr17 => ?_)
  refine gi_seq (x := CA Try.f14 [1, 1, 0]) (y := CA Try.f14 [1, 1, 1]) (by kernel_rfl) ?_
  refine gi_seq (x := CA Try.f14 [1, 1, 0, 0]) (y := CA Try.f14 [1, 1, 0, 1]) (by kernel_rfl) ?_
  refine gi_pln (id := 2) (ops := RA Try.f14 [1, 1, 0, 0]) [0, 1, 2, 3, 4] (by kernel_rfl) (by kernel_rfl) (by kernel_rfl) ?_
  refine plain_batch (rest := [3, 4]) [⟨0, [.pointer (some ⟨b, 0, none⟩)], none⟩, ⟨1, [.int .i64 x, .int .i64 y, .int .u32 z], none⟩, ⟨2, [], none⟩] (l' := ([(9, .func (Fn.func 38) #[] #[.pointer (some ⟨r7, 0, none⟩), .pointer (some ⟨r14, 0, none⟩)]), (8, .agg #[.int .i64 x, .int .i64 y, .int .u32 z]), (7, .pointer (some ⟨b, 0, none⟩)), (0, .pointer (some ⟨b, 0, none⟩)), (1, .agg #[.int .i64 x, .int .i64 y, .int .u32 z]), (2, .pointer (some ⟨r7, 0, none⟩)), (3, .pointer (some ⟨r10, 0, none⟩)), (4, .int .i64 0), (5, .pointer (some ⟨r14, 0, none⟩))] : Fr) ++ lr17) (pts' := [(1, ⟨r10, 0, none⟩, .int .i64 x), (1, ⟨r10, 1, none⟩, .int .i64 y), (1, ⟨r10, 2, none⟩, .int .u32 z), (0, ⟨r7, 0, none⟩, .pointer (some ⟨b, 0, none⟩))]) (eqs := []) (by kernel_rfl) trivial (AllC_cons (sat_cell h16 1 rfl rfl) (AllC_cons (sat_cell h16 1 rfl rfl) (AllC_cons (sat_cell h16 1 rfl rfl) (AllC_cons (sat_cell h16 2 rfl rfl) (AllC_nil _))))) ?_
  have hbd_ := chk_bd (As X) (x, y, z)
  have h18 : sat g w15 [Cl r7 [.pointer (some ⟨b, 0, none⟩)] 24, Cl r14 [.int .i64 0] 29, Cl b [.pointer (some ⟨s1, 0, none⟩), .map (some m2)] 63, Tb s1 n (As X), Cl r10 [.int .i64 x, .int .i64 y, .int .u32 z] 28, Mp m2 E3, R] := sat_sel [2, 0, 3, 4, 1, 5, 6] rfl h16
  refine plain_act (i := 3) (by kernel_rfl) ?_
  refine an_call (d := some 10) (f := 36) (args := [.pointer (some ⟨b, 0, none⟩), .agg #[.int .i64 x, .int .i64 y, .int .u32 z], .func (Fn.func 38) #[] #[.pointer (some ⟨r7, 0, none⟩), .pointer (some ⟨r14, 0, none⟩)]]) (by kernel_rfl) Try.call36 (with_c r7 0 r14 0 b s1 m2 n (As X) E3 x y z (by omega) (by omega)) (F := [Cl r10 [.int .i64 x, .int .i64 y, .int .u32 z] 28, Mp m2 E3, R]) h18 ?_
  rintro v K w19 (⟨rfl, rfl⟩) h20
  refine ⟨_, rfl, ?_⟩
  have h21 : sat g w19 [Cl r7 [.pointer (some ⟨b, 0, none⟩)] 24, Cl r14 [.int .i64 0] 29, Cl b [.pointer (some ⟨s1, 0, none⟩), .map (some m2)] 63, Tb s1 n (clsA (As X) (x, y, z)), Cl r10 [.int .i64 x, .int .i64 y, .int .u32 z] 28, Mp m2 E3, R] := h20
  refine plain_batch (rest := []) [⟨4, [], none⟩] (l' := ([(6, .int .i64 ((errA (As X) (x, y, z)))), (10, .int .i64 ((errA (As X) (x, y, z)))), (9, .func (Fn.func 38) #[] #[.pointer (some ⟨r7, 0, none⟩), .pointer (some ⟨r14, 0, none⟩)]), (8, .agg #[.int .i64 x, .int .i64 y, .int .u32 z]), (7, .pointer (some ⟨b, 0, none⟩)), (0, .pointer (some ⟨b, 0, none⟩)), (1, .agg #[.int .i64 x, .int .i64 y, .int .u32 z]), (2, .pointer (some ⟨r7, 0, none⟩)), (3, .pointer (some ⟨r10, 0, none⟩)), (4, .int .i64 0), (5, .pointer (some ⟨r14, 0, none⟩))] : Fr) ++ lr17) (pts' := []) (eqs := []) (by kernel_rfl) trivial (AllC_nil _) ?_
  refine PO.mk ?_
  change WP _ _ (CA Try.f14 [1, 1, 0, 1]) _ _ _
  refine fk_cut ([(0, .pointer (some ⟨b, 0, none⟩)), (1, .agg #[.int .i64 x, .int .i64 y, .int .u32 z]), (2, .pointer (some ⟨r7, 0, none⟩)), (3, .pointer (some ⟨r10, 0, none⟩)), (4, .int .i64 0), (5, .pointer (some ⟨r14, 0, none⟩)), (6, .int .i64 ((errA (As X) (x, y, z))))] : Fr) (by kernel_rfl) (fun a => WP _ _ _ _ a _) (fun lr22 => ?_)
  refine gi_seq (x := CA Try.f14 [1, 1, 0, 1, 0]) (y := CA Try.f14 [1, 1, 0, 1, 1]) (by kernel_rfl) ?_
  refine gi_pln (id := 3) (ops := RA Try.f14 [1, 1, 0, 1, 0]) [0, 1] (by kernel_rfl) (by kernel_rfl) (by kernel_rfl) ?_
  refine plain_batch (rest := [1]) [⟨0, [], none⟩] (l' := ([(11, .int .i64 ((errA (As X) (x, y, z)))), (0, .pointer (some ⟨b, 0, none⟩)), (1, .agg #[.int .i64 x, .int .i64 y, .int .u32 z]), (2, .pointer (some ⟨r7, 0, none⟩)), (3, .pointer (some ⟨r10, 0, none⟩)), (4, .int .i64 0), (5, .pointer (some ⟨r14, 0, none⟩)), (6, .int .i64 ((errA (As X) (x, y, z))))] : Fr) ++ lr22) (pts' := []) (eqs := []) (by kernel_rfl) trivial (AllC_nil _) ?_
  by_cases c23 : (errA (As X) (x, y, z)) = 0
  ·
    refine plain_batch (rest := []) [⟨1, [], some (.bool false)⟩] (l' := ([(12, .bool false), (11, .int .i64 ((errA (As X) (x, y, z)))), (0, .pointer (some ⟨b, 0, none⟩)), (1, .agg #[.int .i64 x, .int .i64 y, .int .u32 z]), (2, .pointer (some ⟨r7, 0, none⟩)), (3, .pointer (some ⟨r10, 0, none⟩)), (4, .int .i64 0), (5, .pointer (some ⟨r14, 0, none⟩)), (6, .int .i64 ((errA (As X) (x, y, z))))] : Fr) ++ lr22) (pts' := []) (eqs := [(.bool (((errA (As X) (x, y, z))) != 0), .bool false)]) (by kernel_rfl) ⟨(ov_nf (by omega)), trivial⟩ (AllC_nil _) ?_
    refine PO.mk ?_
    change WP _ _ (CA Try.f14 [1, 1, 0, 1, 1]) _ _ _
    refine fk_cut ([(0, .pointer (some ⟨b, 0, none⟩)), (1, .agg #[.int .i64 x, .int .i64 y, .int .u32 z]), (2, .pointer (some ⟨r7, 0, none⟩)), (3, .pointer (some ⟨r10, 0, none⟩)), (4, .int .i64 0), (5, .pointer (some ⟨r14, 0, none⟩)), (6, .int .i64 ((errA (As X) (x, y, z)))), (12, .bool false)] : Fr) (by kernel_rfl) (fun a => WP _ _ _ _ a _) (fun lr24 => ?_)
    refine gi_cnd (x := (Operand.tmp 12)) (s := CA Try.f14 [1, 1, 0, 1, 1, 0]) (t := CA Try.f14 [1, 1, 0, 1, 1, 1]) false (by kernel_rfl) (by kernel_rfl) ?_
    change WP _ _ (CA Try.f14 [1, 1, 0, 1, 1, 1]) _ _ _
    refine gi_skp (by kernel_rfl) ?_
    change WP _ _ (CA Try.f14 [1, 1, 1]) _ _ _
    refine gi_seq (x := CA Try.f14 [1, 1, 1, 0]) (y := CA Try.f14 [1, 1, 1, 1]) (by kernel_rfl) ?_
    refine gi_drw (id := 5) (ops := RA Try.f14 [1, 1, 1, 0]) (Tr.fl 0 (Tr.fl 1 (Tr.fl 2 (Tr.fl 3 (Tr.fl 4 (Tr.an 5 Tr.nil)))))) (by kernel_rfl) (by kernel_rfl) (by kernel_rfl) (by kernel_rfl) (by kernel_rfl) (fun _ _ d _ _ h => by cases d <;> exact h) h21 ?_
    intro w25 h26
    refine draw_batch (t := (Tr.an 5 Tr.nil)) [⟨0, [.pointer (some ⟨b, 0, none⟩)], none⟩, ⟨1, [], none⟩, ⟨2, [], none⟩, ⟨3, [.map (some m2)], none⟩, ⟨4, [.int .i64 x, .int .i64 y, .int .u32 z], none⟩] (l' := ([(18, .agg #[.int .i64 x, .int .i64 y, .int .u32 z]), (17, .map (some m2)), (16, .pointer (some ⟨b, 1, none⟩)), (15, .pointer (some ⟨b, 0, none⟩)), (14, .pointer (some ⟨b, 0, none⟩)), (0, .pointer (some ⟨b, 0, none⟩)), (1, .agg #[.int .i64 x, .int .i64 y, .int .u32 z]), (2, .pointer (some ⟨r7, 0, none⟩)), (3, .pointer (some ⟨r10, 0, none⟩)), (4, .int .i64 0), (5, .pointer (some ⟨r14, 0, none⟩)), (6, .int .i64 ((errA (As X) (x, y, z)))), (12, .bool false)] : Fr) ++ lr24) (pts' := [(4, ⟨r10, 0, none⟩, .int .i64 x), (4, ⟨r10, 1, none⟩, .int .i64 y), (4, ⟨r10, 2, none⟩, .int .u32 z), (3, ⟨b, 1, none⟩, .map (some m2)), (0, ⟨r7, 0, none⟩, .pointer (some ⟨b, 0, none⟩))]) (eqs := []) (by kernel_rfl) trivial (AllC_cons (sat_cell h26 4 rfl rfl) (AllC_cons (sat_cell h26 4 rfl rfl) (AllC_cons (sat_cell h26 4 rfl rfl) (AllC_cons (sat_cell h26 2 rfl rfl) (AllC_cons (sat_cell h26 0 rfl rfl) (AllC_nil _)))))) ?_
    have h27 : sat g w25 [Mp m2 E3, Cl r7 [.pointer (some ⟨b, 0, none⟩)] 24, Cl r14 [.int .i64 0] 29, Cl b [.pointer (some ⟨s1, 0, none⟩), .map (some m2)] 63, Tb s1 n (clsA (As X) (x, y, z)), Cl r10 [.int .i64 x, .int .i64 y, .int .u32 z] 28, R] := sat_sel [5, 0, 1, 2, 3, 4, 6] rfl h26
    refine draw_act (i := 5) [(0, ⟨r7, 0, none⟩, .pointer (some ⟨b, 0, none⟩))] (by kernel_rfl) (by kernel_rfl) ?_
    refine an_delete (t := 61) (t2 := 28) (d := none) (m := (Operand.tmp 17)) (x := (Operand.tmp 18)) (by kernel_rfl) Try.underlying61 keyok (x, y, z) (by kernel_rfl) (by kernel_rfl) h27 (by kernel_rfl) (mdel E3 (x, y, z)) rfl ?_
    intro w28 h29
    refine ⟨_, rfl, ?_⟩
    have h30 : sat g w28 [Mp m2 (mdel E3 (x, y, z)), Cl r7 [.pointer (some ⟨b, 0, none⟩)] 24, Cl r14 [.int .i64 0] 29, Cl b [.pointer (some ⟨s1, 0, none⟩), .map (some m2)] 63, Tb s1 n (clsA (As X) (x, y, z)), Cl r10 [.int .i64 x, .int .i64 y, .int .u32 z] 28, R] := h29
    refine ⟨(AllC_cons (sat_cell h30 1 rfl rfl) (AllC_nil _)), ?_⟩
    change WP _ _ (CA Try.f14 [1, 1, 1, 1]) _ _ _
    refine fk_cut ([(0, .pointer (some ⟨b, 0, none⟩)), (1, .agg #[.int .i64 x, .int .i64 y, .int .u32 z]), (2, .pointer (some ⟨r7, 0, none⟩)), (3, .pointer (some ⟨r10, 0, none⟩)), (4, .int .i64 0), (5, .pointer (some ⟨r14, 0, none⟩)), (6, .int .i64 ((errA (As X) (x, y, z)))), (12, .bool false)] : Fr) (by kernel_rfl) (fun a => WP _ _ _ _ a _) (fun lr31 => ?_)
    refine gi_seq (x := CA Try.f14 [1, 1, 1, 1, 0]) (y := CA Try.f14 [1, 1, 1, 1, 1]) (by kernel_rfl) ?_
    refine gi_pln (id := 6) (ops := RA Try.f14 [1, 1, 1, 1, 0]) [0, 1] (by kernel_rfl) (by kernel_rfl) (by kernel_rfl) ?_
    refine plain_batch (rest := []) [⟨0, [.int .i64 0], none⟩, ⟨1, [], none⟩] (l' := ([(4, .int .i64 0), (19, .int .i64 0), (0, .pointer (some ⟨b, 0, none⟩)), (1, .agg #[.int .i64 x, .int .i64 y, .int .u32 z]), (2, .pointer (some ⟨r7, 0, none⟩)), (3, .pointer (some ⟨r10, 0, none⟩)), (4, .int .i64 0), (5, .pointer (some ⟨r14, 0, none⟩)), (6, .int .i64 ((errA (As X) (x, y, z)))), (12, .bool false)] : Fr) ++ lr31) (pts' := [(0, ⟨r14, 0, none⟩, .int .i64 0)]) (eqs := []) (by kernel_rfl) trivial (AllC_cons (sat_cell h30 2 rfl rfl) (AllC_nil _)) ?_
    refine PO.mk ?_
    change WP _ _ (CA Try.f14 [1, 1, 1, 1, 1]) _ _ _
    refine fk_cut ([(0, .pointer (some ⟨b, 0, none⟩)), (1, .agg #[.int .i64 x, .int .i64 y, .int .u32 z]), (2, .pointer (some ⟨r7, 0, none⟩)), (3, .pointer (some ⟨r10, 0, none⟩)), (4, .int .i64 0), (5, .pointer (some ⟨r14, 0, none⟩)), (6, .int .i64 ((errA (As X) (x, y, z)))), (12, .bool false)] : Fr) (by kernel_rfl) (fun a => WP _ _ _ _ a _) (fun lr32 => ?_)
    refine gi_rt (by kernel_rfl) ?_
    repeat (first | simp only [Exit.inBlock] | simp only [Exit.then])
    have h33 : sat g w28 [Cl b [.pointer (some ⟨s1, 0, none⟩), .map (some m2)] 63, Tb s1 n (clsA (As X) (x, y, z)), Mp m2 (mdel E3 (x, y, z)), Cl r7 [.pointer (some ⟨b, 0, none⟩)] 24, Cl r14 [.int .i64 0] 29, Cl r10 [.int .i64 x, .int .i64 y, .int .u32 z] 28, R] := sat_sel [3, 4, 0, 1, 2, 5, 6] rfl h30
    have h34 : sat g w28 [Fd b n (clsX X (x, y, z)), Cl r7 [.pointer (some ⟨b, 0, none⟩)] 24, Cl r14 [.int .i64 0] 29, Cl r10 [.int .i64 x, .int .i64 y, .int .u32 z] 28, R] := fd_close (nums_close hN4.1) (by omega) (clsA_as X _) (clsm_ok (by omega)) h33
    have h35 : sat g w28 [Fd b n (clsX X (x, y, z)), R] := sat_sel [0, 4] rfl h34
    refine hi_out [] (.int .i64 0) [] (by kernel_rfl) (by intro q hq; cases hq) ?_
    exact ⟨.int .i64 0, [Fd b n (clsX X (x, y, z))], rfl, ⟨by rw [show errA (As X) (x, y, z) = 0 from by omega], rfl⟩, h35⟩
  ·
    refine plain_batch (rest := []) [⟨1, [], some (.bool true)⟩] (l' := ([(12, .bool true), (11, .int .i64 ((errA (As X) (x, y, z)))), (0, .pointer (some ⟨b, 0, none⟩)), (1, .agg #[.int .i64 x, .int .i64 y, .int .u32 z]), (2, .pointer (some ⟨r7, 0, none⟩)), (3, .pointer (some ⟨r10, 0, none⟩)), (4, .int .i64 0), (5, .pointer (some ⟨r14, 0, none⟩)), (6, .int .i64 ((errA (As X) (x, y, z))))] : Fr) ++ lr22) (pts' := []) (eqs := [(.bool (((errA (As X) (x, y, z))) != 0), .bool true)]) (by kernel_rfl) ⟨(ov_nt (by omega)), trivial⟩ (AllC_nil _) ?_
    refine PO.mk ?_
    change WP _ _ (CA Try.f14 [1, 1, 0, 1, 1]) _ _ _
    refine fk_cut ([(0, .pointer (some ⟨b, 0, none⟩)), (1, .agg #[.int .i64 x, .int .i64 y, .int .u32 z]), (2, .pointer (some ⟨r7, 0, none⟩)), (3, .pointer (some ⟨r10, 0, none⟩)), (4, .int .i64 0), (5, .pointer (some ⟨r14, 0, none⟩)), (6, .int .i64 ((errA (As X) (x, y, z)))), (12, .bool true)] : Fr) (by kernel_rfl) (fun a => WP _ _ _ _ a _) (fun lr36 => ?_)
    refine gi_cnd (x := (Operand.tmp 12)) (s := CA Try.f14 [1, 1, 0, 1, 1, 0]) (t := CA Try.f14 [1, 1, 0, 1, 1, 1]) true (by kernel_rfl) (by kernel_rfl) ?_
    change WP _ _ (CA Try.f14 [1, 1, 0, 1, 1, 0]) _ _ _
    refine gi_seq (x := CA Try.f14 [1, 1, 0, 1, 1, 0, 0]) (y := CA Try.f14 [1, 1, 0, 1, 1, 0, 1]) (by kernel_rfl) ?_
    refine gi_pln (id := 4) (ops := RA Try.f14 [1, 1, 0, 1, 1, 0, 0]) [0, 1] (by kernel_rfl) (by kernel_rfl) (by kernel_rfl) ?_
    refine plain_batch (rest := []) [⟨0, [], none⟩, ⟨1, [], none⟩] (l' := ([(4, .int .i64 ((errA (As X) (x, y, z)))), (13, .int .i64 ((errA (As X) (x, y, z)))), (0, .pointer (some ⟨b, 0, none⟩)), (1, .agg #[.int .i64 x, .int .i64 y, .int .u32 z]), (2, .pointer (some ⟨r7, 0, none⟩)), (3, .pointer (some ⟨r10, 0, none⟩)), (4, .int .i64 0), (5, .pointer (some ⟨r14, 0, none⟩)), (6, .int .i64 ((errA (As X) (x, y, z)))), (12, .bool true)] : Fr) ++ lr36) (pts' := []) (eqs := []) (by kernel_rfl) trivial (AllC_nil _) ?_
    refine PO.mk ?_
    change WP _ _ (CA Try.f14 [1, 1, 0, 1, 1, 0, 1]) _ _ _
    refine fk_cut ([(0, .pointer (some ⟨b, 0, none⟩)), (1, .agg #[.int .i64 x, .int .i64 y, .int .u32 z]), (2, .pointer (some ⟨r7, 0, none⟩)), (3, .pointer (some ⟨r10, 0, none⟩)), (4, .int .i64 ((errA (As X) (x, y, z)))), (5, .pointer (some ⟨r14, 0, none⟩)), (6, .int .i64 ((errA (As X) (x, y, z)))), (12, .bool true)] : Fr) (by kernel_rfl) (fun a => WP _ _ _ _ a _) (fun lr37 => ?_)
    refine gi_rt (by kernel_rfl) ?_
    repeat (first | simp only [Exit.inBlock] | simp only [Exit.then])
    have h38 : sat g w19 [Cl b [.pointer (some ⟨s1, 0, none⟩), .map (some m2)] 63, Tb s1 n (clsA (As X) (x, y, z)), Mp m2 E3, Cl r7 [.pointer (some ⟨b, 0, none⟩)] 24, Cl r14 [.int .i64 0] 29, Cl r10 [.int .i64 x, .int .i64 y, .int .u32 z] 28, R] := sat_sel [2, 3, 5, 0, 1, 4, 6] rfl h21
    have h39 : sat g w19 [Fd b n (clsX X (x, y, z)), Cl r7 [.pointer (some ⟨b, 0, none⟩)] 24, Cl r14 [.int .i64 0] 29, Cl r10 [.int .i64 x, .int .i64 y, .int .u32 z] 28, R] := fd_close (nums_close hN4.1) (by omega) (clsA_as X _) (clsm_no (by omega)) h38
    have h40 : sat g w19 [Fd b n (clsX X (x, y, z)), R] := sat_sel [0, 4] rfl h39
    refine hi_out [] (.int .i64 ((errA (As X) (x, y, z)))) [] (by kernel_rfl) (by intro q hq; cases hq) ?_
    exact ⟨.int .i64 ((errA (As X) (x, y, z))), [Fd b n (clsX X (x, y, z))], rfl, ⟨rfl, rfl⟩, h40⟩

set_option maxHeartbeats 4000000 in
theorem fnum_ht (b n : Nat) (X : Xs) (x y z : Int) (hz0 : 0 ≤ z) (hz1 : z ≤ 4294967295) : HT Try.prog 13 [Value.pointer (some ⟨b, 0, none⟩), Value.agg #[Value.int IntKind.i64 x, Value.int IntKind.i64 y, Value.int IntKind.u32 z]] [Fd b n X] (fun v K => v = Value.tuple #[Value.int .i64 (numX X (x, y, z)), Value.int .i64 (errA (As X) (x, y, z))] ∧ K = [Fd b n X]) := by
  refine hi_in 14 ([(0, .pointer (some ⟨b, 0, none⟩)), (1, .agg #[.int .i64 x, .int .i64 y, .int .u32 z])] : Fr) Try.func13 (by kernel_rfl) Try.ntmps13 rfl rfl ?_
  intro g w0 R h0
  obtain ⟨s1, m2, E3, hN4, h5⟩ := fd_open h0
  have hn64_ := hN4.2
  have hb6 := tb_bd (j := 1) h5 rfl
  have hAl_ := hb6.1; have hn1_ := hb6.2.1; have hok_ := hb6.2.2.2
  refine gi_seq (x := CA Try.f13 [0]) (y := CA Try.f13 [1]) (by kernel_rfl) ?_
  refine gi_pln (id := 0) (ops := RA Try.f13 [0]) [0, 1, 2, 3] (by kernel_rfl) (by kernel_rfl) (by kernel_rfl) ?_
  refine plain_act (i := 0) (by kernel_rfl) ?_
  refine an_new (d := 2) (fun xb_ => .pointer (some ⟨xb_, 0, none⟩)) (fun xb_ => Obj.cells [.pointer (some ⟨b, 0, none⟩)].toArray 24 (0, 0)) (fun xb_ => by kernel_rfl) (by kernel_rfl) rfl h5 ?_
  intro r7 w8 (h9 : sat g w8 [Cl r7 [.pointer (some ⟨b, 0, none⟩)] 24, Cl b [.pointer (some ⟨s1, 0, none⟩), .map (some m2)] 63, Tb s1 n (As X), Mp m2 E3, R])
  refine plain_act (i := 1) (by kernel_rfl) ?_
  refine an_new (d := 3) (fun xb_ => .pointer (some ⟨xb_, 0, none⟩)) (fun xb_ => Obj.cells [.int .i64 x, .int .i64 y, .int .u32 z].toArray 28 (0, 0)) (fun xb_ => by kernel_rfl) (by kernel_rfl) rfl h9 ?_
  intro r10 w11 (h12 : sat g w11 [Cl r10 [.int .i64 x, .int .i64 y, .int .u32 z] 28, Cl r7 [.pointer (some ⟨b, 0, none⟩)] 24, Cl b [.pointer (some ⟨s1, 0, none⟩), .map (some m2)] 63, Tb s1 n (As X), Mp m2 E3, R])
  refine plain_batch (rest := []) [⟨2, [], none⟩, ⟨3, [], none⟩] (l' := ([(5, .int .i64 0), (4, .int .i64 0), (3, .pointer (some ⟨r10, 0, none⟩)), (2, .pointer (some ⟨r7, 0, none⟩)), (0, .pointer (some ⟨b, 0, none⟩)), (1, .agg #[.int .i64 x, .int .i64 y, .int .u32 z])] : Fr)) (pts' := []) (eqs := []) (by kernel_rfl) trivial (AllC_nil _) ?_
  refine PO.mk ?_
  change WP _ _ (CA Try.f13 [1]) _ _ _
  refine fk_cut ([(0, .pointer (some ⟨b, 0, none⟩)), (1, .agg #[.int .i64 x, .int .i64 y, .int .u32 z]), (2, .pointer (some ⟨r7, 0, none⟩)), (3, .pointer (some ⟨r10, 0, none⟩)), (4, .int .i64 0), (5, .int .i64 0)] : Fr) (by kernel_rfl) (fun a => WP _ _ _ _ a _) (fun lr13 => ?_)
  refine gi_seq (x := CA Try.f13 [1, 0]) (y := CA Try.f13 [1, 1]) (by kernel_rfl) ?_
  refine gi_pln (id := 1) (ops := RA Try.f13 [1, 0]) [0, 1] (by kernel_rfl) (by kernel_rfl) (by kernel_rfl) ?_
  refine plain_act (i := 0) (by kernel_rfl) ?_
  refine an_new (d := 6) (fun xb_ => .pointer (some ⟨xb_, 0, none⟩)) (fun xb_ => Obj.cells [.int .i64 0].toArray 3 (0, 0)) (fun xb_ => by kernel_rfl) (by kernel_rfl) rfl h12 ?_
  intro r14 w15 (h16 : sat g w15 [Cl r14 [.int .i64 0] 3, Cl r10 [.int .i64 x, .int .i64 y, .int .u32 z] 28, Cl r7 [.pointer (some ⟨b, 0, none⟩)] 24, Cl b [.pointer (some ⟨s1, 0, none⟩), .map (some m2)] 63, Tb s1 n (As X), Mp m2 E3, R])
  refine plain_act (i := 1) (by kernel_rfl) ?_
  refine an_store [(0, .int .i64 0)] (cs' := [.int .i64 0]) (by kernel_rfl) (by kernel_rfl) (allq ⟨⟨by simp, rfl⟩, trivial⟩) rfl h16 ?_
  intro w17 (h18 : sat g w17 [Cl r14 [.int .i64 0] 3, Cl r10 [.int .i64 x, .int .i64 y, .int .u32 z] 28, Cl r7 [.pointer (some ⟨b, 0, none⟩)] 24, Cl b [.pointer (some ⟨s1, 0, none⟩), .map (some m2)] 63, Tb s1 n (As X), Mp m2 E3, R])
  refine PO.mk ?_
  change WP _ _ (CA Try.f13 [1, 1]) _ _ _
  refine fk_cut ([(0, .pointer (some ⟨b, 0, none⟩)), (1, .agg #[.int .i64 x, .int .i64 y, .int .u32 z]), (2, .pointer (some ⟨r7, 0, none⟩)), (3, .pointer (some ⟨r10, 0, none⟩)), (4, .int .i64 0), (5, .int .i64 0), (6, .pointer (some ⟨r14, 0, none⟩))] : Fr) (by kernel_rfl) (fun a => WP _ _ _ _ a _) (fun lr19 => ?_)
  refine gi_seq (x := CA Try.f13 [1, 1, 0]) (y := CA Try.f13 [1, 1, 1]) (by kernel_rfl) ?_
  refine gi_pln (id := 2) (ops := RA Try.f13 [1, 1, 0]) [0, 1, 2, 3, 4] (by kernel_rfl) (by kernel_rfl) (by kernel_rfl) ?_
  refine plain_batch (rest := [3, 4]) [⟨0, [.pointer (some ⟨b, 0, none⟩)], none⟩, ⟨1, [.int .i64 x, .int .i64 y, .int .u32 z], none⟩, ⟨2, [], none⟩] (l' := ([(10, .func (Fn.func 37) #[] #[.pointer (some ⟨r7, 0, none⟩), .pointer (some ⟨r10, 0, none⟩), .pointer (some ⟨r14, 0, none⟩)]), (9, .agg #[.int .i64 x, .int .i64 y, .int .u32 z]), (8, .pointer (some ⟨b, 0, none⟩)), (0, .pointer (some ⟨b, 0, none⟩)), (1, .agg #[.int .i64 x, .int .i64 y, .int .u32 z]), (2, .pointer (some ⟨r7, 0, none⟩)), (3, .pointer (some ⟨r10, 0, none⟩)), (4, .int .i64 0), (5, .int .i64 0), (6, .pointer (some ⟨r14, 0, none⟩))] : Fr) ++ lr19) (pts' := [(1, ⟨r10, 0, none⟩, .int .i64 x), (1, ⟨r10, 1, none⟩, .int .i64 y), (1, ⟨r10, 2, none⟩, .int .u32 z), (0, ⟨r7, 0, none⟩, .pointer (some ⟨b, 0, none⟩))]) (eqs := []) (by kernel_rfl) trivial (AllC_cons (sat_cell h18 1 rfl rfl) (AllC_cons (sat_cell h18 1 rfl rfl) (AllC_cons (sat_cell h18 1 rfl rfl) (AllC_cons (sat_cell h18 2 rfl rfl) (AllC_nil _))))) ?_
  have hbd_ := chk_bd (As X) (x, y, z)
  have h20 : sat g w17 [Cl r7 [.pointer (some ⟨b, 0, none⟩)] 24, Cl r10 [.int .i64 x, .int .i64 y, .int .u32 z] 28, Cl r14 [.int .i64 0] 3, Cl b [.pointer (some ⟨s1, 0, none⟩), .map (some m2)] 63, Tb s1 n (As X), Mp m2 E3, R] := sat_sel [2, 1, 0, 3, 4, 5, 6] rfl h18
  refine plain_act (i := 3) (by kernel_rfl) ?_
  refine an_call (d := some 11) (f := 36) (args := [.pointer (some ⟨b, 0, none⟩), .agg #[.int .i64 x, .int .i64 y, .int .u32 z], .func (Fn.func 37) #[] #[.pointer (some ⟨r7, 0, none⟩), .pointer (some ⟨r10, 0, none⟩), .pointer (some ⟨r14, 0, none⟩)]]) (by kernel_rfl) Try.call36 (with_n r7 r10 0 r14 b s1 m2 n (As X) E3 x y z (by omega) (by omega)) (F := [R]) h20 ?_
  rintro v K w21 (⟨rfl, rfl⟩) h22
  refine ⟨_, rfl, ?_⟩
  have h23 : sat g w21 [Cl r7 [.pointer (some ⟨b, 0, none⟩)] 24, Cl r10 [.int .i64 x, .int .i64 y, .int .u32 z] 28, Cl r14 [.int .i64 ((numM (As X) E3 (x, y, z)))] 3, Cl b [.pointer (some ⟨s1, 0, none⟩), .map (some m2)] 63, Tb s1 n (As X), Mp m2 E3, R] := h22
  refine plain_batch (rest := []) [⟨4, [], none⟩] (l' := ([(7, .int .i64 ((errA (As X) (x, y, z)))), (11, .int .i64 ((errA (As X) (x, y, z)))), (10, .func (Fn.func 37) #[] #[.pointer (some ⟨r7, 0, none⟩), .pointer (some ⟨r10, 0, none⟩), .pointer (some ⟨r14, 0, none⟩)]), (9, .agg #[.int .i64 x, .int .i64 y, .int .u32 z]), (8, .pointer (some ⟨b, 0, none⟩)), (0, .pointer (some ⟨b, 0, none⟩)), (1, .agg #[.int .i64 x, .int .i64 y, .int .u32 z]), (2, .pointer (some ⟨r7, 0, none⟩)), (3, .pointer (some ⟨r10, 0, none⟩)), (4, .int .i64 0), (5, .int .i64 0), (6, .pointer (some ⟨r14, 0, none⟩))] : Fr) ++ lr19) (pts' := []) (eqs := []) (by kernel_rfl) trivial (AllC_nil _) ?_
  refine PO.mk ?_
  change WP _ _ (CA Try.f13 [1, 1, 1]) _ _ _
  refine fk_cut ([(0, .pointer (some ⟨b, 0, none⟩)), (1, .agg #[.int .i64 x, .int .i64 y, .int .u32 z]), (2, .pointer (some ⟨r7, 0, none⟩)), (3, .pointer (some ⟨r10, 0, none⟩)), (4, .int .i64 0), (5, .int .i64 0), (6, .pointer (some ⟨r14, 0, none⟩)), (7, .int .i64 ((errA (As X) (x, y, z))))] : Fr) (by kernel_rfl) (fun a => WP _ _ _ _ a _) (fun lr24 => ?_)
  refine gi_seq (x := CA Try.f13 [1, 1, 1, 0]) (y := CA Try.f13 [1, 1, 1, 1]) (by kernel_rfl) ?_
  refine gi_pln (id := 3) (ops := RA Try.f13 [1, 1, 1, 0]) [0, 1, 2, 3] (by kernel_rfl) (by kernel_rfl) (by kernel_rfl) ?_
  refine plain_batch (rest := []) [⟨0, [.int .i64 ((numM (As X) E3 (x, y, z)))], none⟩, ⟨1, [], none⟩, ⟨2, [], none⟩, ⟨3, [], none⟩] (l' := ([(5, .int .i64 ((errA (As X) (x, y, z)))), (4, .int .i64 ((numM (As X) E3 (x, y, z)))), (13, .int .i64 ((errA (As X) (x, y, z)))), (12, .int .i64 ((numM (As X) E3 (x, y, z)))), (0, .pointer (some ⟨b, 0, none⟩)), (1, .agg #[.int .i64 x, .int .i64 y, .int .u32 z]), (2, .pointer (some ⟨r7, 0, none⟩)), (3, .pointer (some ⟨r10, 0, none⟩)), (4, .int .i64 0), (5, .int .i64 0), (6, .pointer (some ⟨r14, 0, none⟩)), (7, .int .i64 ((errA (As X) (x, y, z))))] : Fr) ++ lr24) (pts' := [(0, ⟨r14, 0, none⟩, .int .i64 ((numM (As X) E3 (x, y, z))))]) (eqs := []) (by kernel_rfl) trivial (AllC_cons (sat_cell h23 2 rfl rfl) (AllC_nil _)) ?_
  refine PO.mk ?_
  change WP _ _ (CA Try.f13 [1, 1, 1, 1]) _ _ _
  refine fk_cut ([(0, .pointer (some ⟨b, 0, none⟩)), (1, .agg #[.int .i64 x, .int .i64 y, .int .u32 z]), (2, .pointer (some ⟨r7, 0, none⟩)), (3, .pointer (some ⟨r10, 0, none⟩)), (4, .int .i64 ((numM (As X) E3 (x, y, z)))), (5, .int .i64 ((errA (As X) (x, y, z)))), (6, .pointer (some ⟨r14, 0, none⟩)), (7, .int .i64 ((errA (As X) (x, y, z))))] : Fr) (by kernel_rfl) (fun a => WP _ _ _ _ a _) (fun lr25 => ?_)
  refine gi_rt (by kernel_rfl) ?_
  repeat (first | simp only [Exit.inBlock] | simp only [Exit.then])
  have h26 : sat g w21 [Cl b [.pointer (some ⟨s1, 0, none⟩), .map (some m2)] 63, Tb s1 n (As X), Mp m2 E3, Cl r7 [.pointer (some ⟨b, 0, none⟩)] 24, Cl r10 [.int .i64 x, .int .i64 y, .int .u32 z] 28, Cl r14 [.int .i64 ((numM (As X) E3 (x, y, z)))] 3, R] := sat_sel [3, 4, 5, 0, 1, 2, 6] rfl h23
  have h27 : sat g w21 [Fd b n X, Cl r7 [.pointer (some ⟨b, 0, none⟩)] 24, Cl r10 [.int .i64 x, .int .i64 y, .int .u32 z] 28, Cl r14 [.int .i64 ((numM (As X) E3 (x, y, z)))] 3, R] := fd_close hN4.1 (by omega) rfl rfl h26
  have h28 : sat g w21 [Fd b n X, R] := sat_sel [0, 4] rfl h27
  refine hi_out [] (.tuple #[.int .i64 ((numM (As X) E3 (x, y, z))), .int .i64 ((errA (As X) (x, y, z)))]) [] (by kernel_rfl) (by intro q hq; cases hq) ?_
  exact ⟨.tuple #[.int .i64 ((numM (As X) E3 (x, y, z))), .int .i64 ((errA (As X) (x, y, z)))], [Fd b n X], rfl, ⟨by rw [nums_num hN4.1], rfl⟩, h28⟩

set_option maxHeartbeats 4000000 in
theorem flen_ht (b n : Nat) (X : Xs) : HT Try.prog 19 [Value.pointer (some ⟨b, 0, none⟩)] [Fd b n X] (fun v K => v = Value.int IntKind.i64 ((((inS 1 (As X) 0).length : Nat) : Int)) ∧ K = [Fd b n X]) := by
  refine hi_in 11 ([(0, .pointer (some ⟨b, 0, none⟩))] : Fr) Try.func19 (by kernel_rfl) Try.ntmps19 rfl rfl ?_
  intro g w0 R h0
  obtain ⟨s1, m2, E3, hN4, h5⟩ := fd_open h0
  have hn64_ := hN4.2
  have hb6 := tb_bd (j := 1) h5 rfl
  have hAl_ := hb6.1; have hn1_ := hb6.2.1; have hok_ := hb6.2.2.2
  refine gi_seq (x := CA Try.f19 [0]) (y := CA Try.f19 [1]) (by kernel_rfl) ?_
  refine gi_pln (id := 0) (ops := RA Try.f19 [0]) [0] (by kernel_rfl) (by kernel_rfl) (by kernel_rfl) ?_
  refine plain_batch (rest := []) [⟨0, [], none⟩] (l' := ([(2, .int .i64 0), (0, .pointer (some ⟨b, 0, none⟩))] : Fr)) (pts' := []) (eqs := []) (by kernel_rfl) trivial (AllC_nil _) ?_
  refine PO.mk ?_
  change WP _ _ (CA Try.f19 [1]) _ _ _
  refine fk_cut ([(0, .pointer (some ⟨b, 0, none⟩)), (2, .int .i64 0)] : Fr) (by kernel_rfl) (fun a => WP _ _ _ _ a _) (fun lr7 => ?_)
  refine gi_seq (x := CA Try.f19 [1, 0]) (y := CA Try.f19 [1, 1]) (by kernel_rfl) ?_
  refine gi_seq (x := CA Try.f19 [1, 0, 0]) (y := CA Try.f19 [1, 0, 1]) (by kernel_rfl) ?_
  refine gi_pln (id := 1) (ops := RA Try.f19 [1, 0, 0]) [0, 1, 2] (by kernel_rfl) (by kernel_rfl) (by kernel_rfl) ?_
  refine plain_batch (rest := [1, 2]) [⟨0, [], none⟩] (l' := ([(3, .pointer (some ⟨b, 0, none⟩)), (0, .pointer (some ⟨b, 0, none⟩)), (2, .int .i64 0)] : Fr) ++ lr7) (pts' := []) (eqs := []) (by kernel_rfl) trivial (AllC_nil _) ?_
  refine plain_act (i := 1) (by kernel_rfl) ?_
  refine an_call (d := some 4) (f := 33) (args := [.pointer (some ⟨b, 0, none⟩)]) (by kernel_rfl) Try.call33 (made_y b s1 m2) (F := [Tb s1 n (As X), Mp m2 E3, R]) h5 ?_
  rintro v K w8 (⟨rfl, rfl⟩) h9
  refine ⟨_, rfl, ?_⟩
  have h10 : sat g w8 [Cl b [.pointer (some ⟨s1, 0, none⟩), .map (some m2)] 63, Tb s1 n (As X), Mp m2 E3, R] := h9
  refine plain_batch (rest := []) [⟨2, [], none⟩] (l' := ([(5, .bool false), (4, .bool true), (3, .pointer (some ⟨b, 0, none⟩)), (0, .pointer (some ⟨b, 0, none⟩)), (2, .int .i64 0)] : Fr) ++ lr7) (pts' := []) (eqs := []) (by kernel_rfl) trivial (AllC_nil _) ?_
  refine PO.mk ?_
  change WP _ _ (CA Try.f19 [1, 0, 1]) _ _ _
  refine fk_cut ([(0, .pointer (some ⟨b, 0, none⟩)), (2, .int .i64 0), (5, .bool false)] : Fr) (by kernel_rfl) (fun a => WP _ _ _ _ a _) (fun lr11 => ?_)
  refine gi_cnd (x := (Operand.tmp 5)) (s := CA Try.f19 [1, 0, 1, 0]) (t := CA Try.f19 [1, 0, 1, 1]) false (by kernel_rfl) (by kernel_rfl) ?_
  change WP _ _ (CA Try.f19 [1, 0, 1, 1]) _ _ _
  refine gi_skp (by kernel_rfl) ?_
  change WP _ _ (CA Try.f19 [1, 1]) _ _ _
  refine gi_seq (x := CA Try.f19 [1, 1, 0]) (y := CA Try.f19 [1, 1, 1]) (by kernel_rfl) ?_
  refine gi_pln (id := 3) (ops := RA Try.f19 [1, 1, 0]) [0, 1, 2, 3, 4, 5] (by kernel_rfl) (by kernel_rfl) (by kernel_rfl) ?_
  refine plain_batch (rest := [4, 5]) [⟨0, [], none⟩, ⟨1, [], none⟩, ⟨2, [], none⟩, ⟨3, [.pointer (some ⟨s1, 0, none⟩)], none⟩] (l' := ([(9, .pointer (some ⟨s1, 0, none⟩)), (8, .pointer (some ⟨b, 0, none⟩)), (7, .pointer (some ⟨b, 0, none⟩)), (6, .pointer (some ⟨b, 0, none⟩)), (0, .pointer (some ⟨b, 0, none⟩)), (2, .int .i64 0), (5, .bool false)] : Fr) ++ lr11) (pts' := [(3, ⟨b, 0, none⟩, .pointer (some ⟨s1, 0, none⟩))]) (eqs := []) (by kernel_rfl) trivial (AllC_cons (sat_cell h10 0 rfl rfl) (AllC_nil _)) ?_
  have h12 : sat g w8 [Tb s1 n (As X), Cl b [.pointer (some ⟨s1, 0, none⟩), .map (some m2)] 63, Mp m2 E3, R] := sat_sel [1, 0, 2, 3] rfl h10
  refine plain_act (i := 4) (by kernel_rfl) ?_
  refine an_call (d := some 10) (f := 42) (args := [.pointer (some ⟨s1, 0, none⟩)]) (by kernel_rfl) Try.call42 (slen_ht s1 n (As X)) (F := [Cl b [.pointer (some ⟨s1, 0, none⟩), .map (some m2)] 63, Mp m2 E3, R]) h12 ?_
  rintro v K w13 (⟨rfl, rfl⟩) h14
  refine ⟨_, rfl, ?_⟩
  have h15 : sat g w13 [Tb s1 n (As X), Cl b [.pointer (some ⟨s1, 0, none⟩), .map (some m2)] 63, Mp m2 E3, R] := h14
  refine plain_batch (rest := []) [⟨5, [], none⟩] (l' := ([(2, .int .i64 ((((inS 1 (As X) 0).length : Nat) : Int))), (10, .int .i64 ((((inS 1 (As X) 0).length : Nat) : Int))), (9, .pointer (some ⟨s1, 0, none⟩)), (8, .pointer (some ⟨b, 0, none⟩)), (7, .pointer (some ⟨b, 0, none⟩)), (6, .pointer (some ⟨b, 0, none⟩)), (0, .pointer (some ⟨b, 0, none⟩)), (2, .int .i64 0), (5, .bool false)] : Fr) ++ lr11) (pts' := []) (eqs := []) (by kernel_rfl) trivial (AllC_nil _) ?_
  refine PO.mk ?_
  change WP _ _ (CA Try.f19 [1, 1, 1]) _ _ _
  refine fk_cut ([(0, .pointer (some ⟨b, 0, none⟩)), (2, .int .i64 ((((inS 1 (As X) 0).length : Nat) : Int))), (5, .bool false)] : Fr) (by kernel_rfl) (fun a => WP _ _ _ _ a _) (fun lr16 => ?_)
  refine gi_rt (by kernel_rfl) ?_
  repeat (first | simp only [Exit.inBlock] | simp only [Exit.then])
  have h17 : sat g w13 [Cl b [.pointer (some ⟨s1, 0, none⟩), .map (some m2)] 63, Tb s1 n (As X), Mp m2 E3, R] := sat_sel [1, 0, 2, 3] rfl h15
  have h18 : sat g w13 [Fd b n X, R] := fd_close hN4.1 (by omega) rfl rfl h17
  refine hi_out [] (.int .i64 ((((inS 1 (As X) 0).length : Nat) : Int))) [] (by kernel_rfl) (by intro q hq; cases hq) ?_
  exact ⟨.int .i64 ((((inS 1 (As X) 0).length : Nat) : Int)), [Fd b n X], rfl, ⟨rfl, rfl⟩, h18⟩

set_option maxHeartbeats 4000000 in
theorem fcopy_ht (b n : Nat) (X : Xs) : HT Try.prog 24 [Value.pointer (some ⟨b, 0, none⟩)] [Fd b n X] (fun v K => ∃ b2 : Nat, v = Value.pointer (some ⟨b2, 0, none⟩) ∧ K = [Fd b n X, Fd b2 n X]) := by
  refine hi_in 18 ([(0, .pointer (some ⟨b, 0, none⟩))] : Fr) Try.func24 (by kernel_rfl) Try.ntmps24 rfl rfl ?_
  intro g w0 R h0
  obtain ⟨s1, m2, E3, hN4, h5⟩ := fd_open h0
  have hn64_ := hN4.2
  have hb6 := tb_bd (j := 1) h5 rfl
  have hAl_ := hb6.1; have hn1_ := hb6.2.1; have hok_ := hb6.2.2.2
  refine gi_seq (x := CA Try.f24 [0]) (y := CA Try.f24 [1]) (by kernel_rfl) ?_
  refine gi_pln (id := 0) (ops := RA Try.f24 [0]) [0] (by kernel_rfl) (by kernel_rfl) (by kernel_rfl) ?_
  refine plain_batch (rest := []) [⟨0, [], none⟩] (l' := ([(2, .pointer none), (0, .pointer (some ⟨b, 0, none⟩))] : Fr)) (pts' := []) (eqs := []) (by kernel_rfl) trivial (AllC_nil _) ?_
  refine PO.mk ?_
  change WP _ _ (CA Try.f24 [1]) _ _ _
  refine fk_cut ([(0, .pointer (some ⟨b, 0, none⟩)), (2, .pointer none)] : Fr) (by kernel_rfl) (fun a => WP _ _ _ _ a _) (fun lr7 => ?_)
  refine gi_seq (x := CA Try.f24 [1, 0]) (y := CA Try.f24 [1, 1]) (by kernel_rfl) ?_
  refine gi_seq (x := CA Try.f24 [1, 0, 0]) (y := CA Try.f24 [1, 0, 1]) (by kernel_rfl) ?_
  refine gi_pln (id := 1) (ops := RA Try.f24 [1, 0, 0]) [0, 1, 2] (by kernel_rfl) (by kernel_rfl) (by kernel_rfl) ?_
  refine plain_batch (rest := [1, 2]) [⟨0, [], none⟩] (l' := ([(3, .pointer (some ⟨b, 0, none⟩)), (0, .pointer (some ⟨b, 0, none⟩)), (2, .pointer none)] : Fr) ++ lr7) (pts' := []) (eqs := []) (by kernel_rfl) trivial (AllC_nil _) ?_
  refine plain_act (i := 1) (by kernel_rfl) ?_
  refine an_call (d := some 4) (f := 33) (args := [.pointer (some ⟨b, 0, none⟩)]) (by kernel_rfl) Try.call33 (made_y b s1 m2) (F := [Tb s1 n (As X), Mp m2 E3, R]) h5 ?_
  rintro v K w8 (⟨rfl, rfl⟩) h9
  refine ⟨_, rfl, ?_⟩
  have h10 : sat g w8 [Cl b [.pointer (some ⟨s1, 0, none⟩), .map (some m2)] 63, Tb s1 n (As X), Mp m2 E3, R] := h9
  refine plain_batch (rest := []) [⟨2, [], none⟩] (l' := ([(5, .bool false), (4, .bool true), (3, .pointer (some ⟨b, 0, none⟩)), (0, .pointer (some ⟨b, 0, none⟩)), (2, .pointer none)] : Fr) ++ lr7) (pts' := []) (eqs := []) (by kernel_rfl) trivial (AllC_nil _) ?_
  refine PO.mk ?_
  change WP _ _ (CA Try.f24 [1, 0, 1]) _ _ _
  refine fk_cut ([(0, .pointer (some ⟨b, 0, none⟩)), (2, .pointer none), (5, .bool false)] : Fr) (by kernel_rfl) (fun a => WP _ _ _ _ a _) (fun lr11 => ?_)
  refine gi_cnd (x := (Operand.tmp 5)) (s := CA Try.f24 [1, 0, 1, 0]) (t := CA Try.f24 [1, 0, 1, 1]) false (by kernel_rfl) (by kernel_rfl) ?_
  change WP _ _ (CA Try.f24 [1, 0, 1, 1]) _ _ _
  refine gi_skp (by kernel_rfl) ?_
  change WP _ _ (CA Try.f24 [1, 1]) _ _ _
  refine gi_seq (x := CA Try.f24 [1, 1, 0]) (y := CA Try.f24 [1, 1, 1]) (by kernel_rfl) ?_
  refine gi_drw (id := 3) (ops := RA Try.f24 [1, 1, 0]) (Tr.fl 0 (Tr.fl 1 (Tr.fl 2 (Tr.fl 3 (Tr.fl 5 (Tr.fl 6 (Tr.fl 7 (Tr.fl 8 (Tr.an 4 (Tr.an 9 (Tr.fl 10 (Tr.an 11 (Tr.fl 12 Tr.nil))))))))))))) (by kernel_rfl) (by kernel_rfl) (by kernel_rfl) (by kernel_rfl) (by kernel_rfl) (fun _ _ d _ _ h => by cases d <;> exact h) h10 ?_
  intro w12 h13
  refine draw_batch (t := (Tr.an 4 (Tr.an 9 (Tr.fl 10 (Tr.an 11 (Tr.fl 12 Tr.nil)))))) [⟨0, [], none⟩, ⟨1, [], none⟩, ⟨2, [], none⟩, ⟨3, [.pointer (some ⟨s1, 0, none⟩)], none⟩, ⟨5, [], none⟩, ⟨6, [], none⟩, ⟨7, [], none⟩, ⟨8, [.map (some m2)], none⟩] (l' := ([(14, .map (some m2)), (13, .pointer (some ⟨b, 1, none⟩)), (12, .pointer (some ⟨b, 0, none⟩)), (11, .pointer (some ⟨b, 0, none⟩)), (9, .pointer (some ⟨s1, 0, none⟩)), (8, .pointer (some ⟨b, 0, none⟩)), (7, .pointer (some ⟨b, 0, none⟩)), (6, .pointer (some ⟨b, 0, none⟩)), (0, .pointer (some ⟨b, 0, none⟩)), (2, .pointer none), (5, .bool false)] : Fr) ++ lr11) (pts' := [(8, ⟨b, 1, none⟩, .map (some m2)), (3, ⟨b, 0, none⟩, .pointer (some ⟨s1, 0, none⟩))]) (eqs := []) (by kernel_rfl) trivial (AllC_cons (sat_cell h13 0 rfl rfl) (AllC_cons (sat_cell h13 0 rfl rfl) (AllC_nil _))) ?_
  have h15 : sat g w12 [Tb s1 n (As X), Cl b [.pointer (some ⟨s1, 0, none⟩), .map (some m2)] 63, Mp m2 E3, R] := sat_sel [1, 0, 2, 3] rfl h13
  refine draw_act (i := 4) [(8, ⟨b, 1, none⟩, .map (some m2))] (by kernel_rfl) (by kernel_rfl) ?_
  refine an_call (d := some 10) (f := 44) (args := [.pointer (some ⟨s1, 0, none⟩)]) (by kernel_rfl) Try.call44 (scopy_ht s1 n (As X)) (F := [Cl b [.pointer (some ⟨s1, 0, none⟩), .map (some m2)] 63, Mp m2 E3, R]) h15 ?_
  rintro v K w16 (⟨b14, rfl, rfl⟩) h17
  refine ⟨_, rfl, ?_⟩
  have h18 : sat g w16 [Tb s1 n (As X), Tb b14 n (As X), Cl b [.pointer (some ⟨s1, 0, none⟩), .map (some m2)] 63, Mp m2 E3, R] := h17
  refine ⟨(AllC_cons (sat_cell h18 2 rfl rfl) (AllC_nil _)), ?_⟩
  have h20 : sat g w16 [Mp m2 E3, Tb s1 n (As X), Tb b14 n (As X), Cl b [.pointer (some ⟨s1, 0, none⟩), .map (some m2)] 63, R] := sat_sel [3, 0, 1, 2, 4] rfl h18
  refine draw_act (i := 9) [] (by kernel_rfl) (by kernel_rfl) ?_
  refine an_call (d := some 15) (f := 45) (args := [.map (some m2)]) (by kernel_rfl) Try.call45 (mclone m2 E3) (F := [Tb s1 n (As X), Tb b14 n (As X), Cl b [.pointer (some ⟨s1, 0, none⟩), .map (some m2)] 63, R]) h20 ?_
  rintro v K w21 (⟨m19, rfl, rfl⟩) h22
  refine ⟨_, rfl, ?_⟩
  have h23 : sat g w21 [Mp m2 E3, Mp m19 E3, Tb s1 n (As X), Tb b14 n (As X), Cl b [.pointer (some ⟨s1, 0, none⟩), .map (some m2)] 63, R] := h22
  refine ⟨(AllC_nil _), ?_⟩
  refine draw_batch (t := (Tr.an 11 (Tr.fl 12 Tr.nil))) [⟨10, [], none⟩] (l' := ([(16, .agg #[.pointer (some ⟨b14, 0, none⟩), .map (some m19)]), (15, .map (some m19)), (10, .pointer (some ⟨b14, 0, none⟩)), (14, .map (some m2)), (13, .pointer (some ⟨b, 1, none⟩)), (12, .pointer (some ⟨b, 0, none⟩)), (11, .pointer (some ⟨b, 0, none⟩)), (9, .pointer (some ⟨s1, 0, none⟩)), (8, .pointer (some ⟨b, 0, none⟩)), (7, .pointer (some ⟨b, 0, none⟩)), (6, .pointer (some ⟨b, 0, none⟩)), (0, .pointer (some ⟨b, 0, none⟩)), (2, .pointer none), (5, .bool false)] : Fr) ++ lr11) (pts' := []) (eqs := []) (by kernel_rfl) trivial (AllC_nil _) ?_
  refine draw_act (i := 11) [] (by kernel_rfl) (by kernel_rfl) ?_
  refine an_new (d := 17) (fun xb_ => .pointer (some ⟨xb_, 0, none⟩)) (fun xb_ => Obj.cells [.pointer (some ⟨b14, 0, none⟩), .map (some m19)].toArray 63 (0, 0)) (fun xb_ => by kernel_rfl) (by kernel_rfl) rfl h23 ?_
  intro r24 w25 (h26 : sat g w25 [Cl r24 [.pointer (some ⟨b14, 0, none⟩), .map (some m19)] 63, Mp m2 E3, Mp m19 E3, Tb s1 n (As X), Tb b14 n (As X), Cl b [.pointer (some ⟨s1, 0, none⟩), .map (some m2)] 63, R])
  refine ⟨(AllC_nil _), ?_⟩
  refine draw_batch (t := Tr.nil) [⟨12, [], none⟩] (l' := ([(2, .pointer (some ⟨r24, 0, none⟩)), (17, .pointer (some ⟨r24, 0, none⟩)), (16, .agg #[.pointer (some ⟨b14, 0, none⟩), .map (some m19)]), (15, .map (some m19)), (10, .pointer (some ⟨b14, 0, none⟩)), (14, .map (some m2)), (13, .pointer (some ⟨b, 1, none⟩)), (12, .pointer (some ⟨b, 0, none⟩)), (11, .pointer (some ⟨b, 0, none⟩)), (9, .pointer (some ⟨s1, 0, none⟩)), (8, .pointer (some ⟨b, 0, none⟩)), (7, .pointer (some ⟨b, 0, none⟩)), (6, .pointer (some ⟨b, 0, none⟩)), (0, .pointer (some ⟨b, 0, none⟩)), (2, .pointer none), (5, .bool false)] : Fr) ++ lr11) (pts' := []) (eqs := []) (by kernel_rfl) trivial (AllC_nil _) ?_
  change WP _ _ (CA Try.f24 [1, 1, 1]) _ _ _
  refine fk_cut ([(0, .pointer (some ⟨b, 0, none⟩)), (2, .pointer (some ⟨r24, 0, none⟩)), (5, .bool false)] : Fr) (by kernel_rfl) (fun a => WP _ _ _ _ a _) (fun lr27 => ?_)
  refine gi_rt (by kernel_rfl) ?_
  repeat (first | simp only [Exit.inBlock] | simp only [Exit.then])
  have h28 : sat g w25 [Cl r24 [.pointer (some ⟨b14, 0, none⟩), .map (some m19)] 63, Tb b14 n (As X), Mp m19 E3, Mp m2 E3, Tb s1 n (As X), Cl b [.pointer (some ⟨s1, 0, none⟩), .map (some m2)] 63, R] := sat_sel [0, 4, 2, 1, 3, 5, 6] rfl h26
  have h29 : sat g w25 [Fd r24 n X, Mp m2 E3, Tb s1 n (As X), Cl b [.pointer (some ⟨s1, 0, none⟩), .map (some m2)] 63, R] := fd_close hN4.1 (by omega) rfl rfl h28
  have h30 : sat g w25 [Cl b [.pointer (some ⟨s1, 0, none⟩), .map (some m2)] 63, Tb s1 n (As X), Mp m2 E3, Fd r24 n X, R] := sat_sel [3, 2, 1, 0, 4] rfl h29
  have h31 : sat g w25 [Fd b n X, Fd r24 n X, R] := fd_close hN4.1 (by omega) rfl rfl h30
  refine hi_out [] (.pointer (some ⟨r24, 0, none⟩)) [] (by kernel_rfl) (by intro q hq; cases hq) ?_
  exact ⟨.pointer (some ⟨r24, 0, none⟩), [Fd b n X, Fd r24 n X], rfl, ⟨r24, rfl, rfl⟩, h31⟩

set_option maxHeartbeats 4000000 in
theorem fall_ht (b n : Nat) (X : Xs) : HT Try.prog 17 [Value.pointer (some ⟨b, 0, none⟩)] [Fd b n X] (fun v K => ∃ (p : Option Addr) (c : Nat), v = Value.slice p ((inS 1 (As X) 0).length) c ∧ K = [Fd b n X, Sl 28 3 p (((inS 1 (As X) 0).length)) c (fl eO (allX X))]) := by
  refine hi_in 26 ([(0, .pointer (some ⟨b, 0, none⟩))] : Fr) Try.func17 (by kernel_rfl) Try.ntmps17 rfl rfl ?_
  intro g w0 R h0
  obtain ⟨s1, m2, E3, hN4, h5⟩ := fd_open h0
  have hn64_ := hN4.2
  have hb6 := tb_bd (j := 1) h5 rfl
  have hAl_ := hb6.1; have hn1_ := hb6.2.1; have hok_ := hb6.2.2.2
  refine gi_seq (x := CA Try.f17 [0]) (y := CA Try.f17 [1]) (by kernel_rfl) ?_
  refine gi_pln (id := 0) (ops := RA Try.f17 [0]) [0] (by kernel_rfl) (by kernel_rfl) (by kernel_rfl) ?_
  refine plain_batch (rest := []) [⟨0, [], none⟩] (l' := ([(2, .slice none 0 0), (0, .pointer (some ⟨b, 0, none⟩))] : Fr)) (pts' := []) (eqs := []) (by kernel_rfl) trivial (AllC_nil _) ?_
  refine PO.mk ?_
  change WP _ _ (CA Try.f17 [1]) _ _ _
  refine fk_cut ([(0, .pointer (some ⟨b, 0, none⟩)), (2, .slice none 0 0)] : Fr) (by kernel_rfl) (fun a => WP _ _ _ _ a _) (fun lr7 => ?_)
  refine gi_seq (x := CA Try.f17 [1, 0]) (y := CA Try.f17 [1, 1]) (by kernel_rfl) ?_
  refine gi_seq (x := CA Try.f17 [1, 0, 0]) (y := CA Try.f17 [1, 0, 1]) (by kernel_rfl) ?_
  refine gi_pln (id := 1) (ops := RA Try.f17 [1, 0, 0]) [0, 1, 2] (by kernel_rfl) (by kernel_rfl) (by kernel_rfl) ?_
  refine plain_batch (rest := [1, 2]) [⟨0, [], none⟩] (l' := ([(6, .pointer (some ⟨b, 0, none⟩)), (0, .pointer (some ⟨b, 0, none⟩)), (2, .slice none 0 0)] : Fr) ++ lr7) (pts' := []) (eqs := []) (by kernel_rfl) trivial (AllC_nil _) ?_
  refine plain_act (i := 1) (by kernel_rfl) ?_
  refine an_call (d := some 7) (f := 33) (args := [.pointer (some ⟨b, 0, none⟩)]) (by kernel_rfl) Try.call33 (made_y b s1 m2) (F := [Tb s1 n (As X), Mp m2 E3, R]) h5 ?_
  rintro v K w8 (⟨rfl, rfl⟩) h9
  refine ⟨_, rfl, ?_⟩
  have h10 : sat g w8 [Cl b [.pointer (some ⟨s1, 0, none⟩), .map (some m2)] 63, Tb s1 n (As X), Mp m2 E3, R] := h9
  refine plain_batch (rest := []) [⟨2, [], none⟩] (l' := ([(8, .bool false), (7, .bool true), (6, .pointer (some ⟨b, 0, none⟩)), (0, .pointer (some ⟨b, 0, none⟩)), (2, .slice none 0 0)] : Fr) ++ lr7) (pts' := []) (eqs := []) (by kernel_rfl) trivial (AllC_nil _) ?_
  refine PO.mk ?_
  change WP _ _ (CA Try.f17 [1, 0, 1]) _ _ _
  refine fk_cut ([(0, .pointer (some ⟨b, 0, none⟩)), (2, .slice none 0 0), (8, .bool false)] : Fr) (by kernel_rfl) (fun a => WP _ _ _ _ a _) (fun lr11 => ?_)
  refine gi_cnd (x := (Operand.tmp 8)) (s := CA Try.f17 [1, 0, 1, 0]) (t := CA Try.f17 [1, 0, 1, 1]) false (by kernel_rfl) (by kernel_rfl) ?_
  change WP _ _ (CA Try.f17 [1, 0, 1, 1]) _ _ _
  refine gi_skp (by kernel_rfl) ?_
  change WP _ _ (CA Try.f17 [1, 1]) _ _ _
  refine gi_seq (x := CA Try.f17 [1, 1, 0]) (y := CA Try.f17 [1, 1, 1]) (by kernel_rfl) ?_
  refine gi_pln (id := 3) (ops := RA Try.f17 [1, 1, 0]) [0] (by kernel_rfl) (by kernel_rfl) (by kernel_rfl) ?_
  refine plain_batch (rest := []) [⟨0, [], none⟩] (l' := ([(3, .slice none 0 0), (0, .pointer (some ⟨b, 0, none⟩)), (2, .slice none 0 0), (8, .bool false)] : Fr) ++ lr11) (pts' := []) (eqs := []) (by kernel_rfl) trivial (AllC_nil _) ?_
  refine PO.mk ?_
  change WP _ _ (CA Try.f17 [1, 1, 1]) _ _ _
  refine fk_cut ([(0, .pointer (some ⟨b, 0, none⟩)), (2, .slice none 0 0), (3, .slice none 0 0), (8, .bool false)] : Fr) (by kernel_rfl) (fun a => WP _ _ _ _ a _) (fun lr12 => ?_)
  refine gi_seq (x := CA Try.f17 [1, 1, 1, 0]) (y := CA Try.f17 [1, 1, 1, 1]) (by kernel_rfl) ?_
  refine gi_seq (x := CA Try.f17 [1, 1, 1, 0, 0]) (y := CA Try.f17 [1, 1, 1, 0, 1]) (by kernel_rfl) ?_
  refine gi_pln (id := 4) (ops := RA Try.f17 [1, 1, 1, 0, 0]) [0, 1, 2, 3, 4, 5, 6] (by kernel_rfl) (by kernel_rfl) (by kernel_rfl) ?_
  refine plain_batch (rest := [4, 5, 6]) [⟨0, [], none⟩, ⟨1, [], none⟩, ⟨2, [], none⟩, ⟨3, [.pointer (some ⟨s1, 0, none⟩)], none⟩] (l' := ([(12, .pointer (some ⟨s1, 0, none⟩)), (11, .pointer (some ⟨b, 0, none⟩)), (10, .pointer (some ⟨b, 0, none⟩)), (9, .pointer (some ⟨b, 0, none⟩)), (0, .pointer (some ⟨b, 0, none⟩)), (2, .slice none 0 0), (3, .slice none 0 0), (8, .bool false)] : Fr) ++ lr12) (pts' := [(3, ⟨b, 0, none⟩, .pointer (some ⟨s1, 0, none⟩))]) (eqs := []) (by kernel_rfl) trivial (AllC_cons (sat_cell h10 0 rfl rfl) (AllC_nil _)) ?_
  have h15 : sat g w8 [Tb s1 n (As X), Cl b [.pointer (some ⟨s1, 0, none⟩), .map (some m2)] 63, Mp m2 E3, R] := sat_sel [1, 0, 2, 3] rfl h10
  refine plain_act (i := 4) (by kernel_rfl) ?_
  refine an_call (d := some 13) (f := 41) (args := [.pointer (some ⟨s1, 0, none⟩)]) (by kernel_rfl) Try.call41 (taken_ht s1 n (As X)) (F := [Cl b [.pointer (some ⟨s1, 0, none⟩), .map (some m2)] 63, Mp m2 E3, R]) h15 ?_
  rintro v K w16 (⟨p13, c14, rfl, rfl⟩) h17
  refine ⟨_, rfl, ?_⟩
  have h18 : sat g w16 [Tb s1 n (As X), Sl 79 2 p13 (((inS 1 (As X) 0).length)) c14 (fl eRf (inS 1 (As X) 0)), Cl b [.pointer (some ⟨s1, 0, none⟩), .map (some m2)] 63, Mp m2 E3, R] := h17
  refine plain_batch (rest := []) [⟨5, [], none⟩, ⟨6, [], none⟩] (l' := ([(15, .int .i64 0), (14, .int .i64 ((((inS 1 (As X) 0).length : Nat) : Int))), (13, .slice p13 (((inS 1 (As X) 0).length)) c14), (12, .pointer (some ⟨s1, 0, none⟩)), (11, .pointer (some ⟨b, 0, none⟩)), (10, .pointer (some ⟨b, 0, none⟩)), (9, .pointer (some ⟨b, 0, none⟩)), (0, .pointer (some ⟨b, 0, none⟩)), (2, .slice none 0 0), (3, .slice none 0 0), (8, .bool false)] : Fr) ++ lr12) (pts' := []) (eqs := []) (by kernel_rfl) trivial (AllC_nil _) ?_
  refine PO.mk ?_
  change WP _ _ (CA Try.f17 [1, 1, 1, 0, 1]) _ _ _
  refine fk_cut ([(0, .pointer (some ⟨b, 0, none⟩)), (2, .slice none 0 0), (3, .slice none 0 0), (8, .bool false), (13, .slice p13 (((inS 1 (As X) 0).length)) c14), (14, .int .i64 ((((inS 1 (As X) 0).length : Nat) : Int))), (15, .int .i64 0)] : Fr) (by kernel_rfl) (fun a => WP _ _ _ _ a _) (fun lr19 => ?_)
  refine gi_blk (id := 0) (x := CA Try.f17 [1, 1, 1, 0, 1, 0]) (by kernel_rfl) ?_
  have hl_ : ((inS 1 (As X) 0).length) ≤ 64 := by have h1_ := inS_len 1 (As X) 0; omega
  have h20 : sat g w16 [Sl 28 3 none 0 0 (fl eO []), Tb s1 n (As X), Sl 79 2 p13 (((inS 1 (As X) 0).length)) c14 (fl eRf (inS 1 (As X) 0)), Cl b [.pointer (some ⟨s1, 0, none⟩), .map (some m2)] 63, Mp m2 E3, R] := sl_nil 28 3 h18
  have h21 : sat g w16 [Sl 28 3 none 0 0 (fl eO []), Sl 79 2 p13 (((inS 1 (As X) 0).length)) c14 (fl eRf (inS 1 (As X) 0)), Cl b [.pointer (some ⟨s1, 0, none⟩), .map (some m2)] 63, Tb s1 n (As X), Mp m2 E3, R] := sat_sel [0, 2, 3, 1, 4, 5] rfl h20
  refine gi_lp (x := CA Try.f17 [1, 1, 1, 0, 1, 0, 0]) (by kernel_rfl) (fun mz_ a w => ∃ i : Nat, ∃ p2 : Option Addr, ∃ c2 : Nat, ∃ lr : Fr, mz_ = ((inS 1 (As X) 0).length) - i ∧ (i ≤ ((inS 1 (As X) 0).length)) ∧ a = mk 26 (([(3, .slice p2 i c2), (13, .slice p13 (((inS 1 (As X) 0).length)) c14), (14, .int .i64 ((((inS 1 (As X) 0).length : Nat) : Int))), (15, .int .i64 (((i : Nat) : Int)))] : Fr) ++ lr) ∧ sat g w [Sl 28 3 p2 i c2 (fl eO (((inS 1 (As X) 0).take i).map (fun r : Nat × Int => ((1, (r.1 : Int), r.2) : Ky)))), Sl 79 2 p13 (((inS 1 (As X) 0).length)) c14 (fl eRf (inS 1 (As X) 0)), Cl b [.pointer (some ⟨s1, 0, none⟩), .map (some m2)] 63, Tb s1 n (As X), Mp m2 E3, R]) (((inS 1 (As X) 0).length) - 0) ⟨0, none, 0, _, rfl, (Nat.zero_le _), (mk_live [(3, .slice none 0 0), (13, .slice p13 (((inS 1 (As X) 0).length)) c14), (14, .int .i64 ((((inS 1 (As X) 0).length : Nat) : Int))), (15, .int .i64 (((0 : Nat) : Int)))] ⟨rfl, rfl, rfl, (ov_int (by omega)), trivial⟩), h21⟩ ?_
  rintro m23 a24 w25 ⟨i, p2, c2, lr22, rfl, hi, rfl, h26⟩
  change WP _ _ (CA Try.f17 [1, 1, 1, 0, 1, 0, 0]) _ _ _
  refine gi_seq (x := CA Try.f17 [1, 1, 1, 0, 1, 0, 0, 0]) (y := CA Try.f17 [1, 1, 1, 0, 1, 0, 0, 1]) (by kernel_rfl) ?_
  refine gi_pln (id := 5) (ops := RA Try.f17 [1, 1, 1, 0, 1, 0, 0, 0]) [0] (by kernel_rfl) (by kernel_rfl) (by kernel_rfl) ?_
  by_cases c27 : ((i : Nat) : Int) < (((inS 1 (As X) 0).length : Nat) : Int)
  ·
    refine plain_batch (rest := []) [⟨0, [], some (.bool true)⟩] (l' := ([(16, .bool true), (3, .slice p2 i c2), (13, .slice p13 (((inS 1 (As X) 0).length)) c14), (14, .int .i64 ((((inS 1 (As X) 0).length : Nat) : Int))), (15, .int .i64 (((i : Nat) : Int)))] : Fr) ++ lr22) (pts' := []) (eqs := [(.bool (decide (((i : Nat) : Int) < (((inS 1 (As X) 0).length : Nat) : Int))), .bool true)]) (by kernel_rfl) ⟨(ov_t (by omega)), trivial⟩ (AllC_nil _) ?_
    refine PO.mk ?_
    change WP _ _ (CA Try.f17 [1, 1, 1, 0, 1, 0, 0, 1]) _ _ _
    refine fk_cut ([(3, .slice p2 i c2), (13, .slice p13 (((inS 1 (As X) 0).length)) c14), (14, .int .i64 ((((inS 1 (As X) 0).length : Nat) : Int))), (15, .int .i64 (((i : Nat) : Int))), (16, .bool true)] : Fr) (by kernel_rfl) (fun a => WP _ _ _ _ a _) (fun lr28 => ?_)
    refine gi_seq (x := CA Try.f17 [1, 1, 1, 0, 1, 0, 0, 1, 0]) (y := CA Try.f17 [1, 1, 1, 0, 1, 0, 0, 1, 1]) (by kernel_rfl) ?_
    refine gi_cnd (x := (Operand.tmp 16)) (s := CA Try.f17 [1, 1, 1, 0, 1, 0, 0, 1, 0, 0]) (t := CA Try.f17 [1, 1, 1, 0, 1, 0, 0, 1, 0, 1]) true (by kernel_rfl) (by kernel_rfl) ?_
    change WP _ _ (CA Try.f17 [1, 1, 1, 0, 1, 0, 0, 1, 0, 0]) _ _ _
    refine gi_skp (by kernel_rfl) ?_
    change WP _ _ (CA Try.f17 [1, 1, 1, 0, 1, 0, 0, 1, 1]) _ _ _
    refine gi_seq (x := CA Try.f17 [1, 1, 1, 0, 1, 0, 0, 1, 1, 0]) (y := CA Try.f17 [1, 1, 1, 0, 1, 0, 0, 1, 1, 1]) (by kernel_rfl) ?_
    refine gi_blk (id := 1) (x := CA Try.f17 [1, 1, 1, 0, 1, 0, 0, 1, 1, 0, 0]) (by kernel_rfl) ?_
    refine gi_seq (x := CA Try.f17 [1, 1, 1, 0, 1, 0, 0, 1, 1, 0, 0, 0]) (y := CA Try.f17 [1, 1, 1, 0, 1, 0, 0, 1, 1, 0, 0, 1]) (by kernel_rfl) ?_
    refine gi_pln (id := 6) (ops := RA Try.f17 [1, 1, 1, 0, 1, 0, 0, 1, 1, 0, 0, 0]) [0, 1, 2, 3] (by kernel_rfl) (by kernel_rfl) (by kernel_rfl) ?_
    obtain ⟨b29, hp30⟩ := sl_ptr0 (j := 1) h26 rfl (by omega)
    refine plain_law (i := 0) 17 (.pointer (some ⟨b29, i * 2, none⟩)) (by kernel_rfl) (law_indexSlP (o := opA (RA Try.f17 [1, 1, 1, 0, 1, 0, 0, 1, 1, 0, 0, 0]) 0) (x := (Operand.tmp 13)) (i := (Operand.tmp 15)) (p := p13) (b := b29) (off := 0) (z := (((i : Nat) : Int))) (len := (((inS 1 (As X) 0).length))) (cap := c14) (by kernel_rfl) Try.underlying88 2 (by kernel_rfl) i (by kernel_rfl) hp30 (by kernel_rfl) (by omega) (by omega) (i * 2) (by omega) _) ?_
    have h31 : sat g w25 [Sl 79 2 p13 (((inS 1 (As X) 0).length)) c14 (fl eRf (inS 1 (As X) 0)), Sl 28 3 p2 i c2 (fl eO (((inS 1 (As X) 0).take i).map (fun r : Nat × Int => ((1, (r.1 : Int), r.2) : Ky)))), Cl b [.pointer (some ⟨s1, 0, none⟩), .map (some m2)] 63, Tb s1 n (As X), Mp m2 E3, R] := sat_sel [1, 0, 2, 3, 4, 5] rfl h26
    have hl32 := fl_n eRf_ok (by decide) h31
    obtain ⟨x33, hx34⟩ : ∃ x, (inS 1 (As X) 0)[i]? = some x := ⟨_, List.getElem?_eq_getElem (by rw [hl32]; omega)⟩
    refine plain_batch (rest := [2, 3]) [⟨1, [.int .i64 (((x33.1 : Nat) : Int)), .int .u32 x33.2], none⟩] (l' := ([(18, .agg #[.int .i64 (((x33.1 : Nat) : Int)), .int .u32 x33.2]), (17, .pointer (some ⟨b29, i * 2, none⟩)), (3, .slice p2 i c2), (13, .slice p13 (((inS 1 (As X) 0).length)) c14), (14, .int .i64 ((((inS 1 (As X) 0).length : Nat) : Int))), (15, .int .i64 (((i : Nat) : Int))), (16, .bool true)] : Fr) ++ lr28) (pts' := [(1, ⟨b29, i * 2, none⟩, .int .i64 (((x33.1 : Nat) : Int))), (1, ⟨b29, i * 2 + 1, none⟩, .int .u32 x33.2)]) (eqs := []) (by kernel_rfl) trivial (AllC_cons (gv_cell (j := 0) h31 rfl (gv_sl _ _ _) hp30 (fl_get eRf_ok (j := 0) (v := .int .i64 (((x33.1 : Nat) : Int))) hx34 rfl) (i * 2) (by omega)) (AllC_cons (gv_cell (j := 0) h31 rfl (gv_sl _ _ _) hp30 (fl_get eRf_ok (j := 1) (v := .int .u32 x33.2) hx34 rfl) (i * 2 + 1) (by omega)) (AllC_nil _))) ?_
    refine plain_act (i := 2) (by kernel_rfl) ?_
    refine an_new (d := 5) (fun xb_ => .pointer (some ⟨xb_, 0, none⟩)) (fun xb_ => Obj.cells [.int .i64 0, .int .u32 0].toArray 79 (0, 0)) (fun xb_ => by kernel_rfl) (by kernel_rfl) rfl h31 ?_
    intro r35 w36 (h37 : sat g w36 [Cl r35 [.int .i64 0, .int .u32 0] 79, Sl 79 2 p13 (((inS 1 (As X) 0).length)) c14 (fl eRf (inS 1 (As X) 0)), Sl 28 3 p2 i c2 (fl eO (((inS 1 (As X) 0).take i).map (fun r : Nat × Int => ((1, (r.1 : Int), r.2) : Ky)))), Cl b [.pointer (some ⟨s1, 0, none⟩), .map (some m2)] 63, Tb s1 n (As X), Mp m2 E3, R])
    refine plain_act (i := 3) (by kernel_rfl) ?_
    refine an_store [(0, .int .i64 (((x33.1 : Nat) : Int))), (1, .int .u32 x33.2)] (cs' := [.int .i64 (((x33.1 : Nat) : Int)), .int .u32 x33.2]) (by kernel_rfl) (by kernel_rfl) (allq ⟨⟨by simp, rfl⟩, ⟨by simp, rfl⟩, trivial⟩) rfl h37 ?_
    intro w38 (h39 : sat g w38 [Cl r35 [.int .i64 (((x33.1 : Nat) : Int)), .int .u32 x33.2] 79, Sl 79 2 p13 (((inS 1 (As X) 0).length)) c14 (fl eRf (inS 1 (As X) 0)), Sl 28 3 p2 i c2 (fl eO (((inS 1 (As X) 0).take i).map (fun r : Nat × Int => ((1, (r.1 : Int), r.2) : Ky)))), Cl b [.pointer (some ⟨s1, 0, none⟩), .map (some m2)] 63, Tb s1 n (As X), Mp m2 E3, R])
    refine PO.mk ?_
    change WP _ _ (CA Try.f17 [1, 1, 1, 0, 1, 0, 0, 1, 1, 0, 0, 1]) _ _ _
    refine fk_cut ([(3, .slice p2 i c2), (5, .pointer (some ⟨r35, 0, none⟩)), (13, .slice p13 (((inS 1 (As X) 0).length)) c14), (14, .int .i64 ((((inS 1 (As X) 0).length : Nat) : Int))), (15, .int .i64 (((i : Nat) : Int))), (16, .bool true)] : Fr) (by kernel_rfl) (fun a => WP _ _ _ _ a _) (fun lr40 => ?_)
    refine gi_pln (id := 7) (ops := RA Try.f17 [1, 1, 1, 0, 1, 0, 0, 1, 1, 0, 0, 1]) [0, 1, 2, 3, 4, 5] (by kernel_rfl) (by kernel_rfl) (by kernel_rfl) ?_
    refine plain_batch (rest := [2, 3, 4, 5]) [⟨0, [], none⟩, ⟨1, [.int .i64 (((x33.1 : Nat) : Int)), .int .u32 x33.2], none⟩] (l' := ([(20, .agg #[.int .i64 (((x33.1 : Nat) : Int)), .int .u32 x33.2]), (19, .slice p2 i c2), (3, .slice p2 i c2), (5, .pointer (some ⟨r35, 0, none⟩)), (13, .slice p13 (((inS 1 (As X) 0).length)) c14), (14, .int .i64 ((((inS 1 (As X) 0).length : Nat) : Int))), (15, .int .i64 (((i : Nat) : Int))), (16, .bool true)] : Fr) ++ lr40) (pts' := [(1, ⟨r35, 0, none⟩, .int .i64 (((x33.1 : Nat) : Int))), (1, ⟨r35, 1, none⟩, .int .u32 x33.2)]) (eqs := []) (by kernel_rfl) trivial (AllC_cons (sat_cell h39 0 rfl rfl) (AllC_cons (sat_cell h39 0 rfl rfl) (AllC_nil _))) ?_
    refine plain_act (i := 2) (by kernel_rfl) ?_
    refine an_call (d := some 21) (f := 35) (args := [.agg #[.int .i64 (((x33.1 : Nat) : Int)), .int .u32 x33.2]]) (by kernel_rfl) Try.call35 (ffile (((x33.1 : Nat) : Int)) x33.2) (F := [Cl r35 [.int .i64 (((x33.1 : Nat) : Int)), .int .u32 x33.2] 79, Sl 79 2 p13 (((inS 1 (As X) 0).length)) c14 (fl eRf (inS 1 (As X) 0)), Sl 28 3 p2 i c2 (fl eO (((inS 1 (As X) 0).take i).map (fun r : Nat × Int => ((1, (r.1 : Int), r.2) : Ky)))), Cl b [.pointer (some ⟨s1, 0, none⟩), .map (some m2)] 63, Tb s1 n (As X), Mp m2 E3, R]) h39 ?_
    rintro v K w41 (⟨rfl, rfl⟩) h42
    refine ⟨_, rfl, ?_⟩
    have h43 : sat g w41 [Cl r35 [.int .i64 (((x33.1 : Nat) : Int)), .int .u32 x33.2] 79, Sl 79 2 p13 (((inS 1 (As X) 0).length)) c14 (fl eRf (inS 1 (As X) 0)), Sl 28 3 p2 i c2 (fl eO (((inS 1 (As X) 0).take i).map (fun r : Nat × Int => ((1, (r.1 : Int), r.2) : Ky)))), Cl b [.pointer (some ⟨s1, 0, none⟩), .map (some m2)] 63, Tb s1 n (As X), Mp m2 E3, R] := h42
    refine plain_act (i := 3) (by kernel_rfl) ?_
    refine an_new (d := 22) (fun xb_ => .slice (some ⟨xb_, 0, none⟩) 1 1) (fun xb_ => Obj.cells [.int .i64 1, .int .i64 (((x33.1 : Nat) : Int)), .int .u32 x33.2].toArray 28 (0, 0)) (fun xb_ => by kernel_rfl) (by kernel_rfl) rfl h43 ?_
    intro r44 w45 (h46 : sat g w45 [Cl r44 [.int .i64 1, .int .i64 (((x33.1 : Nat) : Int)), .int .u32 x33.2] 28, Cl r35 [.int .i64 (((x33.1 : Nat) : Int)), .int .u32 x33.2] 79, Sl 79 2 p13 (((inS 1 (As X) 0).length)) c14 (fl eRf (inS 1 (As X) 0)), Sl 28 3 p2 i c2 (fl eO (((inS 1 (As X) 0).take i).map (fun r : Nat × Int => ((1, (r.1 : Int), r.2) : Ky)))), Cl b [.pointer (some ⟨s1, 0, none⟩), .map (some m2)] 63, Tb s1 n (As X), Mp m2 E3, R])
    have h47 : sat g w45 [Sl 28 3 p2 i c2 (fl eO (((inS 1 (As X) 0).take i).map (fun r : Nat × Int => ((1, (r.1 : Int), r.2) : Ky)))), Cl r44 [.int .i64 1, .int .i64 (((x33.1 : Nat) : Int)), .int .u32 x33.2] 28, Cl r35 [.int .i64 (((x33.1 : Nat) : Int)), .int .u32 x33.2] 79, Sl 79 2 p13 (((inS 1 (As X) 0).length)) c14 (fl eRf (inS 1 (As X) 0)), Cl b [.pointer (some ⟨s1, 0, none⟩), .map (some m2)] 63, Tb s1 n (As X), Mp m2 E3, R] := sat_sel [3, 0, 1, 2, 4, 5, 6, 7] rfl h46
    refine plain_act (i := 4) (by kernel_rfl) ?_
    refine an_append (d := 23) (sz := 3) (s := (Operand.tmp 19)) (x := (Operand.tmp 22)) (z := .agg #[.int .i64 0, .int .i64 0, .int .u32 0]) (p := p2) (m := i) (c := c2) (k := 1) (c2 := 1) (a := ⟨r44, 0, none⟩) (by_ := 24) (by kernel_rfl) (by kernel_rfl) rfl Try.underlying42 (by kernel_rfl) rfl (by decide) (by kernel_rfl) (by kernel_rfl) h47 (fl eO [(1, ((x33.1 : Nat) : Int), x33.2)]) rfl (fun j u hj => by rw [add_off]; exact sat_cell h47 1 rfl (by rw [Nat.zero_add]; exact hj)) (fl_one eO_ok _) (by omega) (by omega) (i + 1) (by omega) ?_
    intro p48 cap49 w50 (h51 : sat g w50 [Sl 28 3 p48 (i + 1) cap49 ((fl eO (((inS 1 (As X) 0).take i).map (fun r : Nat × Int => ((1, (r.1 : Int), r.2) : Ky)))) ++ (fl eO [(1, ((x33.1 : Nat) : Int), x33.2)])), Cl r44 [.int .i64 1, .int .i64 (((x33.1 : Nat) : Int)), .int .u32 x33.2] 28, Cl r35 [.int .i64 (((x33.1 : Nat) : Int)), .int .u32 x33.2] 79, Sl 79 2 p13 (((inS 1 (As X) 0).length)) c14 (fl eRf (inS 1 (As X) 0)), Cl b [.pointer (some ⟨s1, 0, none⟩), .map (some m2)] 63, Tb s1 n (As X), Mp m2 E3, R])
    have h52 : sat g w50 [Sl 28 3 p48 (i + 1) cap49 (fl eO ((((inS 1 (As X) 0).take i).map (fun r : Nat × Int => ((1, (r.1 : Int), r.2) : Ky))) ++ [(1, ((x33.1 : Nat) : Int), x33.2)])), Cl r44 [.int .i64 1, .int .i64 (((x33.1 : Nat) : Int)), .int .u32 x33.2] 28, Cl r35 [.int .i64 (((x33.1 : Nat) : Int)), .int .u32 x33.2] 79, Sl 79 2 p13 (((inS 1 (As X) 0).length)) c14 (fl eRf (inS 1 (As X) 0)), Cl b [.pointer (some ⟨s1, 0, none⟩), .map (some m2)] 63, Tb s1 n (As X), Mp m2 E3, R] := sat_imp h51 (fun _ hh => by rw [fl_app]; exact hh)
    obtain ⟨hn53, hn54⟩ := sl_le h52
    refine plain_batch (rest := []) [⟨5, [], none⟩] (l' := ([(3, .slice p48 (i + 1) cap49), (23, .slice p48 (i + 1) cap49), (22, .slice (some ⟨r44, 0, none⟩) 1 1), (21, .agg #[.int .i64 1, .int .i64 (((x33.1 : Nat) : Int)), .int .u32 x33.2]), (20, .agg #[.int .i64 (((x33.1 : Nat) : Int)), .int .u32 x33.2]), (19, .slice p2 i c2), (3, .slice p2 i c2), (5, .pointer (some ⟨r35, 0, none⟩)), (13, .slice p13 (((inS 1 (As X) 0).length)) c14), (14, .int .i64 ((((inS 1 (As X) 0).length : Nat) : Int))), (15, .int .i64 (((i : Nat) : Int))), (16, .bool true)] : Fr) ++ lr40) (pts' := []) (eqs := []) (by kernel_rfl) trivial (AllC_nil _) ?_
    refine PO.mk ?_
    change WP _ _ (CA Try.f17 [1, 1, 1, 0, 1, 0, 0, 1, 1, 1]) _ _ _
    refine fk_cut ([(3, .slice p48 (i + 1) cap49), (5, .pointer (some ⟨r35, 0, none⟩)), (13, .slice p13 (((inS 1 (As X) 0).length)) c14), (14, .int .i64 ((((inS 1 (As X) 0).length : Nat) : Int))), (15, .int .i64 (((i : Nat) : Int))), (16, .bool true)] : Fr) (by kernel_rfl) (fun a => WP _ _ _ _ a _) (fun lr55 => ?_)
    refine gi_pln (id := 8) (ops := RA Try.f17 [1, 1, 1, 0, 1, 0, 0, 1, 1, 1]) [0, 1] (by kernel_rfl) (by kernel_rfl) (by kernel_rfl) ?_
    refine plain_batch (rest := []) [⟨0, [], some (.int .i64 (((i : Nat) : Int) + 1))⟩, ⟨1, [], none⟩] (l' := ([(15, .int .i64 (((i : Nat) : Int) + 1)), (24, .int .i64 (((i : Nat) : Int) + 1)), (3, .slice p48 (i + 1) cap49), (5, .pointer (some ⟨r35, 0, none⟩)), (13, .slice p13 (((inS 1 (As X) 0).length)) c14), (14, .int .i64 ((((inS 1 (As X) 0).length : Nat) : Int))), (15, .int .i64 (((i : Nat) : Int))), (16, .bool true)] : Fr) ++ lr55) (pts' := []) (eqs := [(.int .i64 (IntKind.wrap .i64 ((((i : Nat) : Int)) + 1)), .int .i64 (((i : Nat) : Int) + 1))]) (by kernel_rfl) ⟨(ov_i64 (by omega) (by omega) (by omega)), trivial⟩ (AllC_nil _) ?_
    refine PO.mk ?_
    have h56 : sat g w50 [Sl 28 3 p48 (i + 1) cap49 (fl eO (((inS 1 (As X) 0).take (i + 1)).map (fun r : Nat × Int => ((1, (r.1 : Int), r.2) : Ky)))), Cl r44 [.int .i64 1, .int .i64 (((x33.1 : Nat) : Int)), .int .u32 x33.2] 28, Cl r35 [.int .i64 (((x33.1 : Nat) : Int)), .int .u32 x33.2] 79, Sl 79 2 p13 (((inS 1 (As X) 0).length)) c14 (fl eRf (inS 1 (As X) 0)), Cl b [.pointer (some ⟨s1, 0, none⟩), .map (some m2)] 63, Tb s1 n (As X), Mp m2 E3, R] := sat_imp h52 (fun _ hh_ => by rw [show (((((inS 1 (As X) 0).take i).map (fun r : Nat × Int => ((1, (r.1 : Int), r.2) : Ky))) ++ [(1, ((x33.1 : Nat) : Int), x33.2)]) : List Ky) = (((inS 1 (As X) 0).take (i + 1)).map (fun r : Nat × Int => ((1, (r.1 : Int), r.2) : Ky))) from tk_map (fun r : Nat × Int => ((1, (r.1 : Int), r.2) : Ky)) hx34] at hh_; exact hh_)
    have h57 : sat g w50 [Sl 28 3 p48 (i + 1) cap49 (fl eO (((inS 1 (As X) 0).take (i + 1)).map (fun r : Nat × Int => ((1, (r.1 : Int), r.2) : Ky)))), Sl 79 2 p13 (((inS 1 (As X) 0).length)) c14 (fl eRf (inS 1 (As X) 0)), Cl b [.pointer (some ⟨s1, 0, none⟩), .map (some m2)] 63, Tb s1 n (As X), Mp m2 E3, R, Cl r44 [.int .i64 1, .int .i64 (((x33.1 : Nat) : Int)), .int .u32 x33.2] 28, Cl r35 [.int .i64 (((x33.1 : Nat) : Int)), .int .u32 x33.2] 79] := sat_sel [0, 3, 4, 5, 6, 7, 1, 2] rfl h56
    have h58 : sat g w50 [Sl 28 3 p48 (i + 1) cap49 (fl eO (((inS 1 (As X) 0).take (i + 1)).map (fun r : Nat × Int => ((1, (r.1 : Int), r.2) : Ky)))), Sl 79 2 p13 (((inS 1 (As X) 0).length)) c14 (fl eRf (inS 1 (As X) 0)), Cl b [.pointer (some ⟨s1, 0, none⟩), .map (some m2)] 63, Tb s1 n (As X), Mp m2 E3, R] := sat_sel [0, 1, 2, 3, 4, 5] rfl h57
    change ∃ n', n' < _ ∧ _
    refine ⟨(((inS 1 (As X) 0).length) - (i + 1)), by omega, (i + 1), p48, cap49, _, rfl, (by omega), (mk_live [(3, .slice p48 (i + 1) cap49), (13, .slice p13 (((inS 1 (As X) 0).length)) c14), (14, .int .i64 ((((inS 1 (As X) 0).length : Nat) : Int))), (15, .int .i64 ((((i + 1) : Nat) : Int)))] ⟨rfl, rfl, rfl, (ov_int (by omega)), trivial⟩), h58⟩
  ·
    refine plain_batch (rest := []) [⟨0, [], some (.bool false)⟩] (l' := ([(16, .bool false), (3, .slice p2 i c2), (13, .slice p13 (((inS 1 (As X) 0).length)) c14), (14, .int .i64 ((((inS 1 (As X) 0).length : Nat) : Int))), (15, .int .i64 (((i : Nat) : Int)))] : Fr) ++ lr22) (pts' := []) (eqs := [(.bool (decide (((i : Nat) : Int) < (((inS 1 (As X) 0).length : Nat) : Int))), .bool false)]) (by kernel_rfl) ⟨(ov_f (by omega)), trivial⟩ (AllC_nil _) ?_
    refine PO.mk ?_
    change WP _ _ (CA Try.f17 [1, 1, 1, 0, 1, 0, 0, 1]) _ _ _
    refine fk_cut ([(3, .slice p2 i c2), (13, .slice p13 (((inS 1 (As X) 0).length)) c14), (14, .int .i64 ((((inS 1 (As X) 0).length : Nat) : Int))), (15, .int .i64 (((i : Nat) : Int))), (16, .bool false)] : Fr) (by kernel_rfl) (fun a => WP _ _ _ _ a _) (fun lr59 => ?_)
    refine gi_seq (x := CA Try.f17 [1, 1, 1, 0, 1, 0, 0, 1, 0]) (y := CA Try.f17 [1, 1, 1, 0, 1, 0, 0, 1, 1]) (by kernel_rfl) ?_
    refine gi_cnd (x := (Operand.tmp 16)) (s := CA Try.f17 [1, 1, 1, 0, 1, 0, 0, 1, 0, 0]) (t := CA Try.f17 [1, 1, 1, 0, 1, 0, 0, 1, 0, 1]) false (by kernel_rfl) (by kernel_rfl) ?_
    change WP _ _ (CA Try.f17 [1, 1, 1, 0, 1, 0, 0, 1, 0, 1]) _ _ _
    refine gi_ext (id := 0) (by kernel_rfl) ?_
    change WP _ _ (CA Try.f17 [1, 1, 1, 1]) _ _ _
    refine gi_seq (x := CA Try.f17 [1, 1, 1, 1, 0]) (y := CA Try.f17 [1, 1, 1, 1, 1]) (by kernel_rfl) ?_
    refine gi_pln (id := 9) (ops := RA Try.f17 [1, 1, 1, 1, 0]) [0, 1] (by kernel_rfl) (by kernel_rfl) (by kernel_rfl) ?_
    refine plain_batch (rest := []) [⟨0, [], none⟩, ⟨1, [], none⟩] (l' := ([(2, .slice p2 i c2), (25, .slice p2 i c2), (3, .slice p2 i c2), (13, .slice p13 (((inS 1 (As X) 0).length)) c14), (14, .int .i64 ((((inS 1 (As X) 0).length : Nat) : Int))), (15, .int .i64 (((i : Nat) : Int))), (16, .bool false)] : Fr) ++ lr59) (pts' := []) (eqs := []) (by kernel_rfl) trivial (AllC_nil _) ?_
    refine PO.mk ?_
    change WP _ _ (CA Try.f17 [1, 1, 1, 1, 1]) _ _ _
    refine fk_cut ([(2, .slice p2 i c2), (3, .slice p2 i c2), (13, .slice p13 (((inS 1 (As X) 0).length)) c14), (14, .int .i64 ((((inS 1 (As X) 0).length : Nat) : Int))), (15, .int .i64 (((i : Nat) : Int))), (16, .bool false)] : Fr) (by kernel_rfl) (fun a => WP _ _ _ _ a _) (fun lr60 => ?_)
    refine gi_rt (by kernel_rfl) ?_
    repeat (first | simp only [Exit.inBlock] | simp only [Exit.then])
    have h61 : sat g w25 [Sl 28 3 p2 i c2 (fl eO (allX X)), Sl 79 2 p13 (((inS 1 (As X) 0).length)) c14 (fl eRf (inS 1 (As X) 0)), Cl b [.pointer (some ⟨s1, 0, none⟩), .map (some m2)] 63, Tb s1 n (As X), Mp m2 E3, R] := sat_imp h26 (fun _ hh_ => by rw [show ((((inS 1 (As X) 0).take i).map (fun r : Nat × Int => ((1, (r.1 : Int), r.2) : Ky))) : List Ky) = (allX X) from (tk_all_map _ (by omega))] at hh_; exact hh_)
    have hi_ : i = ((inS 1 (As X) 0).length) := by omega
    have h62 : sat g w25 [Sl 28 3 p2 (((inS 1 (As X) 0).length)) c2 (fl eO (allX X)), Sl 79 2 p13 (((inS 1 (As X) 0).length)) c14 (fl eRf (inS 1 (As X) 0)), Cl b [.pointer (some ⟨s1, 0, none⟩), .map (some m2)] 63, Tb s1 n (As X), Mp m2 E3, R] := sat_imp h61 (fun _ hh_ => by rw [hi_] at hh_; exact hh_)
    have h63 : sat g w25 [Cl b [.pointer (some ⟨s1, 0, none⟩), .map (some m2)] 63, Tb s1 n (As X), Mp m2 E3, Sl 28 3 p2 (((inS 1 (As X) 0).length)) c2 (fl eO (allX X)), Sl 79 2 p13 (((inS 1 (As X) 0).length)) c14 (fl eRf (inS 1 (As X) 0)), R] := sat_sel [2, 3, 4, 0, 1, 5] rfl h62
    have h64 : sat g w25 [Fd b n X, Sl 28 3 p2 (((inS 1 (As X) 0).length)) c2 (fl eO (allX X)), Sl 79 2 p13 (((inS 1 (As X) 0).length)) c14 (fl eRf (inS 1 (As X) 0)), R] := fd_close hN4.1 (by omega) rfl rfl h63
    have h65 : sat g w25 [Fd b n X, Sl 28 3 p2 (((inS 1 (As X) 0).length)) c2 (fl eO (allX X)), R] := sat_sel [0, 1, 3] rfl h64
    refine hi_out [] (.slice p2 i c2) [] (by kernel_rfl) (by intro q hq; cases hq) ?_
    exact ⟨.slice p2 i c2, [Fd b n X, Sl 28 3 p2 (((inS 1 (As X) 0).length)) c2 (fl eO (allX X))], rfl, ⟨p2, c2, by rw [hi_], rfl⟩, h65⟩

end Go.Proofs.Ytcgpkhdocakloaa
