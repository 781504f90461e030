/- Walks, printed by my generator gen5.py. -/
import Derived.Test.YtjedglbadkbneaaDoorA4
namespace Go.Proofs.YtjedglbadkbneaaDoor
set_option maxHeartbeats 4000000 in
theorem works_ht (wo : World) (hg : Lett wo) : HT Tryd.prog 11 [] [Old wo] (fun v K => v = Value.bool true ∧ K = [Old wo]) := by
  refine hi_in 88 ([] : Fr) Tryd.func11 (by kernel_rfl) Tryd.ntmps11 rfl rfl ?_
  intro g w0 R h0
  refine gi_seq (x := CA Tryd.f11 [0]) (y := CA Tryd.f11 [1]) (by kernel_rfl) ?_
  refine gi_pln (id := 0) (ops := RA Tryd.f11 [0]) [0] (by kernel_rfl) (by kernel_rfl) (by kernel_rfl) ?_
  refine plain_batch (rest := []) [⟨0, [], none⟩] (l' := ([(0, Value.bool false)] : Fr)) (pts' := []) (eqs := []) (by kernel_rfl) trivial (AllC_nil _) ?_
  refine PO.mk ?_
  change WP _ _ (CA Tryd.f11 [1]) _ _ _
  refine fk_cut ([(0, Value.bool false)] : Fr) (by kernel_rfl) (fun a => WP _ _ _ _ a _) (fun lr1 => ?_)
  refine gi_seq (x := CA Tryd.f11 [1, 0]) (y := CA Tryd.f11 [1, 1]) (by kernel_rfl) ?_
  refine gi_pln (id := 1) (ops := RA Tryd.f11 [1, 0]) [0, 1] (by kernel_rfl) (by kernel_rfl) (by kernel_rfl) ?_
  refine plain_act (i := 0) (by kernel_rfl) ?_
  refine an_call (d := some 14) (f := 17) (args := []) (by kernel_rfl) Tryd.call17 (new_ht) (F := [Old wo, R]) h0 ?_
  rintro v K w3 (⟨b2, rfl, rfl⟩) h4
  refine ⟨_, rfl, ?_⟩
  have h5 : sat g w3 [Sr 52 b2 [], Old wo, R] := h4
  refine plain_batch (rest := []) [⟨1, [], none⟩] (l' := ([(1, Value.pointer (some ⟨b2, 0, none⟩)), (14, Value.pointer (some ⟨b2, 0, none⟩)), (0, Value.bool false)] : Fr) ++ lr1) (pts' := []) (eqs := []) (by kernel_rfl) trivial (AllC_nil _) ?_
  refine PO.mk ?_
  change WP _ _ (CA Tryd.f11 [1, 1]) _ _ _
  refine fk_cut ([(0, Value.bool false), (1, Value.pointer (some ⟨b2, 0, none⟩))] : Fr) (by kernel_rfl) (fun a => WP _ _ _ _ a _) (fun lr6 => ?_)
  refine gi_seq (x := CA Tryd.f11 [1, 1, 0]) (y := CA Tryd.f11 [1, 1, 1]) (by kernel_rfl) ?_
  refine gi_pln (id := 2) (ops := RA Tryd.f11 [1, 1, 0]) [0, 1, 2] (by kernel_rfl) (by kernel_rfl) (by kernel_rfl) ?_
  refine plain_batch (rest := [1, 2]) [⟨0, [], none⟩] (l' := ([(15, Value.pointer (some ⟨b2, 0, none⟩)), (0, Value.bool false), (1, Value.pointer (some ⟨b2, 0, none⟩))] : Fr) ++ lr6) (pts' := []) (eqs := []) (by kernel_rfl) trivial (AllC_nil _) ?_
  refine plain_act (i := 1) (by kernel_rfl) ?_
  refine an_call (d := some 16) (f := 18) (args := [Value.pointer (some ⟨b2, 0, none⟩), Value.string (St [108, 102])]) (by kernel_rfl) Tryd.call18 ((by have h_ := add_ht wo hg b2 [] [108, 102] (by decide); rw [show addE [] [108, 102] = 0 from by decide +kernel, show addL [] [108, 102] = [2, 3] from by decide +kernel] at h_; exact h_)) (F := [R]) h5 ?_
  rintro v K w7 (⟨rfl, rfl⟩) h8
  refine ⟨_, rfl, ?_⟩
  have h9 : sat g w7 [Sr 52 b2 [2, 3], Old wo, R] := h8
  refine plain_batch (rest := []) [⟨2, [], none⟩] (l' := ([(2, Value.int IntKind.i64 0), (16, Value.int IntKind.i64 0), (15, Value.pointer (some ⟨b2, 0, none⟩)), (0, Value.bool false), (1, Value.pointer (some ⟨b2, 0, none⟩))] : Fr) ++ lr6) (pts' := []) (eqs := []) (by kernel_rfl) trivial (AllC_nil _) ?_
  refine PO.mk ?_
  change WP _ _ (CA Tryd.f11 [1, 1, 1]) _ _ _
  refine fk_cut ([(0, Value.bool false), (1, Value.pointer (some ⟨b2, 0, none⟩)), (2, Value.int IntKind.i64 0)] : Fr) (by kernel_rfl) (fun a => WP _ _ _ _ a _) (fun lr10 => ?_)
  refine gi_seq (x := CA Tryd.f11 [1, 1, 1, 0]) (y := CA Tryd.f11 [1, 1, 1, 1]) (by kernel_rfl) ?_
  refine gi_pln (id := 3) (ops := RA Tryd.f11 [1, 1, 1, 0]) [0, 1, 2, 3, 4, 5] (by kernel_rfl) (by kernel_rfl) (by kernel_rfl) ?_
  refine plain_batch (rest := [1, 2, 3, 4, 5]) [⟨0, [], none⟩] (l' := ([(17, Value.pointer (some ⟨b2, 0, none⟩)), (0, Value.bool false), (1, Value.pointer (some ⟨b2, 0, none⟩)), (2, Value.int IntKind.i64 0)] : Fr) ++ lr10) (pts' := []) (eqs := []) (by kernel_rfl) trivial (AllC_nil _) ?_
  refine plain_act (i := 1) (by kernel_rfl) ?_
  refine an_call (d := some 18) (f := 20) (args := [Value.pointer (some ⟨b2, 0, none⟩), Value.int IntKind.i64 5]) (by kernel_rfl) Tryd.call20 ((by have h_ := peek_ht b2 [2, 3] 5; rw [show pk [2, 3] 5 = [2, 3] from by decide +kernel] at h_; exact h_)) (F := [Old wo, R]) h9 ?_
  rintro v K w13 (⟨p11, cap12, rfl, rfl⟩) h14
  refine ⟨_, rfl, ?_⟩
  have h15 : sat g w13 [Sl 3 1 p11 2 cap12 (fl eI [2, 3]), Sr 52 b2 [2, 3], Old wo, R] := h14
  obtain ⟨hn16, hn17⟩ := sl_le h15
  refine plain_batch (rest := [3, 4, 5]) [⟨2, [], none⟩] (l' := ([(19, Value.pointer (some ⟨b2, 0, none⟩)), (18, Value.slice p11 2 cap12), (17, Value.pointer (some ⟨b2, 0, none⟩)), (0, Value.bool false), (1, Value.pointer (some ⟨b2, 0, none⟩)), (2, Value.int IntKind.i64 0)] : Fr) ++ lr10) (pts' := []) (eqs := []) (by kernel_rfl) trivial (AllC_nil _) ?_
  have h18 : sat g w13 [Sr 52 b2 [2, 3], Sl 3 1 p11 2 cap12 (fl eI [2, 3]), Old wo, R] := sat_sel [1, 0, 2, 3] rfl h15
  refine plain_act (i := 3) (by kernel_rfl) ?_
  refine an_call (d := some 20) (f := 21) (args := [Value.pointer (some ⟨b2, 0, none⟩)]) (by kernel_rfl) Tryd.call21 (left_ht b2 [2, 3]) (F := [Sl 3 1 p11 2 cap12 (fl eI [2, 3]), Old wo, R]) h18 ?_
  rintro v K w19 (⟨rfl, rfl⟩) h20
  refine ⟨_, rfl, ?_⟩
  have h21 : sat g w19 [Sr 52 b2 [2, 3], Sl 3 1 p11 2 cap12 (fl eI [2, 3]), Old wo, R] := h20
  refine plain_batch (rest := []) [⟨4, [], none⟩, ⟨5, [], none⟩] (l' := ([(4, Value.int IntKind.i64 2), (3, Value.slice p11 2 cap12), (20, Value.int IntKind.i64 2), (19, Value.pointer (some ⟨b2, 0, none⟩)), (18, Value.slice p11 2 cap12), (17, Value.pointer (some ⟨b2, 0, none⟩)), (0, Value.bool false), (1, Value.pointer (some ⟨b2, 0, none⟩)), (2, Value.int IntKind.i64 0)] : Fr) ++ lr10) (pts' := []) (eqs := []) (by kernel_rfl) trivial (AllC_nil _) ?_
  refine PO.mk ?_
  change WP _ _ (CA Tryd.f11 [1, 1, 1, 1]) _ _ _
  refine fk_cut ([(0, Value.bool false), (1, Value.pointer (some ⟨b2, 0, none⟩)), (2, Value.int IntKind.i64 0), (3, Value.slice p11 2 cap12), (4, Value.int IntKind.i64 2)] : Fr) (by kernel_rfl) (fun a => WP _ _ _ _ a _) (fun lr22 => ?_)
  refine gi_seq (x := CA Tryd.f11 [1, 1, 1, 1, 0]) (y := CA Tryd.f11 [1, 1, 1, 1, 1]) (by kernel_rfl) ?_
  refine gi_pln (id := 4) (ops := RA Tryd.f11 [1, 1, 1, 1, 0]) [0, 1, 2] (by kernel_rfl) (by kernel_rfl) (by kernel_rfl) ?_
  refine plain_batch (rest := [1, 2]) [⟨0, [], none⟩] (l' := ([(21, Value.pointer (some ⟨b2, 0, none⟩)), (0, Value.bool false), (1, Value.pointer (some ⟨b2, 0, none⟩)), (2, Value.int IntKind.i64 0), (3, Value.slice p11 2 cap12), (4, Value.int IntKind.i64 2)] : Fr) ++ lr22) (pts' := []) (eqs := []) (by kernel_rfl) trivial (AllC_nil _) ?_
  refine plain_act (i := 1) (by kernel_rfl) ?_
  refine an_call (d := some 22) (f := 22) (args := [Value.pointer (some ⟨b2, 0, none⟩)]) (by kernel_rfl) Tryd.call22 ((by have h_ := next_ht b2 [2, 3]; rw [show ([2, 3] : List Int).headD 1 = 2 from by decide +kernel, show ([2, 3] : List Int).tail = [3] from by decide +kernel] at h_; exact h_)) (F := [Sl 3 1 p11 2 cap12 (fl eI [2, 3]), Old wo, R]) h21 ?_
  rintro v K w23 (⟨rfl, rfl⟩) h24
  refine ⟨_, rfl, ?_⟩
  have h25 : sat g w23 [Sr 52 b2 [3], Sl 3 1 p11 2 cap12 (fl eI [2, 3]), Old wo, R] := h24
  refine plain_batch (rest := []) [⟨2, [], none⟩] (l' := ([(5, Value.int IntKind.i64 2), (22, Value.int IntKind.i64 2), (21, Value.pointer (some ⟨b2, 0, none⟩)), (0, Value.bool false), (1, Value.pointer (some ⟨b2, 0, none⟩)), (2, Value.int IntKind.i64 0), (3, Value.slice p11 2 cap12), (4, Value.int IntKind.i64 2)] : Fr) ++ lr22) (pts' := []) (eqs := []) (by kernel_rfl) trivial (AllC_nil _) ?_
  refine PO.mk ?_
  change WP _ _ (CA Tryd.f11 [1, 1, 1, 1, 1]) _ _ _
  refine fk_cut ([(0, Value.bool false), (1, Value.pointer (some ⟨b2, 0, none⟩)), (2, Value.int IntKind.i64 0), (3, Value.slice p11 2 cap12), (4, Value.int IntKind.i64 2), (5, Value.int IntKind.i64 2)] : Fr) (by kernel_rfl) (fun a => WP _ _ _ _ a _) (fun lr26 => ?_)
  refine gi_seq (x := CA Tryd.f11 [1, 1, 1, 1, 1, 0]) (y := CA Tryd.f11 [1, 1, 1, 1, 1, 1]) (by kernel_rfl) ?_
  refine gi_pln (id := 5) (ops := RA Tryd.f11 [1, 1, 1, 1, 1, 0]) [0, 1, 2] (by kernel_rfl) (by kernel_rfl) (by kernel_rfl) ?_
  refine plain_batch (rest := [1, 2]) [⟨0, [], none⟩] (l' := ([(23, Value.pointer (some ⟨b2, 0, none⟩)), (0, Value.bool false), (1, Value.pointer (some ⟨b2, 0, none⟩)), (2, Value.int IntKind.i64 0), (3, Value.slice p11 2 cap12), (4, Value.int IntKind.i64 2), (5, Value.int IntKind.i64 2)] : Fr) ++ lr26) (pts' := []) (eqs := []) (by kernel_rfl) trivial (AllC_nil _) ?_
  have h27 : sat g w23 [Sr 52 b2 [3], Old wo, Sl 3 1 p11 2 cap12 (fl eI [2, 3]), R] := sat_sel [0, 2, 1, 3] rfl h25
  refine plain_act (i := 1) (by kernel_rfl) ?_
  refine an_call (d := some 24) (f := 18) (args := [Value.pointer (some ⟨b2, 0, none⟩), Value.string (St [111])]) (by kernel_rfl) Tryd.call18 ((by have h_ := add_ht wo hg b2 [3] [111] (by decide); rw [show addE [3] [111] = 0 from by decide +kernel, show addL [3] [111] = [3, 1] from by decide +kernel] at h_; exact h_)) (F := [Sl 3 1 p11 2 cap12 (fl eI [2, 3]), R]) h27 ?_
  rintro v K w28 (⟨rfl, rfl⟩) h29
  refine ⟨_, rfl, ?_⟩
  have h30 : sat g w28 [Sr 52 b2 [3, 1], Old wo, Sl 3 1 p11 2 cap12 (fl eI [2, 3]), R] := h29
  refine plain_batch (rest := []) [⟨2, [], none⟩] (l' := ([(6, Value.int IntKind.i64 0), (24, Value.int IntKind.i64 0), (23, Value.pointer (some ⟨b2, 0, none⟩)), (0, Value.bool false), (1, Value.pointer (some ⟨b2, 0, none⟩)), (2, Value.int IntKind.i64 0), (3, Value.slice p11 2 cap12), (4, Value.int IntKind.i64 2), (5, Value.int IntKind.i64 2)] : Fr) ++ lr26) (pts' := []) (eqs := []) (by kernel_rfl) trivial (AllC_nil _) ?_
  refine PO.mk ?_
  change WP _ _ (CA Tryd.f11 [1, 1, 1, 1, 1, 1]) _ _ _
  refine fk_cut ([(0, Value.bool false), (1, Value.pointer (some ⟨b2, 0, none⟩)), (2, Value.int IntKind.i64 0), (3, Value.slice p11 2 cap12), (4, Value.int IntKind.i64 2), (5, Value.int IntKind.i64 2), (6, Value.int IntKind.i64 0)] : Fr) (by kernel_rfl) (fun a => WP _ _ _ _ a _) (fun lr31 => ?_)
  refine gi_seq (x := CA Tryd.f11 [1, 1, 1, 1, 1, 1, 0]) (y := CA Tryd.f11 [1, 1, 1, 1, 1, 1, 1]) (by kernel_rfl) ?_
  refine gi_pln (id := 6) (ops := RA Tryd.f11 [1, 1, 1, 1, 1, 1, 0]) [0, 1, 2, 3, 4, 5, 6, 7, 8] (by kernel_rfl) (by kernel_rfl) (by kernel_rfl) ?_
  refine plain_batch (rest := [1, 2, 3, 4, 5, 6, 7, 8]) [⟨0, [], none⟩] (l' := ([(25, Value.pointer (some ⟨b2, 0, none⟩)), (0, Value.bool false), (1, Value.pointer (some ⟨b2, 0, none⟩)), (2, Value.int IntKind.i64 0), (3, Value.slice p11 2 cap12), (4, Value.int IntKind.i64 2), (5, Value.int IntKind.i64 2), (6, Value.int IntKind.i64 0)] : Fr) ++ lr31) (pts' := []) (eqs := []) (by kernel_rfl) trivial (AllC_nil _) ?_
  refine plain_act (i := 1) (by kernel_rfl) ?_
  refine an_call (d := some 26) (f := 22) (args := [Value.pointer (some ⟨b2, 0, none⟩)]) (by kernel_rfl) Tryd.call22 ((by have h_ := next_ht b2 [3, 1]; rw [show ([3, 1] : List Int).headD 1 = 3 from by decide +kernel, show ([3, 1] : List Int).tail = [1] from by decide +kernel] at h_; exact h_)) (F := [Old wo, Sl 3 1 p11 2 cap12 (fl eI [2, 3]), R]) h30 ?_
  rintro v K w32 (⟨rfl, rfl⟩) h33
  refine ⟨_, rfl, ?_⟩
  have h34 : sat g w32 [Sr 52 b2 [1], Old wo, Sl 3 1 p11 2 cap12 (fl eI [2, 3]), R] := h33
  refine plain_batch (rest := [3, 4, 5, 6, 7, 8]) [⟨2, [], none⟩] (l' := ([(27, Value.pointer (some ⟨b2, 0, none⟩)), (26, Value.int IntKind.i64 3), (25, Value.pointer (some ⟨b2, 0, none⟩)), (0, Value.bool false), (1, Value.pointer (some ⟨b2, 0, none⟩)), (2, Value.int IntKind.i64 0), (3, Value.slice p11 2 cap12), (4, Value.int IntKind.i64 2), (5, Value.int IntKind.i64 2), (6, Value.int IntKind.i64 0)] : Fr) ++ lr31) (pts' := []) (eqs := []) (by kernel_rfl) trivial (AllC_nil _) ?_
  refine plain_act (i := 3) (by kernel_rfl) ?_
  refine an_call (d := some 28) (f := 22) (args := [Value.pointer (some ⟨b2, 0, none⟩)]) (by kernel_rfl) Tryd.call22 ((by have h_ := next_ht b2 [1]; rw [show ([1] : List Int).headD 1 = 1 from by decide +kernel, show ([1] : List Int).tail = [] from by decide +kernel] at h_; exact h_)) (F := [Old wo, Sl 3 1 p11 2 cap12 (fl eI [2, 3]), R]) h34 ?_
  rintro v K w35 (⟨rfl, rfl⟩) h36
  refine ⟨_, rfl, ?_⟩
  have h37 : sat g w35 [Sr 52 b2 [], Old wo, Sl 3 1 p11 2 cap12 (fl eI [2, 3]), R] := h36
  refine plain_batch (rest := [5, 6, 7, 8]) [⟨4, [], none⟩] (l' := ([(29, Value.pointer (some ⟨b2, 0, none⟩)), (28, Value.int IntKind.i64 1), (27, Value.pointer (some ⟨b2, 0, none⟩)), (26, Value.int IntKind.i64 3), (25, Value.pointer (some ⟨b2, 0, none⟩)), (0, Value.bool false), (1, Value.pointer (some ⟨b2, 0, none⟩)), (2, Value.int IntKind.i64 0), (3, Value.slice p11 2 cap12), (4, Value.int IntKind.i64 2), (5, Value.int IntKind.i64 2), (6, Value.int IntKind.i64 0)] : Fr) ++ lr31) (pts' := []) (eqs := []) (by kernel_rfl) trivial (AllC_nil _) ?_
  refine plain_act (i := 5) (by kernel_rfl) ?_
  refine an_call (d := some 30) (f := 22) (args := [Value.pointer (some ⟨b2, 0, none⟩)]) (by kernel_rfl) Tryd.call22 ((by have h_ := next_ht b2 []; rw [show ([] : List Int).headD 1 = 1 from by decide +kernel, show ([] : List Int).tail = [] from by decide +kernel] at h_; exact h_)) (F := [Old wo, Sl 3 1 p11 2 cap12 (fl eI [2, 3]), R]) h37 ?_
  rintro v K w38 (⟨rfl, rfl⟩) h39
  refine ⟨_, rfl, ?_⟩
  have h40 : sat g w38 [Sr 52 b2 [], Old wo, Sl 3 1 p11 2 cap12 (fl eI [2, 3]), R] := h39
  refine plain_batch (rest := []) [⟨6, [], none⟩, ⟨7, [], none⟩, ⟨8, [], none⟩] (l' := ([(9, Value.int IntKind.i64 1), (8, Value.int IntKind.i64 1), (7, Value.int IntKind.i64 3), (30, Value.int IntKind.i64 1), (29, Value.pointer (some ⟨b2, 0, none⟩)), (28, Value.int IntKind.i64 1), (27, Value.pointer (some ⟨b2, 0, none⟩)), (26, Value.int IntKind.i64 3), (25, Value.pointer (some ⟨b2, 0, none⟩)), (0, Value.bool false), (1, Value.pointer (some ⟨b2, 0, none⟩)), (2, Value.int IntKind.i64 0), (3, Value.slice p11 2 cap12), (4, Value.int IntKind.i64 2), (5, Value.int IntKind.i64 2), (6, Value.int IntKind.i64 0)] : Fr) ++ lr31) (pts' := []) (eqs := []) (by kernel_rfl) trivial (AllC_nil _) ?_
  refine PO.mk ?_
  change WP _ _ (CA Tryd.f11 [1, 1, 1, 1, 1, 1, 1]) _ _ _
  refine fk_cut ([(0, Value.bool false), (1, Value.pointer (some ⟨b2, 0, none⟩)), (2, Value.int IntKind.i64 0), (3, Value.slice p11 2 cap12), (4, Value.int IntKind.i64 2), (5, Value.int IntKind.i64 2), (6, Value.int IntKind.i64 0), (7, Value.int IntKind.i64 3), (8, Value.int IntKind.i64 1), (9, Value.int IntKind.i64 1)] : Fr) (by kernel_rfl) (fun a => WP _ _ _ _ a _) (fun lr41 => ?_)
  refine gi_seq (x := CA Tryd.f11 [1, 1, 1, 1, 1, 1, 1, 0]) (y := CA Tryd.f11 [1, 1, 1, 1, 1, 1, 1, 1]) (by kernel_rfl) ?_
  refine gi_pln (id := 7) (ops := RA Tryd.f11 [1, 1, 1, 1, 1, 1, 1, 0]) [0, 1, 2, 3, 4, 5, 6] (by kernel_rfl) (by kernel_rfl) (by kernel_rfl) ?_
  refine plain_act (i := 0) (by kernel_rfl) ?_
  refine an_new (d := 32) (fun xb_ => Value.slice (some ⟨xb_, 0, none⟩) 3 3) (fun xb_ => Obj.cells [Value.int IntKind.i64 1, Value.int IntKind.i64 2, Value.int IntKind.i64 3].toArray 3 (0, 0)) (fun xb_ => by kernel_rfl) (by kernel_rfl) rfl h40 ?_
  intro r42 w43 (h44 : sat g w43 [Cl r42 [Value.int IntKind.i64 1, Value.int IntKind.i64 2, Value.int IntKind.i64 3] 3, Sr 52 b2 [], Old wo, Sl 3 1 p11 2 cap12 (fl eI [2, 3]), R])
  have h45 : sat g w43 [Sl 3 1 (some ⟨r42, 0, none⟩) 3 3 (fl eI [1, 2, 3]), Sr 52 b2 [], Old wo, Sl 3 1 p11 2 cap12 (fl eI [2, 3]), R] := sl_of_cl h44 rfl (by omega)
  have h46 : sat g w43 [Sl 3 1 (some ⟨r42, 0, none⟩) 3 3 (fl eI [1, 2, 3]), Old wo, Sr 52 b2 [], Sl 3 1 p11 2 cap12 (fl eI [2, 3]), R] := sat_sel [0, 2, 1, 3, 4] rfl h45
  refine plain_act (i := 1) (by kernel_rfl) ?_
  refine an_call (d := some 33) (f := 14) (args := [Value.slice (some ⟨r42, 0, none⟩) 3 3]) (by kernel_rfl) Tryd.call14 ((by have h_ := print_x wo hg (some ⟨r42, 0, none⟩) 3 3 [1, 2, 3] (Sl 3 1 (some ⟨r42, 0, none⟩) 3 3 (fl eI [1, 2, 3])) (gv_sl _ _ _) rfl (by omega); rw [show prt [1, 2, 3] = ([111, 108, 102], 0) from by decide +kernel] at h_; exact h_)) (F := [Sr 52 b2 [], Sl 3 1 p11 2 cap12 (fl eI [2, 3]), R]) h46 ?_
  rintro v K w47 (⟨rfl, rfl⟩) h48
  refine ⟨_, rfl, ?_⟩
  have h49 : sat g w47 [Sl 3 1 (some ⟨r42, 0, none⟩) 3 3 (fl eI [1, 2, 3]), Old wo, Sr 52 b2 [], Sl 3 1 p11 2 cap12 (fl eI [2, 3]), R] := h48
  refine plain_batch (rest := []) [⟨2, [], none⟩, ⟨3, [], none⟩, ⟨4, [], none⟩, ⟨5, [], none⟩, ⟨6, [], none⟩] (l' := ([(11, Value.int IntKind.i64 0), (10, Value.string (St [111, 108, 102])), (35, Value.int IntKind.i64 0), (34, Value.string (St [111, 108, 102])), (31, Value.tuple #[Value.string (St [111, 108, 102]), Value.int IntKind.i64 0]), (33, Value.tuple #[Value.string (St [111, 108, 102]), Value.int IntKind.i64 0]), (32, Value.slice (some ⟨r42, 0, none⟩) 3 3), (0, Value.bool false), (1, Value.pointer (some ⟨b2, 0, none⟩)), (2, Value.int IntKind.i64 0), (3, Value.slice p11 2 cap12), (4, Value.int IntKind.i64 2), (5, Value.int IntKind.i64 2), (6, Value.int IntKind.i64 0), (7, Value.int IntKind.i64 3), (8, Value.int IntKind.i64 1), (9, Value.int IntKind.i64 1)] : Fr) ++ lr41) (pts' := []) (eqs := []) (by kernel_rfl) trivial (AllC_nil _) ?_
  refine PO.mk ?_
  change WP _ _ (CA Tryd.f11 [1, 1, 1, 1, 1, 1, 1, 1]) _ _ _
  refine fk_cut ([(0, Value.bool false), (1, Value.pointer (some ⟨b2, 0, none⟩)), (2, Value.int IntKind.i64 0), (3, Value.slice p11 2 cap12), (4, Value.int IntKind.i64 2), (5, Value.int IntKind.i64 2), (6, Value.int IntKind.i64 0), (7, Value.int IntKind.i64 3), (8, Value.int IntKind.i64 1), (9, Value.int IntKind.i64 1), (10, Value.string (St [111, 108, 102])), (11, Value.int IntKind.i64 0)] : Fr) (by kernel_rfl) (fun a => WP _ _ _ _ a _) (fun lr50 => ?_)
  refine gi_seq (x := CA Tryd.f11 [1, 1, 1, 1, 1, 1, 1, 1, 0]) (y := CA Tryd.f11 [1, 1, 1, 1, 1, 1, 1, 1, 1]) (by kernel_rfl) ?_
  refine gi_pln (id := 8) (ops := RA Tryd.f11 [1, 1, 1, 1, 1, 1, 1, 1, 0]) [0, 1, 2, 3, 4, 5] (by kernel_rfl) (by kernel_rfl) (by kernel_rfl) ?_
  have h55 : sat g w47 [Old wo, Sl 3 1 (some ⟨r42, 0, none⟩) 3 3 (fl eI [1, 2, 3]), Sr 52 b2 [], Sl 3 1 p11 2 cap12 (fl eI [2, 3]), R] := sat_sel [1, 0, 2, 3, 4] rfl h49
  refine plain_act (i := 0) (by kernel_rfl) ?_
  refine an_call (d := some 37) (f := 12) (args := [Value.string (St [111, 108, 120])]) (by kernel_rfl) Tryd.call12 ((by have h_ := parse_ht wo hg [111, 108, 120] (by decide); rw [show prs [111, 108, 120] = ([], 9) from by decide +kernel] at h_; exact h_)) (F := [Sl 3 1 (some ⟨r42, 0, none⟩) 3 3 (fl eI [1, 2, 3]), Sr 52 b2 [], Sl 3 1 p11 2 cap12 (fl eI [2, 3]), R]) h55 ?_
  rintro v K w56 (⟨p53, cap54, rfl, rfl⟩) h57
  refine ⟨_, rfl, ?_⟩
  have h58 : sat g w56 [Sl 3 1 p53 0 cap54 (fl eI []), Old wo, Sl 3 1 (some ⟨r42, 0, none⟩) 3 3 (fl eI [1, 2, 3]), Sr 52 b2 [], Sl 3 1 p11 2 cap12 (fl eI [2, 3]), R] := h57
  obtain ⟨hn59, hn60⟩ := sl_le h58
  refine plain_batch (rest := []) [⟨1, [], none⟩, ⟨2, [], none⟩, ⟨3, [], none⟩, ⟨4, [], none⟩, ⟨5, [], none⟩] (l' := ([(13, Value.int IntKind.i64 9), (12, Value.slice p53 0 cap54), (39, Value.int IntKind.i64 9), (38, Value.slice p53 0 cap54), (36, Value.tuple #[Value.slice p53 0 cap54, Value.int IntKind.i64 9]), (37, Value.tuple #[Value.slice p53 0 cap54, Value.int IntKind.i64 9]), (0, Value.bool false), (1, Value.pointer (some ⟨b2, 0, none⟩)), (2, Value.int IntKind.i64 0), (3, Value.slice p11 2 cap12), (4, Value.int IntKind.i64 2), (5, Value.int IntKind.i64 2), (6, Value.int IntKind.i64 0), (7, Value.int IntKind.i64 3), (8, Value.int IntKind.i64 1), (9, Value.int IntKind.i64 1), (10, Value.string (St [111, 108, 102])), (11, Value.int IntKind.i64 0)] : Fr) ++ lr50) (pts' := []) (eqs := []) (by kernel_rfl) trivial (AllC_nil _) ?_
  refine PO.mk ?_
  change WP _ _ (CA Tryd.f11 [1, 1, 1, 1, 1, 1, 1, 1, 1]) _ _ _
  refine fk_cut ([(0, Value.bool false), (1, Value.pointer (some ⟨b2, 0, none⟩)), (2, Value.int IntKind.i64 0), (3, Value.slice p11 2 cap12), (4, Value.int IntKind.i64 2), (5, Value.int IntKind.i64 2), (6, Value.int IntKind.i64 0), (7, Value.int IntKind.i64 3), (8, Value.int IntKind.i64 1), (9, Value.int IntKind.i64 1), (10, Value.string (St [111, 108, 102])), (11, Value.int IntKind.i64 0), (13, Value.int IntKind.i64 9)] : Fr) (by kernel_rfl) (fun a => WP _ _ _ _ a _) (fun lr61 => ?_)
  refine gi_seq (x := CA Tryd.f11 [1, 1, 1, 1, 1, 1, 1, 1, 1, 0]) (y := CA Tryd.f11 [1, 1, 1, 1, 1, 1, 1, 1, 1, 1]) (by kernel_rfl) ?_
  refine gi_pln (id := 9) (ops := RA Tryd.f11 [1, 1, 1, 1, 1, 1, 1, 1, 1, 0]) [0, 1, 2, 3, 4, 5, 6, 7, 8, 9, 10, 11, 12, 13, 14, 15, 16, 17, 18, 19, 20, 21, 22, 23, 24, 25, 26, 27, 28, 29, 30, 31, 32, 33, 34, 35, 36, 37, 38, 39, 40, 41, 42, 43, 44, 45, 46, 47, 48] (by kernel_rfl) (by kernel_rfl) (by kernel_rfl) ?_
  refine plain_batch (rest := [4, 5, 6, 7, 8, 9, 10, 11, 12, 13, 14, 15, 16, 17, 18, 19, 20, 21, 22, 23, 24, 25, 26, 27, 28, 29, 30, 31, 32, 33, 34, 35, 36, 37, 38, 39, 40, 41, 42, 43, 44, 45, 46, 47, 48]) [⟨0, [], none⟩, ⟨1, [], none⟩, ⟨2, [], none⟩, ⟨3, [], none⟩] (l' := ([(43, Value.slice p11 2 cap12), (42, Value.bool true), (41, Value.bool true), (40, Value.int IntKind.i64 0), (0, Value.bool false), (1, Value.pointer (some ⟨b2, 0, none⟩)), (2, Value.int IntKind.i64 0), (3, Value.slice p11 2 cap12), (4, Value.int IntKind.i64 2), (5, Value.int IntKind.i64 2), (6, Value.int IntKind.i64 0), (7, Value.int IntKind.i64 3), (8, Value.int IntKind.i64 1), (9, Value.int IntKind.i64 1), (10, Value.string (St [111, 108, 102])), (11, Value.int IntKind.i64 0), (13, Value.int IntKind.i64 9)] : Fr) ++ lr61) (pts' := []) (eqs := []) (by kernel_rfl) trivial (AllC_nil _) ?_
  refine plain_act (i := 4) (by kernel_rfl) ?_
  refine an_new (d := 44) (fun xb_ => Value.slice (some ⟨xb_, 0, none⟩) 2 2) (fun xb_ => Obj.cells [Value.int IntKind.i64 2, Value.int IntKind.i64 3].toArray 3 (0, 0)) (fun xb_ => by kernel_rfl) (by kernel_rfl) rfl h58 ?_
  intro r62 w63 (h64 : sat g w63 [Cl r62 [Value.int IntKind.i64 2, Value.int IntKind.i64 3] 3, Sl 3 1 p53 0 cap54 (fl eI []), Old wo, Sl 3 1 (some ⟨r42, 0, none⟩) 3 3 (fl eI [1, 2, 3]), Sr 52 b2 [], Sl 3 1 p11 2 cap12 (fl eI [2, 3]), R])
  have h65 : sat g w63 [Sl 3 1 (some ⟨r62, 0, none⟩) 2 2 (fl eI [2, 3]), Sl 3 1 p53 0 cap54 (fl eI []), Old wo, Sl 3 1 (some ⟨r42, 0, none⟩) 3 3 (fl eI [1, 2, 3]), Sr 52 b2 [], Sl 3 1 p11 2 cap12 (fl eI [2, 3]), R] := sl_of_cl h64 rfl (by omega)
  have h66 : sat g w63 [Sl 3 1 p11 2 cap12 (fl eI [2, 3]), Sl 3 1 (some ⟨r62, 0, none⟩) 2 2 (fl eI [2, 3]), Sl 3 1 p53 0 cap54 (fl eI []), Old wo, Sl 3 1 (some ⟨r42, 0, none⟩) 3 3 (fl eI [1, 2, 3]), Sr 52 b2 [], R] := sat_sel [5, 0, 1, 2, 3, 4, 6] rfl h65
  refine plain_act (i := 5) (by kernel_rfl) ?_
  refine an_call (d := some 45) (f := 16) (args := [Value.slice p11 2 cap12, Value.slice (some ⟨r62, 0, none⟩) 2 2]) (by kernel_rfl) Tryd.call16 (same_ht p11 (some ⟨r62, 0, none⟩) 2 2 cap12 2 [2, 3] [2, 3] (Sl 3 1 p11 2 cap12 (fl eI [2, 3])) (Sl 3 1 (some ⟨r62, 0, none⟩) 2 2 (fl eI [2, 3])) (gv_sl _ _ _) (gv_sl _ _ _) rfl rfl true (decide_eq_true rfl) (by omega)) (F := [Sl 3 1 p53 0 cap54 (fl eI []), Old wo, Sl 3 1 (some ⟨r42, 0, none⟩) 3 3 (fl eI [1, 2, 3]), Sr 52 b2 [], R]) h66 ?_
  rintro v K w67 (⟨rfl, rfl⟩) h68
  refine ⟨_, rfl, ?_⟩
  have h69 : sat g w67 [Sl 3 1 p11 2 cap12 (fl eI [2, 3]), Sl 3 1 (some ⟨r62, 0, none⟩) 2 2 (fl eI [2, 3]), Sl 3 1 p53 0 cap54 (fl eI []), Old wo, Sl 3 1 (some ⟨r42, 0, none⟩) 3 3 (fl eI [1, 2, 3]), Sr 52 b2 [], R] := h68
  refine plain_batch (rest := [33, 34, 35, 36, 37, 38, 39, 40, 41, 42, 43, 44, 45, 46, 47, 48]) [⟨6, [], none⟩, ⟨7, [], none⟩, ⟨8, [], none⟩, ⟨9, [], none⟩, ⟨10, [], none⟩, ⟨11, [], none⟩, ⟨12, [], none⟩, ⟨13, [], none⟩, ⟨14, [], none⟩, ⟨15, [], none⟩, ⟨16, [], none⟩, ⟨17, [], none⟩, ⟨18, [], none⟩, ⟨19, [], none⟩, ⟨20, [], none⟩, ⟨21, [], none⟩, ⟨22, [], none⟩, ⟨23, [], none⟩, ⟨24, [], none⟩, ⟨25, [], none⟩, ⟨26, [], none⟩, ⟨27, [], none⟩, ⟨28, [], none⟩, ⟨29, [], none⟩, ⟨30, [], none⟩, ⟨31, [], none⟩, ⟨32, [], none⟩] (l' := ([(72, Value.pointer (some ⟨b2, 0, none⟩)), (71, Value.bool true), (70, Value.bool true), (69, Value.bool true), (68, Value.int IntKind.i64 1), (67, Value.bool true), (66, Value.bool true), (65, Value.bool true), (64, Value.int IntKind.i64 1), (63, Value.bool true), (62, Value.bool true), (61, Value.bool true), (60, Value.int IntKind.i64 3), (59, Value.bool true), (58, Value.bool true), (57, Value.bool true), (56, Value.int IntKind.i64 0), (55, Value.bool true), (54, Value.bool true), (53, Value.bool true), (52, Value.int IntKind.i64 2), (51, Value.bool true), (50, Value.bool true), (49, Value.bool true), (48, Value.int IntKind.i64 2), (47, Value.bool true), (46, Value.bool true), (45, Value.bool true), (44, Value.slice (some ⟨r62, 0, none⟩) 2 2), (43, Value.slice p11 2 cap12), (42, Value.bool true), (41, Value.bool true), (40, Value.int IntKind.i64 0), (0, Value.bool false), (1, Value.pointer (some ⟨b2, 0, none⟩)), (2, Value.int IntKind.i64 0), (3, Value.slice p11 2 cap12), (4, Value.int IntKind.i64 2), (5, Value.int IntKind.i64 2), (6, Value.int IntKind.i64 0), (7, Value.int IntKind.i64 3), (8, Value.int IntKind.i64 1), (9, Value.int IntKind.i64 1), (10, Value.string (St [111, 108, 102])), (11, Value.int IntKind.i64 0), (13, Value.int IntKind.i64 9)] : Fr) ++ lr61) (pts' := []) (eqs := []) (by kernel_rfl) trivial (AllC_nil _) ?_
  refine fk_cut ([(72, Value.pointer (some ⟨b2, 0, none⟩)), (71, Value.bool true), (0, Value.bool false), (1, Value.pointer (some ⟨b2, 0, none⟩)), (2, Value.int IntKind.i64 0), (3, Value.slice p11 2 cap12), (4, Value.int IntKind.i64 2), (5, Value.int IntKind.i64 2), (6, Value.int IntKind.i64 0), (7, Value.int IntKind.i64 3), (8, Value.int IntKind.i64 1), (9, Value.int IntKind.i64 1), (10, Value.string (St [111, 108, 102])), (11, Value.int IntKind.i64 0), (13, Value.int IntKind.i64 9)] : Fr) (by kernel_rfl) (fun a => PO _ _ _ _ a _) (fun lr70 => ?_)
  have h71 : sat g w67 [Sr 52 b2 [], Sl 3 1 p11 2 cap12 (fl eI [2, 3]), Sl 3 1 (some ⟨r62, 0, none⟩) 2 2 (fl eI [2, 3]), Sl 3 1 p53 0 cap54 (fl eI []), Old wo, Sl 3 1 (some ⟨r42, 0, none⟩) 3 3 (fl eI [1, 2, 3]), R] := sat_sel [5, 0, 1, 2, 3, 4, 6] rfl h69
  refine plain_act (i := 33) (by kernel_rfl) ?_
  refine an_call (d := some 73) (f := 21) (args := [Value.pointer (some ⟨b2, 0, none⟩)]) (by kernel_rfl) Tryd.call21 (left_ht b2 []) (F := [Sl 3 1 p11 2 cap12 (fl eI [2, 3]), Sl 3 1 (some ⟨r62, 0, none⟩) 2 2 (fl eI [2, 3]), Sl 3 1 p53 0 cap54 (fl eI []), Old wo, Sl 3 1 (some ⟨r42, 0, none⟩) 3 3 (fl eI [1, 2, 3]), R]) h71 ?_
  rintro v K w72 (⟨rfl, rfl⟩) h73
  refine ⟨_, rfl, ?_⟩
  have h74 : sat g w72 [Sr 52 b2 [], Sl 3 1 p11 2 cap12 (fl eI [2, 3]), Sl 3 1 (some ⟨r62, 0, none⟩) 2 2 (fl eI [2, 3]), Sl 3 1 p53 0 cap54 (fl eI []), Old wo, Sl 3 1 (some ⟨r42, 0, none⟩) 3 3 (fl eI [1, 2, 3]), R] := h73
  refine plain_batch (rest := [42, 43, 44, 45, 46, 47, 48]) [⟨34, [], none⟩, ⟨35, [], none⟩, ⟨36, [], none⟩, ⟨37, [], none⟩, ⟨38, [], none⟩, ⟨39, [], none⟩, ⟨40, [], none⟩, ⟨41, [], none⟩] (l' := ([(81, Value.string (St [111, 108, 102])), (80, Value.bool true), (79, Value.bool true), (78, Value.bool true), (77, Value.int IntKind.i64 0), (76, Value.bool true), (75, Value.bool true), (74, Value.bool true), (73, Value.int IntKind.i64 0), (72, Value.pointer (some ⟨b2, 0, none⟩)), (71, Value.bool true), (0, Value.bool false), (1, Value.pointer (some ⟨b2, 0, none⟩)), (2, Value.int IntKind.i64 0), (3, Value.slice p11 2 cap12), (4, Value.int IntKind.i64 2), (5, Value.int IntKind.i64 2), (6, Value.int IntKind.i64 0), (7, Value.int IntKind.i64 3), (8, Value.int IntKind.i64 1), (9, Value.int IntKind.i64 1), (10, Value.string (St [111, 108, 102])), (11, Value.int IntKind.i64 0), (13, Value.int IntKind.i64 9)] : Fr) ++ lr70) (pts' := []) (eqs := []) (by kernel_rfl) trivial (AllC_nil _) ?_
  refine plain_law (i := 42) 82 (Value.bool true) (by kernel_rfl) (law_eqStr (t := 9) (o := opA (RA Tryd.f11 [1, 1, 1, 1, 1, 1, 1, 1, 1, 0]) 42) (x := (Operand.tmp 81)) (y := (Operand.const (Value.string (St [111, 108, 102])))) (a := [111, 108, 102]) (b := [111, 108, 102]) (by kernel_rfl) (by kernel_rfl) (by kernel_rfl) true (decide_eq_true rfl) _) ?_
  refine plain_batch (rest := []) [⟨43, [], none⟩, ⟨44, [], none⟩, ⟨45, [], none⟩, ⟨46, [], none⟩, ⟨47, [], none⟩, ⟨48, [], none⟩] (l' := ([(0, Value.bool true), (87, Value.bool true), (86, Value.bool true), (85, Value.int IntKind.i64 9), (84, Value.bool true), (83, Value.bool true), (82, Value.bool true), (81, Value.string (St [111, 108, 102])), (80, Value.bool true), (79, Value.bool true), (78, Value.bool true), (77, Value.int IntKind.i64 0), (76, Value.bool true), (75, Value.bool true), (74, Value.bool true), (73, Value.int IntKind.i64 0), (72, Value.pointer (some ⟨b2, 0, none⟩)), (71, Value.bool true), (0, Value.bool false), (1, Value.pointer (some ⟨b2, 0, none⟩)), (2, Value.int IntKind.i64 0), (3, Value.slice p11 2 cap12), (4, Value.int IntKind.i64 2), (5, Value.int IntKind.i64 2), (6, Value.int IntKind.i64 0), (7, Value.int IntKind.i64 3), (8, Value.int IntKind.i64 1), (9, Value.int IntKind.i64 1), (10, Value.string (St [111, 108, 102])), (11, Value.int IntKind.i64 0), (13, Value.int IntKind.i64 9)] : Fr) ++ lr70) (pts' := []) (eqs := []) (by kernel_rfl) trivial (AllC_nil _) ?_
  refine PO.mk ?_
  change WP _ _ (CA Tryd.f11 [1, 1, 1, 1, 1, 1, 1, 1, 1, 1]) _ _ _
  refine fk_cut ([(0, Value.bool true), (1, Value.pointer (some ⟨b2, 0, none⟩)), (2, Value.int IntKind.i64 0), (3, Value.slice p11 2 cap12), (4, Value.int IntKind.i64 2), (5, Value.int IntKind.i64 2), (6, Value.int IntKind.i64 0), (7, Value.int IntKind.i64 3), (8, Value.int IntKind.i64 1), (9, Value.int IntKind.i64 1), (10, Value.string (St [111, 108, 102])), (11, Value.int IntKind.i64 0), (13, Value.int IntKind.i64 9)] : Fr) (by kernel_rfl) (fun a => WP _ _ _ _ a _) (fun lr75 => ?_)
  refine gi_rt (by kernel_rfl) ?_
  repeat (first | simp only [Exit.inBlock] | simp only [Exit.then])
  have h76 : sat g w72 [Old wo, Sr 52 b2 [], Sl 3 1 p11 2 cap12 (fl eI [2, 3]), Sl 3 1 (some ⟨r62, 0, none⟩) 2 2 (fl eI [2, 3]), Sl 3 1 p53 0 cap54 (fl eI []), Sl 3 1 (some ⟨r42, 0, none⟩) 3 3 (fl eI [1, 2, 3]), R] := sat_sel [4, 0, 1, 2, 3, 5, 6] rfl h74
  have h77 : sat g w72 [Old wo, R] := sat_sel [0, 6] rfl h76
  refine hi_out [] (Value.bool true) [] (by kernel_rfl) (by intro q hq; cases hq) ?_
  exact ⟨Value.bool true, [Old wo], rfl, ⟨rfl, rfl⟩, h77⟩

end Go.Proofs.YtjedglbadkbneaaDoor
