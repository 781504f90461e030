/- Walks, printed by my generator gen22.py. -/
import Derived.Test.YtjjpmehiolejgaaF20
import Derived.Test.YtjjpmehiolejgaaF21
import Derived.Test.YtjjpmehiolejgaaTabC
namespace Go.Proofs.Ytjjpmehiolejgaa
set_option maxHeartbeats 4000000 in
theorem texp_w (b n : Nat) (S : Ts) (vn : Int) : HT Try.prog 31 [Value.pointer (some ⟨b, 0, none⟩), Value.int IntKind.i64 vn] [TW b n S] (fun v K => ∃ (p : Option Addr) (c : Nat), v = Value.tuple #[Value.slice p (((descs S.E vn).length)) c, Value.int IntKind.i64 ((nE S vn))] ∧ K = [TW b n (expS S vn), Sl 28 3 p (((descs S.E vn).length)) c (fl eO (descs S.E vn))]) := by
 refine hi_in 28 ([(0, pV b), (1, iV vn)] : Fr) Try.func31 (by kernel_rfl) Try.ntmps31 rfl rfl ?_
 intro g w0 R h0
 have hW_ := (wi_out h0).1
 have hdl_ := descs_len S.E vn
 refine ySq ?_
 refine yPl [0, 1] ?_
 refine yB0 [] [0, 1] [(5, iV 0), (4, .slice none 0 0)] (.mk ?_)
 refine yK [(0, pV b), (1, iV vn)] fun lr1 => ?_
 refine ySq ?_
 refine yPl [0, 1, 2, 3, 4, 5, 6, 7] ?_
 refine yB0 [2, 3, 4, 5, 6, 7] [0, 1] [(12, iV vn), (11, pV b)] ?_
 refine yA ?_
 refine yCl 13 Try.call21 (tdescs_w b n S vn) h0 ?_
 rintro v K w4 (⟨p2, c3, rfl, rfl⟩) h5
 refine ⟨_, rfl, ?_⟩
 have h6 := ap2 h5
 refine yB0 [] [3, 4, 5, 6, 7] [(7, iV ((nE S vn))), (6, .slice p2 (((descs S.E vn).length)) c3), (15, iV ((nE S vn))), (14, .slice p2 (((descs S.E vn).length)) c3), (10, .tuple #[.slice p2 (((descs S.E vn).length)) c3, iV ((nE S vn))])] (.mk ?_)
 refine yK [(0, pV b), (6, .slice p2 (((descs S.E vn).length)) c3), (7, iV ((nE S vn)))] fun lr7 => ?_
 refine ySq ?_
 refine ySq ?_
 refine yPl [0, 1, 2] ?_
 refine yB0 [] [0, 1, 2] [(18, iV 0), (17, iV ((((descs S.E vn).length : Nat) : Int))), (16, .slice p2 (((descs S.E vn).length)) c3)] (.mk ?_)
 refine yK [(0, pV b), (6, .slice p2 (((descs S.E vn).length)) c3), (7, iV ((nE S vn))), (16, .slice p2 (((descs S.E vn).length)) c3), (17, iV ((((descs S.E vn).length : Nat) : Int))), (18, iV 0)] fun lr8 => ?_
 refine yBk 0 ?_
 have h9 := tk3 (sf2 (sf1 (sf2 h6)))
 have hl10 := fl_n eO_ok (by decide) h9
 have h11 := tk3 (sf2 (sf1 (sf2 h9)))
 refine gi_lp (x := CA Try.f31 [1, 1, 0, 1, 0, 0]) (by kernel_rfl) (fun mz_ a w => ∃ k : Nat, ∃ lr : Fr, mz_ = ((descs S.E vn).length) - k ∧ (k ≤ (descs S.E vn).length) ∧ a = mk 28 (([(0, pV b), (6, .slice p2 (((descs S.E vn).length)) c3), (7, iV ((nE S vn))), (16, .slice p2 (((descs S.E vn).length)) c3), (17, iV ((((descs S.E vn).length : Nat) : Int))), (18, iV (k : Int))] : Fr) ++ lr) ∧ sat g w [TW b n (dropK S vn k), Sl 28 3 p2 (((descs S.E vn).length)) c3 (fl eO (descs S.E vn)), R]) ((descs S.E vn).length - 0) ⟨0, _, rfl, (Nat.zero_le _), (mk_live [(0, pV b), (6, .slice p2 (((descs S.E vn).length)) c3), (7, iV ((nE S vn))), (16, .slice p2 (((descs S.E vn).length)) c3), (17, iV ((((descs S.E vn).length : Nat) : Int))), (18, iV (0 : Int))] ⟨rfl, rfl, rfl, rfl, rfl, (ov_int (by omega)), trivial⟩), h11⟩ ?_
 rintro m13 a14 w15 ⟨k, lr12, rfl, hk, rfl, h16⟩
 refine ySq ?_
 refine yPl [0] ?_
 by_cases c17 : (k : Int) < (((descs S.E vn).length : Nat) : Int)
 ·
  refine yBb [] [(19, .bool true)] [e1 0 (.bool true)] [] [(.bool (decide ((k : Int) < (((descs S.E vn).length : Nat) : Int))), .bool true)] ⟨(ov_t (by omega)), trivial⟩ nC (.mk ?_)
  refine yK [(0, pV b), (6, .slice p2 (((descs S.E vn).length)) c3), (7, iV ((nE S vn))), (16, .slice p2 (((descs S.E vn).length)) c3), (17, iV ((((descs S.E vn).length : Nat) : Int))), (18, iV (k : Int)), (19, .bool true)] fun lr18 => ?_
  refine ySq ?_
  refine yCt ?_
  refine ySk ?_
  refine ySq ?_
  refine yBk 1 ?_
  refine ySq ?_
  refine yPl [0, 1, 2, 3] ?_
  obtain ⟨b19, hp20⟩ := sl_ptr0 (j := 1) h16 rfl (by omega)
  refine plain_law (i := 0) 20 (.pointer (some ⟨b19, k * 3, none⟩)) (by kernel_rfl) (law_indexSlP (o := opA (RA Try.f31 [1, 1, 0, 1, 0, 0, 1, 1, 0, 0, 0]) 0) (x := (Operand.tmp 16)) (i := (Operand.tmp 18)) (p := p2) (b := b19) (off := 0) (z := (k : Int)) (len := (((descs S.E vn).length))) (cap := c3) (by kernel_rfl) Try.underlying45 3 (by kernel_rfl) k (by kernel_rfl) hp20 (by kernel_rfl) (by omega) (by omega) (k * 3) (by omega) _) ?_
  obtain ⟨x21, hx22⟩ : ∃ x, (descs S.E vn)[k]? = some x := ⟨_, List.getElem?_eq_getElem (by rw [hl10]; omega)⟩
  obtain ⟨e23, he24, hd25⟩ := dropK_at hW_ hx22
  have hb26 := desc_ok hW_ (List.mem_of_getElem? hx22)
  refine yBb [2, 3] [(21, .agg #[iV x21.1, iV x21.2.1, uV x21.2.2])] [e2 1 [iV x21.1, iV x21.2.1, uV x21.2.2]] [(1, ⟨b19, k * 3, none⟩, iV x21.1), (1, ⟨b19, k * 3 + 1, none⟩, iV x21.2.1), (1, ⟨b19, k * 3 + 2, none⟩, uV x21.2.2)] [] trivial (kC (gv_cell (j := 1) h16 rfl (gv_sl _ _ _) hp20 (fl_get eO_ok (j := 0) (v := iV x21.1) hx22 rfl) (k * 3) (by omega)) (kC (gv_cell (j := 1) h16 rfl (gv_sl _ _ _) hp20 (fl_get eO_ok (j := 1) (v := iV x21.2.1) hx22 rfl) (k * 3 + 1) (by omega)) (kC (gv_cell (j := 1) h16 rfl (gv_sl _ _ _) hp20 (fl_get eO_ok (j := 2) (v := uV x21.2.2) hx22 rfl) (k * 3 + 2) (by omega)) nC))) ?_
  refine yA ?_
  refine yNp 9 28 [iV 0, iV 0, uV 0] h16 fun r27 w28 h29 => ?_
  refine yA ?_
  refine yS [(0, iV x21.1), (1, iV x21.2.1), (2, uV x21.2.2)] [iV x21.1, iV x21.2.1, uV x21.2.2] h29 fun w30 h31 => ?_
  refine PO.mk ?_
  refine yK [(0, pV b), (6, .slice p2 (((descs S.E vn).length)) c3), (7, iV ((nE S vn))), (9, pV r27), (16, .slice p2 (((descs S.E vn).length)) c3), (17, iV ((((descs S.E vn).length : Nat) : Int))), (18, iV (k : Int))] fun lr32 => ?_
  refine yPl [0, 1, 2] ?_
  refine yBb [2] [(23, .agg #[iV x21.1, iV x21.2.1, uV x21.2.2]), (22, pV b)] [e0 0, e2 1 [iV x21.1, iV x21.2.1, uV x21.2.2]] [(1, ⟨r27, 0, none⟩, iV x21.1), (1, ⟨r27, 1, none⟩, iV x21.2.1), (1, ⟨r27, 2, none⟩, uV x21.2.2)] [] trivial (kC (sat_cell h31 0 rfl rfl) (kC (sat_cell h31 0 rfl rfl) (kC (sat_cell h31 0 rfl rfl) nC))) ?_
  have h33 := tk4 (sf3 (sf2 (sf3 (sf3 h31))))
  refine yA ?_
  refine yCl 24 Try.call45 (tdrop_w b n (dropK S vn k) x21.1 x21.2.1 x21.2.2 (by omega) (by omega) e23 he24 hd25) h33 ?_
  rintro v K w34 (⟨rfl, rfl⟩) h35
  refine ⟨_, rfl, ?_⟩
  have h36 := ap1 h35
  refine PO.mk ?_
  refine yK [(0, pV b), (6, .slice p2 (((descs S.E vn).length)) c3), (7, iV ((nE S vn))), (16, .slice p2 (((descs S.E vn).length)) c3), (17, iV ((((descs S.E vn).length : Nat) : Int))), (18, iV (k : Int))] fun lr37 => ?_
  refine yPl [0, 1] ?_
  refine yBb [] [(18, iV ((k : Int) + 1)), (25, iV ((k : Int) + 1))] [e1 0 (iV ((k : Int) + 1)), e0 1] [] [(iV (IntKind.wrap .i64 ((k : Int) + 1)), iV ((k : Int) + 1))] ⟨(ov_i64 (by omega) (by omega) (by omega)), trivial⟩ nC (.mk ?_)
  have h38 : sat g w34 [TW b n (dropK S vn (k + 1)), Cl r27 [iV x21.1, iV x21.2.1, uV x21.2.2] 28, Sl 28 3 p2 (((descs S.E vn).length)) c3 (fl eO (descs S.E vn)), R] := (show (dropS (dropK S vn k) x21) = dropK S vn (k + 1) from dropK_go hx22) ▸ h36
  have h39 := tk4 (sf3 (sf3 (sf3 (sf1 h38))))
  have h40 := tk3 h39
  change ∃ n', n' < _ ∧ _
  refine ⟨((descs S.E vn).length - (k + 1)), by omega, (k + 1), _, rfl, (by omega), (mk_live [(0, pV b), (6, .slice p2 (((descs S.E vn).length)) c3), (7, iV ((nE S vn))), (16, .slice p2 (((descs S.E vn).length)) c3), (17, iV ((((descs S.E vn).length : Nat) : Int))), (18, iV ((((k + 1) : Nat) : Int)))] ⟨rfl, rfl, rfl, rfl, rfl, (ov_int (by omega)), trivial⟩), h40⟩
 ·
  refine yBb [] [(19, .bool false)] [e1 0 (.bool false)] [] [(.bool (decide ((k : Int) < (((descs S.E vn).length : Nat) : Int))), .bool false)] ⟨(ov_f (by omega)), trivial⟩ nC (.mk ?_)
  refine yK [(0, pV b), (6, .slice p2 (((descs S.E vn).length)) c3), (7, iV ((nE S vn))), (16, .slice p2 (((descs S.E vn).length)) c3), (17, iV ((((descs S.E vn).length : Nat) : Int))), (18, iV (k : Int)), (19, .bool false)] fun lr41 => ?_
  refine ySq ?_
  refine yCf ?_
  refine yEx 0 ?_
  refine ySq ?_
  refine yPl [0, 1, 2, 3] ?_
  refine yB0 [] [0, 1, 2, 3] [(5, iV ((nE S vn))), (4, .slice p2 (((descs S.E vn).length)) c3), (27, iV ((nE S vn))), (26, .slice p2 (((descs S.E vn).length)) c3)] (.mk ?_)
  refine yK [(4, .slice p2 (((descs S.E vn).length)) c3), (5, iV ((nE S vn)))] fun lr42 => ?_
  refine yRt ?_
  repeat (first | simp only [Exit.inBlock] | simp only [Exit.then])
  have h43 : sat g w15 [TW b n (expS S vn), Sl 28 3 p2 (((descs S.E vn).length)) c3 (fl eO (descs S.E vn)), R] := (show (dropK S vn k) = expS S vn from dropK_all S vn (by omega)) ▸ h16
  refine hi_out [] (.tuple #[.slice p2 (((descs S.E vn).length)) c3, iV ((nE S vn))]) [] (by kernel_rfl) (by intro q hq; cases hq) ?_
  exact ⟨.tuple #[.slice p2 (((descs S.E vn).length)) c3, iV ((nE S vn))], [TW b n (expS S vn), Sl 28 3 p2 (((descs S.E vn).length)) c3 (fl eO (descs S.E vn))], rfl, ⟨p2, c3, rfl, rfl⟩, h43⟩

set_option maxHeartbeats 4000000 in
theorem rclone_nil (c : Nat) (X : Assn) : HT Try.prog 54 [Value.slice none 0 c] [X] (fun v K => ∃ (p : Option Addr) (c : Nat), v = Value.slice p 0 c ∧ K = [Sl 42 8 p 0 c (fl eRs []), X]) := by
 refine hi_in 8 ([(0, .slice none 0 c)] : Fr) Try.func54 (by kernel_rfl) Try.ntmps54 rfl rfl ?_
 intro g w0 R h0
 refine ySq ?_
 refine yPl [0] ?_
 refine yB0 [] [0] [(2, .slice none 0 0)] (.mk ?_)
 refine yK [(0, .slice none 0 c)] fun lr1 => ?_
 refine ySq ?_
 refine ySq ?_
 refine yPl [0, 1] ?_
 refine yB0 [] [0, 1] [(4, .bool true), (3, .slice none 0 c)] (.mk ?_)
 refine yK [(0, .slice none 0 c), (4, .bool true)] fun lr2 => ?_
 refine yCt ?_
 refine ySq ?_
 refine yPl [0] ?_
 refine yB0 [] [0] [(2, .slice none 0 0)] (.mk ?_)
 refine yK [(2, .slice none 0 0)] fun lr3 => ?_
 refine yRt ?_
 repeat (first | simp only [Exit.inBlock] | simp only [Exit.then])
 have h4 : sat g w0 [Sl 42 8 none 0 0 (fl eRs []), X, R] := sl_nil 42 8 h0
 refine hi_out [] (.slice none 0 0) [] (by kernel_rfl) (by intro q hq; cases hq) ?_
 exact ⟨.slice none 0 0, [Sl 42 8 none 0 0 (fl eRs []), X], rfl, ⟨none, 0, rfl, rfl⟩, h4⟩

set_option maxHeartbeats 4000000 in
theorem rclone_some (a : Addr) (p : Option Addr) (hp : p = some a) (n c : Nat) (L : List Rs) (X : Assn) (hX : Gv X p n (fl eRs L)) (hL : L.length = n) (hn : n ≤ 1000000) : HT Try.prog 54 [Value.slice p n c] [X] (fun v K => ∃ (p : Option Addr) (c : Nat), v = Value.slice p n c ∧ K = [Sl 42 8 p n c (fl eRs L), X]) := by
 refine hi_in 8 ([(0, .slice p n c)] : Fr) Try.func54 (by kernel_rfl) Try.ntmps54 rfl rfl ?_
 intro g w0 R h0
 refine ySq ?_
 refine yPl [0] ?_
 refine yB0 [] [0] [(2, .slice none 0 0)] (.mk ?_)
 refine yK [(0, .slice p n c)] fun lr1 => ?_
 refine ySq ?_
 refine ySq ?_
 refine yPl [0, 1] ?_
 refine yB0 [1] [0] [(3, .slice p n c)] ?_
 refine plain_law (i := 1) 4 (.bool false) (by kernel_rfl) (law_sliceSome (o := opA (RA Try.f54 [1, 0, 0]) 1) (x := (Operand.tmp 3)) (y := (Operand.const (.slice none 0 0))) (m := n) (c := c) (by kernel_rfl) Try.underlying74 (by kernel_rfl) hp (by kernel_rfl) _) (.mk ?_)
 refine yK [(0, .slice p n c), (4, .bool false)] fun lr2 => ?_
 refine yCf ?_
 refine ySk ?_
 refine ySq ?_
 refine yPl [0, 1, 2, 3] ?_
 refine yA ?_
 refine an_new (d := 5) (fun xb_ => .slice (some ⟨xb_, 0, none⟩) 0 0) (fun xb_ => Obj.cells [].toArray 42 (0, 0)) (fun xb_ => by kernel_rfl) (by kernel_rfl) rfl h0 ?_
 intro r3 w4 (h5 : sat g w4 [Cl r3 [] 42, X, R])
 refine yB0 [2, 3] [1] [(6, .slice p n c)] ?_
 have h6 : sat g w4 [Sl 42 8 (some ⟨r3, 0, none⟩) 0 0 (fl eRs []), X, R] := sl_of_cl h5 rfl (by omega)
 refine yA ?_
 refine an_append_gv (d := 7) (sz := 8) (s := (Operand.tmp 5)) (x := (Operand.tmp 6)) (z := .agg #[iV 0, iV 0, uV 0, iV 0, iV 0, iV 0, iV 0, .string (St [])]) (p := (some ⟨r3, 0, none⟩)) (p2 := p) (m := 0) (c := 0) (k := n) (c2 := c) (by_ := 72) (by kernel_rfl) (by kernel_rfl) rfl Try.underlying74 (by kernel_rfl) rfl (by decide) (by kernel_rfl) (by kernel_rfl) h6 1 rfl (fl eRs L) hX (by rw [fl_len eRs_ok, hL]) (fl_one eRs_ok _) (by omega) (by omega) n (by omega) ?_
 intro p7 cap8 w9 h10
 have h11 : sat g w9 [Sl 42 8 p7 n cap8 (fl eRs L), X, R] := sat_imp h10 (fun _ hh => by exact hh)
 obtain ⟨hn12, hn13⟩ := sl_le h11
 refine yB0 [] [3] [(2, .slice p7 n cap8)] (.mk ?_)
 refine yK [(2, .slice p7 n cap8)] fun lr14 => ?_
 refine yRt ?_
 repeat (first | simp only [Exit.inBlock] | simp only [Exit.then])
 refine hi_out [] (.slice p7 n cap8) [] (by kernel_rfl) (by intro q hq; cases hq) ?_
 exact ⟨.slice p7 n cap8, [Sl 42 8 p7 n cap8 (fl eRs L), X], rfl, ⟨p7, cap8, rfl, rfl⟩, h11⟩

theorem rclone_ht (p : Option Addr) (n c : Nat) (L : List Rs) (X : Assn) (hX : Gv X p n (fl eRs L)) (hL : L.length = n) (hn : n ≤ 1000000) : HT Try.prog 54 [Value.slice p n c] [X] (fun v K => ∃ (p : Option Addr) (c : Nat), v = Value.slice p n c ∧ K = [Sl 42 8 p n c (fl eRs L), X]) := by
  cases p with
  | none =>
    have hn0 : n = 0 ∨ 0 < n := by omega
    rcases hn0 with hn0 | hn0
    · have hl0 : L = [] := List.eq_nil_of_length_eq_zero (by omega)
      subst hl0
      subst hn0
      exact rclone_nil c X
    · intro g w F hs
      obtain ⟨b, off, h1⟩ := gv_ptr (j := 0) hs rfl hX hn0
      cases h1
  | some a => exact rclone_some a _ rfl n c L X hX hL hn

set_option maxHeartbeats 4000000 in
theorem tcopy_ht (b n : Nat) (A : List Sl2) (E : Tm) (RL : List Rs) : HT Try.prog 30 [Value.pointer (some ⟨b, 0, none⟩)] [Tab b n A E RL] (fun v K => ∃ b2 : Nat, v = Value.pointer (some ⟨b2, 0, none⟩) ∧ K = [Tab b n A E RL, Tab b2 n A E RL]) := by
 refine hi_in 39 ([(0, pV b)] : Fr) Try.func30 (by kernel_rfl) Try.ntmps30 rfl rfl ?_
 intro g w0 R h0
 refine ySq ?_
 refine yPl [0] ?_
 refine yB0 [] [0] [(2, .pointer none)] (.mk ?_)
 refine yK [(0, pV b)] fun lr1 => ?_
 refine ySq ?_
 refine ySq ?_
 refine yPl [0, 1, 2] ?_
 refine yB0 [1, 2] [0] [(6, pV b)] ?_
 refine yA ?_
 refine yCl 7 Try.call36 (tvalid_ht b n A E RL) h0 ?_
 rintro v K w2 (⟨rfl, rfl⟩) h3
 refine ⟨_, rfl, ?_⟩
 have h4 := ap1 h3
 refine yB0 [] [2] [(8, .bool false)] (.mk ?_)
 refine yK [(0, pV b), (8, .bool false)] fun lr5 => ?_
 refine yCf ?_
 refine ySk ?_
 obtain ⟨s6, m7, p8, c9, E10, hM11, h12⟩ := tab_open h4
 have hRl_ := hM11.2
 have h13 := tk5 (sf4 (sf3 (sf3 (sf3 (sf4 h12)))))
 have hl14 := fl_n eRs_ok (by decide) h13
 refine gi_join (x := CA Try.f30 [1, 1, 0]) (y := CA Try.f30 [1, 1, 1]) (fun a w => ∃ rb : Nat, ∃ s2 : Nat, ∃ r2 : Nat, ∃ p2 : Option Addr, ∃ c2 : Nat, ∃ lr : Fr, a = mk 39 (([(0, pV b), (3, pV rb)] : Fr) ++ lr) ∧ sat g w [Cl rb [pV s2, .map (some r2), .slice p2 RL.length c2] 76, Tb s2 n A, Gp kI vE r2 [], Sl 42 8 p2 RL.length c2 (fl eRs RL), Cl b [pV s6, .map (some m7), .slice p8 RL.length c9] 76, Tb s6 n A, Gp kI vE m7 E10, Sl 42 8 p8 RL.length c9 (fl eRs RL), R]) (by kernel_rfl) ?_ ?_
 ·
  refine gi_drw (id := 3) (ops := RA Try.f30 [1, 1, 0]) (Tr.fl 0 (Tr.fl 1 (Tr.fl 2 (Tr.fl 3 (Tr.fl 6 (Tr.fl 7 (Tr.fl 8 (Tr.fl 9 (Tr.an2 4 (Tr.an2 5 (Tr.an 10 (Tr.fl 11 (Tr.an 12 (Tr.fl 13 Tr.nil)))) 10 (Tr.an 5 (Tr.fl 11 (Tr.an 12 (Tr.fl 13 Tr.nil))))) 5 (Tr.an 4 (Tr.an 10 (Tr.fl 11 (Tr.an 12 (Tr.fl 13 Tr.nil)))))))))))))) (by kernel_rfl) (by kernel_rfl) (by kernel_rfl) (by kernel_rfl) (by kernel_rfl) (fun _ _ d _ _ h => by cases d <;> exact h) h13 ?_
  intro w15 h16
  refine yD _ [(18, .slice p8 RL.length c9), (17, .pointer (some ⟨b, 2, none⟩)), (16, pV b), (15, pV b), (12, pV s6), (11, pV b), (10, pV b), (9, pV b)] [e0 0, e0 1, e0 2, e2 3 [pV s6], e0 6, e0 7, e0 8, e2 9 [.slice p8 RL.length c9]] [(9, ⟨b, 2, none⟩, .slice p8 RL.length c9), (3, ⟨b, 0, none⟩, pV s6)] [] trivial (kC (sat_cell h16 1 rfl rfl) (kC (sat_cell h16 1 rfl rfl) nC)) ?_
  refine ⟨?_, ?_⟩
  ·
   have h18 := tk5 (sf4 (sf3 (sf3 (sf4 (sf4 h16)))))
   refine draw_act (i := 4) [(9, ⟨b, 2, none⟩, .slice p8 RL.length c9)] (by kernel_rfl) (by kernel_rfl) ?_
   refine yCl 13 Try.call53 (scopy_ht s6 n A) h18 ?_
   rintro v K w19 (⟨b17, rfl, rfl⟩) h20
   refine ⟨_, rfl, ?_⟩
   have h21 := ap2 h20
   refine ⟨(AllC_cons (sat_cell h21 3 rfl rfl) (AllC_nil _)), ?_⟩
   refine ⟨?_, ?_⟩
   ·
    refine draw_act (i := 5) [(9, ⟨b, 2, none⟩, .slice p8 RL.length c9)] (by kernel_rfl) (by kernel_rfl) ?_
    refine ag_makeMap (t := 73) (d := 14) kI vE (by kernel_rfl) (by kernel_rfl) rfl h21 ?_
    intro r22 w23 h24
    refine ⟨(AllC_cons (sat_cell h24 4 rfl rfl) (AllC_nil _)), ?_⟩
    have h27 := tk7 (sf6 (sf5 (sf5 (sf5 (sf6 (sf6 (sf6 h24)))))))
    refine draw_act (i := 10) [] (by kernel_rfl) (by kernel_rfl) ?_
    refine yCl 19 Try.call54 (rclone_ht p8 RL.length c9 RL (Sl 42 8 p8 RL.length c9 (fl eRs RL)) (gv_sl _ _ _) hl14 (by omega)) h27 ?_
    rintro v K w28 (⟨p25, c26, rfl, rfl⟩) h29
    refine ⟨_, rfl, ?_⟩
    have h30 := ap2 h29
    refine ⟨(AllC_nil _), ?_⟩
    refine yD _ [(20, .agg #[pV b17, .map (some r22), .slice p25 RL.length c26])] [e0 11] [] [] trivial nC ?_
    refine draw_act (i := 12) [] (by kernel_rfl) (by kernel_rfl) ?_
    refine yNp 21 76 [pV b17, .map (some r22), .slice p25 RL.length c26] h30 fun r31 w32 h33 => ?_
    refine ⟨(AllC_nil _), ?_⟩
    refine yD _ [(3, pV r31)] [e0 13] [] [] trivial nC ?_
    have h34 := tk9 (sf8 (sf8 (sf7 (sf6 (sf8 (sf6 (sf8 (sf3 (sf8 h33)))))))))
    exact ⟨r31, b17, r22, p25, c26, _, (mk_live [(0, pV b), (3, pV r31)] ⟨rfl, rfl, trivial⟩), h34⟩
   ·
    have h37 := tk6 (sf5 (sf4 (sf4 (sf5 (sf5 (sf5 h21))))))
    refine draw_act (i := 10) [] (by kernel_rfl) (by kernel_rfl) ?_
    refine yCl 19 Try.call54 (rclone_ht p8 RL.length c9 RL (Sl 42 8 p8 RL.length c9 (fl eRs RL)) (gv_sl _ _ _) hl14 (by omega)) h37 ?_
    rintro v K w38 (⟨p35, c36, rfl, rfl⟩) h39
    refine ⟨_, rfl, ?_⟩
    have h40 := ap2 h39
    refine ⟨(AllC_nil _), ?_⟩
    refine draw_act (i := 5) [] (by kernel_rfl) (by kernel_rfl) ?_
    refine ag_makeMap (t := 73) (d := 14) kI vE (by kernel_rfl) (by kernel_rfl) rfl h40 ?_
    intro r41 w42 h43
    refine ⟨(AllC_nil _), ?_⟩
    refine yD _ [(20, .agg #[pV b17, .map (some r41), .slice p35 RL.length c36])] [e0 11] [] [] trivial nC ?_
    refine draw_act (i := 12) [] (by kernel_rfl) (by kernel_rfl) ?_
    refine yNp 21 76 [pV b17, .map (some r41), .slice p35 RL.length c36] h43 fun r44 w45 h46 => ?_
    refine ⟨(AllC_nil _), ?_⟩
    refine yD _ [(3, pV r44)] [e0 13] [] [] trivial nC ?_
    have h47 := tk9 (sf8 (sf8 (sf7 (sf7 (sf8 (sf6 (sf8 (sf4 (sf8 h46)))))))))
    exact ⟨r44, b17, r41, p35, c36, _, (mk_live [(0, pV b), (3, pV r44)] ⟨rfl, rfl, trivial⟩), h47⟩
  ·
   refine draw_act (i := 5) [(9, ⟨b, 2, none⟩, .slice p8 RL.length c9), (3, ⟨b, 0, none⟩, pV s6)] (by kernel_rfl) (by kernel_rfl) ?_
   refine ag_makeMap (t := 73) (d := 14) kI vE (by kernel_rfl) (by kernel_rfl) rfl h16 ?_
   intro r48 w49 h50
   refine ⟨(AllC_cons (sat_cell h50 2 rfl rfl) (AllC_cons (sat_cell h50 2 rfl rfl) (AllC_nil _))), ?_⟩
   have h52 := tk6 (sf5 (sf4 (sf4 (sf4 (sf5 (sf5 h50))))))
   refine draw_act (i := 4) [(9, ⟨b, 2, none⟩, .slice p8 RL.length c9)] (by kernel_rfl) (by kernel_rfl) ?_
   refine yCl 13 Try.call53 (scopy_ht s6 n A) h52 ?_
   rintro v K w53 (⟨b51, rfl, rfl⟩) h54
   refine ⟨_, rfl, ?_⟩
   have h55 := ap2 h54
   refine ⟨(AllC_cons (sat_cell h55 4 rfl rfl) (AllC_nil _)), ?_⟩
   have h58 := tk7 (sf6 (sf5 (sf5 (sf5 (sf6 (sf6 (sf6 h55)))))))
   refine draw_act (i := 10) [] (by kernel_rfl) (by kernel_rfl) ?_
   refine yCl 19 Try.call54 (rclone_ht p8 RL.length c9 RL (Sl 42 8 p8 RL.length c9 (fl eRs RL)) (gv_sl _ _ _) hl14 (by omega)) h58 ?_
   rintro v K w59 (⟨p56, c57, rfl, rfl⟩) h60
   refine ⟨_, rfl, ?_⟩
   have h61 := ap2 h60
   refine ⟨(AllC_nil _), ?_⟩
   refine yD _ [(20, .agg #[pV b51, .map (some r48), .slice p56 RL.length c57])] [e0 11] [] [] trivial nC ?_
   refine draw_act (i := 12) [] (by kernel_rfl) (by kernel_rfl) ?_
   refine yNp 21 76 [pV b51, .map (some r48), .slice p56 RL.length c57] h61 fun r62 w63 h64 => ?_
   refine ⟨(AllC_nil _), ?_⟩
   refine yD _ [(3, pV r62)] [e0 13] [] [] trivial nC ?_
   have h65 := tk9 (sf8 (sf8 (sf8 (sf6 (sf8 (sf5 (sf8 (sf3 (sf8 h64)))))))))
   exact ⟨r62, b51, r48, p56, c57, _, (mk_live [(0, pV b), (3, pV r62)] ⟨rfl, rfl, trivial⟩), h65⟩
 ·
  rintro a66 w67 ⟨rb, s2, r2, p2, c2, lr69, rfl, h68⟩
  refine ySq ?_
  refine ySq ?_
  refine yPl [0, 1, 2, 3, 4] ?_
  refine yBb [4] [(25, .map (some m7)), (24, .pointer (some ⟨b, 1, none⟩)), (23, pV b), (22, pV b)] [e0 0, e0 1, e0 2, e2 3 [.map (some m7)]] [(3, ⟨b, 1, none⟩, .map (some m7))] [] trivial (kC (sat_cell h68 4 rfl rfl) nC) ?_
  have h70 := tk9 (sf8 (sf7 (sf7 (sf7 (sf7 (sf7 (sf7 (sf8 (sf8 h68)))))))))
  refine yA ?_
  refine ag_range (t := 73) (d := 26) (x := (Operand.tmp 25)) (by kernel_rfl) (by kernel_rfl) rfl Try.underlying73 (by kernel_rfl) h70 ?_
  intro r71 w72 h73
  refine PO.mk ?_
  refine yK [(3, pV rb), (26, pV r71)] fun lr74 => ?_
  refine yBk 0 ?_
  have h75 := tk9 (sf8 (sf8 (sf7 (sf7 (sf8 (sf8 (sf8 (sf8 (sf8 h73)))))))))
  refine gi_lp (x := CA Try.f30 [1, 1, 1, 0, 1, 0, 0]) (by kernel_rfl) (fun mz_ a w => ∃ S_ : Tm, ∃ Ec : Tm, ∃ cu_ : Option (Int × Ety), ∃ lr : Fr, mz_ = S_.length ∧ (Part E10 S_ Ec) ∧ a = mk 39 (([(3, pV rb), (26, pV r71)] : Fr) ++ lr) ∧ sat g w [It kI vE m7 r71 E10 S_ cu_, Gp kI vE r2 Ec, Cl rb [pV s2, .map (some r2), .slice p2 RL.length c2] 76, Tb s2 n A, Sl 42 8 p2 RL.length c2 (fl eRs RL), Cl b [pV s6, .map (some m7), .slice p8 RL.length c9] 76, Tb s6 n A, Sl 42 8 p8 RL.length c9 (fl eRs RL), R]) (E10.length) ⟨E10, [], none, _, rfl, (part_start hM11.1), (mk_live [(3, pV rb), (26, pV r71)] ⟨rfl, rfl, trivial⟩), h75⟩ ?_
  rintro m77 a78 w79 ⟨S_, Ec, cu_, lr76, rfl, hP_, rfl, h80⟩
  refine ySq ?_
  refine yPl [0, 1] ?_
  refine yA ?_
  refine ag_next (d := 27) (x := (Operand.tmp 26)) (by kernel_rfl) (by kernel_rfl) rfl (by kernel_rfl) h80 ?_ ?_
  ·
   intro hS81 w82 h83
   refine yB0 [] [1] [(28, .bool false)] (.mk ?_)
   refine yK [(3, pV rb), (26, pV r71), (28, .bool false)] fun lr89 => ?_
   refine ySq ?_
   refine yCf ?_
   refine yEx 0 ?_
   refine ySq ?_
   refine yPl [0, 1] ?_
   refine yB0 [] [0, 1] [(2, pV rb), (38, pV rb)] (.mk ?_)
   refine yK [(2, pV rb)] fun lr90 => ?_
   refine yRt ?_
   repeat (first | simp only [Exit.inBlock] | simp only [Exit.then])
   have h91 : sat g w82 [Gp kI vE m7 E10, Gp kI vE r2 Ec, Cl rb [pV s2, .map (some r2), .slice p2 RL.length c2] 76, Tb s2 n A, Sl 42 8 p2 RL.length c2 (fl eRs RL), Cl b [pV s6, .map (some m7), .slice p8 RL.length c9] 76, Tb s6 n A, Sl 42 8 p8 RL.length c9 (fl eRs RL), R] := it_end h83
   have h92 := tk9 (sf8 (sf8 (sf6 (sf8 (sf5 (sf5 (sf5 (sf5 (sf8 h91)))))))))
   have h93 : sat g w82 [Tab b n A E RL, Gp kI vE r2 Ec, Cl rb [pV s2, .map (some r2), .slice p2 RL.length c2] 76, Tb s2 n A, Sl 42 8 p2 RL.length c2 (fl eRs RL), R] := tab_close hM11.1 (by omega) (by first | rfl | omega) h92
   have h94 := tk6 (sf5 (sf5 (sf3 (sf5 (sf1 (sf5 h93))))))
   have h95 : sat g w82 [Tab rb n A E RL, Tab b n A E RL, R] := tab_close (part_end (hS81 ▸ hP_) hM11.1) (by omega) (by first | rfl | omega) h94
   have h96 := tk3 (sf2 (sf1 (sf2 h95)))
   refine hi_out [] (pV rb) [] (by kernel_rfl) (by intro q hq; cases hq) ?_
   exact ⟨pV rb, [Tab b n A E RL, Tab rb n A E RL], rfl, ⟨rb, rfl, rfl⟩, h96⟩
  ·
   intro ix84 q85 hq86 w87 h88
   have hel97 := erase_len hq86
   refine yB0 [] [1] [(28, .bool true)] (.mk ?_)
   refine yK [(3, pV rb), (26, pV r71), (28, .bool true)] fun lr98 => ?_
   refine ySq ?_
   refine yCt ?_
   refine ySk ?_
   refine yBk 1 ?_
   refine ySq ?_
   refine yPl [0, 1, 2, 3, 4, 5] ?_
   refine yA ?_
   refine act_law (d := 29) (.tuple #[iV q85.1, .agg #[iV q85.2.d.1, iV q85.2.d.2.1, uV q85.2.d.2.2, iV q85.2.num, iV q85.2.h.1, uV q85.2.h.2]]) (by kernel_rfl) rfl (law_entry (o := opA (RA Try.f30 [1, 1, 1, 0, 1, 0, 0, 1, 1, 0, 0]) 0) (x := (Operand.tmp 26)) (by kernel_rfl) (by kernel_rfl) h88 (.tuple #[iV q85.1, .agg #[iV q85.2.d.1, iV q85.2.d.2.1, uV q85.2.d.2.2, iV q85.2.num, iV q85.2.h.1, uV q85.2.h.2]]) rfl) ?_
   refine yB0 [3, 4, 5] [1, 2] [(31, .agg #[iV q85.2.d.1, iV q85.2.d.2.1, uV q85.2.d.2.2, iV q85.2.num, iV q85.2.h.1, uV q85.2.h.2]), (30, iV q85.1)] ?_
   refine yA ?_
   refine yNp 5 90 [iV 0, iV 0, uV 0, iV 0, iV 0, uV 0] h88 fun r99 w100 h101 => ?_
   refine yB0 [5] [4] [(4, iV q85.1)] ?_
   refine yA ?_
   refine yS [(0, iV q85.2.d.1), (1, iV q85.2.d.2.1), (2, uV q85.2.d.2.2), (3, iV q85.2.num), (4, iV q85.2.h.1), (5, uV q85.2.h.2)] [iV q85.2.d.1, iV q85.2.d.2.1, uV q85.2.d.2.2, iV q85.2.num, iV q85.2.h.1, uV q85.2.h.2] h101 fun w102 h103 => ?_
   refine PO.mk ?_
   refine yK [(3, pV rb), (4, iV q85.1), (5, pV r99), (26, pV r71)] fun lr104 => ?_
   refine gi_drw (id := 7) (ops := RA Try.f30 [1, 1, 1, 0, 1, 0, 0, 1, 1, 0, 1]) (Tr.fl 0 (Tr.fl 1 (Tr.fl 2 (Tr.fl 3 (Tr.fl 4 (Tr.fl 5 (Tr.an 6 Tr.nil))))))) (by kernel_rfl) (by kernel_rfl) (by kernel_rfl) (by kernel_rfl) (by kernel_rfl) (fun _ _ d _ _ h => by cases d <;> exact h) h103 ?_
   intro w105 h106
   refine yD _ [(37, .agg #[iV q85.2.d.1, iV q85.2.d.2.1, uV q85.2.d.2.2, iV q85.2.num, iV q85.2.h.1, uV q85.2.h.2]), (36, iV q85.1), (35, .map (some r2)), (34, .pointer (some ⟨rb, 1, none⟩)), (33, pV rb), (32, pV rb)] [e0 0, e0 1, e0 2, e2 3 [.map (some r2)], e0 4, e2 5 [iV q85.2.d.1, iV q85.2.d.2.1, uV q85.2.d.2.2, iV q85.2.num, iV q85.2.h.1, uV q85.2.h.2]] [(5, ⟨r99, 0, none⟩, iV q85.2.d.1), (5, ⟨r99, 1, none⟩, iV q85.2.d.2.1), (5, ⟨r99, 2, none⟩, uV q85.2.d.2.2), (5, ⟨r99, 3, none⟩, iV q85.2.num), (5, ⟨r99, 4, none⟩, iV q85.2.h.1), (5, ⟨r99, 5, none⟩, uV q85.2.h.2), (3, ⟨rb, 1, none⟩, .map (some r2))] [] trivial (kC (sat_cell h106 0 rfl rfl) (kC (sat_cell h106 0 rfl rfl) (kC (sat_cell h106 0 rfl rfl) (kC (sat_cell h106 0 rfl rfl) (kC (sat_cell h106 0 rfl rfl) (kC (sat_cell h106 0 rfl rfl) (kC (sat_cell h106 3 rfl rfl) nC))))))) ?_
   have h107 := tk10 (sf9 (sf8 (sf8 (sf9 (sf9 (sf9 (sf9 (sf9 (sf9 (sf9 h106))))))))))
   refine draw_act (i := 6) [] (by kernel_rfl) (by kernel_rfl) ?_
   refine ag_mapUpdate (t := 73) (m := (Operand.tmp 35)) (x := (Operand.tmp 36)) (y := (Operand.tmp 37)) (kv := kI) (ve := vE) (by kernel_rfl) (by kernel_rfl) Try.underlying73 kyI q85.1 (⟨(q85.2.d.1, q85.2.d.2.1, q85.2.d.2.2), q85.2.num, (q85.2.h.1, q85.2.h.2)⟩ : Ety) (by kernel_rfl) (by kernel_rfl) (by kernel_rfl) h107 (gset Ec q85.1 ⟨(q85.2.d.1, q85.2.d.2.1, q85.2.d.2.2), q85.2.num, (q85.2.h.1, q85.2.h.2)⟩) rfl ?_
   intro w108 h109
   refine ⟨(AllC_nil _), ?_⟩
   have h110 := tk10 (sf9 (sf8 (sf9 (sf9 (sf9 (sf9 (sf9 (sf9 (sf9 (sf1 h109))))))))))
   have h111 := tk9 h110
   change ∃ n', n' < _ ∧ _
   refine ⟨(S_.eraseIdx ix84).length, by omega, (S_.eraseIdx ix84), (gset Ec q85.1 ⟨(q85.2.d.1, q85.2.d.2.1, q85.2.d.2.2), q85.2.num, (q85.2.h.1, q85.2.h.2)⟩), (some q85), _, rfl, (part_go hP_ hq86), (mk_live [(3, pV rb), (26, pV r71)] ⟨rfl, rfl, trivial⟩), h111⟩

end Go.Proofs.Ytjjpmehiolejgaa
