/- Walks, printed by my generator gen12.py. -/
import Derived.Test.YtafencnieimpnaaG5
import Derived.Test.YtafencnieimpnaaG6
import Derived.Test.YtafencnieimpnaaG7
namespace Go.Proofs.Ytafencnieimpnaa
set_option maxHeartbeats 4000000 in
theorem apart_law (wo : World) (p0 : Option Addr) (n cp : Nat) (T : List Tn) (hr : Rd wo p0 n (fl eT T)) (hT : T.length = n) (hT2 : TnOk T) (p1 : Option Addr) (n1 cp1 : Nat) (T1 : List Tn) (hr1 : Rd wo p1 n1 (fl eT T1)) (hT1 : T1.length = n1) (hT21 : TnOk T1) : HT Try.prog 7 [Value.slice p0 n cp, Value.slice p1 n1 cp1] [Old wo] (fun v K => v = Value.bool true ∧ K = [Old wo]) := by
  refine ht_in 80 [(0, Value.slice p0 n cp), (1, Value.slice p1 n1 cp1)] Try.func7 (by kernel_rfl) Try.ntmps7 rfl rfl ?_
  intro g w0 R h0
  refine go_seq (x := CA Try.f7 [0]) (y := CA Try.f7 [1]) (by kernel_rfl) ?_
  refine go_pln (id := 0) (ops := RA Try.f7 [0]) [0] (by kernel_rfl) (by kernel_rfl) ?_
  refine plain_batch (rest := []) [⟨0, [], none⟩] (l' := [(4, Value.bool false), (0, Value.slice p0 n cp), (1, Value.slice p1 n1 cp1)]) (pts' := []) (eqs := []) (by kernel_rfl) trivial (AllC_nil _) ?_
  change Code.wp _ (CA Try.f7 [1]) _ _ _
  refine fr_cut [(0, Value.slice p0 n cp), (1, Value.slice p1 n1 cp1), (4, Value.bool false)] ⟨rfl, rfl, rfl, trivial⟩ (fun a => Code.wp _ _ _ a _) (fun lr1 => ?_)
  refine go_seq (x := CA Try.f7 [1, 0]) (y := CA Try.f7 [1, 1]) (by kernel_rfl) ?_
  refine go_seq (x := CA Try.f7 [1, 0, 0]) (y := CA Try.f7 [1, 0, 1]) (by kernel_rfl) ?_
  refine go_pln (id := 1) (ops := RA Try.f7 [1, 0, 0]) [0, 1, 2, 3, 4, 5, 6, 7] (by kernel_rfl) (by kernel_rfl) ?_
  refine plain_batch (rest := [2, 3, 4, 5, 6, 7]) [⟨0, [], none⟩, ⟨1, [], none⟩] (l' := [(13, Value.int IntKind.i64 (((n : Nat) : Int))), (12, Value.slice p0 n cp), (0, Value.slice p0 n cp), (1, Value.slice p1 n1 cp1), (4, Value.bool false)] ++ lr1) (pts' := []) (eqs := []) (by kernel_rfl) trivial (AllC_nil _) ?_
  by_cases c2 : ((n : Nat) : Int) > 100
  ·
    refine plain_batch (rest := []) [⟨2, [], some (Value.bool true)⟩, ⟨3, [], none⟩, ⟨4, [], none⟩, ⟨5, [], none⟩, ⟨6, [], none⟩, ⟨7, [], none⟩] (l' := [(19, Value.bool true), (18, undef), (17, undef), (16, undef), (15, Value.bool true), (14, Value.bool true), (13, Value.int IntKind.i64 (((n : Nat) : Int))), (12, Value.slice p0 n cp), (0, Value.slice p0 n cp), (1, Value.slice p1 n1 cp1), (4, Value.bool false)] ++ lr1) (pts' := []) (eqs := [(Value.bool (decide (((n : Nat) : Int) > 100)), Value.bool true)]) (by kernel_rfl) ⟨(ov_t (by omega)), trivial⟩ (AllC_nil _) ?_
    change Code.wp _ (CA Try.f7 [1, 0, 1]) _ _ _
    refine fr_cut [(0, Value.slice p0 n cp), (1, Value.slice p1 n1 cp1), (4, Value.bool false), (19, Value.bool true)] ⟨rfl, rfl, rfl, rfl, trivial⟩ (fun a => Code.wp _ _ _ a _) (fun lr3 => ?_)
    refine go_cnd (x := (Operand.tmp 19)) (s := CA Try.f7 [1, 0, 1, 0]) (t := CA Try.f7 [1, 0, 1, 1]) true (by kernel_rfl) (by kernel_rfl) ?_
    change Code.wp _ (CA Try.f7 [1, 0, 1, 0]) _ _ _
    refine go_seq (x := CA Try.f7 [1, 0, 1, 0, 0]) (y := CA Try.f7 [1, 0, 1, 0, 1]) (by kernel_rfl) ?_
    refine go_pln (id := 2) (ops := RA Try.f7 [1, 0, 1, 0, 0]) [0, 1] (by kernel_rfl) (by kernel_rfl) ?_
    refine plain_act (i := 0) (by kernel_rfl) ?_
    refine an_call (d := some 20) (f := 11) (args := []) (by kernel_rfl) Try.call11 (works_ht) (F := [Old wo, R]) h0 ?_
    rintro v K w4 (⟨rfl, rfl⟩) h5
    refine ⟨_, rfl, ?_⟩
    have h6 : sat g w4 [Old wo, R] := h5
    refine plain_batch (rest := []) [⟨1, [], none⟩] (l' := [(4, Value.bool true), (20, Value.bool true), (0, Value.slice p0 n cp), (1, Value.slice p1 n1 cp1), (4, Value.bool false), (19, Value.bool true)] ++ lr3) (pts' := []) (eqs := []) (by kernel_rfl) trivial (AllC_nil _) ?_
    change Code.wp _ (CA Try.f7 [1, 0, 1, 0, 1]) _ _ _
    refine fr_cut [(0, Value.slice p0 n cp), (1, Value.slice p1 n1 cp1), (4, Value.bool true), (19, Value.bool true)] ⟨rfl, rfl, rfl, rfl, trivial⟩ (fun a => Code.wp _ _ _ a _) (fun lr7 => ?_)
    refine go_rt (by kernel_rfl) ?_
    try simp only [Exit.inBlock, Exit.then]
    refine ht_out [] (Value.bool true) [] (by kernel_rfl) (by intro q hq; cases hq) ?_
    exact ⟨Value.bool true, [Old wo], rfl, ⟨rfl, rfl⟩, h6⟩
  ·
    refine plain_batch (rest := [6, 7]) [⟨2, [], some (Value.bool false)⟩, ⟨3, [], none⟩, ⟨4, [], none⟩, ⟨5, [], none⟩] (l' := [(17, Value.int IntKind.i64 (((n1 : Nat) : Int))), (16, Value.slice p1 n1 cp1), (15, Value.bool false), (14, Value.bool false), (13, Value.int IntKind.i64 (((n : Nat) : Int))), (12, Value.slice p0 n cp), (0, Value.slice p0 n cp), (1, Value.slice p1 n1 cp1), (4, Value.bool false)] ++ lr1) (pts' := []) (eqs := [(Value.bool (decide (((n : Nat) : Int) > 100)), Value.bool false)]) (by kernel_rfl) ⟨(ov_f (by omega)), trivial⟩ (AllC_nil _) ?_
    by_cases c8 : ((n1 : Nat) : Int) > 60
    ·
      refine plain_batch (rest := []) [⟨6, [], some (Value.bool true)⟩, ⟨7, [], none⟩] (l' := [(19, Value.bool true), (18, Value.bool true), (17, Value.int IntKind.i64 (((n1 : Nat) : Int))), (16, Value.slice p1 n1 cp1), (15, Value.bool false), (14, Value.bool false), (13, Value.int IntKind.i64 (((n : Nat) : Int))), (12, Value.slice p0 n cp), (0, Value.slice p0 n cp), (1, Value.slice p1 n1 cp1), (4, Value.bool false)] ++ lr1) (pts' := []) (eqs := [(Value.bool (decide (((n1 : Nat) : Int) > 60)), Value.bool true)]) (by kernel_rfl) ⟨(ov_t (by omega)), trivial⟩ (AllC_nil _) ?_
      change Code.wp _ (CA Try.f7 [1, 0, 1]) _ _ _
      refine fr_cut [(0, Value.slice p0 n cp), (1, Value.slice p1 n1 cp1), (4, Value.bool false), (19, Value.bool true)] ⟨rfl, rfl, rfl, rfl, trivial⟩ (fun a => Code.wp _ _ _ a _) (fun lr9 => ?_)
      refine go_cnd (x := (Operand.tmp 19)) (s := CA Try.f7 [1, 0, 1, 0]) (t := CA Try.f7 [1, 0, 1, 1]) true (by kernel_rfl) (by kernel_rfl) ?_
      change Code.wp _ (CA Try.f7 [1, 0, 1, 0]) _ _ _
      refine go_seq (x := CA Try.f7 [1, 0, 1, 0, 0]) (y := CA Try.f7 [1, 0, 1, 0, 1]) (by kernel_rfl) ?_
      refine go_pln (id := 2) (ops := RA Try.f7 [1, 0, 1, 0, 0]) [0, 1] (by kernel_rfl) (by kernel_rfl) ?_
      refine plain_act (i := 0) (by kernel_rfl) ?_
      refine an_call (d := some 20) (f := 11) (args := []) (by kernel_rfl) Try.call11 (works_ht) (F := [Old wo, R]) h0 ?_
      rintro v K w10 (⟨rfl, rfl⟩) h11
      refine ⟨_, rfl, ?_⟩
      have h12 : sat g w10 [Old wo, R] := h11
      refine plain_batch (rest := []) [⟨1, [], none⟩] (l' := [(4, Value.bool true), (20, Value.bool true), (0, Value.slice p0 n cp), (1, Value.slice p1 n1 cp1), (4, Value.bool false), (19, Value.bool true)] ++ lr9) (pts' := []) (eqs := []) (by kernel_rfl) trivial (AllC_nil _) ?_
      change Code.wp _ (CA Try.f7 [1, 0, 1, 0, 1]) _ _ _
      refine fr_cut [(0, Value.slice p0 n cp), (1, Value.slice p1 n1 cp1), (4, Value.bool true), (19, Value.bool true)] ⟨rfl, rfl, rfl, rfl, trivial⟩ (fun a => Code.wp _ _ _ a _) (fun lr13 => ?_)
      refine go_rt (by kernel_rfl) ?_
      try simp only [Exit.inBlock, Exit.then]
      refine ht_out [] (Value.bool true) [] (by kernel_rfl) (by intro q hq; cases hq) ?_
      exact ⟨Value.bool true, [Old wo], rfl, ⟨rfl, rfl⟩, h12⟩
    ·
      refine plain_batch (rest := []) [⟨6, [], some (Value.bool false)⟩, ⟨7, [], none⟩] (l' := [(19, Value.bool false), (18, Value.bool false), (17, Value.int IntKind.i64 (((n1 : Nat) : Int))), (16, Value.slice p1 n1 cp1), (15, Value.bool false), (14, Value.bool false), (13, Value.int IntKind.i64 (((n : Nat) : Int))), (12, Value.slice p0 n cp), (0, Value.slice p0 n cp), (1, Value.slice p1 n1 cp1), (4, Value.bool false)] ++ lr1) (pts' := []) (eqs := [(Value.bool (decide (((n1 : Nat) : Int) > 60)), Value.bool false)]) (by kernel_rfl) ⟨(ov_f (by omega)), trivial⟩ (AllC_nil _) ?_
      change Code.wp _ (CA Try.f7 [1, 0, 1]) _ _ _
      refine fr_cut [(0, Value.slice p0 n cp), (1, Value.slice p1 n1 cp1), (4, Value.bool false), (19, Value.bool false)] ⟨rfl, rfl, rfl, rfl, trivial⟩ (fun a => Code.wp _ _ _ a _) (fun lr14 => ?_)
      refine go_cnd (x := (Operand.tmp 19)) (s := CA Try.f7 [1, 0, 1, 0]) (t := CA Try.f7 [1, 0, 1, 1]) false (by kernel_rfl) (by kernel_rfl) ?_
      change Code.wp _ (CA Try.f7 [1, 0, 1, 1]) _ _ _
      refine go_skp (by kernel_rfl) ?_
      change Code.wp _ (CA Try.f7 [1, 1]) _ _ _
      refine go_seq (x := CA Try.f7 [1, 1, 0]) (y := CA Try.f7 [1, 1, 1]) (by kernel_rfl) ?_
      refine go_pln (id := 3) (ops := RA Try.f7 [1, 1, 0]) [0, 1, 2, 3, 4, 5, 6] (by kernel_rfl) (by kernel_rfl) ?_
      refine plain_batch (rest := [1, 2, 3, 4, 5, 6]) [⟨0, [], none⟩] (l' := [(22, Value.slice p0 n cp), (0, Value.slice p0 n cp), (1, Value.slice p1 n1 cp1), (4, Value.bool false), (19, Value.bool false)] ++ lr14) (pts' := []) (eqs := []) (by kernel_rfl) trivial (AllC_nil _) ?_
      refine plain_act (i := 1) (by kernel_rfl) ?_
      refine an_call (d := some 23) (f := 12) (args := [Value.slice p0 n cp]) (by kernel_rfl) Try.call12 (made_ht wo p0 n cp T hr hT hT2 (by omega)) (F := [R]) h0 ?_
      rintro v K w23 (⟨b15, p16, m17, c18, L19, rfl, hm20, hm21, hg22, rfl⟩) h24
      refine ⟨_, rfl, ?_⟩
      have h25 : sat g w23 [PStk b15 L19, Sl 25 2 p16 m17 c18 (fl eR L19), Old wo, R] := h24
      refine plain_batch (rest := []) [⟨2, [], none⟩, ⟨3, [], none⟩, ⟨4, [], none⟩, ⟨5, [], none⟩, ⟨6, [], none⟩] (l' := [(6, Value.slice p16 m17 c18), (5, Value.pointer (some ⟨b15, 0, none⟩)), (25, Value.slice p16 m17 c18), (24, Value.pointer (some ⟨b15, 0, none⟩)), (21, Value.tuple #[Value.pointer (some ⟨b15, 0, none⟩), Value.slice p16 m17 c18]), (23, Value.tuple #[Value.pointer (some ⟨b15, 0, none⟩), Value.slice p16 m17 c18]), (22, Value.slice p0 n cp), (0, Value.slice p0 n cp), (1, Value.slice p1 n1 cp1), (4, Value.bool false), (19, Value.bool false)] ++ lr14) (pts' := []) (eqs := []) (by kernel_rfl) trivial (AllC_nil _) ?_
      change Code.wp _ (CA Try.f7 [1, 1, 1]) _ _ _
      refine fr_cut [(0, Value.slice p0 n cp), (1, Value.slice p1 n1 cp1), (4, Value.bool false), (5, Value.pointer (some ⟨b15, 0, none⟩)), (6, Value.slice p16 m17 c18), (19, Value.bool false)] ⟨rfl, rfl, rfl, rfl, rfl, rfl, trivial⟩ (fun a => Code.wp _ _ _ a _) (fun lr26 => ?_)
      refine go_seq (x := CA Try.f7 [1, 1, 1, 0]) (y := CA Try.f7 [1, 1, 1, 1]) (by kernel_rfl) ?_
      refine go_pln (id := 4) (ops := RA Try.f7 [1, 1, 1, 0]) [0, 1, 2] (by kernel_rfl) (by kernel_rfl) ?_
      refine plain_batch (rest := [1, 2]) [⟨0, [], none⟩] (l' := [(26, Value.pointer (some ⟨b15, 0, none⟩)), (0, Value.slice p0 n cp), (1, Value.slice p1 n1 cp1), (4, Value.bool false), (5, Value.pointer (some ⟨b15, 0, none⟩)), (6, Value.slice p16 m17 c18), (19, Value.bool false)] ++ lr26) (pts' := []) (eqs := []) (by kernel_rfl) trivial (AllC_nil _) ?_
      refine plain_act (i := 1) (by kernel_rfl) ?_
      refine an_call (d := some 27) (f := 21) (args := [Value.pointer (some ⟨b15, 0, none⟩)]) (by kernel_rfl) Try.call21 (all_n b15 L19 m17 hm20) (F := [Sl 25 2 p16 m17 c18 (fl eR L19), Old wo, R]) h25 ?_
      rintro v K w29 (⟨p27, c28, rfl, rfl⟩) h30
      refine ⟨_, rfl, ?_⟩
      have h31 : sat g w29 [PStk b15 L19, Sl 25 2 p27 m17 c28 (fl eR L19), Sl 25 2 p16 m17 c18 (fl eR L19), Old wo, R] := h30
      refine plain_batch (rest := []) [⟨2, [], none⟩] (l' := [(7, Value.slice p27 m17 c28), (27, Value.slice p27 m17 c28), (26, Value.pointer (some ⟨b15, 0, none⟩)), (0, Value.slice p0 n cp), (1, Value.slice p1 n1 cp1), (4, Value.bool false), (5, Value.pointer (some ⟨b15, 0, none⟩)), (6, Value.slice p16 m17 c18), (19, Value.bool false)] ++ lr26) (pts' := []) (eqs := []) (by kernel_rfl) trivial (AllC_nil _) ?_
      change Code.wp _ (CA Try.f7 [1, 1, 1, 1]) _ _ _
      refine fr_cut [(0, Value.slice p0 n cp), (1, Value.slice p1 n1 cp1), (4, Value.bool false), (5, Value.pointer (some ⟨b15, 0, none⟩)), (6, Value.slice p16 m17 c18), (7, Value.slice p27 m17 c28), (19, Value.bool false)] ⟨rfl, rfl, rfl, rfl, rfl, rfl, rfl, trivial⟩ (fun a => Code.wp _ _ _ a _) (fun lr32 => ?_)
      refine go_seq (x := CA Try.f7 [1, 1, 1, 1, 0]) (y := CA Try.f7 [1, 1, 1, 1, 1]) (by kernel_rfl) ?_
      refine go_seq (x := CA Try.f7 [1, 1, 1, 1, 0, 0]) (y := CA Try.f7 [1, 1, 1, 1, 0, 1]) (by kernel_rfl) ?_
      refine go_pln (id := 5) (ops := RA Try.f7 [1, 1, 1, 1, 0, 0]) [0] (by kernel_rfl) (by kernel_rfl) ?_
      refine plain_batch (rest := []) [⟨0, [], none⟩] (l' := [(8, Value.int IntKind.i64 0), (0, Value.slice p0 n cp), (1, Value.slice p1 n1 cp1), (4, Value.bool false), (5, Value.pointer (some ⟨b15, 0, none⟩)), (6, Value.slice p16 m17 c18), (7, Value.slice p27 m17 c28), (19, Value.bool false)] ++ lr32) (pts' := []) (eqs := []) (by kernel_rfl) trivial (AllC_nil _) ?_
      change Code.wp _ (CA Try.f7 [1, 1, 1, 1, 0, 1]) _ _ _
      refine fr_cut [(0, Value.slice p0 n cp), (1, Value.slice p1 n1 cp1), (4, Value.bool false), (5, Value.pointer (some ⟨b15, 0, none⟩)), (6, Value.slice p16 m17 c18), (7, Value.slice p27 m17 c28), (8, Value.int IntKind.i64 0), (19, Value.bool false)] ⟨rfl, rfl, rfl, rfl, rfl, rfl, rfl, rfl, trivial⟩ (fun a => Code.wp _ _ _ a _) (fun lr33 => ?_)
      refine go_blk (id := 0) (x := CA Try.f7 [1, 1, 1, 1, 0, 1, 0]) (by kernel_rfl) ?_
      have h34 : sat g w29 [Sl 25 2 p27 m17 c28 (fl eR L19), PStk b15 L19, Sl 25 2 p16 m17 c18 (fl eR L19), Old wo, R] := sat_sel [1, 0, 2, 3, 4] rfl h31
      refine lp (x := CA Try.f7 [1, 1, 1, 1, 0, 1, 0, 0]) (by kernel_rfl) (fun mz_ a w => ∃ i : Nat, ∃ cs : List Value, ∃ lr : Fr, mz_ = m17 - i ∧ (i ≤ m17) ∧ a = mk 80 ([(1, Value.slice p1 n1 cp1), (5, Value.pointer (some ⟨b15, 0, none⟩)), (6, Value.slice p16 m17 c18), (7, Value.slice p27 m17 c28), (8, Value.int IntKind.i64 (((i : Nat) : Int)))] ++ lr) ∧ sat g w [Sl 25 2 p27 m17 c28 cs, PStk b15 L19, Sl 25 2 p16 m17 c18 (fl eR L19), Old wo, R]) (m17) ⟨0, (fl eR L19), _, rfl, (Nat.zero_le _), (mk_live [(1, Value.slice p1 n1 cp1), (5, Value.pointer (some ⟨b15, 0, none⟩)), (6, Value.slice p16 m17 c18), (7, Value.slice p27 m17 c28), (8, Value.int IntKind.i64 (((0 : Nat) : Int)))] ⟨rfl, rfl, rfl, rfl, (ov_int (by omega)), trivial⟩), h34⟩ ?_
      rintro m36 a37 w38 ⟨i, cs, lr35, rfl, hi, rfl, h39⟩
      change Code.wp _ (CA Try.f7 [1, 1, 1, 1, 0, 1, 0, 0]) _ _ _
      refine go_seq (x := CA Try.f7 [1, 1, 1, 1, 0, 1, 0, 0, 0]) (y := CA Try.f7 [1, 1, 1, 1, 0, 1, 0, 0, 1]) (by kernel_rfl) ?_
      refine go_seq (x := CA Try.f7 [1, 1, 1, 1, 0, 1, 0, 0, 0, 0]) (y := CA Try.f7 [1, 1, 1, 1, 0, 1, 0, 0, 0, 1]) (by kernel_rfl) ?_
      refine go_pln (id := 6) (ops := RA Try.f7 [1, 1, 1, 1, 0, 1, 0, 0, 0, 0]) [0, 1, 2, 3] (by kernel_rfl) (by kernel_rfl) ?_
      refine plain_batch (rest := [3]) [⟨0, [], none⟩, ⟨1, [], none⟩, ⟨2, [], none⟩] (l' := [(30, Value.int IntKind.i64 (((m17 : Nat) : Int))), (29, Value.slice p27 m17 c28), (28, Value.int IntKind.i64 (((i : Nat) : Int))), (1, Value.slice p1 n1 cp1), (5, Value.pointer (some ⟨b15, 0, none⟩)), (6, Value.slice p16 m17 c18), (7, Value.slice p27 m17 c28), (8, Value.int IntKind.i64 (((i : Nat) : Int)))] ++ lr35) (pts' := []) (eqs := []) (by kernel_rfl) trivial (AllC_nil _) ?_
      by_cases c40 : ((i : Nat) : Int) < ((m17 : Nat) : Int)
      ·
        refine plain_batch (rest := []) [⟨3, [], some (Value.bool true)⟩] (l' := [(31, Value.bool true), (30, Value.int IntKind.i64 (((m17 : Nat) : Int))), (29, Value.slice p27 m17 c28), (28, Value.int IntKind.i64 (((i : Nat) : Int))), (1, Value.slice p1 n1 cp1), (5, Value.pointer (some ⟨b15, 0, none⟩)), (6, Value.slice p16 m17 c18), (7, Value.slice p27 m17 c28), (8, Value.int IntKind.i64 (((i : Nat) : Int)))] ++ lr35) (pts' := []) (eqs := [(Value.bool (decide (((i : Nat) : Int) < ((m17 : Nat) : Int))), Value.bool true)]) (by kernel_rfl) ⟨(ov_t (by omega)), trivial⟩ (AllC_nil _) ?_
        change Code.wp _ (CA Try.f7 [1, 1, 1, 1, 0, 1, 0, 0, 0, 1]) _ _ _
        refine fr_cut [(1, Value.slice p1 n1 cp1), (5, Value.pointer (some ⟨b15, 0, none⟩)), (6, Value.slice p16 m17 c18), (7, Value.slice p27 m17 c28), (8, Value.int IntKind.i64 (((i : Nat) : Int))), (31, Value.bool true)] ⟨rfl, rfl, rfl, rfl, rfl, rfl, trivial⟩ (fun a => Code.wp _ _ _ a _) (fun lr41 => ?_)
        refine go_cnd (x := (Operand.tmp 31)) (s := CA Try.f7 [1, 1, 1, 1, 0, 1, 0, 0, 0, 1, 0]) (t := CA Try.f7 [1, 1, 1, 1, 0, 1, 0, 0, 0, 1, 1]) true (by kernel_rfl) (by kernel_rfl) ?_
        change Code.wp _ (CA Try.f7 [1, 1, 1, 1, 0, 1, 0, 0, 0, 1, 0]) _ _ _
        refine go_skp (by kernel_rfl) ?_
        change Code.wp _ (CA Try.f7 [1, 1, 1, 1, 0, 1, 0, 0, 1]) _ _ _
        refine go_seq (x := CA Try.f7 [1, 1, 1, 1, 0, 1, 0, 0, 1, 0]) (y := CA Try.f7 [1, 1, 1, 1, 0, 1, 0, 0, 1, 1]) (by kernel_rfl) ?_
        refine go_blk (id := 1) (x := CA Try.f7 [1, 1, 1, 1, 0, 1, 0, 0, 1, 0, 0]) (by kernel_rfl) ?_
        refine go_pln (id := 8) (ops := RA Try.f7 [1, 1, 1, 1, 0, 1, 0, 0, 1, 0, 0]) [0, 1, 2, 3, 4] (by kernel_rfl) (by kernel_rfl) ?_
        obtain ⟨b42, hp43⟩ := sl_ptr0 (j := 0) h39 rfl (by omega)
        refine plain_batch (rest := [3, 4]) [⟨0, [], none⟩, ⟨1, [], none⟩, ⟨2, [], none⟩] (l' := [(36, Value.agg #[Value.int IntKind.i64 9, Value.int IntKind.u32 9]), (35, Value.int IntKind.i64 (((i : Nat) : Int))), (34, Value.slice p27 m17 c28), (1, Value.slice p1 n1 cp1), (5, Value.pointer (some ⟨b15, 0, none⟩)), (6, Value.slice p16 m17 c18), (7, Value.slice p27 m17 c28), (8, Value.int IntKind.i64 (((i : Nat) : Int))), (31, Value.bool true)] ++ lr41) (pts' := []) (eqs := []) (by kernel_rfl) trivial (AllC_nil _) ?_
        refine plain_law (i := 3) 37 (Value.pointer (some ⟨b42, i * 2, none⟩)) (by kernel_rfl) (law_indexSlP (o := opA (RA Try.f7 [1, 1, 1, 1, 0, 1, 0, 0, 1, 0, 0]) 3) (x := (Operand.tmp 34)) (i := (Operand.tmp 35)) (p := p27) (b := b42) (off := 0) (z := (((i : Nat) : Int))) (len := m17) (cap := c28) (by kernel_rfl) Try.underlying28 2 (by kernel_rfl) i (by kernel_rfl) hp43 (by kernel_rfl) (by omega) (by omega) (i * 2) (by omega) _) ?_
        refine plain_act (i := 4) (by kernel_rfl) ?_
        refine an_storeSl (b := b42) [(i * 2, Value.int IntKind.i64 9), (i * 2 + 1, Value.int IntKind.u32 9)] (cs' := (setL cs [(i * 2, Value.int IntKind.i64 9), (i * 2 + 1, Value.int IntKind.u32 9)])) (by kernel_rfl) (by kernel_rfl) hp43 (allq ⟨⟨by omega, rfl⟩, ⟨by omega, rfl⟩, trivial⟩) (by omega) rfl h39 ?_
        intro w44 (h45 : sat g w44 [Sl 25 2 p27 m17 c28 (setL cs [(i * 2, Value.int IntKind.i64 9), (i * 2 + 1, Value.int IntKind.u32 9)]), PStk b15 L19, Sl 25 2 p16 m17 c18 (fl eR L19), Old wo, R])
        change Code.wp _ (CA Try.f7 [1, 1, 1, 1, 0, 1, 0, 0, 1, 1]) _ _ _
        refine fr_cut [(1, Value.slice p1 n1 cp1), (5, Value.pointer (some ⟨b15, 0, none⟩)), (6, Value.slice p16 m17 c18), (7, Value.slice p27 m17 c28), (8, Value.int IntKind.i64 (((i : Nat) : Int))), (31, Value.bool true)] ⟨rfl, rfl, rfl, rfl, rfl, rfl, trivial⟩ (fun a => Code.wp _ _ _ a _) (fun lr46 => ?_)
        refine go_pln (id := 7) (ops := RA Try.f7 [1, 1, 1, 1, 0, 1, 0, 0, 1, 1]) [0, 1, 2] (by kernel_rfl) (by kernel_rfl) ?_
        refine plain_batch (rest := []) [⟨0, [], none⟩, ⟨1, [], some (Value.int IntKind.i64 (((i : Nat) : Int) + 1))⟩, ⟨2, [], none⟩] (l' := [(8, Value.int IntKind.i64 (((i : Nat) : Int) + 1)), (33, Value.int IntKind.i64 (((i : Nat) : Int) + 1)), (32, Value.int IntKind.i64 (((i : Nat) : Int))), (1, Value.slice p1 n1 cp1), (5, Value.pointer (some ⟨b15, 0, none⟩)), (6, Value.slice p16 m17 c18), (7, Value.slice p27 m17 c28), (8, Value.int IntKind.i64 (((i : Nat) : Int))), (31, Value.bool true)] ++ lr46) (pts' := []) (eqs := [(Value.int IntKind.i64 (IntKind.wrap IntKind.i64 ((((i : Nat) : Int)) + 1)), Value.int IntKind.i64 (((i : Nat) : Int) + 1))]) (by kernel_rfl) ⟨(ov_i64 (by omega) (by omega) (by omega)), trivial⟩ (AllC_nil _) ?_
        change ∃ n', n' < _ ∧ _
        refine ⟨(m17 - (i + 1)), by omega, (i + 1), (setL cs [(i * 2, Value.int IntKind.i64 9), (i * 2 + 1, Value.int IntKind.u32 9)]), _, rfl, (by omega), (mk_live [(1, Value.slice p1 n1 cp1), (5, Value.pointer (some ⟨b15, 0, none⟩)), (6, Value.slice p16 m17 c18), (7, Value.slice p27 m17 c28), (8, Value.int IntKind.i64 ((((i + 1) : Nat) : Int)))] ⟨rfl, rfl, rfl, rfl, (ov_int (by omega)), trivial⟩), h45⟩
      ·
        refine plain_batch (rest := []) [⟨3, [], some (Value.bool false)⟩] (l' := [(31, Value.bool false), (30, Value.int IntKind.i64 (((m17 : Nat) : Int))), (29, Value.slice p27 m17 c28), (28, Value.int IntKind.i64 (((i : Nat) : Int))), (1, Value.slice p1 n1 cp1), (5, Value.pointer (some ⟨b15, 0, none⟩)), (6, Value.slice p16 m17 c18), (7, Value.slice p27 m17 c28), (8, Value.int IntKind.i64 (((i : Nat) : Int)))] ++ lr35) (pts' := []) (eqs := [(Value.bool (decide (((i : Nat) : Int) < ((m17 : Nat) : Int))), Value.bool false)]) (by kernel_rfl) ⟨(ov_f (by omega)), trivial⟩ (AllC_nil _) ?_
        change Code.wp _ (CA Try.f7 [1, 1, 1, 1, 0, 1, 0, 0, 0, 1]) _ _ _
        refine fr_cut [(1, Value.slice p1 n1 cp1), (5, Value.pointer (some ⟨b15, 0, none⟩)), (6, Value.slice p16 m17 c18), (7, Value.slice p27 m17 c28), (8, Value.int IntKind.i64 (((i : Nat) : Int))), (31, Value.bool false)] ⟨rfl, rfl, rfl, rfl, rfl, rfl, trivial⟩ (fun a => Code.wp _ _ _ a _) (fun lr47 => ?_)
        refine go_cnd (x := (Operand.tmp 31)) (s := CA Try.f7 [1, 1, 1, 1, 0, 1, 0, 0, 0, 1, 0]) (t := CA Try.f7 [1, 1, 1, 1, 0, 1, 0, 0, 0, 1, 1]) false (by kernel_rfl) (by kernel_rfl) ?_
        change Code.wp _ (CA Try.f7 [1, 1, 1, 1, 0, 1, 0, 0, 0, 1, 1]) _ _ _
        refine go_ext (id := 0) (by kernel_rfl) ?_
        change Code.wp _ (CA Try.f7 [1, 1, 1, 1, 1]) _ _ _
        refine go_seq (x := CA Try.f7 [1, 1, 1, 1, 1, 0]) (y := CA Try.f7 [1, 1, 1, 1, 1, 1]) (by kernel_rfl) ?_
        refine go_pln (id := 9) (ops := RA Try.f7 [1, 1, 1, 1, 1, 0]) [0, 1, 2] (by kernel_rfl) (by kernel_rfl) ?_
        refine plain_batch (rest := [1, 2]) [⟨0, [], none⟩] (l' := [(38, Value.pointer (some ⟨b15, 0, none⟩)), (1, Value.slice p1 n1 cp1), (5, Value.pointer (some ⟨b15, 0, none⟩)), (6, Value.slice p16 m17 c18), (7, Value.slice p27 m17 c28), (8, Value.int IntKind.i64 (((i : Nat) : Int))), (31, Value.bool false)] ++ lr47) (pts' := []) (eqs := []) (by kernel_rfl) trivial (AllC_nil _) ?_
        have h49 : sat g w38 [PStk b15 L19, Sl 25 2 p27 m17 c28 cs, Sl 25 2 p16 m17 c18 (fl eR L19), Old wo, R] := sat_sel [1, 0, 2, 3, 4] rfl h39
        refine plain_act (i := 1) (by kernel_rfl) ?_
        refine an_call (d := some 39) (f := 22) (args := [Value.pointer (some ⟨b15, 0, none⟩)]) (by kernel_rfl) Try.call22 (copy_ht b15 L19) (F := [Sl 25 2 p27 m17 c28 cs, Sl 25 2 p16 m17 c18 (fl eR L19), Old wo, R]) h49 ?_
        rintro v K w50 (⟨b48, rfl, rfl⟩) h51
        refine ⟨_, rfl, ?_⟩
        have h52 : sat g w50 [PStk b15 L19, PStk b48 L19, Sl 25 2 p27 m17 c28 cs, Sl 25 2 p16 m17 c18 (fl eR L19), Old wo, R] := h51
        refine plain_batch (rest := []) [⟨2, [], none⟩] (l' := [(9, Value.pointer (some ⟨b48, 0, none⟩)), (39, Value.pointer (some ⟨b48, 0, none⟩)), (38, Value.pointer (some ⟨b15, 0, none⟩)), (1, Value.slice p1 n1 cp1), (5, Value.pointer (some ⟨b15, 0, none⟩)), (6, Value.slice p16 m17 c18), (7, Value.slice p27 m17 c28), (8, Value.int IntKind.i64 (((i : Nat) : Int))), (31, Value.bool false)] ++ lr47) (pts' := []) (eqs := []) (by kernel_rfl) trivial (AllC_nil _) ?_
        change Code.wp _ (CA Try.f7 [1, 1, 1, 1, 1, 1]) _ _ _
        refine fr_cut [(1, Value.slice p1 n1 cp1), (5, Value.pointer (some ⟨b15, 0, none⟩)), (6, Value.slice p16 m17 c18), (7, Value.slice p27 m17 c28), (8, Value.int IntKind.i64 (((i : Nat) : Int))), (9, Value.pointer (some ⟨b48, 0, none⟩)), (31, Value.bool false)] ⟨rfl, rfl, rfl, rfl, rfl, rfl, rfl, trivial⟩ (fun a => Code.wp _ _ _ a _) (fun lr53 => ?_)
        refine go_seq (x := CA Try.f7 [1, 1, 1, 1, 1, 1, 0]) (y := CA Try.f7 [1, 1, 1, 1, 1, 1, 1]) (by kernel_rfl) ?_
        refine go_seq (x := CA Try.f7 [1, 1, 1, 1, 1, 1, 0, 0]) (y := CA Try.f7 [1, 1, 1, 1, 1, 1, 0, 1]) (by kernel_rfl) ?_
        refine go_pln (id := 10) (ops := RA Try.f7 [1, 1, 1, 1, 1, 1, 0, 0]) [0, 1] (by kernel_rfl) (by kernel_rfl) ?_
        refine plain_batch (rest := []) [⟨0, [], none⟩, ⟨1, [], none⟩] (l' := [(41, Value.bool false), (40, Value.pointer (some ⟨b48, 0, none⟩)), (1, Value.slice p1 n1 cp1), (5, Value.pointer (some ⟨b15, 0, none⟩)), (6, Value.slice p16 m17 c18), (7, Value.slice p27 m17 c28), (8, Value.int IntKind.i64 (((i : Nat) : Int))), (9, Value.pointer (some ⟨b48, 0, none⟩)), (31, Value.bool false)] ++ lr53) (pts' := []) (eqs := []) (by kernel_rfl) trivial (AllC_nil _) ?_
        change Code.wp _ (CA Try.f7 [1, 1, 1, 1, 1, 1, 0, 1]) _ _ _
        refine fr_cut [(1, Value.slice p1 n1 cp1), (5, Value.pointer (some ⟨b15, 0, none⟩)), (6, Value.slice p16 m17 c18), (7, Value.slice p27 m17 c28), (8, Value.int IntKind.i64 (((i : Nat) : Int))), (9, Value.pointer (some ⟨b48, 0, none⟩)), (31, Value.bool false), (41, Value.bool false)] ⟨rfl, rfl, rfl, rfl, rfl, rfl, rfl, rfl, trivial⟩ (fun a => Code.wp _ _ _ a _) (fun lr54 => ?_)
        refine go_cnd (x := (Operand.tmp 41)) (s := CA Try.f7 [1, 1, 1, 1, 1, 1, 0, 1, 0]) (t := CA Try.f7 [1, 1, 1, 1, 1, 1, 0, 1, 1]) false (by kernel_rfl) (by kernel_rfl) ?_
        change Code.wp _ (CA Try.f7 [1, 1, 1, 1, 1, 1, 0, 1, 1]) _ _ _
        refine go_skp (by kernel_rfl) ?_
        change Code.wp _ (CA Try.f7 [1, 1, 1, 1, 1, 1, 1]) _ _ _
        refine go_seq (x := CA Try.f7 [1, 1, 1, 1, 1, 1, 1, 0]) (y := CA Try.f7 [1, 1, 1, 1, 1, 1, 1, 1]) (by kernel_rfl) ?_
        refine go_seq (x := CA Try.f7 [1, 1, 1, 1, 1, 1, 1, 0, 0]) (y := CA Try.f7 [1, 1, 1, 1, 1, 1, 1, 0, 1]) (by kernel_rfl) ?_
        refine go_pln (id := 12) (ops := RA Try.f7 [1, 1, 1, 1, 1, 1, 1, 0, 0]) [0] (by kernel_rfl) (by kernel_rfl) ?_
        refine plain_batch (rest := []) [⟨0, [], none⟩] (l' := [(10, Value.int IntKind.i64 0), (1, Value.slice p1 n1 cp1), (5, Value.pointer (some ⟨b15, 0, none⟩)), (6, Value.slice p16 m17 c18), (7, Value.slice p27 m17 c28), (8, Value.int IntKind.i64 (((i : Nat) : Int))), (9, Value.pointer (some ⟨b48, 0, none⟩)), (31, Value.bool false), (41, Value.bool false)] ++ lr54) (pts' := []) (eqs := []) (by kernel_rfl) trivial (AllC_nil _) ?_
        change Code.wp _ (CA Try.f7 [1, 1, 1, 1, 1, 1, 1, 0, 1]) _ _ _
        refine fr_cut [(1, Value.slice p1 n1 cp1), (5, Value.pointer (some ⟨b15, 0, none⟩)), (6, Value.slice p16 m17 c18), (7, Value.slice p27 m17 c28), (8, Value.int IntKind.i64 (((i : Nat) : Int))), (9, Value.pointer (some ⟨b48, 0, none⟩)), (10, Value.int IntKind.i64 0), (31, Value.bool false), (41, Value.bool false)] ⟨rfl, rfl, rfl, rfl, rfl, rfl, rfl, rfl, rfl, trivial⟩ (fun a => Code.wp _ _ _ a _) (fun lr55 => ?_)
        refine go_blk (id := 2) (x := CA Try.f7 [1, 1, 1, 1, 1, 1, 1, 0, 1, 0]) (by kernel_rfl) ?_
        have h56 : sat g w50 [PStk b48 L19, PStk b15 L19, Sl 25 2 p27 m17 c28 cs, Sl 25 2 p16 m17 c18 (fl eR L19), Old wo, R] := sat_sel [1, 0, 2, 3, 4, 5] rfl h52
        refine lp (x := CA Try.f7 [1, 1, 1, 1, 1, 1, 1, 0, 1, 0, 0]) (by kernel_rfl) (fun mz_ a w => ∃ k : Nat, ∃ M : List Rf, ∃ lr : Fr, mz_ = n1 - k ∧ (k ≤ n1) ∧ a = mk 80 ([(1, Value.slice p1 n1 cp1), (5, Value.pointer (some ⟨b15, 0, none⟩)), (6, Value.slice p16 m17 c18), (9, Value.pointer (some ⟨b48, 0, none⟩)), (10, Value.int IntKind.i64 (((k : Nat) : Int)))] ++ lr) ∧ sat g w [PStk b48 M, PStk b15 L19, Sl 25 2 p27 m17 c28 cs, Sl 25 2 p16 m17 c18 (fl eR L19), Old wo, R]) (n1) ⟨0, L19, _, rfl, (Nat.zero_le _), (mk_live [(1, Value.slice p1 n1 cp1), (5, Value.pointer (some ⟨b15, 0, none⟩)), (6, Value.slice p16 m17 c18), (9, Value.pointer (some ⟨b48, 0, none⟩)), (10, Value.int IntKind.i64 (((0 : Nat) : Int)))] ⟨rfl, rfl, rfl, rfl, (ov_int (by omega)), trivial⟩), h56⟩ ?_
        rintro m58 a59 w60 ⟨k, M, lr57, rfl, hk, rfl, h61⟩
        change Code.wp _ (CA Try.f7 [1, 1, 1, 1, 1, 1, 1, 0, 1, 0, 0]) _ _ _
        refine go_seq (x := CA Try.f7 [1, 1, 1, 1, 1, 1, 1, 0, 1, 0, 0, 0]) (y := CA Try.f7 [1, 1, 1, 1, 1, 1, 1, 0, 1, 0, 0, 1]) (by kernel_rfl) ?_
        refine go_seq (x := CA Try.f7 [1, 1, 1, 1, 1, 1, 1, 0, 1, 0, 0, 0, 0]) (y := CA Try.f7 [1, 1, 1, 1, 1, 1, 1, 0, 1, 0, 0, 0, 1]) (by kernel_rfl) ?_
        refine go_pln (id := 13) (ops := RA Try.f7 [1, 1, 1, 1, 1, 1, 1, 0, 1, 0, 0, 0, 0]) [0, 1, 2, 3] (by kernel_rfl) (by kernel_rfl) ?_
        refine plain_batch (rest := [3]) [⟨0, [], none⟩, ⟨1, [], none⟩, ⟨2, [], none⟩] (l' := [(44, Value.int IntKind.i64 (((n1 : Nat) : Int))), (43, Value.slice p1 n1 cp1), (42, Value.int IntKind.i64 (((k : Nat) : Int))), (1, Value.slice p1 n1 cp1), (5, Value.pointer (some ⟨b15, 0, none⟩)), (6, Value.slice p16 m17 c18), (9, Value.pointer (some ⟨b48, 0, none⟩)), (10, Value.int IntKind.i64 (((k : Nat) : Int)))] ++ lr57) (pts' := []) (eqs := []) (by kernel_rfl) trivial (AllC_nil _) ?_
        by_cases c62 : ((k : Nat) : Int) < ((n1 : Nat) : Int)
        ·
          refine plain_batch (rest := []) [⟨3, [], some (Value.bool true)⟩] (l' := [(45, Value.bool true), (44, Value.int IntKind.i64 (((n1 : Nat) : Int))), (43, Value.slice p1 n1 cp1), (42, Value.int IntKind.i64 (((k : Nat) : Int))), (1, Value.slice p1 n1 cp1), (5, Value.pointer (some ⟨b15, 0, none⟩)), (6, Value.slice p16 m17 c18), (9, Value.pointer (some ⟨b48, 0, none⟩)), (10, Value.int IntKind.i64 (((k : Nat) : Int)))] ++ lr57) (pts' := []) (eqs := [(Value.bool (decide (((k : Nat) : Int) < ((n1 : Nat) : Int))), Value.bool true)]) (by kernel_rfl) ⟨(ov_t (by omega)), trivial⟩ (AllC_nil _) ?_
          change Code.wp _ (CA Try.f7 [1, 1, 1, 1, 1, 1, 1, 0, 1, 0, 0, 0, 1]) _ _ _
          refine fr_cut [(1, Value.slice p1 n1 cp1), (5, Value.pointer (some ⟨b15, 0, none⟩)), (6, Value.slice p16 m17 c18), (9, Value.pointer (some ⟨b48, 0, none⟩)), (10, Value.int IntKind.i64 (((k : Nat) : Int))), (45, Value.bool true)] ⟨rfl, rfl, rfl, rfl, rfl, rfl, trivial⟩ (fun a => Code.wp _ _ _ a _) (fun lr63 => ?_)
          refine go_cnd (x := (Operand.tmp 45)) (s := CA Try.f7 [1, 1, 1, 1, 1, 1, 1, 0, 1, 0, 0, 0, 1, 0]) (t := CA Try.f7 [1, 1, 1, 1, 1, 1, 1, 0, 1, 0, 0, 0, 1, 1]) true (by kernel_rfl) (by kernel_rfl) ?_
          change Code.wp _ (CA Try.f7 [1, 1, 1, 1, 1, 1, 1, 0, 1, 0, 0, 0, 1, 0]) _ _ _
          refine go_skp (by kernel_rfl) ?_
          change Code.wp _ (CA Try.f7 [1, 1, 1, 1, 1, 1, 1, 0, 1, 0, 0, 1]) _ _ _
          refine go_seq (x := CA Try.f7 [1, 1, 1, 1, 1, 1, 1, 0, 1, 0, 0, 1, 0]) (y := CA Try.f7 [1, 1, 1, 1, 1, 1, 1, 0, 1, 0, 0, 1, 1]) (by kernel_rfl) ?_
          refine go_blk (id := 3) (x := CA Try.f7 [1, 1, 1, 1, 1, 1, 1, 0, 1, 0, 0, 1, 0, 0]) (by kernel_rfl) ?_
          refine go_seq (x := CA Try.f7 [1, 1, 1, 1, 1, 1, 1, 0, 1, 0, 0, 1, 0, 0, 0]) (y := CA Try.f7 [1, 1, 1, 1, 1, 1, 1, 0, 1, 0, 0, 1, 0, 0, 1]) (by kernel_rfl) ?_
          refine go_pln (id := 15) (ops := RA Try.f7 [1, 1, 1, 1, 1, 1, 1, 0, 1, 0, 0, 1, 0, 0, 0]) [0, 1, 2, 3, 4] (by kernel_rfl) (by kernel_rfl) ?_
          obtain ⟨b64, off66, hp65⟩ := gv_ptr (j := 4) h61 rfl (gv_old hr1) (by omega)
          refine plain_batch (rest := [2, 3, 4]) [⟨0, [], none⟩, ⟨1, [], none⟩] (l' := [(49, Value.int IntKind.i64 (((k : Nat) : Int))), (48, Value.slice p1 n1 cp1), (1, Value.slice p1 n1 cp1), (5, Value.pointer (some ⟨b15, 0, none⟩)), (6, Value.slice p16 m17 c18), (9, Value.pointer (some ⟨b48, 0, none⟩)), (10, Value.int IntKind.i64 (((k : Nat) : Int))), (45, Value.bool true)] ++ lr63) (pts' := []) (eqs := []) (by kernel_rfl) trivial (AllC_nil _) ?_
          refine plain_law (i := 2) 50 (Value.pointer (some ⟨b64, off66 + k * 3, none⟩)) (by kernel_rfl) (law_indexSlP (o := opA (RA Try.f7 [1, 1, 1, 1, 1, 1, 1, 0, 1, 0, 0, 1, 0, 0, 0]) 2) (x := (Operand.tmp 48)) (i := (Operand.tmp 49)) (p := p1) (b := b64) (off := off66) (z := (((k : Nat) : Int))) (len := n1) (cap := cp1) (by kernel_rfl) Try.underlying22 3 (by kernel_rfl) k (by kernel_rfl) hp65 (by kernel_rfl) (by omega) (by omega) (off66 + k * 3) (by omega) _) ?_
          obtain ⟨x67, hx68⟩ : ∃ x, T1[k]? = some x := ⟨_, List.getElem?_eq_getElem (by rw [hT1]; omega)⟩
          have hbx67 := hT21 x67 (List.mem_of_getElem? hx68)
          refine plain_batch (rest := [4]) [⟨3, [], none⟩] (l' := [(51, Value.pointer (some ⟨b64, off66 + k * 3, none⟩)), (50, Value.pointer (some ⟨b64, off66 + k * 3, none⟩)), (49, Value.int IntKind.i64 (((k : Nat) : Int))), (48, Value.slice p1 n1 cp1), (1, Value.slice p1 n1 cp1), (5, Value.pointer (some ⟨b15, 0, none⟩)), (6, Value.slice p16 m17 c18), (9, Value.pointer (some ⟨b48, 0, none⟩)), (10, Value.int IntKind.i64 (((k : Nat) : Int))), (45, Value.bool true)] ++ lr63) (pts' := []) (eqs := []) (by kernel_rfl) trivial (AllC_nil _) ?_
          rcases Bool.eq_false_or_eq_true x67.d with cb69 | cb69
          ·
            refine plain_batch (rest := []) [⟨4, [Value.bool (x67.d)], some (Value.bool true)⟩] (l' := [(52, Value.bool true), (51, Value.pointer (some ⟨b64, off66 + k * 3, none⟩)), (50, Value.pointer (some ⟨b64, off66 + k * 3, none⟩)), (49, Value.int IntKind.i64 (((k : Nat) : Int))), (48, Value.slice p1 n1 cp1), (1, Value.slice p1 n1 cp1), (5, Value.pointer (some ⟨b15, 0, none⟩)), (6, Value.slice p16 m17 c18), (9, Value.pointer (some ⟨b48, 0, none⟩)), (10, Value.int IntKind.i64 (((k : Nat) : Int))), (45, Value.bool true)] ++ lr63) (pts' := [(4, ⟨b64, off66 + k * 3, none⟩, Value.bool (x67.d))]) (eqs := [(Value.bool (x67.d), Value.bool true)]) (by kernel_rfl) ⟨(ov_b cb69), trivial⟩ (AllC_cons (gv_cell (j := 4) h61 rfl (gv_old hr1) hp65 (fl_get eT_ok (j := 0) (v := Value.bool (x67.d)) hx68 rfl) (off66 + k * 3) (by omega)) (AllC_nil _)) ?_
            change Code.wp _ (CA Try.f7 [1, 1, 1, 1, 1, 1, 1, 0, 1, 0, 0, 1, 0, 0, 1]) _ _ _
            refine fr_cut [(1, Value.slice p1 n1 cp1), (5, Value.pointer (some ⟨b15, 0, none⟩)), (6, Value.slice p16 m17 c18), (9, Value.pointer (some ⟨b48, 0, none⟩)), (10, Value.int IntKind.i64 (((k : Nat) : Int))), (45, Value.bool true), (52, Value.bool true)] ⟨rfl, rfl, rfl, rfl, rfl, rfl, rfl, trivial⟩ (fun a => Code.wp _ _ _ a _) (fun lr70 => ?_)
            refine go_cnd (x := (Operand.tmp 52)) (s := CA Try.f7 [1, 1, 1, 1, 1, 1, 1, 0, 1, 0, 0, 1, 0, 0, 1, 0]) (t := CA Try.f7 [1, 1, 1, 1, 1, 1, 1, 0, 1, 0, 0, 1, 0, 0, 1, 1]) true (by kernel_rfl) (by kernel_rfl) ?_
            change Code.wp _ (CA Try.f7 [1, 1, 1, 1, 1, 1, 1, 0, 1, 0, 0, 1, 0, 0, 1, 0]) _ _ _
            refine go_pln (id := 16) (ops := RA Try.f7 [1, 1, 1, 1, 1, 1, 1, 0, 1, 0, 0, 1, 0, 0, 1, 0]) [0, 1] (by kernel_rfl) (by kernel_rfl) ?_
            refine plain_batch (rest := [1]) [⟨0, [], none⟩] (l' := [(53, Value.pointer (some ⟨b48, 0, none⟩)), (1, Value.slice p1 n1 cp1), (5, Value.pointer (some ⟨b15, 0, none⟩)), (6, Value.slice p16 m17 c18), (9, Value.pointer (some ⟨b48, 0, none⟩)), (10, Value.int IntKind.i64 (((k : Nat) : Int))), (45, Value.bool true), (52, Value.bool true)] ++ lr70) (pts' := []) (eqs := []) (by kernel_rfl) trivial (AllC_nil _) ?_
            by_cases c71 : M.length = 0
            ·
              refine plain_act (i := 1) (by kernel_rfl) ?_
              refine an_call (d := some 54) (f := 23) (args := [Value.pointer (some ⟨b48, 0, none⟩)]) (by kernel_rfl) Try.call23 (pop_no b48 M.length M rfl (by omega)) (F := [PStk b15 L19, Sl 25 2 p27 m17 c28 cs, Sl 25 2 p16 m17 c18 (fl eR L19), Old wo, R]) h61 ?_
              rintro v K w72 (⟨rfl, rfl⟩) h73
              refine ⟨_, rfl, ?_⟩
              have h74 : sat g w72 [PStk b48 M, PStk b15 L19, Sl 25 2 p27 m17 c28 cs, Sl 25 2 p16 m17 c18 (fl eR L19), Old wo, R] := h73
              change Code.wp _ (CA Try.f7 [1, 1, 1, 1, 1, 1, 1, 0, 1, 0, 0, 1, 1]) _ _ _
              refine fr_cut [(1, Value.slice p1 n1 cp1), (5, Value.pointer (some ⟨b15, 0, none⟩)), (6, Value.slice p16 m17 c18), (9, Value.pointer (some ⟨b48, 0, none⟩)), (10, Value.int IntKind.i64 (((k : Nat) : Int))), (45, Value.bool true), (52, Value.bool true)] ⟨rfl, rfl, rfl, rfl, rfl, rfl, rfl, trivial⟩ (fun a => Code.wp _ _ _ a _) (fun lr75 => ?_)
              refine go_pln (id := 14) (ops := RA Try.f7 [1, 1, 1, 1, 1, 1, 1, 0, 1, 0, 0, 1, 1]) [0, 1, 2] (by kernel_rfl) (by kernel_rfl) ?_
              refine plain_batch (rest := []) [⟨0, [], none⟩, ⟨1, [], some (Value.int IntKind.i64 (((k : Nat) : Int) + 1))⟩, ⟨2, [], none⟩] (l' := [(10, Value.int IntKind.i64 (((k : Nat) : Int) + 1)), (47, Value.int IntKind.i64 (((k : Nat) : Int) + 1)), (46, Value.int IntKind.i64 (((k : Nat) : Int))), (1, Value.slice p1 n1 cp1), (5, Value.pointer (some ⟨b15, 0, none⟩)), (6, Value.slice p16 m17 c18), (9, Value.pointer (some ⟨b48, 0, none⟩)), (10, Value.int IntKind.i64 (((k : Nat) : Int))), (45, Value.bool true), (52, Value.bool true)] ++ lr75) (pts' := []) (eqs := [(Value.int IntKind.i64 (IntKind.wrap IntKind.i64 ((((k : Nat) : Int)) + 1)), Value.int IntKind.i64 (((k : Nat) : Int) + 1))]) (by kernel_rfl) ⟨(ov_i64 (by omega) (by omega) (by omega)), trivial⟩ (AllC_nil _) ?_
              change ∃ n', n' < _ ∧ _
              refine ⟨(n1 - (k + 1)), by omega, (k + 1), M, _, rfl, (by omega), (mk_live [(1, Value.slice p1 n1 cp1), (5, Value.pointer (some ⟨b15, 0, none⟩)), (6, Value.slice p16 m17 c18), (9, Value.pointer (some ⟨b48, 0, none⟩)), (10, Value.int IntKind.i64 ((((k + 1) : Nat) : Int)))] ⟨rfl, rfl, rfl, rfl, (ov_int (by omega)), trivial⟩), h74⟩
            ·
              obtain ⟨x76, hx77⟩ : ∃ x, M[M.length - 1]? = some x := ⟨_, List.getElem?_eq_getElem (by omega)⟩
              refine plain_act (i := 1) (by kernel_rfl) ?_
              refine an_call (d := some 54) (f := 23) (args := [Value.pointer (some ⟨b48, 0, none⟩)]) (by kernel_rfl) Try.call23 (pop_n b48 M.length M rfl (M.length - 1) x76 (by omega) hx77) (F := [PStk b15 L19, Sl 25 2 p27 m17 c28 cs, Sl 25 2 p16 m17 c18 (fl eR L19), Old wo, R]) h61 ?_
              rintro v K w78 (⟨rfl, rfl⟩) h79
              refine ⟨_, rfl, ?_⟩
              have h80 : sat g w78 [PStk b48 (M.eraseIdx (M.length - 1)), PStk b15 L19, Sl 25 2 p27 m17 c28 cs, Sl 25 2 p16 m17 c18 (fl eR L19), Old wo, R] := h79
              change Code.wp _ (CA Try.f7 [1, 1, 1, 1, 1, 1, 1, 0, 1, 0, 0, 1, 1]) _ _ _
              refine fr_cut [(1, Value.slice p1 n1 cp1), (5, Value.pointer (some ⟨b15, 0, none⟩)), (6, Value.slice p16 m17 c18), (9, Value.pointer (some ⟨b48, 0, none⟩)), (10, Value.int IntKind.i64 (((k : Nat) : Int))), (45, Value.bool true), (52, Value.bool true)] ⟨rfl, rfl, rfl, rfl, rfl, rfl, rfl, trivial⟩ (fun a => Code.wp _ _ _ a _) (fun lr81 => ?_)
              refine go_pln (id := 14) (ops := RA Try.f7 [1, 1, 1, 1, 1, 1, 1, 0, 1, 0, 0, 1, 1]) [0, 1, 2] (by kernel_rfl) (by kernel_rfl) ?_
              refine plain_batch (rest := []) [⟨0, [], none⟩, ⟨1, [], some (Value.int IntKind.i64 (((k : Nat) : Int) + 1))⟩, ⟨2, [], none⟩] (l' := [(10, Value.int IntKind.i64 (((k : Nat) : Int) + 1)), (47, Value.int IntKind.i64 (((k : Nat) : Int) + 1)), (46, Value.int IntKind.i64 (((k : Nat) : Int))), (1, Value.slice p1 n1 cp1), (5, Value.pointer (some ⟨b15, 0, none⟩)), (6, Value.slice p16 m17 c18), (9, Value.pointer (some ⟨b48, 0, none⟩)), (10, Value.int IntKind.i64 (((k : Nat) : Int))), (45, Value.bool true), (52, Value.bool true)] ++ lr81) (pts' := []) (eqs := [(Value.int IntKind.i64 (IntKind.wrap IntKind.i64 ((((k : Nat) : Int)) + 1)), Value.int IntKind.i64 (((k : Nat) : Int) + 1))]) (by kernel_rfl) ⟨(ov_i64 (by omega) (by omega) (by omega)), trivial⟩ (AllC_nil _) ?_
              change ∃ n', n' < _ ∧ _
              refine ⟨(n1 - (k + 1)), by omega, (k + 1), (M.eraseIdx (M.length - 1)), _, rfl, (by omega), (mk_live [(1, Value.slice p1 n1 cp1), (5, Value.pointer (some ⟨b15, 0, none⟩)), (6, Value.slice p16 m17 c18), (9, Value.pointer (some ⟨b48, 0, none⟩)), (10, Value.int IntKind.i64 ((((k + 1) : Nat) : Int)))] ⟨rfl, rfl, rfl, rfl, (ov_int (by omega)), trivial⟩), h80⟩
          ·
            refine plain_batch (rest := []) [⟨4, [Value.bool (x67.d)], some (Value.bool false)⟩] (l' := [(52, Value.bool false), (51, Value.pointer (some ⟨b64, off66 + k * 3, none⟩)), (50, Value.pointer (some ⟨b64, off66 + k * 3, none⟩)), (49, Value.int IntKind.i64 (((k : Nat) : Int))), (48, Value.slice p1 n1 cp1), (1, Value.slice p1 n1 cp1), (5, Value.pointer (some ⟨b15, 0, none⟩)), (6, Value.slice p16 m17 c18), (9, Value.pointer (some ⟨b48, 0, none⟩)), (10, Value.int IntKind.i64 (((k : Nat) : Int))), (45, Value.bool true)] ++ lr63) (pts' := [(4, ⟨b64, off66 + k * 3, none⟩, Value.bool (x67.d))]) (eqs := [(Value.bool (x67.d), Value.bool false)]) (by kernel_rfl) ⟨(ov_b cb69), trivial⟩ (AllC_cons (gv_cell (j := 4) h61 rfl (gv_old hr1) hp65 (fl_get eT_ok (j := 0) (v := Value.bool (x67.d)) hx68 rfl) (off66 + k * 3) (by omega)) (AllC_nil _)) ?_
            change Code.wp _ (CA Try.f7 [1, 1, 1, 1, 1, 1, 1, 0, 1, 0, 0, 1, 0, 0, 1]) _ _ _
            refine fr_cut [(1, Value.slice p1 n1 cp1), (5, Value.pointer (some ⟨b15, 0, none⟩)), (6, Value.slice p16 m17 c18), (9, Value.pointer (some ⟨b48, 0, none⟩)), (10, Value.int IntKind.i64 (((k : Nat) : Int))), (45, Value.bool true), (52, Value.bool false)] ⟨rfl, rfl, rfl, rfl, rfl, rfl, rfl, trivial⟩ (fun a => Code.wp _ _ _ a _) (fun lr82 => ?_)
            refine go_cnd (x := (Operand.tmp 52)) (s := CA Try.f7 [1, 1, 1, 1, 1, 1, 1, 0, 1, 0, 0, 1, 0, 0, 1, 0]) (t := CA Try.f7 [1, 1, 1, 1, 1, 1, 1, 0, 1, 0, 0, 1, 0, 0, 1, 1]) false (by kernel_rfl) (by kernel_rfl) ?_
            change Code.wp _ (CA Try.f7 [1, 1, 1, 1, 1, 1, 1, 0, 1, 0, 0, 1, 0, 0, 1, 1]) _ _ _
            refine go_pln (id := 17) (ops := RA Try.f7 [1, 1, 1, 1, 1, 1, 1, 0, 1, 0, 0, 1, 0, 0, 1, 1]) [0, 1, 2, 3, 4, 5, 6, 7, 8] (by kernel_rfl) (by kernel_rfl) ?_
            refine plain_batch (rest := [3, 4, 5, 6, 7, 8]) [⟨0, [], none⟩, ⟨1, [], none⟩, ⟨2, [], none⟩] (l' := [(57, Value.int IntKind.i64 (((k : Nat) : Int))), (56, Value.slice p1 n1 cp1), (55, Value.pointer (some ⟨b48, 0, none⟩)), (1, Value.slice p1 n1 cp1), (5, Value.pointer (some ⟨b15, 0, none⟩)), (6, Value.slice p16 m17 c18), (9, Value.pointer (some ⟨b48, 0, none⟩)), (10, Value.int IntKind.i64 (((k : Nat) : Int))), (45, Value.bool true), (52, Value.bool false)] ++ lr82) (pts' := []) (eqs := []) (by kernel_rfl) trivial (AllC_nil _) ?_
            refine plain_law (i := 3) 58 (Value.pointer (some ⟨b64, off66 + k * 3, none⟩)) (by kernel_rfl) (law_indexSlP (o := opA (RA Try.f7 [1, 1, 1, 1, 1, 1, 1, 0, 1, 0, 0, 1, 0, 0, 1, 1]) 3) (x := (Operand.tmp 56)) (i := (Operand.tmp 57)) (p := p1) (b := b64) (off := off66) (z := (((k : Nat) : Int))) (len := n1) (cap := cp1) (by kernel_rfl) Try.underlying22 3 (by kernel_rfl) k (by kernel_rfl) hp65 (by kernel_rfl) (by omega) (by omega) (off66 + k * 3) (by omega) _) ?_
            refine plain_batch (rest := [8]) [⟨4, [], none⟩, ⟨5, [Value.int IntKind.u8 x67.s], none⟩, ⟨6, [], some (Value.int IntKind.i64 x67.s)⟩, ⟨7, [], none⟩] (l' := [(62, Value.agg #[Value.int IntKind.i64 x67.s, Value.int IntKind.u32 1]), (61, Value.int IntKind.i64 x67.s), (60, Value.int IntKind.u8 x67.s), (59, Value.pointer (some ⟨b64, off66 + k * 3 + 1, none⟩)), (58, Value.pointer (some ⟨b64, off66 + k * 3, none⟩)), (57, Value.int IntKind.i64 (((k : Nat) : Int))), (56, Value.slice p1 n1 cp1), (55, Value.pointer (some ⟨b48, 0, none⟩)), (1, Value.slice p1 n1 cp1), (5, Value.pointer (some ⟨b15, 0, none⟩)), (6, Value.slice p16 m17 c18), (9, Value.pointer (some ⟨b48, 0, none⟩)), (10, Value.int IntKind.i64 (((k : Nat) : Int))), (45, Value.bool true), (52, Value.bool false)] ++ lr82) (pts' := [(5, ⟨b64, off66 + k * 3 + 1, none⟩, Value.int IntKind.u8 x67.s)]) (eqs := [(Value.int IntKind.i64 (IntKind.wrap IntKind.i64 x67.s), Value.int IntKind.i64 x67.s)]) (by kernel_rfl) ⟨(ov_i64 rfl (by omega) (by omega)), trivial⟩ (AllC_cons (gv_cell (j := 4) h61 rfl (gv_old hr1) hp65 (fl_get eT_ok (j := 1) (v := Value.int IntKind.u8 x67.s) hx68 rfl) (off66 + k * 3 + 1) (by omega)) (AllC_nil _)) ?_
            by_cases c83 : M.length < 32
            ·
              refine plain_act (i := 8) (by kernel_rfl) ?_
              refine an_call (d := some 63) (f := 18) (args := [Value.pointer (some ⟨b48, 0, none⟩), Value.agg #[Value.int IntKind.i64 x67.s, Value.int IntKind.u32 1]]) (by kernel_rfl) Try.call18 (push_n b48 M.length M rfl x67.s 1 (by omega) (by omega) (by omega) (by omega)) (F := [PStk b15 L19, Sl 25 2 p27 m17 c28 cs, Sl 25 2 p16 m17 c18 (fl eR L19), Old wo, R]) h61 ?_
              rintro v K w84 (⟨rfl, rfl⟩) h85
              refine ⟨_, rfl, ?_⟩
              have h86 : sat g w84 [PStk b48 (M ++ [(x67.s, 1)]), PStk b15 L19, Sl 25 2 p27 m17 c28 cs, Sl 25 2 p16 m17 c18 (fl eR L19), Old wo, R] := h85
              change Code.wp _ (CA Try.f7 [1, 1, 1, 1, 1, 1, 1, 0, 1, 0, 0, 1, 1]) _ _ _
              refine fr_cut [(1, Value.slice p1 n1 cp1), (5, Value.pointer (some ⟨b15, 0, none⟩)), (6, Value.slice p16 m17 c18), (9, Value.pointer (some ⟨b48, 0, none⟩)), (10, Value.int IntKind.i64 (((k : Nat) : Int))), (45, Value.bool true), (52, Value.bool false)] ⟨rfl, rfl, rfl, rfl, rfl, rfl, rfl, trivial⟩ (fun a => Code.wp _ _ _ a _) (fun lr87 => ?_)
              refine go_pln (id := 14) (ops := RA Try.f7 [1, 1, 1, 1, 1, 1, 1, 0, 1, 0, 0, 1, 1]) [0, 1, 2] (by kernel_rfl) (by kernel_rfl) ?_
              refine plain_batch (rest := []) [⟨0, [], none⟩, ⟨1, [], some (Value.int IntKind.i64 (((k : Nat) : Int) + 1))⟩, ⟨2, [], none⟩] (l' := [(10, Value.int IntKind.i64 (((k : Nat) : Int) + 1)), (47, Value.int IntKind.i64 (((k : Nat) : Int) + 1)), (46, Value.int IntKind.i64 (((k : Nat) : Int))), (1, Value.slice p1 n1 cp1), (5, Value.pointer (some ⟨b15, 0, none⟩)), (6, Value.slice p16 m17 c18), (9, Value.pointer (some ⟨b48, 0, none⟩)), (10, Value.int IntKind.i64 (((k : Nat) : Int))), (45, Value.bool true), (52, Value.bool false)] ++ lr87) (pts' := []) (eqs := [(Value.int IntKind.i64 (IntKind.wrap IntKind.i64 ((((k : Nat) : Int)) + 1)), Value.int IntKind.i64 (((k : Nat) : Int) + 1))]) (by kernel_rfl) ⟨(ov_i64 (by omega) (by omega) (by omega)), trivial⟩ (AllC_nil _) ?_
              change ∃ n', n' < _ ∧ _
              refine ⟨(n1 - (k + 1)), by omega, (k + 1), (M ++ [(x67.s, 1)]), _, rfl, (by omega), (mk_live [(1, Value.slice p1 n1 cp1), (5, Value.pointer (some ⟨b15, 0, none⟩)), (6, Value.slice p16 m17 c18), (9, Value.pointer (some ⟨b48, 0, none⟩)), (10, Value.int IntKind.i64 ((((k + 1) : Nat) : Int)))] ⟨rfl, rfl, rfl, rfl, (ov_int (by omega)), trivial⟩), h86⟩
            ·
              have hs88 := stk_le (j := 0) h61 rfl
              have hn89 : M.length = M.length := rfl
              refine plain_act (i := 8) (by kernel_rfl) ?_
              refine an_call (d := some 63) (f := 18) (args := [Value.pointer (some ⟨b48, 0, none⟩), Value.agg #[Value.int IntKind.i64 x67.s, Value.int IntKind.u32 1]]) (by kernel_rfl) Try.call18 (push_nf b48 M.length M rfl x67.s 1 (by omega) (by omega) (by omega) (by omega)) (F := [PStk b15 L19, Sl 25 2 p27 m17 c28 cs, Sl 25 2 p16 m17 c18 (fl eR L19), Old wo, R]) h61 ?_
              rintro v K w90 (⟨rfl, rfl⟩) h91
              refine ⟨_, rfl, ?_⟩
              have h92 : sat g w90 [PStk b48 M, PStk b15 L19, Sl 25 2 p27 m17 c28 cs, Sl 25 2 p16 m17 c18 (fl eR L19), Old wo, R] := h91
              change Code.wp _ (CA Try.f7 [1, 1, 1, 1, 1, 1, 1, 0, 1, 0, 0, 1, 1]) _ _ _
              refine fr_cut [(1, Value.slice p1 n1 cp1), (5, Value.pointer (some ⟨b15, 0, none⟩)), (6, Value.slice p16 m17 c18), (9, Value.pointer (some ⟨b48, 0, none⟩)), (10, Value.int IntKind.i64 (((k : Nat) : Int))), (45, Value.bool true), (52, Value.bool false)] ⟨rfl, rfl, rfl, rfl, rfl, rfl, rfl, trivial⟩ (fun a => Code.wp _ _ _ a _) (fun lr93 => ?_)
              refine go_pln (id := 14) (ops := RA Try.f7 [1, 1, 1, 1, 1, 1, 1, 0, 1, 0, 0, 1, 1]) [0, 1, 2] (by kernel_rfl) (by kernel_rfl) ?_
              refine plain_batch (rest := []) [⟨0, [], none⟩, ⟨1, [], some (Value.int IntKind.i64 (((k : Nat) : Int) + 1))⟩, ⟨2, [], none⟩] (l' := [(10, Value.int IntKind.i64 (((k : Nat) : Int) + 1)), (47, Value.int IntKind.i64 (((k : Nat) : Int) + 1)), (46, Value.int IntKind.i64 (((k : Nat) : Int))), (1, Value.slice p1 n1 cp1), (5, Value.pointer (some ⟨b15, 0, none⟩)), (6, Value.slice p16 m17 c18), (9, Value.pointer (some ⟨b48, 0, none⟩)), (10, Value.int IntKind.i64 (((k : Nat) : Int))), (45, Value.bool true), (52, Value.bool false)] ++ lr93) (pts' := []) (eqs := [(Value.int IntKind.i64 (IntKind.wrap IntKind.i64 ((((k : Nat) : Int)) + 1)), Value.int IntKind.i64 (((k : Nat) : Int) + 1))]) (by kernel_rfl) ⟨(ov_i64 (by omega) (by omega) (by omega)), trivial⟩ (AllC_nil _) ?_
              change ∃ n', n' < _ ∧ _
              refine ⟨(n1 - (k + 1)), by omega, (k + 1), M, _, rfl, (by omega), (mk_live [(1, Value.slice p1 n1 cp1), (5, Value.pointer (some ⟨b15, 0, none⟩)), (6, Value.slice p16 m17 c18), (9, Value.pointer (some ⟨b48, 0, none⟩)), (10, Value.int IntKind.i64 ((((k + 1) : Nat) : Int)))] ⟨rfl, rfl, rfl, rfl, (ov_int (by omega)), trivial⟩), h92⟩
        ·
          refine plain_batch (rest := []) [⟨3, [], some (Value.bool false)⟩] (l' := [(45, Value.bool false), (44, Value.int IntKind.i64 (((n1 : Nat) : Int))), (43, Value.slice p1 n1 cp1), (42, Value.int IntKind.i64 (((k : Nat) : Int))), (1, Value.slice p1 n1 cp1), (5, Value.pointer (some ⟨b15, 0, none⟩)), (6, Value.slice p16 m17 c18), (9, Value.pointer (some ⟨b48, 0, none⟩)), (10, Value.int IntKind.i64 (((k : Nat) : Int)))] ++ lr57) (pts' := []) (eqs := [(Value.bool (decide (((k : Nat) : Int) < ((n1 : Nat) : Int))), Value.bool false)]) (by kernel_rfl) ⟨(ov_f (by omega)), trivial⟩ (AllC_nil _) ?_
          change Code.wp _ (CA Try.f7 [1, 1, 1, 1, 1, 1, 1, 0, 1, 0, 0, 0, 1]) _ _ _
          refine fr_cut [(1, Value.slice p1 n1 cp1), (5, Value.pointer (some ⟨b15, 0, none⟩)), (6, Value.slice p16 m17 c18), (9, Value.pointer (some ⟨b48, 0, none⟩)), (10, Value.int IntKind.i64 (((k : Nat) : Int))), (45, Value.bool false)] ⟨rfl, rfl, rfl, rfl, rfl, rfl, trivial⟩ (fun a => Code.wp _ _ _ a _) (fun lr94 => ?_)
          refine go_cnd (x := (Operand.tmp 45)) (s := CA Try.f7 [1, 1, 1, 1, 1, 1, 1, 0, 1, 0, 0, 0, 1, 0]) (t := CA Try.f7 [1, 1, 1, 1, 1, 1, 1, 0, 1, 0, 0, 0, 1, 1]) false (by kernel_rfl) (by kernel_rfl) ?_
          change Code.wp _ (CA Try.f7 [1, 1, 1, 1, 1, 1, 1, 0, 1, 0, 0, 0, 1, 1]) _ _ _
          refine go_ext (id := 2) (by kernel_rfl) ?_
          change Code.wp _ (CA Try.f7 [1, 1, 1, 1, 1, 1, 1, 1]) _ _ _
          refine go_seq (x := CA Try.f7 [1, 1, 1, 1, 1, 1, 1, 1, 0]) (y := CA Try.f7 [1, 1, 1, 1, 1, 1, 1, 1, 1]) (by kernel_rfl) ?_
          refine go_seq (x := CA Try.f7 [1, 1, 1, 1, 1, 1, 1, 1, 0, 0]) (y := CA Try.f7 [1, 1, 1, 1, 1, 1, 1, 1, 0, 1]) (by kernel_rfl) ?_
          refine go_pln (id := 18) (ops := RA Try.f7 [1, 1, 1, 1, 1, 1, 1, 1, 0, 0]) [0, 1, 2, 3, 4] (by kernel_rfl) (by kernel_rfl) ?_
          refine plain_batch (rest := [1, 2, 3, 4]) [⟨0, [], none⟩] (l' := [(64, Value.pointer (some ⟨b15, 0, none⟩)), (1, Value.slice p1 n1 cp1), (5, Value.pointer (some ⟨b15, 0, none⟩)), (6, Value.slice p16 m17 c18), (9, Value.pointer (some ⟨b48, 0, none⟩)), (10, Value.int IntKind.i64 (((k : Nat) : Int))), (45, Value.bool false)] ++ lr94) (pts' := []) (eqs := []) (by kernel_rfl) trivial (AllC_nil _) ?_
          have h97 : sat g w60 [PStk b15 L19, PStk b48 M, Sl 25 2 p27 m17 c28 cs, Sl 25 2 p16 m17 c18 (fl eR L19), Old wo, R] := sat_sel [1, 0, 2, 3, 4, 5] rfl h61
          refine plain_act (i := 1) (by kernel_rfl) ?_
          refine an_call (d := some 65) (f := 21) (args := [Value.pointer (some ⟨b15, 0, none⟩)]) (by kernel_rfl) Try.call21 (all_n b15 L19 m17 hm20) (F := [PStk b48 M, Sl 25 2 p27 m17 c28 cs, Sl 25 2 p16 m17 c18 (fl eR L19), Old wo, R]) h97 ?_
          rintro v K w98 (⟨p95, c96, rfl, rfl⟩) h99
          refine ⟨_, rfl, ?_⟩
          have h100 : sat g w98 [PStk b15 L19, Sl 25 2 p95 m17 c96 (fl eR L19), PStk b48 M, Sl 25 2 p27 m17 c28 cs, Sl 25 2 p16 m17 c18 (fl eR L19), Old wo, R] := h99
          refine plain_batch (rest := [3, 4]) [⟨2, [], none⟩] (l' := [(66, Value.slice p16 m17 c18), (65, Value.slice p95 m17 c96), (64, Value.pointer (some ⟨b15, 0, none⟩)), (1, Value.slice p1 n1 cp1), (5, Value.pointer (some ⟨b15, 0, none⟩)), (6, Value.slice p16 m17 c18), (9, Value.pointer (some ⟨b48, 0, none⟩)), (10, Value.int IntKind.i64 (((k : Nat) : Int))), (45, Value.bool false)] ++ lr94) (pts' := []) (eqs := []) (by kernel_rfl) trivial (AllC_nil _) ?_
          have h101 : sat g w98 [Sl 25 2 p95 m17 c96 (fl eR L19), Sl 25 2 p16 m17 c18 (fl eR L19), PStk b15 L19, PStk b48 M, Sl 25 2 p27 m17 c28 cs, Old wo, R] := sat_sel [1, 4, 0, 2, 3, 5, 6] rfl h100
          refine plain_act (i := 3) (by kernel_rfl) ?_
          refine an_call (d := some 67) (f := 20) (args := [Value.slice p95 m17 c96, Value.slice p16 m17 c18]) (by kernel_rfl) Try.call20 (same_eq _ _ p95 p16 m17 c96 c18 L19 (gv_sl _ _ _) (gv_sl _ _ _) hm20 hm20 (by omega)) (F := [PStk b15 L19, PStk b48 M, Sl 25 2 p27 m17 c28 cs, Old wo, R]) h101 ?_
          rintro v K w102 (⟨rfl, rfl⟩) h103
          refine ⟨_, rfl, ?_⟩
          have h104 : sat g w102 [Sl 25 2 p95 m17 c96 (fl eR L19), Sl 25 2 p16 m17 c18 (fl eR L19), PStk b15 L19, PStk b48 M, Sl 25 2 p27 m17 c28 cs, Old wo, R] := h103
          refine plain_batch (rest := []) [⟨4, [], none⟩] (l' := [(68, Value.bool false), (67, Value.bool true), (66, Value.slice p16 m17 c18), (65, Value.slice p95 m17 c96), (64, Value.pointer (some ⟨b15, 0, none⟩)), (1, Value.slice p1 n1 cp1), (5, Value.pointer (some ⟨b15, 0, none⟩)), (6, Value.slice p16 m17 c18), (9, Value.pointer (some ⟨b48, 0, none⟩)), (10, Value.int IntKind.i64 (((k : Nat) : Int))), (45, Value.bool false)] ++ lr94) (pts' := []) (eqs := []) (by kernel_rfl) trivial (AllC_nil _) ?_
          change Code.wp _ (CA Try.f7 [1, 1, 1, 1, 1, 1, 1, 1, 0, 1]) _ _ _
          refine fr_cut [(1, Value.slice p1 n1 cp1), (5, Value.pointer (some ⟨b15, 0, none⟩)), (6, Value.slice p16 m17 c18), (9, Value.pointer (some ⟨b48, 0, none⟩)), (10, Value.int IntKind.i64 (((k : Nat) : Int))), (45, Value.bool false), (68, Value.bool false)] ⟨rfl, rfl, rfl, rfl, rfl, rfl, rfl, trivial⟩ (fun a => Code.wp _ _ _ a _) (fun lr105 => ?_)
          refine go_cnd (x := (Operand.tmp 68)) (s := CA Try.f7 [1, 1, 1, 1, 1, 1, 1, 1, 0, 1, 0]) (t := CA Try.f7 [1, 1, 1, 1, 1, 1, 1, 1, 0, 1, 1]) false (by kernel_rfl) (by kernel_rfl) ?_
          change Code.wp _ (CA Try.f7 [1, 1, 1, 1, 1, 1, 1, 1, 0, 1, 1]) _ _ _
          refine go_skp (by kernel_rfl) ?_
          change Code.wp _ (CA Try.f7 [1, 1, 1, 1, 1, 1, 1, 1, 1]) _ _ _
          refine go_seq (x := CA Try.f7 [1, 1, 1, 1, 1, 1, 1, 1, 1, 0]) (y := CA Try.f7 [1, 1, 1, 1, 1, 1, 1, 1, 1, 1]) (by kernel_rfl) ?_
          refine go_pln (id := 20) (ops := RA Try.f7 [1, 1, 1, 1, 1, 1, 1, 1, 1, 0]) [0, 1, 2] (by kernel_rfl) (by kernel_rfl) ?_
          refine plain_batch (rest := [1, 2]) [⟨0, [], none⟩] (l' := [(69, Value.pointer (some ⟨b15, 0, none⟩)), (1, Value.slice p1 n1 cp1), (5, Value.pointer (some ⟨b15, 0, none⟩)), (6, Value.slice p16 m17 c18), (9, Value.pointer (some ⟨b48, 0, none⟩)), (10, Value.int IntKind.i64 (((k : Nat) : Int))), (45, Value.bool false), (68, Value.bool false)] ++ lr105) (pts' := []) (eqs := []) (by kernel_rfl) trivial (AllC_nil _) ?_
          have h107 : sat g w102 [PStk b15 L19, Sl 25 2 p95 m17 c96 (fl eR L19), Sl 25 2 p16 m17 c18 (fl eR L19), PStk b48 M, Sl 25 2 p27 m17 c28 cs, Old wo, R] := sat_sel [2, 0, 1, 3, 4, 5, 6] rfl h104
          refine plain_act (i := 1) (by kernel_rfl) ?_
          refine an_call (d := some 70) (f := 22) (args := [Value.pointer (some ⟨b15, 0, none⟩)]) (by kernel_rfl) Try.call22 (copy_ht b15 L19) (F := [Sl 25 2 p95 m17 c96 (fl eR L19), Sl 25 2 p16 m17 c18 (fl eR L19), PStk b48 M, Sl 25 2 p27 m17 c28 cs, Old wo, R]) h107 ?_
          rintro v K w108 (⟨b106, rfl, rfl⟩) h109
          refine ⟨_, rfl, ?_⟩
          have h110 : sat g w108 [PStk b15 L19, PStk b106 L19, Sl 25 2 p95 m17 c96 (fl eR L19), Sl 25 2 p16 m17 c18 (fl eR L19), PStk b48 M, Sl 25 2 p27 m17 c28 cs, Old wo, R] := h109
          refine plain_batch (rest := []) [⟨2, [], none⟩] (l' := [(11, Value.pointer (some ⟨b106, 0, none⟩)), (70, Value.pointer (some ⟨b106, 0, none⟩)), (69, Value.pointer (some ⟨b15, 0, none⟩)), (1, Value.slice p1 n1 cp1), (5, Value.pointer (some ⟨b15, 0, none⟩)), (6, Value.slice p16 m17 c18), (9, Value.pointer (some ⟨b48, 0, none⟩)), (10, Value.int IntKind.i64 (((k : Nat) : Int))), (45, Value.bool false), (68, Value.bool false)] ++ lr105) (pts' := []) (eqs := []) (by kernel_rfl) trivial (AllC_nil _) ?_
          change Code.wp _ (CA Try.f7 [1, 1, 1, 1, 1, 1, 1, 1, 1, 1]) _ _ _
          refine fr_cut [(1, Value.slice p1 n1 cp1), (5, Value.pointer (some ⟨b15, 0, none⟩)), (6, Value.slice p16 m17 c18), (9, Value.pointer (some ⟨b48, 0, none⟩)), (10, Value.int IntKind.i64 (((k : Nat) : Int))), (11, Value.pointer (some ⟨b106, 0, none⟩)), (45, Value.bool false), (68, Value.bool false)] ⟨rfl, rfl, rfl, rfl, rfl, rfl, rfl, rfl, trivial⟩ (fun a => Code.wp _ _ _ a _) (fun lr111 => ?_)
          refine go_seq (x := CA Try.f7 [1, 1, 1, 1, 1, 1, 1, 1, 1, 1, 0]) (y := CA Try.f7 [1, 1, 1, 1, 1, 1, 1, 1, 1, 1, 1]) (by kernel_rfl) ?_
          refine go_pln (id := 21) (ops := RA Try.f7 [1, 1, 1, 1, 1, 1, 1, 1, 1, 1, 0]) [0, 1] (by kernel_rfl) (by kernel_rfl) ?_
          refine plain_batch (rest := [1]) [⟨0, [], none⟩] (l' := [(71, Value.pointer (some ⟨b15, 0, none⟩)), (1, Value.slice p1 n1 cp1), (5, Value.pointer (some ⟨b15, 0, none⟩)), (6, Value.slice p16 m17 c18), (9, Value.pointer (some ⟨b48, 0, none⟩)), (10, Value.int IntKind.i64 (((k : Nat) : Int))), (11, Value.pointer (some ⟨b106, 0, none⟩)), (45, Value.bool false), (68, Value.bool false)] ++ lr111) (pts' := []) (eqs := []) (by kernel_rfl) trivial (AllC_nil _) ?_
          by_cases c112 : m17 = 0
          ·
            refine plain_act (i := 1) (by kernel_rfl) ?_
            refine an_call (d := some 72) (f := 23) (args := [Value.pointer (some ⟨b15, 0, none⟩)]) (by kernel_rfl) Try.call23 (pop_no b15 m17 L19 hm20 (by omega)) (F := [PStk b106 L19, Sl 25 2 p95 m17 c96 (fl eR L19), Sl 25 2 p16 m17 c18 (fl eR L19), PStk b48 M, Sl 25 2 p27 m17 c28 cs, Old wo, R]) h110 ?_
            rintro v K w113 (⟨rfl, rfl⟩) h114
            refine ⟨_, rfl, ?_⟩
            have h115 : sat g w113 [PStk b15 L19, PStk b106 L19, Sl 25 2 p95 m17 c96 (fl eR L19), Sl 25 2 p16 m17 c18 (fl eR L19), PStk b48 M, Sl 25 2 p27 m17 c28 cs, Old wo, R] := h114
            change Code.wp _ (CA Try.f7 [1, 1, 1, 1, 1, 1, 1, 1, 1, 1, 1]) _ _ _
            refine fr_cut [(1, Value.slice p1 n1 cp1), (5, Value.pointer (some ⟨b15, 0, none⟩)), (6, Value.slice p16 m17 c18), (9, Value.pointer (some ⟨b48, 0, none⟩)), (10, Value.int IntKind.i64 (((k : Nat) : Int))), (11, Value.pointer (some ⟨b106, 0, none⟩)), (45, Value.bool false), (68, Value.bool false)] ⟨rfl, rfl, rfl, rfl, rfl, rfl, rfl, rfl, trivial⟩ (fun a => Code.wp _ _ _ a _) (fun lr116 => ?_)
            refine go_seq (x := CA Try.f7 [1, 1, 1, 1, 1, 1, 1, 1, 1, 1, 1, 0]) (y := CA Try.f7 [1, 1, 1, 1, 1, 1, 1, 1, 1, 1, 1, 1]) (by kernel_rfl) ?_
            refine go_pln (id := 22) (ops := RA Try.f7 [1, 1, 1, 1, 1, 1, 1, 1, 1, 1, 1, 0]) [0, 1, 2, 3, 4, 5, 6, 7] (by kernel_rfl) (by kernel_rfl) ?_
            refine plain_batch (rest := [1, 2, 3, 4, 5, 6, 7]) [⟨0, [], none⟩] (l' := [(73, Value.pointer (some ⟨b106, 0, none⟩)), (1, Value.slice p1 n1 cp1), (5, Value.pointer (some ⟨b15, 0, none⟩)), (6, Value.slice p16 m17 c18), (9, Value.pointer (some ⟨b48, 0, none⟩)), (10, Value.int IntKind.i64 (((k : Nat) : Int))), (11, Value.pointer (some ⟨b106, 0, none⟩)), (45, Value.bool false), (68, Value.bool false)] ++ lr116) (pts' := []) (eqs := []) (by kernel_rfl) trivial (AllC_nil _) ?_
            have h119 : sat g w113 [PStk b106 L19, PStk b15 L19, Sl 25 2 p95 m17 c96 (fl eR L19), Sl 25 2 p16 m17 c18 (fl eR L19), PStk b48 M, Sl 25 2 p27 m17 c28 cs, Old wo, R] := sat_sel [1, 0, 2, 3, 4, 5, 6, 7] rfl h115
            refine plain_act (i := 1) (by kernel_rfl) ?_
            refine an_call (d := some 74) (f := 21) (args := [Value.pointer (some ⟨b106, 0, none⟩)]) (by kernel_rfl) Try.call21 (all_n b106 L19 m17 hm20) (F := [PStk b15 L19, Sl 25 2 p95 m17 c96 (fl eR L19), Sl 25 2 p16 m17 c18 (fl eR L19), PStk b48 M, Sl 25 2 p27 m17 c28 cs, Old wo, R]) h119 ?_
            rintro v K w120 (⟨p117, c118, rfl, rfl⟩) h121
            refine ⟨_, rfl, ?_⟩
            have h122 : sat g w120 [PStk b106 L19, Sl 25 2 p117 m17 c118 (fl eR L19), PStk b15 L19, Sl 25 2 p95 m17 c96 (fl eR L19), Sl 25 2 p16 m17 c18 (fl eR L19), PStk b48 M, Sl 25 2 p27 m17 c28 cs, Old wo, R] := h121
            refine plain_batch (rest := [3, 4, 5, 6, 7]) [⟨2, [], none⟩] (l' := [(75, Value.slice p16 m17 c18), (74, Value.slice p117 m17 c118), (73, Value.pointer (some ⟨b106, 0, none⟩)), (1, Value.slice p1 n1 cp1), (5, Value.pointer (some ⟨b15, 0, none⟩)), (6, Value.slice p16 m17 c18), (9, Value.pointer (some ⟨b48, 0, none⟩)), (10, Value.int IntKind.i64 (((k : Nat) : Int))), (11, Value.pointer (some ⟨b106, 0, none⟩)), (45, Value.bool false), (68, Value.bool false)] ++ lr116) (pts' := []) (eqs := []) (by kernel_rfl) trivial (AllC_nil _) ?_
            have h123 : sat g w120 [Sl 25 2 p117 m17 c118 (fl eR L19), Sl 25 2 p16 m17 c18 (fl eR L19), PStk b106 L19, PStk b15 L19, Sl 25 2 p95 m17 c96 (fl eR L19), PStk b48 M, Sl 25 2 p27 m17 c28 cs, Old wo, R] := sat_sel [1, 4, 0, 2, 3, 5, 6, 7, 8] rfl h122
            refine plain_act (i := 3) (by kernel_rfl) ?_
            refine an_call (d := some 76) (f := 20) (args := [Value.slice p117 m17 c118, Value.slice p16 m17 c18]) (by kernel_rfl) Try.call20 (same_eq _ _ p117 p16 m17 c118 c18 L19 (gv_sl _ _ _) (gv_sl _ _ _) hm20 hm20 (by omega)) (F := [PStk b106 L19, PStk b15 L19, Sl 25 2 p95 m17 c96 (fl eR L19), PStk b48 M, Sl 25 2 p27 m17 c28 cs, Old wo, R]) h123 ?_
            rintro v K w124 (⟨rfl, rfl⟩) h125
            refine ⟨_, rfl, ?_⟩
            have h126 : sat g w124 [Sl 25 2 p117 m17 c118 (fl eR L19), Sl 25 2 p16 m17 c18 (fl eR L19), PStk b106 L19, PStk b15 L19, Sl 25 2 p95 m17 c96 (fl eR L19), PStk b48 M, Sl 25 2 p27 m17 c28 cs, Old wo, R] := h125
            refine plain_batch (rest := [5, 6, 7]) [⟨4, [], none⟩] (l' := [(77, Value.bool true), (76, Value.bool true), (75, Value.slice p16 m17 c18), (74, Value.slice p117 m17 c118), (73, Value.pointer (some ⟨b106, 0, none⟩)), (1, Value.slice p1 n1 cp1), (5, Value.pointer (some ⟨b15, 0, none⟩)), (6, Value.slice p16 m17 c18), (9, Value.pointer (some ⟨b48, 0, none⟩)), (10, Value.int IntKind.i64 (((k : Nat) : Int))), (11, Value.pointer (some ⟨b106, 0, none⟩)), (45, Value.bool false), (68, Value.bool false)] ++ lr116) (pts' := []) (eqs := []) (by kernel_rfl) trivial (AllC_nil _) ?_
            refine plain_act (i := 5) (by kernel_rfl) ?_
            refine an_call (d := some 78) (f := 11) (args := []) (by kernel_rfl) Try.call11 (works_ht) (F := [Sl 25 2 p117 m17 c118 (fl eR L19), Sl 25 2 p16 m17 c18 (fl eR L19), PStk b106 L19, PStk b15 L19, Sl 25 2 p95 m17 c96 (fl eR L19), PStk b48 M, Sl 25 2 p27 m17 c28 cs, Old wo, R]) h126 ?_
            rintro v K w127 (⟨rfl, rfl⟩) h128
            refine ⟨_, rfl, ?_⟩
            have h129 : sat g w127 [Sl 25 2 p117 m17 c118 (fl eR L19), Sl 25 2 p16 m17 c18 (fl eR L19), PStk b106 L19, PStk b15 L19, Sl 25 2 p95 m17 c96 (fl eR L19), PStk b48 M, Sl 25 2 p27 m17 c28 cs, Old wo, R] := h128
            refine plain_batch (rest := []) [⟨6, [], none⟩, ⟨7, [], none⟩] (l' := [(4, Value.bool true), (79, Value.bool true), (78, Value.bool true), (77, Value.bool true), (76, Value.bool true), (75, Value.slice p16 m17 c18), (74, Value.slice p117 m17 c118), (73, Value.pointer (some ⟨b106, 0, none⟩)), (1, Value.slice p1 n1 cp1), (5, Value.pointer (some ⟨b15, 0, none⟩)), (6, Value.slice p16 m17 c18), (9, Value.pointer (some ⟨b48, 0, none⟩)), (10, Value.int IntKind.i64 (((k : Nat) : Int))), (11, Value.pointer (some ⟨b106, 0, none⟩)), (45, Value.bool false), (68, Value.bool false)] ++ lr116) (pts' := []) (eqs := []) (by kernel_rfl) trivial (AllC_nil _) ?_
            change Code.wp _ (CA Try.f7 [1, 1, 1, 1, 1, 1, 1, 1, 1, 1, 1, 1]) _ _ _
            refine fr_cut [(1, Value.slice p1 n1 cp1), (4, Value.bool true), (5, Value.pointer (some ⟨b15, 0, none⟩)), (6, Value.slice p16 m17 c18), (9, Value.pointer (some ⟨b48, 0, none⟩)), (10, Value.int IntKind.i64 (((k : Nat) : Int))), (11, Value.pointer (some ⟨b106, 0, none⟩)), (45, Value.bool false), (68, Value.bool false)] ⟨rfl, rfl, rfl, rfl, rfl, rfl, rfl, rfl, rfl, trivial⟩ (fun a => Code.wp _ _ _ a _) (fun lr130 => ?_)
            refine go_rt (by kernel_rfl) ?_
            try simp only [Exit.inBlock, Exit.then]
            have h131 : sat g w127 [Old wo, Sl 25 2 p117 m17 c118 (fl eR L19), Sl 25 2 p16 m17 c18 (fl eR L19), PStk b106 L19, PStk b15 L19, Sl 25 2 p95 m17 c96 (fl eR L19), PStk b48 M, Sl 25 2 p27 m17 c28 cs, R] := sat_sel [7, 0, 1, 2, 3, 4, 5, 6, 8] rfl h129
            have h132 : sat g w127 [Old wo, R] := sat_sel [0, 8] rfl h131
            refine ht_out [] (Value.bool true) [] (by kernel_rfl) (by intro q hq; cases hq) ?_
            exact ⟨Value.bool true, [Old wo], rfl, ⟨rfl, rfl⟩, h132⟩
          ·
            obtain ⟨x133, hx134⟩ : ∃ x, L19[m17 - 1]? = some x := ⟨_, List.getElem?_eq_getElem (by omega)⟩
            refine plain_act (i := 1) (by kernel_rfl) ?_
            refine an_call (d := some 72) (f := 23) (args := [Value.pointer (some ⟨b15, 0, none⟩)]) (by kernel_rfl) Try.call23 (pop_n b15 m17 L19 hm20 (m17 - 1) x133 (by omega) hx134) (F := [PStk b106 L19, Sl 25 2 p95 m17 c96 (fl eR L19), Sl 25 2 p16 m17 c18 (fl eR L19), PStk b48 M, Sl 25 2 p27 m17 c28 cs, Old wo, R]) h110 ?_
            rintro v K w135 (⟨rfl, rfl⟩) h136
            refine ⟨_, rfl, ?_⟩
            have h137 : sat g w135 [PStk b15 (L19.eraseIdx (m17 - 1)), PStk b106 L19, Sl 25 2 p95 m17 c96 (fl eR L19), Sl 25 2 p16 m17 c18 (fl eR L19), PStk b48 M, Sl 25 2 p27 m17 c28 cs, Old wo, R] := h136
            change Code.wp _ (CA Try.f7 [1, 1, 1, 1, 1, 1, 1, 1, 1, 1, 1]) _ _ _
            refine fr_cut [(1, Value.slice p1 n1 cp1), (5, Value.pointer (some ⟨b15, 0, none⟩)), (6, Value.slice p16 m17 c18), (9, Value.pointer (some ⟨b48, 0, none⟩)), (10, Value.int IntKind.i64 (((k : Nat) : Int))), (11, Value.pointer (some ⟨b106, 0, none⟩)), (45, Value.bool false), (68, Value.bool false)] ⟨rfl, rfl, rfl, rfl, rfl, rfl, rfl, rfl, trivial⟩ (fun a => Code.wp _ _ _ a _) (fun lr138 => ?_)
            refine go_seq (x := CA Try.f7 [1, 1, 1, 1, 1, 1, 1, 1, 1, 1, 1, 0]) (y := CA Try.f7 [1, 1, 1, 1, 1, 1, 1, 1, 1, 1, 1, 1]) (by kernel_rfl) ?_
            refine go_pln (id := 22) (ops := RA Try.f7 [1, 1, 1, 1, 1, 1, 1, 1, 1, 1, 1, 0]) [0, 1, 2, 3, 4, 5, 6, 7] (by kernel_rfl) (by kernel_rfl) ?_
            refine plain_batch (rest := [1, 2, 3, 4, 5, 6, 7]) [⟨0, [], none⟩] (l' := [(73, Value.pointer (some ⟨b106, 0, none⟩)), (1, Value.slice p1 n1 cp1), (5, Value.pointer (some ⟨b15, 0, none⟩)), (6, Value.slice p16 m17 c18), (9, Value.pointer (some ⟨b48, 0, none⟩)), (10, Value.int IntKind.i64 (((k : Nat) : Int))), (11, Value.pointer (some ⟨b106, 0, none⟩)), (45, Value.bool false), (68, Value.bool false)] ++ lr138) (pts' := []) (eqs := []) (by kernel_rfl) trivial (AllC_nil _) ?_
            have h141 : sat g w135 [PStk b106 L19, PStk b15 (L19.eraseIdx (m17 - 1)), Sl 25 2 p95 m17 c96 (fl eR L19), Sl 25 2 p16 m17 c18 (fl eR L19), PStk b48 M, Sl 25 2 p27 m17 c28 cs, Old wo, R] := sat_sel [1, 0, 2, 3, 4, 5, 6, 7] rfl h137
            refine plain_act (i := 1) (by kernel_rfl) ?_
            refine an_call (d := some 74) (f := 21) (args := [Value.pointer (some ⟨b106, 0, none⟩)]) (by kernel_rfl) Try.call21 (all_n b106 L19 m17 hm20) (F := [PStk b15 (L19.eraseIdx (m17 - 1)), Sl 25 2 p95 m17 c96 (fl eR L19), Sl 25 2 p16 m17 c18 (fl eR L19), PStk b48 M, Sl 25 2 p27 m17 c28 cs, Old wo, R]) h141 ?_
            rintro v K w142 (⟨p139, c140, rfl, rfl⟩) h143
            refine ⟨_, rfl, ?_⟩
            have h144 : sat g w142 [PStk b106 L19, Sl 25 2 p139 m17 c140 (fl eR L19), PStk b15 (L19.eraseIdx (m17 - 1)), Sl 25 2 p95 m17 c96 (fl eR L19), Sl 25 2 p16 m17 c18 (fl eR L19), PStk b48 M, Sl 25 2 p27 m17 c28 cs, Old wo, R] := h143
            refine plain_batch (rest := [3, 4, 5, 6, 7]) [⟨2, [], none⟩] (l' := [(75, Value.slice p16 m17 c18), (74, Value.slice p139 m17 c140), (73, Value.pointer (some ⟨b106, 0, none⟩)), (1, Value.slice p1 n1 cp1), (5, Value.pointer (some ⟨b15, 0, none⟩)), (6, Value.slice p16 m17 c18), (9, Value.pointer (some ⟨b48, 0, none⟩)), (10, Value.int IntKind.i64 (((k : Nat) : Int))), (11, Value.pointer (some ⟨b106, 0, none⟩)), (45, Value.bool false), (68, Value.bool false)] ++ lr138) (pts' := []) (eqs := []) (by kernel_rfl) trivial (AllC_nil _) ?_
            have h145 : sat g w142 [Sl 25 2 p139 m17 c140 (fl eR L19), Sl 25 2 p16 m17 c18 (fl eR L19), PStk b106 L19, PStk b15 (L19.eraseIdx (m17 - 1)), Sl 25 2 p95 m17 c96 (fl eR L19), PStk b48 M, Sl 25 2 p27 m17 c28 cs, Old wo, R] := sat_sel [1, 4, 0, 2, 3, 5, 6, 7, 8] rfl h144
            refine plain_act (i := 3) (by kernel_rfl) ?_
            refine an_call (d := some 76) (f := 20) (args := [Value.slice p139 m17 c140, Value.slice p16 m17 c18]) (by kernel_rfl) Try.call20 (same_eq _ _ p139 p16 m17 c140 c18 L19 (gv_sl _ _ _) (gv_sl _ _ _) hm20 hm20 (by omega)) (F := [PStk b106 L19, PStk b15 (L19.eraseIdx (m17 - 1)), Sl 25 2 p95 m17 c96 (fl eR L19), PStk b48 M, Sl 25 2 p27 m17 c28 cs, Old wo, R]) h145 ?_
            rintro v K w146 (⟨rfl, rfl⟩) h147
            refine ⟨_, rfl, ?_⟩
            have h148 : sat g w146 [Sl 25 2 p139 m17 c140 (fl eR L19), Sl 25 2 p16 m17 c18 (fl eR L19), PStk b106 L19, PStk b15 (L19.eraseIdx (m17 - 1)), Sl 25 2 p95 m17 c96 (fl eR L19), PStk b48 M, Sl 25 2 p27 m17 c28 cs, Old wo, R] := h147
            refine plain_batch (rest := [5, 6, 7]) [⟨4, [], none⟩] (l' := [(77, Value.bool true), (76, Value.bool true), (75, Value.slice p16 m17 c18), (74, Value.slice p139 m17 c140), (73, Value.pointer (some ⟨b106, 0, none⟩)), (1, Value.slice p1 n1 cp1), (5, Value.pointer (some ⟨b15, 0, none⟩)), (6, Value.slice p16 m17 c18), (9, Value.pointer (some ⟨b48, 0, none⟩)), (10, Value.int IntKind.i64 (((k : Nat) : Int))), (11, Value.pointer (some ⟨b106, 0, none⟩)), (45, Value.bool false), (68, Value.bool false)] ++ lr138) (pts' := []) (eqs := []) (by kernel_rfl) trivial (AllC_nil _) ?_
            refine plain_act (i := 5) (by kernel_rfl) ?_
            refine an_call (d := some 78) (f := 11) (args := []) (by kernel_rfl) Try.call11 (works_ht) (F := [Sl 25 2 p139 m17 c140 (fl eR L19), Sl 25 2 p16 m17 c18 (fl eR L19), PStk b106 L19, PStk b15 (L19.eraseIdx (m17 - 1)), Sl 25 2 p95 m17 c96 (fl eR L19), PStk b48 M, Sl 25 2 p27 m17 c28 cs, Old wo, R]) h148 ?_
            rintro v K w149 (⟨rfl, rfl⟩) h150
            refine ⟨_, rfl, ?_⟩
            have h151 : sat g w149 [Sl 25 2 p139 m17 c140 (fl eR L19), Sl 25 2 p16 m17 c18 (fl eR L19), PStk b106 L19, PStk b15 (L19.eraseIdx (m17 - 1)), Sl 25 2 p95 m17 c96 (fl eR L19), PStk b48 M, Sl 25 2 p27 m17 c28 cs, Old wo, R] := h150
            refine plain_batch (rest := []) [⟨6, [], none⟩, ⟨7, [], none⟩] (l' := [(4, Value.bool true), (79, Value.bool true), (78, Value.bool true), (77, Value.bool true), (76, Value.bool true), (75, Value.slice p16 m17 c18), (74, Value.slice p139 m17 c140), (73, Value.pointer (some ⟨b106, 0, none⟩)), (1, Value.slice p1 n1 cp1), (5, Value.pointer (some ⟨b15, 0, none⟩)), (6, Value.slice p16 m17 c18), (9, Value.pointer (some ⟨b48, 0, none⟩)), (10, Value.int IntKind.i64 (((k : Nat) : Int))), (11, Value.pointer (some ⟨b106, 0, none⟩)), (45, Value.bool false), (68, Value.bool false)] ++ lr138) (pts' := []) (eqs := []) (by kernel_rfl) trivial (AllC_nil _) ?_
            change Code.wp _ (CA Try.f7 [1, 1, 1, 1, 1, 1, 1, 1, 1, 1, 1, 1]) _ _ _
            refine fr_cut [(1, Value.slice p1 n1 cp1), (4, Value.bool true), (5, Value.pointer (some ⟨b15, 0, none⟩)), (6, Value.slice p16 m17 c18), (9, Value.pointer (some ⟨b48, 0, none⟩)), (10, Value.int IntKind.i64 (((k : Nat) : Int))), (11, Value.pointer (some ⟨b106, 0, none⟩)), (45, Value.bool false), (68, Value.bool false)] ⟨rfl, rfl, rfl, rfl, rfl, rfl, rfl, rfl, rfl, trivial⟩ (fun a => Code.wp _ _ _ a _) (fun lr152 => ?_)
            refine go_rt (by kernel_rfl) ?_
            try simp only [Exit.inBlock, Exit.then]
            have h153 : sat g w149 [Old wo, Sl 25 2 p139 m17 c140 (fl eR L19), Sl 25 2 p16 m17 c18 (fl eR L19), PStk b106 L19, PStk b15 (L19.eraseIdx (m17 - 1)), Sl 25 2 p95 m17 c96 (fl eR L19), PStk b48 M, Sl 25 2 p27 m17 c28 cs, R] := sat_sel [7, 0, 1, 2, 3, 4, 5, 6, 8] rfl h151
            have h154 : sat g w149 [Old wo, R] := sat_sel [0, 8] rfl h153
            refine ht_out [] (Value.bool true) [] (by kernel_rfl) (by intro q hq; cases hq) ?_
            exact ⟨Value.bool true, [Old wo], rfl, ⟨rfl, rfl⟩, h154⟩

end Go.Proofs.Ytafencnieimpnaa
