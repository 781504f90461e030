/- Walks, printed by my generator gen8.py. -/
import Derived.Test.YtafencnieimpnaaRtsN
namespace Go.Proofs.Ytafencnieimpnaa
set_option maxHeartbeats 4000000 in
theorem copy_ht (b : Nat) (L : List Rf) : HT Try.prog 22 [Value.pointer (some ⟨b, 0, none⟩)] [PStk b L] (fun v K => ∃ b2 : Nat, v = Value.pointer (some ⟨b2, 0, none⟩) ∧ K = [PStk b L, PStk b2 L]) := by
  refine ht_in 10 [(0, Value.pointer (some ⟨b, 0, none⟩))] Try.func22 (by kernel_rfl) Try.ntmps22 rfl rfl ?_
  intro g w0 R h0
  obtain ⟨T1, hT2, h3⟩ := sat_open (X := List Rf) (p := fun T => (L ++ T).length = 32) (B := fun T => Cl b (stk L.length (L ++ T)) 57) h0 (fun _ hh => hh)
  rw [List.length_append] at hT2
  refine go_seq (x := CA Try.f22 [0]) (y := CA Try.f22 [1]) (by kernel_rfl) ?_
  refine go_pln (id := 0) (ops := RA Try.f22 [0]) [0] (by kernel_rfl) (by kernel_rfl) ?_
  refine plain_batch (rest := []) [⟨0, [], none⟩] (l' := [(2, Value.pointer none), (0, Value.pointer (some ⟨b, 0, none⟩))]) (pts' := []) (eqs := []) (by kernel_rfl) trivial (AllC_nil _) ?_
  change Code.wp _ (CA Try.f22 [1]) _ _ _
  refine fr_cut [(0, Value.pointer (some ⟨b, 0, none⟩)), (2, Value.pointer none)] ⟨rfl, rfl, trivial⟩ (fun a => Code.wp _ _ _ a _) (fun lr4 => ?_)
  refine go_seq (x := CA Try.f22 [1, 0]) (y := CA Try.f22 [1, 1]) (by kernel_rfl) ?_
  refine go_seq (x := CA Try.f22 [1, 0, 0]) (y := CA Try.f22 [1, 0, 1]) (by kernel_rfl) ?_
  refine go_pln (id := 1) (ops := RA Try.f22 [1, 0, 0]) [0, 1, 2] (by kernel_rfl) (by kernel_rfl) ?_
  refine plain_batch (rest := [1, 2]) [⟨0, [], none⟩] (l' := [(4, Value.pointer (some ⟨b, 0, none⟩)), (0, Value.pointer (some ⟨b, 0, none⟩)), (2, Value.pointer none)] ++ lr4) (pts' := []) (eqs := []) (by kernel_rfl) trivial (AllC_nil _) ?_
  refine plain_act (i := 1) (by kernel_rfl) ?_
  refine an_call (d := some 5) (f := 39) (args := [Value.pointer (some ⟨b, 0, none⟩)]) (by kernel_rfl) Try.call39 (valid_ht b _) (F := [R]) h3 ?_
  rintro v K w5 (⟨rfl, rfl⟩) h6
  refine ⟨_, rfl, ?_⟩
  have h7 : sat g w5 [Cl b (stk L.length (L ++ T1)) 57, R] := h6
  refine plain_batch (rest := []) [⟨2, [], none⟩] (l' := [(6, Value.bool false), (5, Value.bool true), (4, Value.pointer (some ⟨b, 0, none⟩)), (0, Value.pointer (some ⟨b, 0, none⟩)), (2, Value.pointer none)] ++ lr4) (pts' := []) (eqs := []) (by kernel_rfl) trivial (AllC_nil _) ?_
  change Code.wp _ (CA Try.f22 [1, 0, 1]) _ _ _
  refine fr_cut [(0, Value.pointer (some ⟨b, 0, none⟩)), (2, Value.pointer none), (6, Value.bool false)] ⟨rfl, rfl, rfl, trivial⟩ (fun a => Code.wp _ _ _ a _) (fun lr8 => ?_)
  refine go_cnd (x := (Operand.tmp 6)) (s := CA Try.f22 [1, 0, 1, 0]) (t := CA Try.f22 [1, 0, 1, 1]) false (by kernel_rfl) (by kernel_rfl) ?_
  change Code.wp _ (CA Try.f22 [1, 0, 1, 1]) _ _ _
  refine go_skp (by kernel_rfl) ?_
  change Code.wp _ (CA Try.f22 [1, 1]) _ _ _
  refine go_seq (x := CA Try.f22 [1, 1, 0]) (y := CA Try.f22 [1, 1, 1]) (by kernel_rfl) ?_
  refine go_pln (id := 3) (ops := RA Try.f22 [1, 1, 0]) [0, 1, 2, 3, 4] (by kernel_rfl) (by kernel_rfl) ?_
  refine plain_batch (rest := [2, 3, 4]) [⟨0, [], none⟩, ⟨1, [], none⟩] (l' := [(8, Value.pointer (some ⟨b, 0, none⟩)), (7, Value.pointer (some ⟨b, 0, none⟩)), (0, Value.pointer (some ⟨b, 0, none⟩)), (2, Value.pointer none), (6, Value.bool false)] ++ lr8) (pts' := []) (eqs := []) (by kernel_rfl) trivial (AllC_nil _) ?_
  refine plain_law (i := 2) 9 (Value.agg (stk L.length (L ++ T1)).toArray) (by kernel_rfl) (law_loadRow (o := opA (RA Try.f22 [1, 1, 0]) 2) (x := (Operand.tmp 8)) (by kernel_rfl) 0 h7 rfl _ rfl Try.underlying57 (by rw [stk_len, List.length_append, hT2]; kernel_rfl) (by kernel_rfl)) ?_
  refine plain_act (i := 3) (by kernel_rfl) ?_
  refine an_new (d := 3) (fun xb_ => Value.pointer (some ⟨xb_, 0, none⟩)) (fun xb_ => Obj.cells [Value.bool false, Value.int IntKind.i64 0, Value.int IntKind.i64 0, Value.int IntKind.u32 0, Value.int IntKind.i64 0, Value.int IntKind.u32 0, Value.int IntKind.i64 0, Value.int IntKind.u32 0, Value.int IntKind.i64 0, Value.int IntKind.u32 0, Value.int IntKind.i64 0, Value.int IntKind.u32 0, Value.int IntKind.i64 0, Value.int IntKind.u32 0, Value.int IntKind.i64 0, Value.int IntKind.u32 0, Value.int IntKind.i64 0, Value.int IntKind.u32 0, Value.int IntKind.i64 0, Value.int IntKind.u32 0, Value.int IntKind.i64 0, Value.int IntKind.u32 0, Value.int IntKind.i64 0, Value.int IntKind.u32 0, Value.int IntKind.i64 0, Value.int IntKind.u32 0, Value.int IntKind.i64 0, Value.int IntKind.u32 0, Value.int IntKind.i64 0, Value.int IntKind.u32 0, Value.int IntKind.i64 0, Value.int IntKind.u32 0, Value.int IntKind.i64 0, Value.int IntKind.u32 0, Value.int IntKind.i64 0, Value.int IntKind.u32 0, Value.int IntKind.i64 0, Value.int IntKind.u32 0, Value.int IntKind.i64 0, Value.int IntKind.u32 0, Value.int IntKind.i64 0, Value.int IntKind.u32 0, Value.int IntKind.i64 0, Value.int IntKind.u32 0, Value.int IntKind.i64 0, Value.int IntKind.u32 0, Value.int IntKind.i64 0, Value.int IntKind.u32 0, Value.int IntKind.i64 0, Value.int IntKind.u32 0, Value.int IntKind.i64 0, Value.int IntKind.u32 0, Value.int IntKind.i64 0, Value.int IntKind.u32 0, Value.int IntKind.i64 0, Value.int IntKind.u32 0, Value.int IntKind.i64 0, Value.int IntKind.u32 0, Value.int IntKind.i64 0, Value.int IntKind.u32 0, Value.int IntKind.i64 0, Value.int IntKind.u32 0, Value.int IntKind.i64 0, Value.int IntKind.u32 0, Value.int IntKind.i64 0, Value.int IntKind.u32 0].toArray 57 (0, 0)) (fun xb_ => by kernel_rfl) (by kernel_rfl) rfl h7 ?_
  intro r9 w10 (h11 : sat g w10 [Cl r9 [Value.bool false, Value.int IntKind.i64 0, Value.int IntKind.i64 0, Value.int IntKind.u32 0, Value.int IntKind.i64 0, Value.int IntKind.u32 0, Value.int IntKind.i64 0, Value.int IntKind.u32 0, Value.int IntKind.i64 0, Value.int IntKind.u32 0, Value.int IntKind.i64 0, Value.int IntKind.u32 0, Value.int IntKind.i64 0, Value.int IntKind.u32 0, Value.int IntKind.i64 0, Value.int IntKind.u32 0, Value.int IntKind.i64 0, Value.int IntKind.u32 0, Value.int IntKind.i64 0, Value.int IntKind.u32 0, Value.int IntKind.i64 0, Value.int IntKind.u32 0, Value.int IntKind.i64 0, Value.int IntKind.u32 0, Value.int IntKind.i64 0, Value.int IntKind.u32 0, Value.int IntKind.i64 0, Value.int IntKind.u32 0, Value.int IntKind.i64 0, Value.int IntKind.u32 0, Value.int IntKind.i64 0, Value.int IntKind.u32 0, Value.int IntKind.i64 0, Value.int IntKind.u32 0, Value.int IntKind.i64 0, Value.int IntKind.u32 0, Value.int IntKind.i64 0, Value.int IntKind.u32 0, Value.int IntKind.i64 0, Value.int IntKind.u32 0, Value.int IntKind.i64 0, Value.int IntKind.u32 0, Value.int IntKind.i64 0, Value.int IntKind.u32 0, Value.int IntKind.i64 0, Value.int IntKind.u32 0, Value.int IntKind.i64 0, Value.int IntKind.u32 0, Value.int IntKind.i64 0, Value.int IntKind.u32 0, Value.int IntKind.i64 0, Value.int IntKind.u32 0, Value.int IntKind.i64 0, Value.int IntKind.u32 0, Value.int IntKind.i64 0, Value.int IntKind.u32 0, Value.int IntKind.i64 0, Value.int IntKind.u32 0, Value.int IntKind.i64 0, Value.int IntKind.u32 0, Value.int IntKind.i64 0, Value.int IntKind.u32 0, Value.int IntKind.i64 0, Value.int IntKind.u32 0, Value.int IntKind.i64 0, Value.int IntKind.u32 0] 57, Cl b (stk L.length (L ++ T1)) 57, R])
  refine plain_act (i := 4) (by kernel_rfl) ?_
  refine an_storeRow (t := 57) (x := (Operand.tmp 3)) (y := (Operand.tmp 9)) (cs := stk L.length (L ++ T1)) (by kernel_rfl) (by kernel_rfl) h11 (by rw [stk_len, List.length_append, hT2]; kernel_rfl) (by rw [stk_len, List.length_append, hT2]; rfl) (stk_one _ _) (by kernel_rfl) (by kernel_rfl) ?_
  intro w12 (h13 : sat g w12 [Cl r9 (stk L.length (L ++ T1)) 57, Cl b (stk L.length (L ++ T1)) 57, R])
  change Code.wp _ (CA Try.f22 [1, 1, 1]) _ _ _
  refine fr_cut [(0, Value.pointer (some ⟨b, 0, none⟩)), (2, Value.pointer none), (3, Value.pointer (some ⟨r9, 0, none⟩)), (6, Value.bool false)] ⟨rfl, rfl, rfl, rfl, trivial⟩ (fun a => Code.wp _ _ _ a _) (fun lr14 => ?_)
  refine go_seq (x := CA Try.f22 [1, 1, 1, 0]) (y := CA Try.f22 [1, 1, 1, 1]) (by kernel_rfl) ?_
  refine go_pln (id := 4) (ops := RA Try.f22 [1, 1, 1, 0]) [0] (by kernel_rfl) (by kernel_rfl) ?_
  refine plain_batch (rest := []) [⟨0, [], none⟩] (l' := [(2, Value.pointer (some ⟨r9, 0, none⟩)), (0, Value.pointer (some ⟨b, 0, none⟩)), (2, Value.pointer none), (3, Value.pointer (some ⟨r9, 0, none⟩)), (6, Value.bool false)] ++ lr14) (pts' := []) (eqs := []) (by kernel_rfl) trivial (AllC_nil _) ?_
  change Code.wp _ (CA Try.f22 [1, 1, 1, 1]) _ _ _
  refine fr_cut [(0, Value.pointer (some ⟨b, 0, none⟩)), (2, Value.pointer (some ⟨r9, 0, none⟩)), (3, Value.pointer (some ⟨r9, 0, none⟩)), (6, Value.bool false)] ⟨rfl, rfl, rfl, rfl, trivial⟩ (fun a => Code.wp _ _ _ a _) (fun lr15 => ?_)
  refine go_rt (by kernel_rfl) ?_
  have h16 : sat g w12 [PStk r9 L, Cl b (stk L.length (L ++ T1)) 57, R] := sat_imp h13 (fun _ hh => ⟨T1, (by rw [List.length_append]; exact hT2), hh⟩)
  have h17 : sat g w12 [Cl b (stk L.length (L ++ T1)) 57, PStk r9 L, R] := sat_sel [1, 0, 2] rfl h16
  have h18 : sat g w12 [PStk b L, PStk r9 L, R] := sat_imp h17 (fun _ hh => ⟨T1, (by rw [List.length_append]; exact hT2), hh⟩)
  try simp only [Exit.inBlock, Exit.then]
  refine ht_out [] (Value.pointer (some ⟨r9, 0, none⟩)) [] (by kernel_rfl) (by intro q hq; cases hq) ?_
  exact ⟨Value.pointer (some ⟨r9, 0, none⟩), [PStk b L, PStk r9 L], rfl, ⟨r9, rfl, rfl⟩, h18⟩

theorem all_fl (b : Nat) (L : List Rf) : HT Try.prog 21 [Value.pointer (some ⟨b, 0, none⟩)] [PStk b L] (fun v K => ∃ (p : Option Addr) (c : Nat), v = Value.slice p L.length c ∧ K = [PStk b L, Sl 25 2 p L.length c (fl eR L)]) := by
  rw [← flat_fl]
  exact all_ht b L

theorem all_n (b : Nat) (L : List Rf) (n : Nat) (hn : L.length = n) : HT Try.prog 21 [Value.pointer (some ⟨b, 0, none⟩)] [PStk b L] (fun v K => ∃ (p : Option Addr) (c : Nat), v = Value.slice p n c ∧ K = [PStk b L, Sl 25 2 p n c (fl eR L)]) := by
  subst hn
  exact all_fl b L

set_option maxHeartbeats 4000000 in
theorem same_eq (A1 A2 : Assn) (p1 p2 : Option Addr) (n c1 c2 : Nat) (L : List Rf) (hg1 : Gv A1 p1 n (fl eR L)) (hg2 : Gv A2 p2 n (fl eR L)) (hl1 : L.length = n) (hl2 : L.length = n) (hn : n ≤ 1000000) : HT Try.prog 20 [Value.slice p1 n c1, Value.slice p2 n c2] [A1, A2] (fun v K => v = Value.bool true ∧ K = [A1, A2]) := by
  refine ht_in 26 [(0, Value.slice p1 n c1), (1, Value.slice p2 n c2)] Try.func20 (by kernel_rfl) Try.ntmps20 rfl rfl ?_
  intro g w0 R h0
  refine go_seq (x := CA Try.f20 [0]) (y := CA Try.f20 [1]) (by kernel_rfl) ?_
  refine go_pln (id := 0) (ops := RA Try.f20 [0]) [0] (by kernel_rfl) (by kernel_rfl) ?_
  refine plain_batch (rest := []) [⟨0, [], none⟩] (l' := [(4, Value.bool false), (0, Value.slice p1 n c1), (1, Value.slice p2 n c2)]) (pts' := []) (eqs := []) (by kernel_rfl) trivial (AllC_nil _) ?_
  change Code.wp _ (CA Try.f20 [1]) _ _ _
  refine fr_cut [(0, Value.slice p1 n c1), (1, Value.slice p2 n c2), (4, Value.bool false)] ⟨rfl, rfl, rfl, trivial⟩ (fun a => Code.wp _ _ _ a _) (fun lr1 => ?_)
  refine go_seq (x := CA Try.f20 [1, 0]) (y := CA Try.f20 [1, 1]) (by kernel_rfl) ?_
  refine go_seq (x := CA Try.f20 [1, 0, 0]) (y := CA Try.f20 [1, 0, 1]) (by kernel_rfl) ?_
  refine go_pln (id := 1) (ops := RA Try.f20 [1, 0, 0]) [0, 1, 2, 3, 4] (by kernel_rfl) (by kernel_rfl) ?_
  refine plain_batch (rest := []) [⟨0, [], none⟩, ⟨1, [], none⟩, ⟨2, [], none⟩, ⟨3, [], none⟩, ⟨4, [], some (Value.bool false)⟩] (l' := [(10, Value.bool false), (9, Value.int IntKind.i64 (((n : Nat) : Int))), (8, Value.slice p2 n c2), (7, Value.int IntKind.i64 (((n : Nat) : Int))), (6, Value.slice p1 n c1), (0, Value.slice p1 n c1), (1, Value.slice p2 n c2), (4, Value.bool false)] ++ lr1) (pts' := []) (eqs := [(Value.bool ((((n : Nat) : Int)) != (((n : Nat) : Int))), Value.bool false)]) (by kernel_rfl) ⟨(ov_nf (by omega)), trivial⟩ (AllC_nil _) ?_
  change Code.wp _ (CA Try.f20 [1, 0, 1]) _ _ _
  refine fr_cut [(0, Value.slice p1 n c1), (1, Value.slice p2 n c2), (4, Value.bool false), (10, Value.bool false)] ⟨rfl, rfl, rfl, rfl, trivial⟩ (fun a => Code.wp _ _ _ a _) (fun lr2 => ?_)
  refine go_cnd (x := (Operand.tmp 10)) (s := CA Try.f20 [1, 0, 1, 0]) (t := CA Try.f20 [1, 0, 1, 1]) false (by kernel_rfl) (by kernel_rfl) ?_
  change Code.wp _ (CA Try.f20 [1, 0, 1, 1]) _ _ _
  refine go_skp (by kernel_rfl) ?_
  change Code.wp _ (CA Try.f20 [1, 1]) _ _ _
  refine go_seq (x := CA Try.f20 [1, 1, 0]) (y := CA Try.f20 [1, 1, 1]) (by kernel_rfl) ?_
  refine go_seq (x := CA Try.f20 [1, 1, 0, 0]) (y := CA Try.f20 [1, 1, 0, 1]) (by kernel_rfl) ?_
  refine go_pln (id := 3) (ops := RA Try.f20 [1, 1, 0, 0]) [0] (by kernel_rfl) (by kernel_rfl) ?_
  refine plain_batch (rest := []) [⟨0, [], none⟩] (l' := [(5, Value.int IntKind.i64 0), (0, Value.slice p1 n c1), (1, Value.slice p2 n c2), (4, Value.bool false), (10, Value.bool false)] ++ lr2) (pts' := []) (eqs := []) (by kernel_rfl) trivial (AllC_nil _) ?_
  change Code.wp _ (CA Try.f20 [1, 1, 0, 1]) _ _ _
  refine fr_cut [(0, Value.slice p1 n c1), (1, Value.slice p2 n c2), (4, Value.bool false), (5, Value.int IntKind.i64 0), (10, Value.bool false)] ⟨rfl, rfl, rfl, rfl, rfl, trivial⟩ (fun a => Code.wp _ _ _ a _) (fun lr3 => ?_)
  refine go_blk (id := 0) (x := CA Try.f20 [1, 1, 0, 1, 0]) (by kernel_rfl) ?_
  refine lp (x := CA Try.f20 [1, 1, 0, 1, 0, 0]) (by kernel_rfl) (fun mz_ a w => ∃ k : Nat, ∃ lr : Fr, mz_ = n - k ∧ (k ≤ n) ∧ a = mk 26 ([(0, Value.slice p1 n c1), (1, Value.slice p2 n c2), (5, Value.int IntKind.i64 (((k : Nat) : Int)))] ++ lr) ∧ sat g w [A1, A2, R]) (n) ⟨0, _, rfl, (Nat.zero_le _), (mk_live [(0, Value.slice p1 n c1), (1, Value.slice p2 n c2), (5, Value.int IntKind.i64 (((0 : Nat) : Int)))] ⟨rfl, rfl, (ov_int (by omega)), trivial⟩), h0⟩ ?_
  rintro m5 a6 w7 ⟨k, lr4, rfl, hk, rfl, h8⟩
  change Code.wp _ (CA Try.f20 [1, 1, 0, 1, 0, 0]) _ _ _
  refine go_seq (x := CA Try.f20 [1, 1, 0, 1, 0, 0, 0]) (y := CA Try.f20 [1, 1, 0, 1, 0, 0, 1]) (by kernel_rfl) ?_
  refine go_seq (x := CA Try.f20 [1, 1, 0, 1, 0, 0, 0, 0]) (y := CA Try.f20 [1, 1, 0, 1, 0, 0, 0, 1]) (by kernel_rfl) ?_
  refine go_pln (id := 4) (ops := RA Try.f20 [1, 1, 0, 1, 0, 0, 0, 0]) [0, 1, 2, 3] (by kernel_rfl) (by kernel_rfl) ?_
  refine plain_batch (rest := [3]) [⟨0, [], none⟩, ⟨1, [], none⟩, ⟨2, [], none⟩] (l' := [(13, Value.int IntKind.i64 (((n : Nat) : Int))), (12, Value.slice p1 n c1), (11, Value.int IntKind.i64 (((k : Nat) : Int))), (0, Value.slice p1 n c1), (1, Value.slice p2 n c2), (5, Value.int IntKind.i64 (((k : Nat) : Int)))] ++ lr4) (pts' := []) (eqs := []) (by kernel_rfl) trivial (AllC_nil _) ?_
  by_cases c9 : ((k : Nat) : Int) < ((n : Nat) : Int)
  ·
    refine plain_batch (rest := []) [⟨3, [], some (Value.bool true)⟩] (l' := [(14, Value.bool true), (13, Value.int IntKind.i64 (((n : Nat) : Int))), (12, Value.slice p1 n c1), (11, Value.int IntKind.i64 (((k : Nat) : Int))), (0, Value.slice p1 n c1), (1, Value.slice p2 n c2), (5, Value.int IntKind.i64 (((k : Nat) : Int)))] ++ lr4) (pts' := []) (eqs := [(Value.bool (decide (((k : Nat) : Int) < ((n : Nat) : Int))), Value.bool true)]) (by kernel_rfl) ⟨(ov_t (by omega)), trivial⟩ (AllC_nil _) ?_
    change Code.wp _ (CA Try.f20 [1, 1, 0, 1, 0, 0, 0, 1]) _ _ _
    refine fr_cut [(0, Value.slice p1 n c1), (1, Value.slice p2 n c2), (5, Value.int IntKind.i64 (((k : Nat) : Int))), (14, Value.bool true)] ⟨rfl, rfl, rfl, rfl, trivial⟩ (fun a => Code.wp _ _ _ a _) (fun lr10 => ?_)
    refine go_cnd (x := (Operand.tmp 14)) (s := CA Try.f20 [1, 1, 0, 1, 0, 0, 0, 1, 0]) (t := CA Try.f20 [1, 1, 0, 1, 0, 0, 0, 1, 1]) true (by kernel_rfl) (by kernel_rfl) ?_
    change Code.wp _ (CA Try.f20 [1, 1, 0, 1, 0, 0, 0, 1, 0]) _ _ _
    refine go_skp (by kernel_rfl) ?_
    change Code.wp _ (CA Try.f20 [1, 1, 0, 1, 0, 0, 1]) _ _ _
    refine go_seq (x := CA Try.f20 [1, 1, 0, 1, 0, 0, 1, 0]) (y := CA Try.f20 [1, 1, 0, 1, 0, 0, 1, 1]) (by kernel_rfl) ?_
    refine go_blk (id := 1) (x := CA Try.f20 [1, 1, 0, 1, 0, 0, 1, 0, 0]) (by kernel_rfl) ?_
    refine go_seq (x := CA Try.f20 [1, 1, 0, 1, 0, 0, 1, 0, 0, 0]) (y := CA Try.f20 [1, 1, 0, 1, 0, 0, 1, 0, 0, 1]) (by kernel_rfl) ?_
    refine go_drw (id := 6) (ops := RA Try.f20 [1, 1, 0, 1, 0, 0, 1, 0, 0, 0]) (Tr.fl 0 (Tr.fl 1 (Tr.fl 2 (Tr.fl 3 (Tr.fl 4 (Tr.fl 5 (Tr.fl 6 (Tr.fl 7 (Tr.fl 8 Tr.nil))))))))) (by kernel_rfl) (by kernel_rfl) (by kernel_rfl) (by kernel_rfl) (fun _ _ d _ _ h => by cases d <;> exact h) h8 ?_
    intro w11 h12
    obtain ⟨b13, off15, hp14⟩ := gv_ptr (j := 0) h12 rfl hg1 (by omega)
    refine draw_batch (t := (Tr.fl 2 (Tr.fl 3 (Tr.fl 4 (Tr.fl 5 (Tr.fl 6 (Tr.fl 7 (Tr.fl 8 Tr.nil)))))))) [⟨0, [], none⟩, ⟨1, [], none⟩] (l' := [(18, Value.int IntKind.i64 (((k : Nat) : Int))), (17, Value.slice p1 n c1), (0, Value.slice p1 n c1), (1, Value.slice p2 n c2), (5, Value.int IntKind.i64 (((k : Nat) : Int))), (14, Value.bool true)] ++ lr10) (pts' := []) (eqs := []) (by kernel_rfl) trivial (AllC_nil _) ?_
    refine draw_law (i := 2) 19 (Value.pointer (some ⟨b13, off15 + k * 2, none⟩)) [] (by kernel_rfl) (fun _ _ => law_indexSlP (o := opA (RA Try.f20 [1, 1, 0, 1, 0, 0, 1, 0, 0, 0]) 2) (x := (Operand.tmp 17)) (i := (Operand.tmp 18)) (p := p1) (b := b13) (off := off15) (z := (((k : Nat) : Int))) (len := n) (cap := c1) (by kernel_rfl) Try.underlying28 2 (by kernel_rfl) k (by kernel_rfl) hp14 (by kernel_rfl) (by omega) (by omega) (off15 + k * 2) (by omega) _) (by intro q hq; cases hq) ?_
    obtain ⟨x16, hx17⟩ : ∃ x, L[k]? = some x := ⟨_, List.getElem?_eq_getElem (by rw [hl1]; omega)⟩
    obtain ⟨b18, off20, hp19⟩ := gv_ptr (j := 1) h12 rfl hg2 (by omega)
    refine draw_batch (t := (Tr.fl 6 (Tr.fl 7 (Tr.fl 8 Tr.nil)))) [⟨3, [Value.int IntKind.i64 x16.1, Value.int IntKind.u32 x16.2], none⟩, ⟨4, [], none⟩, ⟨5, [], none⟩] (l' := [(22, Value.int IntKind.i64 (((k : Nat) : Int))), (21, Value.slice p2 n c2), (20, Value.agg #[Value.int IntKind.i64 x16.1, Value.int IntKind.u32 x16.2]), (19, Value.pointer (some ⟨b13, off15 + k * 2, none⟩)), (18, Value.int IntKind.i64 (((k : Nat) : Int))), (17, Value.slice p1 n c1), (0, Value.slice p1 n c1), (1, Value.slice p2 n c2), (5, Value.int IntKind.i64 (((k : Nat) : Int))), (14, Value.bool true)] ++ lr10) (pts' := [(3, ⟨b13, off15 + k * 2, none⟩, Value.int IntKind.i64 x16.1), (3, ⟨b13, off15 + k * 2 + 1, none⟩, Value.int IntKind.u32 x16.2)]) (eqs := []) (by kernel_rfl) trivial (AllC_cons (gv_cell (j := 0) h12 rfl hg1 hp14 (fl_get eR_ok (j := 0) (v := Value.int IntKind.i64 x16.1) hx17 rfl) (off15 + k * 2) (by omega)) (AllC_cons (gv_cell (j := 0) h12 rfl hg1 hp14 (fl_get eR_ok (j := 1) (v := Value.int IntKind.u32 x16.2) hx17 rfl) (off15 + k * 2 + 1) (by omega)) (AllC_nil _))) ?_
    refine draw_law (i := 6) 23 (Value.pointer (some ⟨b18, off20 + k * 2, none⟩)) [] (by kernel_rfl) (fun _ _ => law_indexSlP (o := opA (RA Try.f20 [1, 1, 0, 1, 0, 0, 1, 0, 0, 0]) 6) (x := (Operand.tmp 21)) (i := (Operand.tmp 22)) (p := p2) (b := b18) (off := off20) (z := (((k : Nat) : Int))) (len := n) (cap := c2) (by kernel_rfl) Try.underlying28 2 (by kernel_rfl) k (by kernel_rfl) hp19 (by kernel_rfl) (by omega) (by omega) (off20 + k * 2) (by omega) _) (by intro q hq; cases hq) ?_
    refine draw_batch (t := (Tr.fl 8 Tr.nil)) [⟨7, [Value.int IntKind.i64 x16.1, Value.int IntKind.u32 x16.2], none⟩] (l' := [(24, Value.agg #[Value.int IntKind.i64 x16.1, Value.int IntKind.u32 x16.2]), (23, Value.pointer (some ⟨b18, off20 + k * 2, none⟩)), (22, Value.int IntKind.i64 (((k : Nat) : Int))), (21, Value.slice p2 n c2), (20, Value.agg #[Value.int IntKind.i64 x16.1, Value.int IntKind.u32 x16.2]), (19, Value.pointer (some ⟨b13, off15 + k * 2, none⟩)), (18, Value.int IntKind.i64 (((k : Nat) : Int))), (17, Value.slice p1 n c1), (0, Value.slice p1 n c1), (1, Value.slice p2 n c2), (5, Value.int IntKind.i64 (((k : Nat) : Int))), (14, Value.bool true)] ++ lr10) (pts' := [(7, ⟨b18, off20 + k * 2, none⟩, Value.int IntKind.i64 x16.1), (7, ⟨b18, off20 + k * 2 + 1, none⟩, Value.int IntKind.u32 x16.2)]) (eqs := []) (by kernel_rfl) trivial (AllC_cons (gv_cell (j := 1) h12 rfl hg2 hp19 (fl_get eR_ok (j := 0) (v := Value.int IntKind.i64 x16.1) hx17 rfl) (off20 + k * 2) (by omega)) (AllC_cons (gv_cell (j := 1) h12 rfl hg2 hp19 (fl_get eR_ok (j := 1) (v := Value.int IntKind.u32 x16.2) hx17 rfl) (off20 + k * 2 + 1) (by omega)) (AllC_nil _))) ?_
    refine draw_law (i := 8) 25 (Value.bool false) [] (by kernel_rfl) (fun _ _ => seq25_neq_t (o := opA (RA Try.f20 [1, 1, 0, 1, 0, 0, 1, 0, 0, 0]) 8) (x := (Operand.tmp 20)) (y := (Operand.tmp 24)) x16.1 x16.2 x16.1 x16.2 (by kernel_rfl) (by kernel_rfl) (by kernel_rfl) ⟨rfl, rfl⟩ _) (by intro q hq; cases hq) ?_
    change Code.wp _ (CA Try.f20 [1, 1, 0, 1, 0, 0, 1, 0, 0, 1]) _ _ _
    refine fr_cut [(0, Value.slice p1 n c1), (1, Value.slice p2 n c2), (5, Value.int IntKind.i64 (((k : Nat) : Int))), (14, Value.bool true), (25, Value.bool false)] ⟨rfl, rfl, rfl, rfl, rfl, trivial⟩ (fun a => Code.wp _ _ _ a _) (fun lr21 => ?_)
    refine go_cnd (x := (Operand.tmp 25)) (s := CA Try.f20 [1, 1, 0, 1, 0, 0, 1, 0, 0, 1, 0]) (t := CA Try.f20 [1, 1, 0, 1, 0, 0, 1, 0, 0, 1, 1]) false (by kernel_rfl) (by kernel_rfl) ?_
    change Code.wp _ (CA Try.f20 [1, 1, 0, 1, 0, 0, 1, 0, 0, 1, 1]) _ _ _
    refine go_skp (by kernel_rfl) ?_
    change Code.wp _ (CA Try.f20 [1, 1, 0, 1, 0, 0, 1, 1]) _ _ _
    refine go_pln (id := 5) (ops := RA Try.f20 [1, 1, 0, 1, 0, 0, 1, 1]) [0, 1, 2] (by kernel_rfl) (by kernel_rfl) ?_
    refine plain_batch (rest := []) [⟨0, [], none⟩, ⟨1, [], some (Value.int IntKind.i64 (((k : Nat) : Int) + 1))⟩, ⟨2, [], none⟩] (l' := [(5, Value.int IntKind.i64 (((k : Nat) : Int) + 1)), (16, Value.int IntKind.i64 (((k : Nat) : Int) + 1)), (15, Value.int IntKind.i64 (((k : Nat) : Int))), (0, Value.slice p1 n c1), (1, Value.slice p2 n c2), (5, Value.int IntKind.i64 (((k : Nat) : Int))), (14, Value.bool true), (25, Value.bool false)] ++ lr21) (pts' := []) (eqs := [(Value.int IntKind.i64 (IntKind.wrap IntKind.i64 ((((k : Nat) : Int)) + 1)), Value.int IntKind.i64 (((k : Nat) : Int) + 1))]) (by kernel_rfl) ⟨(ov_i64 (by omega) (by omega) (by omega)), trivial⟩ (AllC_nil _) ?_
    change ∃ n', n' < _ ∧ _
    refine ⟨(n - (k + 1)), by omega, (k + 1), _, rfl, (by omega), (mk_live [(0, Value.slice p1 n c1), (1, Value.slice p2 n c2), (5, Value.int IntKind.i64 ((((k + 1) : Nat) : Int)))] ⟨rfl, rfl, (ov_int (by omega)), trivial⟩), h12⟩
  ·
    refine plain_batch (rest := []) [⟨3, [], some (Value.bool false)⟩] (l' := [(14, Value.bool false), (13, Value.int IntKind.i64 (((n : Nat) : Int))), (12, Value.slice p1 n c1), (11, Value.int IntKind.i64 (((k : Nat) : Int))), (0, Value.slice p1 n c1), (1, Value.slice p2 n c2), (5, Value.int IntKind.i64 (((k : Nat) : Int)))] ++ lr4) (pts' := []) (eqs := [(Value.bool (decide (((k : Nat) : Int) < ((n : Nat) : Int))), Value.bool false)]) (by kernel_rfl) ⟨(ov_f (by omega)), trivial⟩ (AllC_nil _) ?_
    change Code.wp _ (CA Try.f20 [1, 1, 0, 1, 0, 0, 0, 1]) _ _ _
    refine fr_cut [(0, Value.slice p1 n c1), (1, Value.slice p2 n c2), (5, Value.int IntKind.i64 (((k : Nat) : Int))), (14, Value.bool false)] ⟨rfl, rfl, rfl, rfl, trivial⟩ (fun a => Code.wp _ _ _ a _) (fun lr22 => ?_)
    refine go_cnd (x := (Operand.tmp 14)) (s := CA Try.f20 [1, 1, 0, 1, 0, 0, 0, 1, 0]) (t := CA Try.f20 [1, 1, 0, 1, 0, 0, 0, 1, 1]) false (by kernel_rfl) (by kernel_rfl) ?_
    change Code.wp _ (CA Try.f20 [1, 1, 0, 1, 0, 0, 0, 1, 1]) _ _ _
    refine go_ext (id := 0) (by kernel_rfl) ?_
    change Code.wp _ (CA Try.f20 [1, 1, 1]) _ _ _
    refine go_seq (x := CA Try.f20 [1, 1, 1, 0]) (y := CA Try.f20 [1, 1, 1, 1]) (by kernel_rfl) ?_
    refine go_pln (id := 8) (ops := RA Try.f20 [1, 1, 1, 0]) [0] (by kernel_rfl) (by kernel_rfl) ?_
    refine plain_batch (rest := []) [⟨0, [], none⟩] (l' := [(4, Value.bool true), (0, Value.slice p1 n c1), (1, Value.slice p2 n c2), (5, Value.int IntKind.i64 (((k : Nat) : Int))), (14, Value.bool false)] ++ lr22) (pts' := []) (eqs := []) (by kernel_rfl) trivial (AllC_nil _) ?_
    change Code.wp _ (CA Try.f20 [1, 1, 1, 1]) _ _ _
    refine fr_cut [(0, Value.slice p1 n c1), (1, Value.slice p2 n c2), (4, Value.bool true), (5, Value.int IntKind.i64 (((k : Nat) : Int))), (14, Value.bool false)] ⟨rfl, rfl, rfl, rfl, rfl, trivial⟩ (fun a => Code.wp _ _ _ a _) (fun lr23 => ?_)
    refine go_rt (by kernel_rfl) ?_
    try simp only [Exit.inBlock, Exit.then]
    refine ht_out [] (Value.bool true) [] (by kernel_rfl) (by intro q hq; cases hq) ?_
    exact ⟨Value.bool true, [A1, A2], rfl, ⟨rfl, rfl⟩, h8⟩

end Go.Proofs.Ytafencnieimpnaa
