/- Walks, printed by my generator gen7.py. -/
import Derived.Test.YtcgpkhdocakloaaF6
import Derived.Test.YtcgpkhdocakloaaFdsX
namespace Go.Proofs.Ytcgpkhdocakloaa
/-- A table of files. -/
def Fd (b n : Nat) (X : Xs) : Assn := fun h => ∃ x : Nat × Nat × Mm, (Nums X x.2.2 ∧ n ≤ 64) ∧ star [Cl b [.pointer (some ⟨x.1, 0, none⟩), .map (some x.2.1)] 63, Tb x.1 n (As X), Mp x.2.1 x.2.2] h
/-- The document's table. -/
def Dc (b n : Nat) (X : Xs) : Assn := fun h => ∃ x : Option Addr × Nat, (X.length = n ∧ 1 ≤ n ∧ n ≤ 64 ∧ SlOk (As X)) ∧ star [Cl b [.slice x.1 n x.2] 92, Sl 94 4 x.1 n x.2 (fl eId X)] h
section
variable {g w : World} {L : List Assn} {b n : Nat} {X : Xs}
theorem fd_open (h : sat g w (Fd b n X :: L)) : ∃ s m E, (Nums X E ∧ n ≤ 64) ∧ sat g w (Cl b [.pointer (some ⟨s, 0, none⟩), .map (some m)] 63 :: Tb s n (As X) :: Mp m E :: L) := by
  obtain ⟨⟨s, m, E⟩, h1, h2⟩ := sat_open (X := Nat × Nat × Mm) (p := fun x => Nums X x.2.2 ∧ n ≤ 64) (B := fun x => star [Cl b [.pointer (some ⟨x.1, 0, none⟩), .map (some x.2.1)] 63, Tb x.1 n (As X), Mp x.2.1 x.2.2]) h (fun k hk => hk)
  exact ⟨s, m, E, h1, sat_unstar h2⟩
theorem fd_close {s m : Nat} {E E' : Mm} {A : List Sl2} (h1 : Nums X E') (h2 : n ≤ 64) (hA : A = As X) (hE : E = E') (h : sat g w (Cl b [.pointer (some ⟨s, 0, none⟩), .map (some m)] 63 :: Tb s n A :: Mp m E :: L)) : sat g w (Fd b n X :: L) := by
  subst hA
  subst hE
  exact sat_imp (sat_star (K := [Cl b [.pointer (some ⟨s, 0, none⟩), .map (some m)] 63, Tb s n (As X), Mp m E]) h) fun k hk => ⟨(s, m, E), ⟨h1, h2⟩, hk⟩
theorem dc_open (h : sat g w (Dc b n X :: L)) : ∃ p c, (X.length = n ∧ 1 ≤ n ∧ n ≤ 64 ∧ SlOk (As X)) ∧ sat g w (Cl b [.slice p n c] 92 :: Sl 94 4 p n c (fl eId X) :: L) := by
  obtain ⟨⟨p, c⟩, h1, h2⟩ := sat_open (X := Option Addr × Nat) (p := fun _ => X.length = n ∧ 1 ≤ n ∧ n ≤ 64 ∧ SlOk (As X)) (B := fun x => star [Cl b [.slice x.1 n x.2] 92, Sl 94 4 x.1 n x.2 (fl eId X)]) h (fun k hk => hk)
  exact ⟨p, c, h1, sat_unstar h2⟩
theorem dc_close {p : Option Addr} {c : Nat} (h1 : X.length = n ∧ 1 ≤ n ∧ n ≤ 64 ∧ SlOk (As X)) (h : sat g w (Cl b [.slice p n c] 92 :: Sl 94 4 p n c (fl eId X) :: L)) : sat g w (Dc b n X :: L) :=
  sat_imp (sat_star (K := [Cl b [.slice p n c] 92, Sl 94 4 p n c (fl eId X)]) h) fun k hk => ⟨(p, c), h1, hk⟩
end
theorem cls_no {A : List Sl2} {o : Ky} {e : Int} (h : errA A o = e) (he : e ≠ 0) : clsA A o = A := by
  unfold clsA
  rw [if_neg (by omega)]
theorem cls_ok {A : List Sl2} {x y z : Int} {q : Nat} (h : errA A (x, y, z) = 0) (hq : y = (q : Int)) : clsA A (x, y, z) = giveA A q z := by
  unfold clsA
  rw [if_pos h]
  show giveA A y.toNat z = _
  rw [hq, Int.toNat_natCast]
theorem num_no {A : List Sl2} {E : Mm} {o : Ky} {e : Int} (h : errA A o = e) (he : e ≠ 0) : numM A E o = 0 := by
  unfold numM
  rw [if_neg (by omega)]
theorem num_ok {A : List Sl2} {E : Mm} {o : Ky} (h : errA A o = 0) : numM A E o = (mget E o).getD 0 := if_pos h
theorem clsm_no {A : List Sl2} {E : Mm} {o : Ky} (h : ¬ errA A o = 0) : E = clsM A E o := (if_neg h).symm
theorem clsm_ok {A : List Sl2} {E : Mm} {o : Ky} (h : errA A o = 0) : mdel E o = clsM A E o := (if_pos h).symm
theorem slOk_as {X : Xs} {i : Nat} {x : Fl} (h : SlOk (As X)) (hx : X[i]? = some x) : 0 ≤ x.1 ∧ x.1 ≤ 2 ∧ 1 ≤ x.2.1 ∧ x.2.1 ≤ 4294967295 := h _ (List.mem_of_getElem? (as_get hx))
set_option maxHeartbeats 4000000 in
theorem made_y (b s m : Nat) : HT Try.prog 33 [Value.pointer (some ⟨b, 0, none⟩)] [Cl b [Value.pointer (some ⟨s, 0, none⟩), Value.map (some m)] 63] (fun v K => v = Value.bool true ∧ K = [Cl b [Value.pointer (some ⟨s, 0, none⟩), Value.map (some m)] 63]) := by
  refine hi_in 12 ([(0, .pointer (some ⟨b, 0, none⟩))] : Fr) Try.func33 (by kernel_rfl) Try.ntmps33 rfl rfl ?_
  intro g w0 R h0
  refine gi_seq (x := CA Try.f33 [0]) (y := CA Try.f33 [1]) (by kernel_rfl) ?_
  refine gi_pln (id := 0) (ops := RA Try.f33 [0]) [0] (by kernel_rfl) (by kernel_rfl) (by kernel_rfl) ?_
  refine plain_batch (rest := []) [⟨0, [], none⟩] (l' := ([(2, .bool false), (0, .pointer (some ⟨b, 0, none⟩))] : Fr)) (pts' := []) (eqs := []) (by kernel_rfl) trivial (AllC_nil _) ?_
  refine PO.mk ?_
  change WP _ _ (CA Try.f33 [1]) _ _ _
  refine fk_cut ([(0, .pointer (some ⟨b, 0, none⟩)), (2, .bool false)] : Fr) (by kernel_rfl) (fun a => WP _ _ _ _ a _) (fun lr1 => ?_)
  refine gi_seq (x := CA Try.f33 [1, 0]) (y := CA Try.f33 [1, 1]) (by kernel_rfl) ?_
  refine gi_pln (id := 1) (ops := RA Try.f33 [1, 0]) [0, 1, 2, 3, 4, 5, 6, 7, 8, 9] (by kernel_rfl) (by kernel_rfl) (by kernel_rfl) ?_
  refine plain_batch (rest := []) [⟨0, [], none⟩, ⟨1, [], none⟩, ⟨2, [], none⟩, ⟨3, [], none⟩, ⟨4, [], none⟩, ⟨5, [], none⟩, ⟨6, [.pointer (some ⟨s, 0, none⟩)], none⟩, ⟨7, [], none⟩, ⟨8, [], none⟩, ⟨9, [], none⟩] (l' := ([(2, .bool true), (11, .bool true), (10, .bool true), (9, .pointer (some ⟨s, 0, none⟩)), (8, .pointer (some ⟨b, 0, none⟩)), (7, .pointer (some ⟨b, 0, none⟩)), (6, .pointer (some ⟨b, 0, none⟩)), (5, .bool true), (4, .bool true), (3, .pointer (some ⟨b, 0, none⟩)), (0, .pointer (some ⟨b, 0, none⟩)), (2, .bool false)] : Fr) ++ lr1) (pts' := [(6, ⟨b, 0, none⟩, .pointer (some ⟨s, 0, none⟩))]) (eqs := []) (by kernel_rfl) trivial (AllC_cons (sat_cell h0 0 rfl rfl) (AllC_nil _)) ?_
  refine PO.mk ?_
  change WP _ _ (CA Try.f33 [1, 1]) _ _ _
  refine fk_cut ([(0, .pointer (some ⟨b, 0, none⟩)), (2, .bool true)] : Fr) (by kernel_rfl) (fun a => WP _ _ _ _ a _) (fun lr2 => ?_)
  refine gi_rt (by kernel_rfl) ?_
  repeat (first | simp only [Exit.inBlock] | simp only [Exit.then])
  refine hi_out [] (.bool true) [] (by kernel_rfl) (by intro q hq; cases hq) ?_
  exact ⟨.bool true, [Cl b [.pointer (some ⟨s, 0, none⟩), .map (some m)] 63], rfl, ⟨rfl, rfl⟩, h0⟩

set_option maxHeartbeats 4000000 in
theorem made_n  : HT Try.prog 33 [Value.pointer none] [] (fun v K => v = Value.bool false ∧ K = []) := by
  refine hi_in 12 ([(0, .pointer none)] : Fr) Try.func33 (by kernel_rfl) Try.ntmps33 rfl rfl ?_
  intro g w0 R h0
  refine gi_seq (x := CA Try.f33 [0]) (y := CA Try.f33 [1]) (by kernel_rfl) ?_
  refine gi_pln (id := 0) (ops := RA Try.f33 [0]) [0] (by kernel_rfl) (by kernel_rfl) (by kernel_rfl) ?_
  refine plain_batch (rest := []) [⟨0, [], none⟩] (l' := ([(2, .bool false), (0, .pointer none)] : Fr)) (pts' := []) (eqs := []) (by kernel_rfl) trivial (AllC_nil _) ?_
  refine PO.mk ?_
  change WP _ _ (CA Try.f33 [1]) _ _ _
  refine fk_cut ([(0, .pointer none), (2, .bool false)] : Fr) (by kernel_rfl) (fun a => WP _ _ _ _ a _) (fun lr1 => ?_)
  refine gi_seq (x := CA Try.f33 [1, 0]) (y := CA Try.f33 [1, 1]) (by kernel_rfl) ?_
  refine gi_pln (id := 1) (ops := RA Try.f33 [1, 0]) [0, 1, 2, 3, 4, 5, 6, 7, 8, 9] (by kernel_rfl) (by kernel_rfl) (by kernel_rfl) ?_
  refine plain_batch (rest := []) [⟨0, [], none⟩, ⟨1, [], none⟩, ⟨2, [], none⟩, ⟨3, [], none⟩, ⟨4, [], none⟩, ⟨5, [], none⟩, ⟨6, [], none⟩, ⟨7, [], none⟩, ⟨8, [], none⟩, ⟨9, [], none⟩] (l' := ([(2, .bool false), (11, .bool false), (10, undef), (9, undef), (8, undef), (7, undef), (6, undef), (5, .bool false), (4, .bool false), (3, .pointer none), (0, .pointer none), (2, .bool false)] : Fr) ++ lr1) (pts' := []) (eqs := []) (by kernel_rfl) trivial (AllC_nil _) ?_
  refine PO.mk ?_
  change WP _ _ (CA Try.f33 [1, 1]) _ _ _
  refine fk_cut ([(0, .pointer none), (2, .bool false)] : Fr) (by kernel_rfl) (fun a => WP _ _ _ _ a _) (fun lr2 => ?_)
  refine gi_rt (by kernel_rfl) ?_
  repeat (first | simp only [Exit.inBlock] | simp only [Exit.then])
  refine hi_out [] (.bool false) [] (by kernel_rfl) (by intro q hq; cases hq) ?_
  exact ⟨.bool false, [], rfl, ⟨rfl, rfl⟩, h0⟩

set_option maxHeartbeats 4000000 in
theorem made_z (b : Nat) : HT Try.prog 33 [Value.pointer (some ⟨b, 0, none⟩)] [Cl b [Value.pointer none, Value.map none] 63] (fun v K => v = Value.bool false ∧ K = [Cl b [Value.pointer none, Value.map none] 63]) := by
  refine hi_in 12 ([(0, .pointer (some ⟨b, 0, none⟩))] : Fr) Try.func33 (by kernel_rfl) Try.ntmps33 rfl rfl ?_
  intro g w0 R h0
  refine gi_seq (x := CA Try.f33 [0]) (y := CA Try.f33 [1]) (by kernel_rfl) ?_
  refine gi_pln (id := 0) (ops := RA Try.f33 [0]) [0] (by kernel_rfl) (by kernel_rfl) (by kernel_rfl) ?_
  refine plain_batch (rest := []) [⟨0, [], none⟩] (l' := ([(2, .bool false), (0, .pointer (some ⟨b, 0, none⟩))] : Fr)) (pts' := []) (eqs := []) (by kernel_rfl) trivial (AllC_nil _) ?_
  refine PO.mk ?_
  change WP _ _ (CA Try.f33 [1]) _ _ _
  refine fk_cut ([(0, .pointer (some ⟨b, 0, none⟩)), (2, .bool false)] : Fr) (by kernel_rfl) (fun a => WP _ _ _ _ a _) (fun lr1 => ?_)
  refine gi_seq (x := CA Try.f33 [1, 0]) (y := CA Try.f33 [1, 1]) (by kernel_rfl) ?_
  refine gi_pln (id := 1) (ops := RA Try.f33 [1, 0]) [0, 1, 2, 3, 4, 5, 6, 7, 8, 9] (by kernel_rfl) (by kernel_rfl) (by kernel_rfl) ?_
  refine plain_batch (rest := []) [⟨0, [], none⟩, ⟨1, [], none⟩, ⟨2, [], none⟩, ⟨3, [], none⟩, ⟨4, [], none⟩, ⟨5, [], none⟩, ⟨6, [.pointer none], none⟩, ⟨7, [], none⟩, ⟨8, [], none⟩, ⟨9, [], none⟩] (l' := ([(2, .bool false), (11, .bool false), (10, .bool false), (9, .pointer none), (8, .pointer (some ⟨b, 0, none⟩)), (7, .pointer (some ⟨b, 0, none⟩)), (6, .pointer (some ⟨b, 0, none⟩)), (5, .bool true), (4, .bool true), (3, .pointer (some ⟨b, 0, none⟩)), (0, .pointer (some ⟨b, 0, none⟩)), (2, .bool false)] : Fr) ++ lr1) (pts' := [(6, ⟨b, 0, none⟩, .pointer none)]) (eqs := []) (by kernel_rfl) trivial (AllC_cons (sat_cell h0 0 rfl rfl) (AllC_nil _)) ?_
  refine PO.mk ?_
  change WP _ _ (CA Try.f33 [1, 1]) _ _ _
  refine fk_cut ([(0, .pointer (some ⟨b, 0, none⟩)), (2, .bool false)] : Fr) (by kernel_rfl) (fun a => WP _ _ _ _ a _) (fun lr2 => ?_)
  refine gi_rt (by kernel_rfl) ?_
  repeat (first | simp only [Exit.inBlock] | simp only [Exit.then])
  refine hi_out [] (.bool false) [] (by kernel_rfl) (by intro q hq; cases hq) ?_
  exact ⟨.bool false, [Cl b [.pointer none, .map none] 63], rfl, ⟨rfl, rfl⟩, h0⟩

set_option maxHeartbeats 4000000 in
theorem ffile (y z : Int) : HT Try.prog 35 [Value.agg #[Value.int IntKind.i64 y, Value.int IntKind.u32 z]] [] (fun v K => v = Value.agg #[Value.int IntKind.i64 1, Value.int IntKind.i64 y, Value.int IntKind.u32 z] ∧ K = []) := by
  refine hi_in 8 ([(0, .agg #[.int .i64 y, .int .u32 z])] : Fr) Try.func35 (by kernel_rfl) Try.ntmps35 rfl rfl ?_
  intro g w0 R h0
  refine gi_seq (x := CA Try.f35 [0]) (y := CA Try.f35 [1]) (by kernel_rfl) ?_
  refine gi_pln (id := 0) (ops := RA Try.f35 [0]) [0, 1] (by kernel_rfl) (by kernel_rfl) (by kernel_rfl) ?_
  refine plain_act (i := 0) (by kernel_rfl) ?_
  refine an_new (d := 1) (fun xb_ => .pointer (some ⟨xb_, 0, none⟩)) (fun xb_ => Obj.cells [.int .i64 y, .int .u32 z].toArray 79 (0, 0)) (fun xb_ => by kernel_rfl) (by kernel_rfl) rfl h0 ?_
  intro r1 w2 (h3 : sat g w2 [Cl r1 [.int .i64 y, .int .u32 z] 79, R])
  refine plain_act (i := 1) (by kernel_rfl) ?_
  refine an_new (d := 2) (fun xb_ => .pointer (some ⟨xb_, 0, none⟩)) (fun xb_ => Obj.cells [.int .i64 0, .int .i64 0, .int .u32 0].toArray 28 (0, 0)) (fun xb_ => by kernel_rfl) (by kernel_rfl) rfl h3 ?_
  intro r4 w5 (h6 : sat g w5 [Cl r4 [.int .i64 0, .int .i64 0, .int .u32 0] 28, Cl r1 [.int .i64 y, .int .u32 z] 79, R])
  refine PO.mk ?_
  change WP _ _ (CA Try.f35 [1]) _ _ _
  refine fk_cut ([(0, .agg #[.int .i64 y, .int .u32 z]), (1, .pointer (some ⟨r1, 0, none⟩)), (2, .pointer (some ⟨r4, 0, none⟩))] : Fr) (by kernel_rfl) (fun a => WP _ _ _ _ a _) (fun lr7 => ?_)
  refine gi_seq (x := CA Try.f35 [1, 0]) (y := CA Try.f35 [1, 1]) (by kernel_rfl) ?_
  refine gi_pln (id := 1) (ops := RA Try.f35 [1, 0]) [0, 1, 2, 3, 4, 5] (by kernel_rfl) (by kernel_rfl) (by kernel_rfl) ?_
  refine plain_batch (rest := [5]) [⟨0, [], none⟩, ⟨1, [.int .i64 y], none⟩, ⟨2, [], none⟩, ⟨3, [.int .u32 z], none⟩, ⟨4, [], none⟩] (l' := ([(7, .agg #[.int .i64 1, .int .i64 y, .int .u32 z]), (6, .int .u32 z), (5, .pointer (some ⟨r1, 1, none⟩)), (4, .int .i64 y), (3, .pointer (some ⟨r1, 0, none⟩)), (0, .agg #[.int .i64 y, .int .u32 z]), (1, .pointer (some ⟨r1, 0, none⟩)), (2, .pointer (some ⟨r4, 0, none⟩))] : Fr) ++ lr7) (pts' := [(3, ⟨r1, 1, none⟩, .int .u32 z), (1, ⟨r1, 0, none⟩, .int .i64 y)]) (eqs := []) (by kernel_rfl) trivial (AllC_cons (sat_cell h6 1 rfl rfl) (AllC_cons (sat_cell h6 1 rfl rfl) (AllC_nil _))) ?_
  refine plain_act (i := 5) (by kernel_rfl) ?_
  refine an_store [(0, .int .i64 1), (1, .int .i64 y), (2, .int .u32 z)] (cs' := [.int .i64 1, .int .i64 y, .int .u32 z]) (by kernel_rfl) (by kernel_rfl) (allq ⟨⟨by simp, rfl⟩, ⟨by simp, rfl⟩, ⟨by simp, rfl⟩, trivial⟩) rfl h6 ?_
  intro w8 (h9 : sat g w8 [Cl r4 [.int .i64 1, .int .i64 y, .int .u32 z] 28, Cl r1 [.int .i64 y, .int .u32 z] 79, R])
  refine PO.mk ?_
  change WP _ _ (CA Try.f35 [1, 1]) _ _ _
  refine fk_cut ([(0, .agg #[.int .i64 y, .int .u32 z]), (1, .pointer (some ⟨r1, 0, none⟩)), (2, .pointer (some ⟨r4, 0, none⟩))] : Fr) (by kernel_rfl) (fun a => WP _ _ _ _ a _) (fun lr10 => ?_)
  refine gi_rt (by kernel_rfl) ?_
  repeat (first | simp only [Exit.inBlock] | simp only [Exit.then])
  have h11 : sat g w8 [R] := sat_sel [2] rfl h9
  refine hi_out [.int .i64 1, .int .i64 y, .int .u32 z] (.agg #[.int .i64 1, .int .i64 y, .int .u32 z]) [(⟨r4, 0, none⟩, .int .i64 1), (⟨r4, 1, none⟩, .int .i64 y), (⟨r4, 2, none⟩, .int .u32 z)] (by kernel_rfl) (allq ⟨sat_cell h9 0 rfl rfl, sat_cell h9 0 rfl rfl, sat_cell h9 0 rfl rfl, trivial⟩) ?_
  exact ⟨.agg #[.int .i64 1, .int .i64 y, .int .u32 z], [], rfl, ⟨rfl, rfl⟩, h11⟩

set_option maxHeartbeats 4000000 in
theorem num1_ht (c2 c3 c6 b s m : Nat) (x y z i gn : Int) (E : Mm) (u : Int) : HT Try.prog 37 [Value.agg #[Value.int IntKind.i64 i, Value.int IntKind.u32 gn], Value.pointer (some ⟨c2, 0, none⟩), Value.pointer (some ⟨c3, 0, none⟩), Value.pointer (some ⟨c6, 0, none⟩)] [Cl c2 [Value.pointer (some ⟨b, 0, none⟩)] 24, Cl c3 [Value.int IntKind.i64 x, Value.int IntKind.i64 y, Value.int IntKind.u32 z] 28, Cl c6 [Value.int IntKind.i64 u] 3, Cl b [Value.pointer (some ⟨s, 0, none⟩), Value.map (some m)] 63, Mp m E] (fun v K => v = Value.tuple #[] ∧ K = [Cl c2 [Value.pointer (some ⟨b, 0, none⟩)] 24, Cl c3 [Value.int IntKind.i64 x, Value.int IntKind.i64 y, Value.int IntKind.u32 z] 28, Cl c6 [Value.int IntKind.i64 ((mget E (x, y, z)).getD 0)] 3, Cl b [Value.pointer (some ⟨s, 0, none⟩), Value.map (some m)] 63, Mp m E]) := by
  refine hi_in 11 ([(0, .agg #[.int .i64 i, .int .u32 gn]), (1, .pointer (some ⟨c2, 0, none⟩)), (2, .pointer (some ⟨c3, 0, none⟩)), (3, .pointer (some ⟨c6, 0, none⟩))] : Fr) Try.func37 (by kernel_rfl) Try.ntmps37 rfl rfl ?_
  intro g w0 R h0
  refine gi_seq (x := CA Try.f37 [0]) (y := CA Try.f37 [1]) (by kernel_rfl) ?_
  refine gi_pln (id := 0) (ops := RA Try.f37 [0]) [0] (by kernel_rfl) (by kernel_rfl) (by kernel_rfl) ?_
  refine plain_act (i := 0) (by kernel_rfl) ?_
  refine an_new (d := 4) (fun xb_ => .pointer (some ⟨xb_, 0, none⟩)) (fun xb_ => Obj.cells [.int .i64 i, .int .u32 gn].toArray 79 (0, 0)) (fun xb_ => by kernel_rfl) (by kernel_rfl) rfl h0 ?_
  intro r1 w2 (h3 : sat g w2 [Cl r1 [.int .i64 i, .int .u32 gn] 79, Cl c2 [.pointer (some ⟨b, 0, none⟩)] 24, Cl c3 [.int .i64 x, .int .i64 y, .int .u32 z] 28, Cl c6 [.int .i64 u] 3, Cl b [.pointer (some ⟨s, 0, none⟩), .map (some m)] 63, Mp m E, R])
  refine PO.mk ?_
  change WP _ _ (CA Try.f37 [1]) _ _ _
  refine fk_cut ([(0, .agg #[.int .i64 i, .int .u32 gn]), (1, .pointer (some ⟨c2, 0, none⟩)), (2, .pointer (some ⟨c3, 0, none⟩)), (3, .pointer (some ⟨c6, 0, none⟩))] : Fr) (by kernel_rfl) (fun a => WP _ _ _ _ a _) (fun lr4 => ?_)
  refine gi_drw (id := 1) (ops := RA Try.f37 [1]) (Tr.fl 0 (Tr.fl 1 (Tr.fl 2 (Tr.fl 3 (Tr.fl 4 (Tr.an 5 (Tr.an 6 Tr.nil))))))) (by kernel_rfl) (by kernel_rfl) (by kernel_rfl) (by kernel_rfl) (by kernel_rfl) (fun _ _ d _ _ h => by cases d <;> exact h) h3 ?_
  intro w5 h6
  refine draw_batch (t := (Tr.an 5 (Tr.an 6 Tr.nil))) [⟨0, [.pointer (some ⟨b, 0, none⟩)], none⟩, ⟨1, [], none⟩, ⟨2, [], none⟩, ⟨3, [.map (some m)], none⟩, ⟨4, [.int .i64 x, .int .i64 y, .int .u32 z], none⟩] (l' := ([(9, .agg #[.int .i64 x, .int .i64 y, .int .u32 z]), (8, .map (some m)), (7, .pointer (some ⟨b, 1, none⟩)), (6, .pointer (some ⟨b, 0, none⟩)), (5, .pointer (some ⟨b, 0, none⟩)), (0, .agg #[.int .i64 i, .int .u32 gn]), (1, .pointer (some ⟨c2, 0, none⟩)), (2, .pointer (some ⟨c3, 0, none⟩)), (3, .pointer (some ⟨c6, 0, none⟩))] : Fr) ++ lr4) (pts' := [(4, ⟨c3, 0, none⟩, .int .i64 x), (4, ⟨c3, 1, none⟩, .int .i64 y), (4, ⟨c3, 2, none⟩, .int .u32 z), (3, ⟨b, 1, none⟩, .map (some m)), (0, ⟨c2, 0, none⟩, .pointer (some ⟨b, 0, none⟩))]) (eqs := []) (by kernel_rfl) trivial (AllC_cons (sat_cell h6 2 rfl rfl) (AllC_cons (sat_cell h6 2 rfl rfl) (AllC_cons (sat_cell h6 2 rfl rfl) (AllC_cons (sat_cell h6 4 rfl rfl) (AllC_cons (sat_cell h6 1 rfl rfl) (AllC_nil _)))))) ?_
  refine draw_act (i := 5) [(0, ⟨c2, 0, none⟩, .pointer (some ⟨b, 0, none⟩))] (by kernel_rfl) (by kernel_rfl) ?_
  refine an_lookup (t := 61) (d := 10) (m := (Operand.tmp 8)) (x := (Operand.tmp 9)) (by kernel_rfl) (by kernel_rfl) rfl Try.underlying61 keyok (by kernel_rfl) (x, y, z) (by kernel_rfl) (by kernel_rfl) (j := 5) h6 rfl ((mget E (x, y, z)).getD 0) rfl ?_
  refine ⟨(AllC_cons (sat_cell h6 1 rfl rfl) (AllC_nil _)), ?_⟩
  have h7 : sat g w5 [Cl c6 [.int .i64 u] 3, Cl r1 [.int .i64 i, .int .u32 gn] 79, Cl c2 [.pointer (some ⟨b, 0, none⟩)] 24, Cl c3 [.int .i64 x, .int .i64 y, .int .u32 z] 28, Cl b [.pointer (some ⟨s, 0, none⟩), .map (some m)] 63, Mp m E, R] := sat_sel [3, 0, 1, 2, 4, 5, 6] rfl h6
  refine draw_act (i := 6) [] (by kernel_rfl) (by kernel_rfl) ?_
  refine an_store [(0, .int .i64 ((mget E (x, y, z)).getD 0))] (cs' := [.int .i64 ((mget E (x, y, z)).getD 0)]) (by kernel_rfl) (by kernel_rfl) (allq ⟨⟨by simp, rfl⟩, trivial⟩) rfl h7 ?_
  intro w8 (h9 : sat g w8 [Cl c6 [.int .i64 ((mget E (x, y, z)).getD 0)] 3, Cl r1 [.int .i64 i, .int .u32 gn] 79, Cl c2 [.pointer (some ⟨b, 0, none⟩)] 24, Cl c3 [.int .i64 x, .int .i64 y, .int .u32 z] 28, Cl b [.pointer (some ⟨s, 0, none⟩), .map (some m)] 63, Mp m E, R])
  refine ⟨(AllC_nil _), ?_⟩
  repeat (first | simp only [Exit.inBlock] | simp only [Exit.then])
  have h10 : sat g w8 [Cl c2 [.pointer (some ⟨b, 0, none⟩)] 24, Cl c3 [.int .i64 x, .int .i64 y, .int .u32 z] 28, Cl c6 [.int .i64 ((mget E (x, y, z)).getD 0)] 3, Cl b [.pointer (some ⟨s, 0, none⟩), .map (some m)] 63, Mp m E, Cl r1 [.int .i64 i, .int .u32 gn] 79, R] := sat_sel [2, 3, 0, 4, 5, 1, 6] rfl h9
  have h11 : sat g w8 [Cl c2 [.pointer (some ⟨b, 0, none⟩)] 24, Cl c3 [.int .i64 x, .int .i64 y, .int .u32 z] 28, Cl c6 [.int .i64 ((mget E (x, y, z)).getD 0)] 3, Cl b [.pointer (some ⟨s, 0, none⟩), .map (some m)] 63, Mp m E, R] := sat_sel [0, 1, 2, 3, 4, 6] rfl h10
  refine hi_outn [] (.tuple #[]) [] (by kernel_rfl) (by intro q hq; cases hq) ?_
  exact ⟨.tuple #[], [Cl c2 [.pointer (some ⟨b, 0, none⟩)] 24, Cl c3 [.int .i64 x, .int .i64 y, .int .u32 z] 28, Cl c6 [.int .i64 ((mget E (x, y, z)).getD 0)] 3, Cl b [.pointer (some ⟨s, 0, none⟩), .map (some m)] 63, Mp m E], rfl, ⟨rfl, rfl⟩, h11⟩

set_option maxHeartbeats 4000000 in
theorem cls1_ht (c2 c5 b s m n : Nat) (A : List Sl2) (q : Nat) (a : Sl2) (ha : A[q]? = some a) (i gn : Int) (hc : i = (q : Int) ∧ a.1 = 1 ∧ a.2 = gn) : HT Try.prog 38 [Value.agg #[Value.int IntKind.i64 i, Value.int IntKind.u32 gn], Value.pointer (some ⟨c2, 0, none⟩), Value.pointer (some ⟨c5, 0, none⟩)] [Cl c2 [Value.pointer (some ⟨b, 0, none⟩)] 24, Cl c5 [Value.int IntKind.i64 0] 29, Cl b [Value.pointer (some ⟨s, 0, none⟩), Value.map (some m)] 63, Tb s n A] (fun v K => v = Value.tuple #[] ∧ K = [Cl c2 [Value.pointer (some ⟨b, 0, none⟩)] 24, Cl c5 [Value.int IntKind.i64 0] 29, Cl b [Value.pointer (some ⟨s, 0, none⟩), Value.map (some m)] 63, Tb s n (giveA A q gn)]) := by
  refine hi_in 10 ([(0, .agg #[.int .i64 i, .int .u32 gn]), (1, .pointer (some ⟨c2, 0, none⟩)), (2, .pointer (some ⟨c5, 0, none⟩))] : Fr) Try.func38 (by kernel_rfl) Try.ntmps38 rfl rfl ?_
  intro g w0 R h0
  refine gi_seq (x := CA Try.f38 [0]) (y := CA Try.f38 [1]) (by kernel_rfl) ?_
  refine gi_pln (id := 0) (ops := RA Try.f38 [0]) [0] (by kernel_rfl) (by kernel_rfl) (by kernel_rfl) ?_
  refine plain_act (i := 0) (by kernel_rfl) ?_
  refine an_new (d := 3) (fun xb_ => .pointer (some ⟨xb_, 0, none⟩)) (fun xb_ => Obj.cells [.int .i64 i, .int .u32 gn].toArray 79 (0, 0)) (fun xb_ => by kernel_rfl) (by kernel_rfl) rfl h0 ?_
  intro r1 w2 (h3 : sat g w2 [Cl r1 [.int .i64 i, .int .u32 gn] 79, Cl c2 [.pointer (some ⟨b, 0, none⟩)] 24, Cl c5 [.int .i64 0] 29, Cl b [.pointer (some ⟨s, 0, none⟩), .map (some m)] 63, Tb s n A, R])
  refine PO.mk ?_
  change WP _ _ (CA Try.f38 [1]) _ _ _
  refine fk_cut ([(0, .agg #[.int .i64 i, .int .u32 gn]), (1, .pointer (some ⟨c2, 0, none⟩)), (2, .pointer (some ⟨c5, 0, none⟩)), (3, .pointer (some ⟨r1, 0, none⟩))] : Fr) (by kernel_rfl) (fun a => WP _ _ _ _ a _) (fun lr4 => ?_)
  refine gi_drw (id := 1) (ops := RA Try.f38 [1]) (Tr.fl 0 (Tr.fl 1 (Tr.fl 2 (Tr.fl 3 (Tr.fl 4 (Tr.an 5 (Tr.an 6 Tr.nil))))))) (by kernel_rfl) (by kernel_rfl) (by kernel_rfl) (by kernel_rfl) (by kernel_rfl) (fun _ _ d _ _ h => by cases d <;> exact h) h3 ?_
  intro w5 h6
  refine draw_batch (t := (Tr.an 5 (Tr.an 6 Tr.nil))) [⟨0, [.pointer (some ⟨b, 0, none⟩)], none⟩, ⟨1, [], none⟩, ⟨2, [], none⟩, ⟨3, [.pointer (some ⟨s, 0, none⟩)], none⟩, ⟨4, [.int .i64 i, .int .u32 gn], none⟩] (l' := ([(8, .agg #[.int .i64 i, .int .u32 gn]), (7, .pointer (some ⟨s, 0, none⟩)), (6, .pointer (some ⟨b, 0, none⟩)), (5, .pointer (some ⟨b, 0, none⟩)), (4, .pointer (some ⟨b, 0, none⟩)), (0, .agg #[.int .i64 i, .int .u32 gn]), (1, .pointer (some ⟨c2, 0, none⟩)), (2, .pointer (some ⟨c5, 0, none⟩)), (3, .pointer (some ⟨r1, 0, none⟩))] : Fr) ++ lr4) (pts' := [(4, ⟨r1, 0, none⟩, .int .i64 i), (4, ⟨r1, 1, none⟩, .int .u32 gn), (3, ⟨b, 0, none⟩, .pointer (some ⟨s, 0, none⟩)), (0, ⟨c2, 0, none⟩, .pointer (some ⟨b, 0, none⟩))]) (eqs := []) (by kernel_rfl) trivial (AllC_cons (sat_cell h6 0 rfl rfl) (AllC_cons (sat_cell h6 0 rfl rfl) (AllC_cons (sat_cell h6 3 rfl rfl) (AllC_cons (sat_cell h6 1 rfl rfl) (AllC_nil _))))) ?_
  have h7 : sat g w5 [Tb s n A, Cl r1 [.int .i64 i, .int .u32 gn] 79, Cl c2 [.pointer (some ⟨b, 0, none⟩)] 24, Cl c5 [.int .i64 0] 29, Cl b [.pointer (some ⟨s, 0, none⟩), .map (some m)] 63, R] := sat_sel [4, 0, 1, 2, 3, 5] rfl h6
  refine draw_act (i := 5) [(0, ⟨c2, 0, none⟩, .pointer (some ⟨b, 0, none⟩))] (by kernel_rfl) (by kernel_rfl) ?_
  refine an_call (d := some 9) (f := 39) (args := [.pointer (some ⟨s, 0, none⟩), .agg #[.int .i64 i, .int .u32 gn]]) (by kernel_rfl) Try.call39 (give_ht s n A q a ha i gn (by omega)) (F := [Cl r1 [.int .i64 i, .int .u32 gn] 79, Cl c2 [.pointer (some ⟨b, 0, none⟩)] 24, Cl c5 [.int .i64 0] 29, Cl b [.pointer (some ⟨s, 0, none⟩), .map (some m)] 63, R]) h7 ?_
  rintro v K w8 (⟨rfl, rfl⟩) h9
  refine ⟨_, rfl, ?_⟩
  have h10 : sat g w8 [Tb s n (giveA A q gn), Cl r1 [.int .i64 i, .int .u32 gn] 79, Cl c2 [.pointer (some ⟨b, 0, none⟩)] 24, Cl c5 [.int .i64 0] 29, Cl b [.pointer (some ⟨s, 0, none⟩), .map (some m)] 63, R] := h9
  refine ⟨(AllC_cons (sat_cell h10 2 rfl rfl) (AllC_nil _)), ?_⟩
  have h11 : sat g w8 [Cl c5 [.int .i64 0] 29, Tb s n (giveA A q gn), Cl r1 [.int .i64 i, .int .u32 gn] 79, Cl c2 [.pointer (some ⟨b, 0, none⟩)] 24, Cl b [.pointer (some ⟨s, 0, none⟩), .map (some m)] 63, R] := sat_sel [3, 0, 1, 2, 4, 5] rfl h10
  refine draw_act (i := 6) [] (by kernel_rfl) (by kernel_rfl) ?_
  refine an_store [(0, .int .i64 0)] (cs' := [.int .i64 0]) (by kernel_rfl) (by kernel_rfl) (allq ⟨⟨by simp, rfl⟩, trivial⟩) rfl h11 ?_
  intro w12 (h13 : sat g w12 [Cl c5 [.int .i64 0] 29, Tb s n (giveA A q gn), Cl r1 [.int .i64 i, .int .u32 gn] 79, Cl c2 [.pointer (some ⟨b, 0, none⟩)] 24, Cl b [.pointer (some ⟨s, 0, none⟩), .map (some m)] 63, R])
  refine ⟨(AllC_nil _), ?_⟩
  repeat (first | simp only [Exit.inBlock] | simp only [Exit.then])
  have h14 : sat g w12 [Cl c2 [.pointer (some ⟨b, 0, none⟩)] 24, Cl c5 [.int .i64 0] 29, Cl b [.pointer (some ⟨s, 0, none⟩), .map (some m)] 63, Tb s n (giveA A q gn), Cl r1 [.int .i64 i, .int .u32 gn] 79, R] := sat_sel [3, 0, 4, 1, 2, 5] rfl h13
  have h15 : sat g w12 [Cl c2 [.pointer (some ⟨b, 0, none⟩)] 24, Cl c5 [.int .i64 0] 29, Cl b [.pointer (some ⟨s, 0, none⟩), .map (some m)] 63, Tb s n (giveA A q gn), R] := sat_sel [0, 1, 2, 3, 5] rfl h14
  refine hi_outn [] (.tuple #[]) [] (by kernel_rfl) (by intro q hq; cases hq) ?_
  exact ⟨.tuple #[], [Cl c2 [.pointer (some ⟨b, 0, none⟩)] 24, Cl c5 [.int .i64 0] 29, Cl b [.pointer (some ⟨s, 0, none⟩), .map (some m)] 63, Tb s n (giveA A q gn)], rfl, ⟨rfl, rfl⟩, h15⟩

set_option maxHeartbeats 4000000 in
theorem with_c (c2 c3 c5 c6 b s m n : Nat) (A : List Sl2) (E : Mm) (x y z : Int) (hz0 : 0 ≤ z) (hz1 : z ≤ 4294967295) : HT Try.prog 36 [Value.pointer (some ⟨b, 0, none⟩), Value.agg #[Value.int IntKind.i64 x, Value.int IntKind.i64 y, Value.int IntKind.u32 z], Value.func (Fn.func 38) #[] #[Value.pointer (some ⟨c2, 0, none⟩), Value.pointer (some ⟨c5, 0, none⟩)]] [Cl c2 [Value.pointer (some ⟨b, 0, none⟩)] 24, Cl c5 [Value.int IntKind.i64 0] 29, Cl b [Value.pointer (some ⟨s, 0, none⟩), Value.map (some m)] 63, Tb s n A] (fun v K => v = Value.int .i64 (errA A (x, y, z)) ∧ K = [Cl c2 [Value.pointer (some ⟨b, 0, none⟩)] 24, Cl c5 [Value.int IntKind.i64 0] 29, Cl b [Value.pointer (some ⟨s, 0, none⟩), Value.map (some m)] 63, Tb s n (clsA A (x, y, z))]) := by
  refine hi_in 39 ([(0, .pointer (some ⟨b, 0, none⟩)), (1, .agg #[.int .i64 x, .int .i64 y, .int .u32 z]), (2, .func (Fn.func 38) #[] #[.pointer (some ⟨c2, 0, none⟩), .pointer (some ⟨c5, 0, none⟩)])] : Fr) Try.func36 (by kernel_rfl) Try.ntmps36 rfl rfl ?_
  intro g w0 R h0
  have hb1 := tb_bd (j := 3) h0 rfl
  have hAl_ := hb1.1; have hb2 := hb1.2.1; have hb3 := hb1.2.2.1; have hok_ := hb1.2.2.2
  refine gi_seq (x := CA Try.f36 [0]) (y := CA Try.f36 [1]) (by kernel_rfl) ?_
  refine gi_pln (id := 0) (ops := RA Try.f36 [0]) [0, 1] (by kernel_rfl) (by kernel_rfl) (by kernel_rfl) ?_
  refine plain_act (i := 0) (by kernel_rfl) ?_
  refine an_new (d := 4) (fun xb_ => .pointer (some ⟨xb_, 0, none⟩)) (fun xb_ => Obj.cells [.int .i64 x, .int .i64 y, .int .u32 z].toArray 28 (0, 0)) (fun xb_ => by kernel_rfl) (by kernel_rfl) rfl h0 ?_
  intro r4 w5 (h6 : sat g w5 [Cl r4 [.int .i64 x, .int .i64 y, .int .u32 z] 28, Cl c2 [.pointer (some ⟨b, 0, none⟩)] 24, Cl c5 [.int .i64 0] 29, Cl b [.pointer (some ⟨s, 0, none⟩), .map (some m)] 63, Tb s n A, R])
  refine plain_batch (rest := []) [⟨1, [], none⟩] (l' := ([(6, .int .i64 0), (4, .pointer (some ⟨r4, 0, none⟩)), (0, .pointer (some ⟨b, 0, none⟩)), (1, .agg #[.int .i64 x, .int .i64 y, .int .u32 z]), (2, .func (Fn.func 38) #[] #[.pointer (some ⟨c2, 0, none⟩), .pointer (some ⟨c5, 0, none⟩)])] : Fr)) (pts' := []) (eqs := []) (by kernel_rfl) trivial (AllC_nil _) ?_
  refine PO.mk ?_
  change WP _ _ (CA Try.f36 [1]) _ _ _
  refine fk_cut ([(0, .pointer (some ⟨b, 0, none⟩)), (1, .agg #[.int .i64 x, .int .i64 y, .int .u32 z]), (2, .func (Fn.func 38) #[] #[.pointer (some ⟨c2, 0, none⟩), .pointer (some ⟨c5, 0, none⟩)]), (4, .pointer (some ⟨r4, 0, none⟩)), (6, .int .i64 0)] : Fr) (by kernel_rfl) (fun a => WP _ _ _ _ a _) (fun lr7 => ?_)
  refine gi_seq (x := CA Try.f36 [1, 0]) (y := CA Try.f36 [1, 1]) (by kernel_rfl) ?_
  refine gi_pln (id := 1) (ops := RA Try.f36 [1, 0]) [0, 1, 2, 3, 4, 5, 6] (by kernel_rfl) (by kernel_rfl) (by kernel_rfl) ?_
  refine plain_batch (rest := [5, 6]) [⟨0, [], none⟩, ⟨1, [.int .i64 y], none⟩, ⟨2, [], none⟩, ⟨3, [.int .u32 z], none⟩, ⟨4, [], none⟩] (l' := ([(13, .agg #[.int .i64 y, .int .u32 z]), (12, .int .u32 z), (11, .pointer (some ⟨r4, 2, none⟩)), (10, .int .i64 y), (9, .pointer (some ⟨r4, 1, none⟩)), (0, .pointer (some ⟨b, 0, none⟩)), (1, .agg #[.int .i64 x, .int .i64 y, .int .u32 z]), (2, .func (Fn.func 38) #[] #[.pointer (some ⟨c2, 0, none⟩), .pointer (some ⟨c5, 0, none⟩)]), (4, .pointer (some ⟨r4, 0, none⟩)), (6, .int .i64 0)] : Fr) ++ lr7) (pts' := [(3, ⟨r4, 2, none⟩, .int .u32 z), (1, ⟨r4, 1, none⟩, .int .i64 y)]) (eqs := []) (by kernel_rfl) trivial (AllC_cons (sat_cell h6 0 rfl rfl) (AllC_cons (sat_cell h6 0 rfl rfl) (AllC_nil _))) ?_
  refine plain_act (i := 5) (by kernel_rfl) ?_
  refine an_new (d := 7) (fun xb_ => .pointer (some ⟨xb_, 0, none⟩)) (fun xb_ => Obj.cells [.int .i64 0, .int .u32 0].toArray 79 (0, 0)) (fun xb_ => by kernel_rfl) (by kernel_rfl) rfl h6 ?_
  intro r8 w9 (h10 : sat g w9 [Cl r8 [.int .i64 0, .int .u32 0] 79, Cl r4 [.int .i64 x, .int .i64 y, .int .u32 z] 28, Cl c2 [.pointer (some ⟨b, 0, none⟩)] 24, Cl c5 [.int .i64 0] 29, Cl b [.pointer (some ⟨s, 0, none⟩), .map (some m)] 63, Tb s n A, R])
  refine plain_act (i := 6) (by kernel_rfl) ?_
  refine an_store [(0, .int .i64 y), (1, .int .u32 z)] (cs' := [.int .i64 y, .int .u32 z]) (by kernel_rfl) (by kernel_rfl) (allq ⟨⟨by simp, rfl⟩, ⟨by simp, rfl⟩, trivial⟩) rfl h10 ?_
  intro w11 (h12 : sat g w11 [Cl r8 [.int .i64 y, .int .u32 z] 79, Cl r4 [.int .i64 x, .int .i64 y, .int .u32 z] 28, Cl c2 [.pointer (some ⟨b, 0, none⟩)] 24, Cl c5 [.int .i64 0] 29, Cl b [.pointer (some ⟨s, 0, none⟩), .map (some m)] 63, Tb s n A, R])
  refine PO.mk ?_
  change WP _ _ (CA Try.f36 [1, 1]) _ _ _
  refine fk_cut ([(0, .pointer (some ⟨b, 0, none⟩)), (1, .agg #[.int .i64 x, .int .i64 y, .int .u32 z]), (2, .func (Fn.func 38) #[] #[.pointer (some ⟨c2, 0, none⟩), .pointer (some ⟨c5, 0, none⟩)]), (4, .pointer (some ⟨r4, 0, none⟩)), (6, .int .i64 0), (7, .pointer (some ⟨r8, 0, none⟩))] : Fr) (by kernel_rfl) (fun a => WP _ _ _ _ a _) (fun lr13 => ?_)
  refine gi_seq (x := CA Try.f36 [1, 1, 0]) (y := CA Try.f36 [1, 1, 1]) (by kernel_rfl) ?_
  refine gi_blk (id := 0) (x := CA Try.f36 [1, 1, 0, 0]) (by kernel_rfl) ?_
  refine gi_seq (x := CA Try.f36 [1, 1, 0, 0, 0]) (y := CA Try.f36 [1, 1, 0, 0, 1]) (by kernel_rfl) ?_
  refine gi_pln (id := 2) (ops := RA Try.f36 [1, 1, 0, 0, 0]) [0, 1, 2, 3] (by kernel_rfl) (by kernel_rfl) (by kernel_rfl) ?_
  refine plain_batch (rest := [1, 2, 3]) [⟨0, [], none⟩] (l' := ([(15, .pointer (some ⟨b, 0, none⟩)), (0, .pointer (some ⟨b, 0, none⟩)), (1, .agg #[.int .i64 x, .int .i64 y, .int .u32 z]), (2, .func (Fn.func 38) #[] #[.pointer (some ⟨c2, 0, none⟩), .pointer (some ⟨c5, 0, none⟩)]), (4, .pointer (some ⟨r4, 0, none⟩)), (6, .int .i64 0), (7, .pointer (some ⟨r8, 0, none⟩))] : Fr) ++ lr13) (pts' := []) (eqs := []) (by kernel_rfl) trivial (AllC_nil _) ?_
  have h14 : sat g w11 [Cl b [.pointer (some ⟨s, 0, none⟩), .map (some m)] 63, Cl r8 [.int .i64 y, .int .u32 z] 79, Cl r4 [.int .i64 x, .int .i64 y, .int .u32 z] 28, Cl c2 [.pointer (some ⟨b, 0, none⟩)] 24, Cl c5 [.int .i64 0] 29, Tb s n A, R] := sat_sel [4, 0, 1, 2, 3, 5, 6] rfl h12
  refine plain_act (i := 1) (by kernel_rfl) ?_
  refine an_call (d := some 16) (f := 33) (args := [.pointer (some ⟨b, 0, none⟩)]) (by kernel_rfl) Try.call33 (made_y b s m) (F := [Cl r8 [.int .i64 y, .int .u32 z] 79, Cl r4 [.int .i64 x, .int .i64 y, .int .u32 z] 28, Cl c2 [.pointer (some ⟨b, 0, none⟩)] 24, Cl c5 [.int .i64 0] 29, Tb s n A, R]) h14 ?_
  rintro v K w15 (⟨rfl, rfl⟩) h16
  refine ⟨_, rfl, ?_⟩
  have h17 : sat g w15 [Cl b [.pointer (some ⟨s, 0, none⟩), .map (some m)] 63, Cl r8 [.int .i64 y, .int .u32 z] 79, Cl r4 [.int .i64 x, .int .i64 y, .int .u32 z] 28, Cl c2 [.pointer (some ⟨b, 0, none⟩)] 24, Cl c5 [.int .i64 0] 29, Tb s n A, R] := h16
  refine plain_batch (rest := []) [⟨2, [], none⟩, ⟨3, [], none⟩] (l' := ([(14, .bool false), (17, .bool false), (16, .bool true), (15, .pointer (some ⟨b, 0, none⟩)), (0, .pointer (some ⟨b, 0, none⟩)), (1, .agg #[.int .i64 x, .int .i64 y, .int .u32 z]), (2, .func (Fn.func 38) #[] #[.pointer (some ⟨c2, 0, none⟩), .pointer (some ⟨c5, 0, none⟩)]), (4, .pointer (some ⟨r4, 0, none⟩)), (6, .int .i64 0), (7, .pointer (some ⟨r8, 0, none⟩))] : Fr) ++ lr13) (pts' := []) (eqs := []) (by kernel_rfl) trivial (AllC_nil _) ?_
  refine PO.mk ?_
  change WP _ _ (CA Try.f36 [1, 1, 0, 0, 1]) _ _ _
  refine fk_cut ([(0, .pointer (some ⟨b, 0, none⟩)), (1, .agg #[.int .i64 x, .int .i64 y, .int .u32 z]), (2, .func (Fn.func 38) #[] #[.pointer (some ⟨c2, 0, none⟩), .pointer (some ⟨c5, 0, none⟩)]), (4, .pointer (some ⟨r4, 0, none⟩)), (6, .int .i64 0), (7, .pointer (some ⟨r8, 0, none⟩)), (14, .bool false)] : Fr) (by kernel_rfl) (fun a => WP _ _ _ _ a _) (fun lr18 => ?_)
  refine gi_cnd (x := (Operand.tmp 14)) (s := CA Try.f36 [1, 1, 0, 0, 1, 0]) (t := CA Try.f36 [1, 1, 0, 0, 1, 1]) false (by kernel_rfl) (by kernel_rfl) ?_
  change WP _ _ (CA Try.f36 [1, 1, 0, 0, 1, 1]) _ _ _
  refine gi_seq (x := CA Try.f36 [1, 1, 0, 0, 1, 1, 0]) (y := CA Try.f36 [1, 1, 0, 0, 1, 1, 1]) (by kernel_rfl) ?_
  refine gi_pln (id := 4) (ops := RA Try.f36 [1, 1, 0, 0, 1, 1, 0]) [0, 1, 2, 3, 4, 5, 6, 7, 8] (by kernel_rfl) (by kernel_rfl) (by kernel_rfl) ?_
  refine plain_batch (rest := [1, 2, 3, 4, 5, 6, 7, 8]) [⟨0, [.int .i64 x, .int .i64 y, .int .u32 z], none⟩] (l' := ([(19, .agg #[.int .i64 x, .int .i64 y, .int .u32 z]), (0, .pointer (some ⟨b, 0, none⟩)), (1, .agg #[.int .i64 x, .int .i64 y, .int .u32 z]), (2, .func (Fn.func 38) #[] #[.pointer (some ⟨c2, 0, none⟩), .pointer (some ⟨c5, 0, none⟩)]), (4, .pointer (some ⟨r4, 0, none⟩)), (6, .int .i64 0), (7, .pointer (some ⟨r8, 0, none⟩)), (14, .bool false)] : Fr) ++ lr18) (pts' := [(0, ⟨r4, 0, none⟩, .int .i64 x), (0, ⟨r4, 1, none⟩, .int .i64 y), (0, ⟨r4, 2, none⟩, .int .u32 z)]) (eqs := []) (by kernel_rfl) trivial (AllC_cons (sat_cell h17 2 rfl rfl) (AllC_cons (sat_cell h17 2 rfl rfl) (AllC_cons (sat_cell h17 2 rfl rfl) (AllC_nil _)))) ?_
  by_cases c19 : 1 ≤ x
  ·
    by_cases c20 : x ≤ 3
    ·
      by_cases c21 : 0 ≤ y
      ·
        by_cases c22 : y ≤ 63
        ·
          by_cases c23 : 1 ≤ z
          ·
            refine plain_act (i := 1) (by kernel_rfl) ?_
            refine an_call (d := some 20) (f := 53) (args := [.agg #[.int .i64 x, .int .i64 y, .int .u32 z]]) (by kernel_rfl) Try.call53 (couter_ok x y z (by omega) (by omega) (by omega)) (F := [Cl b [.pointer (some ⟨s, 0, none⟩), .map (some m)] 63, Cl r8 [.int .i64 y, .int .u32 z] 79, Cl r4 [.int .i64 x, .int .i64 y, .int .u32 z] 28, Cl c2 [.pointer (some ⟨b, 0, none⟩)] 24, Cl c5 [.int .i64 0] 29, Tb s n A, R]) h17 ?_
            rintro v K w24 (⟨rfl, rfl⟩) h25
            refine ⟨_, rfl, ?_⟩
            have h26 : sat g w24 [Cl b [.pointer (some ⟨s, 0, none⟩), .map (some m)] 63, Cl r8 [.int .i64 y, .int .u32 z] 79, Cl r4 [.int .i64 x, .int .i64 y, .int .u32 z] 28, Cl c2 [.pointer (some ⟨b, 0, none⟩)] 24, Cl c5 [.int .i64 0] 29, Tb s n A, R] := h25
            refine plain_batch (rest := [6, 7, 8]) [⟨2, [], none⟩, ⟨3, [], none⟩, ⟨4, [], none⟩, ⟨5, [.int .i64 x], none⟩] (l' := ([(24, .int .i64 x), (23, .pointer (some ⟨r4, 0, none⟩)), (22, .bool false), (21, .bool false), (20, .int .i64 0), (19, .agg #[.int .i64 x, .int .i64 y, .int .u32 z]), (0, .pointer (some ⟨b, 0, none⟩)), (1, .agg #[.int .i64 x, .int .i64 y, .int .u32 z]), (2, .func (Fn.func 38) #[] #[.pointer (some ⟨c2, 0, none⟩), .pointer (some ⟨c5, 0, none⟩)]), (4, .pointer (some ⟨r4, 0, none⟩)), (6, .int .i64 0), (7, .pointer (some ⟨r8, 0, none⟩)), (14, .bool false)] : Fr) ++ lr18) (pts' := [(5, ⟨r4, 0, none⟩, .int .i64 x)]) (eqs := []) (by kernel_rfl) trivial (AllC_cons (sat_cell h26 2 rfl rfl) (AllC_nil _)) ?_
            by_cases c27 : x = 1
            ·
              refine plain_batch (rest := []) [⟨6, [], some (.bool false)⟩, ⟨7, [], none⟩, ⟨8, [], none⟩] (l' := ([(18, .bool false), (26, .bool false), (25, .bool false), (24, .int .i64 x), (23, .pointer (some ⟨r4, 0, none⟩)), (22, .bool false), (21, .bool false), (20, .int .i64 0), (19, .agg #[.int .i64 x, .int .i64 y, .int .u32 z]), (0, .pointer (some ⟨b, 0, none⟩)), (1, .agg #[.int .i64 x, .int .i64 y, .int .u32 z]), (2, .func (Fn.func 38) #[] #[.pointer (some ⟨c2, 0, none⟩), .pointer (some ⟨c5, 0, none⟩)]), (4, .pointer (some ⟨r4, 0, none⟩)), (6, .int .i64 0), (7, .pointer (some ⟨r8, 0, none⟩)), (14, .bool false)] : Fr) ++ lr18) (pts' := []) (eqs := [(.bool (x != 1), .bool false)]) (by kernel_rfl) ⟨(ov_nf (by omega)), trivial⟩ (AllC_nil _) ?_
              refine PO.mk ?_
              change WP _ _ (CA Try.f36 [1, 1, 0, 0, 1, 1, 1]) _ _ _
              refine fk_cut ([(0, .pointer (some ⟨b, 0, none⟩)), (1, .agg #[.int .i64 x, .int .i64 y, .int .u32 z]), (2, .func (Fn.func 38) #[] #[.pointer (some ⟨c2, 0, none⟩), .pointer (some ⟨c5, 0, none⟩)]), (4, .pointer (some ⟨r4, 0, none⟩)), (6, .int .i64 0), (7, .pointer (some ⟨r8, 0, none⟩)), (14, .bool false), (18, .bool false)] : Fr) (by kernel_rfl) (fun a => WP _ _ _ _ a _) (fun lr28 => ?_)
              refine gi_cnd (x := (Operand.tmp 18)) (s := CA Try.f36 [1, 1, 0, 0, 1, 1, 1, 0]) (t := CA Try.f36 [1, 1, 0, 0, 1, 1, 1, 1]) false (by kernel_rfl) (by kernel_rfl) ?_
              change WP _ _ (CA Try.f36 [1, 1, 0, 0, 1, 1, 1, 1]) _ _ _
              refine gi_skp (by kernel_rfl) ?_
              change WP _ _ (CA Try.f36 [1, 1, 1]) _ _ _
              refine gi_seq (x := CA Try.f36 [1, 1, 1, 0]) (y := CA Try.f36 [1, 1, 1, 1]) (by kernel_rfl) ?_
              refine gi_seq (x := CA Try.f36 [1, 1, 1, 0, 0]) (y := CA Try.f36 [1, 1, 1, 0, 1]) (by kernel_rfl) ?_
              refine gi_drw (id := 6) (ops := RA Try.f36 [1, 1, 1, 0, 0]) (Tr.fl 0 (Tr.fl 1 (Tr.fl 2 (Tr.fl 3 (Tr.fl 4 (Tr.an 5 (Tr.fl 6 Tr.nil))))))) (by kernel_rfl) (by kernel_rfl) (by kernel_rfl) (by kernel_rfl) (by kernel_rfl) (fun _ _ d _ _ h => by cases d <;> exact h) h26 ?_
              intro w29 h30
              refine draw_batch (t := (Tr.an 5 (Tr.fl 6 Tr.nil))) [⟨0, [], none⟩, ⟨1, [], none⟩, ⟨2, [], none⟩, ⟨3, [.pointer (some ⟨s, 0, none⟩)], none⟩, ⟨4, [.int .i64 y, .int .u32 z], none⟩] (l' := ([(31, .agg #[.int .i64 y, .int .u32 z]), (30, .pointer (some ⟨s, 0, none⟩)), (29, .pointer (some ⟨b, 0, none⟩)), (28, .pointer (some ⟨b, 0, none⟩)), (27, .pointer (some ⟨b, 0, none⟩)), (0, .pointer (some ⟨b, 0, none⟩)), (1, .agg #[.int .i64 x, .int .i64 y, .int .u32 z]), (2, .func (Fn.func 38) #[] #[.pointer (some ⟨c2, 0, none⟩), .pointer (some ⟨c5, 0, none⟩)]), (4, .pointer (some ⟨r4, 0, none⟩)), (6, .int .i64 0), (7, .pointer (some ⟨r8, 0, none⟩)), (14, .bool false), (18, .bool false)] : Fr) ++ lr28) (pts' := [(4, ⟨r8, 0, none⟩, .int .i64 y), (4, ⟨r8, 1, none⟩, .int .u32 z), (3, ⟨b, 0, none⟩, .pointer (some ⟨s, 0, none⟩))]) (eqs := []) (by kernel_rfl) trivial (AllC_cons (sat_cell h30 1 rfl rfl) (AllC_cons (sat_cell h30 1 rfl rfl) (AllC_cons (sat_cell h30 0 rfl rfl) (AllC_nil _)))) ?_
              by_cases c31 : y < ((n : Nat) : Int)
              ·
                obtain ⟨kk32, hk33⟩ : ∃ z_ : Nat, y = (z_ : Int) := ⟨(y).toNat, by omega⟩
                obtain ⟨x34, hx35⟩ : ∃ x : Sl2, A[kk32]? = some x := ⟨_, List.getElem?_eq_getElem (by rw [hAl_]; omega)⟩
                have hb36 := hok_ x34 (List.mem_of_getElem? hx35)
                by_cases c37 : x34.1 = 1
                ·
                  by_cases c38 : x34.2 = z
                  ·
                    have h39 : sat g w29 [Tb s n A, Cl b [.pointer (some ⟨s, 0, none⟩), .map (some m)] 63, Cl r8 [.int .i64 y, .int .u32 z] 79, Cl r4 [.int .i64 x, .int .i64 y, .int .u32 z] 28, Cl c2 [.pointer (some ⟨b, 0, none⟩)] 24, Cl c5 [.int .i64 0] 29, R] := sat_sel [5, 0, 1, 2, 3, 4, 6] rfl h30
                    refine draw_act (i := 5) [] (by kernel_rfl) (by kernel_rfl) ?_
                    refine an_call (d := some 32) (f := 54) (args := [.pointer (some ⟨s, 0, none⟩), .agg #[.int .i64 y, .int .u32 z]]) (by kernel_rfl) Try.call54 (check_ok s n A kk32 x34 hx35 y z (by omega)) (F := [Cl b [.pointer (some ⟨s, 0, none⟩), .map (some m)] 63, Cl r8 [.int .i64 y, .int .u32 z] 79, Cl r4 [.int .i64 x, .int .i64 y, .int .u32 z] 28, Cl c2 [.pointer (some ⟨b, 0, none⟩)] 24, Cl c5 [.int .i64 0] 29, R]) h39 ?_
                    rintro v K w40 (⟨rfl, rfl⟩) h41
                    refine ⟨_, rfl, ?_⟩
                    have h42 : sat g w40 [Tb s n A, Cl b [.pointer (some ⟨s, 0, none⟩), .map (some m)] 63, Cl r8 [.int .i64 y, .int .u32 z] 79, Cl r4 [.int .i64 x, .int .i64 y, .int .u32 z] 28, Cl c2 [.pointer (some ⟨b, 0, none⟩)] 24, Cl c5 [.int .i64 0] 29, R] := h41
                    refine ⟨(AllC_nil _), ?_⟩
                    refine draw_batch (t := Tr.nil) [⟨6, [], none⟩] (l' := ([(8, .int .i64 0), (32, .int .i64 0), (31, .agg #[.int .i64 y, .int .u32 z]), (30, .pointer (some ⟨s, 0, none⟩)), (29, .pointer (some ⟨b, 0, none⟩)), (28, .pointer (some ⟨b, 0, none⟩)), (27, .pointer (some ⟨b, 0, none⟩)), (0, .pointer (some ⟨b, 0, none⟩)), (1, .agg #[.int .i64 x, .int .i64 y, .int .u32 z]), (2, .func (Fn.func 38) #[] #[.pointer (some ⟨c2, 0, none⟩), .pointer (some ⟨c5, 0, none⟩)]), (4, .pointer (some ⟨r4, 0, none⟩)), (6, .int .i64 0), (7, .pointer (some ⟨r8, 0, none⟩)), (14, .bool false), (18, .bool false)] : Fr) ++ lr28) (pts' := []) (eqs := []) (by kernel_rfl) trivial (AllC_nil _) ?_
                    change WP _ _ (CA Try.f36 [1, 1, 1, 0, 1]) _ _ _
                    refine fk_cut ([(0, .pointer (some ⟨b, 0, none⟩)), (1, .agg #[.int .i64 x, .int .i64 y, .int .u32 z]), (2, .func (Fn.func 38) #[] #[.pointer (some ⟨c2, 0, none⟩), .pointer (some ⟨c5, 0, none⟩)]), (4, .pointer (some ⟨r4, 0, none⟩)), (6, .int .i64 0), (7, .pointer (some ⟨r8, 0, none⟩)), (8, .int .i64 0), (14, .bool false), (18, .bool false)] : Fr) (by kernel_rfl) (fun a => WP _ _ _ _ a _) (fun lr43 => ?_)
                    refine gi_seq (x := CA Try.f36 [1, 1, 1, 0, 1, 0]) (y := CA Try.f36 [1, 1, 1, 0, 1, 1]) (by kernel_rfl) ?_
                    refine gi_pln (id := 7) (ops := RA Try.f36 [1, 1, 1, 0, 1, 0]) [0, 1] (by kernel_rfl) (by kernel_rfl) (by kernel_rfl) ?_
                    refine plain_batch (rest := []) [⟨0, [], none⟩, ⟨1, [], none⟩] (l' := ([(34, .bool false), (33, .int .i64 0), (0, .pointer (some ⟨b, 0, none⟩)), (1, .agg #[.int .i64 x, .int .i64 y, .int .u32 z]), (2, .func (Fn.func 38) #[] #[.pointer (some ⟨c2, 0, none⟩), .pointer (some ⟨c5, 0, none⟩)]), (4, .pointer (some ⟨r4, 0, none⟩)), (6, .int .i64 0), (7, .pointer (some ⟨r8, 0, none⟩)), (8, .int .i64 0), (14, .bool false), (18, .bool false)] : Fr) ++ lr43) (pts' := []) (eqs := []) (by kernel_rfl) trivial (AllC_nil _) ?_
                    refine PO.mk ?_
                    change WP _ _ (CA Try.f36 [1, 1, 1, 0, 1, 1]) _ _ _
                    refine fk_cut ([(0, .pointer (some ⟨b, 0, none⟩)), (1, .agg #[.int .i64 x, .int .i64 y, .int .u32 z]), (2, .func (Fn.func 38) #[] #[.pointer (some ⟨c2, 0, none⟩), .pointer (some ⟨c5, 0, none⟩)]), (4, .pointer (some ⟨r4, 0, none⟩)), (6, .int .i64 0), (7, .pointer (some ⟨r8, 0, none⟩)), (8, .int .i64 0), (14, .bool false), (18, .bool false), (34, .bool false)] : Fr) (by kernel_rfl) (fun a => WP _ _ _ _ a _) (fun lr44 => ?_)
                    refine gi_cnd (x := (Operand.tmp 34)) (s := CA Try.f36 [1, 1, 1, 0, 1, 1, 0]) (t := CA Try.f36 [1, 1, 1, 0, 1, 1, 1]) false (by kernel_rfl) (by kernel_rfl) ?_
                    change WP _ _ (CA Try.f36 [1, 1, 1, 0, 1, 1, 1]) _ _ _
                    refine gi_skp (by kernel_rfl) ?_
                    change WP _ _ (CA Try.f36 [1, 1, 1, 1]) _ _ _
                    refine gi_seq (x := CA Try.f36 [1, 1, 1, 1, 0]) (y := CA Try.f36 [1, 1, 1, 1, 1]) (by kernel_rfl) ?_
                    refine gi_pln (id := 9) (ops := RA Try.f36 [1, 1, 1, 1, 0]) [0, 1, 2] (by kernel_rfl) (by kernel_rfl) (by kernel_rfl) ?_
                    refine plain_batch (rest := [2]) [⟨0, [], none⟩, ⟨1, [.int .i64 y, .int .u32 z], none⟩] (l' := ([(37, .agg #[.int .i64 y, .int .u32 z]), (36, .func (Fn.func 38) #[] #[.pointer (some ⟨c2, 0, none⟩), .pointer (some ⟨c5, 0, none⟩)]), (0, .pointer (some ⟨b, 0, none⟩)), (1, .agg #[.int .i64 x, .int .i64 y, .int .u32 z]), (2, .func (Fn.func 38) #[] #[.pointer (some ⟨c2, 0, none⟩), .pointer (some ⟨c5, 0, none⟩)]), (4, .pointer (some ⟨r4, 0, none⟩)), (6, .int .i64 0), (7, .pointer (some ⟨r8, 0, none⟩)), (8, .int .i64 0), (14, .bool false), (18, .bool false), (34, .bool false)] : Fr) ++ lr44) (pts' := [(1, ⟨r8, 0, none⟩, .int .i64 y), (1, ⟨r8, 1, none⟩, .int .u32 z)]) (eqs := []) (by kernel_rfl) trivial (AllC_cons (sat_cell h42 2 rfl rfl) (AllC_cons (sat_cell h42 2 rfl rfl) (AllC_nil _))) ?_
                    have h45 : sat g w40 [Cl c2 [.pointer (some ⟨b, 0, none⟩)] 24, Cl c5 [.int .i64 0] 29, Cl b [.pointer (some ⟨s, 0, none⟩), .map (some m)] 63, Tb s n A, Cl r8 [.int .i64 y, .int .u32 z] 79, Cl r4 [.int .i64 x, .int .i64 y, .int .u32 z] 28, R] := sat_sel [4, 5, 1, 0, 2, 3, 6] rfl h42
                    refine plain_act (i := 2) (by kernel_rfl) ?_
                    refine an_call (d := some 38) (f := 38) (args := [.agg #[.int .i64 y, .int .u32 z], .pointer (some ⟨c2, 0, none⟩), .pointer (some ⟨c5, 0, none⟩)]) (by kernel_rfl) Try.call38 (cls1_ht c2 c5 b s m n A kk32 x34 hx35 y z (by omega)) (F := [Cl r8 [.int .i64 y, .int .u32 z] 79, Cl r4 [.int .i64 x, .int .i64 y, .int .u32 z] 28, R]) h45 ?_
                    rintro v K w46 (⟨rfl, rfl⟩) h47
                    refine ⟨_, rfl, ?_⟩
                    have h48 : sat g w46 [Cl c2 [.pointer (some ⟨b, 0, none⟩)] 24, Cl c5 [.int .i64 0] 29, Cl b [.pointer (some ⟨s, 0, none⟩), .map (some m)] 63, Tb s n (giveA A kk32 z), Cl r8 [.int .i64 y, .int .u32 z] 79, Cl r4 [.int .i64 x, .int .i64 y, .int .u32 z] 28, R] := h47
                    refine PO.mk ?_
                    change WP _ _ (CA Try.f36 [1, 1, 1, 1, 1]) _ _ _
                    refine fk_cut ([(0, .pointer (some ⟨b, 0, none⟩)), (1, .agg #[.int .i64 x, .int .i64 y, .int .u32 z]), (2, .func (Fn.func 38) #[] #[.pointer (some ⟨c2, 0, none⟩), .pointer (some ⟨c5, 0, none⟩)]), (4, .pointer (some ⟨r4, 0, none⟩)), (6, .int .i64 0), (7, .pointer (some ⟨r8, 0, none⟩)), (8, .int .i64 0), (14, .bool false), (18, .bool false), (34, .bool false)] : Fr) (by kernel_rfl) (fun a => WP _ _ _ _ a _) (fun lr49 => ?_)
                    refine gi_seq (x := CA Try.f36 [1, 1, 1, 1, 1, 0]) (y := CA Try.f36 [1, 1, 1, 1, 1, 1]) (by kernel_rfl) ?_
                    refine gi_pln (id := 10) (ops := RA Try.f36 [1, 1, 1, 1, 1, 0]) [0] (by kernel_rfl) (by kernel_rfl) (by kernel_rfl) ?_
                    refine plain_batch (rest := []) [⟨0, [], none⟩] (l' := ([(6, .int .i64 0), (0, .pointer (some ⟨b, 0, none⟩)), (1, .agg #[.int .i64 x, .int .i64 y, .int .u32 z]), (2, .func (Fn.func 38) #[] #[.pointer (some ⟨c2, 0, none⟩), .pointer (some ⟨c5, 0, none⟩)]), (4, .pointer (some ⟨r4, 0, none⟩)), (6, .int .i64 0), (7, .pointer (some ⟨r8, 0, none⟩)), (8, .int .i64 0), (14, .bool false), (18, .bool false), (34, .bool false)] : Fr) ++ lr49) (pts' := []) (eqs := []) (by kernel_rfl) trivial (AllC_nil _) ?_
                    refine PO.mk ?_
                    change WP _ _ (CA Try.f36 [1, 1, 1, 1, 1, 1]) _ _ _
                    refine fk_cut ([(0, .pointer (some ⟨b, 0, none⟩)), (1, .agg #[.int .i64 x, .int .i64 y, .int .u32 z]), (2, .func (Fn.func 38) #[] #[.pointer (some ⟨c2, 0, none⟩), .pointer (some ⟨c5, 0, none⟩)]), (4, .pointer (some ⟨r4, 0, none⟩)), (6, .int .i64 0), (7, .pointer (some ⟨r8, 0, none⟩)), (8, .int .i64 0), (14, .bool false), (18, .bool false), (34, .bool false)] : Fr) (by kernel_rfl) (fun a => WP _ _ _ _ a _) (fun lr50 => ?_)
                    refine gi_rt (by kernel_rfl) ?_
                    repeat (first | simp only [Exit.inBlock] | simp only [Exit.then])
                    have he_ : errA A (x, y, z) = 0 := chk_ok A (by omega) (by omega) (by omega) (by omega) hx35 (by omega)
                    have hc_ : clsA A (x, y, z) = (giveA A kk32 z) := cls_ok he_ (by omega)
                    have h51 : sat g w46 [Cl c2 [.pointer (some ⟨b, 0, none⟩)] 24, Cl c5 [.int .i64 0] 29, Cl b [.pointer (some ⟨s, 0, none⟩), .map (some m)] 63, Tb s n (giveA A kk32 z), R] := sat_sel [0, 1, 2, 3, 6] rfl h48
                    refine hi_out [] (.int .i64 0) [] (by kernel_rfl) (by intro q hq; cases hq) ?_
                    exact ⟨.int .i64 0, [Cl c2 [.pointer (some ⟨b, 0, none⟩)] 24, Cl c5 [.int .i64 0] 29, Cl b [.pointer (some ⟨s, 0, none⟩), .map (some m)] 63, Tb s n (giveA A kk32 z)], rfl, ⟨by rw [he_], by rw [hc_]⟩, h51⟩
                  ·
                    have h52 : sat g w29 [Tb s n A, Cl b [.pointer (some ⟨s, 0, none⟩), .map (some m)] 63, Cl r8 [.int .i64 y, .int .u32 z] 79, Cl r4 [.int .i64 x, .int .i64 y, .int .u32 z] 28, Cl c2 [.pointer (some ⟨b, 0, none⟩)] 24, Cl c5 [.int .i64 0] 29, R] := sat_sel [5, 0, 1, 2, 3, 4, 6] rfl h30
                    refine draw_act (i := 5) [] (by kernel_rfl) (by kernel_rfl) ?_
                    refine an_call (d := some 32) (f := 54) (args := [.pointer (some ⟨s, 0, none⟩), .agg #[.int .i64 y, .int .u32 z]]) (by kernel_rfl) Try.call54 (check_stale s n A kk32 x34 hx35 y z (by omega)) (F := [Cl b [.pointer (some ⟨s, 0, none⟩), .map (some m)] 63, Cl r8 [.int .i64 y, .int .u32 z] 79, Cl r4 [.int .i64 x, .int .i64 y, .int .u32 z] 28, Cl c2 [.pointer (some ⟨b, 0, none⟩)] 24, Cl c5 [.int .i64 0] 29, R]) h52 ?_
                    rintro v K w53 (⟨rfl, rfl⟩) h54
                    refine ⟨_, rfl, ?_⟩
                    have h55 : sat g w53 [Tb s n A, Cl b [.pointer (some ⟨s, 0, none⟩), .map (some m)] 63, Cl r8 [.int .i64 y, .int .u32 z] 79, Cl r4 [.int .i64 x, .int .i64 y, .int .u32 z] 28, Cl c2 [.pointer (some ⟨b, 0, none⟩)] 24, Cl c5 [.int .i64 0] 29, R] := h54
                    refine ⟨(AllC_nil _), ?_⟩
                    refine draw_batch (t := Tr.nil) [⟨6, [], none⟩] (l' := ([(8, .int .i64 7), (32, .int .i64 7), (31, .agg #[.int .i64 y, .int .u32 z]), (30, .pointer (some ⟨s, 0, none⟩)), (29, .pointer (some ⟨b, 0, none⟩)), (28, .pointer (some ⟨b, 0, none⟩)), (27, .pointer (some ⟨b, 0, none⟩)), (0, .pointer (some ⟨b, 0, none⟩)), (1, .agg #[.int .i64 x, .int .i64 y, .int .u32 z]), (2, .func (Fn.func 38) #[] #[.pointer (some ⟨c2, 0, none⟩), .pointer (some ⟨c5, 0, none⟩)]), (4, .pointer (some ⟨r4, 0, none⟩)), (6, .int .i64 0), (7, .pointer (some ⟨r8, 0, none⟩)), (14, .bool false), (18, .bool false)] : Fr) ++ lr28) (pts' := []) (eqs := []) (by kernel_rfl) trivial (AllC_nil _) ?_
                    change WP _ _ (CA Try.f36 [1, 1, 1, 0, 1]) _ _ _
                    refine fk_cut ([(0, .pointer (some ⟨b, 0, none⟩)), (1, .agg #[.int .i64 x, .int .i64 y, .int .u32 z]), (2, .func (Fn.func 38) #[] #[.pointer (some ⟨c2, 0, none⟩), .pointer (some ⟨c5, 0, none⟩)]), (4, .pointer (some ⟨r4, 0, none⟩)), (6, .int .i64 0), (7, .pointer (some ⟨r8, 0, none⟩)), (8, .int .i64 7), (14, .bool false), (18, .bool false)] : Fr) (by kernel_rfl) (fun a => WP _ _ _ _ a _) (fun lr56 => ?_)
                    refine gi_seq (x := CA Try.f36 [1, 1, 1, 0, 1, 0]) (y := CA Try.f36 [1, 1, 1, 0, 1, 1]) (by kernel_rfl) ?_
                    refine gi_pln (id := 7) (ops := RA Try.f36 [1, 1, 1, 0, 1, 0]) [0, 1] (by kernel_rfl) (by kernel_rfl) (by kernel_rfl) ?_
                    refine plain_batch (rest := []) [⟨0, [], none⟩, ⟨1, [], none⟩] (l' := ([(34, .bool true), (33, .int .i64 7), (0, .pointer (some ⟨b, 0, none⟩)), (1, .agg #[.int .i64 x, .int .i64 y, .int .u32 z]), (2, .func (Fn.func 38) #[] #[.pointer (some ⟨c2, 0, none⟩), .pointer (some ⟨c5, 0, none⟩)]), (4, .pointer (some ⟨r4, 0, none⟩)), (6, .int .i64 0), (7, .pointer (some ⟨r8, 0, none⟩)), (8, .int .i64 7), (14, .bool false), (18, .bool false)] : Fr) ++ lr56) (pts' := []) (eqs := []) (by kernel_rfl) trivial (AllC_nil _) ?_
                    refine PO.mk ?_
                    change WP _ _ (CA Try.f36 [1, 1, 1, 0, 1, 1]) _ _ _
                    refine fk_cut ([(0, .pointer (some ⟨b, 0, none⟩)), (1, .agg #[.int .i64 x, .int .i64 y, .int .u32 z]), (2, .func (Fn.func 38) #[] #[.pointer (some ⟨c2, 0, none⟩), .pointer (some ⟨c5, 0, none⟩)]), (4, .pointer (some ⟨r4, 0, none⟩)), (6, .int .i64 0), (7, .pointer (some ⟨r8, 0, none⟩)), (8, .int .i64 7), (14, .bool false), (18, .bool false), (34, .bool true)] : Fr) (by kernel_rfl) (fun a => WP _ _ _ _ a _) (fun lr57 => ?_)
                    refine gi_cnd (x := (Operand.tmp 34)) (s := CA Try.f36 [1, 1, 1, 0, 1, 1, 0]) (t := CA Try.f36 [1, 1, 1, 0, 1, 1, 1]) true (by kernel_rfl) (by kernel_rfl) ?_
                    change WP _ _ (CA Try.f36 [1, 1, 1, 0, 1, 1, 0]) _ _ _
                    refine gi_seq (x := CA Try.f36 [1, 1, 1, 0, 1, 1, 0, 0]) (y := CA Try.f36 [1, 1, 1, 0, 1, 1, 0, 1]) (by kernel_rfl) ?_
                    refine gi_pln (id := 8) (ops := RA Try.f36 [1, 1, 1, 0, 1, 1, 0, 0]) [0, 1] (by kernel_rfl) (by kernel_rfl) (by kernel_rfl) ?_
                    refine plain_batch (rest := []) [⟨0, [], none⟩, ⟨1, [], none⟩] (l' := ([(6, .int .i64 7), (35, .int .i64 7), (0, .pointer (some ⟨b, 0, none⟩)), (1, .agg #[.int .i64 x, .int .i64 y, .int .u32 z]), (2, .func (Fn.func 38) #[] #[.pointer (some ⟨c2, 0, none⟩), .pointer (some ⟨c5, 0, none⟩)]), (4, .pointer (some ⟨r4, 0, none⟩)), (6, .int .i64 0), (7, .pointer (some ⟨r8, 0, none⟩)), (8, .int .i64 7), (14, .bool false), (18, .bool false), (34, .bool true)] : Fr) ++ lr57) (pts' := []) (eqs := []) (by kernel_rfl) trivial (AllC_nil _) ?_
                    refine PO.mk ?_
                    change WP _ _ (CA Try.f36 [1, 1, 1, 0, 1, 1, 0, 1]) _ _ _
                    refine fk_cut ([(0, .pointer (some ⟨b, 0, none⟩)), (1, .agg #[.int .i64 x, .int .i64 y, .int .u32 z]), (2, .func (Fn.func 38) #[] #[.pointer (some ⟨c2, 0, none⟩), .pointer (some ⟨c5, 0, none⟩)]), (4, .pointer (some ⟨r4, 0, none⟩)), (6, .int .i64 7), (7, .pointer (some ⟨r8, 0, none⟩)), (8, .int .i64 7), (14, .bool false), (18, .bool false), (34, .bool true)] : Fr) (by kernel_rfl) (fun a => WP _ _ _ _ a _) (fun lr58 => ?_)
                    refine gi_rt (by kernel_rfl) ?_
                    repeat (first | simp only [Exit.inBlock] | simp only [Exit.then])
                    have he_ : errA A (x, y, z) = 7 := chk_stale A (by omega) (by omega) (by omega) (by omega) hx35 (by omega)
                    have hc_ : clsA A (x, y, z) = A := cls_no he_ (by decide)
                    have h59 : sat g w53 [Cl c2 [.pointer (some ⟨b, 0, none⟩)] 24, Cl c5 [.int .i64 0] 29, Cl b [.pointer (some ⟨s, 0, none⟩), .map (some m)] 63, Tb s n A, Cl r8 [.int .i64 y, .int .u32 z] 79, Cl r4 [.int .i64 x, .int .i64 y, .int .u32 z] 28, R] := sat_sel [4, 5, 1, 0, 2, 3, 6] rfl h55
                    have h60 : sat g w53 [Cl c2 [.pointer (some ⟨b, 0, none⟩)] 24, Cl c5 [.int .i64 0] 29, Cl b [.pointer (some ⟨s, 0, none⟩), .map (some m)] 63, Tb s n A, R] := sat_sel [0, 1, 2, 3, 6] rfl h59
                    refine hi_out [] (.int .i64 7) [] (by kernel_rfl) (by intro q hq; cases hq) ?_
                    exact ⟨.int .i64 7, [Cl c2 [.pointer (some ⟨b, 0, none⟩)] 24, Cl c5 [.int .i64 0] 29, Cl b [.pointer (some ⟨s, 0, none⟩), .map (some m)] 63, Tb s n A], rfl, ⟨by rw [he_], by rw [hc_]⟩, h60⟩
                ·
                  have h61 : sat g w29 [Tb s n A, Cl b [.pointer (some ⟨s, 0, none⟩), .map (some m)] 63, Cl r8 [.int .i64 y, .int .u32 z] 79, Cl r4 [.int .i64 x, .int .i64 y, .int .u32 z] 28, Cl c2 [.pointer (some ⟨b, 0, none⟩)] 24, Cl c5 [.int .i64 0] 29, R] := sat_sel [5, 0, 1, 2, 3, 4, 6] rfl h30
                  refine draw_act (i := 5) [] (by kernel_rfl) (by kernel_rfl) ?_
                  refine an_call (d := some 32) (f := 54) (args := [.pointer (some ⟨s, 0, none⟩), .agg #[.int .i64 y, .int .u32 z]]) (by kernel_rfl) Try.call54 (check_stale s n A kk32 x34 hx35 y z (by omega)) (F := [Cl b [.pointer (some ⟨s, 0, none⟩), .map (some m)] 63, Cl r8 [.int .i64 y, .int .u32 z] 79, Cl r4 [.int .i64 x, .int .i64 y, .int .u32 z] 28, Cl c2 [.pointer (some ⟨b, 0, none⟩)] 24, Cl c5 [.int .i64 0] 29, R]) h61 ?_
                  rintro v K w62 (⟨rfl, rfl⟩) h63
                  refine ⟨_, rfl, ?_⟩
                  have h64 : sat g w62 [Tb s n A, Cl b [.pointer (some ⟨s, 0, none⟩), .map (some m)] 63, Cl r8 [.int .i64 y, .int .u32 z] 79, Cl r4 [.int .i64 x, .int .i64 y, .int .u32 z] 28, Cl c2 [.pointer (some ⟨b, 0, none⟩)] 24, Cl c5 [.int .i64 0] 29, R] := h63
                  refine ⟨(AllC_nil _), ?_⟩
                  refine draw_batch (t := Tr.nil) [⟨6, [], none⟩] (l' := ([(8, .int .i64 7), (32, .int .i64 7), (31, .agg #[.int .i64 y, .int .u32 z]), (30, .pointer (some ⟨s, 0, none⟩)), (29, .pointer (some ⟨b, 0, none⟩)), (28, .pointer (some ⟨b, 0, none⟩)), (27, .pointer (some ⟨b, 0, none⟩)), (0, .pointer (some ⟨b, 0, none⟩)), (1, .agg #[.int .i64 x, .int .i64 y, .int .u32 z]), (2, .func (Fn.func 38) #[] #[.pointer (some ⟨c2, 0, none⟩), .pointer (some ⟨c5, 0, none⟩)]), (4, .pointer (some ⟨r4, 0, none⟩)), (6, .int .i64 0), (7, .pointer (some ⟨r8, 0, none⟩)), (14, .bool false), (18, .bool false)] : Fr) ++ lr28) (pts' := []) (eqs := []) (by kernel_rfl) trivial (AllC_nil _) ?_
                  change WP _ _ (CA Try.f36 [1, 1, 1, 0, 1]) _ _ _
                  refine fk_cut ([(0, .pointer (some ⟨b, 0, none⟩)), (1, .agg #[.int .i64 x, .int .i64 y, .int .u32 z]), (2, .func (Fn.func 38) #[] #[.pointer (some ⟨c2, 0, none⟩), .pointer (some ⟨c5, 0, none⟩)]), (4, .pointer (some ⟨r4, 0, none⟩)), (6, .int .i64 0), (7, .pointer (some ⟨r8, 0, none⟩)), (8, .int .i64 7), (14, .bool false), (18, .bool false)] : Fr) (by kernel_rfl) (fun a => WP _ _ _ _ a _) (fun lr65 => ?_)
                  refine gi_seq (x := CA Try.f36 [1, 1, 1, 0, 1, 0]) (y := CA Try.f36 [1, 1, 1, 0, 1, 1]) (by kernel_rfl) ?_
                  refine gi_pln (id := 7) (ops := RA Try.f36 [1, 1, 1, 0, 1, 0]) [0, 1] (by kernel_rfl) (by kernel_rfl) (by kernel_rfl) ?_
                  refine plain_batch (rest := []) [⟨0, [], none⟩, ⟨1, [], none⟩] (l' := ([(34, .bool true), (33, .int .i64 7), (0, .pointer (some ⟨b, 0, none⟩)), (1, .agg #[.int .i64 x, .int .i64 y, .int .u32 z]), (2, .func (Fn.func 38) #[] #[.pointer (some ⟨c2, 0, none⟩), .pointer (some ⟨c5, 0, none⟩)]), (4, .pointer (some ⟨r4, 0, none⟩)), (6, .int .i64 0), (7, .pointer (some ⟨r8, 0, none⟩)), (8, .int .i64 7), (14, .bool false), (18, .bool false)] : Fr) ++ lr65) (pts' := []) (eqs := []) (by kernel_rfl) trivial (AllC_nil _) ?_
                  refine PO.mk ?_
                  change WP _ _ (CA Try.f36 [1, 1, 1, 0, 1, 1]) _ _ _
                  refine fk_cut ([(0, .pointer (some ⟨b, 0, none⟩)), (1, .agg #[.int .i64 x, .int .i64 y, .int .u32 z]), (2, .func (Fn.func 38) #[] #[.pointer (some ⟨c2, 0, none⟩), .pointer (some ⟨c5, 0, none⟩)]), (4, .pointer (some ⟨r4, 0, none⟩)), (6, .int .i64 0), (7, .pointer (some ⟨r8, 0, none⟩)), (8, .int .i64 7), (14, .bool false), (18, .bool false), (34, .bool true)] : Fr) (by kernel_rfl) (fun a => WP _ _ _ _ a _) (fun lr66 => ?_)
                  refine gi_cnd (x := (Operand.tmp 34)) (s := CA Try.f36 [1, 1, 1, 0, 1, 1, 0]) (t := CA Try.f36 [1, 1, 1, 0, 1, 1, 1]) true (by kernel_rfl) (by kernel_rfl) ?_
                  change WP _ _ (CA Try.f36 [1, 1, 1, 0, 1, 1, 0]) _ _ _
                  refine gi_seq (x := CA Try.f36 [1, 1, 1, 0, 1, 1, 0, 0]) (y := CA Try.f36 [1, 1, 1, 0, 1, 1, 0, 1]) (by kernel_rfl) ?_
                  refine gi_pln (id := 8) (ops := RA Try.f36 [1, 1, 1, 0, 1, 1, 0, 0]) [0, 1] (by kernel_rfl) (by kernel_rfl) (by kernel_rfl) ?_
                  refine plain_batch (rest := []) [⟨0, [], none⟩, ⟨1, [], none⟩] (l' := ([(6, .int .i64 7), (35, .int .i64 7), (0, .pointer (some ⟨b, 0, none⟩)), (1, .agg #[.int .i64 x, .int .i64 y, .int .u32 z]), (2, .func (Fn.func 38) #[] #[.pointer (some ⟨c2, 0, none⟩), .pointer (some ⟨c5, 0, none⟩)]), (4, .pointer (some ⟨r4, 0, none⟩)), (6, .int .i64 0), (7, .pointer (some ⟨r8, 0, none⟩)), (8, .int .i64 7), (14, .bool false), (18, .bool false), (34, .bool true)] : Fr) ++ lr66) (pts' := []) (eqs := []) (by kernel_rfl) trivial (AllC_nil _) ?_
                  refine PO.mk ?_
                  change WP _ _ (CA Try.f36 [1, 1, 1, 0, 1, 1, 0, 1]) _ _ _
                  refine fk_cut ([(0, .pointer (some ⟨b, 0, none⟩)), (1, .agg #[.int .i64 x, .int .i64 y, .int .u32 z]), (2, .func (Fn.func 38) #[] #[.pointer (some ⟨c2, 0, none⟩), .pointer (some ⟨c5, 0, none⟩)]), (4, .pointer (some ⟨r4, 0, none⟩)), (6, .int .i64 7), (7, .pointer (some ⟨r8, 0, none⟩)), (8, .int .i64 7), (14, .bool false), (18, .bool false), (34, .bool true)] : Fr) (by kernel_rfl) (fun a => WP _ _ _ _ a _) (fun lr67 => ?_)
                  refine gi_rt (by kernel_rfl) ?_
                  repeat (first | simp only [Exit.inBlock] | simp only [Exit.then])
                  have he_ : errA A (x, y, z) = 7 := chk_stale A (by omega) (by omega) (by omega) (by omega) hx35 (by omega)
                  have hc_ : clsA A (x, y, z) = A := cls_no he_ (by decide)
                  have h68 : sat g w62 [Cl c2 [.pointer (some ⟨b, 0, none⟩)] 24, Cl c5 [.int .i64 0] 29, Cl b [.pointer (some ⟨s, 0, none⟩), .map (some m)] 63, Tb s n A, Cl r8 [.int .i64 y, .int .u32 z] 79, Cl r4 [.int .i64 x, .int .i64 y, .int .u32 z] 28, R] := sat_sel [4, 5, 1, 0, 2, 3, 6] rfl h64
                  have h69 : sat g w62 [Cl c2 [.pointer (some ⟨b, 0, none⟩)] 24, Cl c5 [.int .i64 0] 29, Cl b [.pointer (some ⟨s, 0, none⟩), .map (some m)] 63, Tb s n A, R] := sat_sel [0, 1, 2, 3, 6] rfl h68
                  refine hi_out [] (.int .i64 7) [] (by kernel_rfl) (by intro q hq; cases hq) ?_
                  exact ⟨.int .i64 7, [Cl c2 [.pointer (some ⟨b, 0, none⟩)] 24, Cl c5 [.int .i64 0] 29, Cl b [.pointer (some ⟨s, 0, none⟩), .map (some m)] 63, Tb s n A], rfl, ⟨by rw [he_], by rw [hc_]⟩, h69⟩
              ·
                have h70 : sat g w29 [Tb s n A, Cl b [.pointer (some ⟨s, 0, none⟩), .map (some m)] 63, Cl r8 [.int .i64 y, .int .u32 z] 79, Cl r4 [.int .i64 x, .int .i64 y, .int .u32 z] 28, Cl c2 [.pointer (some ⟨b, 0, none⟩)] 24, Cl c5 [.int .i64 0] 29, R] := sat_sel [5, 0, 1, 2, 3, 4, 6] rfl h30
                refine draw_act (i := 5) [] (by kernel_rfl) (by kernel_rfl) ?_
                refine an_call (d := some 32) (f := 54) (args := [.pointer (some ⟨s, 0, none⟩), .agg #[.int .i64 y, .int .u32 z]]) (by kernel_rfl) Try.call54 (check_range s n A y z (by omega)) (F := [Cl b [.pointer (some ⟨s, 0, none⟩), .map (some m)] 63, Cl r8 [.int .i64 y, .int .u32 z] 79, Cl r4 [.int .i64 x, .int .i64 y, .int .u32 z] 28, Cl c2 [.pointer (some ⟨b, 0, none⟩)] 24, Cl c5 [.int .i64 0] 29, R]) h70 ?_
                rintro v K w71 (⟨rfl, rfl⟩) h72
                refine ⟨_, rfl, ?_⟩
                have h73 : sat g w71 [Tb s n A, Cl b [.pointer (some ⟨s, 0, none⟩), .map (some m)] 63, Cl r8 [.int .i64 y, .int .u32 z] 79, Cl r4 [.int .i64 x, .int .i64 y, .int .u32 z] 28, Cl c2 [.pointer (some ⟨b, 0, none⟩)] 24, Cl c5 [.int .i64 0] 29, R] := h72
                refine ⟨(AllC_nil _), ?_⟩
                refine draw_batch (t := Tr.nil) [⟨6, [], none⟩] (l' := ([(8, .int .i64 3), (32, .int .i64 3), (31, .agg #[.int .i64 y, .int .u32 z]), (30, .pointer (some ⟨s, 0, none⟩)), (29, .pointer (some ⟨b, 0, none⟩)), (28, .pointer (some ⟨b, 0, none⟩)), (27, .pointer (some ⟨b, 0, none⟩)), (0, .pointer (some ⟨b, 0, none⟩)), (1, .agg #[.int .i64 x, .int .i64 y, .int .u32 z]), (2, .func (Fn.func 38) #[] #[.pointer (some ⟨c2, 0, none⟩), .pointer (some ⟨c5, 0, none⟩)]), (4, .pointer (some ⟨r4, 0, none⟩)), (6, .int .i64 0), (7, .pointer (some ⟨r8, 0, none⟩)), (14, .bool false), (18, .bool false)] : Fr) ++ lr28) (pts' := []) (eqs := []) (by kernel_rfl) trivial (AllC_nil _) ?_
                change WP _ _ (CA Try.f36 [1, 1, 1, 0, 1]) _ _ _
                refine fk_cut ([(0, .pointer (some ⟨b, 0, none⟩)), (1, .agg #[.int .i64 x, .int .i64 y, .int .u32 z]), (2, .func (Fn.func 38) #[] #[.pointer (some ⟨c2, 0, none⟩), .pointer (some ⟨c5, 0, none⟩)]), (4, .pointer (some ⟨r4, 0, none⟩)), (6, .int .i64 0), (7, .pointer (some ⟨r8, 0, none⟩)), (8, .int .i64 3), (14, .bool false), (18, .bool false)] : Fr) (by kernel_rfl) (fun a => WP _ _ _ _ a _) (fun lr74 => ?_)
                refine gi_seq (x := CA Try.f36 [1, 1, 1, 0, 1, 0]) (y := CA Try.f36 [1, 1, 1, 0, 1, 1]) (by kernel_rfl) ?_
                refine gi_pln (id := 7) (ops := RA Try.f36 [1, 1, 1, 0, 1, 0]) [0, 1] (by kernel_rfl) (by kernel_rfl) (by kernel_rfl) ?_
                refine plain_batch (rest := []) [⟨0, [], none⟩, ⟨1, [], none⟩] (l' := ([(34, .bool true), (33, .int .i64 3), (0, .pointer (some ⟨b, 0, none⟩)), (1, .agg #[.int .i64 x, .int .i64 y, .int .u32 z]), (2, .func (Fn.func 38) #[] #[.pointer (some ⟨c2, 0, none⟩), .pointer (some ⟨c5, 0, none⟩)]), (4, .pointer (some ⟨r4, 0, none⟩)), (6, .int .i64 0), (7, .pointer (some ⟨r8, 0, none⟩)), (8, .int .i64 3), (14, .bool false), (18, .bool false)] : Fr) ++ lr74) (pts' := []) (eqs := []) (by kernel_rfl) trivial (AllC_nil _) ?_
                refine PO.mk ?_
                change WP _ _ (CA Try.f36 [1, 1, 1, 0, 1, 1]) _ _ _
                refine fk_cut ([(0, .pointer (some ⟨b, 0, none⟩)), (1, .agg #[.int .i64 x, .int .i64 y, .int .u32 z]), (2, .func (Fn.func 38) #[] #[.pointer (some ⟨c2, 0, none⟩), .pointer (some ⟨c5, 0, none⟩)]), (4, .pointer (some ⟨r4, 0, none⟩)), (6, .int .i64 0), (7, .pointer (some ⟨r8, 0, none⟩)), (8, .int .i64 3), (14, .bool false), (18, .bool false), (34, .bool true)] : Fr) (by kernel_rfl) (fun a => WP _ _ _ _ a _) (fun lr75 => ?_)
                refine gi_cnd (x := (Operand.tmp 34)) (s := CA Try.f36 [1, 1, 1, 0, 1, 1, 0]) (t := CA Try.f36 [1, 1, 1, 0, 1, 1, 1]) true (by kernel_rfl) (by kernel_rfl) ?_
                change WP _ _ (CA Try.f36 [1, 1, 1, 0, 1, 1, 0]) _ _ _
                refine gi_seq (x := CA Try.f36 [1, 1, 1, 0, 1, 1, 0, 0]) (y := CA Try.f36 [1, 1, 1, 0, 1, 1, 0, 1]) (by kernel_rfl) ?_
                refine gi_pln (id := 8) (ops := RA Try.f36 [1, 1, 1, 0, 1, 1, 0, 0]) [0, 1] (by kernel_rfl) (by kernel_rfl) (by kernel_rfl) ?_
                refine plain_batch (rest := []) [⟨0, [], none⟩, ⟨1, [], none⟩] (l' := ([(6, .int .i64 3), (35, .int .i64 3), (0, .pointer (some ⟨b, 0, none⟩)), (1, .agg #[.int .i64 x, .int .i64 y, .int .u32 z]), (2, .func (Fn.func 38) #[] #[.pointer (some ⟨c2, 0, none⟩), .pointer (some ⟨c5, 0, none⟩)]), (4, .pointer (some ⟨r4, 0, none⟩)), (6, .int .i64 0), (7, .pointer (some ⟨r8, 0, none⟩)), (8, .int .i64 3), (14, .bool false), (18, .bool false), (34, .bool true)] : Fr) ++ lr75) (pts' := []) (eqs := []) (by kernel_rfl) trivial (AllC_nil _) ?_
                refine PO.mk ?_
                change WP _ _ (CA Try.f36 [1, 1, 1, 0, 1, 1, 0, 1]) _ _ _
                refine fk_cut ([(0, .pointer (some ⟨b, 0, none⟩)), (1, .agg #[.int .i64 x, .int .i64 y, .int .u32 z]), (2, .func (Fn.func 38) #[] #[.pointer (some ⟨c2, 0, none⟩), .pointer (some ⟨c5, 0, none⟩)]), (4, .pointer (some ⟨r4, 0, none⟩)), (6, .int .i64 3), (7, .pointer (some ⟨r8, 0, none⟩)), (8, .int .i64 3), (14, .bool false), (18, .bool false), (34, .bool true)] : Fr) (by kernel_rfl) (fun a => WP _ _ _ _ a _) (fun lr76 => ?_)
                refine gi_rt (by kernel_rfl) ?_
                repeat (first | simp only [Exit.inBlock] | simp only [Exit.then])
                have he_ : errA A (x, y, z) = 3 := chk_range A hAl_ (by omega) (by omega) (by omega) (by omega) (by omega)
                have hc_ : clsA A (x, y, z) = A := cls_no he_ (by decide)
                have h77 : sat g w71 [Cl c2 [.pointer (some ⟨b, 0, none⟩)] 24, Cl c5 [.int .i64 0] 29, Cl b [.pointer (some ⟨s, 0, none⟩), .map (some m)] 63, Tb s n A, Cl r8 [.int .i64 y, .int .u32 z] 79, Cl r4 [.int .i64 x, .int .i64 y, .int .u32 z] 28, R] := sat_sel [4, 5, 1, 0, 2, 3, 6] rfl h73
                have h78 : sat g w71 [Cl c2 [.pointer (some ⟨b, 0, none⟩)] 24, Cl c5 [.int .i64 0] 29, Cl b [.pointer (some ⟨s, 0, none⟩), .map (some m)] 63, Tb s n A, R] := sat_sel [0, 1, 2, 3, 6] rfl h77
                refine hi_out [] (.int .i64 3) [] (by kernel_rfl) (by intro q hq; cases hq) ?_
                exact ⟨.int .i64 3, [Cl c2 [.pointer (some ⟨b, 0, none⟩)] 24, Cl c5 [.int .i64 0] 29, Cl b [.pointer (some ⟨s, 0, none⟩), .map (some m)] 63, Tb s n A], rfl, ⟨by rw [he_], by rw [hc_]⟩, h78⟩
            ·
              refine plain_batch (rest := []) [⟨6, [], some (.bool true)⟩, ⟨7, [], none⟩, ⟨8, [], none⟩] (l' := ([(18, .bool true), (26, .bool true), (25, .bool true), (24, .int .i64 x), (23, .pointer (some ⟨r4, 0, none⟩)), (22, .bool false), (21, .bool false), (20, .int .i64 0), (19, .agg #[.int .i64 x, .int .i64 y, .int .u32 z]), (0, .pointer (some ⟨b, 0, none⟩)), (1, .agg #[.int .i64 x, .int .i64 y, .int .u32 z]), (2, .func (Fn.func 38) #[] #[.pointer (some ⟨c2, 0, none⟩), .pointer (some ⟨c5, 0, none⟩)]), (4, .pointer (some ⟨r4, 0, none⟩)), (6, .int .i64 0), (7, .pointer (some ⟨r8, 0, none⟩)), (14, .bool false)] : Fr) ++ lr18) (pts' := []) (eqs := [(.bool (x != 1), .bool true)]) (by kernel_rfl) ⟨(ov_nt (by omega)), trivial⟩ (AllC_nil _) ?_
              refine PO.mk ?_
              change WP _ _ (CA Try.f36 [1, 1, 0, 0, 1, 1, 1]) _ _ _
              refine fk_cut ([(0, .pointer (some ⟨b, 0, none⟩)), (1, .agg #[.int .i64 x, .int .i64 y, .int .u32 z]), (2, .func (Fn.func 38) #[] #[.pointer (some ⟨c2, 0, none⟩), .pointer (some ⟨c5, 0, none⟩)]), (4, .pointer (some ⟨r4, 0, none⟩)), (6, .int .i64 0), (7, .pointer (some ⟨r8, 0, none⟩)), (14, .bool false), (18, .bool true)] : Fr) (by kernel_rfl) (fun a => WP _ _ _ _ a _) (fun lr79 => ?_)
              refine gi_cnd (x := (Operand.tmp 18)) (s := CA Try.f36 [1, 1, 0, 0, 1, 1, 1, 0]) (t := CA Try.f36 [1, 1, 0, 0, 1, 1, 1, 1]) true (by kernel_rfl) (by kernel_rfl) ?_
              change WP _ _ (CA Try.f36 [1, 1, 0, 0, 1, 1, 1, 0]) _ _ _
              refine gi_seq (x := CA Try.f36 [1, 1, 0, 0, 1, 1, 1, 0, 0]) (y := CA Try.f36 [1, 1, 0, 0, 1, 1, 1, 0, 1]) (by kernel_rfl) ?_
              refine gi_pln (id := 5) (ops := RA Try.f36 [1, 1, 0, 0, 1, 1, 1, 0, 0]) [0] (by kernel_rfl) (by kernel_rfl) (by kernel_rfl) ?_
              refine plain_batch (rest := []) [⟨0, [], none⟩] (l' := ([(6, .int .i64 2), (0, .pointer (some ⟨b, 0, none⟩)), (1, .agg #[.int .i64 x, .int .i64 y, .int .u32 z]), (2, .func (Fn.func 38) #[] #[.pointer (some ⟨c2, 0, none⟩), .pointer (some ⟨c5, 0, none⟩)]), (4, .pointer (some ⟨r4, 0, none⟩)), (6, .int .i64 0), (7, .pointer (some ⟨r8, 0, none⟩)), (14, .bool false), (18, .bool true)] : Fr) ++ lr79) (pts' := []) (eqs := []) (by kernel_rfl) trivial (AllC_nil _) ?_
              refine PO.mk ?_
              change WP _ _ (CA Try.f36 [1, 1, 0, 0, 1, 1, 1, 0, 1]) _ _ _
              refine fk_cut ([(0, .pointer (some ⟨b, 0, none⟩)), (1, .agg #[.int .i64 x, .int .i64 y, .int .u32 z]), (2, .func (Fn.func 38) #[] #[.pointer (some ⟨c2, 0, none⟩), .pointer (some ⟨c5, 0, none⟩)]), (4, .pointer (some ⟨r4, 0, none⟩)), (6, .int .i64 2), (7, .pointer (some ⟨r8, 0, none⟩)), (14, .bool false), (18, .bool true)] : Fr) (by kernel_rfl) (fun a => WP _ _ _ _ a _) (fun lr80 => ?_)
              refine gi_rt (by kernel_rfl) ?_
              repeat (first | simp only [Exit.inBlock] | simp only [Exit.then])
              have he_ : errA A (x, y, z) = 2 := chk_arg A (by omega)
              have hc_ : clsA A (x, y, z) = A := cls_no he_ (by decide)
              have h81 : sat g w24 [Cl c2 [.pointer (some ⟨b, 0, none⟩)] 24, Cl c5 [.int .i64 0] 29, Cl b [.pointer (some ⟨s, 0, none⟩), .map (some m)] 63, Tb s n A, Cl r8 [.int .i64 y, .int .u32 z] 79, Cl r4 [.int .i64 x, .int .i64 y, .int .u32 z] 28, R] := sat_sel [3, 4, 0, 5, 1, 2, 6] rfl h26
              have h82 : sat g w24 [Cl c2 [.pointer (some ⟨b, 0, none⟩)] 24, Cl c5 [.int .i64 0] 29, Cl b [.pointer (some ⟨s, 0, none⟩), .map (some m)] 63, Tb s n A, R] := sat_sel [0, 1, 2, 3, 6] rfl h81
              refine hi_out [] (.int .i64 2) [] (by kernel_rfl) (by intro q hq; cases hq) ?_
              exact ⟨.int .i64 2, [Cl c2 [.pointer (some ⟨b, 0, none⟩)] 24, Cl c5 [.int .i64 0] 29, Cl b [.pointer (some ⟨s, 0, none⟩), .map (some m)] 63, Tb s n A], rfl, ⟨by rw [he_], by rw [hc_]⟩, h82⟩
          ·
            refine plain_act (i := 1) (by kernel_rfl) ?_
            refine an_call (d := some 20) (f := 53) (args := [.agg #[.int .i64 x, .int .i64 y, .int .u32 z]]) (by kernel_rfl) Try.call53 (couter_no x y z (by omega) (by omega) (by omega)) (F := [Cl b [.pointer (some ⟨s, 0, none⟩), .map (some m)] 63, Cl r8 [.int .i64 y, .int .u32 z] 79, Cl r4 [.int .i64 x, .int .i64 y, .int .u32 z] 28, Cl c2 [.pointer (some ⟨b, 0, none⟩)] 24, Cl c5 [.int .i64 0] 29, Tb s n A, R]) h17 ?_
            rintro v K w83 (⟨rfl, rfl⟩) h84
            refine ⟨_, rfl, ?_⟩
            have h85 : sat g w83 [Cl b [.pointer (some ⟨s, 0, none⟩), .map (some m)] 63, Cl r8 [.int .i64 y, .int .u32 z] 79, Cl r4 [.int .i64 x, .int .i64 y, .int .u32 z] 28, Cl c2 [.pointer (some ⟨b, 0, none⟩)] 24, Cl c5 [.int .i64 0] 29, Tb s n A, R] := h84
            refine plain_batch (rest := []) [⟨2, [], none⟩, ⟨3, [], none⟩, ⟨4, [], none⟩, ⟨5, [], none⟩, ⟨6, [], none⟩, ⟨7, [], none⟩, ⟨8, [], none⟩] (l' := ([(18, .bool true), (26, .bool true), (25, undef), (24, undef), (23, undef), (22, .bool true), (21, .bool true), (20, .int .i64 2), (19, .agg #[.int .i64 x, .int .i64 y, .int .u32 z]), (0, .pointer (some ⟨b, 0, none⟩)), (1, .agg #[.int .i64 x, .int .i64 y, .int .u32 z]), (2, .func (Fn.func 38) #[] #[.pointer (some ⟨c2, 0, none⟩), .pointer (some ⟨c5, 0, none⟩)]), (4, .pointer (some ⟨r4, 0, none⟩)), (6, .int .i64 0), (7, .pointer (some ⟨r8, 0, none⟩)), (14, .bool false)] : Fr) ++ lr18) (pts' := []) (eqs := []) (by kernel_rfl) trivial (AllC_nil _) ?_
            refine PO.mk ?_
            change WP _ _ (CA Try.f36 [1, 1, 0, 0, 1, 1, 1]) _ _ _
            refine fk_cut ([(0, .pointer (some ⟨b, 0, none⟩)), (1, .agg #[.int .i64 x, .int .i64 y, .int .u32 z]), (2, .func (Fn.func 38) #[] #[.pointer (some ⟨c2, 0, none⟩), .pointer (some ⟨c5, 0, none⟩)]), (4, .pointer (some ⟨r4, 0, none⟩)), (6, .int .i64 0), (7, .pointer (some ⟨r8, 0, none⟩)), (14, .bool false), (18, .bool true)] : Fr) (by kernel_rfl) (fun a => WP _ _ _ _ a _) (fun lr86 => ?_)
            refine gi_cnd (x := (Operand.tmp 18)) (s := CA Try.f36 [1, 1, 0, 0, 1, 1, 1, 0]) (t := CA Try.f36 [1, 1, 0, 0, 1, 1, 1, 1]) true (by kernel_rfl) (by kernel_rfl) ?_
            change WP _ _ (CA Try.f36 [1, 1, 0, 0, 1, 1, 1, 0]) _ _ _
            refine gi_seq (x := CA Try.f36 [1, 1, 0, 0, 1, 1, 1, 0, 0]) (y := CA Try.f36 [1, 1, 0, 0, 1, 1, 1, 0, 1]) (by kernel_rfl) ?_
            refine gi_pln (id := 5) (ops := RA Try.f36 [1, 1, 0, 0, 1, 1, 1, 0, 0]) [0] (by kernel_rfl) (by kernel_rfl) (by kernel_rfl) ?_
            refine plain_batch (rest := []) [⟨0, [], none⟩] (l' := ([(6, .int .i64 2), (0, .pointer (some ⟨b, 0, none⟩)), (1, .agg #[.int .i64 x, .int .i64 y, .int .u32 z]), (2, .func (Fn.func 38) #[] #[.pointer (some ⟨c2, 0, none⟩), .pointer (some ⟨c5, 0, none⟩)]), (4, .pointer (some ⟨r4, 0, none⟩)), (6, .int .i64 0), (7, .pointer (some ⟨r8, 0, none⟩)), (14, .bool false), (18, .bool true)] : Fr) ++ lr86) (pts' := []) (eqs := []) (by kernel_rfl) trivial (AllC_nil _) ?_
            refine PO.mk ?_
            change WP _ _ (CA Try.f36 [1, 1, 0, 0, 1, 1, 1, 0, 1]) _ _ _
            refine fk_cut ([(0, .pointer (some ⟨b, 0, none⟩)), (1, .agg #[.int .i64 x, .int .i64 y, .int .u32 z]), (2, .func (Fn.func 38) #[] #[.pointer (some ⟨c2, 0, none⟩), .pointer (some ⟨c5, 0, none⟩)]), (4, .pointer (some ⟨r4, 0, none⟩)), (6, .int .i64 2), (7, .pointer (some ⟨r8, 0, none⟩)), (14, .bool false), (18, .bool true)] : Fr) (by kernel_rfl) (fun a => WP _ _ _ _ a _) (fun lr87 => ?_)
            refine gi_rt (by kernel_rfl) ?_
            repeat (first | simp only [Exit.inBlock] | simp only [Exit.then])
            have he_ : errA A (x, y, z) = 2 := chk_arg A (by omega)
            have hc_ : clsA A (x, y, z) = A := cls_no he_ (by decide)
            have h88 : sat g w83 [Cl c2 [.pointer (some ⟨b, 0, none⟩)] 24, Cl c5 [.int .i64 0] 29, Cl b [.pointer (some ⟨s, 0, none⟩), .map (some m)] 63, Tb s n A, Cl r8 [.int .i64 y, .int .u32 z] 79, Cl r4 [.int .i64 x, .int .i64 y, .int .u32 z] 28, R] := sat_sel [3, 4, 0, 5, 1, 2, 6] rfl h85
            have h89 : sat g w83 [Cl c2 [.pointer (some ⟨b, 0, none⟩)] 24, Cl c5 [.int .i64 0] 29, Cl b [.pointer (some ⟨s, 0, none⟩), .map (some m)] 63, Tb s n A, R] := sat_sel [0, 1, 2, 3, 6] rfl h88
            refine hi_out [] (.int .i64 2) [] (by kernel_rfl) (by intro q hq; cases hq) ?_
            exact ⟨.int .i64 2, [Cl c2 [.pointer (some ⟨b, 0, none⟩)] 24, Cl c5 [.int .i64 0] 29, Cl b [.pointer (some ⟨s, 0, none⟩), .map (some m)] 63, Tb s n A], rfl, ⟨by rw [he_], by rw [hc_]⟩, h89⟩
        ·
          refine plain_act (i := 1) (by kernel_rfl) ?_
          refine an_call (d := some 20) (f := 53) (args := [.agg #[.int .i64 x, .int .i64 y, .int .u32 z]]) (by kernel_rfl) Try.call53 (couter_no x y z (by omega) (by omega) (by omega)) (F := [Cl b [.pointer (some ⟨s, 0, none⟩), .map (some m)] 63, Cl r8 [.int .i64 y, .int .u32 z] 79, Cl r4 [.int .i64 x, .int .i64 y, .int .u32 z] 28, Cl c2 [.pointer (some ⟨b, 0, none⟩)] 24, Cl c5 [.int .i64 0] 29, Tb s n A, R]) h17 ?_
          rintro v K w90 (⟨rfl, rfl⟩) h91
          refine ⟨_, rfl, ?_⟩
          have h92 : sat g w90 [Cl b [.pointer (some ⟨s, 0, none⟩), .map (some m)] 63, Cl r8 [.int .i64 y, .int .u32 z] 79, Cl r4 [.int .i64 x, .int .i64 y, .int .u32 z] 28, Cl c2 [.pointer (some ⟨b, 0, none⟩)] 24, Cl c5 [.int .i64 0] 29, Tb s n A, R] := h91
          refine plain_batch (rest := []) [⟨2, [], none⟩, ⟨3, [], none⟩, ⟨4, [], none⟩, ⟨5, [], none⟩, ⟨6, [], none⟩, ⟨7, [], none⟩, ⟨8, [], none⟩] (l' := ([(18, .bool true), (26, .bool true), (25, undef), (24, undef), (23, undef), (22, .bool true), (21, .bool true), (20, .int .i64 2), (19, .agg #[.int .i64 x, .int .i64 y, .int .u32 z]), (0, .pointer (some ⟨b, 0, none⟩)), (1, .agg #[.int .i64 x, .int .i64 y, .int .u32 z]), (2, .func (Fn.func 38) #[] #[.pointer (some ⟨c2, 0, none⟩), .pointer (some ⟨c5, 0, none⟩)]), (4, .pointer (some ⟨r4, 0, none⟩)), (6, .int .i64 0), (7, .pointer (some ⟨r8, 0, none⟩)), (14, .bool false)] : Fr) ++ lr18) (pts' := []) (eqs := []) (by kernel_rfl) trivial (AllC_nil _) ?_
          refine PO.mk ?_
          change WP _ _ (CA Try.f36 [1, 1, 0, 0, 1, 1, 1]) _ _ _
          refine fk_cut ([(0, .pointer (some ⟨b, 0, none⟩)), (1, .agg #[.int .i64 x, .int .i64 y, .int .u32 z]), (2, .func (Fn.func 38) #[] #[.pointer (some ⟨c2, 0, none⟩), .pointer (some ⟨c5, 0, none⟩)]), (4, .pointer (some ⟨r4, 0, none⟩)), (6, .int .i64 0), (7, .pointer (some ⟨r8, 0, none⟩)), (14, .bool false), (18, .bool true)] : Fr) (by kernel_rfl) (fun a => WP _ _ _ _ a _) (fun lr93 => ?_)
          refine gi_cnd (x := (Operand.tmp 18)) (s := CA Try.f36 [1, 1, 0, 0, 1, 1, 1, 0]) (t := CA Try.f36 [1, 1, 0, 0, 1, 1, 1, 1]) true (by kernel_rfl) (by kernel_rfl) ?_
          change WP _ _ (CA Try.f36 [1, 1, 0, 0, 1, 1, 1, 0]) _ _ _
          refine gi_seq (x := CA Try.f36 [1, 1, 0, 0, 1, 1, 1, 0, 0]) (y := CA Try.f36 [1, 1, 0, 0, 1, 1, 1, 0, 1]) (by kernel_rfl) ?_
          refine gi_pln (id := 5) (ops := RA Try.f36 [1, 1, 0, 0, 1, 1, 1, 0, 0]) [0] (by kernel_rfl) (by kernel_rfl) (by kernel_rfl) ?_
          refine plain_batch (rest := []) [⟨0, [], none⟩] (l' := ([(6, .int .i64 2), (0, .pointer (some ⟨b, 0, none⟩)), (1, .agg #[.int .i64 x, .int .i64 y, .int .u32 z]), (2, .func (Fn.func 38) #[] #[.pointer (some ⟨c2, 0, none⟩), .pointer (some ⟨c5, 0, none⟩)]), (4, .pointer (some ⟨r4, 0, none⟩)), (6, .int .i64 0), (7, .pointer (some ⟨r8, 0, none⟩)), (14, .bool false), (18, .bool true)] : Fr) ++ lr93) (pts' := []) (eqs := []) (by kernel_rfl) trivial (AllC_nil _) ?_
          refine PO.mk ?_
          change WP _ _ (CA Try.f36 [1, 1, 0, 0, 1, 1, 1, 0, 1]) _ _ _
          refine fk_cut ([(0, .pointer (some ⟨b, 0, none⟩)), (1, .agg #[.int .i64 x, .int .i64 y, .int .u32 z]), (2, .func (Fn.func 38) #[] #[.pointer (some ⟨c2, 0, none⟩), .pointer (some ⟨c5, 0, none⟩)]), (4, .pointer (some ⟨r4, 0, none⟩)), (6, .int .i64 2), (7, .pointer (some ⟨r8, 0, none⟩)), (14, .bool false), (18, .bool true)] : Fr) (by kernel_rfl) (fun a => WP _ _ _ _ a _) (fun lr94 => ?_)
          refine gi_rt (by kernel_rfl) ?_
          repeat (first | simp only [Exit.inBlock] | simp only [Exit.then])
          have he_ : errA A (x, y, z) = 2 := chk_arg A (by omega)
          have hc_ : clsA A (x, y, z) = A := cls_no he_ (by decide)
          have h95 : sat g w90 [Cl c2 [.pointer (some ⟨b, 0, none⟩)] 24, Cl c5 [.int .i64 0] 29, Cl b [.pointer (some ⟨s, 0, none⟩), .map (some m)] 63, Tb s n A, Cl r8 [.int .i64 y, .int .u32 z] 79, Cl r4 [.int .i64 x, .int .i64 y, .int .u32 z] 28, R] := sat_sel [3, 4, 0, 5, 1, 2, 6] rfl h92
          have h96 : sat g w90 [Cl c2 [.pointer (some ⟨b, 0, none⟩)] 24, Cl c5 [.int .i64 0] 29, Cl b [.pointer (some ⟨s, 0, none⟩), .map (some m)] 63, Tb s n A, R] := sat_sel [0, 1, 2, 3, 6] rfl h95
          refine hi_out [] (.int .i64 2) [] (by kernel_rfl) (by intro q hq; cases hq) ?_
          exact ⟨.int .i64 2, [Cl c2 [.pointer (some ⟨b, 0, none⟩)] 24, Cl c5 [.int .i64 0] 29, Cl b [.pointer (some ⟨s, 0, none⟩), .map (some m)] 63, Tb s n A], rfl, ⟨by rw [he_], by rw [hc_]⟩, h96⟩
      ·
        refine plain_act (i := 1) (by kernel_rfl) ?_
        refine an_call (d := some 20) (f := 53) (args := [.agg #[.int .i64 x, .int .i64 y, .int .u32 z]]) (by kernel_rfl) Try.call53 (couter_no x y z (by omega) (by omega) (by omega)) (F := [Cl b [.pointer (some ⟨s, 0, none⟩), .map (some m)] 63, Cl r8 [.int .i64 y, .int .u32 z] 79, Cl r4 [.int .i64 x, .int .i64 y, .int .u32 z] 28, Cl c2 [.pointer (some ⟨b, 0, none⟩)] 24, Cl c5 [.int .i64 0] 29, Tb s n A, R]) h17 ?_
        rintro v K w97 (⟨rfl, rfl⟩) h98
        refine ⟨_, rfl, ?_⟩
        have h99 : sat g w97 [Cl b [.pointer (some ⟨s, 0, none⟩), .map (some m)] 63, Cl r8 [.int .i64 y, .int .u32 z] 79, Cl r4 [.int .i64 x, .int .i64 y, .int .u32 z] 28, Cl c2 [.pointer (some ⟨b, 0, none⟩)] 24, Cl c5 [.int .i64 0] 29, Tb s n A, R] := h98
        refine plain_batch (rest := []) [⟨2, [], none⟩, ⟨3, [], none⟩, ⟨4, [], none⟩, ⟨5, [], none⟩, ⟨6, [], none⟩, ⟨7, [], none⟩, ⟨8, [], none⟩] (l' := ([(18, .bool true), (26, .bool true), (25, undef), (24, undef), (23, undef), (22, .bool true), (21, .bool true), (20, .int .i64 2), (19, .agg #[.int .i64 x, .int .i64 y, .int .u32 z]), (0, .pointer (some ⟨b, 0, none⟩)), (1, .agg #[.int .i64 x, .int .i64 y, .int .u32 z]), (2, .func (Fn.func 38) #[] #[.pointer (some ⟨c2, 0, none⟩), .pointer (some ⟨c5, 0, none⟩)]), (4, .pointer (some ⟨r4, 0, none⟩)), (6, .int .i64 0), (7, .pointer (some ⟨r8, 0, none⟩)), (14, .bool false)] : Fr) ++ lr18) (pts' := []) (eqs := []) (by kernel_rfl) trivial (AllC_nil _) ?_
        refine PO.mk ?_
        change WP _ _ (CA Try.f36 [1, 1, 0, 0, 1, 1, 1]) _ _ _
        refine fk_cut ([(0, .pointer (some ⟨b, 0, none⟩)), (1, .agg #[.int .i64 x, .int .i64 y, .int .u32 z]), (2, .func (Fn.func 38) #[] #[.pointer (some ⟨c2, 0, none⟩), .pointer (some ⟨c5, 0, none⟩)]), (4, .pointer (some ⟨r4, 0, none⟩)), (6, .int .i64 0), (7, .pointer (some ⟨r8, 0, none⟩)), (14, .bool false), (18, .bool true)] : Fr) (by kernel_rfl) (fun a => WP _ _ _ _ a _) (fun lr100 => ?_)
        refine gi_cnd (x := (Operand.tmp 18)) (s := CA Try.f36 [1, 1, 0, 0, 1, 1, 1, 0]) (t := CA Try.f36 [1, 1, 0, 0, 1, 1, 1, 1]) true (by kernel_rfl) (by kernel_rfl) ?_
        change WP _ _ (CA Try.f36 [1, 1, 0, 0, 1, 1, 1, 0]) _ _ _
        refine gi_seq (x := CA Try.f36 [1, 1, 0, 0, 1, 1, 1, 0, 0]) (y := CA Try.f36 [1, 1, 0, 0, 1, 1, 1, 0, 1]) (by kernel_rfl) ?_
        refine gi_pln (id := 5) (ops := RA Try.f36 [1, 1, 0, 0, 1, 1, 1, 0, 0]) [0] (by kernel_rfl) (by kernel_rfl) (by kernel_rfl) ?_
        refine plain_batch (rest := []) [⟨0, [], none⟩] (l' := ([(6, .int .i64 2), (0, .pointer (some ⟨b, 0, none⟩)), (1, .agg #[.int .i64 x, .int .i64 y, .int .u32 z]), (2, .func (Fn.func 38) #[] #[.pointer (some ⟨c2, 0, none⟩), .pointer (some ⟨c5, 0, none⟩)]), (4, .pointer (some ⟨r4, 0, none⟩)), (6, .int .i64 0), (7, .pointer (some ⟨r8, 0, none⟩)), (14, .bool false), (18, .bool true)] : Fr) ++ lr100) (pts' := []) (eqs := []) (by kernel_rfl) trivial (AllC_nil _) ?_
        refine PO.mk ?_
        change WP _ _ (CA Try.f36 [1, 1, 0, 0, 1, 1, 1, 0, 1]) _ _ _
        refine fk_cut ([(0, .pointer (some ⟨b, 0, none⟩)), (1, .agg #[.int .i64 x, .int .i64 y, .int .u32 z]), (2, .func (Fn.func 38) #[] #[.pointer (some ⟨c2, 0, none⟩), .pointer (some ⟨c5, 0, none⟩)]), (4, .pointer (some ⟨r4, 0, none⟩)), (6, .int .i64 2), (7, .pointer (some ⟨r8, 0, none⟩)), (14, .bool false), (18, .bool true)] : Fr) (by kernel_rfl) (fun a => WP _ _ _ _ a _) (fun lr101 => ?_)
        refine gi_rt (by kernel_rfl) ?_
        repeat (first | simp only [Exit.inBlock] | simp only [Exit.then])
        have he_ : errA A (x, y, z) = 2 := chk_arg A (by omega)
        have hc_ : clsA A (x, y, z) = A := cls_no he_ (by decide)
        have h102 : sat g w97 [Cl c2 [.pointer (some ⟨b, 0, none⟩)] 24, Cl c5 [.int .i64 0] 29, Cl b [.pointer (some ⟨s, 0, none⟩), .map (some m)] 63, Tb s n A, Cl r8 [.int .i64 y, .int .u32 z] 79, Cl r4 [.int .i64 x, .int .i64 y, .int .u32 z] 28, R] := sat_sel [3, 4, 0, 5, 1, 2, 6] rfl h99
        have h103 : sat g w97 [Cl c2 [.pointer (some ⟨b, 0, none⟩)] 24, Cl c5 [.int .i64 0] 29, Cl b [.pointer (some ⟨s, 0, none⟩), .map (some m)] 63, Tb s n A, R] := sat_sel [0, 1, 2, 3, 6] rfl h102
        refine hi_out [] (.int .i64 2) [] (by kernel_rfl) (by intro q hq; cases hq) ?_
        exact ⟨.int .i64 2, [Cl c2 [.pointer (some ⟨b, 0, none⟩)] 24, Cl c5 [.int .i64 0] 29, Cl b [.pointer (some ⟨s, 0, none⟩), .map (some m)] 63, Tb s n A], rfl, ⟨by rw [he_], by rw [hc_]⟩, h103⟩
    ·
      refine plain_act (i := 1) (by kernel_rfl) ?_
      refine an_call (d := some 20) (f := 53) (args := [.agg #[.int .i64 x, .int .i64 y, .int .u32 z]]) (by kernel_rfl) Try.call53 (couter_no x y z (by omega) (by omega) (by omega)) (F := [Cl b [.pointer (some ⟨s, 0, none⟩), .map (some m)] 63, Cl r8 [.int .i64 y, .int .u32 z] 79, Cl r4 [.int .i64 x, .int .i64 y, .int .u32 z] 28, Cl c2 [.pointer (some ⟨b, 0, none⟩)] 24, Cl c5 [.int .i64 0] 29, Tb s n A, R]) h17 ?_
      rintro v K w104 (⟨rfl, rfl⟩) h105
      refine ⟨_, rfl, ?_⟩
      have h106 : sat g w104 [Cl b [.pointer (some ⟨s, 0, none⟩), .map (some m)] 63, Cl r8 [.int .i64 y, .int .u32 z] 79, Cl r4 [.int .i64 x, .int .i64 y, .int .u32 z] 28, Cl c2 [.pointer (some ⟨b, 0, none⟩)] 24, Cl c5 [.int .i64 0] 29, Tb s n A, R] := h105
      refine plain_batch (rest := []) [⟨2, [], none⟩, ⟨3, [], none⟩, ⟨4, [], none⟩, ⟨5, [], none⟩, ⟨6, [], none⟩, ⟨7, [], none⟩, ⟨8, [], none⟩] (l' := ([(18, .bool true), (26, .bool true), (25, undef), (24, undef), (23, undef), (22, .bool true), (21, .bool true), (20, .int .i64 2), (19, .agg #[.int .i64 x, .int .i64 y, .int .u32 z]), (0, .pointer (some ⟨b, 0, none⟩)), (1, .agg #[.int .i64 x, .int .i64 y, .int .u32 z]), (2, .func (Fn.func 38) #[] #[.pointer (some ⟨c2, 0, none⟩), .pointer (some ⟨c5, 0, none⟩)]), (4, .pointer (some ⟨r4, 0, none⟩)), (6, .int .i64 0), (7, .pointer (some ⟨r8, 0, none⟩)), (14, .bool false)] : Fr) ++ lr18) (pts' := []) (eqs := []) (by kernel_rfl) trivial (AllC_nil _) ?_
      refine PO.mk ?_
      change WP _ _ (CA Try.f36 [1, 1, 0, 0, 1, 1, 1]) _ _ _
      refine fk_cut ([(0, .pointer (some ⟨b, 0, none⟩)), (1, .agg #[.int .i64 x, .int .i64 y, .int .u32 z]), (2, .func (Fn.func 38) #[] #[.pointer (some ⟨c2, 0, none⟩), .pointer (some ⟨c5, 0, none⟩)]), (4, .pointer (some ⟨r4, 0, none⟩)), (6, .int .i64 0), (7, .pointer (some ⟨r8, 0, none⟩)), (14, .bool false), (18, .bool true)] : Fr) (by kernel_rfl) (fun a => WP _ _ _ _ a _) (fun lr107 => ?_)
      refine gi_cnd (x := (Operand.tmp 18)) (s := CA Try.f36 [1, 1, 0, 0, 1, 1, 1, 0]) (t := CA Try.f36 [1, 1, 0, 0, 1, 1, 1, 1]) true (by kernel_rfl) (by kernel_rfl) ?_
      change WP _ _ (CA Try.f36 [1, 1, 0, 0, 1, 1, 1, 0]) _ _ _
      refine gi_seq (x := CA Try.f36 [1, 1, 0, 0, 1, 1, 1, 0, 0]) (y := CA Try.f36 [1, 1, 0, 0, 1, 1, 1, 0, 1]) (by kernel_rfl) ?_
      refine gi_pln (id := 5) (ops := RA Try.f36 [1, 1, 0, 0, 1, 1, 1, 0, 0]) [0] (by kernel_rfl) (by kernel_rfl) (by kernel_rfl) ?_
      refine plain_batch (rest := []) [⟨0, [], none⟩] (l' := ([(6, .int .i64 2), (0, .pointer (some ⟨b, 0, none⟩)), (1, .agg #[.int .i64 x, .int .i64 y, .int .u32 z]), (2, .func (Fn.func 38) #[] #[.pointer (some ⟨c2, 0, none⟩), .pointer (some ⟨c5, 0, none⟩)]), (4, .pointer (some ⟨r4, 0, none⟩)), (6, .int .i64 0), (7, .pointer (some ⟨r8, 0, none⟩)), (14, .bool false), (18, .bool true)] : Fr) ++ lr107) (pts' := []) (eqs := []) (by kernel_rfl) trivial (AllC_nil _) ?_
      refine PO.mk ?_
      change WP _ _ (CA Try.f36 [1, 1, 0, 0, 1, 1, 1, 0, 1]) _ _ _
      refine fk_cut ([(0, .pointer (some ⟨b, 0, none⟩)), (1, .agg #[.int .i64 x, .int .i64 y, .int .u32 z]), (2, .func (Fn.func 38) #[] #[.pointer (some ⟨c2, 0, none⟩), .pointer (some ⟨c5, 0, none⟩)]), (4, .pointer (some ⟨r4, 0, none⟩)), (6, .int .i64 2), (7, .pointer (some ⟨r8, 0, none⟩)), (14, .bool false), (18, .bool true)] : Fr) (by kernel_rfl) (fun a => WP _ _ _ _ a _) (fun lr108 => ?_)
      refine gi_rt (by kernel_rfl) ?_
      repeat (first | simp only [Exit.inBlock] | simp only [Exit.then])
      have he_ : errA A (x, y, z) = 2 := chk_arg A (by omega)
      have hc_ : clsA A (x, y, z) = A := cls_no he_ (by decide)
      have h109 : sat g w104 [Cl c2 [.pointer (some ⟨b, 0, none⟩)] 24, Cl c5 [.int .i64 0] 29, Cl b [.pointer (some ⟨s, 0, none⟩), .map (some m)] 63, Tb s n A, Cl r8 [.int .i64 y, .int .u32 z] 79, Cl r4 [.int .i64 x, .int .i64 y, .int .u32 z] 28, R] := sat_sel [3, 4, 0, 5, 1, 2, 6] rfl h106
      have h110 : sat g w104 [Cl c2 [.pointer (some ⟨b, 0, none⟩)] 24, Cl c5 [.int .i64 0] 29, Cl b [.pointer (some ⟨s, 0, none⟩), .map (some m)] 63, Tb s n A, R] := sat_sel [0, 1, 2, 3, 6] rfl h109
      refine hi_out [] (.int .i64 2) [] (by kernel_rfl) (by intro q hq; cases hq) ?_
      exact ⟨.int .i64 2, [Cl c2 [.pointer (some ⟨b, 0, none⟩)] 24, Cl c5 [.int .i64 0] 29, Cl b [.pointer (some ⟨s, 0, none⟩), .map (some m)] 63, Tb s n A], rfl, ⟨by rw [he_], by rw [hc_]⟩, h110⟩
  ·
    refine plain_act (i := 1) (by kernel_rfl) ?_
    refine an_call (d := some 20) (f := 53) (args := [.agg #[.int .i64 x, .int .i64 y, .int .u32 z]]) (by kernel_rfl) Try.call53 (couter_no x y z (by omega) (by omega) (by omega)) (F := [Cl b [.pointer (some ⟨s, 0, none⟩), .map (some m)] 63, Cl r8 [.int .i64 y, .int .u32 z] 79, Cl r4 [.int .i64 x, .int .i64 y, .int .u32 z] 28, Cl c2 [.pointer (some ⟨b, 0, none⟩)] 24, Cl c5 [.int .i64 0] 29, Tb s n A, R]) h17 ?_
    rintro v K w111 (⟨rfl, rfl⟩) h112
    refine ⟨_, rfl, ?_⟩
    have h113 : sat g w111 [Cl b [.pointer (some ⟨s, 0, none⟩), .map (some m)] 63, Cl r8 [.int .i64 y, .int .u32 z] 79, Cl r4 [.int .i64 x, .int .i64 y, .int .u32 z] 28, Cl c2 [.pointer (some ⟨b, 0, none⟩)] 24, Cl c5 [.int .i64 0] 29, Tb s n A, R] := h112
    refine plain_batch (rest := []) [⟨2, [], none⟩, ⟨3, [], none⟩, ⟨4, [], none⟩, ⟨5, [], none⟩, ⟨6, [], none⟩, ⟨7, [], none⟩, ⟨8, [], none⟩] (l' := ([(18, .bool true), (26, .bool true), (25, undef), (24, undef), (23, undef), (22, .bool true), (21, .bool true), (20, .int .i64 2), (19, .agg #[.int .i64 x, .int .i64 y, .int .u32 z]), (0, .pointer (some ⟨b, 0, none⟩)), (1, .agg #[.int .i64 x, .int .i64 y, .int .u32 z]), (2, .func (Fn.func 38) #[] #[.pointer (some ⟨c2, 0, none⟩), .pointer (some ⟨c5, 0, none⟩)]), (4, .pointer (some ⟨r4, 0, none⟩)), (6, .int .i64 0), (7, .pointer (some ⟨r8, 0, none⟩)), (14, .bool false)] : Fr) ++ lr18) (pts' := []) (eqs := []) (by kernel_rfl) trivial (AllC_nil _) ?_
    refine PO.mk ?_
    change WP _ _ (CA Try.f36 [1, 1, 0, 0, 1, 1, 1]) _ _ _
    refine fk_cut ([(0, .pointer (some ⟨b, 0, none⟩)), (1, .agg #[.int .i64 x, .int .i64 y, .int .u32 z]), (2, .func (Fn.func 38) #[] #[.pointer (some ⟨c2, 0, none⟩), .pointer (some ⟨c5, 0, none⟩)]), (4, .pointer (some ⟨r4, 0, none⟩)), (6, .int .i64 0), (7, .pointer (some ⟨r8, 0, none⟩)), (14, .bool false), (18, .bool true)] : Fr) (by kernel_rfl) (fun a => WP _ _ _ _ a _) (fun lr114 => ?_)
    refine gi_cnd (x := (Operand.tmp 18)) (s := CA Try.f36 [1, 1, 0, 0, 1, 1, 1, 0]) (t := CA Try.f36 [1, 1, 0, 0, 1, 1, 1, 1]) true (by kernel_rfl) (by kernel_rfl) ?_
    change WP _ _ (CA Try.f36 [1, 1, 0, 0, 1, 1, 1, 0]) _ _ _
    refine gi_seq (x := CA Try.f36 [1, 1, 0, 0, 1, 1, 1, 0, 0]) (y := CA Try.f36 [1, 1, 0, 0, 1, 1, 1, 0, 1]) (by kernel_rfl) ?_
    refine gi_pln (id := 5) (ops := RA Try.f36 [1, 1, 0, 0, 1, 1, 1, 0, 0]) [0] (by kernel_rfl) (by kernel_rfl) (by kernel_rfl) ?_
    refine plain_batch (rest := []) [⟨0, [], none⟩] (l' := ([(6, .int .i64 2), (0, .pointer (some ⟨b, 0, none⟩)), (1, .agg #[.int .i64 x, .int .i64 y, .int .u32 z]), (2, .func (Fn.func 38) #[] #[.pointer (some ⟨c2, 0, none⟩), .pointer (some ⟨c5, 0, none⟩)]), (4, .pointer (some ⟨r4, 0, none⟩)), (6, .int .i64 0), (7, .pointer (some ⟨r8, 0, none⟩)), (14, .bool false), (18, .bool true)] : Fr) ++ lr114) (pts' := []) (eqs := []) (by kernel_rfl) trivial (AllC_nil _) ?_
    refine PO.mk ?_
    change WP _ _ (CA Try.f36 [1, 1, 0, 0, 1, 1, 1, 0, 1]) _ _ _
    refine fk_cut ([(0, .pointer (some ⟨b, 0, none⟩)), (1, .agg #[.int .i64 x, .int .i64 y, .int .u32 z]), (2, .func (Fn.func 38) #[] #[.pointer (some ⟨c2, 0, none⟩), .pointer (some ⟨c5, 0, none⟩)]), (4, .pointer (some ⟨r4, 0, none⟩)), (6, .int .i64 2), (7, .pointer (some ⟨r8, 0, none⟩)), (14, .bool false), (18, .bool true)] : Fr) (by kernel_rfl) (fun a => WP _ _ _ _ a _) (fun lr115 => ?_)
    refine gi_rt (by kernel_rfl) ?_
    repeat (first | simp only [Exit.inBlock] | simp only [Exit.then])
    have he_ : errA A (x, y, z) = 2 := chk_arg A (by omega)
    have hc_ : clsA A (x, y, z) = A := cls_no he_ (by decide)
    have h116 : sat g w111 [Cl c2 [.pointer (some ⟨b, 0, none⟩)] 24, Cl c5 [.int .i64 0] 29, Cl b [.pointer (some ⟨s, 0, none⟩), .map (some m)] 63, Tb s n A, Cl r8 [.int .i64 y, .int .u32 z] 79, Cl r4 [.int .i64 x, .int .i64 y, .int .u32 z] 28, R] := sat_sel [3, 4, 0, 5, 1, 2, 6] rfl h113
    have h117 : sat g w111 [Cl c2 [.pointer (some ⟨b, 0, none⟩)] 24, Cl c5 [.int .i64 0] 29, Cl b [.pointer (some ⟨s, 0, none⟩), .map (some m)] 63, Tb s n A, R] := sat_sel [0, 1, 2, 3, 6] rfl h116
    refine hi_out [] (.int .i64 2) [] (by kernel_rfl) (by intro q hq; cases hq) ?_
    exact ⟨.int .i64 2, [Cl c2 [.pointer (some ⟨b, 0, none⟩)] 24, Cl c5 [.int .i64 0] 29, Cl b [.pointer (some ⟨s, 0, none⟩), .map (some m)] 63, Tb s n A], rfl, ⟨by rw [he_], by rw [hc_]⟩, h117⟩

set_option maxHeartbeats 4000000 in
theorem with_n (c2 c3 c5 c6 b s m n : Nat) (A : List Sl2) (E : Mm) (x y z : Int) (hz0 : 0 ≤ z) (hz1 : z ≤ 4294967295) : HT Try.prog 36 [Value.pointer (some ⟨b, 0, none⟩), Value.agg #[Value.int IntKind.i64 x, Value.int IntKind.i64 y, Value.int IntKind.u32 z], Value.func (Fn.func 37) #[] #[Value.pointer (some ⟨c2, 0, none⟩), Value.pointer (some ⟨c3, 0, none⟩), Value.pointer (some ⟨c6, 0, none⟩)]] [Cl c2 [Value.pointer (some ⟨b, 0, none⟩)] 24, Cl c3 [Value.int IntKind.i64 x, Value.int IntKind.i64 y, Value.int IntKind.u32 z] 28, Cl c6 [Value.int IntKind.i64 0] 3, Cl b [Value.pointer (some ⟨s, 0, none⟩), Value.map (some m)] 63, Tb s n A, Mp m E] (fun v K => v = Value.int .i64 (errA A (x, y, z)) ∧ K = [Cl c2 [Value.pointer (some ⟨b, 0, none⟩)] 24, Cl c3 [Value.int IntKind.i64 x, Value.int IntKind.i64 y, Value.int IntKind.u32 z] 28, Cl c6 [Value.int IntKind.i64 ((numM A E (x, y, z)))] 3, Cl b [Value.pointer (some ⟨s, 0, none⟩), Value.map (some m)] 63, Tb s n A, Mp m E]) := by
  refine hi_in 39 ([(0, .pointer (some ⟨b, 0, none⟩)), (1, .agg #[.int .i64 x, .int .i64 y, .int .u32 z]), (2, .func (Fn.func 37) #[] #[.pointer (some ⟨c2, 0, none⟩), .pointer (some ⟨c3, 0, none⟩), .pointer (some ⟨c6, 0, none⟩)])] : Fr) Try.func36 (by kernel_rfl) Try.ntmps36 rfl rfl ?_
  intro g w0 R h0
  have hb1 := tb_bd (j := 4) h0 rfl
  have hAl_ := hb1.1; have hb2 := hb1.2.1; have hb3 := hb1.2.2.1; have hok_ := hb1.2.2.2
  refine gi_seq (x := CA Try.f36 [0]) (y := CA Try.f36 [1]) (by kernel_rfl) ?_
  refine gi_pln (id := 0) (ops := RA Try.f36 [0]) [0, 1] (by kernel_rfl) (by kernel_rfl) (by kernel_rfl) ?_
  refine plain_act (i := 0) (by kernel_rfl) ?_
  refine an_new (d := 4) (fun xb_ => .pointer (some ⟨xb_, 0, none⟩)) (fun xb_ => Obj.cells [.int .i64 x, .int .i64 y, .int .u32 z].toArray 28 (0, 0)) (fun xb_ => by kernel_rfl) (by kernel_rfl) rfl h0 ?_
  intro r4 w5 (h6 : sat g w5 [Cl r4 [.int .i64 x, .int .i64 y, .int .u32 z] 28, Cl c2 [.pointer (some ⟨b, 0, none⟩)] 24, Cl c3 [.int .i64 x, .int .i64 y, .int .u32 z] 28, Cl c6 [.int .i64 0] 3, Cl b [.pointer (some ⟨s, 0, none⟩), .map (some m)] 63, Tb s n A, Mp m E, R])
  refine plain_batch (rest := []) [⟨1, [], none⟩] (l' := ([(6, .int .i64 0), (4, .pointer (some ⟨r4, 0, none⟩)), (0, .pointer (some ⟨b, 0, none⟩)), (1, .agg #[.int .i64 x, .int .i64 y, .int .u32 z]), (2, .func (Fn.func 37) #[] #[.pointer (some ⟨c2, 0, none⟩), .pointer (some ⟨c3, 0, none⟩), .pointer (some ⟨c6, 0, none⟩)])] : Fr)) (pts' := []) (eqs := []) (by kernel_rfl) trivial (AllC_nil _) ?_
  refine PO.mk ?_
  change WP _ _ (CA Try.f36 [1]) _ _ _
  refine fk_cut ([(0, .pointer (some ⟨b, 0, none⟩)), (1, .agg #[.int .i64 x, .int .i64 y, .int .u32 z]), (2, .func (Fn.func 37) #[] #[.pointer (some ⟨c2, 0, none⟩), .pointer (some ⟨c3, 0, none⟩), .pointer (some ⟨c6, 0, none⟩)]), (4, .pointer (some ⟨r4, 0, none⟩)), (6, .int .i64 0)] : Fr) (by kernel_rfl) (fun a => WP _ _ _ _ a _) (fun lr7 => ?_)
  refine gi_seq (x := CA Try.f36 [1, 0]) (y := CA Try.f36 [1, 1]) (by kernel_rfl) ?_
  refine gi_pln (id := 1) (ops := RA Try.f36 [1, 0]) [0, 1, 2, 3, 4, 5, 6] (by kernel_rfl) (by kernel_rfl) (by kernel_rfl) ?_
  refine plain_batch (rest := [5, 6]) [⟨0, [], none⟩, ⟨1, [.int .i64 y], none⟩, ⟨2, [], none⟩, ⟨3, [.int .u32 z], none⟩, ⟨4, [], none⟩] (l' := ([(13, .agg #[.int .i64 y, .int .u32 z]), (12, .int .u32 z), (11, .pointer (some ⟨r4, 2, none⟩)), (10, .int .i64 y), (9, .pointer (some ⟨r4, 1, none⟩)), (0, .pointer (some ⟨b, 0, none⟩)), (1, .agg #[.int .i64 x, .int .i64 y, .int .u32 z]), (2, .func (Fn.func 37) #[] #[.pointer (some ⟨c2, 0, none⟩), .pointer (some ⟨c3, 0, none⟩), .pointer (some ⟨c6, 0, none⟩)]), (4, .pointer (some ⟨r4, 0, none⟩)), (6, .int .i64 0)] : Fr) ++ lr7) (pts' := [(3, ⟨r4, 2, none⟩, .int .u32 z), (1, ⟨r4, 1, none⟩, .int .i64 y)]) (eqs := []) (by kernel_rfl) trivial (AllC_cons (sat_cell h6 0 rfl rfl) (AllC_cons (sat_cell h6 0 rfl rfl) (AllC_nil _))) ?_
  refine plain_act (i := 5) (by kernel_rfl) ?_
  refine an_new (d := 7) (fun xb_ => .pointer (some ⟨xb_, 0, none⟩)) (fun xb_ => Obj.cells [.int .i64 0, .int .u32 0].toArray 79 (0, 0)) (fun xb_ => by kernel_rfl) (by kernel_rfl) rfl h6 ?_
  intro r8 w9 (h10 : sat g w9 [Cl r8 [.int .i64 0, .int .u32 0] 79, Cl r4 [.int .i64 x, .int .i64 y, .int .u32 z] 28, Cl c2 [.pointer (some ⟨b, 0, none⟩)] 24, Cl c3 [.int .i64 x, .int .i64 y, .int .u32 z] 28, Cl c6 [.int .i64 0] 3, Cl b [.pointer (some ⟨s, 0, none⟩), .map (some m)] 63, Tb s n A, Mp m E, R])
  refine plain_act (i := 6) (by kernel_rfl) ?_
  refine an_store [(0, .int .i64 y), (1, .int .u32 z)] (cs' := [.int .i64 y, .int .u32 z]) (by kernel_rfl) (by kernel_rfl) (allq ⟨⟨by simp, rfl⟩, ⟨by simp, rfl⟩, trivial⟩) rfl h10 ?_
  intro w11 (h12 : sat g w11 [Cl r8 [.int .i64 y, .int .u32 z] 79, Cl r4 [.int .i64 x, .int .i64 y, .int .u32 z] 28, Cl c2 [.pointer (some ⟨b, 0, none⟩)] 24, Cl c3 [.int .i64 x, .int .i64 y, .int .u32 z] 28, Cl c6 [.int .i64 0] 3, Cl b [.pointer (some ⟨s, 0, none⟩), .map (some m)] 63, Tb s n A, Mp m E, R])
  refine PO.mk ?_
  change WP _ _ (CA Try.f36 [1, 1]) _ _ _
  refine fk_cut ([(0, .pointer (some ⟨b, 0, none⟩)), (1, .agg #[.int .i64 x, .int .i64 y, .int .u32 z]), (2, .func (Fn.func 37) #[] #[.pointer (some ⟨c2, 0, none⟩), .pointer (some ⟨c3, 0, none⟩), .pointer (some ⟨c6, 0, none⟩)]), (4, .pointer (some ⟨r4, 0, none⟩)), (6, .int .i64 0), (7, .pointer (some ⟨r8, 0, none⟩))] : Fr) (by kernel_rfl) (fun a => WP _ _ _ _ a _) (fun lr13 => ?_)
  refine gi_seq (x := CA Try.f36 [1, 1, 0]) (y := CA Try.f36 [1, 1, 1]) (by kernel_rfl) ?_
  refine gi_blk (id := 0) (x := CA Try.f36 [1, 1, 0, 0]) (by kernel_rfl) ?_
  refine gi_seq (x := CA Try.f36 [1, 1, 0, 0, 0]) (y := CA Try.f36 [1, 1, 0, 0, 1]) (by kernel_rfl) ?_
  refine gi_pln (id := 2) (ops := RA Try.f36 [1, 1, 0, 0, 0]) [0, 1, 2, 3] (by kernel_rfl) (by kernel_rfl) (by kernel_rfl) ?_
  refine plain_batch (rest := [1, 2, 3]) [⟨0, [], none⟩] (l' := ([(15, .pointer (some ⟨b, 0, none⟩)), (0, .pointer (some ⟨b, 0, none⟩)), (1, .agg #[.int .i64 x, .int .i64 y, .int .u32 z]), (2, .func (Fn.func 37) #[] #[.pointer (some ⟨c2, 0, none⟩), .pointer (some ⟨c3, 0, none⟩), .pointer (some ⟨c6, 0, none⟩)]), (4, .pointer (some ⟨r4, 0, none⟩)), (6, .int .i64 0), (7, .pointer (some ⟨r8, 0, none⟩))] : Fr) ++ lr13) (pts' := []) (eqs := []) (by kernel_rfl) trivial (AllC_nil _) ?_
  have h14 : sat g w11 [Cl b [.pointer (some ⟨s, 0, none⟩), .map (some m)] 63, Cl r8 [.int .i64 y, .int .u32 z] 79, Cl r4 [.int .i64 x, .int .i64 y, .int .u32 z] 28, Cl c2 [.pointer (some ⟨b, 0, none⟩)] 24, Cl c3 [.int .i64 x, .int .i64 y, .int .u32 z] 28, Cl c6 [.int .i64 0] 3, Tb s n A, Mp m E, R] := sat_sel [5, 0, 1, 2, 3, 4, 6, 7, 8] rfl h12
  refine plain_act (i := 1) (by kernel_rfl) ?_
  refine an_call (d := some 16) (f := 33) (args := [.pointer (some ⟨b, 0, none⟩)]) (by kernel_rfl) Try.call33 (made_y b s m) (F := [Cl r8 [.int .i64 y, .int .u32 z] 79, Cl r4 [.int .i64 x, .int .i64 y, .int .u32 z] 28, Cl c2 [.pointer (some ⟨b, 0, none⟩)] 24, Cl c3 [.int .i64 x, .int .i64 y, .int .u32 z] 28, Cl c6 [.int .i64 0] 3, Tb s n A, Mp m E, R]) h14 ?_
  rintro v K w15 (⟨rfl, rfl⟩) h16
  refine ⟨_, rfl, ?_⟩
  have h17 : sat g w15 [Cl b [.pointer (some ⟨s, 0, none⟩), .map (some m)] 63, Cl r8 [.int .i64 y, .int .u32 z] 79, Cl r4 [.int .i64 x, .int .i64 y, .int .u32 z] 28, Cl c2 [.pointer (some ⟨b, 0, none⟩)] 24, Cl c3 [.int .i64 x, .int .i64 y, .int .u32 z] 28, Cl c6 [.int .i64 0] 3, Tb s n A, Mp m E, R] := h16
  refine plain_batch (rest := []) [⟨2, [], none⟩, ⟨3, [], none⟩] (l' := ([(14, .bool false), (17, .bool false), (16, .bool true), (15, .pointer (some ⟨b, 0, none⟩)), (0, .pointer (some ⟨b, 0, none⟩)), (1, .agg #[.int .i64 x, .int .i64 y, .int .u32 z]), (2, .func (Fn.func 37) #[] #[.pointer (some ⟨c2, 0, none⟩), .pointer (some ⟨c3, 0, none⟩), .pointer (some ⟨c6, 0, none⟩)]), (4, .pointer (some ⟨r4, 0, none⟩)), (6, .int .i64 0), (7, .pointer (some ⟨r8, 0, none⟩))] : Fr) ++ lr13) (pts' := []) (eqs := []) (by kernel_rfl) trivial (AllC_nil _) ?_
  refine PO.mk ?_
  change WP _ _ (CA Try.f36 [1, 1, 0, 0, 1]) _ _ _
  refine fk_cut ([(0, .pointer (some ⟨b, 0, none⟩)), (1, .agg #[.int .i64 x, .int .i64 y, .int .u32 z]), (2, .func (Fn.func 37) #[] #[.pointer (some ⟨c2, 0, none⟩), .pointer (some ⟨c3, 0, none⟩), .pointer (some ⟨c6, 0, none⟩)]), (4, .pointer (some ⟨r4, 0, none⟩)), (6, .int .i64 0), (7, .pointer (some ⟨r8, 0, none⟩)), (14, .bool false)] : Fr) (by kernel_rfl) (fun a => WP _ _ _ _ a _) (fun lr18 => ?_)
  refine gi_cnd (x := (Operand.tmp 14)) (s := CA Try.f36 [1, 1, 0, 0, 1, 0]) (t := CA Try.f36 [1, 1, 0, 0, 1, 1]) false (by kernel_rfl) (by kernel_rfl) ?_
  change WP _ _ (CA Try.f36 [1, 1, 0, 0, 1, 1]) _ _ _
  refine gi_seq (x := CA Try.f36 [1, 1, 0, 0, 1, 1, 0]) (y := CA Try.f36 [1, 1, 0, 0, 1, 1, 1]) (by kernel_rfl) ?_
  refine gi_pln (id := 4) (ops := RA Try.f36 [1, 1, 0, 0, 1, 1, 0]) [0, 1, 2, 3, 4, 5, 6, 7, 8] (by kernel_rfl) (by kernel_rfl) (by kernel_rfl) ?_
  refine plain_batch (rest := [1, 2, 3, 4, 5, 6, 7, 8]) [⟨0, [.int .i64 x, .int .i64 y, .int .u32 z], none⟩] (l' := ([(19, .agg #[.int .i64 x, .int .i64 y, .int .u32 z]), (0, .pointer (some ⟨b, 0, none⟩)), (1, .agg #[.int .i64 x, .int .i64 y, .int .u32 z]), (2, .func (Fn.func 37) #[] #[.pointer (some ⟨c2, 0, none⟩), .pointer (some ⟨c3, 0, none⟩), .pointer (some ⟨c6, 0, none⟩)]), (4, .pointer (some ⟨r4, 0, none⟩)), (6, .int .i64 0), (7, .pointer (some ⟨r8, 0, none⟩)), (14, .bool false)] : Fr) ++ lr18) (pts' := [(0, ⟨r4, 0, none⟩, .int .i64 x), (0, ⟨r4, 1, none⟩, .int .i64 y), (0, ⟨r4, 2, none⟩, .int .u32 z)]) (eqs := []) (by kernel_rfl) trivial (AllC_cons (sat_cell h17 2 rfl rfl) (AllC_cons (sat_cell h17 2 rfl rfl) (AllC_cons (sat_cell h17 2 rfl rfl) (AllC_nil _)))) ?_
  by_cases c19 : 1 ≤ x
  ·
    by_cases c20 : x ≤ 3
    ·
      by_cases c21 : 0 ≤ y
      ·
        by_cases c22 : y ≤ 63
        ·
          by_cases c23 : 1 ≤ z
          ·
            refine plain_act (i := 1) (by kernel_rfl) ?_
            refine an_call (d := some 20) (f := 53) (args := [.agg #[.int .i64 x, .int .i64 y, .int .u32 z]]) (by kernel_rfl) Try.call53 (couter_ok x y z (by omega) (by omega) (by omega)) (F := [Cl b [.pointer (some ⟨s, 0, none⟩), .map (some m)] 63, Cl r8 [.int .i64 y, .int .u32 z] 79, Cl r4 [.int .i64 x, .int .i64 y, .int .u32 z] 28, Cl c2 [.pointer (some ⟨b, 0, none⟩)] 24, Cl c3 [.int .i64 x, .int .i64 y, .int .u32 z] 28, Cl c6 [.int .i64 0] 3, Tb s n A, Mp m E, R]) h17 ?_
            rintro v K w24 (⟨rfl, rfl⟩) h25
            refine ⟨_, rfl, ?_⟩
            have h26 : sat g w24 [Cl b [.pointer (some ⟨s, 0, none⟩), .map (some m)] 63, Cl r8 [.int .i64 y, .int .u32 z] 79, Cl r4 [.int .i64 x, .int .i64 y, .int .u32 z] 28, Cl c2 [.pointer (some ⟨b, 0, none⟩)] 24, Cl c3 [.int .i64 x, .int .i64 y, .int .u32 z] 28, Cl c6 [.int .i64 0] 3, Tb s n A, Mp m E, R] := h25
            refine plain_batch (rest := [6, 7, 8]) [⟨2, [], none⟩, ⟨3, [], none⟩, ⟨4, [], none⟩, ⟨5, [.int .i64 x], none⟩] (l' := ([(24, .int .i64 x), (23, .pointer (some ⟨r4, 0, none⟩)), (22, .bool false), (21, .bool false), (20, .int .i64 0), (19, .agg #[.int .i64 x, .int .i64 y, .int .u32 z]), (0, .pointer (some ⟨b, 0, none⟩)), (1, .agg #[.int .i64 x, .int .i64 y, .int .u32 z]), (2, .func (Fn.func 37) #[] #[.pointer (some ⟨c2, 0, none⟩), .pointer (some ⟨c3, 0, none⟩), .pointer (some ⟨c6, 0, none⟩)]), (4, .pointer (some ⟨r4, 0, none⟩)), (6, .int .i64 0), (7, .pointer (some ⟨r8, 0, none⟩)), (14, .bool false)] : Fr) ++ lr18) (pts' := [(5, ⟨r4, 0, none⟩, .int .i64 x)]) (eqs := []) (by kernel_rfl) trivial (AllC_cons (sat_cell h26 2 rfl rfl) (AllC_nil _)) ?_
            by_cases c27 : x = 1
            ·
              refine plain_batch (rest := []) [⟨6, [], some (.bool false)⟩, ⟨7, [], none⟩, ⟨8, [], none⟩] (l' := ([(18, .bool false), (26, .bool false), (25, .bool false), (24, .int .i64 x), (23, .pointer (some ⟨r4, 0, none⟩)), (22, .bool false), (21, .bool false), (20, .int .i64 0), (19, .agg #[.int .i64 x, .int .i64 y, .int .u32 z]), (0, .pointer (some ⟨b, 0, none⟩)), (1, .agg #[.int .i64 x, .int .i64 y, .int .u32 z]), (2, .func (Fn.func 37) #[] #[.pointer (some ⟨c2, 0, none⟩), .pointer (some ⟨c3, 0, none⟩), .pointer (some ⟨c6, 0, none⟩)]), (4, .pointer (some ⟨r4, 0, none⟩)), (6, .int .i64 0), (7, .pointer (some ⟨r8, 0, none⟩)), (14, .bool false)] : Fr) ++ lr18) (pts' := []) (eqs := [(.bool (x != 1), .bool false)]) (by kernel_rfl) ⟨(ov_nf (by omega)), trivial⟩ (AllC_nil _) ?_
              refine PO.mk ?_
              change WP _ _ (CA Try.f36 [1, 1, 0, 0, 1, 1, 1]) _ _ _
              refine fk_cut ([(0, .pointer (some ⟨b, 0, none⟩)), (1, .agg #[.int .i64 x, .int .i64 y, .int .u32 z]), (2, .func (Fn.func 37) #[] #[.pointer (some ⟨c2, 0, none⟩), .pointer (some ⟨c3, 0, none⟩), .pointer (some ⟨c6, 0, none⟩)]), (4, .pointer (some ⟨r4, 0, none⟩)), (6, .int .i64 0), (7, .pointer (some ⟨r8, 0, none⟩)), (14, .bool false), (18, .bool false)] : Fr) (by kernel_rfl) (fun a => WP _ _ _ _ a _) (fun lr28 => ?_)
              refine gi_cnd (x := (Operand.tmp 18)) (s := CA Try.f36 [1, 1, 0, 0, 1, 1, 1, 0]) (t := CA Try.f36 [1, 1, 0, 0, 1, 1, 1, 1]) false (by kernel_rfl) (by kernel_rfl) ?_
              change WP _ _ (CA Try.f36 [1, 1, 0, 0, 1, 1, 1, 1]) _ _ _
              refine gi_skp (by kernel_rfl) ?_
              change WP _ _ (CA Try.f36 [1, 1, 1]) _ _ _
              refine gi_seq (x := CA Try.f36 [1, 1, 1, 0]) (y := CA Try.f36 [1, 1, 1, 1]) (by kernel_rfl) ?_
              refine gi_seq (x := CA Try.f36 [1, 1, 1, 0, 0]) (y := CA Try.f36 [1, 1, 1, 0, 1]) (by kernel_rfl) ?_
              refine gi_drw (id := 6) (ops := RA Try.f36 [1, 1, 1, 0, 0]) (Tr.fl 0 (Tr.fl 1 (Tr.fl 2 (Tr.fl 3 (Tr.fl 4 (Tr.an 5 (Tr.fl 6 Tr.nil))))))) (by kernel_rfl) (by kernel_rfl) (by kernel_rfl) (by kernel_rfl) (by kernel_rfl) (fun _ _ d _ _ h => by cases d <;> exact h) h26 ?_
              intro w29 h30
              refine draw_batch (t := (Tr.an 5 (Tr.fl 6 Tr.nil))) [⟨0, [], none⟩, ⟨1, [], none⟩, ⟨2, [], none⟩, ⟨3, [.pointer (some ⟨s, 0, none⟩)], none⟩, ⟨4, [.int .i64 y, .int .u32 z], none⟩] (l' := ([(31, .agg #[.int .i64 y, .int .u32 z]), (30, .pointer (some ⟨s, 0, none⟩)), (29, .pointer (some ⟨b, 0, none⟩)), (28, .pointer (some ⟨b, 0, none⟩)), (27, .pointer (some ⟨b, 0, none⟩)), (0, .pointer (some ⟨b, 0, none⟩)), (1, .agg #[.int .i64 x, .int .i64 y, .int .u32 z]), (2, .func (Fn.func 37) #[] #[.pointer (some ⟨c2, 0, none⟩), .pointer (some ⟨c3, 0, none⟩), .pointer (some ⟨c6, 0, none⟩)]), (4, .pointer (some ⟨r4, 0, none⟩)), (6, .int .i64 0), (7, .pointer (some ⟨r8, 0, none⟩)), (14, .bool false), (18, .bool false)] : Fr) ++ lr28) (pts' := [(4, ⟨r8, 0, none⟩, .int .i64 y), (4, ⟨r8, 1, none⟩, .int .u32 z), (3, ⟨b, 0, none⟩, .pointer (some ⟨s, 0, none⟩))]) (eqs := []) (by kernel_rfl) trivial (AllC_cons (sat_cell h30 1 rfl rfl) (AllC_cons (sat_cell h30 1 rfl rfl) (AllC_cons (sat_cell h30 0 rfl rfl) (AllC_nil _)))) ?_
              by_cases c31 : y < ((n : Nat) : Int)
              ·
                obtain ⟨kk32, hk33⟩ : ∃ z_ : Nat, y = (z_ : Int) := ⟨(y).toNat, by omega⟩
                obtain ⟨x34, hx35⟩ : ∃ x : Sl2, A[kk32]? = some x := ⟨_, List.getElem?_eq_getElem (by rw [hAl_]; omega)⟩
                have hb36 := hok_ x34 (List.mem_of_getElem? hx35)
                by_cases c37 : x34.1 = 1
                ·
                  by_cases c38 : x34.2 = z
                  ·
                    have h39 : sat g w29 [Tb s n A, Cl b [.pointer (some ⟨s, 0, none⟩), .map (some m)] 63, Cl r8 [.int .i64 y, .int .u32 z] 79, Cl r4 [.int .i64 x, .int .i64 y, .int .u32 z] 28, Cl c2 [.pointer (some ⟨b, 0, none⟩)] 24, Cl c3 [.int .i64 x, .int .i64 y, .int .u32 z] 28, Cl c6 [.int .i64 0] 3, Mp m E, R] := sat_sel [6, 0, 1, 2, 3, 4, 5, 7, 8] rfl h30
                    refine draw_act (i := 5) [] (by kernel_rfl) (by kernel_rfl) ?_
                    refine an_call (d := some 32) (f := 54) (args := [.pointer (some ⟨s, 0, none⟩), .agg #[.int .i64 y, .int .u32 z]]) (by kernel_rfl) Try.call54 (check_ok s n A kk32 x34 hx35 y z (by omega)) (F := [Cl b [.pointer (some ⟨s, 0, none⟩), .map (some m)] 63, Cl r8 [.int .i64 y, .int .u32 z] 79, Cl r4 [.int .i64 x, .int .i64 y, .int .u32 z] 28, Cl c2 [.pointer (some ⟨b, 0, none⟩)] 24, Cl c3 [.int .i64 x, .int .i64 y, .int .u32 z] 28, Cl c6 [.int .i64 0] 3, Mp m E, R]) h39 ?_
                    rintro v K w40 (⟨rfl, rfl⟩) h41
                    refine ⟨_, rfl, ?_⟩
                    have h42 : sat g w40 [Tb s n A, Cl b [.pointer (some ⟨s, 0, none⟩), .map (some m)] 63, Cl r8 [.int .i64 y, .int .u32 z] 79, Cl r4 [.int .i64 x, .int .i64 y, .int .u32 z] 28, Cl c2 [.pointer (some ⟨b, 0, none⟩)] 24, Cl c3 [.int .i64 x, .int .i64 y, .int .u32 z] 28, Cl c6 [.int .i64 0] 3, Mp m E, R] := h41
                    refine ⟨(AllC_nil _), ?_⟩
                    refine draw_batch (t := Tr.nil) [⟨6, [], none⟩] (l' := ([(8, .int .i64 0), (32, .int .i64 0), (31, .agg #[.int .i64 y, .int .u32 z]), (30, .pointer (some ⟨s, 0, none⟩)), (29, .pointer (some ⟨b, 0, none⟩)), (28, .pointer (some ⟨b, 0, none⟩)), (27, .pointer (some ⟨b, 0, none⟩)), (0, .pointer (some ⟨b, 0, none⟩)), (1, .agg #[.int .i64 x, .int .i64 y, .int .u32 z]), (2, .func (Fn.func 37) #[] #[.pointer (some ⟨c2, 0, none⟩), .pointer (some ⟨c3, 0, none⟩), .pointer (some ⟨c6, 0, none⟩)]), (4, .pointer (some ⟨r4, 0, none⟩)), (6, .int .i64 0), (7, .pointer (some ⟨r8, 0, none⟩)), (14, .bool false), (18, .bool false)] : Fr) ++ lr28) (pts' := []) (eqs := []) (by kernel_rfl) trivial (AllC_nil _) ?_
                    change WP _ _ (CA Try.f36 [1, 1, 1, 0, 1]) _ _ _
                    refine fk_cut ([(0, .pointer (some ⟨b, 0, none⟩)), (1, .agg #[.int .i64 x, .int .i64 y, .int .u32 z]), (2, .func (Fn.func 37) #[] #[.pointer (some ⟨c2, 0, none⟩), .pointer (some ⟨c3, 0, none⟩), .pointer (some ⟨c6, 0, none⟩)]), (4, .pointer (some ⟨r4, 0, none⟩)), (6, .int .i64 0), (7, .pointer (some ⟨r8, 0, none⟩)), (8, .int .i64 0), (14, .bool false), (18, .bool false)] : Fr) (by kernel_rfl) (fun a => WP _ _ _ _ a _) (fun lr43 => ?_)
                    refine gi_seq (x := CA Try.f36 [1, 1, 1, 0, 1, 0]) (y := CA Try.f36 [1, 1, 1, 0, 1, 1]) (by kernel_rfl) ?_
                    refine gi_pln (id := 7) (ops := RA Try.f36 [1, 1, 1, 0, 1, 0]) [0, 1] (by kernel_rfl) (by kernel_rfl) (by kernel_rfl) ?_
                    refine plain_batch (rest := []) [⟨0, [], none⟩, ⟨1, [], none⟩] (l' := ([(34, .bool false), (33, .int .i64 0), (0, .pointer (some ⟨b, 0, none⟩)), (1, .agg #[.int .i64 x, .int .i64 y, .int .u32 z]), (2, .func (Fn.func 37) #[] #[.pointer (some ⟨c2, 0, none⟩), .pointer (some ⟨c3, 0, none⟩), .pointer (some ⟨c6, 0, none⟩)]), (4, .pointer (some ⟨r4, 0, none⟩)), (6, .int .i64 0), (7, .pointer (some ⟨r8, 0, none⟩)), (8, .int .i64 0), (14, .bool false), (18, .bool false)] : Fr) ++ lr43) (pts' := []) (eqs := []) (by kernel_rfl) trivial (AllC_nil _) ?_
                    refine PO.mk ?_
                    change WP _ _ (CA Try.f36 [1, 1, 1, 0, 1, 1]) _ _ _
                    refine fk_cut ([(0, .pointer (some ⟨b, 0, none⟩)), (1, .agg #[.int .i64 x, .int .i64 y, .int .u32 z]), (2, .func (Fn.func 37) #[] #[.pointer (some ⟨c2, 0, none⟩), .pointer (some ⟨c3, 0, none⟩), .pointer (some ⟨c6, 0, none⟩)]), (4, .pointer (some ⟨r4, 0, none⟩)), (6, .int .i64 0), (7, .pointer (some ⟨r8, 0, none⟩)), (8, .int .i64 0), (14, .bool false), (18, .bool false), (34, .bool false)] : Fr) (by kernel_rfl) (fun a => WP _ _ _ _ a _) (fun lr44 => ?_)
                    refine gi_cnd (x := (Operand.tmp 34)) (s := CA Try.f36 [1, 1, 1, 0, 1, 1, 0]) (t := CA Try.f36 [1, 1, 1, 0, 1, 1, 1]) false (by kernel_rfl) (by kernel_rfl) ?_
                    change WP _ _ (CA Try.f36 [1, 1, 1, 0, 1, 1, 1]) _ _ _
                    refine gi_skp (by kernel_rfl) ?_
                    change WP _ _ (CA Try.f36 [1, 1, 1, 1]) _ _ _
                    refine gi_seq (x := CA Try.f36 [1, 1, 1, 1, 0]) (y := CA Try.f36 [1, 1, 1, 1, 1]) (by kernel_rfl) ?_
                    refine gi_pln (id := 9) (ops := RA Try.f36 [1, 1, 1, 1, 0]) [0, 1, 2] (by kernel_rfl) (by kernel_rfl) (by kernel_rfl) ?_
                    refine plain_batch (rest := [2]) [⟨0, [], none⟩, ⟨1, [.int .i64 y, .int .u32 z], none⟩] (l' := ([(37, .agg #[.int .i64 y, .int .u32 z]), (36, .func (Fn.func 37) #[] #[.pointer (some ⟨c2, 0, none⟩), .pointer (some ⟨c3, 0, none⟩), .pointer (some ⟨c6, 0, none⟩)]), (0, .pointer (some ⟨b, 0, none⟩)), (1, .agg #[.int .i64 x, .int .i64 y, .int .u32 z]), (2, .func (Fn.func 37) #[] #[.pointer (some ⟨c2, 0, none⟩), .pointer (some ⟨c3, 0, none⟩), .pointer (some ⟨c6, 0, none⟩)]), (4, .pointer (some ⟨r4, 0, none⟩)), (6, .int .i64 0), (7, .pointer (some ⟨r8, 0, none⟩)), (8, .int .i64 0), (14, .bool false), (18, .bool false), (34, .bool false)] : Fr) ++ lr44) (pts' := [(1, ⟨r8, 0, none⟩, .int .i64 y), (1, ⟨r8, 1, none⟩, .int .u32 z)]) (eqs := []) (by kernel_rfl) trivial (AllC_cons (sat_cell h42 2 rfl rfl) (AllC_cons (sat_cell h42 2 rfl rfl) (AllC_nil _))) ?_
                    have h45 : sat g w40 [Cl c2 [.pointer (some ⟨b, 0, none⟩)] 24, Cl c3 [.int .i64 x, .int .i64 y, .int .u32 z] 28, Cl c6 [.int .i64 0] 3, Cl b [.pointer (some ⟨s, 0, none⟩), .map (some m)] 63, Mp m E, Tb s n A, Cl r8 [.int .i64 y, .int .u32 z] 79, Cl r4 [.int .i64 x, .int .i64 y, .int .u32 z] 28, R] := sat_sel [4, 5, 6, 1, 7, 0, 2, 3, 8] rfl h42
                    refine plain_act (i := 2) (by kernel_rfl) ?_
                    refine an_call (d := some 38) (f := 37) (args := [.agg #[.int .i64 y, .int .u32 z], .pointer (some ⟨c2, 0, none⟩), .pointer (some ⟨c3, 0, none⟩), .pointer (some ⟨c6, 0, none⟩)]) (by kernel_rfl) Try.call37 (num1_ht c2 c3 c6 b s m x y z y z E 0) (F := [Tb s n A, Cl r8 [.int .i64 y, .int .u32 z] 79, Cl r4 [.int .i64 x, .int .i64 y, .int .u32 z] 28, R]) h45 ?_
                    rintro v K w46 (⟨rfl, rfl⟩) h47
                    refine ⟨_, rfl, ?_⟩
                    have h48 : sat g w46 [Cl c2 [.pointer (some ⟨b, 0, none⟩)] 24, Cl c3 [.int .i64 x, .int .i64 y, .int .u32 z] 28, Cl c6 [.int .i64 ((mget E (x, y, z)).getD 0)] 3, Cl b [.pointer (some ⟨s, 0, none⟩), .map (some m)] 63, Mp m E, Tb s n A, Cl r8 [.int .i64 y, .int .u32 z] 79, Cl r4 [.int .i64 x, .int .i64 y, .int .u32 z] 28, R] := h47
                    refine PO.mk ?_
                    change WP _ _ (CA Try.f36 [1, 1, 1, 1, 1]) _ _ _
                    refine fk_cut ([(0, .pointer (some ⟨b, 0, none⟩)), (1, .agg #[.int .i64 x, .int .i64 y, .int .u32 z]), (2, .func (Fn.func 37) #[] #[.pointer (some ⟨c2, 0, none⟩), .pointer (some ⟨c3, 0, none⟩), .pointer (some ⟨c6, 0, none⟩)]), (4, .pointer (some ⟨r4, 0, none⟩)), (6, .int .i64 0), (7, .pointer (some ⟨r8, 0, none⟩)), (8, .int .i64 0), (14, .bool false), (18, .bool false), (34, .bool false)] : Fr) (by kernel_rfl) (fun a => WP _ _ _ _ a _) (fun lr49 => ?_)
                    refine gi_seq (x := CA Try.f36 [1, 1, 1, 1, 1, 0]) (y := CA Try.f36 [1, 1, 1, 1, 1, 1]) (by kernel_rfl) ?_
                    refine gi_pln (id := 10) (ops := RA Try.f36 [1, 1, 1, 1, 1, 0]) [0] (by kernel_rfl) (by kernel_rfl) (by kernel_rfl) ?_
                    refine plain_batch (rest := []) [⟨0, [], none⟩] (l' := ([(6, .int .i64 0), (0, .pointer (some ⟨b, 0, none⟩)), (1, .agg #[.int .i64 x, .int .i64 y, .int .u32 z]), (2, .func (Fn.func 37) #[] #[.pointer (some ⟨c2, 0, none⟩), .pointer (some ⟨c3, 0, none⟩), .pointer (some ⟨c6, 0, none⟩)]), (4, .pointer (some ⟨r4, 0, none⟩)), (6, .int .i64 0), (7, .pointer (some ⟨r8, 0, none⟩)), (8, .int .i64 0), (14, .bool false), (18, .bool false), (34, .bool false)] : Fr) ++ lr49) (pts' := []) (eqs := []) (by kernel_rfl) trivial (AllC_nil _) ?_
                    refine PO.mk ?_
                    change WP _ _ (CA Try.f36 [1, 1, 1, 1, 1, 1]) _ _ _
                    refine fk_cut ([(0, .pointer (some ⟨b, 0, none⟩)), (1, .agg #[.int .i64 x, .int .i64 y, .int .u32 z]), (2, .func (Fn.func 37) #[] #[.pointer (some ⟨c2, 0, none⟩), .pointer (some ⟨c3, 0, none⟩), .pointer (some ⟨c6, 0, none⟩)]), (4, .pointer (some ⟨r4, 0, none⟩)), (6, .int .i64 0), (7, .pointer (some ⟨r8, 0, none⟩)), (8, .int .i64 0), (14, .bool false), (18, .bool false), (34, .bool false)] : Fr) (by kernel_rfl) (fun a => WP _ _ _ _ a _) (fun lr50 => ?_)
                    refine gi_rt (by kernel_rfl) ?_
                    repeat (first | simp only [Exit.inBlock] | simp only [Exit.then])
                    have he_ : errA A (x, y, z) = 0 := chk_ok A (by omega) (by omega) (by omega) (by omega) hx35 (by omega)
                    have hc_ : numM A E (x, y, z) = (mget E (x, y, z)).getD 0 := num_ok he_
                    have h51 : sat g w46 [Cl c2 [.pointer (some ⟨b, 0, none⟩)] 24, Cl c3 [.int .i64 x, .int .i64 y, .int .u32 z] 28, Cl c6 [.int .i64 ((mget E (x, y, z)).getD 0)] 3, Cl b [.pointer (some ⟨s, 0, none⟩), .map (some m)] 63, Tb s n A, Mp m E, Cl r8 [.int .i64 y, .int .u32 z] 79, Cl r4 [.int .i64 x, .int .i64 y, .int .u32 z] 28, R] := sat_sel [0, 1, 2, 3, 5, 4, 6, 7, 8] rfl h48
                    have h52 : sat g w46 [Cl c2 [.pointer (some ⟨b, 0, none⟩)] 24, Cl c3 [.int .i64 x, .int .i64 y, .int .u32 z] 28, Cl c6 [.int .i64 ((mget E (x, y, z)).getD 0)] 3, Cl b [.pointer (some ⟨s, 0, none⟩), .map (some m)] 63, Tb s n A, Mp m E, R] := sat_sel [0, 1, 2, 3, 4, 5, 8] rfl h51
                    refine hi_out [] (.int .i64 0) [] (by kernel_rfl) (by intro q hq; cases hq) ?_
                    exact ⟨.int .i64 0, [Cl c2 [.pointer (some ⟨b, 0, none⟩)] 24, Cl c3 [.int .i64 x, .int .i64 y, .int .u32 z] 28, Cl c6 [.int .i64 ((mget E (x, y, z)).getD 0)] 3, Cl b [.pointer (some ⟨s, 0, none⟩), .map (some m)] 63, Tb s n A, Mp m E], rfl, ⟨by rw [he_], by rw [hc_]⟩, h52⟩
                  ·
                    have h53 : sat g w29 [Tb s n A, Cl b [.pointer (some ⟨s, 0, none⟩), .map (some m)] 63, Cl r8 [.int .i64 y, .int .u32 z] 79, Cl r4 [.int .i64 x, .int .i64 y, .int .u32 z] 28, Cl c2 [.pointer (some ⟨b, 0, none⟩)] 24, Cl c3 [.int .i64 x, .int .i64 y, .int .u32 z] 28, Cl c6 [.int .i64 0] 3, Mp m E, R] := sat_sel [6, 0, 1, 2, 3, 4, 5, 7, 8] rfl h30
                    refine draw_act (i := 5) [] (by kernel_rfl) (by kernel_rfl) ?_
                    refine an_call (d := some 32) (f := 54) (args := [.pointer (some ⟨s, 0, none⟩), .agg #[.int .i64 y, .int .u32 z]]) (by kernel_rfl) Try.call54 (check_stale s n A kk32 x34 hx35 y z (by omega)) (F := [Cl b [.pointer (some ⟨s, 0, none⟩), .map (some m)] 63, Cl r8 [.int .i64 y, .int .u32 z] 79, Cl r4 [.int .i64 x, .int .i64 y, .int .u32 z] 28, Cl c2 [.pointer (some ⟨b, 0, none⟩)] 24, Cl c3 [.int .i64 x, .int .i64 y, .int .u32 z] 28, Cl c6 [.int .i64 0] 3, Mp m E, R]) h53 ?_
                    rintro v K w54 (⟨rfl, rfl⟩) h55
                    refine ⟨_, rfl, ?_⟩
                    have h56 : sat g w54 [Tb s n A, Cl b [.pointer (some ⟨s, 0, none⟩), .map (some m)] 63, Cl r8 [.int .i64 y, .int .u32 z] 79, Cl r4 [.int .i64 x, .int .i64 y, .int .u32 z] 28, Cl c2 [.pointer (some ⟨b, 0, none⟩)] 24, Cl c3 [.int .i64 x, .int .i64 y, .int .u32 z] 28, Cl c6 [.int .i64 0] 3, Mp m E, R] := h55
                    refine ⟨(AllC_nil _), ?_⟩
                    refine draw_batch (t := Tr.nil) [⟨6, [], none⟩] (l' := ([(8, .int .i64 7), (32, .int .i64 7), (31, .agg #[.int .i64 y, .int .u32 z]), (30, .pointer (some ⟨s, 0, none⟩)), (29, .pointer (some ⟨b, 0, none⟩)), (28, .pointer (some ⟨b, 0, none⟩)), (27, .pointer (some ⟨b, 0, none⟩)), (0, .pointer (some ⟨b, 0, none⟩)), (1, .agg #[.int .i64 x, .int .i64 y, .int .u32 z]), (2, .func (Fn.func 37) #[] #[.pointer (some ⟨c2, 0, none⟩), .pointer (some ⟨c3, 0, none⟩), .pointer (some ⟨c6, 0, none⟩)]), (4, .pointer (some ⟨r4, 0, none⟩)), (6, .int .i64 0), (7, .pointer (some ⟨r8, 0, none⟩)), (14, .bool false), (18, .bool false)] : Fr) ++ lr28) (pts' := []) (eqs := []) (by kernel_rfl) trivial (AllC_nil _) ?_
                    change WP _ _ (CA Try.f36 [1, 1, 1, 0, 1]) _ _ _
                    refine fk_cut ([(0, .pointer (some ⟨b, 0, none⟩)), (1, .agg #[.int .i64 x, .int .i64 y, .int .u32 z]), (2, .func (Fn.func 37) #[] #[.pointer (some ⟨c2, 0, none⟩), .pointer (some ⟨c3, 0, none⟩), .pointer (some ⟨c6, 0, none⟩)]), (4, .pointer (some ⟨r4, 0, none⟩)), (6, .int .i64 0), (7, .pointer (some ⟨r8, 0, none⟩)), (8, .int .i64 7), (14, .bool false), (18, .bool false)] : Fr) (by kernel_rfl) (fun a => WP _ _ _ _ a _) (fun lr57 => ?_)
                    refine gi_seq (x := CA Try.f36 [1, 1, 1, 0, 1, 0]) (y := CA Try.f36 [1, 1, 1, 0, 1, 1]) (by kernel_rfl) ?_
                    refine gi_pln (id := 7) (ops := RA Try.f36 [1, 1, 1, 0, 1, 0]) [0, 1] (by kernel_rfl) (by kernel_rfl) (by kernel_rfl) ?_
                    refine plain_batch (rest := []) [⟨0, [], none⟩, ⟨1, [], none⟩] (l' := ([(34, .bool true), (33, .int .i64 7), (0, .pointer (some ⟨b, 0, none⟩)), (1, .agg #[.int .i64 x, .int .i64 y, .int .u32 z]), (2, .func (Fn.func 37) #[] #[.pointer (some ⟨c2, 0, none⟩), .pointer (some ⟨c3, 0, none⟩), .pointer (some ⟨c6, 0, none⟩)]), (4, .pointer (some ⟨r4, 0, none⟩)), (6, .int .i64 0), (7, .pointer (some ⟨r8, 0, none⟩)), (8, .int .i64 7), (14, .bool false), (18, .bool false)] : Fr) ++ lr57) (pts' := []) (eqs := []) (by kernel_rfl) trivial (AllC_nil _) ?_
                    refine PO.mk ?_
                    change WP _ _ (CA Try.f36 [1, 1, 1, 0, 1, 1]) _ _ _
                    refine fk_cut ([(0, .pointer (some ⟨b, 0, none⟩)), (1, .agg #[.int .i64 x, .int .i64 y, .int .u32 z]), (2, .func (Fn.func 37) #[] #[.pointer (some ⟨c2, 0, none⟩), .pointer (some ⟨c3, 0, none⟩), .pointer (some ⟨c6, 0, none⟩)]), (4, .pointer (some ⟨r4, 0, none⟩)), (6, .int .i64 0), (7, .pointer (some ⟨r8, 0, none⟩)), (8, .int .i64 7), (14, .bool false), (18, .bool false), (34, .bool true)] : Fr) (by kernel_rfl) (fun a => WP _ _ _ _ a _) (fun lr58 => ?_)
                    refine gi_cnd (x := (Operand.tmp 34)) (s := CA Try.f36 [1, 1, 1, 0, 1, 1, 0]) (t := CA Try.f36 [1, 1, 1, 0, 1, 1, 1]) true (by kernel_rfl) (by kernel_rfl) ?_
                    change WP _ _ (CA Try.f36 [1, 1, 1, 0, 1, 1, 0]) _ _ _
                    refine gi_seq (x := CA Try.f36 [1, 1, 1, 0, 1, 1, 0, 0]) (y := CA Try.f36 [1, 1, 1, 0, 1, 1, 0, 1]) (by kernel_rfl) ?_
                    refine gi_pln (id := 8) (ops := RA Try.f36 [1, 1, 1, 0, 1, 1, 0, 0]) [0, 1] (by kernel_rfl) (by kernel_rfl) (by kernel_rfl) ?_
                    refine plain_batch (rest := []) [⟨0, [], none⟩, ⟨1, [], none⟩] (l' := ([(6, .int .i64 7), (35, .int .i64 7), (0, .pointer (some ⟨b, 0, none⟩)), (1, .agg #[.int .i64 x, .int .i64 y, .int .u32 z]), (2, .func (Fn.func 37) #[] #[.pointer (some ⟨c2, 0, none⟩), .pointer (some ⟨c3, 0, none⟩), .pointer (some ⟨c6, 0, none⟩)]), (4, .pointer (some ⟨r4, 0, none⟩)), (6, .int .i64 0), (7, .pointer (some ⟨r8, 0, none⟩)), (8, .int .i64 7), (14, .bool false), (18, .bool false), (34, .bool true)] : Fr) ++ lr58) (pts' := []) (eqs := []) (by kernel_rfl) trivial (AllC_nil _) ?_
                    refine PO.mk ?_
                    change WP _ _ (CA Try.f36 [1, 1, 1, 0, 1, 1, 0, 1]) _ _ _
                    refine fk_cut ([(0, .pointer (some ⟨b, 0, none⟩)), (1, .agg #[.int .i64 x, .int .i64 y, .int .u32 z]), (2, .func (Fn.func 37) #[] #[.pointer (some ⟨c2, 0, none⟩), .pointer (some ⟨c3, 0, none⟩), .pointer (some ⟨c6, 0, none⟩)]), (4, .pointer (some ⟨r4, 0, none⟩)), (6, .int .i64 7), (7, .pointer (some ⟨r8, 0, none⟩)), (8, .int .i64 7), (14, .bool false), (18, .bool false), (34, .bool true)] : Fr) (by kernel_rfl) (fun a => WP _ _ _ _ a _) (fun lr59 => ?_)
                    refine gi_rt (by kernel_rfl) ?_
                    repeat (first | simp only [Exit.inBlock] | simp only [Exit.then])
                    have he_ : errA A (x, y, z) = 7 := chk_stale A (by omega) (by omega) (by omega) (by omega) hx35 (by omega)
                    have hc_ : numM A E (x, y, z) = 0 := num_no he_ (by decide)
                    have h60 : sat g w54 [Cl c2 [.pointer (some ⟨b, 0, none⟩)] 24, Cl c3 [.int .i64 x, .int .i64 y, .int .u32 z] 28, Cl c6 [.int .i64 0] 3, Cl b [.pointer (some ⟨s, 0, none⟩), .map (some m)] 63, Tb s n A, Mp m E, Cl r8 [.int .i64 y, .int .u32 z] 79, Cl r4 [.int .i64 x, .int .i64 y, .int .u32 z] 28, R] := sat_sel [4, 5, 6, 1, 0, 7, 2, 3, 8] rfl h56
                    have h61 : sat g w54 [Cl c2 [.pointer (some ⟨b, 0, none⟩)] 24, Cl c3 [.int .i64 x, .int .i64 y, .int .u32 z] 28, Cl c6 [.int .i64 0] 3, Cl b [.pointer (some ⟨s, 0, none⟩), .map (some m)] 63, Tb s n A, Mp m E, R] := sat_sel [0, 1, 2, 3, 4, 5, 8] rfl h60
                    refine hi_out [] (.int .i64 7) [] (by kernel_rfl) (by intro q hq; cases hq) ?_
                    exact ⟨.int .i64 7, [Cl c2 [.pointer (some ⟨b, 0, none⟩)] 24, Cl c3 [.int .i64 x, .int .i64 y, .int .u32 z] 28, Cl c6 [.int .i64 0] 3, Cl b [.pointer (some ⟨s, 0, none⟩), .map (some m)] 63, Tb s n A, Mp m E], rfl, ⟨by rw [he_], by rw [hc_]⟩, h61⟩
                ·
                  have h62 : sat g w29 [Tb s n A, Cl b [.pointer (some ⟨s, 0, none⟩), .map (some m)] 63, Cl r8 [.int .i64 y, .int .u32 z] 79, Cl r4 [.int .i64 x, .int .i64 y, .int .u32 z] 28, Cl c2 [.pointer (some ⟨b, 0, none⟩)] 24, Cl c3 [.int .i64 x, .int .i64 y, .int .u32 z] 28, Cl c6 [.int .i64 0] 3, Mp m E, R] := sat_sel [6, 0, 1, 2, 3, 4, 5, 7, 8] rfl h30
                  refine draw_act (i := 5) [] (by kernel_rfl) (by kernel_rfl) ?_
                  refine an_call (d := some 32) (f := 54) (args := [.pointer (some ⟨s, 0, none⟩), .agg #[.int .i64 y, .int .u32 z]]) (by kernel_rfl) Try.call54 (check_stale s n A kk32 x34 hx35 y z (by omega)) (F := [Cl b [.pointer (some ⟨s, 0, none⟩), .map (some m)] 63, Cl r8 [.int .i64 y, .int .u32 z] 79, Cl r4 [.int .i64 x, .int .i64 y, .int .u32 z] 28, Cl c2 [.pointer (some ⟨b, 0, none⟩)] 24, Cl c3 [.int .i64 x, .int .i64 y, .int .u32 z] 28, Cl c6 [.int .i64 0] 3, Mp m E, R]) h62 ?_
                  rintro v K w63 (⟨rfl, rfl⟩) h64
                  refine ⟨_, rfl, ?_⟩
                  have h65 : sat g w63 [Tb s n A, Cl b [.pointer (some ⟨s, 0, none⟩), .map (some m)] 63, Cl r8 [.int .i64 y, .int .u32 z] 79, Cl r4 [.int .i64 x, .int .i64 y, .int .u32 z] 28, Cl c2 [.pointer (some ⟨b, 0, none⟩)] 24, Cl c3 [.int .i64 x, .int .i64 y, .int .u32 z] 28, Cl c6 [.int .i64 0] 3, Mp m E, R] := h64
                  refine ⟨(AllC_nil _), ?_⟩
                  refine draw_batch (t := Tr.nil) [⟨6, [], none⟩] (l' := ([(8, .int .i64 7), (32, .int .i64 7), (31, .agg #[.int .i64 y, .int .u32 z]), (30, .pointer (some ⟨s, 0, none⟩)), (29, .pointer (some ⟨b, 0, none⟩)), (28, .pointer (some ⟨b, 0, none⟩)), (27, .pointer (some ⟨b, 0, none⟩)), (0, .pointer (some ⟨b, 0, none⟩)), (1, .agg #[.int .i64 x, .int .i64 y, .int .u32 z]), (2, .func (Fn.func 37) #[] #[.pointer (some ⟨c2, 0, none⟩), .pointer (some ⟨c3, 0, none⟩), .pointer (some ⟨c6, 0, none⟩)]), (4, .pointer (some ⟨r4, 0, none⟩)), (6, .int .i64 0), (7, .pointer (some ⟨r8, 0, none⟩)), (14, .bool false), (18, .bool false)] : Fr) ++ lr28) (pts' := []) (eqs := []) (by kernel_rfl) trivial (AllC_nil _) ?_
                  change WP _ _ (CA Try.f36 [1, 1, 1, 0, 1]) _ _ _
                  refine fk_cut ([(0, .pointer (some ⟨b, 0, none⟩)), (1, .agg #[.int .i64 x, .int .i64 y, .int .u32 z]), (2, .func (Fn.func 37) #[] #[.pointer (some ⟨c2, 0, none⟩), .pointer (some ⟨c3, 0, none⟩), .pointer (some ⟨c6, 0, none⟩)]), (4, .pointer (some ⟨r4, 0, none⟩)), (6, .int .i64 0), (7, .pointer (some ⟨r8, 0, none⟩)), (8, .int .i64 7), (14, .bool false), (18, .bool false)] : Fr) (by kernel_rfl) (fun a => WP _ _ _ _ a _) (fun lr66 => ?_)
                  refine gi_seq (x := CA Try.f36 [1, 1, 1, 0, 1, 0]) (y := CA Try.f36 [1, 1, 1, 0, 1, 1]) (by kernel_rfl) ?_
                  refine gi_pln (id := 7) (ops := RA Try.f36 [1, 1, 1, 0, 1, 0]) [0, 1] (by kernel_rfl) (by kernel_rfl) (by kernel_rfl) ?_
                  refine plain_batch (rest := []) [⟨0, [], none⟩, ⟨1, [], none⟩] (l' := ([(34, .bool true), (33, .int .i64 7), (0, .pointer (some ⟨b, 0, none⟩)), (1, .agg #[.int .i64 x, .int .i64 y, .int .u32 z]), (2, .func (Fn.func 37) #[] #[.pointer (some ⟨c2, 0, none⟩), .pointer (some ⟨c3, 0, none⟩), .pointer (some ⟨c6, 0, none⟩)]), (4, .pointer (some ⟨r4, 0, none⟩)), (6, .int .i64 0), (7, .pointer (some ⟨r8, 0, none⟩)), (8, .int .i64 7), (14, .bool false), (18, .bool false)] : Fr) ++ lr66) (pts' := []) (eqs := []) (by kernel_rfl) trivial (AllC_nil _) ?_
                  refine PO.mk ?_
                  change WP _ _ (CA Try.f36 [1, 1, 1, 0, 1, 1]) _ _ _
                  refine fk_cut ([(0, .pointer (some ⟨b, 0, none⟩)), (1, .agg #[.int .i64 x, .int .i64 y, .int .u32 z]), (2, .func (Fn.func 37) #[] #[.pointer (some ⟨c2, 0, none⟩), .pointer (some ⟨c3, 0, none⟩), .pointer (some ⟨c6, 0, none⟩)]), (4, .pointer (some ⟨r4, 0, none⟩)), (6, .int .i64 0), (7, .pointer (some ⟨r8, 0, none⟩)), (8, .int .i64 7), (14, .bool false), (18, .bool false), (34, .bool true)] : Fr) (by kernel_rfl) (fun a => WP _ _ _ _ a _) (fun lr67 => ?_)
                  refine gi_cnd (x := (Operand.tmp 34)) (s := CA Try.f36 [1, 1, 1, 0, 1, 1, 0]) (t := CA Try.f36 [1, 1, 1, 0, 1, 1, 1]) true (by kernel_rfl) (by kernel_rfl) ?_
                  change WP _ _ (CA Try.f36 [1, 1, 1, 0, 1, 1, 0]) _ _ _
                  refine gi_seq (x := CA Try.f36 [1, 1, 1, 0, 1, 1, 0, 0]) (y := CA Try.f36 [1, 1, 1, 0, 1, 1, 0, 1]) (by kernel_rfl) ?_
                  refine gi_pln (id := 8) (ops := RA Try.f36 [1, 1, 1, 0, 1, 1, 0, 0]) [0, 1] (by kernel_rfl) (by kernel_rfl) (by kernel_rfl) ?_
                  refine plain_batch (rest := []) [⟨0, [], none⟩, ⟨1, [], none⟩] (l' := ([(6, .int .i64 7), (35, .int .i64 7), (0, .pointer (some ⟨b, 0, none⟩)), (1, .agg #[.int .i64 x, .int .i64 y, .int .u32 z]), (2, .func (Fn.func 37) #[] #[.pointer (some ⟨c2, 0, none⟩), .pointer (some ⟨c3, 0, none⟩), .pointer (some ⟨c6, 0, none⟩)]), (4, .pointer (some ⟨r4, 0, none⟩)), (6, .int .i64 0), (7, .pointer (some ⟨r8, 0, none⟩)), (8, .int .i64 7), (14, .bool false), (18, .bool false), (34, .bool true)] : Fr) ++ lr67) (pts' := []) (eqs := []) (by kernel_rfl) trivial (AllC_nil _) ?_
                  refine PO.mk ?_
                  change WP _ _ (CA Try.f36 [1, 1, 1, 0, 1, 1, 0, 1]) _ _ _
                  refine fk_cut ([(0, .pointer (some ⟨b, 0, none⟩)), (1, .agg #[.int .i64 x, .int .i64 y, .int .u32 z]), (2, .func (Fn.func 37) #[] #[.pointer (some ⟨c2, 0, none⟩), .pointer (some ⟨c3, 0, none⟩), .pointer (some ⟨c6, 0, none⟩)]), (4, .pointer (some ⟨r4, 0, none⟩)), (6, .int .i64 7), (7, .pointer (some ⟨r8, 0, none⟩)), (8, .int .i64 7), (14, .bool false), (18, .bool false), (34, .bool true)] : Fr) (by kernel_rfl) (fun a => WP _ _ _ _ a _) (fun lr68 => ?_)
                  refine gi_rt (by kernel_rfl) ?_
                  repeat (first | simp only [Exit.inBlock] | simp only [Exit.then])
                  have he_ : errA A (x, y, z) = 7 := chk_stale A (by omega) (by omega) (by omega) (by omega) hx35 (by omega)
                  have hc_ : numM A E (x, y, z) = 0 := num_no he_ (by decide)
                  have h69 : sat g w63 [Cl c2 [.pointer (some ⟨b, 0, none⟩)] 24, Cl c3 [.int .i64 x, .int .i64 y, .int .u32 z] 28, Cl c6 [.int .i64 0] 3, Cl b [.pointer (some ⟨s, 0, none⟩), .map (some m)] 63, Tb s n A, Mp m E, Cl r8 [.int .i64 y, .int .u32 z] 79, Cl r4 [.int .i64 x, .int .i64 y, .int .u32 z] 28, R] := sat_sel [4, 5, 6, 1, 0, 7, 2, 3, 8] rfl h65
                  have h70 : sat g w63 [Cl c2 [.pointer (some ⟨b, 0, none⟩)] 24, Cl c3 [.int .i64 x, .int .i64 y, .int .u32 z] 28, Cl c6 [.int .i64 0] 3, Cl b [.pointer (some ⟨s, 0, none⟩), .map (some m)] 63, Tb s n A, Mp m E, R] := sat_sel [0, 1, 2, 3, 4, 5, 8] rfl h69
                  refine hi_out [] (.int .i64 7) [] (by kernel_rfl) (by intro q hq; cases hq) ?_
                  exact ⟨.int .i64 7, [Cl c2 [.pointer (some ⟨b, 0, none⟩)] 24, Cl c3 [.int .i64 x, .int .i64 y, .int .u32 z] 28, Cl c6 [.int .i64 0] 3, Cl b [.pointer (some ⟨s, 0, none⟩), .map (some m)] 63, Tb s n A, Mp m E], rfl, ⟨by rw [he_], by rw [hc_]⟩, h70⟩
              ·
                have h71 : sat g w29 [Tb s n A, Cl b [.pointer (some ⟨s, 0, none⟩), .map (some m)] 63, Cl r8 [.int .i64 y, .int .u32 z] 79, Cl r4 [.int .i64 x, .int .i64 y, .int .u32 z] 28, Cl c2 [.pointer (some ⟨b, 0, none⟩)] 24, Cl c3 [.int .i64 x, .int .i64 y, .int .u32 z] 28, Cl c6 [.int .i64 0] 3, Mp m E, R] := sat_sel [6, 0, 1, 2, 3, 4, 5, 7, 8] rfl h30
                refine draw_act (i := 5) [] (by kernel_rfl) (by kernel_rfl) ?_
                refine an_call (d := some 32) (f := 54) (args := [.pointer (some ⟨s, 0, none⟩), .agg #[.int .i64 y, .int .u32 z]]) (by kernel_rfl) Try.call54 (check_range s n A y z (by omega)) (F := [Cl b [.pointer (some ⟨s, 0, none⟩), .map (some m)] 63, Cl r8 [.int .i64 y, .int .u32 z] 79, Cl r4 [.int .i64 x, .int .i64 y, .int .u32 z] 28, Cl c2 [.pointer (some ⟨b, 0, none⟩)] 24, Cl c3 [.int .i64 x, .int .i64 y, .int .u32 z] 28, Cl c6 [.int .i64 0] 3, Mp m E, R]) h71 ?_
                rintro v K w72 (⟨rfl, rfl⟩) h73
                refine ⟨_, rfl, ?_⟩
                have h74 : sat g w72 [Tb s n A, Cl b [.pointer (some ⟨s, 0, none⟩), .map (some m)] 63, Cl r8 [.int .i64 y, .int .u32 z] 79, Cl r4 [.int .i64 x, .int .i64 y, .int .u32 z] 28, Cl c2 [.pointer (some ⟨b, 0, none⟩)] 24, Cl c3 [.int .i64 x, .int .i64 y, .int .u32 z] 28, Cl c6 [.int .i64 0] 3, Mp m E, R] := h73
                refine ⟨(AllC_nil _), ?_⟩
                refine draw_batch (t := Tr.nil) [⟨6, [], none⟩] (l' := ([(8, .int .i64 3), (32, .int .i64 3), (31, .agg #[.int .i64 y, .int .u32 z]), (30, .pointer (some ⟨s, 0, none⟩)), (29, .pointer (some ⟨b, 0, none⟩)), (28, .pointer (some ⟨b, 0, none⟩)), (27, .pointer (some ⟨b, 0, none⟩)), (0, .pointer (some ⟨b, 0, none⟩)), (1, .agg #[.int .i64 x, .int .i64 y, .int .u32 z]), (2, .func (Fn.func 37) #[] #[.pointer (some ⟨c2, 0, none⟩), .pointer (some ⟨c3, 0, none⟩), .pointer (some ⟨c6, 0, none⟩)]), (4, .pointer (some ⟨r4, 0, none⟩)), (6, .int .i64 0), (7, .pointer (some ⟨r8, 0, none⟩)), (14, .bool false), (18, .bool false)] : Fr) ++ lr28) (pts' := []) (eqs := []) (by kernel_rfl) trivial (AllC_nil _) ?_
                change WP _ _ (CA Try.f36 [1, 1, 1, 0, 1]) _ _ _
                refine fk_cut ([(0, .pointer (some ⟨b, 0, none⟩)), (1, .agg #[.int .i64 x, .int .i64 y, .int .u32 z]), (2, .func (Fn.func 37) #[] #[.pointer (some ⟨c2, 0, none⟩), .pointer (some ⟨c3, 0, none⟩), .pointer (some ⟨c6, 0, none⟩)]), (4, .pointer (some ⟨r4, 0, none⟩)), (6, .int .i64 0), (7, .pointer (some ⟨r8, 0, none⟩)), (8, .int .i64 3), (14, .bool false), (18, .bool false)] : Fr) (by kernel_rfl) (fun a => WP _ _ _ _ a _) (fun lr75 => ?_)
                refine gi_seq (x := CA Try.f36 [1, 1, 1, 0, 1, 0]) (y := CA Try.f36 [1, 1, 1, 0, 1, 1]) (by kernel_rfl) ?_
                refine gi_pln (id := 7) (ops := RA Try.f36 [1, 1, 1, 0, 1, 0]) [0, 1] (by kernel_rfl) (by kernel_rfl) (by kernel_rfl) ?_
                refine plain_batch (rest := []) [⟨0, [], none⟩, ⟨1, [], none⟩] (l' := ([(34, .bool true), (33, .int .i64 3), (0, .pointer (some ⟨b, 0, none⟩)), (1, .agg #[.int .i64 x, .int .i64 y, .int .u32 z]), (2, .func (Fn.func 37) #[] #[.pointer (some ⟨c2, 0, none⟩), .pointer (some ⟨c3, 0, none⟩), .pointer (some ⟨c6, 0, none⟩)]), (4, .pointer (some ⟨r4, 0, none⟩)), (6, .int .i64 0), (7, .pointer (some ⟨r8, 0, none⟩)), (8, .int .i64 3), (14, .bool false), (18, .bool false)] : Fr) ++ lr75) (pts' := []) (eqs := []) (by kernel_rfl) trivial (AllC_nil _) ?_
                refine PO.mk ?_
                change WP _ _ (CA Try.f36 [1, 1, 1, 0, 1, 1]) _ _ _
                refine fk_cut ([(0, .pointer (some ⟨b, 0, none⟩)), (1, .agg #[.int .i64 x, .int .i64 y, .int .u32 z]), (2, .func (Fn.func 37) #[] #[.pointer (some ⟨c2, 0, none⟩), .pointer (some ⟨c3, 0, none⟩), .pointer (some ⟨c6, 0, none⟩)]), (4, .pointer (some ⟨r4, 0, none⟩)), (6, .int .i64 0), (7, .pointer (some ⟨r8, 0, none⟩)), (8, .int .i64 3), (14, .bool false), (18, .bool false), (34, .bool true)] : Fr) (by kernel_rfl) (fun a => WP _ _ _ _ a _) (fun lr76 => ?_)
                refine gi_cnd (x := (Operand.tmp 34)) (s := CA Try.f36 [1, 1, 1, 0, 1, 1, 0]) (t := CA Try.f36 [1, 1, 1, 0, 1, 1, 1]) true (by kernel_rfl) (by kernel_rfl) ?_
                change WP _ _ (CA Try.f36 [1, 1, 1, 0, 1, 1, 0]) _ _ _
                refine gi_seq (x := CA Try.f36 [1, 1, 1, 0, 1, 1, 0, 0]) (y := CA Try.f36 [1, 1, 1, 0, 1, 1, 0, 1]) (by kernel_rfl) ?_
                refine gi_pln (id := 8) (ops := RA Try.f36 [1, 1, 1, 0, 1, 1, 0, 0]) [0, 1] (by kernel_rfl) (by kernel_rfl) (by kernel_rfl) ?_
                refine plain_batch (rest := []) [⟨0, [], none⟩, ⟨1, [], none⟩] (l' := ([(6, .int .i64 3), (35, .int .i64 3), (0, .pointer (some ⟨b, 0, none⟩)), (1, .agg #[.int .i64 x, .int .i64 y, .int .u32 z]), (2, .func (Fn.func 37) #[] #[.pointer (some ⟨c2, 0, none⟩), .pointer (some ⟨c3, 0, none⟩), .pointer (some ⟨c6, 0, none⟩)]), (4, .pointer (some ⟨r4, 0, none⟩)), (6, .int .i64 0), (7, .pointer (some ⟨r8, 0, none⟩)), (8, .int .i64 3), (14, .bool false), (18, .bool false), (34, .bool true)] : Fr) ++ lr76) (pts' := []) (eqs := []) (by kernel_rfl) trivial (AllC_nil _) ?_
                refine PO.mk ?_
                change WP _ _ (CA Try.f36 [1, 1, 1, 0, 1, 1, 0, 1]) _ _ _
                refine fk_cut ([(0, .pointer (some ⟨b, 0, none⟩)), (1, .agg #[.int .i64 x, .int .i64 y, .int .u32 z]), (2, .func (Fn.func 37) #[] #[.pointer (some ⟨c2, 0, none⟩), .pointer (some ⟨c3, 0, none⟩), .pointer (some ⟨c6, 0, none⟩)]), (4, .pointer (some ⟨r4, 0, none⟩)), (6, .int .i64 3), (7, .pointer (some ⟨r8, 0, none⟩)), (8, .int .i64 3), (14, .bool false), (18, .bool false), (34, .bool true)] : Fr) (by kernel_rfl) (fun a => WP _ _ _ _ a _) (fun lr77 => ?_)
                refine gi_rt (by kernel_rfl) ?_
                repeat (first | simp only [Exit.inBlock] | simp only [Exit.then])
                have he_ : errA A (x, y, z) = 3 := chk_range A hAl_ (by omega) (by omega) (by omega) (by omega) (by omega)
                have hc_ : numM A E (x, y, z) = 0 := num_no he_ (by decide)
                have h78 : sat g w72 [Cl c2 [.pointer (some ⟨b, 0, none⟩)] 24, Cl c3 [.int .i64 x, .int .i64 y, .int .u32 z] 28, Cl c6 [.int .i64 0] 3, Cl b [.pointer (some ⟨s, 0, none⟩), .map (some m)] 63, Tb s n A, Mp m E, Cl r8 [.int .i64 y, .int .u32 z] 79, Cl r4 [.int .i64 x, .int .i64 y, .int .u32 z] 28, R] := sat_sel [4, 5, 6, 1, 0, 7, 2, 3, 8] rfl h74
                have h79 : sat g w72 [Cl c2 [.pointer (some ⟨b, 0, none⟩)] 24, Cl c3 [.int .i64 x, .int .i64 y, .int .u32 z] 28, Cl c6 [.int .i64 0] 3, Cl b [.pointer (some ⟨s, 0, none⟩), .map (some m)] 63, Tb s n A, Mp m E, R] := sat_sel [0, 1, 2, 3, 4, 5, 8] rfl h78
                refine hi_out [] (.int .i64 3) [] (by kernel_rfl) (by intro q hq; cases hq) ?_
                exact ⟨.int .i64 3, [Cl c2 [.pointer (some ⟨b, 0, none⟩)] 24, Cl c3 [.int .i64 x, .int .i64 y, .int .u32 z] 28, Cl c6 [.int .i64 0] 3, Cl b [.pointer (some ⟨s, 0, none⟩), .map (some m)] 63, Tb s n A, Mp m E], rfl, ⟨by rw [he_], by rw [hc_]⟩, h79⟩
            ·
              refine plain_batch (rest := []) [⟨6, [], some (.bool true)⟩, ⟨7, [], none⟩, ⟨8, [], none⟩] (l' := ([(18, .bool true), (26, .bool true), (25, .bool true), (24, .int .i64 x), (23, .pointer (some ⟨r4, 0, none⟩)), (22, .bool false), (21, .bool false), (20, .int .i64 0), (19, .agg #[.int .i64 x, .int .i64 y, .int .u32 z]), (0, .pointer (some ⟨b, 0, none⟩)), (1, .agg #[.int .i64 x, .int .i64 y, .int .u32 z]), (2, .func (Fn.func 37) #[] #[.pointer (some ⟨c2, 0, none⟩), .pointer (some ⟨c3, 0, none⟩), .pointer (some ⟨c6, 0, none⟩)]), (4, .pointer (some ⟨r4, 0, none⟩)), (6, .int .i64 0), (7, .pointer (some ⟨r8, 0, none⟩)), (14, .bool false)] : Fr) ++ lr18) (pts' := []) (eqs := [(.bool (x != 1), .bool true)]) (by kernel_rfl) ⟨(ov_nt (by omega)), trivial⟩ (AllC_nil _) ?_
              refine PO.mk ?_
              change WP _ _ (CA Try.f36 [1, 1, 0, 0, 1, 1, 1]) _ _ _
              refine fk_cut ([(0, .pointer (some ⟨b, 0, none⟩)), (1, .agg #[.int .i64 x, .int .i64 y, .int .u32 z]), (2, .func (Fn.func 37) #[] #[.pointer (some ⟨c2, 0, none⟩), .pointer (some ⟨c3, 0, none⟩), .pointer (some ⟨c6, 0, none⟩)]), (4, .pointer (some ⟨r4, 0, none⟩)), (6, .int .i64 0), (7, .pointer (some ⟨r8, 0, none⟩)), (14, .bool false), (18, .bool true)] : Fr) (by kernel_rfl) (fun a => WP _ _ _ _ a _) (fun lr80 => ?_)
              refine gi_cnd (x := (Operand.tmp 18)) (s := CA Try.f36 [1, 1, 0, 0, 1, 1, 1, 0]) (t := CA Try.f36 [1, 1, 0, 0, 1, 1, 1, 1]) true (by kernel_rfl) (by kernel_rfl) ?_
              change WP _ _ (CA Try.f36 [1, 1, 0, 0, 1, 1, 1, 0]) _ _ _
              refine gi_seq (x := CA Try.f36 [1, 1, 0, 0, 1, 1, 1, 0, 0]) (y := CA Try.f36 [1, 1, 0, 0, 1, 1, 1, 0, 1]) (by kernel_rfl) ?_
              refine gi_pln (id := 5) (ops := RA Try.f36 [1, 1, 0, 0, 1, 1, 1, 0, 0]) [0] (by kernel_rfl) (by kernel_rfl) (by kernel_rfl) ?_
              refine plain_batch (rest := []) [⟨0, [], none⟩] (l' := ([(6, .int .i64 2), (0, .pointer (some ⟨b, 0, none⟩)), (1, .agg #[.int .i64 x, .int .i64 y, .int .u32 z]), (2, .func (Fn.func 37) #[] #[.pointer (some ⟨c2, 0, none⟩), .pointer (some ⟨c3, 0, none⟩), .pointer (some ⟨c6, 0, none⟩)]), (4, .pointer (some ⟨r4, 0, none⟩)), (6, .int .i64 0), (7, .pointer (some ⟨r8, 0, none⟩)), (14, .bool false), (18, .bool true)] : Fr) ++ lr80) (pts' := []) (eqs := []) (by kernel_rfl) trivial (AllC_nil _) ?_
              refine PO.mk ?_
              change WP _ _ (CA Try.f36 [1, 1, 0, 0, 1, 1, 1, 0, 1]) _ _ _
              refine fk_cut ([(0, .pointer (some ⟨b, 0, none⟩)), (1, .agg #[.int .i64 x, .int .i64 y, .int .u32 z]), (2, .func (Fn.func 37) #[] #[.pointer (some ⟨c2, 0, none⟩), .pointer (some ⟨c3, 0, none⟩), .pointer (some ⟨c6, 0, none⟩)]), (4, .pointer (some ⟨r4, 0, none⟩)), (6, .int .i64 2), (7, .pointer (some ⟨r8, 0, none⟩)), (14, .bool false), (18, .bool true)] : Fr) (by kernel_rfl) (fun a => WP _ _ _ _ a _) (fun lr81 => ?_)
              refine gi_rt (by kernel_rfl) ?_
              repeat (first | simp only [Exit.inBlock] | simp only [Exit.then])
              have he_ : errA A (x, y, z) = 2 := chk_arg A (by omega)
              have hc_ : numM A E (x, y, z) = 0 := num_no he_ (by decide)
              have h82 : sat g w24 [Cl c2 [.pointer (some ⟨b, 0, none⟩)] 24, Cl c3 [.int .i64 x, .int .i64 y, .int .u32 z] 28, Cl c6 [.int .i64 0] 3, Cl b [.pointer (some ⟨s, 0, none⟩), .map (some m)] 63, Tb s n A, Mp m E, Cl r8 [.int .i64 y, .int .u32 z] 79, Cl r4 [.int .i64 x, .int .i64 y, .int .u32 z] 28, R] := sat_sel [3, 4, 5, 0, 6, 7, 1, 2, 8] rfl h26
              have h83 : sat g w24 [Cl c2 [.pointer (some ⟨b, 0, none⟩)] 24, Cl c3 [.int .i64 x, .int .i64 y, .int .u32 z] 28, Cl c6 [.int .i64 0] 3, Cl b [.pointer (some ⟨s, 0, none⟩), .map (some m)] 63, Tb s n A, Mp m E, R] := sat_sel [0, 1, 2, 3, 4, 5, 8] rfl h82
              refine hi_out [] (.int .i64 2) [] (by kernel_rfl) (by intro q hq; cases hq) ?_
              exact ⟨.int .i64 2, [Cl c2 [.pointer (some ⟨b, 0, none⟩)] 24, Cl c3 [.int .i64 x, .int .i64 y, .int .u32 z] 28, Cl c6 [.int .i64 0] 3, Cl b [.pointer (some ⟨s, 0, none⟩), .map (some m)] 63, Tb s n A, Mp m E], rfl, ⟨by rw [he_], by rw [hc_]⟩, h83⟩
          ·
            refine plain_act (i := 1) (by kernel_rfl) ?_
            refine an_call (d := some 20) (f := 53) (args := [.agg #[.int .i64 x, .int .i64 y, .int .u32 z]]) (by kernel_rfl) Try.call53 (couter_no x y z (by omega) (by omega) (by omega)) (F := [Cl b [.pointer (some ⟨s, 0, none⟩), .map (some m)] 63, Cl r8 [.int .i64 y, .int .u32 z] 79, Cl r4 [.int .i64 x, .int .i64 y, .int .u32 z] 28, Cl c2 [.pointer (some ⟨b, 0, none⟩)] 24, Cl c3 [.int .i64 x, .int .i64 y, .int .u32 z] 28, Cl c6 [.int .i64 0] 3, Tb s n A, Mp m E, R]) h17 ?_
            rintro v K w84 (⟨rfl, rfl⟩) h85
            refine ⟨_, rfl, ?_⟩
            have h86 : sat g w84 [Cl b [.pointer (some ⟨s, 0, none⟩), .map (some m)] 63, Cl r8 [.int .i64 y, .int .u32 z] 79, Cl r4 [.int .i64 x, .int .i64 y, .int .u32 z] 28, Cl c2 [.pointer (some ⟨b, 0, none⟩)] 24, Cl c3 [.int .i64 x, .int .i64 y, .int .u32 z] 28, Cl c6 [.int .i64 0] 3, Tb s n A, Mp m E, R] := h85
            refine plain_batch (rest := []) [⟨2, [], none⟩, ⟨3, [], none⟩, ⟨4, [], none⟩, ⟨5, [], none⟩, ⟨6, [], none⟩, ⟨7, [], none⟩, ⟨8, [], none⟩] (l' := ([(18, .bool true), (26, .bool true), (25, undef), (24, undef), (23, undef), (22, .bool true), (21, .bool true), (20, .int .i64 2), (19, .agg #[.int .i64 x, .int .i64 y, .int .u32 z]), (0, .pointer (some ⟨b, 0, none⟩)), (1, .agg #[.int .i64 x, .int .i64 y, .int .u32 z]), (2, .func (Fn.func 37) #[] #[.pointer (some ⟨c2, 0, none⟩), .pointer (some ⟨c3, 0, none⟩), .pointer (some ⟨c6, 0, none⟩)]), (4, .pointer (some ⟨r4, 0, none⟩)), (6, .int .i64 0), (7, .pointer (some ⟨r8, 0, none⟩)), (14, .bool false)] : Fr) ++ lr18) (pts' := []) (eqs := []) (by kernel_rfl) trivial (AllC_nil _) ?_
            refine PO.mk ?_
            change WP _ _ (CA Try.f36 [1, 1, 0, 0, 1, 1, 1]) _ _ _
            refine fk_cut ([(0, .pointer (some ⟨b, 0, none⟩)), (1, .agg #[.int .i64 x, .int .i64 y, .int .u32 z]), (2, .func (Fn.func 37) #[] #[.pointer (some ⟨c2, 0, none⟩), .pointer (some ⟨c3, 0, none⟩), .pointer (some ⟨c6, 0, none⟩)]), (4, .pointer (some ⟨r4, 0, none⟩)), (6, .int .i64 0), (7, .pointer (some ⟨r8, 0, none⟩)), (14, .bool false), (18, .bool true)] : Fr) (by kernel_rfl) (fun a => WP _ _ _ _ a _) (fun lr87 => ?_)
            refine gi_cnd (x := (Operand.tmp 18)) (s := CA Try.f36 [1, 1, 0, 0, 1, 1, 1, 0]) (t := CA Try.f36 [1, 1, 0, 0, 1, 1, 1, 1]) true (by kernel_rfl) (by kernel_rfl) ?_
            change WP _ _ (CA Try.f36 [1, 1, 0, 0, 1, 1, 1, 0]) _ _ _
            refine gi_seq (x := CA Try.f36 [1, 1, 0, 0, 1, 1, 1, 0, 0]) (y := CA Try.f36 [1, 1, 0, 0, 1, 1, 1, 0, 1]) (by kernel_rfl) ?_
            refine gi_pln (id := 5) (ops := RA Try.f36 [1, 1, 0, 0, 1, 1, 1, 0, 0]) [0] (by kernel_rfl) (by kernel_rfl) (by kernel_rfl) ?_
            refine plain_batch (rest := []) [⟨0, [], none⟩] (l' := ([(6, .int .i64 2), (0, .pointer (some ⟨b, 0, none⟩)), (1, .agg #[.int .i64 x, .int .i64 y, .int .u32 z]), (2, .func (Fn.func 37) #[] #[.pointer (some ⟨c2, 0, none⟩), .pointer (some ⟨c3, 0, none⟩), .pointer (some ⟨c6, 0, none⟩)]), (4, .pointer (some ⟨r4, 0, none⟩)), (6, .int .i64 0), (7, .pointer (some ⟨r8, 0, none⟩)), (14, .bool false), (18, .bool true)] : Fr) ++ lr87) (pts' := []) (eqs := []) (by kernel_rfl) trivial (AllC_nil _) ?_
            refine PO.mk ?_
            change WP _ _ (CA Try.f36 [1, 1, 0, 0, 1, 1, 1, 0, 1]) _ _ _
            refine fk_cut ([(0, .pointer (some ⟨b, 0, none⟩)), (1, .agg #[.int .i64 x, .int .i64 y, .int .u32 z]), (2, .func (Fn.func 37) #[] #[.pointer (some ⟨c2, 0, none⟩), .pointer (some ⟨c3, 0, none⟩), .pointer (some ⟨c6, 0, none⟩)]), (4, .pointer (some ⟨r4, 0, none⟩)), (6, .int .i64 2), (7, .pointer (some ⟨r8, 0, none⟩)), (14, .bool false), (18, .bool true)] : Fr) (by kernel_rfl) (fun a => WP _ _ _ _ a _) (fun lr88 => ?_)
            refine gi_rt (by kernel_rfl) ?_
            repeat (first | simp only [Exit.inBlock] | simp only [Exit.then])
            have he_ : errA A (x, y, z) = 2 := chk_arg A (by omega)
            have hc_ : numM A E (x, y, z) = 0 := num_no he_ (by decide)
            have h89 : sat g w84 [Cl c2 [.pointer (some ⟨b, 0, none⟩)] 24, Cl c3 [.int .i64 x, .int .i64 y, .int .u32 z] 28, Cl c6 [.int .i64 0] 3, Cl b [.pointer (some ⟨s, 0, none⟩), .map (some m)] 63, Tb s n A, Mp m E, Cl r8 [.int .i64 y, .int .u32 z] 79, Cl r4 [.int .i64 x, .int .i64 y, .int .u32 z] 28, R] := sat_sel [3, 4, 5, 0, 6, 7, 1, 2, 8] rfl h86
            have h90 : sat g w84 [Cl c2 [.pointer (some ⟨b, 0, none⟩)] 24, Cl c3 [.int .i64 x, .int .i64 y, .int .u32 z] 28, Cl c6 [.int .i64 0] 3, Cl b [.pointer (some ⟨s, 0, none⟩), .map (some m)] 63, Tb s n A, Mp m E, R] := sat_sel [0, 1, 2, 3, 4, 5, 8] rfl h89
            refine hi_out [] (.int .i64 2) [] (by kernel_rfl) (by intro q hq; cases hq) ?_
            exact ⟨.int .i64 2, [Cl c2 [.pointer (some ⟨b, 0, none⟩)] 24, Cl c3 [.int .i64 x, .int .i64 y, .int .u32 z] 28, Cl c6 [.int .i64 0] 3, Cl b [.pointer (some ⟨s, 0, none⟩), .map (some m)] 63, Tb s n A, Mp m E], rfl, ⟨by rw [he_], by rw [hc_]⟩, h90⟩
        ·
          refine plain_act (i := 1) (by kernel_rfl) ?_
          refine an_call (d := some 20) (f := 53) (args := [.agg #[.int .i64 x, .int .i64 y, .int .u32 z]]) (by kernel_rfl) Try.call53 (couter_no x y z (by omega) (by omega) (by omega)) (F := [Cl b [.pointer (some ⟨s, 0, none⟩), .map (some m)] 63, Cl r8 [.int .i64 y, .int .u32 z] 79, Cl r4 [.int .i64 x, .int .i64 y, .int .u32 z] 28, Cl c2 [.pointer (some ⟨b, 0, none⟩)] 24, Cl c3 [.int .i64 x, .int .i64 y, .int .u32 z] 28, Cl c6 [.int .i64 0] 3, Tb s n A, Mp m E, R]) h17 ?_
          rintro v K w91 (⟨rfl, rfl⟩) h92
          refine ⟨_, rfl, ?_⟩
          have h93 : sat g w91 [Cl b [.pointer (some ⟨s, 0, none⟩), .map (some m)] 63, Cl r8 [.int .i64 y, .int .u32 z] 79, Cl r4 [.int .i64 x, .int .i64 y, .int .u32 z] 28, Cl c2 [.pointer (some ⟨b, 0, none⟩)] 24, Cl c3 [.int .i64 x, .int .i64 y, .int .u32 z] 28, Cl c6 [.int .i64 0] 3, Tb s n A, Mp m E, R] := h92
          refine plain_batch (rest := []) [⟨2, [], none⟩, ⟨3, [], none⟩, ⟨4, [], none⟩, ⟨5, [], none⟩, ⟨6, [], none⟩, ⟨7, [], none⟩, ⟨8, [], none⟩] (l' := ([(18, .bool true), (26, .bool true), (25, undef), (24, undef), (23, undef), (22, .bool true), (21, .bool true), (20, .int .i64 2), (19, .agg #[.int .i64 x, .int .i64 y, .int .u32 z]), (0, .pointer (some ⟨b, 0, none⟩)), (1, .agg #[.int .i64 x, .int .i64 y, .int .u32 z]), (2, .func (Fn.func 37) #[] #[.pointer (some ⟨c2, 0, none⟩), .pointer (some ⟨c3, 0, none⟩), .pointer (some ⟨c6, 0, none⟩)]), (4, .pointer (some ⟨r4, 0, none⟩)), (6, .int .i64 0), (7, .pointer (some ⟨r8, 0, none⟩)), (14, .bool false)] : Fr) ++ lr18) (pts' := []) (eqs := []) (by kernel_rfl) trivial (AllC_nil _) ?_
          refine PO.mk ?_
          change WP _ _ (CA Try.f36 [1, 1, 0, 0, 1, 1, 1]) _ _ _
          refine fk_cut ([(0, .pointer (some ⟨b, 0, none⟩)), (1, .agg #[.int .i64 x, .int .i64 y, .int .u32 z]), (2, .func (Fn.func 37) #[] #[.pointer (some ⟨c2, 0, none⟩), .pointer (some ⟨c3, 0, none⟩), .pointer (some ⟨c6, 0, none⟩)]), (4, .pointer (some ⟨r4, 0, none⟩)), (6, .int .i64 0), (7, .pointer (some ⟨r8, 0, none⟩)), (14, .bool false), (18, .bool true)] : Fr) (by kernel_rfl) (fun a => WP _ _ _ _ a _) (fun lr94 => ?_)
          refine gi_cnd (x := (Operand.tmp 18)) (s := CA Try.f36 [1, 1, 0, 0, 1, 1, 1, 0]) (t := CA Try.f36 [1, 1, 0, 0, 1, 1, 1, 1]) true (by kernel_rfl) (by kernel_rfl) ?_
          change WP _ _ (CA Try.f36 [1, 1, 0, 0, 1, 1, 1, 0]) _ _ _
          refine gi_seq (x := CA Try.f36 [1, 1, 0, 0, 1, 1, 1, 0, 0]) (y := CA Try.f36 [1, 1, 0, 0, 1, 1, 1, 0, 1]) (by kernel_rfl) ?_
          refine gi_pln (id := 5) (ops := RA Try.f36 [1, 1, 0, 0, 1, 1, 1, 0, 0]) [0] (by kernel_rfl) (by kernel_rfl) (by kernel_rfl) ?_
          refine plain_batch (rest := []) [⟨0, [], none⟩] (l' := ([(6, .int .i64 2), (0, .pointer (some ⟨b, 0, none⟩)), (1, .agg #[.int .i64 x, .int .i64 y, .int .u32 z]), (2, .func (Fn.func 37) #[] #[.pointer (some ⟨c2, 0, none⟩), .pointer (some ⟨c3, 0, none⟩), .pointer (some ⟨c6, 0, none⟩)]), (4, .pointer (some ⟨r4, 0, none⟩)), (6, .int .i64 0), (7, .pointer (some ⟨r8, 0, none⟩)), (14, .bool false), (18, .bool true)] : Fr) ++ lr94) (pts' := []) (eqs := []) (by kernel_rfl) trivial (AllC_nil _) ?_
          refine PO.mk ?_
          change WP _ _ (CA Try.f36 [1, 1, 0, 0, 1, 1, 1, 0, 1]) _ _ _
          refine fk_cut ([(0, .pointer (some ⟨b, 0, none⟩)), (1, .agg #[.int .i64 x, .int .i64 y, .int .u32 z]), (2, .func (Fn.func 37) #[] #[.pointer (some ⟨c2, 0, none⟩), .pointer (some ⟨c3, 0, none⟩), .pointer (some ⟨c6, 0, none⟩)]), (4, .pointer (some ⟨r4, 0, none⟩)), (6, .int .i64 2), (7, .pointer (some ⟨r8, 0, none⟩)), (14, .bool false), (18, .bool true)] : Fr) (by kernel_rfl) (fun a => WP _ _ _ _ a _) (fun lr95 => ?_)
          refine gi_rt (by kernel_rfl) ?_
          repeat (first | simp only [Exit.inBlock] | simp only [Exit.then])
          have he_ : errA A (x, y, z) = 2 := chk_arg A (by omega)
          have hc_ : numM A E (x, y, z) = 0 := num_no he_ (by decide)
          have h96 : sat g w91 [Cl c2 [.pointer (some ⟨b, 0, none⟩)] 24, Cl c3 [.int .i64 x, .int .i64 y, .int .u32 z] 28, Cl c6 [.int .i64 0] 3, Cl b [.pointer (some ⟨s, 0, none⟩), .map (some m)] 63, Tb s n A, Mp m E, Cl r8 [.int .i64 y, .int .u32 z] 79, Cl r4 [.int .i64 x, .int .i64 y, .int .u32 z] 28, R] := sat_sel [3, 4, 5, 0, 6, 7, 1, 2, 8] rfl h93
          have h97 : sat g w91 [Cl c2 [.pointer (some ⟨b, 0, none⟩)] 24, Cl c3 [.int .i64 x, .int .i64 y, .int .u32 z] 28, Cl c6 [.int .i64 0] 3, Cl b [.pointer (some ⟨s, 0, none⟩), .map (some m)] 63, Tb s n A, Mp m E, R] := sat_sel [0, 1, 2, 3, 4, 5, 8] rfl h96
          refine hi_out [] (.int .i64 2) [] (by kernel_rfl) (by intro q hq; cases hq) ?_
          exact ⟨.int .i64 2, [Cl c2 [.pointer (some ⟨b, 0, none⟩)] 24, Cl c3 [.int .i64 x, .int .i64 y, .int .u32 z] 28, Cl c6 [.int .i64 0] 3, Cl b [.pointer (some ⟨s, 0, none⟩), .map (some m)] 63, Tb s n A, Mp m E], rfl, ⟨by rw [he_], by rw [hc_]⟩, h97⟩
      ·
        refine plain_act (i := 1) (by kernel_rfl) ?_
        refine an_call (d := some 20) (f := 53) (args := [.agg #[.int .i64 x, .int .i64 y, .int .u32 z]]) (by kernel_rfl) Try.call53 (couter_no x y z (by omega) (by omega) (by omega)) (F := [Cl b [.pointer (some ⟨s, 0, none⟩), .map (some m)] 63, Cl r8 [.int .i64 y, .int .u32 z] 79, Cl r4 [.int .i64 x, .int .i64 y, .int .u32 z] 28, Cl c2 [.pointer (some ⟨b, 0, none⟩)] 24, Cl c3 [.int .i64 x, .int .i64 y, .int .u32 z] 28, Cl c6 [.int .i64 0] 3, Tb s n A, Mp m E, R]) h17 ?_
        rintro v K w98 (⟨rfl, rfl⟩) h99
        refine ⟨_, rfl, ?_⟩
        have h100 : sat g w98 [Cl b [.pointer (some ⟨s, 0, none⟩), .map (some m)] 63, Cl r8 [.int .i64 y, .int .u32 z] 79, Cl r4 [.int .i64 x, .int .i64 y, .int .u32 z] 28, Cl c2 [.pointer (some ⟨b, 0, none⟩)] 24, Cl c3 [.int .i64 x, .int .i64 y, .int .u32 z] 28, Cl c6 [.int .i64 0] 3, Tb s n A, Mp m E, R] := h99
        refine plain_batch (rest := []) [⟨2, [], none⟩, ⟨3, [], none⟩, ⟨4, [], none⟩, ⟨5, [], none⟩, ⟨6, [], none⟩, ⟨7, [], none⟩, ⟨8, [], none⟩] (l' := ([(18, .bool true), (26, .bool true), (25, undef), (24, undef), (23, undef), (22, .bool true), (21, .bool true), (20, .int .i64 2), (19, .agg #[.int .i64 x, .int .i64 y, .int .u32 z]), (0, .pointer (some ⟨b, 0, none⟩)), (1, .agg #[.int .i64 x, .int .i64 y, .int .u32 z]), (2, .func (Fn.func 37) #[] #[.pointer (some ⟨c2, 0, none⟩), .pointer (some ⟨c3, 0, none⟩), .pointer (some ⟨c6, 0, none⟩)]), (4, .pointer (some ⟨r4, 0, none⟩)), (6, .int .i64 0), (7, .pointer (some ⟨r8, 0, none⟩)), (14, .bool false)] : Fr) ++ lr18) (pts' := []) (eqs := []) (by kernel_rfl) trivial (AllC_nil _) ?_
        refine PO.mk ?_
        change WP _ _ (CA Try.f36 [1, 1, 0, 0, 1, 1, 1]) _ _ _
        refine fk_cut ([(0, .pointer (some ⟨b, 0, none⟩)), (1, .agg #[.int .i64 x, .int .i64 y, .int .u32 z]), (2, .func (Fn.func 37) #[] #[.pointer (some ⟨c2, 0, none⟩), .pointer (some ⟨c3, 0, none⟩), .pointer (some ⟨c6, 0, none⟩)]), (4, .pointer (some ⟨r4, 0, none⟩)), (6, .int .i64 0), (7, .pointer (some ⟨r8, 0, none⟩)), (14, .bool false), (18, .bool true)] : Fr) (by kernel_rfl) (fun a => WP _ _ _ _ a _) (fun lr101 => ?_)
        refine gi_cnd (x := (Operand.tmp 18)) (s := CA Try.f36 [1, 1, 0, 0, 1, 1, 1, 0]) (t := CA Try.f36 [1, 1, 0, 0, 1, 1, 1, 1]) true (by kernel_rfl) (by kernel_rfl) ?_
        change WP _ _ (CA Try.f36 [1, 1, 0, 0, 1, 1, 1, 0]) _ _ _
        refine gi_seq (x := CA Try.f36 [1, 1, 0, 0, 1, 1, 1, 0, 0]) (y := CA Try.f36 [1, 1, 0, 0, 1, 1, 1, 0, 1]) (by kernel_rfl) ?_
        refine gi_pln (id := 5) (ops := RA Try.f36 [1, 1, 0, 0, 1, 1, 1, 0, 0]) [0] (by kernel_rfl) (by kernel_rfl) (by kernel_rfl) ?_
        refine plain_batch (rest := []) [⟨0, [], none⟩] (l' := ([(6, .int .i64 2), (0, .pointer (some ⟨b, 0, none⟩)), (1, .agg #[.int .i64 x, .int .i64 y, .int .u32 z]), (2, .func (Fn.func 37) #[] #[.pointer (some ⟨c2, 0, none⟩), .pointer (some ⟨c3, 0, none⟩), .pointer (some ⟨c6, 0, none⟩)]), (4, .pointer (some ⟨r4, 0, none⟩)), (6, .int .i64 0), (7, .pointer (some ⟨r8, 0, none⟩)), (14, .bool false), (18, .bool true)] : Fr) ++ lr101) (pts' := []) (eqs := []) (by kernel_rfl) trivial (AllC_nil _) ?_
        refine PO.mk ?_
        change WP _ _ (CA Try.f36 [1, 1, 0, 0, 1, 1, 1, 0, 1]) _ _ _
        refine fk_cut ([(0, .pointer (some ⟨b, 0, none⟩)), (1, .agg #[.int .i64 x, .int .i64 y, .int .u32 z]), (2, .func (Fn.func 37) #[] #[.pointer (some ⟨c2, 0, none⟩), .pointer (some ⟨c3, 0, none⟩), .pointer (some ⟨c6, 0, none⟩)]), (4, .pointer (some ⟨r4, 0, none⟩)), (6, .int .i64 2), (7, .pointer (some ⟨r8, 0, none⟩)), (14, .bool false), (18, .bool true)] : Fr) (by kernel_rfl) (fun a => WP _ _ _ _ a _) (fun lr102 => ?_)
        refine gi_rt (by kernel_rfl) ?_
        repeat (first | simp only [Exit.inBlock] | simp only [Exit.then])
        have he_ : errA A (x, y, z) = 2 := chk_arg A (by omega)
        have hc_ : numM A E (x, y, z) = 0 := num_no he_ (by decide)
        have h103 : sat g w98 [Cl c2 [.pointer (some ⟨b, 0, none⟩)] 24, Cl c3 [.int .i64 x, .int .i64 y, .int .u32 z] 28, Cl c6 [.int .i64 0] 3, Cl b [.pointer (some ⟨s, 0, none⟩), .map (some m)] 63, Tb s n A, Mp m E, Cl r8 [.int .i64 y, .int .u32 z] 79, Cl r4 [.int .i64 x, .int .i64 y, .int .u32 z] 28, R] := sat_sel [3, 4, 5, 0, 6, 7, 1, 2, 8] rfl h100
        have h104 : sat g w98 [Cl c2 [.pointer (some ⟨b, 0, none⟩)] 24, Cl c3 [.int .i64 x, .int .i64 y, .int .u32 z] 28, Cl c6 [.int .i64 0] 3, Cl b [.pointer (some ⟨s, 0, none⟩), .map (some m)] 63, Tb s n A, Mp m E, R] := sat_sel [0, 1, 2, 3, 4, 5, 8] rfl h103
        refine hi_out [] (.int .i64 2) [] (by kernel_rfl) (by intro q hq; cases hq) ?_
        exact ⟨.int .i64 2, [Cl c2 [.pointer (some ⟨b, 0, none⟩)] 24, Cl c3 [.int .i64 x, .int .i64 y, .int .u32 z] 28, Cl c6 [.int .i64 0] 3, Cl b [.pointer (some ⟨s, 0, none⟩), .map (some m)] 63, Tb s n A, Mp m E], rfl, ⟨by rw [he_], by rw [hc_]⟩, h104⟩
    ·
      refine plain_act (i := 1) (by kernel_rfl) ?_
      refine an_call (d := some 20) (f := 53) (args := [.agg #[.int .i64 x, .int .i64 y, .int .u32 z]]) (by kernel_rfl) Try.call53 (couter_no x y z (by omega) (by omega) (by omega)) (F := [Cl b [.pointer (some ⟨s, 0, none⟩), .map (some m)] 63, Cl r8 [.int .i64 y, .int .u32 z] 79, Cl r4 [.int .i64 x, .int .i64 y, .int .u32 z] 28, Cl c2 [.pointer (some ⟨b, 0, none⟩)] 24, Cl c3 [.int .i64 x, .int .i64 y, .int .u32 z] 28, Cl c6 [.int .i64 0] 3, Tb s n A, Mp m E, R]) h17 ?_
      rintro v K w105 (⟨rfl, rfl⟩) h106
      refine ⟨_, rfl, ?_⟩
      have h107 : sat g w105 [Cl b [.pointer (some ⟨s, 0, none⟩), .map (some m)] 63, Cl r8 [.int .i64 y, .int .u32 z] 79, Cl r4 [.int .i64 x, .int .i64 y, .int .u32 z] 28, Cl c2 [.pointer (some ⟨b, 0, none⟩)] 24, Cl c3 [.int .i64 x, .int .i64 y, .int .u32 z] 28, Cl c6 [.int .i64 0] 3, Tb s n A, Mp m E, R] := h106
      refine plain_batch (rest := []) [⟨2, [], none⟩, ⟨3, [], none⟩, ⟨4, [], none⟩, ⟨5, [], none⟩, ⟨6, [], none⟩, ⟨7, [], none⟩, ⟨8, [], none⟩] (l' := ([(18, .bool true), (26, .bool true), (25, undef), (24, undef), (23, undef), (22, .bool true), (21, .bool true), (20, .int .i64 2), (19, .agg #[.int .i64 x, .int .i64 y, .int .u32 z]), (0, .pointer (some ⟨b, 0, none⟩)), (1, .agg #[.int .i64 x, .int .i64 y, .int .u32 z]), (2, .func (Fn.func 37) #[] #[.pointer (some ⟨c2, 0, none⟩), .pointer (some ⟨c3, 0, none⟩), .pointer (some ⟨c6, 0, none⟩)]), (4, .pointer (some ⟨r4, 0, none⟩)), (6, .int .i64 0), (7, .pointer (some ⟨r8, 0, none⟩)), (14, .bool false)] : Fr) ++ lr18) (pts' := []) (eqs := []) (by kernel_rfl) trivial (AllC_nil _) ?_
      refine PO.mk ?_
      change WP _ _ (CA Try.f36 [1, 1, 0, 0, 1, 1, 1]) _ _ _
      refine fk_cut ([(0, .pointer (some ⟨b, 0, none⟩)), (1, .agg #[.int .i64 x, .int .i64 y, .int .u32 z]), (2, .func (Fn.func 37) #[] #[.pointer (some ⟨c2, 0, none⟩), .pointer (some ⟨c3, 0, none⟩), .pointer (some ⟨c6, 0, none⟩)]), (4, .pointer (some ⟨r4, 0, none⟩)), (6, .int .i64 0), (7, .pointer (some ⟨r8, 0, none⟩)), (14, .bool false), (18, .bool true)] : Fr) (by kernel_rfl) (fun a => WP _ _ _ _ a _) (fun lr108 => ?_)
      refine gi_cnd (x := (Operand.tmp 18)) (s := CA Try.f36 [1, 1, 0, 0, 1, 1, 1, 0]) (t := CA Try.f36 [1, 1, 0, 0, 1, 1, 1, 1]) true (by kernel_rfl) (by kernel_rfl) ?_
      change WP _ _ (CA Try.f36 [1, 1, 0, 0, 1, 1, 1, 0]) _ _ _
      refine gi_seq (x := CA Try.f36 [1, 1, 0, 0, 1, 1, 1, 0, 0]) (y := CA Try.f36 [1, 1, 0, 0, 1, 1, 1, 0, 1]) (by kernel_rfl) ?_
      refine gi_pln (id := 5) (ops := RA Try.f36 [1, 1, 0, 0, 1, 1, 1, 0, 0]) [0] (by kernel_rfl) (by kernel_rfl) (by kernel_rfl) ?_
      refine plain_batch (rest := []) [⟨0, [], none⟩] (l' := ([(6, .int .i64 2), (0, .pointer (some ⟨b, 0, none⟩)), (1, .agg #[.int .i64 x, .int .i64 y, .int .u32 z]), (2, .func (Fn.func 37) #[] #[.pointer (some ⟨c2, 0, none⟩), .pointer (some ⟨c3, 0, none⟩), .pointer (some ⟨c6, 0, none⟩)]), (4, .pointer (some ⟨r4, 0, none⟩)), (6, .int .i64 0), (7, .pointer (some ⟨r8, 0, none⟩)), (14, .bool false), (18, .bool true)] : Fr) ++ lr108) (pts' := []) (eqs := []) (by kernel_rfl) trivial (AllC_nil _) ?_
      refine PO.mk ?_
      change WP _ _ (CA Try.f36 [1, 1, 0, 0, 1, 1, 1, 0, 1]) _ _ _
      refine fk_cut ([(0, .pointer (some ⟨b, 0, none⟩)), (1, .agg #[.int .i64 x, .int .i64 y, .int .u32 z]), (2, .func (Fn.func 37) #[] #[.pointer (some ⟨c2, 0, none⟩), .pointer (some ⟨c3, 0, none⟩), .pointer (some ⟨c6, 0, none⟩)]), (4, .pointer (some ⟨r4, 0, none⟩)), (6, .int .i64 2), (7, .pointer (some ⟨r8, 0, none⟩)), (14, .bool false), (18, .bool true)] : Fr) (by kernel_rfl) (fun a => WP _ _ _ _ a _) (fun lr109 => ?_)
      refine gi_rt (by kernel_rfl) ?_
      repeat (first | simp only [Exit.inBlock] | simp only [Exit.then])
      have he_ : errA A (x, y, z) = 2 := chk_arg A (by omega)
      have hc_ : numM A E (x, y, z) = 0 := num_no he_ (by decide)
      have h110 : sat g w105 [Cl c2 [.pointer (some ⟨b, 0, none⟩)] 24, Cl c3 [.int .i64 x, .int .i64 y, .int .u32 z] 28, Cl c6 [.int .i64 0] 3, Cl b [.pointer (some ⟨s, 0, none⟩), .map (some m)] 63, Tb s n A, Mp m E, Cl r8 [.int .i64 y, .int .u32 z] 79, Cl r4 [.int .i64 x, .int .i64 y, .int .u32 z] 28, R] := sat_sel [3, 4, 5, 0, 6, 7, 1, 2, 8] rfl h107
      have h111 : sat g w105 [Cl c2 [.pointer (some ⟨b, 0, none⟩)] 24, Cl c3 [.int .i64 x, .int .i64 y, .int .u32 z] 28, Cl c6 [.int .i64 0] 3, Cl b [.pointer (some ⟨s, 0, none⟩), .map (some m)] 63, Tb s n A, Mp m E, R] := sat_sel [0, 1, 2, 3, 4, 5, 8] rfl h110
      refine hi_out [] (.int .i64 2) [] (by kernel_rfl) (by intro q hq; cases hq) ?_
      exact ⟨.int .i64 2, [Cl c2 [.pointer (some ⟨b, 0, none⟩)] 24, Cl c3 [.int .i64 x, .int .i64 y, .int .u32 z] 28, Cl c6 [.int .i64 0] 3, Cl b [.pointer (some ⟨s, 0, none⟩), .map (some m)] 63, Tb s n A, Mp m E], rfl, ⟨by rw [he_], by rw [hc_]⟩, h111⟩
  ·
    refine plain_act (i := 1) (by kernel_rfl) ?_
    refine an_call (d := some 20) (f := 53) (args := [.agg #[.int .i64 x, .int .i64 y, .int .u32 z]]) (by kernel_rfl) Try.call53 (couter_no x y z (by omega) (by omega) (by omega)) (F := [Cl b [.pointer (some ⟨s, 0, none⟩), .map (some m)] 63, Cl r8 [.int .i64 y, .int .u32 z] 79, Cl r4 [.int .i64 x, .int .i64 y, .int .u32 z] 28, Cl c2 [.pointer (some ⟨b, 0, none⟩)] 24, Cl c3 [.int .i64 x, .int .i64 y, .int .u32 z] 28, Cl c6 [.int .i64 0] 3, Tb s n A, Mp m E, R]) h17 ?_
    rintro v K w112 (⟨rfl, rfl⟩) h113
    refine ⟨_, rfl, ?_⟩
    have h114 : sat g w112 [Cl b [.pointer (some ⟨s, 0, none⟩), .map (some m)] 63, Cl r8 [.int .i64 y, .int .u32 z] 79, Cl r4 [.int .i64 x, .int .i64 y, .int .u32 z] 28, Cl c2 [.pointer (some ⟨b, 0, none⟩)] 24, Cl c3 [.int .i64 x, .int .i64 y, .int .u32 z] 28, Cl c6 [.int .i64 0] 3, Tb s n A, Mp m E, R] := h113
    refine plain_batch (rest := []) [⟨2, [], none⟩, ⟨3, [], none⟩, ⟨4, [], none⟩, ⟨5, [], none⟩, ⟨6, [], none⟩, ⟨7, [], none⟩, ⟨8, [], none⟩] (l' := ([(18, .bool true), (26, .bool true), (25, undef), (24, undef), (23, undef), (22, .bool true), (21, .bool true), (20, .int .i64 2), (19, .agg #[.int .i64 x, .int .i64 y, .int .u32 z]), (0, .pointer (some ⟨b, 0, none⟩)), (1, .agg #[.int .i64 x, .int .i64 y, .int .u32 z]), (2, .func (Fn.func 37) #[] #[.pointer (some ⟨c2, 0, none⟩), .pointer (some ⟨c3, 0, none⟩), .pointer (some ⟨c6, 0, none⟩)]), (4, .pointer (some ⟨r4, 0, none⟩)), (6, .int .i64 0), (7, .pointer (some ⟨r8, 0, none⟩)), (14, .bool false)] : Fr) ++ lr18) (pts' := []) (eqs := []) (by kernel_rfl) trivial (AllC_nil _) ?_
    refine PO.mk ?_
    change WP _ _ (CA Try.f36 [1, 1, 0, 0, 1, 1, 1]) _ _ _
    refine fk_cut ([(0, .pointer (some ⟨b, 0, none⟩)), (1, .agg #[.int .i64 x, .int .i64 y, .int .u32 z]), (2, .func (Fn.func 37) #[] #[.pointer (some ⟨c2, 0, none⟩), .pointer (some ⟨c3, 0, none⟩), .pointer (some ⟨c6, 0, none⟩)]), (4, .pointer (some ⟨r4, 0, none⟩)), (6, .int .i64 0), (7, .pointer (some ⟨r8, 0, none⟩)), (14, .bool false), (18, .bool true)] : Fr) (by kernel_rfl) (fun a => WP _ _ _ _ a _) (fun lr115 => ?_)
    refine gi_cnd (x := (Operand.tmp 18)) (s := CA Try.f36 [1, 1, 0, 0, 1, 1, 1, 0]) (t := CA Try.f36 [1, 1, 0, 0, 1, 1, 1, 1]) true (by kernel_rfl) (by kernel_rfl) ?_
    change WP _ _ (CA Try.f36 [1, 1, 0, 0, 1, 1, 1, 0]) _ _ _
    refine gi_seq (x := CA Try.f36 [1, 1, 0, 0, 1, 1, 1, 0, 0]) (y := CA Try.f36 [1, 1, 0, 0, 1, 1, 1, 0, 1]) (by kernel_rfl) ?_
    refine gi_pln (id := 5) (ops := RA Try.f36 [1, 1, 0, 0, 1, 1, 1, 0, 0]) [0] (by kernel_rfl) (by kernel_rfl) (by kernel_rfl) ?_
    refine plain_batch (rest := []) [⟨0, [], none⟩] (l' := ([(6, .int .i64 2), (0, .pointer (some ⟨b, 0, none⟩)), (1, .agg #[.int .i64 x, .int .i64 y, .int .u32 z]), (2, .func (Fn.func 37) #[] #[.pointer (some ⟨c2, 0, none⟩), .pointer (some ⟨c3, 0, none⟩), .pointer (some ⟨c6, 0, none⟩)]), (4, .pointer (some ⟨r4, 0, none⟩)), (6, .int .i64 0), (7, .pointer (some ⟨r8, 0, none⟩)), (14, .bool false), (18, .bool true)] : Fr) ++ lr115) (pts' := []) (eqs := []) (by kernel_rfl) trivial (AllC_nil _) ?_
    refine PO.mk ?_
    change WP _ _ (CA Try.f36 [1, 1, 0, 0, 1, 1, 1, 0, 1]) _ _ _
    refine fk_cut ([(0, .pointer (some ⟨b, 0, none⟩)), (1, .agg #[.int .i64 x, .int .i64 y, .int .u32 z]), (2, .func (Fn.func 37) #[] #[.pointer (some ⟨c2, 0, none⟩), .pointer (some ⟨c3, 0, none⟩), .pointer (some ⟨c6, 0, none⟩)]), (4, .pointer (some ⟨r4, 0, none⟩)), (6, .int .i64 2), (7, .pointer (some ⟨r8, 0, none⟩)), (14, .bool false), (18, .bool true)] : Fr) (by kernel_rfl) (fun a => WP _ _ _ _ a _) (fun lr116 => ?_)
    refine gi_rt (by kernel_rfl) ?_
    repeat (first | simp only [Exit.inBlock] | simp only [Exit.then])
    have he_ : errA A (x, y, z) = 2 := chk_arg A (by omega)
    have hc_ : numM A E (x, y, z) = 0 := num_no he_ (by decide)
    have h117 : sat g w112 [Cl c2 [.pointer (some ⟨b, 0, none⟩)] 24, Cl c3 [.int .i64 x, .int .i64 y, .int .u32 z] 28, Cl c6 [.int .i64 0] 3, Cl b [.pointer (some ⟨s, 0, none⟩), .map (some m)] 63, Tb s n A, Mp m E, Cl r8 [.int .i64 y, .int .u32 z] 79, Cl r4 [.int .i64 x, .int .i64 y, .int .u32 z] 28, R] := sat_sel [3, 4, 5, 0, 6, 7, 1, 2, 8] rfl h114
    have h118 : sat g w112 [Cl c2 [.pointer (some ⟨b, 0, none⟩)] 24, Cl c3 [.int .i64 x, .int .i64 y, .int .u32 z] 28, Cl c6 [.int .i64 0] 3, Cl b [.pointer (some ⟨s, 0, none⟩), .map (some m)] 63, Tb s n A, Mp m E, R] := sat_sel [0, 1, 2, 3, 4, 5, 8] rfl h117
    refine hi_out [] (.int .i64 2) [] (by kernel_rfl) (by intro q hq; cases hq) ?_
    exact ⟨.int .i64 2, [Cl c2 [.pointer (some ⟨b, 0, none⟩)] 24, Cl c3 [.int .i64 x, .int .i64 y, .int .u32 z] 28, Cl c6 [.int .i64 0] 3, Cl b [.pointer (some ⟨s, 0, none⟩), .map (some m)] 63, Tb s n A, Mp m E], rfl, ⟨by rw [he_], by rw [hc_]⟩, h118⟩

end Go.Proofs.Ytcgpkhdocakloaa
