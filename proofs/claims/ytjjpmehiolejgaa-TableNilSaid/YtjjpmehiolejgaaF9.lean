/- Walks, printed by my generator gen9.py. -/
import Derived.Test.YtjjpmehiolejgaaF8
import Derived.Test.YtjjpmehiolejgaaTabM
namespace Go.Proofs.Ytjjpmehiolejgaa
/-- A table of resources. -/
def Tab (b n : Nat) (A : List Sl2) (E : Tm) (R : List Rs) : Assn := fun h => ∃ x : Nat × Nat × Option Addr × Nat × Tm, (Meq x.2.2.2.2 E ∧ R.length ≤ 2000) ∧
  star [Cl b [.pointer (some ⟨x.1, 0, none⟩), .map (some x.2.1), .slice x.2.2.1 R.length x.2.2.2.1] 76, Tb x.1 n A, Gp kI vE x.2.1 x.2.2.2.2, Sl 42 8 x.2.2.1 R.length x.2.2.2.1 (fl eRs R)] h
section
variable {g w : World} {L : List Assn} {b n : Nat} {A : List Sl2} {E : Tm} {R : List Rs}
theorem tab_open (h : sat g w (Tab b n A E R :: L)) : ∃ s m p c E0, (Meq E0 E ∧ R.length ≤ 2000) ∧ sat g w (Cl b [.pointer (some ⟨s, 0, none⟩), .map (some m), .slice p R.length c] 76 :: Tb s n A :: Gp kI vE m E0 :: Sl 42 8 p R.length c (fl eRs R) :: L) := by
  obtain ⟨⟨s, m, p, c, E0⟩, h1, h2⟩ := sat_open (X := Nat × Nat × Option Addr × Nat × Tm) (p := fun x => Meq x.2.2.2.2 E ∧ R.length ≤ 2000) (B := fun x => star [Cl b [.pointer (some ⟨x.1, 0, none⟩), .map (some x.2.1), .slice x.2.2.1 R.length x.2.2.2.1] 76, Tb x.1 n A, Gp kI vE x.2.1 x.2.2.2.2, Sl 42 8 x.2.2.1 R.length x.2.2.2.1 (fl eRs R)]) h (fun k hk => hk)
  exact ⟨s, m, p, c, E0, h1, sat_unstar h2⟩
theorem tab_close {s m c k : Nat} {p : Option Addr} {E0 : Tm} (h1 : Meq E0 E) (h2 : R.length ≤ 2000) (hk : k = R.length) (h : sat g w (Cl b [.pointer (some ⟨s, 0, none⟩), .map (some m), .slice p k c] 76 :: Tb s n A :: Gp kI vE m E0 :: Sl 42 8 p k c (fl eRs R) :: L)) : sat g w (Tab b n A E R :: L) := by
  subst hk
  exact sat_imp (sat_star (K := [Cl b [.pointer (some ⟨s, 0, none⟩), .map (some m), .slice p R.length c] 76, Tb s n A, Gp kI vE m E0, Sl 42 8 p R.length c (fl eRs R)]) h) fun k hk => ⟨(s, m, p, c, E0), ⟨h1, h2⟩, hk⟩
end
/-- A table of which one knows where the list of its resources lies. -/
def TabX (b n : Nat) (A : List Sl2) (E : Tm) (R : List Rs) (p : Option Addr) (k c : Nat) : Assn := fun h => ∃ x : Nat × Nat × Tm, (Meq x.2.2 E ∧ R.length ≤ 2000) ∧
  star [Cl b [.pointer (some ⟨x.1, 0, none⟩), .map (some x.2.1), .slice p k c] 76, Tb x.1 n A, Gp kI vE x.2.1 x.2.2, Sl 42 8 p k c (fl eRs R)] h
section
variable {g w : World} {L : List Assn} {b n k : Nat} {A : List Sl2} {E : Tm} {R : List Rs} {p : Option Addr} {c : Nat}
theorem tabx_open (h : sat g w (TabX b n A E R p k c :: L)) : ∃ s m E0, (Meq E0 E ∧ R.length ≤ 2000) ∧ sat g w (Cl b [.pointer (some ⟨s, 0, none⟩), .map (some m), .slice p k c] 76 :: Tb s n A :: Gp kI vE m E0 :: Sl 42 8 p k c (fl eRs R) :: L) := by
  obtain ⟨⟨s, m, E0⟩, h1, h2⟩ := sat_open (X := Nat × Nat × Tm) (p := fun x => Meq x.2.2 E ∧ R.length ≤ 2000) (B := fun x => star [Cl b [.pointer (some ⟨x.1, 0, none⟩), .map (some x.2.1), .slice p k c] 76, Tb x.1 n A, Gp kI vE x.2.1 x.2.2, Sl 42 8 p k c (fl eRs R)]) h (fun k hk => hk)
  exact ⟨s, m, E0, h1, sat_unstar h2⟩
theorem tabx_close {s m : Nat} {E0 : Tm} (h1 : Meq E0 E) (h2 : R.length ≤ 2000) (h : sat g w (Cl b [.pointer (some ⟨s, 0, none⟩), .map (some m), .slice p k c] 76 :: Tb s n A :: Gp kI vE m E0 :: Sl 42 8 p k c (fl eRs R) :: L)) : sat g w (TabX b n A E R p k c :: L) :=
  sat_imp (sat_star (K := [Cl b [.pointer (some ⟨s, 0, none⟩), .map (some m), .slice p k c] 76, Tb s n A, Gp kI vE m E0, Sl 42 8 p k c (fl eRs R)]) h) fun k hk => ⟨(s, m, E0), ⟨h1, h2⟩, hk⟩
end
theorem kyI : KyOk Try.prog 3 kI := kyInt Try.underlying3
set_option maxHeartbeats 4000000 in
theorem tvalid_ht (b n : Nat) (A : List Sl2) (E : Tm) (RL : List Rs) : HT Try.prog 36 [Value.pointer (some ⟨b, 0, none⟩)] [Tab b n A E RL] (fun v K => v = Value.bool true ∧ K = [Tab b n A E RL]) := by
  refine hi_in 12 ([(0, pV b)] : Fr) Try.func36 (by kernel_rfl) Try.ntmps36 rfl rfl ?_
  intro g w0 R h0
  change WP _ _ (CA Try.f36 []) _ _ _
  refine zSq (by kernel_rfl) ?_
  refine zPl [0] (by kernel_rfl) ?_
  refine zB0 [] [0] [(2, .bool false)] (by kernel_rfl) ?_
  refine PO.mk ?_
  change WP _ _ (CA Try.f36 [1]) _ _ _
  refine fk_cut ([(0, pV b)] : Fr) (by kernel_rfl) (fun a => WP _ _ _ _ a _) (fun lr1 => ?_)
  refine zSq (by kernel_rfl) ?_
  refine zPl [0, 1, 2, 3, 4, 5, 6, 7, 8, 9] (by kernel_rfl) ?_
  obtain ⟨s2, m3, p4, c5, E6, hM7, h8⟩ := tab_open h0
  have hRl_ := hM7.2
  refine zBb [] [(2, .bool true), (11, .bool true), (10, .bool true), (9, .map (some m3)), (8, .pointer (some ⟨b, 1, none⟩)), (7, pV b), (6, pV b), (5, .bool true), (4, .bool true), (3, pV b)] [⟨0, [], none⟩, ⟨1, [], none⟩, ⟨2, [], none⟩, ⟨3, [], none⟩, ⟨4, [], none⟩, ⟨5, [], none⟩, ⟨6, [.map (some m3)], none⟩, ⟨7, [], none⟩, ⟨8, [], none⟩, ⟨9, [], none⟩] [(6, ⟨b, 1, none⟩, .map (some m3))] [] (by kernel_rfl) trivial (AllC_cons (sat_cell h8 0 rfl rfl) (AllC_nil _)) ?_
  refine PO.mk ?_
  change WP _ _ (CA Try.f36 [1, 1]) _ _ _
  refine fk_cut ([(2, .bool true)] : Fr) (by kernel_rfl) (fun a => WP _ _ _ _ a _) (fun lr9 => ?_)
  refine gi_rt (by kernel_rfl) ?_
  repeat (first | simp only [Exit.inBlock] | simp only [Exit.then])
  have h10 : sat g w0 [Tab b n A E RL, R] := tab_close hM7.1 (by omega) (by first | rfl | omega) h8
  refine hi_out [] (.bool true) [] (by kernel_rfl) (by intro q hq; cases hq) ?_
  exact ⟨.bool true, [Tab b n A E RL], rfl, ⟨rfl, rfl⟩, h10⟩

set_option maxHeartbeats 4000000 in
theorem tvalid_n  : HT Try.prog 36 [Value.pointer none] [] (fun v K => v = Value.bool false ∧ K = []) := by
  refine hi_in 12 ([(0, .pointer none)] : Fr) Try.func36 (by kernel_rfl) Try.ntmps36 rfl rfl ?_
  intro g w0 R h0
  change WP _ _ (CA Try.f36 []) _ _ _
  refine zSq (by kernel_rfl) ?_
  refine zPl [0] (by kernel_rfl) ?_
  refine zB0 [] [0] [(2, .bool false)] (by kernel_rfl) ?_
  refine PO.mk ?_
  change WP _ _ (CA Try.f36 [1]) _ _ _
  refine fk_cut ([(0, .pointer none)] : Fr) (by kernel_rfl) (fun a => WP _ _ _ _ a _) (fun lr1 => ?_)
  refine zSq (by kernel_rfl) ?_
  refine zPl [0, 1, 2, 3, 4, 5, 6, 7, 8, 9] (by kernel_rfl) ?_
  refine zB0 [] [0, 1, 2, 3, 4, 5, 6, 7, 8, 9] [(2, .bool false), (11, .bool false), (10, undef), (9, undef), (8, undef), (7, undef), (6, undef), (5, .bool false), (4, .bool false), (3, .pointer none)] (by kernel_rfl) ?_
  refine PO.mk ?_
  change WP _ _ (CA Try.f36 [1, 1]) _ _ _
  refine fk_cut ([(2, .bool false)] : Fr) (by kernel_rfl) (fun a => WP _ _ _ _ a _) (fun lr2 => ?_)
  refine gi_rt (by kernel_rfl) ?_
  repeat (first | simp only [Exit.inBlock] | simp only [Exit.then])
  refine hi_out [] (.bool false) [] (by kernel_rfl) (by intro q hq; cases hq) ?_
  exact ⟨.bool false, [], rfl, ⟨rfl, rfl⟩, h0⟩

set_option maxHeartbeats 4000000 in
theorem tvalid_z (b : Nat) : HT Try.prog 36 [Value.pointer (some ⟨b, 0, none⟩)] [Cl b [Value.pointer none, Value.map none, Value.slice none 0 0] 76] (fun v K => v = Value.bool false ∧ K = [Cl b [Value.pointer none, Value.map none, Value.slice none 0 0] 76]) := by
  refine hi_in 12 ([(0, pV b)] : Fr) Try.func36 (by kernel_rfl) Try.ntmps36 rfl rfl ?_
  intro g w0 R h0
  change WP _ _ (CA Try.f36 []) _ _ _
  refine zSq (by kernel_rfl) ?_
  refine zPl [0] (by kernel_rfl) ?_
  refine zB0 [] [0] [(2, .bool false)] (by kernel_rfl) ?_
  refine PO.mk ?_
  change WP _ _ (CA Try.f36 [1]) _ _ _
  refine fk_cut ([(0, pV b)] : Fr) (by kernel_rfl) (fun a => WP _ _ _ _ a _) (fun lr1 => ?_)
  refine zSq (by kernel_rfl) ?_
  refine zPl [0, 1, 2, 3, 4, 5, 6, 7, 8, 9] (by kernel_rfl) ?_
  refine zBb [] [(2, .bool false), (11, .bool false), (10, .bool false), (9, .map none), (8, .pointer (some ⟨b, 1, none⟩)), (7, pV b), (6, pV b), (5, .bool true), (4, .bool true), (3, pV b)] [⟨0, [], none⟩, ⟨1, [], none⟩, ⟨2, [], none⟩, ⟨3, [], none⟩, ⟨4, [], none⟩, ⟨5, [], none⟩, ⟨6, [.map none], none⟩, ⟨7, [], none⟩, ⟨8, [], none⟩, ⟨9, [], none⟩] [(6, ⟨b, 1, none⟩, .map none)] [] (by kernel_rfl) trivial (AllC_cons (sat_cell h0 0 rfl rfl) (AllC_nil _)) ?_
  refine PO.mk ?_
  change WP _ _ (CA Try.f36 [1, 1]) _ _ _
  refine fk_cut ([(2, .bool false)] : Fr) (by kernel_rfl) (fun a => WP _ _ _ _ a _) (fun lr2 => ?_)
  refine gi_rt (by kernel_rfl) ?_
  repeat (first | simp only [Exit.inBlock] | simp only [Exit.then])
  refine hi_out [] (.bool false) [] (by kernel_rfl) (by intro q hq; cases hq) ?_
  exact ⟨.bool false, [Cl b [.pointer none, .map none, .slice none 0 0] 76], rfl, ⟨rfl, rfl⟩, h0⟩

set_option maxHeartbeats 4000000 in
theorem obj_t (i gn : Int) (h : 0 ≤ i ∧ i ≤ 255 ∧ 1 ≤ gn) : HT Try.prog 38 [Value.agg #[Value.int IntKind.i64 i, Value.int IntKind.u32 gn]] [] (fun v K => v = Value.bool true ∧ K = []) := by
  refine hi_in 16 ([(0, .agg #[iV i, uV gn])] : Fr) Try.func38 (by kernel_rfl) Try.ntmps38 rfl rfl ?_
  intro g w0 R h0
  change WP _ _ (CA Try.f38 []) _ _ _
  refine zSq (by kernel_rfl) ?_
  refine zPl [0, 1] (by kernel_rfl) ?_
  refine plain_act (i := 0) (by kernel_rfl) ?_
  refine an_new (d := 1) (fun xb_ => pV xb_) (fun xb_ => Obj.cells [iV i, uV gn].toArray 34 (0, 0)) (fun xb_ => by kernel_rfl) (by kernel_rfl) rfl h0 ?_
  intro r1 w2 (h3 : sat g w2 [Cl r1 [iV i, uV gn] 34, R])
  refine zB0 [] [1] [(2, .bool false)] (by kernel_rfl) ?_
  refine PO.mk ?_
  change WP _ _ (CA Try.f38 [1]) _ _ _
  refine fk_cut ([(1, pV r1)] : Fr) (by kernel_rfl) (fun a => WP _ _ _ _ a _) (fun lr4 => ?_)
  refine zSq (by kernel_rfl) ?_
  refine zPl [0, 1, 2, 3, 4, 5, 6, 7, 8, 9, 10, 11, 12, 13] (by kernel_rfl) ?_
  refine zBb [] [(2, .bool true), (15, .bool true), (14, .bool true), (13, uV gn), (12, .pointer (some ⟨r1, 1, none⟩)), (11, .bool true), (10, .bool true), (9, .bool true), (8, iV i), (7, pV r1), (6, .bool true), (5, .bool true), (4, iV i), (3, pV r1)] [⟨0, [], none⟩, ⟨1, [iV i], none⟩, ⟨2, [], some (.bool true)⟩, ⟨3, [], none⟩, ⟨4, [], none⟩, ⟨5, [iV i], none⟩, ⟨6, [], some (.bool true)⟩, ⟨7, [], none⟩, ⟨8, [], none⟩, ⟨9, [], none⟩, ⟨10, [uV gn], none⟩, ⟨11, [], some (.bool true)⟩, ⟨12, [], none⟩, ⟨13, [], none⟩] [(10, ⟨r1, 1, none⟩, uV gn), (5, ⟨r1, 0, none⟩, iV i), (1, ⟨r1, 0, none⟩, iV i)] [(.bool (decide (i ≥ 0)), .bool true), (.bool (decide (i < 256)), .bool true), (.bool (decide (gn > 0)), .bool true)] (by kernel_rfl) ⟨(ov_t (by omega)), (ov_t (by omega)), (ov_t (by omega)), trivial⟩ (AllC_cons (sat_cell h3 0 rfl rfl) (AllC_cons (sat_cell h3 0 rfl rfl) (AllC_cons (sat_cell h3 0 rfl rfl) (AllC_nil _)))) ?_
  refine PO.mk ?_
  change WP _ _ (CA Try.f38 [1, 1]) _ _ _
  refine fk_cut ([(2, .bool true)] : Fr) (by kernel_rfl) (fun a => WP _ _ _ _ a _) (fun lr5 => ?_)
  refine gi_rt (by kernel_rfl) ?_
  repeat (first | simp only [Exit.inBlock] | simp only [Exit.then])
  have h6 : sat g w2 [R] := sat_sel [1] rfl h3
  refine hi_out [] (.bool true) [] (by kernel_rfl) (by intro q hq; cases hq) ?_
  exact ⟨.bool true, [], rfl, ⟨rfl, rfl⟩, h6⟩

set_option maxHeartbeats 4000000 in
theorem tall1_ht (b : Nat) : HT Try.prog 48 [Value.pointer (some ⟨b, 0, none⟩)] [] (fun v K => ∃ c : Nat, v = Value.func (Fn.func 62) #[] #[Value.pointer (some ⟨c, 0, none⟩)] ∧ K = [Cl c [Value.pointer (some ⟨b, 0, none⟩)] 22]) := by
  refine hi_in 4 ([(0, pV b)] : Fr) Try.func48 (by kernel_rfl) Try.ntmps48 rfl rfl ?_
  intro g w0 R h0
  change WP _ _ (CA Try.f48 []) _ _ _
  refine zSq (by kernel_rfl) ?_
  refine zPl [0, 1] (by kernel_rfl) ?_
  refine plain_act (i := 0) (by kernel_rfl) ?_
  refine an_new (d := 1) (fun xb_ => pV xb_) (fun xb_ => Obj.cells [pV b].toArray 22 (0, 0)) (fun xb_ => by kernel_rfl) (by kernel_rfl) rfl h0 ?_
  intro r1 w2 (h3 : sat g w2 [Cl r1 [pV b] 22, R])
  refine zB0 [] [1] [(2, Value.nilFunc)] (by kernel_rfl) ?_
  refine PO.mk ?_
  change WP _ _ (CA Try.f48 [1]) _ _ _
  refine fk_cut ([(1, pV r1)] : Fr) (by kernel_rfl) (fun a => WP _ _ _ _ a _) (fun lr4 => ?_)
  refine zSq (by kernel_rfl) ?_
  refine zPl [0, 1] (by kernel_rfl) ?_
  refine zB0 [] [0, 1] [(2, .func (Fn.func 62) #[] #[pV r1]), (3, .func (Fn.func 62) #[] #[pV r1])] (by kernel_rfl) ?_
  refine PO.mk ?_
  change WP _ _ (CA Try.f48 [1, 1]) _ _ _
  refine fk_cut ([(2, .func (Fn.func 62) #[] #[pV r1])] : Fr) (by kernel_rfl) (fun a => WP _ _ _ _ a _) (fun lr5 => ?_)
  refine gi_rt (by kernel_rfl) ?_
  repeat (first | simp only [Exit.inBlock] | simp only [Exit.then])
  refine hi_out [] (.func (Fn.func 62) #[] #[pV r1]) [] (by kernel_rfl) (by intro q hq; cases hq) ?_
  exact ⟨.func (Fn.func 62) #[] #[pV r1], [Cl r1 [pV b] 22], rfl, ⟨r1, rfl, rfl⟩, h3⟩

set_option maxHeartbeats 4000000 in
theorem tall_it (c b n : Nat) (A : List Sl2) (E : Tm) (RL : List Rs) : IT Try.prog 62 [Value.pointer (some ⟨c, 0, none⟩)] (((allE E).length)) ((fun i => [vE ((allE E).getD i noE)])) [Cl c [Value.pointer (some ⟨b, 0, none⟩)] 22, Tab b n A E RL] := by
  refine it_in 26 (fun k_ => ([(0, .func (Fn.yield k_) #[] #[]), (1, pV c)] : Fr)) Try.func62 (by kernel_rfl) Try.ntmps62 rfl (fun _ => rfl) ?_
  intro g w0 R k_ J_ E_ hY h0
  have h1 : sat g w0 [J_ 0, Cl c [pV b] 22, Tab b n A E RL, R] := h0
  change WP _ _ (CA Try.f62 []) _ (mk 26 (([(0, .func (Fn.yield k_) #[] #[]), (1, pV c)] : Fr))) _
  refine zSq (by kernel_rfl) ?_
  refine zPl [0] (by kernel_rfl) ?_
  refine zB0 [] [0] [(6, iV 0)] (by kernel_rfl) ?_
  refine PO.mk ?_
  change WP _ _ (CA Try.f62 [1]) _ _ _
  refine fk_cut ([(0, .func (Fn.yield k_) #[] #[]), (1, pV c), (6, iV 0)] : Fr) (by kernel_rfl) (fun a => WP _ _ _ _ a _) (fun lr2 => ?_)
  refine gi_blk (id := 0) (x := CA Try.f62 [1, 0]) (by kernel_rfl) ?_
  refine gi_lp (x := CA Try.f62 [1, 0, 0]) (by kernel_rfl) (fun mz_ a w => ∃ k : Nat, ∃ lr : Fr, mz_ = 256 - k ∧ (k ≤ 256) ∧ a = mk 26 (([(0, .func (Fn.yield k_) #[] #[]), (1, pV c), (6, iV (((k : Nat) : Int)))] : Fr) ++ lr) ∧ sat g w [J_ (((someE E k).length)), Cl c [pV b] 22, Tab b n A E RL, R]) (256 - 0) ⟨0, _, rfl, (Nat.zero_le _), (mk_live [(0, .func (Fn.yield k_) #[] #[]), (1, pV c), (6, iV (((0 : Nat) : Int)))] ⟨rfl, rfl, (ov_int (by omega)), trivial⟩), h1⟩ ?_
  rintro m4 a5 w6 ⟨k, lr3, rfl, hk, rfl, h7⟩
  change WP _ _ (CA Try.f62 [1, 0, 0]) _ _ _
  refine zSq (by kernel_rfl) ?_
  refine zPl [0] (by kernel_rfl) ?_
  by_cases c8 : ((k : Nat) : Int) < 256
  ·
    refine zBb [] [(7, .bool true)] [⟨0, [], some (.bool true)⟩] [] [(.bool (decide (((k : Nat) : Int) < 256)), .bool true)] (by kernel_rfl) ⟨(ov_t (by omega)), trivial⟩ (AllC_nil _) ?_
    refine PO.mk ?_
    change WP _ _ (CA Try.f62 [1, 0, 0, 1]) _ _ _
    refine fk_cut ([(0, .func (Fn.yield k_) #[] #[]), (1, pV c), (6, iV (((k : Nat) : Int))), (7, .bool true)] : Fr) (by kernel_rfl) (fun a => WP _ _ _ _ a _) (fun lr9 => ?_)
    refine zSq (by kernel_rfl) ?_
    refine zCt (by kernel_rfl) ?_
    refine gi_skp (by kernel_rfl) ?_
    change WP _ _ (CA Try.f62 [1, 0, 0, 1, 1]) _ _ _
    refine zSq (by kernel_rfl) ?_
    refine gi_blk (id := 1) (x := CA Try.f62 [1, 0, 0, 1, 1, 0, 0]) (by kernel_rfl) ?_
    refine zSq (by kernel_rfl) ?_
    refine zPl [0, 1] (by kernel_rfl) ?_
    refine zB0 [] [0, 1] [(3, iV (((k : Nat) : Int))), (8, iV (((k : Nat) : Int)))] (by kernel_rfl) ?_
    refine PO.mk ?_
    change WP _ _ (CA Try.f62 [1, 0, 0, 1, 1, 0, 0, 1]) _ _ _
    refine fk_cut ([(0, .func (Fn.yield k_) #[] #[]), (1, pV c), (3, iV (((k : Nat) : Int))), (6, iV (((k : Nat) : Int)))] : Fr) (by kernel_rfl) (fun a => WP _ _ _ _ a _) (fun lr10 => ?_)
    refine zSq (by kernel_rfl) ?_
    refine zPl [0, 1, 2, 3, 4, 5, 6, 7, 8, 9, 10, 11] (by kernel_rfl) ?_
    have h11 : sat g w6 [Tab b n A E RL, J_ (((someE E k).length)), Cl c [pV b] 22, R] := sat_sel [2, 0, 1, 3] rfl h7
    obtain ⟨s12, m13, p14, c15, E16, hM17, h18⟩ := tab_open h11
    have hRl_ := hM17.2
    refine zBb [5, 6, 7, 8, 9, 10, 11] [(14, iV (((k : Nat) : Int))), (13, .map (some m13)), (12, .pointer (some ⟨b, 1, none⟩)), (11, pV b), (10, pV b)] [⟨0, [pV b], none⟩, ⟨1, [], none⟩, ⟨2, [], none⟩, ⟨3, [.map (some m13)], none⟩, ⟨4, [], none⟩] [(3, ⟨b, 1, none⟩, .map (some m13)), (0, ⟨c, 0, none⟩, pV b)] [] (by kernel_rfl) trivial (AllC_cons (sat_cell h18 0 rfl rfl) (AllC_cons (sat_cell h7 1 rfl rfl) (AllC_nil _))) ?_
    rcases hg20 : gget E (((k : Nat) : Int)) with _ | e19
    ·
      refine plain_act (i := 5) (by kernel_rfl) ?_
      refine act_law (d := 15) (.tuple #[.agg #[iV 0, iV 0, uV 0, iV 0, iV 0, uV 0], .bool false]) (by kernel_rfl) rfl (law_lookupOk (t := 73) (z := .agg #[iV 0, iV 0, uV 0, iV 0, iV 0, uV 0]) (m := (Operand.tmp 13)) (x := (Operand.tmp 14)) (kv := kI) (ve := vE) (by kernel_rfl) Try.underlying73 kyI (by kernel_rfl) (((k : Nat) : Int)) (by kernel_rfl) (by kernel_rfl) (j := 2) h18 rfl (.agg #[iV 0, iV 0, uV 0, iV 0, iV 0, uV 0]) false (by rw [hM17.1.2.2 (((k : Nat) : Int)), hg20]; exact ⟨rfl, rfl⟩)) ?_
      refine zB0 [9, 10, 11] [6, 7, 8] [(17, .bool false), (16, .agg #[iV 0, iV 0, uV 0, iV 0, iV 0, uV 0]), (9, .tuple #[.agg #[iV 0, iV 0, uV 0, iV 0, iV 0, uV 0], .bool false])] (by kernel_rfl) ?_
      refine plain_act (i := 9) (by kernel_rfl) ?_
      refine an_new (d := 4) (fun xb_ => pV xb_) (fun xb_ => Obj.cells [iV 0, iV 0, uV 0, iV 0, iV 0, uV 0].toArray 90 (0, 0)) (fun xb_ => by kernel_rfl) (by kernel_rfl) rfl h18 ?_
      intro r21 w22 (h23 : sat g w22 [Cl r21 [iV 0, iV 0, uV 0, iV 0, iV 0, uV 0] 90, Cl b [pV s12, .map (some m13), .slice p14 RL.length c15] 76, Tb s12 n A, Gp kI vE m13 E16, Sl 42 8 p14 RL.length c15 (fl eRs RL), J_ (((someE E k).length)), Cl c [pV b] 22, R])
      refine plain_act (i := 10) (by kernel_rfl) ?_
      refine an_store [(0, iV 0), (1, iV 0), (2, uV 0), (3, iV 0), (4, iV 0), (5, uV 0)] (cs' := [iV 0, iV 0, uV 0, iV 0, iV 0, uV 0]) (by kernel_rfl) (by kernel_rfl) (allq ⟨⟨by simp, rfl⟩, ⟨by simp, rfl⟩, ⟨by simp, rfl⟩, ⟨by simp, rfl⟩, ⟨by simp, rfl⟩, ⟨by simp, rfl⟩, trivial⟩) rfl h23 ?_
      intro w24 (h25 : sat g w24 [Cl r21 [iV 0, iV 0, uV 0, iV 0, iV 0, uV 0] 90, Cl b [pV s12, .map (some m13), .slice p14 RL.length c15] 76, Tb s12 n A, Gp kI vE m13 E16, Sl 42 8 p14 RL.length c15 (fl eRs RL), J_ (((someE E k).length)), Cl c [pV b] 22, R])
      refine zB0 [] [11] [(5, .bool false)] (by kernel_rfl) ?_
      refine PO.mk ?_
      change WP _ _ (CA Try.f62 [1, 0, 0, 1, 1, 0, 0, 1, 1]) _ _ _
      refine fk_cut ([(0, .func (Fn.yield k_) #[] #[]), (1, pV c), (4, pV r21), (5, .bool false), (6, iV (((k : Nat) : Int)))] : Fr) (by kernel_rfl) (fun a => WP _ _ _ _ a _) (fun lr26 => ?_)
      refine zSq (by kernel_rfl) ?_
      have h27 : sat g w24 [Cl b [pV s12, .map (some m13), .slice p14 RL.length c15] 76, Tb s12 n A, Gp kI vE m13 E16, Sl 42 8 p14 RL.length c15 (fl eRs RL), Cl r21 [iV 0, iV 0, uV 0, iV 0, iV 0, uV 0] 90, J_ (((someE E k).length)), Cl c [pV b] 22, R] := sat_sel [1, 2, 3, 4, 0, 5, 6, 7] rfl h25
      have h28 : sat g w24 [Tab b n A E RL, Cl r21 [iV 0, iV 0, uV 0, iV 0, iV 0, uV 0] 90, J_ (((someE E k).length)), Cl c [pV b] 22, R] := tab_close hM17.1 (by omega) (by first | rfl | omega) h27
      refine gi_ply (id := 4) (ops := RA Try.f62 [1, 0, 0, 1, 1, 0, 0, 1, 1, 0]) [0, 1, 2, 3] [4, 5, 6] (by kernel_rfl) (by kernel_rfl) (by kernel_rfl) ?_
      refine zB0 [] [0, 1, 2, 3] [(21, undef), (20, undef), (19, .bool false), (18, .bool false)] (by kernel_rfl) ?_
      refine PO.mk ?_
      refine yp_skip (by kernel_rfl) ?_
      refine plain_skip (by kernel_rfl : chkN (RA Try.f62 [1, 0, 0, 1, 1, 0, 0, 1, 1, 0]) 26 _ 4 = some (some 22)) rfl ?_
      refine zB0 [] [5, 6] [(24, .bool false), (23, undef)] (by kernel_rfl) ?_
      refine PO.mk ?_
      change WP _ _ (CA Try.f62 [1, 0, 0, 1, 1, 0, 0, 1, 1, 1]) _ _ _
      refine fk_cut ([(0, .func (Fn.yield k_) #[] #[]), (1, pV c), (6, iV (((k : Nat) : Int))), (24, .bool false)] : Fr) (by kernel_rfl) (fun a => WP _ _ _ _ a _) (fun lr29 => ?_)
      refine zCf (by kernel_rfl) ?_
      refine gi_skp (by kernel_rfl) ?_
      change WP _ _ (CA Try.f62 [1, 0, 0, 1, 1, 1]) _ _ _
      refine zPl [0, 1] (by kernel_rfl) ?_
      refine zBb [] [(6, iV (((k : Nat) : Int) + 1)), (25, iV (((k : Nat) : Int) + 1))] [⟨0, [], some (iV (((k : Nat) : Int) + 1))⟩, ⟨1, [], none⟩] [] [(iV (IntKind.wrap .i64 ((((k : Nat) : Int)) + 1)), iV (((k : Nat) : Int) + 1))] (by kernel_rfl) ⟨(ov_i64 (by omega) (by omega) (by omega)), trivial⟩ (AllC_nil _) ?_
      refine PO.mk ?_
      have h30 : sat g w24 [J_ (((someE E k).length)), Tab b n A E RL, Cl r21 [iV 0, iV 0, uV 0, iV 0, iV 0, uV 0] 90, Cl c [pV b] 22, R] := sat_sel [2, 0, 1, 3, 4] rfl h28
      have h31 : sat g w24 [J_ (((someE E (k + 1)).length)), Tab b n A E RL, Cl r21 [iV 0, iV 0, uV 0, iV 0, iV 0, uV 0] 90, Cl c [pV b] 22, R] := (show ((someE E k).length) = (someE E (k + 1)).length from (cntE_no hg20).symm) ▸ h30
      have h32 : sat g w24 [J_ (((someE E (k + 1)).length)), Cl c [pV b] 22, Tab b n A E RL, R, Cl r21 [iV 0, iV 0, uV 0, iV 0, iV 0, uV 0] 90] := sat_sel [0, 3, 1, 4, 2] rfl h31
      have h33 : sat g w24 [J_ (((someE E (k + 1)).length)), Cl c [pV b] 22, Tab b n A E RL, R] := sat_sel [0, 1, 2, 3] rfl h32
      change ∃ n', n' < _ ∧ _
      refine ⟨(256 - (k + 1)), by omega, (k + 1), _, rfl, (by omega), (mk_live [(0, .func (Fn.yield k_) #[] #[]), (1, pV c), (6, iV ((((k + 1) : Nat) : Int)))] ⟨rfl, rfl, (ov_int (by omega)), trivial⟩), h33⟩
    ·
      refine plain_act (i := 5) (by kernel_rfl) ?_
      refine act_law (d := 15) (.tuple #[.agg #[iV e19.d.1, iV e19.d.2.1, uV e19.d.2.2, iV e19.num, iV e19.h.1, uV e19.h.2], .bool true]) (by kernel_rfl) rfl (law_lookupOk (t := 73) (z := .agg #[iV 0, iV 0, uV 0, iV 0, iV 0, uV 0]) (m := (Operand.tmp 13)) (x := (Operand.tmp 14)) (kv := kI) (ve := vE) (by kernel_rfl) Try.underlying73 kyI (by kernel_rfl) (((k : Nat) : Int)) (by kernel_rfl) (by kernel_rfl) (j := 2) h18 rfl (.agg #[iV e19.d.1, iV e19.d.2.1, uV e19.d.2.2, iV e19.num, iV e19.h.1, uV e19.h.2]) true (by rw [hM17.1.2.2 (((k : Nat) : Int)), hg20]; exact ⟨rfl, rfl⟩)) ?_
      refine zB0 [9, 10, 11] [6, 7, 8] [(17, .bool true), (16, .agg #[iV e19.d.1, iV e19.d.2.1, uV e19.d.2.2, iV e19.num, iV e19.h.1, uV e19.h.2]), (9, .tuple #[.agg #[iV e19.d.1, iV e19.d.2.1, uV e19.d.2.2, iV e19.num, iV e19.h.1, uV e19.h.2], .bool true])] (by kernel_rfl) ?_
      refine plain_act (i := 9) (by kernel_rfl) ?_
      refine an_new (d := 4) (fun xb_ => pV xb_) (fun xb_ => Obj.cells [iV 0, iV 0, uV 0, iV 0, iV 0, uV 0].toArray 90 (0, 0)) (fun xb_ => by kernel_rfl) (by kernel_rfl) rfl h18 ?_
      intro r34 w35 (h36 : sat g w35 [Cl r34 [iV 0, iV 0, uV 0, iV 0, iV 0, uV 0] 90, Cl b [pV s12, .map (some m13), .slice p14 RL.length c15] 76, Tb s12 n A, Gp kI vE m13 E16, Sl 42 8 p14 RL.length c15 (fl eRs RL), J_ (((someE E k).length)), Cl c [pV b] 22, R])
      refine plain_act (i := 10) (by kernel_rfl) ?_
      refine an_store [(0, iV e19.d.1), (1, iV e19.d.2.1), (2, uV e19.d.2.2), (3, iV e19.num), (4, iV e19.h.1), (5, uV e19.h.2)] (cs' := [iV e19.d.1, iV e19.d.2.1, uV e19.d.2.2, iV e19.num, iV e19.h.1, uV e19.h.2]) (by kernel_rfl) (by kernel_rfl) (allq ⟨⟨by simp, rfl⟩, ⟨by simp, rfl⟩, ⟨by simp, rfl⟩, ⟨by simp, rfl⟩, ⟨by simp, rfl⟩, ⟨by simp, rfl⟩, trivial⟩) rfl h36 ?_
      intro w37 (h38 : sat g w37 [Cl r34 [iV e19.d.1, iV e19.d.2.1, uV e19.d.2.2, iV e19.num, iV e19.h.1, uV e19.h.2] 90, Cl b [pV s12, .map (some m13), .slice p14 RL.length c15] 76, Tb s12 n A, Gp kI vE m13 E16, Sl 42 8 p14 RL.length c15 (fl eRs RL), J_ (((someE E k).length)), Cl c [pV b] 22, R])
      refine zB0 [] [11] [(5, .bool true)] (by kernel_rfl) ?_
      refine PO.mk ?_
      change WP _ _ (CA Try.f62 [1, 0, 0, 1, 1, 0, 0, 1, 1]) _ _ _
      refine fk_cut ([(0, .func (Fn.yield k_) #[] #[]), (1, pV c), (4, pV r34), (5, .bool true), (6, iV (((k : Nat) : Int)))] : Fr) (by kernel_rfl) (fun a => WP _ _ _ _ a _) (fun lr39 => ?_)
      refine zSq (by kernel_rfl) ?_
      have h40 : sat g w37 [Cl b [pV s12, .map (some m13), .slice p14 RL.length c15] 76, Tb s12 n A, Gp kI vE m13 E16, Sl 42 8 p14 RL.length c15 (fl eRs RL), Cl r34 [iV e19.d.1, iV e19.d.2.1, uV e19.d.2.2, iV e19.num, iV e19.h.1, uV e19.h.2] 90, J_ (((someE E k).length)), Cl c [pV b] 22, R] := sat_sel [1, 2, 3, 4, 0, 5, 6, 7] rfl h38
      have h41 : sat g w37 [Tab b n A E RL, Cl r34 [iV e19.d.1, iV e19.d.2.1, uV e19.d.2.2, iV e19.num, iV e19.h.1, uV e19.h.2] 90, J_ (((someE E k).length)), Cl c [pV b] 22, R] := tab_close hM17.1 (by omega) (by first | rfl | omega) h40
      refine gi_ply (id := 4) (ops := RA Try.f62 [1, 0, 0, 1, 1, 0, 0, 1, 1, 0]) [0, 1, 2, 3] [4, 5, 6] (by kernel_rfl) (by kernel_rfl) (by kernel_rfl) ?_
      refine zBb [] [(21, .agg #[iV e19.d.1, iV e19.d.2.1, uV e19.d.2.2, iV e19.num, iV e19.h.1, uV e19.h.2]), (20, .func (Fn.yield k_) #[] #[]), (19, .bool true), (18, .bool true)] [⟨0, [], none⟩, ⟨1, [], none⟩, ⟨2, [], none⟩, ⟨3, [iV e19.d.1, iV e19.d.2.1, uV e19.d.2.2, iV e19.num, iV e19.h.1, uV e19.h.2], none⟩] [(3, ⟨r34, 0, none⟩, iV e19.d.1), (3, ⟨r34, 1, none⟩, iV e19.d.2.1), (3, ⟨r34, 2, none⟩, uV e19.d.2.2), (3, ⟨r34, 3, none⟩, iV e19.num), (3, ⟨r34, 4, none⟩, iV e19.h.1), (3, ⟨r34, 5, none⟩, uV e19.h.2)] [] (by kernel_rfl) trivial (AllC_cons (sat_cell h41 1 rfl rfl) (AllC_cons (sat_cell h41 1 rfl rfl) (AllC_cons (sat_cell h41 1 rfl rfl) (AllC_cons (sat_cell h41 1 rfl rfl) (AllC_cons (sat_cell h41 1 rfl rfl) (AllC_cons (sat_cell h41 1 rfl rfl) (AllC_nil _))))))) ?_
      refine PO.mk ?_
      have h42 : sat g w37 [J_ (((someE E k).length)), Cl c [pV b] 22, Tab b n A E RL, Cl r34 [iV e19.d.1, iV e19.d.2.1, uV e19.d.2.2, iV e19.num, iV e19.h.1, uV e19.h.2] 90, R] := sat_sel [2, 3, 0, 1, 4] rfl h41
      change YP _ (RA Try.f62 [1, 0, 0, 1, 1, 0, 0, 1, 1, 0]) _ [4, 5, 6] (mk 26 (([(21, .agg #[iV e19.d.1, iV e19.d.2.1, uV e19.d.2.2, iV e19.num, iV e19.h.1, uV e19.h.2]), (20, .func (Fn.yield k_) #[] #[]), (19, .bool true), (18, .bool true), (0, .func (Fn.yield k_) #[] #[]), (1, pV c), (4, pV r34), (5, .bool true), (6, iV (((k : Nat) : Int)))] : Fr) ++ lr39)) _
      refine yp_yield (d := some 22) (k := k_) (args := [Value.agg #[Value.int IntKind.i64 e19.d.1, Value.int IntKind.i64 e19.d.2.1, Value.int IntKind.u32 e19.d.2.2, Value.int IntKind.i64 e19.num, Value.int IntKind.i64 e19.h.1, Value.int IntKind.u32 e19.h.2]]) (xa := ((fun i => [vE ((allE E).getD i noE)])) (((someE E k).length))) (S1 := fun w => sat g w [J_ (((someE E k).length) + 1), Cl c [Value.pointer (some ⟨b, 0, none⟩)] 22, Tab b n A E RL, Cl r34 [Value.int IntKind.i64 e19.d.1, Value.int IntKind.i64 e19.d.2.1, Value.int IntKind.u32 e19.d.2.2, Value.int IntKind.i64 e19.num, Value.int IntKind.i64 e19.h.1, Value.int IntKind.u32 e19.h.2] 90, R]) (S2 := fun w => sat g w [E_ (((someE E k).length)), Cl r34 [Value.int IntKind.i64 e19.d.1, Value.int IntKind.i64 e19.d.2.1, Value.int IntKind.u32 e19.d.2.2, Value.int IntKind.i64 e19.num, Value.int IntKind.i64 e19.h.1, Value.int IntKind.u32 e19.h.2] 90, R]) (by kernel_rfl) (by kernel_rfl) (by kernel_rfl) ((by show [vE ((allE E).getD (((someE E k).length)) noE)] = _; rw [getD_some (allE_at hg20 (by omega))]; rfl)) (hY (((someE E k).length)) ((List.getElem?_eq_some_iff.1 (allE_at hg20 (by omega))).1) _ [Cl r34 [Value.int IntKind.i64 e19.d.1, Value.int IntKind.i64 e19.d.2.1, Value.int IntKind.u32 e19.d.2.2, Value.int IntKind.i64 e19.num, Value.int IntKind.i64 e19.h.1, Value.int IntKind.u32 e19.h.2] 90, R] h42) ?_ ?_
      ·
        intro w43 h44
        refine ⟨_, rfl, ?_⟩
        have h45 : sat g w43 [J_ (((someE E k).length) + 1), Cl c [pV b] 22, Tab b n A E RL, Cl r34 [iV e19.d.1, iV e19.d.2.1, uV e19.d.2.2, iV e19.num, iV e19.h.1, uV e19.h.2] 90, R] := h44
        have hlt46 := ((List.getElem?_eq_some_iff.1 (allE_at hg20 (by omega))).1 : ((someE E k).length) < ((allE E).length))
        refine zB0 [] [5, 6] [(24, .bool false), (23, .bool false)] (by kernel_rfl) ?_
        refine PO.mk ?_
        change WP _ _ (CA Try.f62 [1, 0, 0, 1, 1, 0, 0, 1, 1, 1]) _ _ _
        refine fk_cut ([(0, .func (Fn.yield k_) #[] #[]), (1, pV c), (6, iV (((k : Nat) : Int))), (24, .bool false)] : Fr) (by kernel_rfl) (fun a => WP _ _ _ _ a _) (fun lr47 => ?_)
        refine zCf (by kernel_rfl) ?_
        refine gi_skp (by kernel_rfl) ?_
        change WP _ _ (CA Try.f62 [1, 0, 0, 1, 1, 1]) _ _ _
        refine zPl [0, 1] (by kernel_rfl) ?_
        refine zBb [] [(6, iV (((k : Nat) : Int) + 1)), (25, iV (((k : Nat) : Int) + 1))] [⟨0, [], some (iV (((k : Nat) : Int) + 1))⟩, ⟨1, [], none⟩] [] [(iV (IntKind.wrap .i64 ((((k : Nat) : Int)) + 1)), iV (((k : Nat) : Int) + 1))] (by kernel_rfl) ⟨(ov_i64 (by omega) (by omega) (by omega)), trivial⟩ (AllC_nil _) ?_
        refine PO.mk ?_
        have h48 : sat g w43 [J_ (((someE E (k + 1)).length)), Cl c [pV b] 22, Tab b n A E RL, Cl r34 [iV e19.d.1, iV e19.d.2.1, uV e19.d.2.2, iV e19.num, iV e19.h.1, uV e19.h.2] 90, R] := (show ((someE E k).length) + 1 = (someE E (k + 1)).length from (cntE_go hg20).symm) ▸ h45
        have h49 : sat g w43 [J_ (((someE E (k + 1)).length)), Cl c [pV b] 22, Tab b n A E RL, R, Cl r34 [iV e19.d.1, iV e19.d.2.1, uV e19.d.2.2, iV e19.num, iV e19.h.1, uV e19.h.2] 90] := sat_sel [0, 1, 2, 4, 3] rfl h48
        have h50 : sat g w43 [J_ (((someE E (k + 1)).length)), Cl c [pV b] 22, Tab b n A E RL, R] := sat_sel [0, 1, 2, 3] rfl h49
        change ∃ n', n' < _ ∧ _
        refine ⟨(256 - (k + 1)), by omega, (k + 1), _, rfl, (by omega), (mk_live [(0, .func (Fn.yield k_) #[] #[]), (1, pV c), (6, iV ((((k + 1) : Nat) : Int)))] ⟨rfl, rfl, (ov_int (by omega)), trivial⟩), h50⟩
      ·
        intro w51 h52
        refine ⟨_, rfl, ?_⟩
        have h53 : sat g w51 [E_ (((someE E k).length)), Cl r34 [iV e19.d.1, iV e19.d.2.1, uV e19.d.2.2, iV e19.num, iV e19.h.1, uV e19.h.2] 90, R] := h52
        have hlt54 := ((List.getElem?_eq_some_iff.1 (allE_at hg20 (by omega))).1 : ((someE E k).length) < ((allE E).length))
        refine zB0 [] [5, 6] [(24, .bool true), (23, .bool true)] (by kernel_rfl) ?_
        refine PO.mk ?_
        change WP _ _ (CA Try.f62 [1, 0, 0, 1, 1, 0, 0, 1, 1, 1]) _ _ _
        refine fk_cut ([(0, .func (Fn.yield k_) #[] #[]), (1, pV c), (6, iV (((k : Nat) : Int))), (24, .bool true)] : Fr) (by kernel_rfl) (fun a => WP _ _ _ _ a _) (fun lr55 => ?_)
        refine zCt (by kernel_rfl) ?_
        refine gi_rt (by kernel_rfl) ?_
        repeat (first | simp only [Exit.inBlock] | simp only [Exit.then])
        refine hi_out [] (.tuple #[]) [] (by kernel_rfl) (by intro q hq; cases hq) ⟨⟨_, rfl⟩, ?_⟩
        have h56 : sat g w51 [E_ (((someE E k).length)), R, Cl r34 [iV e19.d.1, iV e19.d.2.1, uV e19.d.2.2, iV e19.num, iV e19.h.1, uV e19.h.2] 90] := sat_sel [0, 2, 1] rfl h53
        have h57 : sat g w51 [E_ (((someE E k).length)), R] := sat_sel [0, 1] rfl h56
        exact .inr ⟨((someE E k).length), (by omega), h57⟩
  ·
    refine zBb [] [(7, .bool false)] [⟨0, [], some (.bool false)⟩] [] [(.bool (decide (((k : Nat) : Int) < 256)), .bool false)] (by kernel_rfl) ⟨(ov_f (by omega)), trivial⟩ (AllC_nil _) ?_
    refine PO.mk ?_
    change WP _ _ (CA Try.f62 [1, 0, 0, 1]) _ _ _
    refine fk_cut ([(0, .func (Fn.yield k_) #[] #[]), (1, pV c), (6, iV (((k : Nat) : Int))), (7, .bool false)] : Fr) (by kernel_rfl) (fun a => WP _ _ _ _ a _) (fun lr58 => ?_)
    refine zSq (by kernel_rfl) ?_
    refine zCf (by kernel_rfl) ?_
    refine gi_ext (id := 0) (by kernel_rfl) ?_
    repeat (first | simp only [Exit.inBlock] | simp only [Exit.then])
    refine hi_outn [] (.tuple #[]) [] (by kernel_rfl) (by intro q hq; cases hq) ⟨⟨_, rfl⟩, ?_⟩
    have he_ : ((someE E k).length) = ((allE E).length) := (by show _ = (someE E 256).length; rw [show k = 256 from by omega])
    exact .inl (he_ ▸ h7)

end Go.Proofs.Ytjjpmehiolejgaa
