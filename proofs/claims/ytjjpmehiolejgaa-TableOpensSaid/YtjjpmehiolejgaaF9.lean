/- Walks, printed by my generator gen9.py. -/
import Derived.Test.YtjjpmehiolejgaaF8
import Derived.Test.YtjjpmehiolejgaaTabM
namespace Go.Proofs.Ytjjpmehiolejgaa
/-- A table of resources. -/
def Tab (b n : Nat) (A : List Sl2) (E : Tm) (R : List Rs) : Assn := fun h => ∃ x : Nat × Nat × Option Addr × Nat × Tm, (Meq x.2.2.2.2 E ∧ R.length ≤ 2000) ∧
  star [Cl b [.pointer (some ⟨x.1, 0, none⟩), .map (some x.2.1), .slice x.2.2.1 R.length x.2.2.2.1] 76, Tb x.1 n A, Gp kI vE x.2.1 x.2.2.2.2, Sl 42 8 x.2.2.1 R.length x.2.2.2.1 (fl eRs R)] h
section
variable {g w : World} {L : List Assn} {b n : Nat} {A : List Sl2} {E : Tm} {R : List Rs}
theorem tab_open (h : sat g w (Tab b n A E R :: L)) : ∃ s m p c E0, (Meq E0 E ∧ R.length ≤ 2000) ∧ sat g w (Cl b [.pointer (some ⟨s, 0, none⟩), .map (some m), .slice p R.length c] 76 :: Tb s n A :: Gp kI vE m E0 :: Sl 42 8 p R.length c (fl eRs R) :: L) := by
  obtain ⟨⟨s, m, p, c, E0⟩, h1, h2⟩ := sat_open (X := Nat × Nat × Option Addr × Nat × Tm) (p := fun x => Meq x.2.2.2.2 E ∧ R.length ≤ 2000) (B := fun x => star [Cl b [.pointer (some ⟨x.1, 0, none⟩), .map (some x.2.1), .slice x.2.2.1 R.length x.2.2.2.1] 76, Tb x.1 n A, Gp kI vE x.2.1 x.2.2.2.2, Sl 42 8 x.2.2.1 R.length x.2.2.2.1 (fl eRs R)]) h (fun k hk => hk)
  exact ⟨s, m, p, c, E0, h1, sat_unstar h2⟩
theorem tab_close {s m c k : Nat} {p : Option Addr} {E0 : Tm} (h1 : Meq E0 E) (h2 : R.length ≤ 2000) (hk : k = R.length) (h : sat g w (Cl b [.pointer (some ⟨s, 0, none⟩), .map (some m), .slice p k c] 76 :: Tb s n A :: Gp kI vE m E0 :: Sl 42 8 p k c (fl eRs R) :: L)) : sat g w (Tab b n A E R :: L) := by
  subst hk
  exact sat_imp (sat_star (K := [Cl b [.pointer (some ⟨s, 0, none⟩), .map (some m), .slice p R.length c] 76, Tb s n A, Gp kI vE m E0, Sl 42 8 p R.length c (fl eRs R)]) h) fun k hk => ⟨(s, m, p, c, E0), ⟨h1, h2⟩, hk⟩
end
/-- A table of which one knows where the list of its resources lies. -/
def TabX (b n : Nat) (A : List Sl2) (E : Tm) (R : List Rs) (p : Option Addr) (k c : Nat) : Assn := fun h => ∃ x : Nat × Nat × Tm, (Meq x.2.2 E ∧ R.length ≤ 2000) ∧
  star [Cl b [.pointer (some ⟨x.1, 0, none⟩), .map (some x.2.1), .slice p k c] 76, Tb x.1 n A, Gp kI vE x.2.1 x.2.2, Sl 42 8 p k c (fl eRs R)] h
section
variable {g w : World} {L : List Assn} {b n k : Nat} {A : List Sl2} {E : Tm} {R : List Rs} {p : Option Addr} {c : Nat}
theorem tabx_open (h : sat g w (TabX b n A E R p k c :: L)) : ∃ s m E0, (Meq E0 E ∧ R.length ≤ 2000) ∧ sat g w (Cl b [.pointer (some ⟨s, 0, none⟩), .map (some m), .slice p k c] 76 :: Tb s n A :: Gp kI vE m E0 :: Sl 42 8 p k c (fl eRs R) :: L) := by
  obtain ⟨⟨s, m, E0⟩, h1, h2⟩ := sat_open (X := Nat × Nat × Tm) (p := fun x => Meq x.2.2 E ∧ R.length ≤ 2000) (B := fun x => star [Cl b [.pointer (some ⟨x.1, 0, none⟩), .map (some x.2.1), .slice p k c] 76, Tb x.1 n A, Gp kI vE x.2.1 x.2.2, Sl 42 8 p k c (fl eRs R)]) h (fun k hk => hk)
  exact ⟨s, m, E0, h1, sat_unstar h2⟩
theorem tabx_close {s m : Nat} {E0 : Tm} (h1 : Meq E0 E) (h2 : R.length ≤ 2000) (h : sat g w (Cl b [.pointer (some ⟨s, 0, none⟩), .map (some m), .slice p k c] 76 :: Tb s n A :: Gp kI vE m E0 :: Sl 42 8 p k c (fl eRs R) :: L)) : sat g w (TabX b n A E R p k c :: L) :=
  sat_imp (sat_star (K := [Cl b [.pointer (some ⟨s, 0, none⟩), .map (some m), .slice p k c] 76, Tb s n A, Gp kI vE m E0, Sl 42 8 p k c (fl eRs R)]) h) fun k hk => ⟨(s, m, E0), ⟨h1, h2⟩, hk⟩
end
theorem kyI : KyOk Try.prog 3 kI := kyInt Try.underlying3
set_option maxHeartbeats 4000000 in
theorem tvalid_ht (b n : Nat) (A : List Sl2) (E : Tm) (RL : List Rs) : HT Try.prog 36 [Value.pointer (some ⟨b, 0, none⟩)] [Tab b n A E RL] (fun v K => v = Value.bool true ∧ K = [Tab b n A E RL]) := by
 refine hi_in 12 ([(0, pV b)] : Fr) Try.func36 (by kernel_rfl) Try.ntmps36 rfl rfl ?_
 intro g w0 R h0
 refine ySq ?_
 refine yPl [0] ?_
 refine yB0 [] [0] [(2, .bool false)] (.mk ?_)
 refine yK [(0, pV b)] fun lr1 => ?_
 refine ySq ?_
 refine yPl [0, 1, 2, 3, 4, 5, 6, 7, 8, 9] ?_
 obtain ⟨s2, m3, p4, c5, E6, hM7, h8⟩ := tab_open h0
 have hRl_ := hM7.2
 refine yBb [] [(2, .bool true), (11, .bool true), (10, .bool true), (9, .map (some m3)), (8, .pointer (some ⟨b, 1, none⟩)), (7, pV b), (6, pV b), (5, .bool true), (4, .bool true), (3, pV b)] [e0 0, e0 1, e0 2, e0 3, e0 4, e0 5, e2 6 [.map (some m3)], e0 7, e0 8, e0 9] [(6, ⟨b, 1, none⟩, .map (some m3))] [] trivial (kC (sat_cell h8 0 rfl rfl) nC) (.mk ?_)
 refine yK [(2, .bool true)] fun lr9 => ?_
 refine yRt ?_
 repeat (first | simp only [Exit.inBlock] | simp only [Exit.then])
 have h10 : sat g w0 [Tab b n A E RL, R] := tab_close hM7.1 (by omega) (by first | rfl | omega) h8
 refine hi_out [] (.bool true) [] (by kernel_rfl) (by intro q hq; cases hq) ?_
 exact ⟨.bool true, [Tab b n A E RL], rfl, ⟨rfl, rfl⟩, h10⟩

set_option maxHeartbeats 4000000 in
theorem obj_t (i gn : Int) (h : 0 ≤ i ∧ i ≤ 255 ∧ 1 ≤ gn) : HT Try.prog 38 [Value.agg #[Value.int IntKind.i64 i, Value.int IntKind.u32 gn]] [] (fun v K => v = Value.bool true ∧ K = []) := by
 refine hi_in 16 ([(0, .agg #[iV i, uV gn])] : Fr) Try.func38 (by kernel_rfl) Try.ntmps38 rfl rfl ?_
 intro g w0 R h0
 refine ySq ?_
 refine yPl [0, 1] ?_
 refine yA ?_
 refine yNp 1 34 [iV i, uV gn] h0 fun r1 w2 h3 => ?_
 refine yB0 [] [1] [(2, .bool false)] (.mk ?_)
 refine yK [(1, pV r1)] fun lr4 => ?_
 refine ySq ?_
 refine yPl [0, 1, 2, 3, 4, 5, 6, 7, 8, 9, 10, 11, 12, 13] ?_
 refine yBb [] [(2, .bool true), (15, .bool true), (14, .bool true), (13, uV gn), (12, .pointer (some ⟨r1, 1, none⟩)), (11, .bool true), (10, .bool true), (9, .bool true), (8, iV i), (7, pV r1), (6, .bool true), (5, .bool true), (4, iV i), (3, pV r1)] [e0 0, e2 1 [iV i], e1 2 (.bool true), e0 3, e0 4, e2 5 [iV i], e1 6 (.bool true), e0 7, e0 8, e0 9, e2 10 [uV gn], e1 11 (.bool true), e0 12, e0 13] [(10, ⟨r1, 1, none⟩, uV gn), (5, ⟨r1, 0, none⟩, iV i), (1, ⟨r1, 0, none⟩, iV i)] [(.bool (decide (i ≥ 0)), .bool true), (.bool (decide (i < 256)), .bool true), (.bool (decide (gn > 0)), .bool true)] ⟨(ov_t (by omega)), (ov_t (by omega)), (ov_t (by omega)), trivial⟩ (kC (sat_cell h3 0 rfl rfl) (kC (sat_cell h3 0 rfl rfl) (kC (sat_cell h3 0 rfl rfl) nC))) (.mk ?_)
 refine yK [(2, .bool true)] fun lr5 => ?_
 refine yRt ?_
 repeat (first | simp only [Exit.inBlock] | simp only [Exit.then])
 have h6 := tk1 (sf1 h3)
 refine hi_out [] (.bool true) [] (by kernel_rfl) (by intro q hq; cases hq) ?_
 exact ⟨.bool true, [], rfl, ⟨rfl, rfl⟩, h6⟩

set_option maxHeartbeats 4000000 in
theorem obj_f (i gn : Int) (h : i < 0 ∨ 255 < i ∨ gn ≤ 0) : HT Try.prog 38 [Value.agg #[Value.int IntKind.i64 i, Value.int IntKind.u32 gn]] [] (fun v K => v = Value.bool false ∧ K = []) := by
 refine hi_in 16 ([(0, .agg #[iV i, uV gn])] : Fr) Try.func38 (by kernel_rfl) Try.ntmps38 rfl rfl ?_
 intro g w0 R h0
 refine ySq ?_
 refine yPl [0, 1] ?_
 refine yA ?_
 refine yNp 1 34 [iV i, uV gn] h0 fun r1 w2 h3 => ?_
 refine yB0 [] [1] [(2, .bool false)] (.mk ?_)
 refine yK [(1, pV r1)] fun lr4 => ?_
 refine ySq ?_
 refine yPl [0, 1, 2, 3, 4, 5, 6, 7, 8, 9, 10, 11, 12, 13] ?_
 refine yBb [2, 3, 4, 5, 6, 7, 8, 9, 10, 11, 12, 13] [(4, iV i), (3, pV r1)] [e0 0, e2 1 [iV i]] [(1, ⟨r1, 0, none⟩, iV i)] [] trivial (kC (sat_cell h3 0 rfl rfl) nC) ?_
 by_cases c5 : i ≥ 0
 ·
  refine yBb [6, 7, 8, 9, 10, 11, 12, 13] [(8, iV i), (7, pV r1), (6, .bool true), (5, .bool true)] [e1 2 (.bool true), e0 3, e0 4, e2 5 [iV i]] [(5, ⟨r1, 0, none⟩, iV i)] [(.bool (decide (i ≥ 0)), .bool true)] ⟨(ov_t (by omega)), trivial⟩ (kC (sat_cell h3 0 rfl rfl) nC) ?_
  by_cases c6 : i < 256
  ·
   refine yBb [] [(2, .bool false), (15, .bool false), (14, .bool false), (13, uV gn), (12, .pointer (some ⟨r1, 1, none⟩)), (11, .bool true), (10, .bool true), (9, .bool true)] [e1 6 (.bool true), e0 7, e0 8, e0 9, e2 10 [uV gn], e1 11 (.bool false), e0 12, e0 13] [(10, ⟨r1, 1, none⟩, uV gn)] [(.bool (decide (i < 256)), .bool true), (.bool (decide (gn > 0)), .bool false)] ⟨(ov_t (by omega)), (ov_f (by omega)), trivial⟩ (kC (sat_cell h3 0 rfl rfl) nC) (.mk ?_)
   refine yK [(2, .bool false)] fun lr7 => ?_
   refine yRt ?_
   repeat (first | simp only [Exit.inBlock] | simp only [Exit.then])
   have h8 := tk1 (sf1 h3)
   refine hi_out [] (.bool false) [] (by kernel_rfl) (by intro q hq; cases hq) ?_
   exact ⟨.bool false, [], rfl, ⟨rfl, rfl⟩, h8⟩
  ·
   refine yBb [] [(2, .bool false), (15, .bool false), (14, undef), (13, undef), (12, undef), (11, .bool false), (10, .bool false), (9, .bool false)] [e1 6 (.bool false), e0 7, e0 8, e0 9, e0 10, e0 11, e0 12, e0 13] [] [(.bool (decide (i < 256)), .bool false)] ⟨(ov_f (by omega)), trivial⟩ nC (.mk ?_)
   refine yK [(2, .bool false)] fun lr9 => ?_
   refine yRt ?_
   repeat (first | simp only [Exit.inBlock] | simp only [Exit.then])
   have h10 := tk1 (sf1 h3)
   refine hi_out [] (.bool false) [] (by kernel_rfl) (by intro q hq; cases hq) ?_
   exact ⟨.bool false, [], rfl, ⟨rfl, rfl⟩, h10⟩
 ·
  refine yBb [] [(2, .bool false), (15, .bool false), (14, undef), (13, undef), (12, undef), (11, .bool false), (10, .bool false), (9, undef), (8, undef), (7, undef), (6, .bool false), (5, .bool false)] [e1 2 (.bool false), e0 3, e0 4, e0 5, e0 6, e0 7, e0 8, e0 9, e0 10, e0 11, e0 12, e0 13] [] [(.bool (decide (i ≥ 0)), .bool false)] ⟨(ov_f (by omega)), trivial⟩ nC (.mk ?_)
  refine yK [(2, .bool false)] fun lr11 => ?_
  refine yRt ?_
  repeat (first | simp only [Exit.inBlock] | simp only [Exit.then])
  have h12 := tk1 (sf1 h3)
  refine hi_out [] (.bool false) [] (by kernel_rfl) (by intro q hq; cases hq) ?_
  exact ⟨.bool false, [], rfl, ⟨rfl, rfl⟩, h12⟩

set_option maxHeartbeats 4000000 in
theorem tall1_ht (b : Nat) : HT Try.prog 48 [Value.pointer (some ⟨b, 0, none⟩)] [] (fun v K => ∃ c : Nat, v = Value.func (Fn.func 62) #[] #[Value.pointer (some ⟨c, 0, none⟩)] ∧ K = [Cl c [Value.pointer (some ⟨b, 0, none⟩)] 22]) := by
 refine hi_in 4 ([(0, pV b)] : Fr) Try.func48 (by kernel_rfl) Try.ntmps48 rfl rfl ?_
 intro g w0 R h0
 refine ySq ?_
 refine yPl [0, 1] ?_
 refine yA ?_
 refine yNp 1 22 [pV b] h0 fun r1 w2 h3 => ?_
 refine yB0 [] [1] [(2, Value.nilFunc)] (.mk ?_)
 refine yK [(1, pV r1)] fun lr4 => ?_
 refine ySq ?_
 refine yPl [0, 1] ?_
 refine yB0 [] [0, 1] [(2, .func (Fn.func 62) #[] #[pV r1]), (3, .func (Fn.func 62) #[] #[pV r1])] (.mk ?_)
 refine yK [(2, .func (Fn.func 62) #[] #[pV r1])] fun lr5 => ?_
 refine yRt ?_
 repeat (first | simp only [Exit.inBlock] | simp only [Exit.then])
 refine hi_out [] (.func (Fn.func 62) #[] #[pV r1]) [] (by kernel_rfl) (by intro q hq; cases hq) ?_
 exact ⟨.func (Fn.func 62) #[] #[pV r1], [Cl r1 [pV b] 22], rfl, ⟨r1, rfl, rfl⟩, h3⟩

set_option maxHeartbeats 4000000 in
theorem tall_it (c b n : Nat) (A : List Sl2) (E : Tm) (RL : List Rs) : IT Try.prog 62 [Value.pointer (some ⟨c, 0, none⟩)] (((allE E).length)) ((fun i => [vE ((allE E).getD i noE)])) [Cl c [Value.pointer (some ⟨b, 0, none⟩)] 22, Tab b n A E RL] := by
 refine it_in 26 (fun k_ => ([(0, .func (Fn.yield k_) #[] #[]), (1, pV c)] : Fr)) Try.func62 (by kernel_rfl) Try.ntmps62 rfl (fun _ => rfl) ?_
 intro g w0 R k_ J_ E_ hY h0
 have h1 : sat g w0 [J_ 0, Cl c [pV b] 22, Tab b n A E RL, R] := h0
 change WP _ _ (CA Try.f62 []) _ (mk 26 (([(0, .func (Fn.yield k_) #[] #[]), (1, pV c)] : Fr))) _
 refine ySq ?_
 refine yPl [0] ?_
 refine yB0 [] [0] [(6, iV 0)] (.mk ?_)
 refine yK [(0, .func (Fn.yield k_) #[] #[]), (1, pV c), (6, iV 0)] fun lr2 => ?_
 refine yBk 0 ?_
 refine gi_lp (x := CA Try.f62 [1, 0, 0]) (by kernel_rfl) (fun mz_ a w => ∃ k : Nat, ∃ lr : Fr, mz_ = 256 - k ∧ (k ≤ 256) ∧ a = mk 26 (([(0, .func (Fn.yield k_) #[] #[]), (1, pV c), (6, iV (k : Int))] : Fr) ++ lr) ∧ sat g w [J_ (((someE E k).length)), Cl c [pV b] 22, Tab b n A E RL, R]) (256 - 0) ⟨0, _, rfl, (Nat.zero_le _), (mk_live [(0, .func (Fn.yield k_) #[] #[]), (1, pV c), (6, iV (0 : Int))] ⟨rfl, rfl, (ov_int (by omega)), trivial⟩), h1⟩ ?_
 rintro m4 a5 w6 ⟨k, lr3, rfl, hk, rfl, h7⟩
 refine ySq ?_
 refine yPl [0] ?_
 by_cases c8 : (k : Int) < 256
 ·
  refine yBb [] [(7, .bool true)] [e1 0 (.bool true)] [] [(.bool (decide ((k : Int) < 256)), .bool true)] ⟨(ov_t (by omega)), trivial⟩ nC (.mk ?_)
  refine yK [(0, .func (Fn.yield k_) #[] #[]), (1, pV c), (6, iV (k : Int)), (7, .bool true)] fun lr9 => ?_
  refine ySq ?_
  refine yCt ?_
  refine ySk ?_
  refine ySq ?_
  refine yBk 1 ?_
  refine ySq ?_
  refine yPl [0, 1] ?_
  refine yB0 [] [0, 1] [(3, iV (k : Int)), (8, iV (k : Int))] (.mk ?_)
  refine yK [(0, .func (Fn.yield k_) #[] #[]), (1, pV c), (3, iV (k : Int)), (6, iV (k : Int))] fun lr10 => ?_
  refine ySq ?_
  refine yPl [0, 1, 2, 3, 4, 5, 6, 7, 8, 9, 10, 11] ?_
  have h11 := tk4 (sf3 (sf2 (sf2 (sf3 h7))))
  obtain ⟨s12, m13, p14, c15, E16, hM17, h18⟩ := tab_open h11
  have hRl_ := hM17.2
  refine yBb [5, 6, 7, 8, 9, 10, 11] [(14, iV (k : Int)), (13, .map (some m13)), (12, .pointer (some ⟨b, 1, none⟩)), (11, pV b), (10, pV b)] [e2 0 [pV b], e0 1, e0 2, e2 3 [.map (some m13)], e0 4] [(3, ⟨b, 1, none⟩, .map (some m13)), (0, ⟨c, 0, none⟩, pV b)] [] trivial (kC (sat_cell h18 0 rfl rfl) (kC (sat_cell h7 1 rfl rfl) nC)) ?_
  rcases hg20 : gget E (k : Int) with _ | e19
  ·
   refine yA ?_
   refine act_law (d := 15) (.tuple #[.agg #[iV 0, iV 0, uV 0, iV 0, iV 0, uV 0], .bool false]) (by kernel_rfl) rfl (law_lookupOk (t := 73) (z := .agg #[iV 0, iV 0, uV 0, iV 0, iV 0, uV 0]) (m := (Operand.tmp 13)) (x := (Operand.tmp 14)) (kv := kI) (ve := vE) (by kernel_rfl) Try.underlying73 kyI (by kernel_rfl) (k : Int) (by kernel_rfl) (by kernel_rfl) (j := 2) h18 rfl (.agg #[iV 0, iV 0, uV 0, iV 0, iV 0, uV 0]) false (by rw [hM17.1.2.2 (k : Int), hg20]; exact ⟨rfl, rfl⟩)) ?_
   refine yB0 [9, 10, 11] [6, 7, 8] [(17, .bool false), (16, .agg #[iV 0, iV 0, uV 0, iV 0, iV 0, uV 0]), (9, .tuple #[.agg #[iV 0, iV 0, uV 0, iV 0, iV 0, uV 0], .bool false])] ?_
   refine yA ?_
   refine yNp 4 90 [iV 0, iV 0, uV 0, iV 0, iV 0, uV 0] h18 fun r21 w22 h23 => ?_
   refine yA ?_
   refine yS [(0, iV 0), (1, iV 0), (2, uV 0), (3, iV 0), (4, iV 0), (5, uV 0)] [iV 0, iV 0, uV 0, iV 0, iV 0, uV 0] h23 fun w24 h25 => ?_
   refine yB0 [] [11] [(5, .bool false)] (.mk ?_)
   refine yK [(0, .func (Fn.yield k_) #[] #[]), (1, pV c), (4, pV r21), (5, .bool false), (6, iV (k : Int))] fun lr26 => ?_
   refine ySq ?_
   have h27 := tk8 (sf7 (sf7 (sf7 (sf7 (sf3 (sf7 (sf7 (sf7 h25))))))))
   have h28 : sat g w24 [Tab b n A E RL, Cl r21 [iV 0, iV 0, uV 0, iV 0, iV 0, uV 0] 90, J_ (((someE E k).length)), Cl c [pV b] 22, R] := tab_close hM17.1 (by omega) (by first | rfl | omega) h27
   refine gi_ply (id := 4) (ops := RA Try.f62 [1, 0, 0, 1, 1, 0, 0, 1, 1, 0]) [0, 1, 2, 3] [4, 5, 6] (by kernel_rfl) (by kernel_rfl) (by kernel_rfl) ?_
   refine yB0 [] [0, 1, 2, 3] [(21, undef), (20, undef), (19, .bool false), (18, .bool false)] (.mk ?_)
   refine yp_skip (by kernel_rfl) ?_
   refine plain_skip (by kernel_rfl : chkN (RA Try.f62 [1, 0, 0, 1, 1, 0, 0, 1, 1, 0]) 26 _ 4 = some (some 22)) rfl ?_
   refine yB0 [] [5, 6] [(24, .bool false), (23, undef)] (.mk ?_)
   refine yK [(0, .func (Fn.yield k_) #[] #[]), (1, pV c), (6, iV (k : Int)), (24, .bool false)] fun lr29 => ?_
   refine yCf ?_
   refine ySk ?_
   refine yPl [0, 1] ?_
   refine yBb [] [(6, iV ((k : Int) + 1)), (25, iV ((k : Int) + 1))] [e1 0 (iV ((k : Int) + 1)), e0 1] [] [(iV (IntKind.wrap .i64 ((k : Int) + 1)), iV ((k : Int) + 1))] ⟨(ov_i64 (by omega) (by omega) (by omega)), trivial⟩ nC (.mk ?_)
   have h30 := tk5 (sf4 (sf3 (sf3 (sf4 (sf4 h28)))))
   have h31 : sat g w24 [J_ (((someE E (k + 1)).length)), Tab b n A E RL, Cl r21 [iV 0, iV 0, uV 0, iV 0, iV 0, uV 0] 90, Cl c [pV b] 22, R] := (show ((someE E k).length) = (someE E (k + 1)).length from (cntE_no hg20).symm) ▸ h30
   have h32 := tk5 (sf4 (sf4 (sf3 (sf4 (sf2 h31)))))
   have h33 := tk4 h32
   change ∃ n', n' < _ ∧ _
   refine ⟨(256 - (k + 1)), by omega, (k + 1), _, rfl, (by omega), (mk_live [(0, .func (Fn.yield k_) #[] #[]), (1, pV c), (6, iV ((((k + 1) : Nat) : Int)))] ⟨rfl, rfl, (ov_int (by omega)), trivial⟩), h33⟩
  ·
   refine yA ?_
   refine act_law (d := 15) (.tuple #[.agg #[iV e19.d.1, iV e19.d.2.1, uV e19.d.2.2, iV e19.num, iV e19.h.1, uV e19.h.2], .bool true]) (by kernel_rfl) rfl (law_lookupOk (t := 73) (z := .agg #[iV 0, iV 0, uV 0, iV 0, iV 0, uV 0]) (m := (Operand.tmp 13)) (x := (Operand.tmp 14)) (kv := kI) (ve := vE) (by kernel_rfl) Try.underlying73 kyI (by kernel_rfl) (k : Int) (by kernel_rfl) (by kernel_rfl) (j := 2) h18 rfl (.agg #[iV e19.d.1, iV e19.d.2.1, uV e19.d.2.2, iV e19.num, iV e19.h.1, uV e19.h.2]) true (by rw [hM17.1.2.2 (k : Int), hg20]; exact ⟨rfl, rfl⟩)) ?_
   refine yB0 [9, 10, 11] [6, 7, 8] [(17, .bool true), (16, .agg #[iV e19.d.1, iV e19.d.2.1, uV e19.d.2.2, iV e19.num, iV e19.h.1, uV e19.h.2]), (9, .tuple #[.agg #[iV e19.d.1, iV e19.d.2.1, uV e19.d.2.2, iV e19.num, iV e19.h.1, uV e19.h.2], .bool true])] ?_
   refine yA ?_
   refine yNp 4 90 [iV 0, iV 0, uV 0, iV 0, iV 0, uV 0] h18 fun r34 w35 h36 => ?_
   refine yA ?_
   refine yS [(0, iV e19.d.1), (1, iV e19.d.2.1), (2, uV e19.d.2.2), (3, iV e19.num), (4, iV e19.h.1), (5, uV e19.h.2)] [iV e19.d.1, iV e19.d.2.1, uV e19.d.2.2, iV e19.num, iV e19.h.1, uV e19.h.2] h36 fun w37 h38 => ?_
   refine yB0 [] [11] [(5, .bool true)] (.mk ?_)
   refine yK [(0, .func (Fn.yield k_) #[] #[]), (1, pV c), (4, pV r34), (5, .bool true), (6, iV (k : Int))] fun lr39 => ?_
   refine ySq ?_
   have h40 := tk8 (sf7 (sf7 (sf7 (sf7 (sf3 (sf7 (sf7 (sf7 h38))))))))
   have h41 : sat g w37 [Tab b n A E RL, Cl r34 [iV e19.d.1, iV e19.d.2.1, uV e19.d.2.2, iV e19.num, iV e19.h.1, uV e19.h.2] 90, J_ (((someE E k).length)), Cl c [pV b] 22, R] := tab_close hM17.1 (by omega) (by first | rfl | omega) h40
   refine gi_ply (id := 4) (ops := RA Try.f62 [1, 0, 0, 1, 1, 0, 0, 1, 1, 0]) [0, 1, 2, 3] [4, 5, 6] (by kernel_rfl) (by kernel_rfl) (by kernel_rfl) ?_
   refine yBb [] [(21, .agg #[iV e19.d.1, iV e19.d.2.1, uV e19.d.2.2, iV e19.num, iV e19.h.1, uV e19.h.2]), (20, .func (Fn.yield k_) #[] #[]), (19, .bool true), (18, .bool true)] [e0 0, e0 1, e0 2, e2 3 [iV e19.d.1, iV e19.d.2.1, uV e19.d.2.2, iV e19.num, iV e19.h.1, uV e19.h.2]] [(3, ⟨r34, 0, none⟩, iV e19.d.1), (3, ⟨r34, 1, none⟩, iV e19.d.2.1), (3, ⟨r34, 2, none⟩, uV e19.d.2.2), (3, ⟨r34, 3, none⟩, iV e19.num), (3, ⟨r34, 4, none⟩, iV e19.h.1), (3, ⟨r34, 5, none⟩, uV e19.h.2)] [] trivial (kC (sat_cell h41 1 rfl rfl) (kC (sat_cell h41 1 rfl rfl) (kC (sat_cell h41 1 rfl rfl) (kC (sat_cell h41 1 rfl rfl) (kC (sat_cell h41 1 rfl rfl) (kC (sat_cell h41 1 rfl rfl) nC)))))) (.mk ?_)
   have h42 := tk5 (sf4 (sf4 (sf2 (sf2 (sf4 h41)))))
   change YP _ (RA Try.f62 [1, 0, 0, 1, 1, 0, 0, 1, 1, 0]) _ [4, 5, 6] (mk 26 (([(21, .agg #[iV e19.d.1, iV e19.d.2.1, uV e19.d.2.2, iV e19.num, iV e19.h.1, uV e19.h.2]), (20, .func (Fn.yield k_) #[] #[]), (19, .bool true), (18, .bool true), (0, .func (Fn.yield k_) #[] #[]), (1, pV c), (4, pV r34), (5, .bool true), (6, iV (k : Int))] : Fr) ++ lr39)) _
   refine yp_yield (d := some 22) (k := k_) (args := [Value.agg #[Value.int IntKind.i64 e19.d.1, Value.int IntKind.i64 e19.d.2.1, Value.int IntKind.u32 e19.d.2.2, Value.int IntKind.i64 e19.num, Value.int IntKind.i64 e19.h.1, Value.int IntKind.u32 e19.h.2]]) (xa := ((fun i => [vE ((allE E).getD i noE)])) (((someE E k).length))) (S1 := fun w => sat g w [J_ (((someE E k).length) + 1), Cl c [Value.pointer (some ⟨b, 0, none⟩)] 22, Tab b n A E RL, Cl r34 [Value.int IntKind.i64 e19.d.1, Value.int IntKind.i64 e19.d.2.1, Value.int IntKind.u32 e19.d.2.2, Value.int IntKind.i64 e19.num, Value.int IntKind.i64 e19.h.1, Value.int IntKind.u32 e19.h.2] 90, R]) (S2 := fun w => sat g w [E_ (((someE E k).length)), Cl r34 [Value.int IntKind.i64 e19.d.1, Value.int IntKind.i64 e19.d.2.1, Value.int IntKind.u32 e19.d.2.2, Value.int IntKind.i64 e19.num, Value.int IntKind.i64 e19.h.1, Value.int IntKind.u32 e19.h.2] 90, R]) (by kernel_rfl) (by kernel_rfl) (by kernel_rfl) ((by show [vE ((allE E).getD (((someE E k).length)) noE)] = _; rw [getD_some (allE_at hg20 (by omega))]; rfl)) (hY (((someE E k).length)) ((List.getElem?_eq_some_iff.1 (allE_at hg20 (by omega))).1) _ [Cl r34 [Value.int IntKind.i64 e19.d.1, Value.int IntKind.i64 e19.d.2.1, Value.int IntKind.u32 e19.d.2.2, Value.int IntKind.i64 e19.num, Value.int IntKind.i64 e19.h.1, Value.int IntKind.u32 e19.h.2] 90, R] h42) ?_ ?_
   ·
    intro w43 h44
    refine ⟨_, rfl, ?_⟩
    have h45 : sat g w43 [J_ (((someE E k).length) + 1), Cl c [pV b] 22, Tab b n A E RL, Cl r34 [iV e19.d.1, iV e19.d.2.1, uV e19.d.2.2, iV e19.num, iV e19.h.1, uV e19.h.2] 90, R] := h44
    have hlt46 := ((List.getElem?_eq_some_iff.1 (allE_at hg20 (by omega))).1 : ((someE E k).length) < ((allE E).length))
    refine yB0 [] [5, 6] [(24, .bool false), (23, .bool false)] (.mk ?_)
    refine yK [(0, .func (Fn.yield k_) #[] #[]), (1, pV c), (6, iV (k : Int)), (24, .bool false)] fun lr47 => ?_
    refine yCf ?_
    refine ySk ?_
    refine yPl [0, 1] ?_
    refine yBb [] [(6, iV ((k : Int) + 1)), (25, iV ((k : Int) + 1))] [e1 0 (iV ((k : Int) + 1)), e0 1] [] [(iV (IntKind.wrap .i64 ((k : Int) + 1)), iV ((k : Int) + 1))] ⟨(ov_i64 (by omega) (by omega) (by omega)), trivial⟩ nC (.mk ?_)
    have h48 : sat g w43 [J_ (((someE E (k + 1)).length)), Cl c [pV b] 22, Tab b n A E RL, Cl r34 [iV e19.d.1, iV e19.d.2.1, uV e19.d.2.2, iV e19.num, iV e19.h.1, uV e19.h.2] 90, R] := (show ((someE E k).length) + 1 = (someE E (k + 1)).length from (cntE_go hg20).symm) ▸ h45
    have h49 := tk5 (sf4 (sf4 (sf4 (sf4 (sf3 h48)))))
    have h50 := tk4 h49
    change ∃ n', n' < _ ∧ _
    refine ⟨(256 - (k + 1)), by omega, (k + 1), _, rfl, (by omega), (mk_live [(0, .func (Fn.yield k_) #[] #[]), (1, pV c), (6, iV ((((k + 1) : Nat) : Int)))] ⟨rfl, rfl, (ov_int (by omega)), trivial⟩), h50⟩
   ·
    intro w51 h52
    refine ⟨_, rfl, ?_⟩
    have h53 : sat g w51 [E_ (((someE E k).length)), Cl r34 [iV e19.d.1, iV e19.d.2.1, uV e19.d.2.2, iV e19.num, iV e19.h.1, uV e19.h.2] 90, R] := h52
    have hlt54 := ((List.getElem?_eq_some_iff.1 (allE_at hg20 (by omega))).1 : ((someE E k).length) < ((allE E).length))
    refine yB0 [] [5, 6] [(24, .bool true), (23, .bool true)] (.mk ?_)
    refine yK [(0, .func (Fn.yield k_) #[] #[]), (1, pV c), (6, iV (k : Int)), (24, .bool true)] fun lr55 => ?_
    refine yCt ?_
    refine yRt ?_
    repeat (first | simp only [Exit.inBlock] | simp only [Exit.then])
    refine hi_out [] (.tuple #[]) [] (by kernel_rfl) (by intro q hq; cases hq) ⟨⟨_, rfl⟩, ?_⟩
    have h56 := tk3 (sf2 (sf2 (sf1 h53)))
    have h57 := tk2 h56
    exact .inr ⟨((someE E k).length), (by omega), h57⟩
 ·
  refine yBb [] [(7, .bool false)] [e1 0 (.bool false)] [] [(.bool (decide ((k : Int) < 256)), .bool false)] ⟨(ov_f (by omega)), trivial⟩ nC (.mk ?_)
  refine yK [(0, .func (Fn.yield k_) #[] #[]), (1, pV c), (6, iV (k : Int)), (7, .bool false)] fun lr58 => ?_
  refine ySq ?_
  refine yCf ?_
  refine yEx 0 ?_
  repeat (first | simp only [Exit.inBlock] | simp only [Exit.then])
  refine hi_outn [] (.tuple #[]) [] (by kernel_rfl) (by intro q hq; cases hq) ⟨⟨_, rfl⟩, ?_⟩
  have he_ : ((someE E k).length) = ((allE E).length) := (by show _ = (someE E 256).length; rw [show k = 256 from by omega])
  exact .inl (he_ ▸ h7)

end Go.Proofs.Ytjjpmehiolejgaa
