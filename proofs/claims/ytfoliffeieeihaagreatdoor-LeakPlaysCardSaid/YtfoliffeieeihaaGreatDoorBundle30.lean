/- Walks, printed by my generator l4.py. -/
import Derived.Test.YtfoliffeieeihaaGreatDoorBundle28
import Derived.Test.YtfoliffeieeihaaGreatDoorSrt
import Derived.Test.YtfoliffeieeihaaGreatDoorBundle18
namespace Go.Proofs.YtfoliffeieeihaaGreatDoor
def sortRen : Go.Shelf.Ren := ⟨fun | 6 => 40 | 14 => 58 | 15 => 59 | 20 => 73 | 21 => 74 | 22 => 75 | 23 => 76 | 24 => 77 | 25 => 78 | 26 => 79 | 27 => 80 | 28 => 81 | 29 => 82 | 46 => 98 | 47 => 99 | 48 => 100 | 49 => 101 | 50 => 102 | 57 => 113 | n => n, fun | 22 => 40 | 24 => 61 | 25 => 78 | 3 => 3 | 39 => 100 | 0 => 0 | 53 => 29 | 55 => 114 | 4 => 4 | 46 => 122 | 45 => 121 | 50 => 92 | 5 => 5 | 9 => 9 | 66 => 138 | 70 => 142 | 76 => 152 | 77 => 118 | n => n, fun n => n⟩
theorem sortLay : SlLaysF0.n6 Tryz.prog sortRen where
  mixed := by kernel_rfl
  f6 := ⟨ "slices.SortFunc[[]estray/leak.Leak,estray/leak.Leak]", by decide, Tryz.func40.trans (congrArg some (by kernel_rfl))⟩
  f14 := ⟨ "slices.pdqsortCmpFunc[estray/leak.Leak]", by decide, Tryz.func58.trans (congrArg some (by kernel_rfl))⟩
  f15 := Tryz.func59.trans (congrArg some (by kernel_rfl))
  f20 := ⟨ "slices.insertionSortCmpFunc[estray/leak.Leak]", by decide, Tryz.func73.trans (congrArg some (by kernel_rfl))⟩
  f21 := ⟨ "slices.heapSortCmpFunc[estray/leak.Leak]", by decide, Tryz.func74.trans (congrArg some (by kernel_rfl))⟩
  f22 := ⟨ "slices.breakPatternsCmpFunc[estray/leak.Leak]", by decide, Tryz.func75.trans (congrArg some (by kernel_rfl))⟩
  f23 := ⟨ "slices.choosePivotCmpFunc[estray/leak.Leak]", by decide, Tryz.func76.trans (congrArg some (by kernel_rfl))⟩
  f24 := ⟨ "slices.reverseRangeCmpFunc[estray/leak.Leak]", by decide, Tryz.func77.trans (congrArg some (by kernel_rfl))⟩
  f25 := ⟨ "slices.partialInsertionSortCmpFunc[estray/leak.Leak]", by decide, Tryz.func78.trans (congrArg some (by kernel_rfl))⟩
  f26 := ⟨ "slices.partitionEqualCmpFunc[estray/leak.Leak]", by decide, Tryz.func79.trans (congrArg some (by kernel_rfl))⟩
  f27 := ⟨ "slices.partitionCmpFunc[estray/leak.Leak]", by decide, Tryz.func80.trans (congrArg some (by kernel_rfl))⟩
  f28 := Tryz.func81.trans (congrArg some (by kernel_rfl))
  f29 := Tryz.func82.trans (congrArg some (by kernel_rfl))
  f46 := ⟨ "slices.siftDownCmpFunc[estray/leak.Leak]", by decide, Tryz.func98.trans (congrArg some (by kernel_rfl))⟩
  f47 := Tryz.func99.trans (congrArg some (by kernel_rfl))
  f48 := Tryz.func100.trans (congrArg some (by kernel_rfl))
  f49 := ⟨ "slices.medianAdjacentCmpFunc[estray/leak.Leak]", by decide, Tryz.func101.trans (congrArg some (by kernel_rfl))⟩
  f50 := ⟨ "slices.medianCmpFunc[estray/leak.Leak]", by decide, Tryz.func102.trans (congrArg some (by kernel_rfl))⟩
  f57 := ⟨ "slices.order2CmpFunc[estray/leak.Leak]", by decide, Tryz.func113.trans (congrArg some (by kernel_rfl))⟩
  t0 := Tryz.underlying0
  a0 := Tryz.isAgg0
  z0 := Tryz.sizeOf0
  v0 := Tryz.zeroValue0
  t3 := Tryz.underlying3
  a3 := Tryz.isAgg3
  z3 := Tryz.sizeOf3
  v3 := Tryz.zeroValue3
  t4 := Tryz.underlying4
  a4 := Tryz.isAgg4
  z4 := Tryz.sizeOf4
  v4 := Tryz.zeroValue4
  t5 := Tryz.underlying5
  a5 := Tryz.isAgg5
  z5 := Tryz.sizeOf5
  v5 := Tryz.zeroValue5
  t9 := Tryz.underlying9
  a9 := Tryz.isAgg9
  z9 := Tryz.sizeOf9
  v9 := Tryz.zeroValue9
  t22 := Tryz.underlying40
  a22 := Tryz.isAgg40
  z22 := Tryz.sizeOf40
  v22 := Tryz.zeroValue40
  t25 := Tryz.underlying78
  a25 := Tryz.isAgg78
  z25 := Tryz.sizeOf78
  v25 := Tryz.zeroValue78
  t39 := Tryz.underlying100
  a39 := Tryz.isAgg100
  z39 := Tryz.sizeOf100
  v39 := Tryz.zeroValue100
  t45 := Tryz.underlying121
  a45 := Tryz.isAgg121
  z45 := Tryz.sizeOf121
  v45 := Tryz.zeroValue121
  t46 := Tryz.underlying122
  a46 := Tryz.isAgg122
  z46 := Tryz.sizeOf122
  v46 := Tryz.zeroValue122
  t50 := Tryz.underlying92
  a50 := Tryz.isAgg92
  z50 := Tryz.sizeOf92
  v50 := Tryz.zeroValue92
  t53 := Tryz.underlying29
  a53 := Tryz.isAgg29
  z53 := Tryz.sizeOf29
  v53 := Tryz.zeroValue29
  t55 := Tryz.underlying114
  a55 := Tryz.isAgg114
  z55 := Tryz.sizeOf114
  v55 := Tryz.zeroValue114
  t66 := Tryz.underlying138
  a66 := Tryz.isAgg138
  z66 := Tryz.sizeOf138
  v66 := Tryz.zeroValue138
  t70 := Tryz.underlying142
  a70 := Tryz.isAgg142
  z70 := Tryz.sizeOf142
  v70 := Tryz.zeroValue142
  t76 := Tryz.underlying152
  a76 := Tryz.isAgg152
  z76 := Tryz.sizeOf152
  v76 := Tryz.zeroValue152
  t77 := Tryz.underlying118
  a77 := Tryz.isAgg118
  z77 := Tryz.sizeOf118
  v77 := Tryz.zeroValue118
instance : Inhabited Lk := ⟨⟨[], (0, 0, 0), 0, 0⟩⟩
def cfLk (E : Km) (x y : Lk) : Int := cmpI (ordE E x.out) (ordE E y.out)
theorem ltLk (E : Km) (x y : Lk) : ltOf (cfLk E) x y = decide (ordE E x.out < ordE E y.out) := by
  unfold ltOf cfLk
  rw [decide_eq_decide]
  exact cmpI_lt
theorem swoLk (E : Km) : Go.Sort.SWO (ltOf (cfLk E)) where
  irrefl x := by rw [ltLk]; simp
  trans x y z h1 h2 := by rw [ltLk] at *; simp at *; omega
  ntrans x y z h1 h2 := by rw [ltLk] at *; simp at *; omega
theorem lsort_ht (p : Option Addr) (m c r1 b mm : Nat) (n : Int) (X : List Lk) (E : Km) (hm : m ≤ 1000000) : HT Tryz.prog 40 [.slice p m c, .func (.func 41) #[] #[pV r1]] [Sl 61 6 p m c (fl eLk X), Cl r1 [pV b] 25, Cl b [.int .i64 n, .map (some mm)] 64, Gp kv vKn mm E]
    (fun v K => ∃ M : List Lk, (M.Perm X ∧ M.Pairwise fun a b => ordE E a.out ≤ ordE E b.out) ∧ v = .tuple #[] ∧ K = [Sl 61 6 p m c (fl eLk M), Cl r1 [pV b] 25, Cl b [.int .i64 n, .map (some mm)] 64, Gp kv vKn mm E]) := by
  intro g w F hs
  rcases Nat.eq_zero_or_pos m with h0 | h0
  · subst h0
    have hl : X = [] := List.eq_nil_of_length_eq_zero (fl_n eLk_ok (by decide) hs)
    subst hl
    refine (sort_z p c r1 g w _ hs).mono ?_
    rintro e w' ⟨v, K, rfl, ⟨rfl, rfl⟩, h2⟩
    exact ⟨_, _, rfl, ⟨[], ⟨List.Perm.refl _, List.Pairwise.nil⟩, rfl, rfl⟩, h2⟩
  · obtain ⟨es, clk, he, hmm⟩ := gp_use (j := 3) hs rfl
    have hr : w.heap[r1]? = some (.cells #[pV b] 25 (0, 0)) := sat_at (i := 1) hs rfl
    have hb : w.heap[b]? = some (.cells #[.int .i64 n, .map (some mm)] 64 (0, 0)) := sat_at (i := 2) hs rfl
    obtain ⟨bs, cur, hp, e2, e3, e4⟩ := sl_open hs h0
    have n1 : bs ≠ r1 := sat_ne (j := 1) e4 rfl (fun _ h => ⟨_, h⟩)
    have n2 : bs ≠ b := sat_ne (j := 2) e4 rfl (fun _ h => ⟨_, h⟩)
    have n3 : bs ≠ mm := sat_ne (j := 3) e4 rfl (fun _ h => by obtain ⟨x, _, h1⟩ := h; exact ⟨_, h1⟩)
    refine (sort_row sortLay eLk_ok (by decide) Tryz.isAgg61 Tryz.sizeOf61 (cfLk E) (swoLk E) 41 [pV r1] Tryz.call41 hs h0 (by omega) ?_).mono ?_
    · intro bb W hpb hW x y
      obtain rfl : bb = bs := by rw [hp] at hpb; simpa using hpb.symm
      have a1 := hW r1 (Ne.symm n1) (Array.getElem?_eq_some_iff.1 hr).1
      have a2 := hW b (Ne.symm n2) (Array.getElem?_eq_some_iff.1 hb).1
      have a3 := hW mm (Ne.symm n3) (Array.getElem?_eq_some_iff.1 hmm).1
      rw [hr] at a1
      rw [hb] at a2
      rw [hmm] at a3
      exact exact_of (all1_ht W r1 b mm es clk E (by simp [World.cell?, a1]) (by simp [World.cell?, a2]) a3 he x y)
    · rintro e w' ⟨rfl, M, h1, h2, h3⟩
      refine ⟨_, _, rfl, ⟨M, ⟨h1, h2.imp fun {a b} h => ?_⟩, rfl, rfl⟩, h3⟩
      rw [ltLk] at h
      have := of_decide_eq_false h
      omega
end Go.Proofs.YtfoliffeieeihaaGreatDoor

/- Walks, printed by my generator l5.py. -/
namespace Go.Proofs.YtfoliffeieeihaaGreatDoor
set_option maxHeartbeats 4000000 in
theorem all_ht (b : Nat) (S : Rp) : HT Tryz.prog 16 [pV b] [Rpt b S] (fun v K => ∃ (p : Option Addr) (c : Nat), (lks S).length ≤ 2000 ∧ v = .slice p (lks S).length c ∧ K = [Sl 61 6 p (lks S).length c (fl eLk (lks S)), Rpt b S]) := by
 refine hiS Tryz.func16 Tryz.ntmps16 fun g w0 R h0 => go [] <| nP 25 [pV b] h0 (fun r10 _ h12 => ?_)
 have h13 := tk3 (sf2 (sf1 (sf2 h12)))
 refine go [rd 1 0 0 0 1 h12] <| cl1 Tryz.call30 (rvalid_ht b S) h13 fun _ h15 => ?_
 obtain ⟨m16, E17, ⟨hM18, hW19⟩, h20⟩ := rp_open h15
 have hk21 := hW19.al; have hk21b := hW19.le; have hk21c := hM18.len
 have h22 := tk4 (sf3 (sf2 (sf3 (sf3 h20))))
 refine go [rd 4 0 1 0 1 h15, rd 4 3 0 1 1 h20] ?_
 refine actG ?_
 refine ag_range (t := 62) (d := 13) (x := (Operand.tmp 12)) (by kernel_rfl) (by kernel_rfl) rfl Tryz.underlying62 (by kernel_rfl) h22 ?_
 intro r23 w24 h25
 refine nxA <| go [] ?_
 have h26 : sat g w24 [Sl 61 6 none 0 0 (fl eLk []), It kv vKn m16 r23 E17 E17 none, Cl b [iV (((S.A.length : Nat) : Int)), .map (some m16)] 64, Cl r10 [pV b] 25, R] := sl_nil 61 6 h25
 refine lpS (fun mz_ a w => ∃ S_ : Km, ∃ X_ : List Lk, ∃ cu_ : Option (Ky × Kn), ∃ p2 : Option Addr, ∃ n2 : Nat, ∃ c2 : Nat, ∃ lr : Fr, mz_ = S_.length ∧ ((X_ ++ S_.filterMap toLk).Perm (E17.filterMap toLk)) ∧ (X_.length = n2) ∧ a = mk 42 (([(1, pV r10), (3, .slice p2 n2 c2), (13, pV r23)] : Fr) ++ lr) ∧ sat g w [It kv vKn m16 r23 E17 S_ cu_, Sl 61 6 p2 n2 c2 (fl eLk X_), Cl r10 [pV b] 25, Cl b [iV (((S.A.length : Nat) : Int)), .map (some m16)] 64, R]) (E17.length) ⟨E17, [], none, none, 0, 0, _, rfl, (List.Perm.refl _), rfl, (lvF [.k 1 (pV r10), .k 3 (.slice none 0 0), .k 13 (pV r23)]), (tk5 (sf4 (sf3 (sf4 (sf3 (sf4 h26))))))⟩ ?_
 rintro m29 a30 w31 ⟨S_, X_, cu_, p2, n2, c2, lr28, rfl, hP_, hn_, rfl, h32⟩
 refine ga ?_
 have hl_ := lkp_len hP_
 refine go [] ?_
 refine actG ?_
 refine ag_next (d := 14) (x := (Operand.tmp 13)) (by kernel_rfl) (by kernel_rfl) rfl (by kernel_rfl) h32 ?_ ?_
 ·
  intro hS33 w34 h35
  refine nxA <| go [] <| up ?_
  have h41 : sat g w34 [Gp kv vKn m16 E17, Sl 61 6 p2 n2 c2 (fl eLk X_), Cl r10 [pV b] 25, Cl b [iV (((S.A.length : Nat) : Int)), .map (some m16)] 64, R] := it_end h35
  have h47 := tk5 (sf4 (sf4 (sf4 (sf1 (sf4 h41)))))
  refine go [] <| cP Tryz.call40 (lsort_ht p2 n2 c2 r10 b m16 (S.A.length : Int) X_ E17 (by omega)) h47 ?_
  rintro v K w48 (⟨M42, ⟨hp43, hs44⟩, rfl, rfl⟩) h49
  have h50 := ap4 h49
  have hM45 := lk_sorted hM18 hW19 (lk_end (hS33 ▸ hP_)) hp43 hs44; have hn46 := hp43.length_eq.trans hn_; subst hM45
  have h51 : sat g w48 [Sl 61 6 p2 n2 c2 (fl eLk (lks S)), Cl r10 [pV b] 25, Cl b [iV (((S.A.length : Nat) : Int)), .map (some m16)] 64, Gp kv vKn m16 E17, R] := h50
  refine go [] ?_
  have h53 : sat g w48 [Rpt b S, Sl 61 6 p2 n2 c2 (fl eLk (lks S)), Cl r10 [pV b] 25, R] := rp_close hM18 hW19 rfl (tk5 (sf4 (sf4 (sf2 (sf2 (sf4 h51))))))
  exact en (.slice p2 n2 c2) [] ⟨_, [Sl 61 6 p2 n2 c2 (fl eLk (lks S)), Rpt b S], rfl, ⟨p2, c2, by omega, by rw [hn46], by rw [hn46]⟩, (tk3 (sf2 (sf2 (sf3 (tk4 (sf3 (sf2 (sf3 (sf3 h53)))))))))⟩
 intro ix36 q37 hq38 _ h40
 have hel56 := erase_len hq38
 refine nxA <| go [] ?_
 refine actG ?_
 refine act_law (d := 16) (.tuple #[.agg #[iV q37.1.1, iV q37.1.2.1, uV q37.1.2.2], .agg #[.string (St q37.2.tag), iV q37.2.ord, iV q37.2.at_, iV q37.2.why, iV q37.2.st]]) (by kernel_rfl) rfl (law_entry (x := (Operand.tmp 13)) (by kernel_rfl) (by kernel_rfl) h40 (.tuple #[.agg #[iV q37.1.1, iV q37.1.2.1, uV q37.1.2.2], .agg #[.string (St q37.2.tag), iV q37.2.ord, iV q37.2.at_, iV q37.2.why, iV q37.2.st]]) rfl) ?_
 refine nxA <| go [] <| nP 31 [iV 0, iV 0, uV 0] h40 (fun r57 _ h59 => ?_)
 refine nP 70 [.string (St []), iV 0, iV 0, iV 0, iV 0] h59 (fun r60 _ h62 => ?_)
 refine sP [(0, iV q37.1.1), (1, iV q37.1.2.1), (2, uV q37.1.2.2)] [iV q37.1.1, iV q37.1.2.1, uV q37.1.2.2] (tk7 (sf6 (sf5 (sf6 (sf6 (sf6 (sf6 (sf6 h62)))))))) fun _ h65 => sP [(0, .string (St q37.2.tag)), (1, iV q37.2.ord), (2, iV q37.2.at_), (3, iV q37.2.why), (4, iV q37.2.st)] [.string (St q37.2.tag), iV q37.2.ord, iV q37.2.at_, iV q37.2.why, iV q37.2.st] (tk7 (sf6 (sf5 (sf6 (sf6 (sf6 (sf6 (sf6 h65)))))))) fun _ h68 => go [rd 7 1 0 1 1 h68, .s 7 2] ?_
 by_cases c69 : q37.2.ord ≥ 0
 ·
  refine go [.v 7 2 (oT (q37.2.ord ≥ 0)), rd 7 5 0 3 1 h68, .s 7 6] ?_
  by_cases c70 : q37.2.why = 3
  ·
   refine go [.v 7 6 (qeT q37.2.why 3), rd 8 2 0 0 1 h68, rd 8 3 1 0 3 h68, rd 8 5 0 2 1 h68, rd 8 7 0 4 1 h68] <| nG (fun q_ => .slice (some ⟨q_, 0, none⟩) 1 1) 61 [.string (St q37.2.tag), iV q37.1.1, iV q37.1.2.1, uV q37.1.2.2, iV q37.2.at_, iV q37.2.st] h68 (fun r71 _ h73 => ⟨kd [], ?_⟩)
   have h74 := tk8 (sf7 (sf6 (sf6 (sf6 (sf6 (sf7 (sf7 (sf7 h73))))))))
   refine actG ?_
   refine an_append (d := 37) (sz := 6) (s := (Operand.tmp 27)) (x := (Operand.tmp 36)) (z := .agg #[.string (St []), iV 0, iV 0, uV 0, iV 0, iV 0]) (p := p2) (m := n2) (c := c2) (k := 1) (c2 := 1) (a := ⟨r71, 0, none⟩) (by_ := 56) (by kernel_rfl) (by kernel_rfl) rfl Tryz.underlying40 (by kernel_rfl) rfl (by decide) (by kernel_rfl) (by kernel_rfl) h74 (fl eLk [(⟨q37.2.tag, (q37.1.1, q37.1.2.1, q37.1.2.2), q37.2.at_, q37.2.st⟩ : Lk)]) rfl (fun j u hj => by rw [add_off]; exact sat_cell h74 1 rfl (by rw [Nat.zero_add]; exact hj)) (fl_one eLk_ok _) (by omega) (by omega) (n2 + 1) (by omega) ?_
   intro p75 cap76 w77 h78
   have h79 : sat g w77 [Sl 61 6 p75 (n2 + 1) cap76 (fl eLk (X_ ++ [(⟨q37.2.tag, (q37.1.1, q37.1.2.1, q37.1.2.2), q37.2.at_, q37.2.st⟩ : Lk)])), Cl r71 [.string (St q37.2.tag), iV q37.1.1, iV q37.1.2.1, uV q37.1.2.2, iV q37.2.at_, iV q37.2.st] 61, Cl r60 [.string (St q37.2.tag), iV q37.2.ord, iV q37.2.at_, iV q37.2.why, iV q37.2.st] 70, Cl r57 [iV q37.1.1, iV q37.1.2.1, uV q37.1.2.2] 31, It kv vKn m16 r23 E17 (S_.eraseIdx ix36) (some q37), Cl r10 [pV b] 25, Cl b [iV (((S.A.length : Nat) : Int)), .map (some m16)] 64, R] := sat_imp h78 (fun _ hh => by rw [fl_app]; exact hh)
   obtain ⟨hn80, hn81⟩ := sl_le h79
   refine nxA <| go [] ?_
   refine enL ?_
   have h83 := tk5 (tk8 (sf7 (sf6 (sf7 (sf7 (sf7 (sf3 (sf3 (sf3 h79)))))))))
   change ∃ n', n' < _ ∧ _
   refine ⟨(S_.eraseIdx ix36).length, by omega, (S_.eraseIdx ix36), (X_ ++ [(⟨q37.2.tag, (q37.1.1, q37.1.2.1, q37.1.2.2), q37.2.at_, q37.2.st⟩ : Lk)]), (some q37), p75, n2 + 1, cap76, _, rfl, (lk_go1 hP_ hq38 (toLk_t ⟨by omega, by omega⟩)), (by rw [List.length_append]; exact congrArg (· + 1) hn_), (lvF [.k 1 (pV r10), .k 3 (.slice p75 (n2 + 1) cap76), .k 13 (pV r23)]), h83⟩
  refine go [.v 7 6 (qeF q37.2.why 3)] ?_
  refine enL ?_
  have h85 := tk5 (tk7 (sf6 (sf6 (sf6 (sf6 (sf6 (sf1 (sf1 h68))))))))
  change ∃ n', n' < _ ∧ _
  refine ⟨(S_.eraseIdx ix36).length, by omega, (S_.eraseIdx ix36), X_, (some q37), p2, n2, c2, _, rfl, (lk_go0 hP_ hq38 (toLk_f (by omega))), hn_, (lvF [.k 1 (pV r10), .k 3 (.slice p2 n2 c2), .k 13 (pV r23)]), h85⟩
 refine go [.v 7 2 (oF (q37.2.ord ≥ 0))] ?_
 refine enL ?_
 have h87 := tk5 (tk7 (sf6 (sf6 (sf6 (sf6 (sf6 (sf1 (sf1 h68))))))))
 change ∃ n', n' < _ ∧ _
 refine ⟨(S_.eraseIdx ix36).length, by omega, (S_.eraseIdx ix36), X_, (some q37), p2, n2, c2, _, rfl, (lk_go0 hP_ hq38 (toLk_f (by omega))), hn_, (lvF [.k 1 (pV r10), .k 3 (.slice p2 n2 c2), .k 13 (pV r23)]), h87⟩

end Go.Proofs.YtfoliffeieeihaaGreatDoor

/-
  Bytes out of runes: shifts and masks. No program in sight.
-/
namespace Go.Proofs.YtfoliffeieeihaaGreatDoor
theorem shr_ov {k : IntKind} {x y : Int} (n : Nat) (h : y = x / (2 ^ n : Nat)) : Value.int k (x.fdiv (2 ^ n)) = Value.int k y := by
  subst h
  have : ((2 : Int) ^ n) = ((2 ^ n : Nat) : Int) := by simp
  rw [this, Int.fdiv_eq_ediv_of_nonneg _ (Int.natCast_nonneg _)]
theorem wrapU8 (x : Int) : IntKind.wrap .u8 x = x % 256 := by
  simp [IntKind.wrap, IntKind.signed, IntKind.bits]
theorem and63 : ∀ m : Fin 256, IntKind.wrap .u8 ((BitVec.ofInt 8 (m.val : Int) &&& BitVec.ofInt 8 63).toNat : Int) = ((m.val % 64 : Nat) : Int) := by decide +kernel
theorem or128 : ∀ m : Fin 64, IntKind.wrap .u8 ((BitVec.ofInt 8 128 ||| BitVec.ofInt 8 (m.val : Int)).toNat : Int) = (((UInt8.ofNat (128 + m.val)).toNat : Nat) : Int) := by decide +kernel
theorem or192 : ∀ m : Fin 32, IntKind.wrap .u8 ((BitVec.ofInt 8 192 ||| BitVec.ofInt 8 (m.val : Int)).toNat : Int) = (((UInt8.ofNat (192 + m.val)).toNat : Nat) : Int) := by decide +kernel
theorem or224 : ∀ m : Fin 16, IntKind.wrap .u8 ((BitVec.ofInt 8 224 ||| BitVec.ofInt 8 (m.val : Int)).toNat : Int) = (((UInt8.ofNat (224 + m.val)).toNat : Nat) : Int) := by decide +kernel
theorem or240 : ∀ m : Fin 8, IntKind.wrap .u8 ((BitVec.ofInt 8 240 ||| BitVec.ofInt 8 (m.val : Int)).toNat : Int) = (((UInt8.ofNat (240 + m.val)).toNat : Nat) : Int) := by decide +kernel
theorem mod_ov {x : Int} (h : 0 ≤ x) {m : Nat} (hm : x % 256 = (m : Int)) : Value.int .u8 (IntKind.wrap .u8 x) = Value.int .u8 (m : Int) := by rw [wrapU8, hm]
theorem and_ov {m q : Nat} (h : m < 256) (hq : m % 64 = q) : Value.int .u8 (IntKind.wrap .u8 ((BitVec.ofInt 8 (m : Int) &&& BitVec.ofInt 8 63).toNat : Int)) = Value.int .u8 (q : Int) := by subst hq; rw [and63 ⟨m, h⟩]
theorem o128 {m : Nat} (h : m < 64) : Value.int .u8 (IntKind.wrap .u8 ((BitVec.ofInt 8 128 ||| BitVec.ofInt 8 (m : Int)).toNat : Int)) = Value.int .u8 ((UInt8.ofNat (128 + m)).toNat : Int) := by rw [or128 ⟨m, h⟩]
theorem o192 {m : Nat} (h : m < 32) : Value.int .u8 (IntKind.wrap .u8 ((BitVec.ofInt 8 192 ||| BitVec.ofInt 8 (m : Int)).toNat : Int)) = Value.int .u8 ((UInt8.ofNat (192 + m)).toNat : Int) := by rw [or192 ⟨m, h⟩]
theorem o224 {m : Nat} (h : m < 16) : Value.int .u8 (IntKind.wrap .u8 ((BitVec.ofInt 8 224 ||| BitVec.ofInt 8 (m : Int)).toNat : Int)) = Value.int .u8 ((UInt8.ofNat (224 + m)).toNat : Int) := by rw [or224 ⟨m, h⟩]
theorem o240 {m : Nat} (h : m < 8) : Value.int .u8 (IntKind.wrap .u8 ((BitVec.ofInt 8 240 ||| BitVec.ofInt 8 (m : Int)).toNat : Int)) = Value.int .u8 ((UInt8.ofNat (240 + m)).toNat : Int) := by rw [or240 ⟨m, h⟩]
theorem cv_b {r : Nat} (h : r < 256) : Value.int .u8 (IntKind.wrap .u8 (r : Int)) = Value.int .u8 ((UInt8.ofNat r).toNat : Int) := by
  rw [wrapU8, UInt8.toNat_ofNat', Nat.mod_eq_of_lt h]
  congr 1
  omega
theorem encU_le (r : Nat) : 1 ≤ (encU r).length ∧ (encU r).length ≤ 4 := by
  unfold encU
  split
  · exact ⟨by simp, by simp⟩
  · split
    · exact ⟨by simp, by simp⟩
    · split <;> exact ⟨by simp, by simp⟩
theorem escL_len (L : List UInt8) : L.length ≤ (escL L).length ∧ (escL L).length ≤ 2 * L.length := by
  induction L with
  | nil => exact ⟨Nat.le_refl _, Nat.le_refl _⟩
  | cons b L ih =>
    unfold escL at ih ⊢
    rw [List.flatMap_cons, List.length_append, List.length_cons]
    have : 1 ≤ (escB b).length ∧ (escB b).length ≤ 2 := by
      unfold escB
      split <;> exact ⟨by simp, by simp⟩
    omega
/-- How many of some leaks have a tag. -/
def cntL (L : List Lk) (t : List UInt8) : Nat := (L.filter fun x => decide (x.tag = t)).length
theorem ctl_le (L : List Lk) (i : Nat) (t : List UInt8) : cntL (L.take i) t ≤ i := by
  unfold cntL
  have h1 := List.length_filter_le (fun x : Lk => decide (x.tag = t)) (L.take i)
  have h2 := List.length_take_le i L
  omega
theorem cnt_step {L : List Lk} {i : Nat} {x : Lk} (h : L[i]? = some x) (t : List UInt8) : cntL (L.take (i + 1)) t = cntL (L.take i) t + if x.tag = t then 1 else 0 := by
  unfold cntL
  rw [List.take_add_one, h, List.filter_append, List.length_append]
  congr 1
  by_cases hx : x.tag = t
  · rw [if_pos hx]
    simp [hx]
  · rw [if_neg hx]
    simp [hx]
theorem cnt_y {L : List Lk} {i : Nat} {x : Lk} {t : List UInt8} (h : L[i]? = some x) (hx : x.tag = t) : cntL (L.take (i + 1)) t = cntL (L.take i) t + 1 := by rw [cnt_step h, if_pos hx]
theorem cnt_n {L : List Lk} {i : Nat} {x : Lk} {t : List UInt8} (h : L[i]? = some x) (hx : ¬ x.tag = t) : cntL (L.take (i + 1)) t = cntL (L.take i) t := by rw [cnt_step h, if_neg hx]; rfl
/-- From here on a tag is good. -/
def gdT (L : List UInt8) (p : Nat) : Prop := ∃ f n, L.length ≤ p + f ∧ (tagScan L f p n).isSome = true
theorem gd_0 {L : List UInt8} (h : tagE L = 0) : L.length ≤ 96 ∧ gdT L 0 := by
  unfold tagE at h
  split at h
  · exact absurd h (by decide)
  · rename_i h9
    split at h
    · rename_i h1
      exact ⟨by omega, L.length, 0, by omega, h1.1⟩
    · exact absurd h (by decide)
theorem gd_go {L : List UInt8} {p : Nat} (hp : p < L.length) (h : gdT L p) : ¬ badR L p ∧ gdT L (p + (dec L p).2) := by
  obtain ⟨f, n, h1, h2⟩ := h
  by_cases hb : badR L p
  · rw [scan_bad hp h1 hb] at h2
    cases h2
  · rw [scan_go hp h1 hb] at h2
    have := dec_pos hp
    exact ⟨hb, f - 1, n + 1, by omega, h2⟩
theorem rune_ok (L : List UInt8) (p : Nat) : (runeD L p).1 < 55296 ∨ 57343 < (runeD L p).1 := by
  have hb8 : (L.getD p 0).toNat < 256 := (L.getD p 0).toNat_lt
  have q1 : ∀ j d, contB L j = some d → d < 64 := fun j d h => (contB_some h).2
  unfold runeD decF
  split
  · show (L.getD p 0).toNat < 55296 ∨ _
    omega
  · split
    · split
      · rename_i d1 hc1
        have := q1 _ _ hc1
        split
        · show _ % 32 * 64 + _ < 55296 ∨ _
          omega
        · exact .inl (by show 0 < 55296; decide)
      · exact .inl (by show 0 < 55296; decide)
    · split
      · split
        · split
          · rename_i hq
            have := hq.2
            show _ % 16 * 4096 + _ * 64 + _ < 55296 ∨ 57343 < _ % 16 * 4096 + _ * 64 + _
            omega
          · exact .inl (by show 0 < 55296; decide)
        · exact .inl (by show 0 < 55296; decide)
      · split
        · split
          · split
            · rename_i hq
              exact .inr (by show 57343 < _ % 8 * 262144 + _ * 4096 + _ * 64 + _; omega)
            · exact .inl (by show 0 < 55296; decide)
          · exact .inl (by show 0 < 55296; decide)
        · exact .inl (by show 0 < 55296; decide)
/-- One rune more of a good tag. -/
theorem gd_step {L : List UInt8} {p : Nat} (hp : p < L.length) (h : gdT L p) : gdT L (p + (dec L p).2) ∧ p + (dec L p).2 ≤ L.length ∧ ((dec L p).1 < 55296 ∨ 57343 < (dec L p).1) ∧
    escL (L.take (p + (dec L p).2)) = escL (L.take p) ++ ((if (dec L p).1 = 34 ∨ (dec L p).1 = 92 then [92] else []) ++ encU (dec L p).1) := by
  obtain ⟨hb, hg⟩ := gd_go hp h
  have h0 : (runeD L p).2 ≠ 0 := fun q => hb ((bad_iff hp).2 (.inl q))
  have hd : dec L p = runeD L p := by
    have := runeD_dec L p
    split at this
    · rw [this] at h0
      exact absurd rfl h0
    · exact this.symm
  rw [hd] at hg ⊢
  exact ⟨hg, (enc_rune hp h0).1, rune_ok L p, esc_step hp h0⟩
def qtA (L : List UInt8) (p : Nat) : List UInt8 := [34] ++ escL (L.take p)
def qtV (L : List UInt8) : List UInt8 := if tagE L = 0 then qtL L else []
theorem qtA_le (L : List UInt8) (p : Nat) : (qtA L p).length ≤ 2 * L.length + 1 := by
  unfold qtA
  rw [List.length_append]
  have := (escL_len (L.take p)).2
  rw [List.length_take] at this
  simp only [List.length_cons, List.length_nil]
  omega
theorem qtA_0 (L : List UInt8) : [34] = qtA L 0 := rfl
theorem qtA_end {L : List UInt8} {p : Nat} (h : L.length ≤ p) : qtA L p ++ [34] = qtL L := by
  unfold qtA qtL
  rw [List.take_of_length_le h]
theorem qtA_y {L : List UInt8} {p q : Nat} {r : Nat} (h : escL (L.take q) = escL (L.take p) ++ ((if r = 34 ∨ r = 92 then [92] else []) ++ encU r)) (hr : r = 34 ∨ r = 92) : qtA L p ++ [92] ++ encU r = qtA L q := by
  unfold qtA
  rw [h, if_pos hr]
  simp only [List.append_assoc]
theorem qtA_n {L : List UInt8} {p q : Nat} {r : Nat} (h : escL (L.take q) = escL (L.take p) ++ ((if r = 34 ∨ r = 92 then [92] else []) ++ encU r)) (hr : ¬ (r = 34 ∨ r = 92)) : qtA L p ++ encU r = qtA L q := by
  unfold qtA
  rw [h, if_neg hr]
  simp only [List.append_assoc, List.nil_append]
theorem qtL_len (L : List UInt8) : (qtL L).length ≤ 2 * L.length + 2 := by
  rw [← qtA_end (Nat.le_refl L.length), List.length_append]
  have := qtA_le L L.length
  simp only [List.length_cons, List.length_nil]
  omega
end Go.Proofs.YtfoliffeieeihaaGreatDoor

/- Walks, printed by my generator l8.py. -/
namespace Go.Proofs.YtfoliffeieeihaaGreatDoor
set_option maxHeartbeats 4000000 in
theorem rlen_ht (b : Nat) (S : Rp) : HT Tryz.prog 18 [pV b] [Rpt b S] (fun v K => v = iV ((((lks S).length : Nat) : Int)) ∧ K = [Rpt b S]) := by
 refine hiS Tryz.func18 Tryz.ntmps18 fun g w0 R h0 => go [] <| cP Tryz.call16 (all_ht b S) h0 ?_
 rintro v K _ (⟨p10, cap11, hl12, rfl, rfl⟩) h14
 have h15 := ap2 h14
 obtain ⟨hn16, hn17⟩ := sl_le h15
 refine go [] ?_
 exact en (iV ((((lks S).length : Nat) : Int))) [] ⟨_, _, rfl, ⟨rfl, rfl⟩, (tk2 (sf1 (sf2 (tk3 (sf2 (sf1 (sf2 h15)))))))⟩

set_option maxHeartbeats 4000000 in
theorem rcnt_ht (b : Nat) (S : Rp) (t : List UInt8) : HT Tryz.prog 20 [pV b, .string (St t)] [Rpt b S] (fun v K => v = iV ((((cntL (lks S) t) : Nat) : Int)) ∧ K = [Rpt b S]) := by
 refine hiS Tryz.func20 Tryz.ntmps20 fun g w0 R h0 => go [] <| cP Tryz.call16 (all_ht b S) h0 ?_
 rintro v K _ (⟨p10, cap11, hl12, rfl, rfl⟩) h14
 have h15 := ap2 h14
 obtain ⟨hn16, hn17⟩ := sl_le h15
 refine go [] ?_
 refine lpS (fun mz_ a w => ∃ i : Nat, ∃ z_ : Nat, ∃ lr : Fr, mz_ = (lks S).length - i ∧ (i ≤ (lks S).length) ∧ (z_ = cntL ((lks S).take i) t) ∧ a = mk 23 (([(1, .string (St t)), (5, iV (z_ : Int)), (9, .slice p10 (((lks S).length)) cap11), (10, iV ((((lks S).length : Nat) : Int))), (11, iV (i : Int))] : Fr) ++ lr) ∧ sat g w [Sl 61 6 p10 (((lks S).length)) cap11 (fl eLk (lks S)), Rpt b S, R]) ((lks S).length - 0) ⟨0, 0, _, rfl, (Nat.zero_le _), rfl, (lvF [.k 1 (.string (St t)), .o 5 (oJ .i64 0 (0 : Int)), .k 9 (.slice p10 (((lks S).length)) cap11), .k 10 (iV ((((lks S).length : Nat) : Int))), .o 11 (oJ .i64 0 (0 : Int))]), h15⟩ ?_
 rintro m19 a20 w21 ⟨i, z_, lr18, rfl, hi_, hz_, rfl, h22⟩
 refine ga ?_
 have hzc_ := ctl_le (lks S) i t
 have hz2_ : z_ ≤ 2000 := by omega
 refine go [.s 3 0] ?_
 by_cases c23 : (i : Int) < (((lks S).length : Nat) : Int)
 ·
  obtain ⟨b24, hp25⟩ := sl_ptr0 (j := 0) h22 rfl (by omega)
  refine go [.v 3 0 (oT ((i : Int) < (((lks S).length : Nat) : Int))), .s 4 0] <| lwP (.pointer (some ⟨b24, i * 6, none⟩)) (law_indexSlP (x := (Operand.tmp 9)) (i := (Operand.tmp 11)) (p := p10) (b := b24) (off := 0) (z := (i : Int)) (len := (((lks S).length))) (cap := cap11) (by kernel_rfl) Tryz.underlying40 6 (by kernel_rfl) i (by kernel_rfl) hp25 (by kernel_rfl) (by omega) (by omega) (i * 6) (by omega) _) ?_
  obtain ⟨x26, hx27⟩ : ∃ x, (lks S)[i]? = some x := ⟨_, List.getElem?_eq_getElem (by omega)⟩
  refine go [.r 4 1 b24 (i * 6) [.string (St x26.tag), iV x26.out.1, iV x26.out.2.1, uV x26.out.2.2, iV x26.at_, iV x26.st] ⟨gv_cell (j := 0) h22 rfl (gv_sl _ _ _) hp25 (fl_get eLk_ok (j := 0) (v := .string (St x26.tag)) hx27 rfl) (i * 6) (by omega), gv_cell (j := 0) h22 rfl (gv_sl _ _ _) hp25 (fl_get eLk_ok (j := 1) (v := iV x26.out.1) hx27 rfl) (i * 6 + 1) (by omega), gv_cell (j := 0) h22 rfl (gv_sl _ _ _) hp25 (fl_get eLk_ok (j := 2) (v := iV x26.out.2.1) hx27 rfl) (i * 6 + 2) (by omega), gv_cell (j := 0) h22 rfl (gv_sl _ _ _) hp25 (fl_get eLk_ok (j := 3) (v := uV x26.out.2.2) hx27 rfl) (i * 6 + 3) (by omega), gv_cell (j := 0) h22 rfl (gv_sl _ _ _) hp25 (fl_get eLk_ok (j := 4) (v := iV x26.at_) hx27 rfl) (i * 6 + 4) (by omega), gv_cell (j := 0) h22 rfl (gv_sl _ _ _) hp25 (fl_get eLk_ok (j := 5) (v := iV x26.st) hx27 rfl) (i * 6 + 5) (by omega), trivial⟩] <| nP 61 [.string (St []), iV 0, iV 0, uV 0, iV 0, iV 0] h22 (fun _ _ h30 => ?_)
  refine sP [(0, .string (St x26.tag)), (1, iV x26.out.1), (2, iV x26.out.2.1), (3, uV x26.out.2.2), (4, iV x26.at_), (5, iV x26.st)] [.string (St x26.tag), iV x26.out.1, iV x26.out.2.1, uV x26.out.2.2, iV x26.at_, iV x26.st] h30 fun _ h32 => go [rd 5 1 0 0 1 h32, .s 5 3] ?_
  by_cases cs33 : x26.tag = (t : List UInt8)
  ·
   refine lwP (.bool true) (law_eqStr (t := 9) (x := (Operand.tmp 16)) (y := (Operand.tmp 17)) (a := x26.tag) (b := t) (by kernel_rfl) (by kernel_rfl) (by kernel_rfl) true (decide_eq_true cs33) _) <| go [.v 6 1 (oIr ((z_ : Int) + 1)), .v 7 0 (oIr ((i : Int) + 1))] ?_
   refine enL ?_
   have hc34 := cnt_y hx27 cs33
   have h36 := tk3 (tk4 (sf3 (sf3 (sf3 h32))))
   change ∃ n', n' < _ ∧ _
   refine ⟨((lks S).length - (i + 1)), by omega, (i + 1), (z_ + 1), _, rfl, (by omega), (by omega), (lvF [.k 1 (.string (St t)), .o 5 (oJ .i64 ((z_ : Int) + 1) ((((z_ + 1) : Nat) : Int))), .k 9 (.slice p10 (((lks S).length)) cap11), .k 10 (iV ((((lks S).length : Nat) : Int))), .o 11 (oJ .i64 ((i : Int) + 1) ((((i + 1) : Nat) : Int)))]), h36⟩
  refine lwP (.bool false) (law_eqStr (t := 9) (x := (Operand.tmp 16)) (y := (Operand.tmp 17)) (a := x26.tag) (b := t) (by kernel_rfl) (by kernel_rfl) (by kernel_rfl) false (decide_eq_false cs33) _) <| go [.v 7 0 (oIr ((i : Int) + 1))] ?_
  refine enL ?_
  have hc37 := cnt_n hx27 cs33
  have h39 := tk3 (tk4 (sf3 (sf3 (sf3 h32))))
  change ∃ n', n' < _ ∧ _
  refine ⟨((lks S).length - (i + 1)), by omega, (i + 1), z_, _, rfl, (by omega), (by omega), (lvF [.k 1 (.string (St t)), .k 5 (iV (z_ : Int)), .k 9 (.slice p10 (((lks S).length)) cap11), .k 10 (iV ((((lks S).length : Nat) : Int))), .o 11 (oJ .i64 ((i : Int) + 1) ((((i + 1) : Nat) : Int)))]), h39⟩
 refine go [.v 3 0 (oF ((i : Int) < (((lks S).length : Nat) : Int)))] <| up <| go [] ?_
 exact en (iV (z_ : Int)) [] ⟨_, _, rfl, ⟨by rw [hz_, List.take_of_length_le (by omega)], rfl⟩, (tk2 (sf1 (sf2 (tk3 (sf2 (sf1 (sf2 h22)))))))⟩

set_option maxHeartbeats 4000000 in
theorem rcopy_ht (b : Nat) (S : Rp) : HT Tryz.prog 13 [pV b] [Rpt b S] (fun v K => ∃ b2 : Nat, v = pV b2 ∧ K = [Rpt b S, Rpt b2 S]) := by
 refine hiS Tryz.func13 Tryz.ntmps13 fun g w0 R h0 => go [] <| cl1 Tryz.call30 (rvalid_ht b S) h0 fun _ h11 => ?_
 obtain ⟨m12, E13, ⟨hM14, hW15⟩, h16⟩ := rp_open h11
 have hk17 := hW15.al; have hk17b := hW15.le; have hk17c := hM14.len
 refine go [rd 3 3 0 0 1 h16] ?_
 refine actG ?_
 refine ag_makeMap (t := 62) (d := 13) kv vKn (by kernel_rfl) (by kernel_rfl) rfl h16 ?_
 intro r18 _ h20
 refine nxA <| go [] <| nP 64 [iV (((S.A.length : Nat) : Int)), .map (some r18)] h20 (fun r21 _ h23 => ?_)
 have h24 := tk5 (sf4 (sf3 (sf3 (sf3 (sf4 h23)))))
 refine go [rd 4 3 2 1 1 h23] ?_
 refine actG ?_
 refine ag_range (t := 62) (d := 20) (x := (Operand.tmp 19)) (by kernel_rfl) (by kernel_rfl) rfl Tryz.underlying62 (by kernel_rfl) h24 ?_
 intro r25 _ h27
 refine nxA <| go [] ?_
 refine lpS (fun mz_ a w => ∃ S_ : Km, ∃ Ec : Km, ∃ cu_ : Option (Ky × Kn), ∃ lr : Fr, mz_ = S_.length ∧ (Pk E13 S_ Ec) ∧ a = mk 33 (([(3, pV r21), (20, pV r25)] : Fr) ++ lr) ∧ sat g w [It kv vKn m12 r25 E13 S_ cu_, Gp kv vKn r18 Ec, Cl r21 [iV (((S.A.length : Nat) : Int)), .map (some r18)] 64, Cl b [iV (((S.A.length : Nat) : Int)), .map (some m12)] 64, R]) (E13.length) ⟨E13, [], none, _, rfl, (pk_start hM14.nd), (lvF [.k 3 (pV r21), .k 20 (pV r25)]), (tk5 (sf4 (sf4 (sf3 (sf4 (sf4 h27))))))⟩ ?_
 rintro m30 a31 w32 ⟨S_, Ec, cu_, lr29, rfl, hP_, rfl, h33⟩
 refine ga <| go [] ?_
 refine actG ?_
 refine ag_next (d := 21) (x := (Operand.tmp 20)) (by kernel_rfl) (by kernel_rfl) rfl (by kernel_rfl) h33 ?_ ?_
 ·
  intro hS34 w35 h36
  refine nxA <| go [] <| up <| go [] ?_
  have h42 : sat g w35 [Gp kv vKn m12 E13, Gp kv vKn r18 Ec, Cl r21 [iV (((S.A.length : Nat) : Int)), .map (some r18)] 64, Cl b [iV (((S.A.length : Nat) : Int)), .map (some m12)] 64, R] := it_end h36
  have h44 : sat g w35 [Rpt b S, Gp kv vKn r18 Ec, Cl r21 [iV (((S.A.length : Nat) : Int)), .map (some r18)] 64, R] := rp_close hM14 hW15 rfl (tk5 (sf4 (sf3 (sf3 (sf3 (sf4 h42))))))
  have h45 := tk4 (sf3 (sf2 (sf1 (sf3 h44))))
  have h46 : sat g w35 [Rpt r21 S, Rpt b S, R] := rp_close (pk_end hM14 (hS34 ▸ hP_)) hW15 rfl h45
  exact en (pV r21) [] ⟨_, _, rfl, ⟨r21, rfl, rfl⟩, (tk3 (sf2 (sf1 (sf2 h46))))⟩
 intro ix37 q38 hq39 _ h41
 have hel48 := erase_len hq39
 refine nxA <| go [] ?_
 refine actG ?_
 refine act_law (d := 23) (.tuple #[.agg #[iV q38.1.1, iV q38.1.2.1, uV q38.1.2.2], .agg #[.string (St q38.2.tag), iV q38.2.ord, iV q38.2.at_, iV q38.2.why, iV q38.2.st]]) (by kernel_rfl) rfl (law_entry (x := (Operand.tmp 20)) (by kernel_rfl) (by kernel_rfl) h41 (.tuple #[.agg #[iV q38.1.1, iV q38.1.2.1, uV q38.1.2.2], .agg #[.string (St q38.2.tag), iV q38.2.ord, iV q38.2.at_, iV q38.2.why, iV q38.2.st]]) rfl) ?_
 refine nxA <| go [] <| nP 31 [iV 0, iV 0, uV 0] h41 (fun _ _ h51 => ?_)
 refine nP 70 [.string (St []), iV 0, iV 0, iV 0, iV 0] h51 (fun _ _ h54 => ?_)
 refine sP [(0, iV q38.1.1), (1, iV q38.1.2.1), (2, uV q38.1.2.2)] [iV q38.1.1, iV q38.1.2.1, uV q38.1.2.2] (tk7 (sf6 (sf5 (sf6 (sf6 (sf6 (sf6 (sf6 h54)))))))) fun _ h57 => sP [(0, .string (St q38.2.tag)), (1, iV q38.2.ord), (2, iV q38.2.at_), (3, iV q38.2.why), (4, iV q38.2.st)] [.string (St q38.2.tag), iV q38.2.ord, iV q38.2.at_, iV q38.2.why, iV q38.2.st] (tk7 (sf6 (sf5 (sf6 (sf6 (sf6 (sf6 (sf6 h57)))))))) fun _ h60 => go [] <| dw (fls [0, 1, 2, 3, 4, 5] (Tr.an 6 Tr.nil)) h60 fun _ h62 => ?_
 have h63 := tk7 (sf6 (sf5 (sf5 (sf5 (sf6 (sf6 (sf6 h62)))))))
 refine go [rd 7 3 4 1 1 h62, rd 7 4 1 0 3 h62, rd 7 5 0 0 5 h62] ?_
 refine actG ?_
 refine ag_mapUpdate (t := 62) (m := (Operand.tmp 29)) (x := (Operand.tmp 30)) (y := (Operand.tmp 31)) (kv := kv) (ve := vKn) (by kernel_rfl) (by kernel_rfl) Tryz.underlying62 kyO (q38.1.1, q38.1.2.1, q38.1.2.2) (⟨q38.2.tag, q38.2.ord, q38.2.at_, q38.2.why, q38.2.st⟩ : Kn) (by kernel_rfl) (by kernel_rfl) (by kernel_rfl) h63 (gset Ec (q38.1.1, q38.1.2.1, q38.1.2.2) ⟨q38.2.tag, q38.2.ord, q38.2.at_, q38.2.why, q38.2.st⟩) rfl ?_
 intro _ h65
 refine ⟨kd [], nxN ?_⟩
 refine go [] ?_
 refine enL ?_
 have h67 := tk5 (tk7 (sf6 (sf5 (sf6 (sf6 (sf6 (sf2 (sf2 h65))))))))
 change ∃ n', n' < _ ∧ _
 refine ⟨(S_.eraseIdx ix37).length, by omega, (S_.eraseIdx ix37), (gset Ec (q38.1.1, q38.1.2.1, q38.1.2.2) ⟨q38.2.tag, q38.2.ord, q38.2.at_, q38.2.why, q38.2.st⟩), (some q38), _, rfl, (pk_go hP_ hq39), (lvF [.k 3 (pV r21), .k 20 (pV r25)]), h67⟩

end Go.Proofs.YtfoliffeieeihaaGreatDoor
