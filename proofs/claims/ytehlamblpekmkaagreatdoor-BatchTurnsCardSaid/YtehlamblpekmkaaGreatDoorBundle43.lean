/- Walks, printed by my generator q2.py. -/
import Derived.Test.YtehlamblpekmkaaGreatDoorQ1
import Derived.Test.YtehlamblpekmkaaGreatDoorSri
import Derived.Test.YtehlamblpekmkaaGreatDoorBatP
import Derived.Test.YtehlamblpekmkaaGreatDoorBundle37
namespace Go.Proofs.YtehlamblpekmkaaGreatDoor
set_option maxHeartbeats 4000000
def sortRenI : Go.Shelf.Ren := ⟨fun | 6 => 105 | 14 => 184 | 15 => 185 | 20 => 229 | 21 => 230 | 22 => 231 | 23 => 232 | 24 => 233 | 25 => 234 | 26 => 235 | 27 => 236 | 28 => 237 | 29 => 238 | 46 => 271 | 47 => 272 | 48 => 273 | 49 => 274 | 50 => 275 | 57 => 289 | n => n, fun | 22 => 37 | 24 => 3 | 25 => 192 | 3 => 3 | 39 => 272 | 0 => 0 | 53 => 22 | 55 => 328 | 4 => 4 | 46 => 320 | 45 => 319 | 50 => 324 | 5 => 5 | 9 => 9 | 66 => 354 | 70 => 358 | 76 => 377 | 77 => 139 | n => n, fun n => n⟩
theorem sortLayI : SlLaysF.n6 Tryz.prog sortRenI where
  mixed := by kernel_rfl
  f6 := ⟨ "slices.SortFunc[[]int,int]", by decide, Tryz.func105.trans (congrArg some (by kernel_rfl))⟩
  f14 := ⟨ "slices.pdqsortCmpFunc[int]", by decide, Tryz.func184.trans (congrArg some (by kernel_rfl))⟩
  f15 := Tryz.func185.trans (congrArg some (by kernel_rfl))
  f20 := ⟨ "slices.insertionSortCmpFunc[int]", by decide, Tryz.func229.trans (congrArg some (by kernel_rfl))⟩
  f21 := ⟨ "slices.heapSortCmpFunc[int]", by decide, Tryz.func230.trans (congrArg some (by kernel_rfl))⟩
  f22 := ⟨ "slices.breakPatternsCmpFunc[int]", by decide, Tryz.func231.trans (congrArg some (by kernel_rfl))⟩
  f23 := ⟨ "slices.choosePivotCmpFunc[int]", by decide, Tryz.func232.trans (congrArg some (by kernel_rfl))⟩
  f24 := ⟨ "slices.reverseRangeCmpFunc[int]", by decide, Tryz.func233.trans (congrArg some (by kernel_rfl))⟩
  f25 := ⟨ "slices.partialInsertionSortCmpFunc[int]", by decide, Tryz.func234.trans (congrArg some (by kernel_rfl))⟩
  f26 := ⟨ "slices.partitionEqualCmpFunc[int]", by decide, Tryz.func235.trans (congrArg some (by kernel_rfl))⟩
  f27 := ⟨ "slices.partitionCmpFunc[int]", by decide, Tryz.func236.trans (congrArg some (by kernel_rfl))⟩
  f28 := Tryz.func237.trans (congrArg some (by kernel_rfl))
  f29 := Tryz.func238.trans (congrArg some (by kernel_rfl))
  f46 := ⟨ "slices.siftDownCmpFunc[int]", by decide, Tryz.func271.trans (congrArg some (by kernel_rfl))⟩
  f47 := Tryz.func272.trans (congrArg some (by kernel_rfl))
  f48 := Tryz.func273.trans (congrArg some (by kernel_rfl))
  f49 := ⟨ "slices.medianAdjacentCmpFunc[int]", by decide, Tryz.func274.trans (congrArg some (by kernel_rfl))⟩
  f50 := ⟨ "slices.medianCmpFunc[int]", by decide, Tryz.func275.trans (congrArg some (by kernel_rfl))⟩
  f57 := ⟨ "slices.order2CmpFunc[int]", by decide, Tryz.func289.trans (congrArg some (by kernel_rfl))⟩
  t0 := Tryz.underlying0
  a0 := Tryz.isAgg0
  z0 := Tryz.sizeOf0
  v0 := Tryz.zeroValue0
  t3 := Tryz.underlying3
  a3 := Tryz.isAgg3
  z3 := Tryz.sizeOf3
  v3 := Tryz.zeroValue3
  t4 := Tryz.underlying4
  a4 := Tryz.isAgg4
  z4 := Tryz.sizeOf4
  v4 := Tryz.zeroValue4
  t5 := Tryz.underlying5
  a5 := Tryz.isAgg5
  z5 := Tryz.sizeOf5
  v5 := Tryz.zeroValue5
  t9 := Tryz.underlying9
  a9 := Tryz.isAgg9
  z9 := Tryz.sizeOf9
  v9 := Tryz.zeroValue9
  t22 := Tryz.underlying37
  a22 := Tryz.isAgg37
  z22 := Tryz.sizeOf37
  v22 := Tryz.zeroValue37
  t25 := Tryz.underlying192
  a25 := Tryz.isAgg192
  z25 := Tryz.sizeOf192
  v25 := Tryz.zeroValue192
  t39 := Tryz.underlying272
  a39 := Tryz.isAgg272
  z39 := Tryz.sizeOf272
  v39 := Tryz.zeroValue272
  t45 := Tryz.underlying319
  a45 := Tryz.isAgg319
  z45 := Tryz.sizeOf319
  v45 := Tryz.zeroValue319
  t46 := Tryz.underlying320
  a46 := Tryz.isAgg320
  z46 := Tryz.sizeOf320
  v46 := Tryz.zeroValue320
  t50 := Tryz.underlying324
  a50 := Tryz.isAgg324
  z50 := Tryz.sizeOf324
  v50 := Tryz.zeroValue324
  t53 := Tryz.underlying22
  a53 := Tryz.isAgg22
  z53 := Tryz.sizeOf22
  v53 := Tryz.zeroValue22
  t55 := Tryz.underlying328
  a55 := Tryz.isAgg328
  z55 := Tryz.sizeOf328
  v55 := Tryz.zeroValue328
  t66 := Tryz.underlying354
  a66 := Tryz.isAgg354
  z66 := Tryz.sizeOf354
  v66 := Tryz.zeroValue354
  t70 := Tryz.underlying358
  a70 := Tryz.isAgg358
  z70 := Tryz.sizeOf358
  v70 := Tryz.zeroValue358
  t76 := Tryz.underlying377
  a76 := Tryz.isAgg377
  z76 := Tryz.sizeOf377
  v76 := Tryz.zeroValue377
  t77 := Tryz.underlying139
  a77 := Tryz.isAgg139
  z77 := Tryz.sizeOf139
  v77 := Tryz.zeroValue139
  a24 := Tryz.isAgg3
  z24 := Tryz.sizeOf3
theorem len64_z  : HT Tryz.prog 238 [.int .u64 0] [] (fun v K => v = iV 0 ∧ K = []) := by
 refine hiS Tryz.func238 Tryz.ntmps238 fun g w0 R h0 => go [.v 10 2 (oYr 0), .s 10 3] <| lwP (yV 0) (law_idxStr (x := (Operand.const (.string (St [0, 1, 2, 2, 3, 3, 3, 3, 4, 4, 4, 4, 4, 4, 4, 4, 5, 5, 5, 5, 5, 5, 5, 5, 5, 5, 5, 5, 5, 5, 5, 5, 6, 6, 6, 6, 6, 6, 6, 6, 6, 6, 6, 6, 6, 6, 6, 6, 6, 6, 6, 6, 6, 6, 6, 6, 6, 6, 6, 6, 6, 6, 6, 6, 7, 7, 7, 7, 7, 7, 7, 7, 7, 7, 7, 7, 7, 7, 7, 7, 7, 7, 7, 7, 7, 7, 7, 7, 7, 7, 7, 7, 7, 7, 7, 7, 7, 7, 7, 7, 7, 7, 7, 7, 7, 7, 7, 7, 7, 7, 7, 7, 7, 7, 7, 7, 7, 7, 7, 7, 7, 7, 7, 7, 7, 7, 7, 7, 8, 8, 8, 8, 8, 8, 8, 8, 8, 8, 8, 8, 8, 8, 8, 8, 8, 8, 8, 8, 8, 8, 8, 8, 8, 8, 8, 8, 8, 8, 8, 8, 8, 8, 8, 8, 8, 8, 8, 8, 8, 8, 8, 8, 8, 8, 8, 8, 8, 8, 8, 8, 8, 8, 8, 8, 8, 8, 8, 8, 8, 8, 8, 8, 8, 8, 8, 8, 8, 8, 8, 8, 8, 8, 8, 8, 8, 8, 8, 8, 8, 8, 8, 8, 8, 8, 8, 8, 8, 8, 8, 8, 8, 8, 8, 8, 8, 8, 8, 8, 8, 8, 8, 8, 8, 8, 8, 8, 8, 8, 8, 8, 8, 8, 8, 8, 8, 8, 8, 8, 8, 8, 8, 8, 8, 8, 8, 8])))) (i := (Operand.tmp 21)) (k := .u8) (s := [0, 1, 2, 2, 3, 3, 3, 3, 4, 4, 4, 4, 4, 4, 4, 4, 5, 5, 5, 5, 5, 5, 5, 5, 5, 5, 5, 5, 5, 5, 5, 5, 6, 6, 6, 6, 6, 6, 6, 6, 6, 6, 6, 6, 6, 6, 6, 6, 6, 6, 6, 6, 6, 6, 6, 6, 6, 6, 6, 6, 6, 6, 6, 6, 7, 7, 7, 7, 7, 7, 7, 7, 7, 7, 7, 7, 7, 7, 7, 7, 7, 7, 7, 7, 7, 7, 7, 7, 7, 7, 7, 7, 7, 7, 7, 7, 7, 7, 7, 7, 7, 7, 7, 7, 7, 7, 7, 7, 7, 7, 7, 7, 7, 7, 7, 7, 7, 7, 7, 7, 7, 7, 7, 7, 7, 7, 7, 7, 8, 8, 8, 8, 8, 8, 8, 8, 8, 8, 8, 8, 8, 8, 8, 8, 8, 8, 8, 8, 8, 8, 8, 8, 8, 8, 8, 8, 8, 8, 8, 8, 8, 8, 8, 8, 8, 8, 8, 8, 8, 8, 8, 8, 8, 8, 8, 8, 8, 8, 8, 8, 8, 8, 8, 8, 8, 8, 8, 8, 8, 8, 8, 8, 8, 8, 8, 8, 8, 8, 8, 8, 8, 8, 8, 8, 8, 8, 8, 8, 8, 8, 8, 8, 8, 8, 8, 8, 8, 8, 8, 8, 8, 8, 8, 8, 8, 8, 8, 8, 8, 8, 8, 8, 8, 8, 8, 8, 8, 8, 8, 8, 8, 8, 8, 8, 8, 8, 8, 8, 8, 8, 8, 8, 8, 8, 8, 8]) (z := 0) (b := 0) (by kernel_rfl) Tryz.underlying9 (by kernel_rfl) (by kernel_rfl) 0 (by omega) rfl _) <| go [.v 10 4 (oIr 0)] ?_
 exact en (iV 0) [] ⟨_, _, rfl, ⟨rfl, rfl⟩, h0⟩

theorem len_z  : HT Tryz.prog 185 [.int .u64 0] [] (fun v K => v = iV 0 ∧ K = []) := by
 refine hiS Tryz.func185 Tryz.ntmps185 fun g w0 R h0 => go [] <| cl0 Tryz.call238 (len64_z) h0 fun _ h11 => go [] ?_
 exact en (iV 0) [] ⟨_, _, rfl, ⟨rfl, rfl⟩, h11⟩

theorem ins_z (p : Option Addr) (c r : Nat) : HT Tryz.prog 229 [.slice p 0 c, iV 0, iV 0, .func (Fn.func 106) #[] #[pV r]] [] (fun v K => v = .tuple #[] ∧ K = []) := by
 refine hiS Tryz.func229 Tryz.ntmps229 fun g w0 R h0 => go [] <| unS 1 <| go [] <| up <| go [] ?_
 exact en (.tuple #[]) [] ⟨_, _, rfl, ⟨rfl, rfl⟩, h0⟩

theorem pdq_z (p : Option Addr) (c r : Nat) : HT Tryz.prog 184 [.slice p 0 c, iV 0, iV 0, iV 0, .func (Fn.func 106) #[] #[pV r]] [] (fun v K => v = .tuple #[] ∧ K = []) := by
 refine hiS Tryz.func184 Tryz.ntmps184 fun g w0 R h0 => go [] <| unS 1 <| go [] <| cl0 Tryz.call229 (ins_z p c r) h0 fun _ h11 => go [] <| up <| go [] ?_
 exact en (.tuple #[]) [] ⟨_, _, rfl, ⟨rfl, rfl⟩, h11⟩

theorem sort_z (p : Option Addr) (c r : Nat) : HT Tryz.prog 105 [.slice p 0 c, .func (Fn.func 106) #[] #[pV r]] [] (fun v K => v = .tuple #[] ∧ K = []) := by
 refine hiS Tryz.func105 Tryz.ntmps105 fun g w0 R h0 => go [.v 1 3 (oLr 0)] <| cl0 Tryz.call185 (len_z) h0 fun _ h11 => go [] <| cl0 Tryz.call184 (pdq_z p c r) h11 fun _ h13 => go [] ?_
 exact en (.tuple #[]) [] ⟨_, _, rfl, ⟨rfl, rfl⟩, h13⟩

theorem isort_ht (p : Option Addr) (m c c1 c3 b n : Nat) (X : List Int) (S : Ts) (hm : m ≤ 1000000) : HT Tryz.prog 105 [.slice p m c, .func (.func 106) #[] #[pV c3]] [Sl 3 1 p m c (fl eI X), Cl c3 [Value.func (Fn.func 104) #[] #[Value.pointer (some ⟨c1, 0, none⟩)]] 188, Cl c1 [Value.pointer (some ⟨b, 0, none⟩)] 25, TW b n S]
    (fun v K => ∃ M : List Int, (M.Perm X ∧ M.Pairwise fun a b => ltOf (cfB S) b a = false) ∧ v = .tuple #[] ∧ K = [Sl 3 1 p m c (fl eI M), Cl c3 [Value.func (Fn.func 104) #[] #[Value.pointer (some ⟨c1, 0, none⟩)]] 188, Cl c1 [Value.pointer (some ⟨b, 0, none⟩)] 25, TW b n S]) := by
  intro g w F hs
  rcases Nat.eq_zero_or_pos m with h0 | h0
  · subst h0
    have hl : X = [] := List.eq_nil_of_length_eq_zero (fl_n eI_ok (by decide) hs)
    subst hl
    refine (sort_z p c c3 g w _ hs).mono ?_
    rintro e w' ⟨v, K, rfl, ⟨rfl, rfl⟩, h2⟩
    exact ⟨_, _, rfl, ⟨[], ⟨List.Perm.refl _, List.Pairwise.nil⟩, rfl, rfl⟩, h2⟩
  · have hs1 : sat g w (TW b n S :: (F ++ [Sl 3 1 p m c (fl eI X), Cl c3 [Value.func (Fn.func 104) #[] #[Value.pointer (some ⟨c1, 0, none⟩)]] 188, Cl c1 [Value.pointer (some ⟨b, 0, none⟩)] 25])) := sat_rot (A := [Sl 3 1 p m c (fl eI X), Cl c3 [Value.func (Fn.func 104) #[] #[Value.pointer (some ⟨c1, 0, none⟩)]] 188, Cl c1 [Value.pointer (some ⟨b, 0, none⟩)] 25]) (B := TW b n S :: F) hs
    obtain ⟨hW, hs2⟩ := wi_out hs1
    obtain ⟨ts, tm, tp, tc, E0, hM, hs3⟩ := tab_open hs2
    have hs4 : sat g w (Sl 3 1 p m c (fl eI X) :: Cl c3 [Value.func (Fn.func 104) #[] #[Value.pointer (some ⟨c1, 0, none⟩)]] 188 :: Cl c1 [Value.pointer (some ⟨b, 0, none⟩)] 25 :: Cl b [.pointer (some ⟨ts, 0, none⟩), .map (some tm), .slice tp S.R.length tc] 35 :: Tb ts n S.A :: Gp kI vE tm E0 :: Sl 82 8 tp S.R.length tc (fl eRs S.R) :: F) :=
      sat_rot (A := Cl b [.pointer (some ⟨ts, 0, none⟩), .map (some tm), .slice tp S.R.length tc] 35 :: Tb ts n S.A :: Gp kI vE tm E0 :: Sl 82 8 tp S.R.length tc (fl eRs S.R) :: F) (B := [Sl 3 1 p m c (fl eI X), Cl c3 [Value.func (Fn.func 104) #[] #[Value.pointer (some ⟨c1, 0, none⟩)]] 188, Cl c1 [Value.pointer (some ⟨b, 0, none⟩)] 25]) hs3
    obtain ⟨bs, cur, hp, e2, e3, e4⟩ := sl_open hs4 h0
    refine (sort_rowI sortLayI (cfB S) (swoB S) 106 [pV c3] Tryz.call106 hs4 h0 (by omega) ?_).mono ?_
    · intro bb W hpb hWa x y
      obtain rfl : bb = bs := by rw [hp] at hpb; simpa using hpb.symm
      have a1 := cl_away (j := 0) e4 rfl hWa
      have a2 := cl_away (j := 1) e4 rfl hWa
      have a3 := cl_away (j := 2) e4 rfl hWa
      have a4 := rd_away (j := 5) e4 rfl hWa (gv_sl _ _ _)
      exact exact_of (oclo2_ht W b ts tm tc tp S (by simp [World.cell?, a3]) (by simp [World.cell?, a3]) (by simp [World.cell?, a3]) a4 hM.2 c1 (by simp [World.cell?, a2]) c3 (by simp [World.cell?, a1]) x y)
    · rintro e w' ⟨rfl, M, h1, h2, h3⟩
      refine ⟨_, _, rfl, ⟨M, ⟨h1, h2⟩, rfl, rfl⟩, ?_⟩
      have h4 := sat_rot (A := [Sl 3 1 p m c (fl eI M), Cl c3 [Value.func (Fn.func 104) #[] #[Value.pointer (some ⟨c1, 0, none⟩)]] 188, Cl c1 [Value.pointer (some ⟨b, 0, none⟩)] 25]) (B := Cl b [.pointer (some ⟨ts, 0, none⟩), .map (some tm), .slice tp S.R.length tc] 35 :: Tb ts n S.A :: Gp kI vE tm E0 :: Sl 82 8 tp S.R.length tc (fl eRs S.R) :: F) h3
      have h5 : sat g w' (TW b n S :: (F ++ [Sl 3 1 p m c (fl eI M), Cl c3 [Value.func (Fn.func 104) #[] #[Value.pointer (some ⟨c1, 0, none⟩)]] 188, Cl c1 [Value.pointer (some ⟨b, 0, none⟩)] 25])) := wi_in hW (tab_close hM.1 hM.2 rfl h4)
      exact sat_rot (A := TW b n S :: F) (B := [Sl 3 1 p m c (fl eI M), Cl c3 [Value.func (Fn.func 104) #[] #[Value.pointer (some ⟨c1, 0, none⟩)]] 188, Cl c1 [Value.pointer (some ⟨b, 0, none⟩)] 25]) h5
theorem closing_w (b n : Nat) (S : Ts) : HT Tryz.prog 44 [pV b] [TW b n S] (fun v K => ∃ (p : Option Addr) (c : Nat), v = .slice p (((srtB S).length)) c ∧ K = [TW b n S, Sl 3 1 p (((srtB S).length)) c (fl eI (srtB S))]) := by
 refine hiS Tryz.func44 Tryz.ntmps44 fun g w0 R h0 => ?_
 have hW_ := (wi_out h0).1; have hrl_ := hW_.rl; have hnl_ := nums_le S.R 2
 refine go [] <| nP 25 [pV b] h0 (fun r10 _ h12 => ?_)
 refine go [] <| nP 188 [Value.nilFunc] h12 (fun r13 _ h15 => ?_)
 refine sP [(0, .func (Fn.func 104) #[] #[pV r10])] [.func (Fn.func 104) #[] #[pV r10]] h15 fun _ h17 => ?_
 have h20 := tk4 (sf3 (sf2 (sf2 (sf3 h17))))
 refine go [rd 2 0 1 0 1 h17] <| cP Tryz.call51 (tnums_w b n S 2) h20 ?_
 rintro v K _ (⟨p18, c19, rfl, rfl⟩) h22
 have h27 := tk5 (sf4 (sf3 (sf4 (sf4 (sf4 (ap2 h22))))))
 have hl28 := fl_n eI_ok (by decide) h27
 have h29 := tk5 (sf4 (sf4 (sf4 (sf2 (sf4 h27)))))
 refine go [] <| cP Tryz.call105 (isort_ht p18 (((nums S.R 2).length)) c19 r10 r13 b n (nums S.R 2) S (by omega)) h29 ?_
 rintro v K w30 (⟨M24, ⟨hM25, hM26⟩, rfl, rfl⟩) h31
 have h32 := ap4 h31
 refine go [] ?_
 have he_ : M24 = srtB S := srtB_uniq hM25 hM26
 have h33 : sat g w30 [Sl 3 1 p18 (((srtB S).length)) c19 (fl eI (srtB S)), Cl r13 [.func (Fn.func 104) #[] #[pV r10]] 188, Cl r10 [pV b] 25, TW b n S, R] := sat_imp h32 (fun _ hh_ => by rw [srtB_len, ← he_]; exact hh_)
 exact en (.slice p18 (((nums S.R 2).length)) c19) [] ⟨_, _, rfl, ⟨p18, c19, by rw [srtB_len], rfl⟩, (tk3 (sf2 (sf2 (sf4 (tk5 (sf4 (sf3 (sf3 (sf3 (sf4 h33))))))))))⟩

end Go.Proofs.YtehlamblpekmkaaGreatDoor

/- Walks, printed by my generator q3.py. -/
namespace Go.Proofs.YtehlamblpekmkaaGreatDoor
set_option maxHeartbeats 4000000
theorem bkchk_ok (ba cp : Int) (hb : 1 ≤ ba ∧ ba ≤ cp ∧ cp ≤ 1048576) : HT Tryz.prog 48 [iV ba, iV cp] [] (fun v K => v = iV 0 ∧ K = []) := by
 refine hiS Tryz.func48 Tryz.ntmps48 fun g w0 R h0 => go [.v 1 1 (oF (ba < 1)), .v 1 5 (oF (cp < ba)), .v 1 9 (oF (cp > 1048576))] ?_
 exact en (iV 0) [] ⟨_, _, rfl, ⟨rfl, rfl⟩, h0⟩

theorem bkchk_no (ba cp : Int) (h : ba < 1 ∨ cp < ba ∨ 1048576 < cp) : HT Tryz.prog 48 [iV ba, iV cp] [] (fun v K => v = iV 2 ∧ K = []) := by
 refine hiS Tryz.func48 Tryz.ntmps48 fun g w0 R h0 => go [.s 1 1] ?_
 by_cases c10 : ba < 1
 ·
  refine go [.v 1 1 (oT (ba < 1))] ?_
  exact en (iV 2) [] ⟨_, _, rfl, ⟨rfl, rfl⟩, h0⟩
 refine go [.v 1 1 (oF (ba < 1)), .s 1 5] ?_
 by_cases c11 : cp < ba
 ·
  refine go [.v 1 5 (oT (cp < ba))] ?_
  exact en (iV 2) [] ⟨_, _, rfl, ⟨rfl, rfl⟩, h0⟩
 refine go [.v 1 5 (oF (cp < ba)), .v 1 9 (oT (cp > 1048576))] ?_
 exact en (iV 2) [] ⟨_, _, rfl, ⟨rfl, rfl⟩, h0⟩

theorem bkchk_ht (ba cp : Int) : HT Tryz.prog 48 [Value.int IntKind.i64 ba, Value.int IntKind.i64 cp] [] (fun v K => v = Value.int .i64 (bkE ba cp) ∧ K = []) := by
  unfold bkE
  split
  · rename_i h
    exact bkchk_no ba cp h
  · rename_i h
    exact bkchk_ok ba cp (by omega)

theorem bkck_ok (tr ba cp : Int) (ht : 1 ≤ tr ∧ tr ≤ 64) (hb : 1 ≤ ba ∧ ba ≤ cp ∧ cp ≤ 1048576) : HT Tryz.prog 61 [iV tr, iV ba, iV cp] [] (fun v K => v = iV 0 ∧ K = []) := by
 refine hiS Tryz.func61 Tryz.ntmps61 fun g w0 R h0 => go [.v 1 1 (oF (tr < 1)), .v 1 4 (oF (tr > 64))] <| cl0 Tryz.call48 (bkchk_ok ba cp (by omega)) h0 fun _ h11 => go [] ?_
 exact en (iV 0) [] ⟨_, _, rfl, ⟨rfl, rfl⟩, h11⟩

theorem waits_ht (ba cp : Int) : HT Tryz.prog 127 [iV ba, iV cp] [] (fun v K => ∃ c1 c2 : Nat, v = .func (Fn.func 200) #[] #[pV c1, pV c2] ∧ K = [Cl c1 [iV ba] 2, Cl c2 [iV cp] 2]) := by
 refine hiS Tryz.func127 Tryz.ntmps127 fun g w0 R h0 => go [] <| nP 2 [iV ba] h0 (fun r10 _ h12 => ?_)
 refine nP 2 [iV cp] h12 (fun r13 _ h15 => ?_)
 refine go [] ?_
 exact en (.func (Fn.func 200) #[] #[pV r10, pV r13]) [] ⟨_, _, rfl, ⟨r10, r13, rfl, rfl⟩, (tk3 (sf2 (sf1 (sf2 h15))))⟩

theorem waits_it (c1 c2 : Nat) (ba cp : Int) (hb : 1 ≤ ba ∧ ba ≤ cp ∧ cp ≤ 1048576) : IT Tryz.prog 200 [Value.pointer (some ⟨c1, 0, none⟩), Value.pointer (some ⟨c2, 0, none⟩)] 64 ((fun i : Nat => [Value.int .i64 ((i : Int) + 1), Value.int .i64 (wtN ba cp i)])) [Cl c1 [Value.int IntKind.i64 ba] 2, Cl c2 [Value.int IntKind.i64 cp] 2] := by
 refine it_in 21 (fun k_ => ([(0, .func (Fn.yield k_) #[] #[]), (1, pV c1), (2, pV c2)] : Fr)) Tryz.func200 (by kernel_rfl) Tryz.ntmps200 rfl (fun _ => rfl) ?_
 intro g w0 R k_ J_ E_ hY h0
 have h1 : sat g w0 [J_ 0, Cl c1 [iV ba] 2, Cl c2 [iV cp] 2, R] := h0
 change WP _ _ (CA Tryz.f200 []) _ (mk 21 (([(0, .func (Fn.yield k_) #[] #[]), (1, pV c1), (2, pV c2)] : Fr))) _
 refine ySq ?_
 refine yPl [0, 1] ?_
 refine yBb [] [(4, iV ba), (6, iV ba)] [e2 0 [iV ba], e0 1] [(0, ⟨c1, 0, none⟩, iV ba)] [] trivial (kC (sat_cell h1 1 rfl rfl) nC) (.mk ?_)
 refine yK [(0, .func (Fn.yield k_) #[] #[]), (2, pV c2), (4, iV ba)] fun lr2 => ?_
 refine ySq ?_
 refine yPl [0] ?_
 refine yB0 [] [0] [(5, iV 1)] (.mk ?_)
 refine yK [(0, .func (Fn.yield k_) #[] #[]), (2, pV c2), (4, iV ba), (5, iV 1)] fun lr3 => ?_
 refine yBk 0 ?_
 refine gi_lp (x := CA Tryz.f200 [1, 1, 0, 0]) (by kernel_rfl) (fun mz_ a w => ∃ k : Nat, ∃ wv : Int, ∃ lr : Fr, mz_ = 64 - k ∧ (k ≤ 64) ∧ (wv = wtN ba cp k) ∧ (1 ≤ wv ∧ wv ≤ cp) ∧ a = mk 21 (([(0, .func (Fn.yield k_) #[] #[]), (2, pV c2), (4, iV wv), (5, iV ((k : Int) + 1))] : Fr) ++ lr) ∧ sat g w [J_ k, Cl c1 [iV ba] 2, Cl c2 [iV cp] 2, R]) (64 - 0) ⟨0, ba, _, rfl, (Nat.zero_le _), rfl, (by omega), (mk_live [(0, .func (Fn.yield k_) #[] #[]), (2, pV c2), (4, iV ba), (5, iV ((0 : Int) + 1))] ⟨rfl, rfl, rfl, (ov_int (by omega)), trivial⟩), h1⟩ ?_
 rintro m5 a6 w7 ⟨k, wv, lr4, rfl, hk, hwv_, hwb_, rfl, h8⟩
 refine ySq ?_
 refine ySq ?_
 refine gi_ply (id := 2) (ops := RA Tryz.f200 [1, 1, 0, 0, 0, 0]) [0, 1, 2, 3, 4, 5] [6, 7] (by kernel_rfl) (by kernel_rfl) (by kernel_rfl) ?_
 refine yB0 [1, 2, 3, 4, 5] [0] [(7, iV ((k : Int) + 1))] ?_
 by_cases c9 : (k : Int) + 1 ≤ 64
 ·
  refine yBb [] [(12, iV wv), (11, iV ((k : Int) + 1)), (10, .func (Fn.yield k_) #[] #[]), (9, .bool true), (8, .bool true)] [e1 1 (.bool true), e0 2, e0 3, e0 4, e0 5] [] [(.bool (decide ((k : Int) + 1 ≤ 64)), .bool true)] ⟨(ov_t (by omega)), trivial⟩ nC (.mk ?_)
  change YP _ (RA Tryz.f200 [1, 1, 0, 0, 0, 0]) _ [6, 7] (mk 21 (([(12, iV wv), (11, iV ((k : Int) + 1)), (10, .func (Fn.yield k_) #[] #[]), (9, .bool true), (8, .bool true), (7, iV ((k : Int) + 1)), (0, .func (Fn.yield k_) #[] #[]), (2, pV c2), (4, iV wv), (5, iV ((k : Int) + 1))] : Fr) ++ lr4)) _
  refine yp_yield (d := some 13) (k := k_) (args := [Value.int IntKind.i64 ((k : Int) + 1), Value.int IntKind.i64 wv]) (xa := ((fun i : Nat => [Value.int .i64 ((i : Int) + 1), Value.int .i64 (wtN ba cp i)])) k) (S1 := fun w => sat g w [J_ (k + 1), Cl c1 [Value.int IntKind.i64 ba] 2, Cl c2 [Value.int IntKind.i64 cp] 2, R]) (S2 := fun w => sat g w [E_ k, R]) (by kernel_rfl) (by kernel_rfl) (by kernel_rfl) ((by show [Value.int .i64 ((k : Int) + 1), Value.int .i64 (wtN ba cp k)] = _; rw [← hwv_])) (hY k ((by omega)) _ [R] h8) ?_ ?_
  ·
   intro w10 h11
   refine ⟨_, rfl, ?_⟩
   have h12 : sat g w10 [J_ (k + 1), Cl c1 [iV ba] 2, Cl c2 [iV cp] 2, R] := h11
   have hlt13 := ((by omega) : k < 64)
   refine yB0 [] [7] [(14, .bool true)] (.mk ?_)
   refine yK [(0, .func (Fn.yield k_) #[] #[]), (2, pV c2), (4, iV wv), (5, iV ((k : Int) + 1)), (14, .bool true)] fun lr14 => ?_
   refine yCt ?_
   refine ySk ?_
   refine ySq ?_
   refine yBk 1 ?_
   refine yPl [0, 1, 2, 3, 4] ?_
   refine yBb [3, 4] [(19, iV cp), (18, iV (2 * wv)), (17, iV wv)] [e0 0, e1 1 (iV (2 * wv)), e2 2 [iV cp]] [(2, ⟨c2, 0, none⟩, iV cp)] [(iV (IntKind.wrap .i64 (2 * wv)), iV (2 * wv))] ⟨(ov_i64 (by omega) (by omega) (by omega)), trivial⟩ (kC (sat_cell h12 2 rfl rfl) nC) ?_
   by_cases c15 : cp < 2 * wv
   ·
    refine yBb [] [(4, iV cp), (20, iV cp)] [e1 3 (iV cp), e0 4] [] [(iV (if cp < 2 * wv then cp else 2 * wv), iV cp)] ⟨(ov_int (if_pos (by omega))), trivial⟩ nC (.mk ?_)
    refine yK [(0, .func (Fn.yield k_) #[] #[]), (2, pV c2), (4, iV cp), (5, iV ((k : Int) + 1))] fun lr16 => ?_
    refine yPl [0, 1, 2] ?_
    refine yBb [] [(5, iV ((k : Int) + 2)), (16, iV ((k : Int) + 2)), (15, iV ((k : Int) + 1))] [e0 0, e1 1 (iV ((k : Int) + 2)), e0 2] [] [(iV (IntKind.wrap .i64 (((k : Int) + 1) + 1)), iV ((k : Int) + 2))] ⟨(ov_i64 (by omega) (by omega) (by omega)), trivial⟩ nC (.mk ?_)
    change ∃ n', n' < _ ∧ _
    refine ⟨(64 - (k + 1)), by omega, (k + 1), cp, _, rfl, (by omega), (by unfold wtN; rw [← hwv_]; omega), (by omega), (mk_live [(0, .func (Fn.yield k_) #[] #[]), (2, pV c2), (4, iV cp), (5, iV ((((k + 1) : Nat) : Int) + 1))] ⟨rfl, rfl, rfl, (ov_int (by omega)), trivial⟩), h12⟩
   ·
    refine yBb [] [(4, iV (2 * wv)), (20, iV (2 * wv))] [e1 3 (iV (2 * wv)), e0 4] [] [(iV (if cp < 2 * wv then cp else 2 * wv), iV (2 * wv))] ⟨(ov_int (if_neg (by omega))), trivial⟩ nC (.mk ?_)
    refine yK [(0, .func (Fn.yield k_) #[] #[]), (2, pV c2), (4, iV (2 * wv)), (5, iV ((k : Int) + 1))] fun lr17 => ?_
    refine yPl [0, 1, 2] ?_
    refine yBb [] [(5, iV ((k : Int) + 2)), (16, iV ((k : Int) + 2)), (15, iV ((k : Int) + 1))] [e0 0, e1 1 (iV ((k : Int) + 2)), e0 2] [] [(iV (IntKind.wrap .i64 (((k : Int) + 1) + 1)), iV ((k : Int) + 2))] ⟨(ov_i64 (by omega) (by omega) (by omega)), trivial⟩ nC (.mk ?_)
    change ∃ n', n' < _ ∧ _
    refine ⟨(64 - (k + 1)), by omega, (k + 1), 2 * wv, _, rfl, (by omega), (by unfold wtN; rw [← hwv_]; omega), (by omega), (mk_live [(0, .func (Fn.yield k_) #[] #[]), (2, pV c2), (4, iV (2 * wv)), (5, iV ((((k + 1) : Nat) : Int) + 1))] ⟨rfl, rfl, rfl, (ov_int (by omega)), trivial⟩), h12⟩
  ·
   intro w18 h19
   refine ⟨_, rfl, ?_⟩
   have h20 : sat g w18 [E_ k, R] := h19
   have hlt21 := ((by omega) : k < 64)
   refine yB0 [] [7] [(14, .bool false)] (.mk ?_)
   refine yK [(0, .func (Fn.yield k_) #[] #[]), (2, pV c2), (4, iV wv), (5, iV ((k : Int) + 1)), (14, .bool false)] fun lr22 => ?_
   refine yCf ?_
   refine yEx 0 ?_
   repeat (first | simp only [Exit.inBlock] | simp only [Exit.then])
   refine hi_outn [] (.tuple #[]) [] (by kernel_rfl) (by intro q hq; cases hq) ⟨⟨_, rfl⟩, ?_⟩
   exact .inr ⟨k, (by omega), h20⟩
 ·
  refine yBb [] [(12, undef), (11, undef), (10, undef), (9, .bool false), (8, .bool false)] [e1 1 (.bool false), e0 2, e0 3, e0 4, e0 5] [] [(.bool (decide ((k : Int) + 1 ≤ 64)), .bool false)] ⟨(ov_f (by omega)), trivial⟩ nC (.mk ?_)
  refine yp_skip (by kernel_rfl) ?_
  refine plain_skip (by kernel_rfl : chkN (RA Tryz.f200 [1, 1, 0, 0, 0, 0]) 21 _ 6 = some (some 13)) rfl ?_
  refine yB0 [] [7] [(14, .bool false)] (.mk ?_)
  refine yK [(0, .func (Fn.yield k_) #[] #[]), (2, pV c2), (4, iV wv), (5, iV ((k : Int) + 1)), (14, .bool false)] fun lr23 => ?_
  refine yCf ?_
  refine yEx 0 ?_
  repeat (first | simp only [Exit.inBlock] | simp only [Exit.then])
  refine hi_outn [] (.tuple #[]) [] (by kernel_rfl) (by intro q hq; cases hq) ⟨⟨_, rfl⟩, ?_⟩
  have he_ : k = 64 := (by omega)
  exact .inl (he_ ▸ h8)

theorem wait1_t (ct : Nat) (tr ka kb : Int) (h : ka = tr) : HT Tryz.prog 63 [iV ka, iV kb, pV ct] [Cl ct [iV tr] 3] (fun v K => v = .bool true ∧ K = [Cl ct [iV tr] 3]) := by
 refine hiS Tryz.func63 Tryz.ntmps63 fun g w0 R h0 => go [rd 1 1 0 0 1 h0, .v 1 2 (qeT ka tr)] ?_
 exact en (.bool true) [] ⟨_, _, rfl, ⟨rfl, rfl⟩, h0⟩

theorem wait1_f (ct : Nat) (tr ka kb : Int) (h : ¬ ka = tr) : HT Tryz.prog 63 [iV ka, iV kb, pV ct] [Cl ct [iV tr] 3] (fun v K => v = .bool false ∧ K = [Cl ct [iV tr] 3]) := by
 refine hiS Tryz.func63 Tryz.ntmps63 fun g w0 R h0 => go [rd 1 1 0 0 1 h0, .v 1 2 (qeF ka tr)] ?_
 exact en (.bool false) [] ⟨_, _, rfl, ⟨rfl, rfl⟩, h0⟩

theorem find_ht (ct : Nat) (tr ba cp : Int) (ht : 1 ≤ tr ∧ tr ≤ 64) (hb : 1 ≤ ba ∧ ba ≤ cp ∧ cp ≤ 1048576) : HT Tryz.prog 62 [Value.int IntKind.i64 ba, Value.int IntKind.i64 cp, Value.func (Fn.func 63) #[] #[Value.pointer (some ⟨ct, 0, none⟩)]] [Cl ct [Value.int IntKind.i64 tr] 3] (fun v K => v = Value.tuple #[Value.int IntKind.i64 tr, Value.int IntKind.i64 ((wtB tr ba cp))] ∧ K = [Cl ct [Value.int IntKind.i64 tr] 3]) := by
 refine hi_in 21 ([(0, iV ba), (1, iV cp), (2, .func (Fn.func 63) #[] #[pV ct])] : Fr) Tryz.func62 (by kernel_rfl) Tryz.ntmps62 rfl rfl ?_
 intro g w0 R h0
 refine ySq ?_
 refine yPl [0, 1, 2] ?_
 refine yA ?_
 refine yNp 5 134 [.func (Fn.func 63) #[] #[pV ct]] h0 fun r1 w2 h3 => ?_
 refine yA ?_
 refine yNp 6 3 [iV 0] h3 fun r4 w5 h6 => ?_
 refine yA ?_
 refine yNp 7 2 [iV 0] h6 fun r7 w8 h9 => ?_
 refine PO.mk ?_
 refine yK [(0, iV ba), (1, iV cp), (2, .func (Fn.func 63) #[] #[pV ct]), (5, pV r1), (6, pV r4), (7, pV r7)] fun lr10 => ?_
 refine ySq ?_
 refine ySq ?_
 refine yPl [0, 1, 2] ?_
 refine yB0 [2] [0, 1] [(11, iV cp), (10, iV ba)] ?_
 refine yA ?_
 refine yCl 12 Tryz.call127 (waits_ht ba cp) h9 ?_
 rintro v K w13 (⟨b11, b12, rfl, rfl⟩) h14
 refine ⟨_, rfl, ?_⟩
 have h15 := ap2 h14
 refine PO.mk ?_
 refine yK [(0, iV ba), (1, iV cp), (2, .func (Fn.func 63) #[] #[pV ct]), (5, pV r1), (6, pV r4), (7, pV r7), (12, .func (Fn.func 200) #[] #[pV b11, pV b12])] fun lr16 => ?_
 refine yBk 0 ?_
 have h17 := tk7 (sf6 (sf5 (sf4 (sf6 (sf2 (sf2 (sf6 h15)))))))
 refine gi_rf (x := (Operand.tmp 12)) (ps := #[13, 14]) (asg := CA Tryz.f62 [1, 0, 1, 0, 1]) (bd := CA Tryz.f62 [1, 0, 1, 0, 0]) (gf := 200) (cap := [pV b11, pV b12]) (N := 64) (xs := fun i => [iV ((i : Int) + 1), iV ((wtN ba cp i))]) (At := [Cl b11 [iV ba] 2, Cl b12 [iV cp] 2]) (K0 := [Cl r1 [.func (Fn.func 63) #[] #[pV ct]] 134, Cl r4 [iV 0] 3, Cl r7 [iV 0] 2, Cl ct [iV tr] 3]) (L := [R]) (fun i => [(14, iV ((wtN ba cp i))), (13, iV ((i : Int) + 1))] ++ (([(0, iV ba), (1, iV cp), (2, .func (Fn.func 63) #[] #[pV ct]), (5, pV r1), (6, pV r4), (7, pV r7), (12, .func (Fn.func 200) #[] #[pV b11, pV b12])] : Fr) ++ lr16)) (fun i => ([(9, iV ((wtN ba cp i))), (8, iV ((i : Int) + 1)), (14, iV ((wtN ba cp i))), (13, iV ((i : Int) + 1))] : Fr) ++ (([(0, iV ba), (1, iV cp), (2, .func (Fn.func 63) #[] #[pV ct]), (5, pV r1), (6, pV r4), (7, pV r7), (12, .func (Fn.func 200) #[] #[pV b11, pV b12])] : Fr) ++ lr16)) (fun i K => ((i : Int) < tr) ∧ K = [Cl r1 [.func (Fn.func 63) #[] #[pV ct]] 134, Cl r4 [iV 0] 3, Cl r7 [iV 0] 2, Cl ct [iV tr] 3]) (fun c i K => (c = Code.ret ∧ ((i : Int) + 1 = tr) ∧ K = [Cl r1 [.func (Fn.func 63) #[] #[pV ct]] 134, Cl r4 [iV ((i : Int) + 1)] 3, Cl r7 [iV ((wtN ba cp i))] 2, Cl ct [iV tr] 3])) (by kernel_rfl) (by kernel_rfl) Tryz.call200 (waits_it b11 b12 ba cp hb) ⟨(by omega), rfl⟩ h17 (fun _ _ => rfl) (fun _ _ => rf_frame2 rfl rfl) ?_ ?_ ?_ ?_
 ·
  intro i hi_ lp_ w18 K_ hk19
  change WP _ _ (CA Tryz.f62 [1, 0, 1, 0, 1]) _ (mk 21 (([(14, iV ((wtN ba cp i))), (13, iV ((i : Int) + 1)), (0, iV ba), (1, iV cp), (2, .func (Fn.func 63) #[] #[pV ct]), (5, pV r1), (6, pV r4), (7, pV r7), (12, .func (Fn.func 200) #[] #[pV b11, pV b12])] : Fr) ++ lr16)) _
  refine ySq ?_
  refine yPl [0] ?_
  refine yB0 [] [0] [(8, iV ((i : Int) + 1))] (.mk ?_)
  refine yPl [0] ?_
  refine yB0 [] [0] [(9, iV ((wtN ba cp i)))] (.mk ?_)
  exact hk19
 ·
  rintro i hi22 lp_ w20 K_ G ⟨hlt_, rfl⟩ h21
  have h23 : sat g w20 [Cl r1 [.func (Fn.func 63) #[] #[pV ct]] 134, Cl r4 [iV 0] 3, Cl r7 [iV 0] 2, Cl ct [iV tr] 3, Cl b11 [iV ba] 2, Cl b12 [iV cp] 2, G] := h21
  change WP _ _ (CA Tryz.f62 [1, 0, 1, 0, 0]) _ (mk 21 (([(9, iV ((wtN ba cp i))), (8, iV ((i : Int) + 1)), (14, iV ((wtN ba cp i))), (13, iV ((i : Int) + 1)), (0, iV ba), (1, iV cp), (2, .func (Fn.func 63) #[] #[pV ct]), (5, pV r1), (6, pV r4), (7, pV r7), (12, .func (Fn.func 200) #[] #[pV b11, pV b12])] : Fr) ++ lr16)) _
  refine yBk 1 ?_
  refine ySq ?_
  refine yPl [0, 1, 2, 3] ?_
  refine yBb [3] [(17, iV ((wtN ba cp i))), (16, iV ((i : Int) + 1)), (15, .func (Fn.func 63) #[] #[pV ct])] [e2 0 [.func (Fn.func 63) #[] #[pV ct]], e0 1, e0 2] [(0, ⟨r1, 0, none⟩, .func (Fn.func 63) #[] #[pV ct])] [] trivial (kC (sat_cell h23 0 rfl rfl) nC) ?_
  by_cases c24 : (i : Int) + 1 = tr
  ·
   have h25 := tk7 (sf6 (sf5 (sf5 (sf5 (sf6 (sf6 (sf6 h23)))))))
   refine yA ?_
   refine yCl 18 Tryz.call63 (wait1_t ct tr ((i : Int) + 1) ((wtN ba cp i)) (by omega)) h25 ?_
   rintro v K w26 (⟨rfl, rfl⟩) h27
   refine ⟨_, rfl, ?_⟩
   have h28 := ap1 h27
   refine PO.mk ?_
   refine yK [(0, iV ba), (1, iV cp), (2, .func (Fn.func 63) #[] #[pV ct]), (5, pV r1), (6, pV r4), (7, pV r7), (8, iV ((i : Int) + 1)), (9, iV ((wtN ba cp i))), (12, .func (Fn.func 200) #[] #[pV b11, pV b12]), (13, iV ((i : Int) + 1)), (14, iV ((wtN ba cp i))), (18, .bool true)] fun lr29 => ?_
   refine yCt ?_
   refine ySq ?_
   refine yPl [0, 1, 2, 3] ?_
   refine yB0 [2, 3] [0, 1] [(20, iV ((wtN ba cp i))), (19, iV ((i : Int) + 1))] ?_
   have h30 := tk7 (sf6 (sf5 (sf5 (sf6 (sf6 (sf6 (sf6 h28)))))))
   refine yA ?_
   refine yS [(0, iV ((i : Int) + 1))] [iV ((i : Int) + 1)] h30 fun w31 h32 => ?_
   have h33 := tk7 (sf6 (sf5 (sf5 (sf5 (sf6 (sf6 (sf6 h32)))))))
   refine yA ?_
   refine yS [(0, iV ((wtN ba cp i)))] [iV ((wtN ba cp i))] h33 fun w34 h35 => ?_
   refine PO.mk ?_
   refine yK [(0, iV ba), (1, iV cp), (2, .func (Fn.func 63) #[] #[pV ct]), (5, pV r1), (6, pV r4), (7, pV r7), (8, iV ((i : Int) + 1)), (9, iV ((wtN ba cp i))), (12, .func (Fn.func 200) #[] #[pV b11, pV b12]), (13, iV ((i : Int) + 1)), (14, iV ((wtN ba cp i))), (18, .bool true)] fun lr36 => ?_
   refine yRt ?_
   repeat (first | simp only [Exit.inBlock] | simp only [Exit.then])
   have h37 := tk7 (sf6 (sf5 (sf4 (sf5 (sf6 (sf5 (sf5 h35)))))))
   have h38 := tk5 h37
   exact ⟨_, ⟨rfl, (by omega), rfl⟩, h38⟩
  ·
   have h39 := tk7 (sf6 (sf5 (sf5 (sf5 (sf6 (sf6 (sf6 h23)))))))
   refine yA ?_
   refine yCl 18 Tryz.call63 (wait1_f ct tr ((i : Int) + 1) ((wtN ba cp i)) (by omega)) h39 ?_
   rintro v K w40 (⟨rfl, rfl⟩) h41
   refine ⟨_, rfl, ?_⟩
   have h42 := ap1 h41
   refine PO.mk ?_
   refine yK [(0, iV ba), (1, iV cp), (2, .func (Fn.func 63) #[] #[pV ct]), (5, pV r1), (6, pV r4), (7, pV r7), (8, iV ((i : Int) + 1)), (9, iV ((wtN ba cp i))), (12, .func (Fn.func 200) #[] #[pV b11, pV b12]), (13, iV ((i : Int) + 1)), (14, iV ((wtN ba cp i))), (18, .bool false)] fun lr43 => ?_
   refine yCf ?_
   refine ySk ?_
   repeat (first | simp only [Exit.inBlock] | simp only [Exit.then])
   have h44 := tk7 (sf6 (sf6 (sf6 (sf3 (sf6 (sf6 (sf6 h42)))))))
   have h45 := tk7 h44
   exact ⟨_, ⟨(by omega), rfl⟩, h45⟩
 ·
  rintro D46 w47 K_ ⟨hlt_, rfl⟩ h48
  have h49 : sat g w47 [pt D46 (Obj.deferred (some [])), Cl r1 [.func (Fn.func 63) #[] #[pV ct]] 134, Cl r4 [iV 0] 3, Cl r7 [iV 0] 2, Cl ct [iV tr] 3, Cl b11 [iV ba] 2, Cl b12 [iV cp] 2, R] := h48
  refine yK [(6, pV r4), (7, pV r7)] fun lr50 => ?_
  refine ySq ?_
  refine yPl [0, 1] ?_
  have h51 := tk8 (sf7 (sf6 (sf6 (sf7 (sf7 (sf7 (sf7 (sf7 h49))))))))
  refine yA ?_
  refine yS [(0, iV 0)] [iV 0] h51 fun w52 h53 => ?_
  have h54 := tk8 (sf7 (sf6 (sf6 (sf6 (sf7 (sf7 (sf7 (sf7 h53))))))))
  refine yA ?_
  refine yS [(0, iV 0)] [iV 0] h54 fun w55 h56 => ?_
  refine PO.mk ?_
  refine yK [(6, pV r4), (7, pV r7)] fun lr57 => ?_
  refine yRt ?_
  repeat (first | simp only [Exit.inBlock] | simp only [Exit.then])
  have h58 := tk8 (sf7 (sf6 (sf6 (sf7 (sf7 (sf7 (sf7 (sf7 h56))))))))
  refine hi_out1 h58 [iV 0, iV 0] (.tuple #[iV 0, iV 0]) [(⟨r4, 0, none⟩, iV 0), (⟨r7, 0, none⟩, iV 0)] (by kernel_rfl) (fun w60 h59 => ⟨?_, ?_⟩)
  · exact (allq ⟨sat_cell h59 2 rfl rfl, sat_cell h59 1 rfl rfl, trivial⟩)
  ·
   have h61 : sat g w60 [pt D46 (Obj.deferred none), Cl r7 [iV 0] 2, Cl r4 [iV 0] 3, Cl r1 [.func (Fn.func 63) #[] #[pV ct]] 134, Cl ct [iV tr] 3, Cl b11 [iV ba] 2, Cl b12 [iV cp] 2, R] := h59
   have h62 := tk8 (sf7 (sf6 (sf6 (sf6 (sf6 (sf7 (sf7 (sf7 h61))))))))
   have h63 := tk2 (sf1 (sf7 h62))
   exact ⟨.tuple #[iV 0, iV 0], [Cl ct [iV tr] 3], rfl, ⟨by exfalso; omega, rfl⟩, h63⟩
 ·
  rintro D64 w65 ex_ i K_ hi67 (⟨rfl, hex_, rfl⟩) h66
  ·
   have h68 : sat g w65 [pt D64 (Obj.deferred (some [])), Cl r1 [.func (Fn.func 63) #[] #[pV ct]] 134, Cl r4 [iV ((i : Int) + 1)] 3, Cl r7 [iV ((wtN ba cp i))] 2, Cl ct [iV tr] 3, R] := h66
   refine gi_rt rfl ?_
   repeat (first | simp only [Exit.inBlock] | simp only [Exit.then])
   refine hi_out1 h68 [iV ((i : Int) + 1), iV ((wtN ba cp i))] (.tuple #[iV ((i : Int) + 1), iV ((wtN ba cp i))]) [(⟨r4, 0, none⟩, iV ((i : Int) + 1)), (⟨r7, 0, none⟩, iV ((wtN ba cp i)))] (by kernel_rfl) (fun w70 h69 => ⟨?_, ?_⟩)
   · exact (allq ⟨sat_cell h69 2 rfl rfl, sat_cell h69 3 rfl rfl, trivial⟩)
   ·
    have h71 : sat g w70 [pt D64 (Obj.deferred none), Cl r1 [.func (Fn.func 63) #[] #[pV ct]] 134, Cl r4 [iV ((i : Int) + 1)] 3, Cl r7 [iV ((wtN ba cp i))] 2, Cl ct [iV tr] 3, R] := h69
    have h72 := tk6 (sf5 (sf4 (sf4 (sf4 (sf4 (sf5 h71))))))
    have h73 := tk2 (sf1 (sf5 h72))
    exact ⟨.tuple #[iV ((i : Int) + 1), iV ((wtN ba cp i))], [Cl ct [iV tr] 3], rfl, ⟨by unfold wtB; rw [show (tr - 1).toNat = i from by omega, show ((i : Int) + 1) = tr from by omega], rfl⟩, h73⟩

theorem wait_ht (tr ba cp : Int) (ht : 1 ≤ tr ∧ tr ≤ 64) (hb : 1 ≤ ba ∧ ba ≤ cp ∧ cp ≤ 1048576) : HT Tryz.prog 22 [iV tr, iV ba, iV cp] [] (fun v K => v = .tuple #[iV ((wtB tr ba cp)), iV 0] ∧ K = []) := by
 refine hiS Tryz.func22 Tryz.ntmps22 fun g w0 R h0 => go [] <| nP 3 [iV tr] h0 (fun r10 _ h12 => ?_)
 refine go [rd 1 0 0 0 1 h12] <| cl0 Tryz.call61 (bkck_ok tr ba cp (by omega) (by omega)) h12 fun _ h14 => go [] <| cl1 Tryz.call62 (find_ht r10 tr ba cp (by omega) (by omega)) h14 fun _ h16 => go [] ?_
 exact en (.tuple #[iV ((wtB tr ba cp)), iV 0]) [] ⟨_, _, rfl, ⟨rfl, rfl⟩, (tk1 (sf1 h16))⟩

end Go.Proofs.YtehlamblpekmkaaGreatDoor

/- Walks, printed by my generator q4.py. -/
namespace Go.Proofs.YtehlamblpekmkaaGreatDoor
set_option maxHeartbeats 4000000
theorem rckd_ok (r : Rs) (hres : resR r = 0) (hz0 : 0 ≤ r.out.2.2) (hz1 : r.out.2.2 ≤ 4294967295) (st : Int) (h : r.st = st) : HT Tryz.prog 111 [.agg #[iV r.out.1, iV r.out.2.1, uV r.out.2.2, iV r.st, iV r.why, iV r.tr, iV r.nx, .string (St r.tag)], .bool true, iV st] [] (fun v K => v = iV 0 ∧ K = []) := by
 refine hiS Tryz.func111 Tryz.ntmps111 fun g w0 R h0 => go [] <| nP 82 [iV r.out.1, iV r.out.2.1, uV r.out.2.2, iV r.st, iV r.why, iV r.tr, iV r.nx, .string (St r.tag)] h0 (fun _ _ h12 => ?_)
 refine go [rd 1 0 0 0 8 h12] <| cl0 Tryz.call125 ((by have h_ := rchk_ht r.out.1 r.out.2.1 r.out.2.2 r.st r.why r.tr r.nx r.tag (by omega) (by omega) (by have := res_len hres; omega); rw [show resE r.out.1 r.out.2.1 r.out.2.2 r.st r.why r.tr r.nx r.tag = 0 from hres] at h_; exact h_)) h12 fun _ h14 => ?_
 refine go [rd 6 1 0 3 1 h14, .v 6 3 (qnF r.st st)] ?_
 exact en (iV 0) [] ⟨_, _, rfl, ⟨rfl, rfl⟩, (tk1 (sf1 h14))⟩

theorem rckd_st (r : Rs) (hres : resR r = 0) (hz0 : 0 ≤ r.out.2.2) (hz1 : r.out.2.2 ≤ 4294967295) (st : Int) (h : ¬ r.st = st) : HT Tryz.prog 111 [.agg #[iV r.out.1, iV r.out.2.1, uV r.out.2.2, iV r.st, iV r.why, iV r.tr, iV r.nx, .string (St r.tag)], .bool true, iV st] [] (fun v K => v = iV 8 ∧ K = []) := by
 refine hiS Tryz.func111 Tryz.ntmps111 fun g w0 R h0 => go [] <| nP 82 [iV r.out.1, iV r.out.2.1, uV r.out.2.2, iV r.st, iV r.why, iV r.tr, iV r.nx, .string (St r.tag)] h0 (fun _ _ h12 => ?_)
 refine go [rd 1 0 0 0 8 h12] <| cl0 Tryz.call125 ((by have h_ := rchk_ht r.out.1 r.out.2.1 r.out.2.2 r.st r.why r.tr r.nx r.tag (by omega) (by omega) (by have := res_len hres; omega); rw [show resE r.out.1 r.out.2.1 r.out.2.2 r.st r.why r.tr r.nx r.tag = 0 from hres] at h_; exact h_)) h12 fun _ h14 => ?_
 refine go [rd 6 1 0 3 1 h14, .v 6 3 (qnT r.st st)] ?_
 exact en (iV 8) [] ⟨_, _, rfl, ⟨rfl, rfl⟩, (tk1 (sf1 h14))⟩

theorem rclo_ok (r : Rs) (hres : resR r = 0) (hz0 : 0 ≤ r.out.2.2) (hz1 : r.out.2.2 ≤ 4294967295) (y t : Int) (hy : 1 ≤ y ∧ y ≤ 3) (ht : 0 ≤ t ∧ t ≤ 1099511627776) (h : r.st = 1) : HT Tryz.prog 52 [.agg #[iV r.out.1, iV r.out.2.1, uV r.out.2.2, iV r.st, iV r.why, iV r.tr, iV r.nx, .string (St r.tag)], iV y, iV t] [] (fun v K => v = .tuple #[.agg #[iV r.out.1, iV r.out.2.1, uV r.out.2.2, iV 2, iV y, iV r.tr, iV t, .string (St r.tag)], iV 0] ∧ K = []) := by
 refine hiS Tryz.func52 Tryz.ntmps52 fun g w0 R h0 => go [] <| nP 82 [iV r.out.1, iV r.out.2.1, uV r.out.2.2, iV r.st, iV r.why, iV r.tr, iV r.nx, .string (St r.tag)] h0 (fun _ _ h12 => ?_)
 refine nP 82 [iV 0, iV 0, uV 0, iV 0, iV 0, iV 0, iV 0, .string (St [])] h12 (fun _ _ h15 => ?_)
 refine go [] <| dw (fls [0, 1] (Tr.an 2 (fls [3, 4] (Tr.an 5 (Tr.fl 6 (Tr.an 7 (Tr.fl 8 Tr.nil))))))) h15 fun _ h17 => go [rd 1 0 1 0 8 h17] <| cw0 Tryz.call122 (in_t y 1 3 (by omega)) h17 fun _ h19 => ⟨kd [rd 0 0 1 0 8 h19], ?_⟩
 refine go [] <| cw0 Tryz.call112 (time_t t (by omega)) h19 fun _ h21 => ⟨kd [rd 0 0 1 0 8 h21], ?_⟩
 refine go [] <| cw0 Tryz.call111 (rckd_ok r hres (by omega) (by omega) 1 (by omega)) h21 fun _ h23 => ⟨kd [], ?_⟩
 have h24 := tk3 (sf2 (sf1 (sf2 h23)))
 refine go [] <| sP [(3, iV 2)] [iV r.out.1, iV r.out.2.1, uV r.out.2.2, iV 2, iV r.why, iV r.tr, iV r.nx, .string (St r.tag)] h24 fun _ h26 => go [] <| sP [(4, iV y)] [iV r.out.1, iV r.out.2.1, uV r.out.2.2, iV 2, iV y, iV r.tr, iV r.nx, .string (St r.tag)] h26 fun _ h28 => go [] <| sP [(6, iV t)] [iV r.out.1, iV r.out.2.1, uV r.out.2.2, iV 2, iV y, iV r.tr, iV t, .string (St r.tag)] h28 fun _ h30 => ?_
 have h31 := tk3 (sf2 (sf1 (sf2 h30)))
 refine go [rd 5 0 0 0 8 h30] <| sP [(0, iV r.out.1), (1, iV r.out.2.1), (2, uV r.out.2.2), (3, iV 2), (4, iV y), (5, iV r.tr), (6, iV t), (7, .string (St r.tag))] [iV r.out.1, iV r.out.2.1, uV r.out.2.2, iV 2, iV y, iV r.tr, iV t, .string (St r.tag)] h31 fun _ h33 => go [] ?_
 exact en (.tuple #[.agg #[iV r.out.1, iV r.out.2.1, uV r.out.2.2, iV 2, iV y, iV r.tr, iV t, .string (St r.tag)], iV 0]) [rd 0 0 0 0 8 h33] ⟨_, _, rfl, ⟨rfl, rfl⟩, (tk1 (sf2 h33))⟩

theorem rclo_no (r : Rs) (hres : resR r = 0) (hz0 : 0 ≤ r.out.2.2) (hz1 : r.out.2.2 ≤ 4294967295) (y t : Int) (hy : 1 ≤ y ∧ y ≤ 3) (ht : 0 ≤ t ∧ t ≤ 1099511627776) (h : ¬ r.st = 1) : HT Tryz.prog 52 [.agg #[iV r.out.1, iV r.out.2.1, uV r.out.2.2, iV r.st, iV r.why, iV r.tr, iV r.nx, .string (St r.tag)], iV y, iV t] [] (fun v K => v = .tuple #[.agg #[iV 0, iV 0, uV 0, iV 0, iV 0, iV 0, iV 0, .string (St [])], iV 8] ∧ K = []) := by
 refine hiS Tryz.func52 Tryz.ntmps52 fun g w0 R h0 => go [] <| nP 82 [iV r.out.1, iV r.out.2.1, uV r.out.2.2, iV r.st, iV r.why, iV r.tr, iV r.nx, .string (St r.tag)] h0 (fun _ _ h12 => ?_)
 refine nP 82 [iV 0, iV 0, uV 0, iV 0, iV 0, iV 0, iV 0, .string (St [])] h12 (fun _ _ h15 => ?_)
 refine go [] <| dw (fls [0, 1] (Tr.an 2 (fls [3, 4] (Tr.an 5 (Tr.fl 6 (Tr.an 7 (Tr.fl 8 Tr.nil))))))) h15 fun _ h17 => go [rd 1 0 1 0 8 h17] <| cw0 Tryz.call122 (in_t y 1 3 (by omega)) h17 fun _ h19 => ⟨kd [rd 0 0 1 0 8 h19], ?_⟩
 refine go [] <| cw0 Tryz.call112 (time_t t (by omega)) h19 fun _ h21 => ⟨kd [rd 0 0 1 0 8 h21], ?_⟩
 refine go [] <| cw0 Tryz.call111 (rckd_st r hres (by omega) (by omega) 1 (by omega)) h21 fun _ h23 => ⟨kd [], ?_⟩
 refine go [] <| sP [(0, iV 0), (1, iV 0), (2, uV 0), (3, iV 0), (4, iV 0), (5, iV 0), (6, iV 0), (7, .string (St []))] [iV 0, iV 0, uV 0, iV 0, iV 0, iV 0, iV 0, .string (St [])] h23 fun _ h25 => go [] ?_
 exact en (.tuple #[.agg #[iV 0, iV 0, uV 0, iV 0, iV 0, iV 0, iV 0, .string (St [])], iV 8]) [rd 0 0 0 0 8 h25] ⟨_, _, rfl, ⟨rfl, rfl⟩, (tk1 (sf2 h25))⟩

theorem rdue_y (r : Rs) (hres : resR r = 0) (hz0 : 0 ≤ r.out.2.2) (hz1 : r.out.2.2 ≤ 4294967295) (t : Int) (ht : 0 ≤ t ∧ t ≤ 1099511627776) (hst : r.st = 2) (h : r.nx ≤ t) : HT Tryz.prog 46 [.agg #[iV r.out.1, iV r.out.2.1, uV r.out.2.2, iV r.st, iV r.why, iV r.tr, iV r.nx, .string (St r.tag)], iV t] [] (fun v K => v = .tuple #[.bool true, iV 0] ∧ K = []) := by
 refine hiS Tryz.func46 Tryz.ntmps46 fun g w0 R h0 => go [] <| nP 82 [iV r.out.1, iV r.out.2.1, uV r.out.2.2, iV r.st, iV r.why, iV r.tr, iV r.nx, .string (St r.tag)] h0 (fun _ _ h12 => ?_)
 refine go [] <| dw (fls [0, 1, 3, 4] (Tr.an 2 (Tr.an 5 (Tr.fl 6 Tr.nil)))) h12 fun _ h14 => go [rd 1 0 0 0 8 h14, rd 1 4 0 3 1 h14] <| cw0 Tryz.call112 (time_t t (by omega)) h14 fun _ h16 => ⟨kd [rd 0 4 0 3 1 h16, rd 0 0 0 0 8 h16], ?_⟩
 refine cw0 Tryz.call111 (rckd_ok r hres (by omega) (by omega) r.st (by omega)) h16 fun _ h18 => ⟨kd [], ?_⟩
 refine go [rd 4 1 0 3 1 h18, .v 4 2 (qeT r.st 2), rd 4 5 0 6 1 h18, .v 4 7 (oT (r.nx ≤ t))] ?_
 exact en (.tuple #[.bool true, iV 0]) [] ⟨_, _, rfl, ⟨rfl, rfl⟩, (tk1 (sf1 h18))⟩

theorem rdue_n (r : Rs) (hres : resR r = 0) (hz0 : 0 ≤ r.out.2.2) (hz1 : r.out.2.2 ≤ 4294967295) (t : Int) (ht : 0 ≤ t ∧ t ≤ 1099511627776) (hst : r.st = 2) (h : t < r.nx) : HT Tryz.prog 46 [.agg #[iV r.out.1, iV r.out.2.1, uV r.out.2.2, iV r.st, iV r.why, iV r.tr, iV r.nx, .string (St r.tag)], iV t] [] (fun v K => v = .tuple #[.bool false, iV 0] ∧ K = []) := by
 refine hiS Tryz.func46 Tryz.ntmps46 fun g w0 R h0 => go [] <| nP 82 [iV r.out.1, iV r.out.2.1, uV r.out.2.2, iV r.st, iV r.why, iV r.tr, iV r.nx, .string (St r.tag)] h0 (fun _ _ h12 => ?_)
 refine go [] <| dw (fls [0, 1, 3, 4] (Tr.an 2 (Tr.an 5 (Tr.fl 6 Tr.nil)))) h12 fun _ h14 => go [rd 1 0 0 0 8 h14, rd 1 4 0 3 1 h14] <| cw0 Tryz.call112 (time_t t (by omega)) h14 fun _ h16 => ⟨kd [rd 0 4 0 3 1 h16, rd 0 0 0 0 8 h16], ?_⟩
 refine cw0 Tryz.call111 (rckd_ok r hres (by omega) (by omega) r.st (by omega)) h16 fun _ h18 => ⟨kd [], ?_⟩
 refine go [rd 4 1 0 3 1 h18, .v 4 2 (qeT r.st 2), rd 4 5 0 6 1 h18, .v 4 7 (oF (r.nx ≤ t))] ?_
 exact en (.tuple #[.bool false, iV 0]) [] ⟨_, _, rfl, ⟨rfl, rfl⟩, (tk1 (sf1 h18))⟩

theorem rtri_ht (r : Rs) (hres : resR r = 0) (hz0 : 0 ≤ r.out.2.2) (hz1 : r.out.2.2 ≤ 4294967295) (x t wt : Int) (hx : 1 ≤ x ∧ x ≤ 3) (ht : 0 ≤ t ∧ t ≤ 1099511627776) (hw : 1 ≤ wt ∧ wt ≤ 1048576) (hst : r.st = 2) : HT Tryz.prog 120 [.agg #[iV r.out.1, iV r.out.2.1, uV r.out.2.2, iV r.st, iV r.why, iV r.tr, iV r.nx, .string (St r.tag)], iV x, iV t, iV wt] [] (fun v K => v = .tuple #[.agg #[iV ((triX r x t wt).out.1), iV ((triX r x t wt).out.2.1), uV ((triX r x t wt).out.2.2), iV ((triX r x t wt).st), iV ((triX r x t wt).why), iV ((triX r x t wt).tr), iV ((triX r x t wt).nx), .string (St ((triX r x t wt).tag))], iV ((triE r x t wt))] ∧ K = []) := by
 have hp_ := (res_ok hres).1; unfold posP at hp_; have hp0_ : 0 ≤ r.tr ∧ r.tr ≤ 10000 := by omega
 refine hiS Tryz.func120 Tryz.ntmps120 fun g w0 R h0 => go [] <| nP 82 [iV r.out.1, iV r.out.2.1, uV r.out.2.2, iV r.st, iV r.why, iV r.tr, iV r.nx, .string (St r.tag)] h0 (fun _ _ h12 => ?_)
 refine nP 82 [iV 0, iV 0, uV 0, iV 0, iV 0, iV 0, iV 0, .string (St [])] h12 (fun _ _ h15 => ?_)
 refine go [] <| dw (fls [0, 1] (Tr.an 2 (fls [3, 4] (Tr.an 5 (fls [6, 7, 8] (Tr.an 9 (Tr.fl 10 (Tr.an 11 (Tr.fl 12 Tr.nil))))))))) h15 fun _ h17 => go [rd 1 0 1 0 8 h17] <| cw0 Tryz.call122 (in_t x 1 3 (by omega)) h17 fun _ h19 => ⟨kd [rd 0 0 1 0 8 h19], ?_⟩
 refine go [] <| cw0 Tryz.call112 (time_t t (by omega)) h19 fun _ h21 => ⟨kd [rd 0 0 1 0 8 h21], ?_⟩
 refine go [] <| cw0 Tryz.call122 (in_t wt 1 1048576 (by omega)) h21 fun _ h23 => ⟨kd [rd 0 0 1 0 8 h23], ?_⟩
 refine go [] <| cw0 Tryz.call111 (rckd_ok r hres (by omega) (by omega) 2 (by omega)) h23 fun _ h25 => ⟨kd [], ?_⟩
 refine go [.s 8 0] ?_
 by_cases c26 : x = 1
 ·
  have h27 := tk3 (sf2 (sf1 (sf2 h25)))
  refine go [.v 8 0 (qeT x 1)] <| sP [(3, iV 3)] [iV r.out.1, iV r.out.2.1, uV r.out.2.2, iV 3, iV r.why, iV r.tr, iV r.nx, .string (St r.tag)] h27 fun _ h29 => go [] <| sP [(6, iV 0)] [iV r.out.1, iV r.out.2.1, uV r.out.2.2, iV 3, iV r.why, iV r.tr, iV 0, .string (St r.tag)] h29 fun _ h31 => ?_
  have h32 := tk3 (sf2 (sf1 (sf2 h31)))
  refine go [rd 12 0 0 0 8 h31] <| sP [(0, iV r.out.1), (1, iV r.out.2.1), (2, uV r.out.2.2), (3, iV 3), (4, iV r.why), (5, iV r.tr), (6, iV 0), (7, .string (St r.tag))] [iV r.out.1, iV r.out.2.1, uV r.out.2.2, iV 3, iV r.why, iV r.tr, iV 0, .string (St r.tag)] h32 fun _ h34 => go [] ?_
  exact en (.tuple #[.agg #[iV r.out.1, iV r.out.2.1, uV r.out.2.2, iV 3, iV r.why, iV r.tr, iV 0, .string (St r.tag)], iV 0]) [rd 0 0 0 0 8 h34] ⟨_, _, rfl, ⟨by have he_ : triE r x t wt = 0 := (if_neg (fun h_ => by omega)); unfold triX; rw [if_pos he_, he_]; unfold triR; rw [if_pos (by omega)], rfl⟩, (tk1 (sf2 h34))⟩
 refine go [.v 8 0 (qeF x 1), .s 10 0] ?_
 by_cases c36 : x = 3
 ·
  have h37 := tk3 (sf2 (sf1 (sf2 h25)))
  refine go [.v 10 0 (qeT x 3)] <| sP [(3, iV 4)] [iV r.out.1, iV r.out.2.1, uV r.out.2.2, iV 4, iV r.why, iV r.tr, iV r.nx, .string (St r.tag)] h37 fun _ h39 => go [] <| sP [(6, iV 0)] [iV r.out.1, iV r.out.2.1, uV r.out.2.2, iV 4, iV r.why, iV r.tr, iV 0, .string (St r.tag)] h39 fun _ h41 => ?_
  have h42 := tk3 (sf2 (sf1 (sf2 h41)))
  refine go [rd 12 0 0 0 8 h41] <| sP [(0, iV r.out.1), (1, iV r.out.2.1), (2, uV r.out.2.2), (3, iV 4), (4, iV r.why), (5, iV r.tr), (6, iV 0), (7, .string (St r.tag))] [iV r.out.1, iV r.out.2.1, uV r.out.2.2, iV 4, iV r.why, iV r.tr, iV 0, .string (St r.tag)] h42 fun _ h44 => go [] ?_
  exact en (.tuple #[.agg #[iV r.out.1, iV r.out.2.1, uV r.out.2.2, iV 4, iV r.why, iV r.tr, iV 0, .string (St r.tag)], iV 0]) [rd 0 0 0 0 8 h44] ⟨_, _, rfl, ⟨by have he_ : triE r x t wt = 0 := (if_neg (fun h_ => by omega)); unfold triX; rw [if_pos he_, he_]; unfold triR; rw [if_neg (by omega), if_pos (by omega)], rfl⟩, (tk1 (sf2 h44))⟩
 refine go [.v 10 0 (qeF x 3), .v 5 2 (oI (1099511627776 - wt) (-wt + 1099511627776)), .s 5 3] ?_
 by_cases c46 : t > -wt + 1099511627776
 ·
  refine go [.v 5 3 (oT (t > -wt + 1099511627776))] <| sP [(0, iV 0), (1, iV 0), (2, uV 0), (3, iV 0), (4, iV 0), (5, iV 0), (6, iV 0), (7, .string (St []))] [iV 0, iV 0, uV 0, iV 0, iV 0, iV 0, iV 0, .string (St [])] h25 fun _ h48 => go [] ?_
  exact en (.tuple #[.agg #[iV 0, iV 0, uV 0, iV 0, iV 0, iV 0, iV 0, .string (St [])], iV 17]) [rd 0 0 0 0 8 h48] ⟨_, _, rfl, ⟨by have he_ : triE r x t wt = 17 := (if_pos ⟨by omega, by omega⟩); unfold triX; rw [if_neg (by omega), he_]; rfl, rfl⟩, (tk1 (sf2 h48))⟩
 refine go [.v 5 3 (oF (t > -wt + 1099511627776)), rd 5 6 1 5 1 h25, .s 5 7] ?_
 by_cases c50 : r.tr ≥ 10000
 ·
  refine go [.v 5 7 (oT (r.tr ≥ 10000))] <| sP [(0, iV 0), (1, iV 0), (2, uV 0), (3, iV 0), (4, iV 0), (5, iV 0), (6, iV 0), (7, .string (St []))] [iV 0, iV 0, uV 0, iV 0, iV 0, iV 0, iV 0, .string (St [])] h25 fun _ h52 => go [] ?_
  exact en (.tuple #[.agg #[iV 0, iV 0, uV 0, iV 0, iV 0, iV 0, iV 0, .string (St [])], iV 17]) [rd 0 0 0 0 8 h52] ⟨_, _, rfl, ⟨by have he_ : triE r x t wt = 17 := (if_pos ⟨by omega, by omega⟩); unfold triX; rw [if_neg (by omega), he_]; rfl, rfl⟩, (tk1 (sf2 h52))⟩
 have h54 := tk3 (sf2 (sf1 (sf2 h25)))
 refine go [.v 5 7 (oF (r.tr ≥ 10000)), rd 7 1 1 5 1 h25, .v 7 2 (oIr (r.tr + 1)), .v 7 5 (oIr (t + wt))] <| sP [(5, iV (r.tr + 1))] [iV r.out.1, iV r.out.2.1, uV r.out.2.2, iV r.st, iV r.why, iV (r.tr + 1), iV r.nx, .string (St r.tag)] h54 fun _ h56 => go [] <| sP [(6, iV (t + wt))] [iV r.out.1, iV r.out.2.1, uV r.out.2.2, iV r.st, iV r.why, iV (r.tr + 1), iV (t + wt), .string (St r.tag)] h56 fun _ h58 => ?_
 have h59 := tk3 (sf2 (sf1 (sf2 h58)))
 refine go [rd 12 0 0 0 8 h58] <| sP [(0, iV r.out.1), (1, iV r.out.2.1), (2, uV r.out.2.2), (3, iV r.st), (4, iV r.why), (5, iV (r.tr + 1)), (6, iV (t + wt)), (7, .string (St r.tag))] [iV r.out.1, iV r.out.2.1, uV r.out.2.2, iV r.st, iV r.why, iV (r.tr + 1), iV (t + wt), .string (St r.tag)] h59 fun _ h61 => go [] ?_
 exact en (.tuple #[.agg #[iV r.out.1, iV r.out.2.1, uV r.out.2.2, iV r.st, iV r.why, iV (r.tr + 1), iV (t + wt), .string (St r.tag)], iV 0]) [rd 0 0 0 0 8 h61] ⟨_, _, rfl, ⟨by have he_ : triE r x t wt = 0 := (if_neg (fun h_ => by omega)); unfold triX; rw [if_pos he_, he_]; unfold triR; rw [if_neg (by omega), if_neg (by omega)], rfl⟩, (tk1 (sf2 h61))⟩

theorem there_w (b n : Nat) (S : Ts)  : HT Tryz.prog 43 [pV b] [TW b n S] (fun v K => v = .bool true ∧ K = [TW b n S]) := by
 refine hiS Tryz.func43 Tryz.ntmps43 fun g w0 R h0 => go [] <| cP Tryz.call103 (tcopy_w b n S) h0 ?_
 rintro v K _ (⟨b10, rfl, rfl⟩) h12
 have h13 := ap2 h12
 refine go [] ?_
 exact en (.bool true) [] ⟨_, _, rfl, ⟨rfl, rfl⟩, (tk2 (sf1 (sf2 h13)))⟩

theorem left_w (b n : Nat) (S : Ts)  : HT Tryz.prog 14 [pV b] [TW b n S] (fun v K => v = .tuple #[iV ((((nums S.R 2).length : Nat) : Int)), iV 0] ∧ K = [TW b n S]) := by
 refine hiS Tryz.func14 Tryz.ntmps14 fun g w0 R h0 => go [] <| cl1 Tryz.call43 (there_w b n S) h0 fun _ h11 => go [] <| cP Tryz.call51 (tnums_w b n S 2) h11 ?_
 rintro v K _ (⟨p12, c13, rfl, rfl⟩) h15
 have h16 := ap2 h15
 refine go [] ?_
 exact en (.tuple #[iV ((((nums S.R 2).length : Nat) : Int)), iV 0]) [] ⟨_, _, rfl, ⟨rfl, rfl⟩, (tk2 (sf1 (sf2 h16)))⟩

theorem wake_w (b n : Nat) (S : Ts)  : HT Tryz.prog 13 [pV b] [TW b n S] (fun v K => v = .tuple #[iV (((srtB S)[0]?.map (nxR S)).getD 0), .bool (decide (0 < (srtB S).length)), iV 0] ∧ K = [TW b n S]) := by
 refine hiS Tryz.func13 Tryz.ntmps13 fun g w0 R h0 => ?_
 have hW_ := (wi_out h0).1; have hrl_ := hW_.rl; have hsl_ : (srtB S).length ≤ S.R.length := by rw [srtB_len]; exact nums_le S.R 2
 refine go [] <| cl1 Tryz.call43 (there_w b n S) h0 fun _ h11 => go [] <| cP Tryz.call44 (closing_w b n S) h11 ?_
 rintro v K _ (⟨p12, c13, rfl, rfl⟩) h15
 have h16 := ap2 h15
 refine go [.s 4 2] ?_
 by_cases c17 : (((srtB S).length : Nat) : Int) = 0
 ·
  refine go [.v 4 2 (qeT ((((srtB S).length : Nat) : Int)) 0)] ?_
  exact en (.tuple #[iV 0, .bool false, iV 0]) [] ⟨_, _, rfl, ⟨by rw [decide_eq_false (by omega), List.getElem?_eq_none (by omega)]; rfl, rfl⟩, (tk2 (sf1 (sf2 h16)))⟩
 obtain ⟨b19, hp20⟩ := sl_ptr0 (j := 1) h16 rfl (by omega)
 refine go [.v 4 2 (qeF ((((srtB S).length : Nat) : Int)) 0), .s 6 2] <| lwP (pV b19) (law_indexSlP (x := (Operand.tmp 18)) (i := (Operand.const (iV 0))) (p := p12) (b := b19) (off := 0) (z := 0) (len := (((srtB S).length))) (cap := c13) (by kernel_rfl) Tryz.underlying37 1 (by kernel_rfl) 0 (by kernel_rfl) hp20 (by kernel_rfl) (by omega) (by omega) 0 (by omega) _) ?_
 have h21 := tk3 (sf2 (sf1 (sf2 h16)))
 have hl22 := fl_n eI_ok (by decide) h21
 obtain ⟨x23, hx24⟩ : ∃ x, (srtB S)[0]? = some x := ⟨_, List.getElem?_eq_getElem (by rw [hl22]; omega)⟩
 have hm25 := mem_srt.1 (List.mem_of_getElem? hx24); have hm25g := wf_get hW_ hm25.1; have hm25a := hm25.2; have hm25b := hm25g.2.1; have hm25c := hm25g.2.2.1
 have hm25d := hm25.1
 have h26 := tk3 (sf2 (sf1 (sf2 h21)))
 refine go [.r 6 3 b19 0 [iV x23] ⟨gv_cell (j := 0) h21 rfl (gv_sl _ _ _) hp20 (fl_get eI_ok (j := 0) (v := iV x23) hx24 rfl) 0 (by omega), trivial⟩] <| cl1 Tryz.call45 (tget_w b n S x23) h26 fun _ h28 => go [] <| nP 82 [iV 0, iV 0, uV 0, iV 0, iV 0, iV 0, iV 0, .string (St [])] h28 (fun _ _ h31 => ?_)
 refine sP [(0, iV ((getR S x23).out.1)), (1, iV ((getR S x23).out.2.1)), (2, uV ((getR S x23).out.2.2)), (3, iV ((getR S x23).st)), (4, iV ((getR S x23).why)), (5, iV ((getR S x23).tr)), (6, iV ((getR S x23).nx)), (7, .string (St ((getR S x23).tag)))] [iV ((getR S x23).out.1), iV ((getR S x23).out.2.1), uV ((getR S x23).out.2.2), iV ((getR S x23).st), iV ((getR S x23).why), iV ((getR S x23).tr), iV ((getR S x23).nx), .string (St ((getR S x23).tag))] h31 fun _ h33 => go [rd 7 1 0 6 1 h33, .v 7 3 (qeT ((nE S x23)) 0)] ?_
 exact en (.tuple #[iV ((getR S x23).nx), .bool true, iV ((nE S x23))]) [] ⟨_, _, rfl, ⟨by rw [decide_eq_true (by omega), hx24, hm25.1]; rfl, rfl⟩, (tk2 (sf1 (sf3 (tk4 (sf3 (sf2 (sf3 (sf3 h33))))))))⟩

end Go.Proofs.YtehlamblpekmkaaGreatDoor

/- Walks, printed by my generator q5.py. -/
namespace Go.Proofs.YtehlamblpekmkaaGreatDoor
set_option maxHeartbeats 4000000
theorem due_w (b n : Nat) (S : Ts) (t mo : Int) (h : 0 ≤ t ∧ t ≤ 1099511627776 ∧ 0 ≤ mo) : HT Tryz.prog 11 [pV b, iV t, iV mo] [TW b n S] (fun v K => ∃ (p : Option Addr) (c : Nat), v = .tuple #[.slice p (((dueB S t mo).length)) c, iV 0] ∧ K = [TW b n S, Sl 3 1 p (((dueB S t mo).length)) c (fl eI (dueB S t mo))]) := by
 refine hiS Tryz.func11 Tryz.ntmps11 fun g w0 R h0 => ?_
 have hW_ := (wi_out h0).1; have hrl_ := hW_.rl; have hsl_ : (srtB S).length ≤ S.R.length := by rw [srtB_len]; exact nums_le S.R 2
 refine go [] <| cl1 Tryz.call43 (there_w b n S) h0 fun _ h11 => go [.v 3 1 (oF (t < 0)), .v 3 4 (oF (t > 1099511627776)), .v 3 8 (oF (mo < 0))] <| cP Tryz.call44 (closing_w b n S) h11 ?_
 rintro v K w14 (⟨p12, c13, rfl, rfl⟩) h15
 have h16 := ap2 h15
 refine go [] ?_
 have h17 := tk3 (sf2 (sf1 (sf2 h16)))
 have hl18 := fl_n eI_ok (by decide) h17
 have h19 : sat g w14 [Sl 3 1 none 0 0 (fl eI []), Sl 3 1 p12 (((srtB S).length)) c13 (fl eI (srtB S)), TW b n S, R] := sl_nil 3 1 h17
 have h20 : sat g w14 [Sl 3 1 none 0 0 (fl eI ((srtB S).take 0)), Sl 3 1 p12 (((srtB S).length)) c13 (fl eI (srtB S)), TW b n S, R] := sat_imp h19 (fun _ hh_ => by rw [show ([] : List Int) = ((srtB S).take 0) from (by simp)] at hh_; exact hh_)
 refine lpS (fun mz_ a w => ∃ i : Nat, ∃ p2 : Option Addr, ∃ c2 : Nat, ∃ lr : Fr, mz_ = ((srtB S).length) - i ∧ (i ≤ (srtB S).length) ∧ (∀ (j : Nat) (n_ : Int), j < i → (srtB S)[j]? = some n_ → nxR S n_ ≤ t) ∧ ((i : Int) ≤ mo) ∧ a = mk 67 (([(0, pV b), (1, iV t), (2, iV mo), (8, .slice p2 i c2), (31, .slice p12 (((srtB S).length)) c13), (32, iV ((((srtB S).length : Nat) : Int))), (33, iV (i : Int))] : Fr) ++ lr) ∧ sat g w [Sl 3 1 p2 i c2 (fl eI ((srtB S).take i)), TW b n S, Sl 3 1 p12 (((srtB S).length)) c13 (fl eI (srtB S)), R]) ((srtB S).length - 0) ⟨0, none, 0, _, rfl, (Nat.zero_le _), (fun j_ n_ hj_ => absurd hj_ (Nat.not_lt_zero _)), (by omega), (lvF [.k 0 (pV b), .k 1 (iV t), .k 2 (iV mo), .k 8 (.slice none 0 0), .k 31 (.slice p12 (((srtB S).length)) c13), .k 32 (iV ((((srtB S).length : Nat) : Int))), .o 33 (oJ .i64 0 (0 : Int))]), (tk4 (sf3 (sf3 (sf2 (sf3 h20)))))⟩ ?_
 rintro m23 a24 w25 ⟨i, p2, c2, lr22, rfl, hi_, hall_, him_, rfl, h26⟩
 refine ga <| go [.s 7 0] ?_
 by_cases c27 : (i : Int) < (((srtB S).length : Nat) : Int)
 ·
  obtain ⟨b28, hp29⟩ := sl_ptr0 (j := 2) h26 rfl (by omega)
  refine go [.v 7 0 (oT ((i : Int) < (((srtB S).length : Nat) : Int))), .s 8 0] <| lwP (.pointer (some ⟨b28, i, none⟩)) (law_indexSlP (x := (Operand.tmp 31)) (i := (Operand.tmp 33)) (p := p12) (b := b28) (off := 0) (z := (i : Int)) (len := (((srtB S).length))) (cap := c13) (by kernel_rfl) Tryz.underlying37 1 (by kernel_rfl) i (by kernel_rfl) hp29 (by kernel_rfl) (by omega) (by omega) i (by omega) _) ?_
  obtain ⟨x30, hx31⟩ : ∃ x, (srtB S)[i]? = some x := ⟨_, List.getElem?_eq_getElem (by rw [hl18]; omega)⟩
  have hm32 := mem_srt.1 (List.mem_of_getElem? hx31); have hm32g := wf_get hW_ hm32.1; have hm32a := hm32.2; have hm32b := hm32g.2.1; have hm32c := hm32g.2.2.1
  have hm32d := hm32.1
  have h33 := tk4 (sf3 (sf2 (sf3 (sf3 h26))))
  refine go [.r 8 1 b28 i [iV x30] ⟨gv_cell (j := 2) h26 rfl (gv_sl _ _ _) hp29 (fl_get eI_ok (j := 0) (v := iV x30) hx31 rfl) i (by omega), trivial⟩] <| cl1 Tryz.call45 (tget_w b n S x30) h33 fun _ h35 => go [] <| nP 82 [iV 0, iV 0, uV 0, iV 0, iV 0, iV 0, iV 0, .string (St [])] h35 (fun r36 _ h38 => ?_)
  refine sP [(0, iV ((getR S x30).out.1)), (1, iV ((getR S x30).out.2.1)), (2, uV ((getR S x30).out.2.2)), (3, iV ((getR S x30).st)), (4, iV ((getR S x30).why)), (5, iV ((getR S x30).tr)), (6, iV ((getR S x30).nx)), (7, .string (St ((getR S x30).tag)))] [iV ((getR S x30).out.1), iV ((getR S x30).out.2.1), uV ((getR S x30).out.2.2), iV ((getR S x30).st), iV ((getR S x30).why), iV ((getR S x30).tr), iV ((getR S x30).nx), .string (St ((getR S x30).tag))] h38 fun _ h40 => go [rd 10 0 0 0 8 h40] ?_
  by_cases c41 : (getR S x30).nx ≤ t
  ·
   refine cl0 Tryz.call46 (rdue_y (getR S x30) hm32g.1 (by omega) (by omega) t (by omega) (by omega) (by omega)) h40 fun w42 h43 => go [.s 11 10] ?_
   by_cases c44 : (i : Int) = mo
   ·
    refine go [.v 11 10 (qeT (i : Int) mo)] <| up <| go [] ?_
    have hd_ : dueB S t mo = (srtB S).take i := due_stop hall_ hi_ him_ (by first | exact .inr (by omega) | exact .inl (fun n_ hn_ => by rw [List.getElem?_eq_none (by omega)] at hn_; cases hn_) | exact .inl (fun n_ hn_ => by rw [hx31] at hn_; obtain rfl := Option.some.inj hn_; unfold nxR; omega))
    have hdl_ : (dueB S t mo).length = i := by rw [hd_, List.length_take]; omega
    have h46 : sat g w42 [Sl 3 1 p2 (((dueB S t mo).length)) c2 (fl eI (dueB S t mo)), Cl r36 [iV ((getR S x30).out.1), iV ((getR S x30).out.2.1), uV ((getR S x30).out.2.2), iV ((getR S x30).st), iV ((getR S x30).why), iV ((getR S x30).tr), iV ((getR S x30).nx), .string (St ((getR S x30).tag))] 82, TW b n S, Sl 3 1 p12 (((srtB S).length)) c13 (fl eI (srtB S)), R] := sat_imp (tk5 (sf4 (sf3 (sf3 (sf4 (sf4 h43)))))) (fun _ hh_ => by rw [hdl_, hd_]; exact hh_)
    exact en (.tuple #[.slice p2 i c2, iV 0]) [] ⟨_, _, rfl, ⟨p2, c2, by rw [hdl_], rfl⟩, (tk3 (sf2 (sf2 (sf4 (tk5 (sf4 (sf3 (sf3 (sf4 (sf4 h46))))))))))⟩
   refine go [.v 11 10 (qeF (i : Int) mo)] <| nG (fun q_ => .slice (some ⟨q_, 0, none⟩) 1 1) 3 [iV x30] h43 (fun r49 _ h51 => ⟨kd [], ?_⟩)
   have h52 := tk6 (sf5 (sf4 (sf4 (sf4 (sf5 (sf5 h51))))))
   refine actG ?_
   refine an_append (d := 64) (sz := 1) (s := (Operand.tmp 61)) (x := (Operand.tmp 63)) (z := iV 0) (p := p2) (m := i) (c := c2) (k := 1) (c2 := 1) (a := ⟨r49, 0, none⟩) (by_ := 8) (by kernel_rfl) (by kernel_rfl) rfl Tryz.underlying37 (by kernel_rfl) rfl (by decide) (by kernel_rfl) (by kernel_rfl) h52 (fl eI [x30]) rfl (fun j u hj => by rw [add_off]; exact sat_cell h52 1 rfl (by rw [Nat.zero_add]; exact hj)) (fl_one eI_ok _) (by omega) (by omega) (i + 1) (by omega) ?_
   intro p53 cap54 w55 h56
   have h57 : sat g w55 [Sl 3 1 p53 (i + 1) cap54 (fl eI (((srtB S).take i) ++ [x30])), Cl r49 [iV x30] 3, Cl r36 [iV ((getR S x30).out.1), iV ((getR S x30).out.2.1), uV ((getR S x30).out.2.2), iV ((getR S x30).st), iV ((getR S x30).why), iV ((getR S x30).tr), iV ((getR S x30).nx), .string (St ((getR S x30).tag))] 82, TW b n S, Sl 3 1 p12 (((srtB S).length)) c13 (fl eI (srtB S)), R] := sat_imp h56 (fun _ hh => by rw [fl_app]; exact hh)
   obtain ⟨hn58, hn59⟩ := sl_le h57
   refine nxA <| go [.v 13 0 (oIr ((i : Int) + 1))] ?_
   refine enL ?_
   have h60 : sat g w55 [Sl 3 1 p53 (i + 1) cap54 (fl eI ((srtB S).take (i + 1))), Cl r49 [iV x30] 3, Cl r36 [iV ((getR S x30).out.1), iV ((getR S x30).out.2.1), uV ((getR S x30).out.2.2), iV ((getR S x30).st), iV ((getR S x30).why), iV ((getR S x30).tr), iV ((getR S x30).nx), .string (St ((getR S x30).tag))] 82, TW b n S, Sl 3 1 p12 (((srtB S).length)) c13 (fl eI (srtB S)), R] := sat_imp h57 (fun _ hh_ => by rw [show ((((srtB S).take i) ++ [x30]) : List Int) = ((srtB S).take (i + 1)) from takeB_go hx31] at hh_; exact hh_)
   have h62 := tk4 (tk6 (sf5 (sf5 (sf5 (sf5 (sf2 (sf2 h60)))))))
   change ∃ n', n' < _ ∧ _
   refine ⟨((srtB S).length - (i + 1)), by omega, (i + 1), p53, cap54, _, rfl, (by omega), (fun j_ n_ hj_ hn_ => (Nat.lt_succ_iff_lt_or_eq.1 hj_).elim (fun h_ => hall_ j_ n_ h_ hn_) (fun h_ => by rw [h_, hx31] at hn_; obtain rfl := Option.some.inj hn_; unfold nxR; omega)), (by omega), (lvF [.k 0 (pV b), .k 1 (iV t), .k 2 (iV mo), .k 8 (.slice p53 (i + 1) cap54), .k 31 (.slice p12 (((srtB S).length)) c13), .k 32 (iV ((((srtB S).length : Nat) : Int))), .o 33 (oJ .i64 ((i : Int) + 1) ((((i + 1) : Nat) : Int)))]), h62⟩
  refine cl0 Tryz.call46 (rdue_n (getR S x30) hm32g.1 (by omega) (by omega) t (by omega) (by omega) (by omega)) h40 fun w63 h64 => go [] <| up <| go [] ?_
  have hd_ : dueB S t mo = (srtB S).take i := due_stop hall_ hi_ him_ (by first | exact .inr (by omega) | exact .inl (fun n_ hn_ => by rw [List.getElem?_eq_none (by omega)] at hn_; cases hn_) | exact .inl (fun n_ hn_ => by rw [hx31] at hn_; obtain rfl := Option.some.inj hn_; unfold nxR; omega))
  have hdl_ : (dueB S t mo).length = i := by rw [hd_, List.length_take]; omega
  have h66 : sat g w63 [Sl 3 1 p2 (((dueB S t mo).length)) c2 (fl eI (dueB S t mo)), Cl r36 [iV ((getR S x30).out.1), iV ((getR S x30).out.2.1), uV ((getR S x30).out.2.2), iV ((getR S x30).st), iV ((getR S x30).why), iV ((getR S x30).tr), iV ((getR S x30).nx), .string (St ((getR S x30).tag))] 82, TW b n S, Sl 3 1 p12 (((srtB S).length)) c13 (fl eI (srtB S)), R] := sat_imp (tk5 (sf4 (sf3 (sf3 (sf4 (sf4 h64)))))) (fun _ hh_ => by rw [hdl_, hd_]; exact hh_)
  exact en (.tuple #[.slice p2 i c2, iV 0]) [] ⟨_, _, rfl, ⟨p2, c2, by rw [hdl_], rfl⟩, (tk3 (sf2 (sf2 (sf4 (tk5 (sf4 (sf3 (sf3 (sf4 (sf4 h66))))))))))⟩
 refine go [.v 7 0 (oF ((i : Int) < (((srtB S).length : Nat) : Int)))] <| up <| go [] ?_
 have hd_ : dueB S t mo = (srtB S).take i := due_stop hall_ hi_ him_ (by first | exact .inr (by omega) | exact .inl (fun n_ hn_ => by rw [List.getElem?_eq_none (by omega)] at hn_; cases hn_))
 have hdl_ : (dueB S t mo).length = i := by rw [hd_, List.length_take]; omega
 have h69 : sat g w25 [Sl 3 1 p2 (((dueB S t mo).length)) c2 (fl eI (dueB S t mo)), TW b n S, Sl 3 1 p12 (((srtB S).length)) c13 (fl eI (srtB S)), R] := sat_imp h26 (fun _ hh_ => by rw [hdl_, hd_]; exact hh_)
 exact en (.tuple #[.slice p2 i c2, iV 0]) [] ⟨_, _, rfl, ⟨p2, c2, by rw [hdl_], rfl⟩, (tk3 (sf2 (sf2 (sf3 (tk4 (sf3 (sf2 (sf3 (sf3 h69)))))))))⟩

end Go.Proofs.YtehlamblpekmkaaGreatDoor

/- Walks, printed by my generator q6.py. -/
namespace Go.Proofs.YtehlamblpekmkaaGreatDoor
set_option maxHeartbeats 4000000
theorem tw_ok {g w : World} {L : List Assn} {b n : Nat} {S : Ts} {j : Nat} (h : sat g w L) (hj : L[j]? = some (TW b n S)) : Wf n S := sat_use h hj fun _ ha _ => ha.1
def AtB (c1 c2 c3 c4 b n wb : Nat) (p : Option Addr) (cc : Nat) (l : List Int) (S : Ts) (W : Wst) (x0 x1 x2 x3 x4 x5 bt ba cp x9 : Int) (i : Nat) : Assn := star [Cl c1 [Value.pointer (some ⟨wb, 0, none⟩)] 26, Cl c2 [Value.slice p l.length cc] 37, Cl c3 [Value.pointer (some ⟨b, 0, none⟩)] 25, Cl c4 [Value.int IntKind.i64 x0, Value.int IntKind.i64 x1, Value.int IntKind.i64 x2, Value.int IntKind.i64 x3, Value.int IntKind.i64 x4, Value.int IntKind.i64 x5, Value.int IntKind.i64 bt, Value.int IntKind.i64 ba, Value.int IntKind.i64 cp, Value.int IntKind.u32 x9] 24, TW b n ((stB (⟨bt, ba, cp⟩ : Cf) W.now (S, W) l i).1), Wd wb ((stB (⟨bt, ba, cp⟩ : Cf) W.now (S, W) l i).2), Sl 3 1 p l.length cc (fl eI l)]
abbrev z6x1 := fun r50 r_ a_ (W : Wst) q40 (ba : Int) (cp : Int) => Cl r50 [Value.int IntKind.i64 ((triX r_ a_ W.now ((wtB q40 ba cp))).out.1), Value.int IntKind.i64 ((triX r_ a_ W.now ((wtB q40 ba cp))).out.2.1), Value.int IntKind.u32 ((triX r_ a_ W.now ((wtB q40 ba cp))).out.2.2), Value.int IntKind.i64 ((triX r_ a_ W.now ((wtB q40 ba cp))).st), Value.int IntKind.i64 ((triX r_ a_ W.now ((wtB q40 ba cp))).why), Value.int IntKind.i64 ((triX r_ a_ W.now ((wtB q40 ba cp))).tr), Value.int IntKind.i64 ((triX r_ a_ W.now ((wtB q40 ba cp))).nx), Value.string (St ((triX r_ a_ W.now ((wtB q40 ba cp))).tag))] 82
abbrev z6x2 := fun r50 r_ a_ (W : Wst) q40 (ba : Int) (cp : Int) => Cl r50 [iV ((triX r_ a_ W.now ((wtB q40 ba cp))).out.1), iV ((triX r_ a_ W.now ((wtB q40 ba cp))).out.2.1), uV ((triX r_ a_ W.now ((wtB q40 ba cp))).out.2.2), iV ((triX r_ a_ W.now ((wtB q40 ba cp))).st), iV ((triX r_ a_ W.now ((wtB q40 ba cp))).why), iV ((triX r_ a_ W.now ((wtB q40 ba cp))).tr), iV ((triX r_ a_ W.now ((wtB q40 ba cp))).nx), .string (St ((triX r_ a_ W.now ((wtB q40 ba cp))).tag))] 82
abbrev z6x3 := fun (c4 : Nat) (x0 : Int) (x1 : Int) (x2 : Int) (x3 : Int) (x4 : Int) (x5 : Int) (bt : Int) (ba : Int) (cp : Int) (x9 : Int) => Cl c4 [iV x0, iV x1, iV x2, iV x3, iV x4, iV x5, iV bt, iV ba, iV cp, uV x9] 24
abbrev z6x4 := fun (c2 : Nat) (p : Option Addr) (l : List Int) (cc : Nat) => Cl c2 [.slice p l.length cc] 37
abbrev z6x5 := fun (p : Option Addr) (l : List Int) (cc : Nat) => Sl 3 1 p l.length cc (fl eI l)
theorem att_it (c1 c2 c3 c4 b n wb : Nat) (p : Option Addr) (cc : Nat) (l : List Int) (S : Ts) (W : Wst) (x0 x1 x2 x3 x4 x5 bt ba cp x9 : Int) (hb : 1 ≤ ba ∧ ba ≤ cp ∧ cp ≤ 1048576) (hrun : RunOk (⟨bt, ba, cp⟩ : Cf) W.now (S, W) l) (hll : l.length ≤ 2000) : ITA Tryz.prog 118 [Value.pointer (some ⟨c1, 0, none⟩), Value.pointer (some ⟨c2, 0, none⟩), Value.pointer (some ⟨c3, 0, none⟩), Value.pointer (some ⟨c4, 0, none⟩)] l.length ((fun i : Nat => [vAt ((atsB (⟨bt, ba, cp⟩ : Cf) W.now (S, W) l).getD i at0)])) (AtB c1 c2 c3 c4 b n wb p cc l S W x0 x1 x2 x3 x4 x5 bt ba cp x9) := by
 refine it_inA 79 (fun k_ => ([(0, .func (Fn.yield k_) #[] #[]), (1, pV c1), (2, pV c2), (3, pV c3), (4, pV c4)] : Fr)) Tryz.func118 (by kernel_rfl) Tryz.ntmps118 rfl (fun _ => rfl) ?_
 intro g w0 R k_ J_ E_ hY h0
 have h1 : sat g w0 [Cl c1 [pV wb] 26, z6x4 c2 p l cc, Cl c3 [pV b] 25, z6x3 c4 x0 x1 x2 x3 x4 x5 bt ba cp x9, TW b n S, Wd wb W, z6x5 p l cc, J_ 0, R] := sat_unstar (sat_sw h0)
 change WP _ _ (CA Tryz.f118 []) _ (mk 79 (([(0, .func (Fn.yield k_) #[] #[]), (1, pV c1), (2, pV c2), (3, pV c3), (4, pV c4)] : Fr))) _
 refine ySq ?_
 refine yPl [0, 1, 2] ?_
 refine yBb [1, 2] [(17, pV wb)] [e2 0 [pV wb]] [(0, ⟨c1, 0, none⟩, pV wb)] [] trivial (kC (sat_cell h1 0 rfl rfl) nC) ?_
 have h2 := tk9 (sf8 (sf7 (sf7 (sf7 (sf7 (sf7 (sf8 (sf8 (sf8 h1)))))))))
 refine yA ?_
 refine yCl 18 Tryz.call38 (wnow_ht wb W) h2 ?_
 rintro v K w3 (⟨rfl, rfl⟩) h4
 refine ⟨_, rfl, ?_⟩
 have h5 := ap1 h4
 refine yB0 [] [2] [(6, iV W.now)] (.mk ?_)
 refine yK [(0, .func (Fn.yield k_) #[] #[]), (1, pV c1), (2, pV c2), (3, pV c3), (4, pV c4), (6, iV W.now)] fun lr6 => ?_
 refine ySq ?_
 refine yPl [0, 1, 2] ?_
 refine yBb [] [(21, iV 0), (20, iV (((l.length : Nat) : Int))), (19, .slice p l.length cc)] [e2 0 [.slice p l.length cc], e0 1, e0 2] [(0, ⟨c2, 0, none⟩, .slice p l.length cc)] [] trivial (kC (sat_cell h5 2 rfl rfl) nC) (.mk ?_)
 refine yK [(0, .func (Fn.yield k_) #[] #[]), (1, pV c1), (3, pV c3), (4, pV c4), (6, iV W.now), (19, .slice p l.length cc), (20, iV (((l.length : Nat) : Int))), (21, iV 0)] fun lr7 => ?_
 refine yBk 0 ?_
 have h8 := tk9 (sf8 (sf7 (sf7 (sf7 (sf7 (sf7 (sf2 (sf7 (sf8 h5)))))))))
 refine gi_lp (x := CA Tryz.f118 [1, 1, 0, 0]) (by kernel_rfl) (fun mz_ a w => ∃ i : Nat, ∃ Y : Pw, ∃ lr : Fr, mz_ = l.length - i ∧ ((stB (⟨bt, ba, cp⟩ : Cf) W.now (S, W) l i) = Y) ∧ (i ≤ l.length) ∧ a = mk 79 (([(0, .func (Fn.yield k_) #[] #[]), (1, pV c1), (3, pV c3), (4, pV c4), (6, iV W.now), (19, .slice p l.length cc), (20, iV (((l.length : Nat) : Int))), (21, iV (i : Int))] : Fr) ++ lr) ∧ sat g w [J_ i, Cl c1 [pV wb] 26, z6x4 c2 p l cc, Cl c3 [pV b] 25, z6x3 c4 x0 x1 x2 x3 x4 x5 bt ba cp x9, TW b n Y.1, Wd wb Y.2, z6x5 p l cc, R]) (l.length - 0) ⟨0, (S, W), _, rfl, rfl, (Nat.zero_le _), (mk_live [(0, .func (Fn.yield k_) #[] #[]), (1, pV c1), (3, pV c3), (4, pV c4), (6, iV W.now), (19, .slice p l.length cc), (20, iV (((l.length : Nat) : Int))), (21, iV (0 : Int))] ⟨rfl, rfl, rfl, rfl, rfl, rfl, rfl, (ov_int (by omega)), trivial⟩), h8⟩ ?_
 rintro m10 a11 w12 ⟨i, Y, lr9, rfl, hY_, hi_, rfl, h13⟩
 refine ySq ?_
 refine yPl [0] ?_
 by_cases c14 : (i : Int) < ((l.length : Nat) : Int)
 ·
  refine yBb [] [(22, .bool true)] [e1 0 (.bool true)] [] [(.bool (decide ((i : Int) < ((l.length : Nat) : Int))), .bool true)] ⟨(ov_t (by omega)), trivial⟩ nC (.mk ?_)
  refine yK [(0, .func (Fn.yield k_) #[] #[]), (1, pV c1), (3, pV c3), (4, pV c4), (6, iV W.now), (19, .slice p l.length cc), (20, iV (((l.length : Nat) : Int))), (21, iV (i : Int)), (22, .bool true)] fun lr15 => ?_
  refine ySq ?_
  refine yCt ?_
  refine ySk ?_
  refine ySq ?_
  refine yBk 1 ?_
  refine ySq ?_
  refine yPl [0, 1, 2] ?_
  obtain ⟨b16, hp17⟩ := sl_ptr0 (j := 7) h13 rfl (by omega)
  refine plain_law (i := 0) 23 (.pointer (some ⟨b16, i, none⟩)) (by kernel_rfl) (law_indexSlP (o := opA (RA Tryz.f118 [1, 1, 0, 0, 1, 1, 0, 0, 0]) 0) (x := (Operand.tmp 19)) (i := (Operand.tmp 21)) (p := p) (b := b16) (off := 0) (z := (i : Int)) (len := l.length) (cap := cc) (by kernel_rfl) Tryz.underlying37 1 (by kernel_rfl) i (by kernel_rfl) hp17 (by kernel_rfl) (by omega) (by omega) i (by omega) _) ?_
  have h18 := tk9 (sf8 (sf7 (sf7 (sf7 (sf7 (sf7 (sf7 (sf7 (sf8 h13)))))))))
  have hl19 := fl_n eI_ok (by decide) h18
  obtain ⟨x20, hx21⟩ : ∃ x, l[i]? = some x := ⟨_, List.getElem?_eq_getElem (by rw [hl19]; omega)⟩
  have hq22 := hrun i x20 hx21; rw [hY_] at hq22; have hq22w := wf_get (tw_ok (j := 6) h18 rfl) hq22.1; have hq22k := wd_ok (j := 7) h18 rfl; have hq22r := relA_bd hq22k hq22.2.2
  obtain ⟨r_, hr_⟩ : ∃ r, getR Y.1 x20 = r := ⟨_, rfl⟩
  rw [hr_] at hq22 hq22w hq22r
  obtain ⟨a_, ha_⟩ : ∃ a, relA Y.2 r_.out r_.why = a := ⟨_, rfl⟩
  rw [ha_] at hq22r
  have hq22a := hq22.2.1; have hq22b := hq22w.2.1; have hq22c := hq22w.2.2.1; have hq22p := (res_ok hq22w.1).1; unfold posP at hq22p
  have hq22f : 0 ≤ r_.tr ∧ r_.tr ≤ 10000 := (by omega); have hq22n : Y.2.now = W.now := (by rw [← hY_]; exact stB_now); have hq22l := hq22k.nl; have hq22h := hq22k.nh; rw [hq22n] at hq22l hq22h
  refine yBb [] [(8, iV x20), (24, iV x20)] [e2 1 [iV x20], e0 2] [(1, ⟨b16, i, none⟩, iV x20)] [] trivial (kC (gv_cell (j := 0) h18 rfl (gv_sl _ _ _) hp17 (fl_get eI_ok (j := 0) (v := iV x20) hx21 rfl) i (by omega)) nC) (.mk ?_)
  refine yK [(0, .func (Fn.yield k_) #[] #[]), (1, pV c1), (3, pV c3), (4, pV c4), (6, iV W.now), (8, iV x20), (19, .slice p l.length cc), (20, iV (((l.length : Nat) : Int))), (21, iV (i : Int))] fun lr23 => ?_
  refine ySq ?_
  refine yPl [0, 1, 2, 3, 4, 5, 6, 7, 8] ?_
  refine yBb [2, 3, 4, 5, 6, 7, 8] [(27, iV x20), (26, pV b)] [e2 0 [pV b], e0 1] [(0, ⟨c3, 0, none⟩, pV b)] [] trivial (kC (sat_cell h18 4 rfl rfl) nC) ?_
  have h24 := tk9 (sf8 (sf7 (sf7 (sf7 (sf7 (sf7 (sf7 (sf8 (sf8 h18)))))))))
  refine yA ?_
  refine yCl 28 Tryz.call45 ((by have h_ := tget_w b n Y.1 x20; rw [hr_, hq22.1] at h_; exact h_)) h24 ?_
  rintro v K w25 (⟨rfl, rfl⟩) h26
  refine ⟨_, rfl, ?_⟩
  have h27 := ap1 h26
  refine yB0 [6, 7, 8] [3, 4, 5] [(30, iV 0), (29, .agg #[iV r_.out.1, iV r_.out.2.1, uV r_.out.2.2, iV r_.st, iV r_.why, iV r_.tr, iV r_.nx, .string (St r_.tag)]), (25, .tuple #[.agg #[iV r_.out.1, iV r_.out.2.1, uV r_.out.2.2, iV r_.st, iV r_.why, iV r_.tr, iV r_.nx, .string (St r_.tag)], iV 0])] ?_
  refine yA ?_
  refine yNp 9 82 [iV 0, iV 0, uV 0, iV 0, iV 0, iV 0, iV 0, .string (St [])] h27 fun r28 w29 h30 => ?_
  refine yA ?_
  refine yS [(0, iV r_.out.1), (1, iV r_.out.2.1), (2, uV r_.out.2.2), (3, iV r_.st), (4, iV r_.why), (5, iV r_.tr), (6, iV r_.nx), (7, .string (St r_.tag))] [iV r_.out.1, iV r_.out.2.1, uV r_.out.2.2, iV r_.st, iV r_.why, iV r_.tr, iV r_.nx, .string (St r_.tag)] h30 fun w31 h32 => ?_
  refine yB0 [] [8] [(10, iV 0)] (.mk ?_)
  refine yK [(0, .func (Fn.yield k_) #[] #[]), (1, pV c1), (3, pV c3), (4, pV c4), (6, iV W.now), (8, iV x20), (9, pV r28), (19, .slice p l.length cc), (20, iV (((l.length : Nat) : Int))), (21, iV (i : Int))] fun lr33 => ?_
  refine ySq ?_
  refine yPl [0, 1, 2, 3, 4, 5, 6, 7, 8, 9, 10] ?_
  refine yBb [5, 6, 7, 8, 9, 10] [(36, iV r_.why), (35, .pointer (some ⟨r28, 4, none⟩)), (34, .agg #[iV r_.out.1, iV r_.out.2.1, uV r_.out.2.2]), (33, pV r28), (32, pV wb)] [e2 0 [pV wb], e0 1, e2 2 [iV r_.out.1, iV r_.out.2.1, uV r_.out.2.2], e0 3, e2 4 [iV r_.why]] [(4, ⟨r28, 4, none⟩, iV r_.why), (2, ⟨r28, 0, none⟩, iV r_.out.1), (2, ⟨r28, 1, none⟩, iV r_.out.2.1), (2, ⟨r28, 2, none⟩, uV r_.out.2.2), (0, ⟨c1, 0, none⟩, pV wb)] [] trivial (kC (sat_cell h32 0 rfl rfl) (kC (sat_cell h32 0 rfl rfl) (kC (sat_cell h32 0 rfl rfl) (kC (sat_cell h32 0 rfl rfl) (kC (sat_cell h32 4 rfl rfl) nC))))) ?_
  have h34 := tk10 (sf9 (sf8 (sf8 (sf8 (sf8 (sf8 (sf8 (sf8 (sf8 (sf9 h32))))))))))
  refine yA ?_
  refine yCl 37 Tryz.call119 ((by have h_ := wrel_ht wb Y.2 r_.out.1 r_.out.2.1 r_.out.2.2 r_.why (by omega) (by omega); rw [show relA Y.2 ((r_.out.1, r_.out.2.1, r_.out.2.2) : Ky) r_.why = a_ from ha_, show relE Y.2 ((r_.out.1, r_.out.2.1, r_.out.2.2) : Ky) r_.why = 0 from hq22.2.2] at h_; exact h_)) h34 ?_
  rintro v K w35 (⟨rfl, rfl⟩) h36
  refine ⟨_, rfl, ?_⟩
  have h37 := ap1 h36
  refine yB0 [] [6, 7, 8, 9, 10] [(12, iV 0), (11, iV a_), (39, iV 0), (38, iV a_), (31, .tuple #[iV a_, iV 0])] (.mk ?_)
  refine yK [(0, .func (Fn.yield k_) #[] #[]), (1, pV c1), (3, pV c3), (4, pV c4), (6, iV W.now), (8, iV x20), (9, pV r28), (11, iV a_), (12, iV 0), (19, .slice p l.length cc), (20, iV (((l.length : Nat) : Int))), (21, iV (i : Int))] fun lr38 => ?_
  refine ySq ?_
  refine ySq ?_
  refine yPl [0, 1] ?_
  refine yB0 [] [0, 1] [(41, .bool false), (40, iV 0)] (.mk ?_)
  refine yK [(0, .func (Fn.yield k_) #[] #[]), (1, pV c1), (3, pV c3), (4, pV c4), (6, iV W.now), (8, iV x20), (9, pV r28), (11, iV a_), (19, .slice p l.length cc), (20, iV (((l.length : Nat) : Int))), (21, iV (i : Int)), (41, .bool false)] fun lr39 => ?_
  refine yCf ?_
  refine ySk ?_
  refine ySq ?_
  refine yPl [0, 1, 2, 3, 4, 5, 6, 7, 8, 9, 10, 11, 12, 13] ?_
  obtain ⟨q40, hq41, hq41a, hq41b, hq41c⟩ : ∃ q : Int, (if 64 < r_.tr + 1 then 64 else r_.tr + 1) = q ∧ q ≤ r_.tr + 1 ∧ q ≤ 64 ∧ 1 ≤ q := ⟨_, rfl, by split <;> omega, by split <;> omega, by split <;> omega⟩
  refine yBb [8, 9, 10, 11, 12, 13] [(50, iV cp), (49, .pointer (some ⟨c4, 8, none⟩)), (48, iV ba), (47, .pointer (some ⟨c4, 7, none⟩)), (46, iV q40), (45, iV (r_.tr + 1)), (44, iV r_.tr), (43, .pointer (some ⟨r28, 5, none⟩))] [e0 0, e2 1 [iV r_.tr], e1 2 (iV (r_.tr + 1)), e1 3 (iV q40), e0 4, e2 5 [iV ba], e0 6, e2 7 [iV cp]] [(7, ⟨c4, 8, none⟩, iV cp), (5, ⟨c4, 7, none⟩, iV ba), (1, ⟨r28, 5, none⟩, iV r_.tr)] [(iV (IntKind.wrap .i64 (r_.tr + 1)), iV (r_.tr + 1)), (iV (if 64 < r_.tr + 1 then 64 else r_.tr + 1), iV q40)] ⟨(ov_i64 (by omega) (by omega) (by omega)), (ov_int hq41), trivial⟩ (kC (sat_cell h37 8 rfl rfl) (kC (sat_cell h37 8 rfl rfl) (kC (sat_cell h37 1 rfl rfl) nC))) ?_
  have hw42 : wtB q40 ba cp = wtOf (⟨bt, ba, cp⟩ : Cf) r_ := by unfold wtOf; rw [show min (r_.tr + 1) 64 = q40 from by rw [← hq41]; try (split <;> omega)]
  have hw42b : 1 ≤ wtB q40 ba cp ∧ wtB q40 ba cp ≤ 1048576 := by have h_ := wtN_bd (base := ba) (cap := cp) ⟨hb.1, hb.2.1⟩ (q40 - 1).toNat; exact ⟨h_.1, by have := h_.2; unfold wtB; omega⟩
  refine yA ?_
  refine yCl 51 Tryz.call22 (wait_ht q40 ba cp (by omega) (by omega)) h37 ?_
  rintro v K w43 (⟨rfl, rfl⟩) h44
  refine ⟨_, rfl, ?_⟩
  have h45 := ap0 h44
  refine yB0 [] [9, 10, 11, 12, 13] [(14, iV 0), (13, iV ((wtB q40 ba cp))), (53, iV 0), (52, iV ((wtB q40 ba cp))), (42, .tuple #[iV ((wtB q40 ba cp)), iV 0])] (.mk ?_)
  refine yK [(0, .func (Fn.yield k_) #[] #[]), (1, pV c1), (3, pV c3), (4, pV c4), (6, iV W.now), (8, iV x20), (9, pV r28), (11, iV a_), (13, iV ((wtB q40 ba cp))), (19, .slice p l.length cc), (20, iV (((l.length : Nat) : Int))), (21, iV (i : Int))] fun lr46 => ?_
  refine ySq ?_
  refine ySq ?_
  refine yPl [0, 1, 2, 3, 4, 5, 6, 7, 8, 9, 10] ?_
  refine yBb [4, 5, 6, 7, 8, 9, 10] [(58, iV ((wtB q40 ba cp))), (57, iV W.now), (56, iV a_), (55, .agg #[iV r_.out.1, iV r_.out.2.1, uV r_.out.2.2, iV r_.st, iV r_.why, iV r_.tr, iV r_.nx, .string (St r_.tag)])] [e2 0 [iV r_.out.1, iV r_.out.2.1, uV r_.out.2.2, iV r_.st, iV r_.why, iV r_.tr, iV r_.nx, .string (St r_.tag)], e0 1, e0 2, e0 3] [(0, ⟨r28, 0, none⟩, iV r_.out.1), (0, ⟨r28, 1, none⟩, iV r_.out.2.1), (0, ⟨r28, 2, none⟩, uV r_.out.2.2), (0, ⟨r28, 3, none⟩, iV r_.st), (0, ⟨r28, 4, none⟩, iV r_.why), (0, ⟨r28, 5, none⟩, iV r_.tr), (0, ⟨r28, 6, none⟩, iV r_.nx), (0, ⟨r28, 7, none⟩, .string (St r_.tag))] [] trivial (kC (sat_cell h45 1 rfl rfl) (kC (sat_cell h45 1 rfl rfl) (kC (sat_cell h45 1 rfl rfl) (kC (sat_cell h45 1 rfl rfl) (kC (sat_cell h45 1 rfl rfl) (kC (sat_cell h45 1 rfl rfl) (kC (sat_cell h45 1 rfl rfl) (kC (sat_cell h45 1 rfl rfl) nC)))))))) ?_
  refine yA ?_
  refine yCl 59 Tryz.call120 (rtri_ht r_ hq22w.1 (by omega) (by omega) a_ W.now ((wtB q40 ba cp)) (by omega) (by omega) (by omega) (by omega)) h45 ?_
  rintro v K w47 (⟨rfl, rfl⟩) h48
  refine ⟨_, rfl, ?_⟩
  have h49 := ap0 h48
  refine yB0 [8, 9, 10] [5, 6, 7] [(61, iV ((triE r_ a_ W.now ((wtB q40 ba cp))))), (60, .agg #[iV ((triX r_ a_ W.now ((wtB q40 ba cp))).out.1), iV ((triX r_ a_ W.now ((wtB q40 ba cp))).out.2.1), uV ((triX r_ a_ W.now ((wtB q40 ba cp))).out.2.2), iV ((triX r_ a_ W.now ((wtB q40 ba cp))).st), iV ((triX r_ a_ W.now ((wtB q40 ba cp))).why), iV ((triX r_ a_ W.now ((wtB q40 ba cp))).tr), iV ((triX r_ a_ W.now ((wtB q40 ba cp))).nx), .string (St ((triX r_ a_ W.now ((wtB q40 ba cp))).tag))]), (54, .tuple #[.agg #[iV ((triX r_ a_ W.now ((wtB q40 ba cp))).out.1), iV ((triX r_ a_ W.now ((wtB q40 ba cp))).out.2.1), uV ((triX r_ a_ W.now ((wtB q40 ba cp))).out.2.2), iV ((triX r_ a_ W.now ((wtB q40 ba cp))).st), iV ((triX r_ a_ W.now ((wtB q40 ba cp))).why), iV ((triX r_ a_ W.now ((wtB q40 ba cp))).tr), iV ((triX r_ a_ W.now ((wtB q40 ba cp))).nx), .string (St ((triX r_ a_ W.now ((wtB q40 ba cp))).tag))], iV ((triE r_ a_ W.now ((wtB q40 ba cp))))])] ?_
  refine yA ?_
  refine yNp 15 82 [iV 0, iV 0, uV 0, iV 0, iV 0, iV 0, iV 0, .string (St [])] h49 fun r50 w51 h52 => ?_
  refine yA ?_
  refine yS [(0, iV ((triX r_ a_ W.now ((wtB q40 ba cp))).out.1)), (1, iV ((triX r_ a_ W.now ((wtB q40 ba cp))).out.2.1)), (2, uV ((triX r_ a_ W.now ((wtB q40 ba cp))).out.2.2)), (3, iV ((triX r_ a_ W.now ((wtB q40 ba cp))).st)), (4, iV ((triX r_ a_ W.now ((wtB q40 ba cp))).why)), (5, iV ((triX r_ a_ W.now ((wtB q40 ba cp))).tr)), (6, iV ((triX r_ a_ W.now ((wtB q40 ba cp))).nx)), (7, .string (St ((triX r_ a_ W.now ((wtB q40 ba cp))).tag)))] [iV ((triX r_ a_ W.now ((wtB q40 ba cp))).out.1), iV ((triX r_ a_ W.now ((wtB q40 ba cp))).out.2.1), uV ((triX r_ a_ W.now ((wtB q40 ba cp))).out.2.2), iV ((triX r_ a_ W.now ((wtB q40 ba cp))).st), iV ((triX r_ a_ W.now ((wtB q40 ba cp))).why), iV ((triX r_ a_ W.now ((wtB q40 ba cp))).tr), iV ((triX r_ a_ W.now ((wtB q40 ba cp))).nx), .string (St ((triX r_ a_ W.now ((wtB q40 ba cp))).tag))] h52 fun w53 h54 => ?_
  refine yB0 [] [10] [(16, iV ((triE r_ a_ W.now ((wtB q40 ba cp)))))] (.mk ?_)
  refine yK [(0, .func (Fn.yield k_) #[] #[]), (1, pV c1), (3, pV c3), (4, pV c4), (6, iV W.now), (8, iV x20), (9, pV r28), (11, iV a_), (15, pV r50), (16, iV ((triE r_ a_ W.now ((wtB q40 ba cp))))), (19, .slice p l.length cc), (20, iV (((l.length : Nat) : Int))), (21, iV (i : Int))] fun lr55 => ?_
  refine ySq ?_
  refine yPl [0, 1] ?_
  refine yB0 [1] [0] [(62, iV ((triE r_ a_ W.now ((wtB q40 ba cp)))))] ?_
  by_cases c56 : (triE r_ a_ W.now ((wtB q40 ba cp))) = 0
  ·
   refine yBb [] [(63, .bool true)] [e1 1 (.bool true)] [] [(.bool (((triE r_ a_ W.now ((wtB q40 ba cp)))) == 0), .bool true)] ⟨(ov_et (by omega)), trivial⟩ nC (.mk ?_)
   refine yK [(0, .func (Fn.yield k_) #[] #[]), (1, pV c1), (3, pV c3), (4, pV c4), (6, iV W.now), (8, iV x20), (9, pV r28), (11, iV a_), (15, pV r50), (19, .slice p l.length cc), (20, iV (((l.length : Nat) : Int))), (21, iV (i : Int)), (63, .bool true)] fun lr57 => ?_
   refine yCt ?_
   refine yPl [0, 1, 2, 3] ?_
   refine yBb [3] [(66, .agg #[iV ((triX r_ a_ W.now ((wtB q40 ba cp))).out.1), iV ((triX r_ a_ W.now ((wtB q40 ba cp))).out.2.1), uV ((triX r_ a_ W.now ((wtB q40 ba cp))).out.2.2), iV ((triX r_ a_ W.now ((wtB q40 ba cp))).st), iV ((triX r_ a_ W.now ((wtB q40 ba cp))).why), iV ((triX r_ a_ W.now ((wtB q40 ba cp))).tr), iV ((triX r_ a_ W.now ((wtB q40 ba cp))).nx), .string (St ((triX r_ a_ W.now ((wtB q40 ba cp))).tag))]), (65, iV x20), (64, pV b)] [e2 0 [pV b], e0 1, e2 2 [iV ((triX r_ a_ W.now ((wtB q40 ba cp))).out.1), iV ((triX r_ a_ W.now ((wtB q40 ba cp))).out.2.1), uV ((triX r_ a_ W.now ((wtB q40 ba cp))).out.2.2), iV ((triX r_ a_ W.now ((wtB q40 ba cp))).st), iV ((triX r_ a_ W.now ((wtB q40 ba cp))).why), iV ((triX r_ a_ W.now ((wtB q40 ba cp))).tr), iV ((triX r_ a_ W.now ((wtB q40 ba cp))).nx), .string (St ((triX r_ a_ W.now ((wtB q40 ba cp))).tag))]] [(2, ⟨r50, 0, none⟩, iV ((triX r_ a_ W.now ((wtB q40 ba cp))).out.1)), (2, ⟨r50, 1, none⟩, iV ((triX r_ a_ W.now ((wtB q40 ba cp))).out.2.1)), (2, ⟨r50, 2, none⟩, uV ((triX r_ a_ W.now ((wtB q40 ba cp))).out.2.2)), (2, ⟨r50, 3, none⟩, iV ((triX r_ a_ W.now ((wtB q40 ba cp))).st)), (2, ⟨r50, 4, none⟩, iV ((triX r_ a_ W.now ((wtB q40 ba cp))).why)), (2, ⟨r50, 5, none⟩, iV ((triX r_ a_ W.now ((wtB q40 ba cp))).tr)), (2, ⟨r50, 6, none⟩, iV ((triX r_ a_ W.now ((wtB q40 ba cp))).nx)), (2, ⟨r50, 7, none⟩, .string (St ((triX r_ a_ W.now ((wtB q40 ba cp))).tag))), (0, ⟨c3, 0, none⟩, pV b)] [] trivial (kC (sat_cell h54 0 rfl rfl) (kC (sat_cell h54 0 rfl rfl) (kC (sat_cell h54 0 rfl rfl) (kC (sat_cell h54 0 rfl rfl) (kC (sat_cell h54 0 rfl rfl) (kC (sat_cell h54 0 rfl rfl) (kC (sat_cell h54 0 rfl rfl) (kC (sat_cell h54 0 rfl rfl) (kC (sat_cell h54 8 rfl rfl) nC))))))))) ?_
   have ht58 := triX_ok (show triE r_ a_ W.now ((wtB q40 ba cp)) = 0 by first | assumption | omega); have ht58a := ht58.2.1; have ht58b : (triX r_ a_ W.now ((wtB q40 ba cp))).tag.length ≤ 96 := by rw [ht58.2.2]; exact hq22w.2.2.2
   have h59 := tk11 (sf10 (sf9 (sf9 (sf9 (sf10 (sf10 (sf10 (sf10 (sf10 (sf10 (sf10 h54)))))))))))
   refine yA ?_
   refine yCl 67 Tryz.call54 (tset_w b n Y.1 x20 ((triX r_ a_ W.now ((wtB q40 ba cp))).out.1) ((triX r_ a_ W.now ((wtB q40 ba cp))).out.2.1) ((triX r_ a_ W.now ((wtB q40 ba cp))).out.2.2) ((triX r_ a_ W.now ((wtB q40 ba cp))).st) ((triX r_ a_ W.now ((wtB q40 ba cp))).why) ((triX r_ a_ W.now ((wtB q40 ba cp))).tr) ((triX r_ a_ W.now ((wtB q40 ba cp))).nx) ((triX r_ a_ W.now ((wtB q40 ba cp))).tag) (by omega) (by omega) (by omega)) h59 ?_
   rintro v K w60 (⟨rfl, rfl⟩) h61
   refine ⟨_, rfl, ?_⟩
   have h62 := ap1 h61
   refine PO.mk ?_
   refine yK [(0, .func (Fn.yield k_) #[] #[]), (1, pV c1), (3, pV c3), (4, pV c4), (6, iV W.now), (9, pV r28), (11, iV a_), (19, .slice p l.length cc), (20, iV (((l.length : Nat) : Int))), (21, iV (i : Int))] fun lr63 => ?_
   refine ySq ?_
   refine gi_ply (id := 11) (ops := RA Tryz.f118 [1, 1, 0, 0, 1, 1, 0, 0, 1, 1, 1, 1, 1, 1, 0]) [0, 1, 2, 3, 4, 5, 6, 7] [8, 9] (by kernel_rfl) (by kernel_rfl) (by kernel_rfl) ?_
   refine yBb [] [(75, .agg #[iV W.now, iV r_.out.1, iV r_.out.2.1, uV r_.out.2.2, iV r_.why, iV a_]), (74, iV a_), (73, iV r_.why), (72, .pointer (some ⟨r28, 4, none⟩)), (71, .agg #[iV r_.out.1, iV r_.out.2.1, uV r_.out.2.2]), (70, pV r28), (69, iV W.now), (68, .func (Fn.yield k_) #[] #[])] [e0 0, e0 1, e0 2, e2 3 [iV r_.out.1, iV r_.out.2.1, uV r_.out.2.2], e0 4, e2 5 [iV r_.why], e0 6, e0 7] [(5, ⟨r28, 4, none⟩, iV r_.why), (3, ⟨r28, 0, none⟩, iV r_.out.1), (3, ⟨r28, 1, none⟩, iV r_.out.2.1), (3, ⟨r28, 2, none⟩, uV r_.out.2.2)] [] trivial (kC (sat_cell h62 3 rfl rfl) (kC (sat_cell h62 3 rfl rfl) (kC (sat_cell h62 3 rfl rfl) (kC (sat_cell h62 3 rfl rfl) nC)))) (.mk ?_)
   change YP _ (RA Tryz.f118 [1, 1, 0, 0, 1, 1, 0, 0, 1, 1, 1, 1, 1, 1, 0]) _ [8, 9] (mk 79 (([(75, .agg #[iV W.now, iV r_.out.1, iV r_.out.2.1, uV r_.out.2.2, iV r_.why, iV a_]), (74, iV a_), (73, iV r_.why), (72, .pointer (some ⟨r28, 4, none⟩)), (71, .agg #[iV r_.out.1, iV r_.out.2.1, uV r_.out.2.2]), (70, pV r28), (69, iV W.now), (68, .func (Fn.yield k_) #[] #[]), (0, .func (Fn.yield k_) #[] #[]), (1, pV c1), (3, pV c3), (4, pV c4), (6, iV W.now), (9, pV r28), (11, iV a_), (19, .slice p l.length cc), (20, iV (((l.length : Nat) : Int))), (21, iV (i : Int))] : Fr) ++ lr63)) _
   have hH65 : triE (getR Y.1 x20) (relA Y.2 (getR Y.1 x20).out (getR Y.1 x20).why) W.now (wtOf (⟨bt, ba, cp⟩ : Cf) (getR Y.1 x20)) = 0 := by rw [hr_, ha_, ← hw42]; first | assumption | (show (triE r_ a_ W.now ((wtB q40 ba cp)) = 0); omega)
   have hH65x : triR (getR Y.1 x20) (relA Y.2 (getR Y.1 x20).out (getR Y.1 x20).why) W.now (wtOf (⟨bt, ba, cp⟩ : Cf) (getR Y.1 x20)) = triX r_ a_ W.now ((wtB q40 ba cp)) := by rw [hr_, ha_, ← hw42]; exact ht58.1.symm
   have hs64 : (stB (⟨bt, ba, cp⟩ : Cf) W.now (S, W) l (i + 1)) = ((setS Y.1 x20 ⟨((triX r_ a_ W.now ((wtB q40 ba cp))).out.1, (triX r_ a_ W.now ((wtB q40 ba cp))).out.2.1, (triX r_ a_ W.now ((wtB q40 ba cp))).out.2.2), (triX r_ a_ W.now ((wtB q40 ba cp))).st, (triX r_ a_ W.now ((wtB q40 ba cp))).why, (triX r_ a_ W.now ((wtB q40 ba cp))).tr, (triX r_ a_ W.now ((wtB q40 ba cp))).nx, (triX r_ a_ W.now ((wtB q40 ba cp))).tag⟩), relS Y.2 ((r_.out.1, r_.out.2.1, r_.out.2.2) : Ky) r_.why) := (stB_succ hx21).trans (by rw [hY_]; exact Prod.ext ((if_pos hH65).trans (congrArg (setS Y.1 x20) hH65x)) (by show relS Y.2 (getR Y.1 x20).out (getR Y.1 x20).why = _; rw [hr_]))
   have h66 : sat g w60 [TW b n ((stB (⟨bt, ba, cp⟩ : Cf) W.now (S, W) l (i + 1)).1), z6x2 r50 r_ a_ W q40 ba cp, Wd wb (relS Y.2 ((r_.out.1, r_.out.2.1, r_.out.2.2) : Ky) r_.why), Cl r28 [iV r_.out.1, iV r_.out.2.1, uV r_.out.2.2, iV r_.st, iV r_.why, iV r_.tr, iV r_.nx, .string (St r_.tag)] 82, z6x5 p l cc, J_ i, Cl c1 [pV wb] 26, z6x4 c2 p l cc, Cl c3 [pV b] 25, z6x3 c4 x0 x1 x2 x3 x4 x5 bt ba cp x9, R] := (show (setS Y.1 x20 ⟨((triX r_ a_ W.now ((wtB q40 ba cp))).out.1, (triX r_ a_ W.now ((wtB q40 ba cp))).out.2.1, (triX r_ a_ W.now ((wtB q40 ba cp))).out.2.2), (triX r_ a_ W.now ((wtB q40 ba cp))).st, (triX r_ a_ W.now ((wtB q40 ba cp))).why, (triX r_ a_ W.now ((wtB q40 ba cp))).tr, (triX r_ a_ W.now ((wtB q40 ba cp))).nx, (triX r_ a_ W.now ((wtB q40 ba cp))).tag⟩) = ((stB (⟨bt, ba, cp⟩ : Cf) W.now (S, W) l (i + 1)).1) from (by rw [hs64])) ▸ h62
   have h67 := tk11 (sf10 (sf9 (sf9 (sf10 (sf10 (sf10 (sf10 (sf10 (sf10 (sf10 (sf10 h66)))))))))))
   have h68 : sat g w60 [Wd wb ((stB (⟨bt, ba, cp⟩ : Cf) W.now (S, W) l (i + 1)).2), TW b n ((stB (⟨bt, ba, cp⟩ : Cf) W.now (S, W) l (i + 1)).1), z6x2 r50 r_ a_ W q40 ba cp, Cl r28 [iV r_.out.1, iV r_.out.2.1, uV r_.out.2.2, iV r_.st, iV r_.why, iV r_.tr, iV r_.nx, .string (St r_.tag)] 82, z6x5 p l cc, J_ i, Cl c1 [pV wb] 26, z6x4 c2 p l cc, Cl c3 [pV b] 25, z6x3 c4 x0 x1 x2 x3 x4 x5 bt ba cp x9, R] := (show (relS Y.2 ((r_.out.1, r_.out.2.1, r_.out.2.2) : Ky) r_.why) = ((stB (⟨bt, ba, cp⟩ : Cf) W.now (S, W) l (i + 1)).2) from (by rw [hs64])) ▸ h67
   have h69 := tk11 (sf10 (sf10 (sf10 (sf10 (sf6 (sf5 (sf6 (sf6 (sf4 (sf4 (sf10 h68)))))))))))
   have h70 : sat g w60 [J_ i, (AtB c1 c2 c3 c4 b n wb p cc l S W x0 x1 x2 x3 x4 x5 bt ba cp x9) (i + 1), z6x2 r50 r_ a_ W q40 ba cp, Cl r28 [iV r_.out.1, iV r_.out.2.1, uV r_.out.2.2, iV r_.st, iV r_.why, iV r_.tr, iV r_.nx, .string (St r_.tag)] 82, R] := sat_sw (sat_star (K := [Cl c1 [pV wb] 26, z6x4 c2 p l cc, Cl c3 [pV b] 25, z6x3 c4 x0 x1 x2 x3 x4 x5 bt ba cp x9, TW b n ((stB (⟨bt, ba, cp⟩ : Cf) W.now (S, W) l (i + 1)).1), Wd wb ((stB (⟨bt, ba, cp⟩ : Cf) W.now (S, W) l (i + 1)).2), z6x5 p l cc]) h69)
   refine yp_yield (d := some 76) (k := k_) (args := [Value.agg #[Value.int IntKind.i64 W.now, Value.int IntKind.i64 r_.out.1, Value.int IntKind.i64 r_.out.2.1, Value.int IntKind.u32 r_.out.2.2, Value.int IntKind.i64 r_.why, Value.int IntKind.i64 a_]]) (xa := ((fun i : Nat => [vAt ((atsB (⟨bt, ba, cp⟩ : Cf) W.now (S, W) l).getD i at0)])) i) (S1 := fun w => sat g w [J_ (i + 1), (AtB c1 c2 c3 c4 b n wb p cc l S W x0 x1 x2 x3 x4 x5 bt ba cp x9) (i + 1), z6x1 r50 r_ a_ W q40 ba cp, Cl r28 [Value.int IntKind.i64 r_.out.1, Value.int IntKind.i64 r_.out.2.1, Value.int IntKind.u32 r_.out.2.2, Value.int IntKind.i64 r_.st, Value.int IntKind.i64 r_.why, Value.int IntKind.i64 r_.tr, Value.int IntKind.i64 r_.nx, Value.string (St r_.tag)] 82, R]) (S2 := fun w => sat g w [E_ i, z6x1 r50 r_ a_ W q40 ba cp, Cl r28 [Value.int IntKind.i64 r_.out.1, Value.int IntKind.i64 r_.out.2.1, Value.int IntKind.u32 r_.out.2.2, Value.int IntKind.i64 r_.st, Value.int IntKind.i64 r_.why, Value.int IntKind.i64 r_.tr, Value.int IntKind.i64 r_.nx, Value.string (St r_.tag)] 82, R]) (by kernel_rfl) (by kernel_rfl) (by kernel_rfl) ((by show [vAt ((atsB (⟨bt, ba, cp⟩ : Cf) W.now (S, W) l).getD i at0)] = _; rw [getD_some (ats_at hx21), hY_]; unfold attB; rw [hr_, ha_]; first | done | rfl)) (hY i ((List.getElem?_eq_some_iff.1 hx21).1) _ [z6x1 r50 r_ a_ W q40 ba cp, Cl r28 [Value.int IntKind.i64 r_.out.1, Value.int IntKind.i64 r_.out.2.1, Value.int IntKind.u32 r_.out.2.2, Value.int IntKind.i64 r_.st, Value.int IntKind.i64 r_.why, Value.int IntKind.i64 r_.tr, Value.int IntKind.i64 r_.nx, Value.string (St r_.tag)] 82, R] h70) ?_ ?_
   ·
    intro w71 h72
    refine ⟨_, rfl, ?_⟩
    have h73 : sat g w71 [Cl c1 [pV wb] 26, z6x4 c2 p l cc, Cl c3 [pV b] 25, z6x3 c4 x0 x1 x2 x3 x4 x5 bt ba cp x9, TW b n ((stB (⟨bt, ba, cp⟩ : Cf) W.now (S, W) l (i + 1)).1), Wd wb ((stB (⟨bt, ba, cp⟩ : Cf) W.now (S, W) l (i + 1)).2), z6x5 p l cc, J_ (i + 1), z6x2 r50 r_ a_ W q40 ba cp, Cl r28 [iV r_.out.1, iV r_.out.2.1, uV r_.out.2.2, iV r_.st, iV r_.why, iV r_.tr, iV r_.nx, .string (St r_.tag)] 82, R] := sat_unstar (sat_sw h72)
    have hlt74 := ((List.getElem?_eq_some_iff.1 hx21).1 : i < l.length)
    refine yB0 [] [9] [(77, .bool false)] (.mk ?_)
    refine yK [(0, .func (Fn.yield k_) #[] #[]), (1, pV c1), (3, pV c3), (4, pV c4), (6, iV W.now), (19, .slice p l.length cc), (20, iV (((l.length : Nat) : Int))), (21, iV (i : Int)), (77, .bool false)] fun lr75 => ?_
    refine yCf ?_
    refine ySk ?_
    refine yPl [0, 1] ?_
    refine yBb [] [(21, iV ((i : Int) + 1)), (78, iV ((i : Int) + 1))] [e1 0 (iV ((i : Int) + 1)), e0 1] [] [(iV (IntKind.wrap .i64 ((i : Int) + 1)), iV ((i : Int) + 1))] ⟨(ov_i64 (by omega) (by omega) (by omega)), trivial⟩ nC (.mk ?_)
    have h76 := tk11 (sf10 (sf9 (sf9 (sf9 (sf9 (sf9 (sf9 (sf9 (sf10 (sf9 (sf9 h73)))))))))))
    have h77 := tk9 h76
    change ∃ n', n' < _ ∧ _
    refine ⟨(l.length - (i + 1)), by omega, (i + 1), (stB (⟨bt, ba, cp⟩ : Cf) W.now (S, W) l (i + 1)), _, rfl, rfl, (by omega), (mk_live [(0, .func (Fn.yield k_) #[] #[]), (1, pV c1), (3, pV c3), (4, pV c4), (6, iV W.now), (19, .slice p l.length cc), (20, iV (((l.length : Nat) : Int))), (21, iV ((((i + 1) : Nat) : Int)))] ⟨rfl, rfl, rfl, rfl, rfl, rfl, rfl, (ov_int (by omega)), trivial⟩), h77⟩
   ·
    intro w78 h79
    refine ⟨_, rfl, ?_⟩
    have h80 : sat g w78 [E_ i, z6x2 r50 r_ a_ W q40 ba cp, Cl r28 [iV r_.out.1, iV r_.out.2.1, uV r_.out.2.2, iV r_.st, iV r_.why, iV r_.tr, iV r_.nx, .string (St r_.tag)] 82, R] := h79
    have hlt81 := ((List.getElem?_eq_some_iff.1 hx21).1 : i < l.length)
    refine yB0 [] [9] [(77, .bool true)] (.mk ?_)
    refine yK [(0, .func (Fn.yield k_) #[] #[]), (1, pV c1), (3, pV c3), (4, pV c4), (6, iV W.now), (19, .slice p l.length cc), (20, iV (((l.length : Nat) : Int))), (21, iV (i : Int)), (77, .bool true)] fun lr82 => ?_
    refine yCt ?_
    refine yRt ?_
    repeat (first | simp only [Exit.inBlock] | simp only [Exit.then])
    refine hi_out [] (.tuple #[]) [] (by kernel_rfl) (by intro q hq; cases hq) ⟨⟨_, rfl⟩, ?_⟩
    have h83 := tk4 (sf3 (sf3 (sf2 (sf2 h80))))
    have h84 := tk2 h83
    exact .inr ⟨i, (by omega), h84⟩
  ·
   refine yBb [] [(63, .bool false)] [e1 1 (.bool false)] [] [(.bool (((triE r_ a_ W.now ((wtB q40 ba cp)))) == 0), .bool false)] ⟨(ov_ef (by omega)), trivial⟩ nC (.mk ?_)
   refine yK [(0, .func (Fn.yield k_) #[] #[]), (1, pV c1), (3, pV c3), (4, pV c4), (6, iV W.now), (8, iV x20), (9, pV r28), (11, iV a_), (15, pV r50), (19, .slice p l.length cc), (20, iV (((l.length : Nat) : Int))), (21, iV (i : Int)), (63, .bool false)] fun lr85 => ?_
   refine yCf ?_
   refine ySk ?_
   refine ySq ?_
   refine gi_ply (id := 11) (ops := RA Tryz.f118 [1, 1, 0, 0, 1, 1, 0, 0, 1, 1, 1, 1, 1, 1, 0]) [0, 1, 2, 3, 4, 5, 6, 7] [8, 9] (by kernel_rfl) (by kernel_rfl) (by kernel_rfl) ?_
   refine yBb [] [(75, .agg #[iV W.now, iV r_.out.1, iV r_.out.2.1, uV r_.out.2.2, iV r_.why, iV a_]), (74, iV a_), (73, iV r_.why), (72, .pointer (some ⟨r28, 4, none⟩)), (71, .agg #[iV r_.out.1, iV r_.out.2.1, uV r_.out.2.2]), (70, pV r28), (69, iV W.now), (68, .func (Fn.yield k_) #[] #[])] [e0 0, e0 1, e0 2, e2 3 [iV r_.out.1, iV r_.out.2.1, uV r_.out.2.2], e0 4, e2 5 [iV r_.why], e0 6, e0 7] [(5, ⟨r28, 4, none⟩, iV r_.why), (3, ⟨r28, 0, none⟩, iV r_.out.1), (3, ⟨r28, 1, none⟩, iV r_.out.2.1), (3, ⟨r28, 2, none⟩, uV r_.out.2.2)] [] trivial (kC (sat_cell h54 2 rfl rfl) (kC (sat_cell h54 2 rfl rfl) (kC (sat_cell h54 2 rfl rfl) (kC (sat_cell h54 2 rfl rfl) nC)))) (.mk ?_)
   change YP _ (RA Tryz.f118 [1, 1, 0, 0, 1, 1, 0, 0, 1, 1, 1, 1, 1, 1, 0]) _ [8, 9] (mk 79 (([(75, .agg #[iV W.now, iV r_.out.1, iV r_.out.2.1, uV r_.out.2.2, iV r_.why, iV a_]), (74, iV a_), (73, iV r_.why), (72, .pointer (some ⟨r28, 4, none⟩)), (71, .agg #[iV r_.out.1, iV r_.out.2.1, uV r_.out.2.2]), (70, pV r28), (69, iV W.now), (68, .func (Fn.yield k_) #[] #[]), (0, .func (Fn.yield k_) #[] #[]), (1, pV c1), (3, pV c3), (4, pV c4), (6, iV W.now), (8, iV x20), (9, pV r28), (11, iV a_), (15, pV r50), (19, .slice p l.length cc), (20, iV (((l.length : Nat) : Int))), (21, iV (i : Int)), (63, .bool false)] : Fr) ++ lr85)) _
   have hH87 : ¬ (triE (getR Y.1 x20) (relA Y.2 (getR Y.1 x20).out (getR Y.1 x20).why) W.now (wtOf (⟨bt, ba, cp⟩ : Cf) (getR Y.1 x20)) = 0) := by rw [hr_, ha_, ← hw42]; first | assumption | (show ¬ (triE r_ a_ W.now ((wtB q40 ba cp)) = 0); omega)
   have hs86 : (stB (⟨bt, ba, cp⟩ : Cf) W.now (S, W) l (i + 1)) = (Y.1, relS Y.2 ((r_.out.1, r_.out.2.1, r_.out.2.2) : Ky) r_.why) := (stB_succ hx21).trans (by rw [hY_]; exact Prod.ext (if_neg hH87) (by show relS Y.2 (getR Y.1 x20).out (getR Y.1 x20).why = _; rw [hr_]))
   have h88 := tk11 (sf10 (sf9 (sf9 (sf9 (sf10 (sf10 (sf10 (sf10 (sf10 (sf10 (sf10 h54)))))))))))
   have h89 : sat g w53 [TW b n ((stB (⟨bt, ba, cp⟩ : Cf) W.now (S, W) l (i + 1)).1), z6x2 r50 r_ a_ W q40 ba cp, Wd wb (relS Y.2 ((r_.out.1, r_.out.2.1, r_.out.2.2) : Ky) r_.why), Cl r28 [iV r_.out.1, iV r_.out.2.1, uV r_.out.2.2, iV r_.st, iV r_.why, iV r_.tr, iV r_.nx, .string (St r_.tag)] 82, z6x5 p l cc, J_ i, Cl c1 [pV wb] 26, z6x4 c2 p l cc, Cl c3 [pV b] 25, z6x3 c4 x0 x1 x2 x3 x4 x5 bt ba cp x9, R] := (show Y.1 = ((stB (⟨bt, ba, cp⟩ : Cf) W.now (S, W) l (i + 1)).1) from (by rw [hs86])) ▸ h88
   have h90 := tk11 (sf10 (sf9 (sf9 (sf10 (sf10 (sf10 (sf10 (sf10 (sf10 (sf10 (sf10 h89)))))))))))
   have h91 : sat g w53 [Wd wb ((stB (⟨bt, ba, cp⟩ : Cf) W.now (S, W) l (i + 1)).2), TW b n ((stB (⟨bt, ba, cp⟩ : Cf) W.now (S, W) l (i + 1)).1), z6x2 r50 r_ a_ W q40 ba cp, Cl r28 [iV r_.out.1, iV r_.out.2.1, uV r_.out.2.2, iV r_.st, iV r_.why, iV r_.tr, iV r_.nx, .string (St r_.tag)] 82, z6x5 p l cc, J_ i, Cl c1 [pV wb] 26, z6x4 c2 p l cc, Cl c3 [pV b] 25, z6x3 c4 x0 x1 x2 x3 x4 x5 bt ba cp x9, R] := (show (relS Y.2 ((r_.out.1, r_.out.2.1, r_.out.2.2) : Ky) r_.why) = ((stB (⟨bt, ba, cp⟩ : Cf) W.now (S, W) l (i + 1)).2) from (by rw [hs86])) ▸ h90
   have h92 := tk11 (sf10 (sf10 (sf10 (sf10 (sf6 (sf5 (sf6 (sf6 (sf4 (sf4 (sf10 h91)))))))))))
   have h93 : sat g w53 [J_ i, (AtB c1 c2 c3 c4 b n wb p cc l S W x0 x1 x2 x3 x4 x5 bt ba cp x9) (i + 1), z6x2 r50 r_ a_ W q40 ba cp, Cl r28 [iV r_.out.1, iV r_.out.2.1, uV r_.out.2.2, iV r_.st, iV r_.why, iV r_.tr, iV r_.nx, .string (St r_.tag)] 82, R] := sat_sw (sat_star (K := [Cl c1 [pV wb] 26, z6x4 c2 p l cc, Cl c3 [pV b] 25, z6x3 c4 x0 x1 x2 x3 x4 x5 bt ba cp x9, TW b n ((stB (⟨bt, ba, cp⟩ : Cf) W.now (S, W) l (i + 1)).1), Wd wb ((stB (⟨bt, ba, cp⟩ : Cf) W.now (S, W) l (i + 1)).2), z6x5 p l cc]) h92)
   refine yp_yield (d := some 76) (k := k_) (args := [Value.agg #[Value.int IntKind.i64 W.now, Value.int IntKind.i64 r_.out.1, Value.int IntKind.i64 r_.out.2.1, Value.int IntKind.u32 r_.out.2.2, Value.int IntKind.i64 r_.why, Value.int IntKind.i64 a_]]) (xa := ((fun i : Nat => [vAt ((atsB (⟨bt, ba, cp⟩ : Cf) W.now (S, W) l).getD i at0)])) i) (S1 := fun w => sat g w [J_ (i + 1), (AtB c1 c2 c3 c4 b n wb p cc l S W x0 x1 x2 x3 x4 x5 bt ba cp x9) (i + 1), z6x1 r50 r_ a_ W q40 ba cp, Cl r28 [Value.int IntKind.i64 r_.out.1, Value.int IntKind.i64 r_.out.2.1, Value.int IntKind.u32 r_.out.2.2, Value.int IntKind.i64 r_.st, Value.int IntKind.i64 r_.why, Value.int IntKind.i64 r_.tr, Value.int IntKind.i64 r_.nx, Value.string (St r_.tag)] 82, R]) (S2 := fun w => sat g w [E_ i, z6x1 r50 r_ a_ W q40 ba cp, Cl r28 [Value.int IntKind.i64 r_.out.1, Value.int IntKind.i64 r_.out.2.1, Value.int IntKind.u32 r_.out.2.2, Value.int IntKind.i64 r_.st, Value.int IntKind.i64 r_.why, Value.int IntKind.i64 r_.tr, Value.int IntKind.i64 r_.nx, Value.string (St r_.tag)] 82, R]) (by kernel_rfl) (by kernel_rfl) (by kernel_rfl) ((by show [vAt ((atsB (⟨bt, ba, cp⟩ : Cf) W.now (S, W) l).getD i at0)] = _; rw [getD_some (ats_at hx21), hY_]; unfold attB; rw [hr_, ha_]; first | done | rfl)) (hY i ((List.getElem?_eq_some_iff.1 hx21).1) _ [z6x1 r50 r_ a_ W q40 ba cp, Cl r28 [Value.int IntKind.i64 r_.out.1, Value.int IntKind.i64 r_.out.2.1, Value.int IntKind.u32 r_.out.2.2, Value.int IntKind.i64 r_.st, Value.int IntKind.i64 r_.why, Value.int IntKind.i64 r_.tr, Value.int IntKind.i64 r_.nx, Value.string (St r_.tag)] 82, R] h93) ?_ ?_
   ·
    intro w94 h95
    refine ⟨_, rfl, ?_⟩
    have h96 : sat g w94 [Cl c1 [pV wb] 26, z6x4 c2 p l cc, Cl c3 [pV b] 25, z6x3 c4 x0 x1 x2 x3 x4 x5 bt ba cp x9, TW b n ((stB (⟨bt, ba, cp⟩ : Cf) W.now (S, W) l (i + 1)).1), Wd wb ((stB (⟨bt, ba, cp⟩ : Cf) W.now (S, W) l (i + 1)).2), z6x5 p l cc, J_ (i + 1), z6x2 r50 r_ a_ W q40 ba cp, Cl r28 [iV r_.out.1, iV r_.out.2.1, uV r_.out.2.2, iV r_.st, iV r_.why, iV r_.tr, iV r_.nx, .string (St r_.tag)] 82, R] := sat_unstar (sat_sw h95)
    have hlt97 := ((List.getElem?_eq_some_iff.1 hx21).1 : i < l.length)
    refine yB0 [] [9] [(77, .bool false)] (.mk ?_)
    refine yK [(0, .func (Fn.yield k_) #[] #[]), (1, pV c1), (3, pV c3), (4, pV c4), (6, iV W.now), (19, .slice p l.length cc), (20, iV (((l.length : Nat) : Int))), (21, iV (i : Int)), (77, .bool false)] fun lr98 => ?_
    refine yCf ?_
    refine ySk ?_
    refine yPl [0, 1] ?_
    refine yBb [] [(21, iV ((i : Int) + 1)), (78, iV ((i : Int) + 1))] [e1 0 (iV ((i : Int) + 1)), e0 1] [] [(iV (IntKind.wrap .i64 ((i : Int) + 1)), iV ((i : Int) + 1))] ⟨(ov_i64 (by omega) (by omega) (by omega)), trivial⟩ nC (.mk ?_)
    have h99 := tk11 (sf10 (sf9 (sf9 (sf9 (sf9 (sf9 (sf9 (sf9 (sf10 (sf9 (sf9 h96)))))))))))
    have h100 := tk9 h99
    change ∃ n', n' < _ ∧ _
    refine ⟨(l.length - (i + 1)), by omega, (i + 1), (stB (⟨bt, ba, cp⟩ : Cf) W.now (S, W) l (i + 1)), _, rfl, rfl, (by omega), (mk_live [(0, .func (Fn.yield k_) #[] #[]), (1, pV c1), (3, pV c3), (4, pV c4), (6, iV W.now), (19, .slice p l.length cc), (20, iV (((l.length : Nat) : Int))), (21, iV ((((i + 1) : Nat) : Int)))] ⟨rfl, rfl, rfl, rfl, rfl, rfl, rfl, (ov_int (by omega)), trivial⟩), h100⟩
   ·
    intro w101 h102
    refine ⟨_, rfl, ?_⟩
    have h103 : sat g w101 [E_ i, z6x2 r50 r_ a_ W q40 ba cp, Cl r28 [iV r_.out.1, iV r_.out.2.1, uV r_.out.2.2, iV r_.st, iV r_.why, iV r_.tr, iV r_.nx, .string (St r_.tag)] 82, R] := h102
    have hlt104 := ((List.getElem?_eq_some_iff.1 hx21).1 : i < l.length)
    refine yB0 [] [9] [(77, .bool true)] (.mk ?_)
    refine yK [(0, .func (Fn.yield k_) #[] #[]), (1, pV c1), (3, pV c3), (4, pV c4), (6, iV W.now), (19, .slice p l.length cc), (20, iV (((l.length : Nat) : Int))), (21, iV (i : Int)), (77, .bool true)] fun lr105 => ?_
    refine yCt ?_
    refine yRt ?_
    repeat (first | simp only [Exit.inBlock] | simp only [Exit.then])
    refine hi_out [] (.tuple #[]) [] (by kernel_rfl) (by intro q hq; cases hq) ⟨⟨_, rfl⟩, ?_⟩
    have h106 := tk4 (sf3 (sf3 (sf2 (sf2 h103))))
    have h107 := tk2 h106
    exact .inr ⟨i, (by omega), h107⟩
 ·
  refine yBb [] [(22, .bool false)] [e1 0 (.bool false)] [] [(.bool (decide ((i : Int) < ((l.length : Nat) : Int))), .bool false)] ⟨(ov_f (by omega)), trivial⟩ nC (.mk ?_)
  refine yK [(0, .func (Fn.yield k_) #[] #[]), (1, pV c1), (3, pV c3), (4, pV c4), (6, iV W.now), (19, .slice p l.length cc), (20, iV (((l.length : Nat) : Int))), (21, iV (i : Int)), (22, .bool false)] fun lr108 => ?_
  refine ySq ?_
  refine yCf ?_
  refine yEx 0 ?_
  repeat (first | simp only [Exit.inBlock] | simp only [Exit.then])
  refine hi_outn [] (.tuple #[]) [] (by kernel_rfl) (by intro q hq; cases hq) ⟨⟨_, rfl⟩, ?_⟩
  have he_ : i = l.length := (by omega)
  have h109 := tk9 (sf8 (sf7 (sf7 (sf7 (sf7 (sf7 (sf8 (sf8 (sf8 h13)))))))))
  have h110 : sat g w12 [TW b n ((stB (⟨bt, ba, cp⟩ : Cf) W.now (S, W) l i).1), J_ i, Cl c1 [pV wb] 26, z6x4 c2 p l cc, Cl c3 [pV b] 25, z6x3 c4 x0 x1 x2 x3 x4 x5 bt ba cp x9, Wd wb Y.2, z6x5 p l cc, R] := (show Y.1 = ((stB (⟨bt, ba, cp⟩ : Cf) W.now (S, W) l i).1) from (by rw [hY_])) ▸ h109
  have h111 := tk9 (sf8 (sf7 (sf7 (sf7 (sf7 (sf7 (sf7 (sf8 (sf8 h110)))))))))
  have h112 : sat g w12 [Wd wb ((stB (⟨bt, ba, cp⟩ : Cf) W.now (S, W) l i).2), TW b n ((stB (⟨bt, ba, cp⟩ : Cf) W.now (S, W) l i).1), J_ i, Cl c1 [pV wb] 26, z6x4 c2 p l cc, Cl c3 [pV b] 25, z6x3 c4 x0 x1 x2 x3 x4 x5 bt ba cp x9, z6x5 p l cc, R] := (show Y.2 = ((stB (⟨bt, ba, cp⟩ : Cf) W.now (S, W) l i).2) from (by rw [hY_])) ▸ h111
  have h113 := tk9 (sf8 (sf8 (sf8 (sf8 (sf4 (sf3 (sf8 (sf3 (sf8 h112)))))))))
  have h114 : sat g w12 [J_ i, (AtB c1 c2 c3 c4 b n wb p cc l S W x0 x1 x2 x3 x4 x5 bt ba cp x9) i, R] := sat_sw (sat_star (K := [Cl c1 [pV wb] 26, z6x4 c2 p l cc, Cl c3 [pV b] 25, z6x3 c4 x0 x1 x2 x3 x4 x5 bt ba cp x9, TW b n ((stB (⟨bt, ba, cp⟩ : Cf) W.now (S, W) l i).1), Wd wb ((stB (⟨bt, ba, cp⟩ : Cf) W.now (S, W) l i).2), z6x5 p l cc]) h113)
  exact .inl (he_ ▸ h114)

end Go.Proofs.YtehlamblpekmkaaGreatDoor

/- Walks, printed by my generator q7.py. -/
namespace Go.Proofs.YtehlamblpekmkaaGreatDoor
set_option maxHeartbeats 4000000
theorem attempts_ht (b wb : Nat) (p : Option Addr) (cc : Nat) (l : List Int) (x0 x1 x2 x3 x4 x5 bt ba cp x9 : Int) : HT Tryz.prog 50 [pV b, pV wb, .agg #[iV x0, iV x1, iV x2, iV x3, iV x4, iV x5, iV bt, iV ba, iV cp, uV x9], .slice p l.length cc] [] (fun v K => ∃ c1 c2 c3 c4 : Nat, v = .func (Fn.func 118) #[] #[pV c1, pV c2, pV c3, pV c4] ∧ K = [Cl c1 [pV wb] 26, Cl c2 [.slice p l.length cc] 37, Cl c3 [pV b] 25, Cl c4 [iV x0, iV x1, iV x2, iV x3, iV x4, iV x5, iV bt, iV ba, iV cp, uV x9] 24]) := by
 refine hiS Tryz.func50 Tryz.ntmps50 fun g w0 R h0 => go [] <| nP 25 [pV b] h0 (fun r10 _ h12 => ?_)
 refine nP 26 [pV wb] h12 (fun r13 _ h15 => ?_)
 refine nP 24 [iV x0, iV x1, iV x2, iV x3, iV x4, iV x5, iV bt, iV ba, iV cp, uV x9] h15 (fun r16 _ h18 => ?_)
 refine nP 37 [.slice p l.length cc] h18 (fun r19 _ h21 => ?_)
 refine go [] ?_
 exact en (.func (Fn.func 118) #[] #[pV r13, pV r19, pV r10, pV r16]) [] ⟨_, _, rfl, ⟨r13, r19, r10, r16, rfl, rfl⟩, (tk5 (sf4 (sf3 (sf4 (sf2 (sf4 h21))))))⟩

theorem appseq_ht (c1 c2 c3 c4 m : Nat) (L : List At) (Am : Nat → Assn) (hL : L.length = m) (hm : m ≤ 10000) (hit : ITA Tryz.prog 118 [Value.pointer (some ⟨c1, 0, none⟩), Value.pointer (some ⟨c2, 0, none⟩), Value.pointer (some ⟨c3, 0, none⟩), Value.pointer (some ⟨c4, 0, none⟩)] m (fun i : Nat => [vAt (L.getD i at0)]) Am) : HT Tryz.prog 117 [Value.slice none 0 0, Value.func (Fn.func 118) #[] #[Value.pointer (some ⟨c1, 0, none⟩), Value.pointer (some ⟨c2, 0, none⟩), Value.pointer (some ⟨c3, 0, none⟩), Value.pointer (some ⟨c4, 0, none⟩)]] [Am 0] (fun v K => ∃ (p : Option Addr) (c : Nat), v = Value.slice p m c ∧ K = [Sl 74 6 p m c (fl eAt L), Am m]) := by
 refine hi_in 13 ([(0, .slice none 0 0), (1, .func (Fn.func 118) #[] #[pV c1, pV c2, pV c3, pV c4])] : Fr) Tryz.func117 (by kernel_rfl) Tryz.ntmps117 rfl rfl ?_
 intro g w0 R h0
 refine ySq ?_
 refine yPl [0, 1] ?_
 refine yA ?_
 refine yNp 2 41 [.slice none 0 0] h0 fun r1 w2 h3 => ?_
 refine yB0 [] [1] [(4, .slice none 0 0)] (.mk ?_)
 refine yK [(0, .slice none 0 0), (1, .func (Fn.func 118) #[] #[pV c1, pV c2, pV c3, pV c4]), (2, pV r1), (4, .slice none 0 0)] fun lr4 => ?_
 refine ySq ?_
 refine ySq ?_
 refine yPl [0] ?_
 refine yB0 [] [0] [(6, .func (Fn.func 118) #[] #[pV c1, pV c2, pV c3, pV c4])] (.mk ?_)
 refine yK [(0, .slice none 0 0), (1, .func (Fn.func 118) #[] #[pV c1, pV c2, pV c3, pV c4]), (2, pV r1), (4, .slice none 0 0), (6, .func (Fn.func 118) #[] #[pV c1, pV c2, pV c3, pV c4])] fun lr5 => ?_
 refine yBk 0 ?_
 have h11 : sat g w2 [Sl 74 6 none 0 0 (fl eAt []), Cl r1 [.slice none 0 0] 41, Am 0, R] := sl_nil 74 6 h3
 have h12 : sat g w2 [Sl 74 6 none 0 0 (fl eAt (L.take 0)), Cl r1 [.slice none 0 0] 41, Am 0, R] := sat_imp h11 (fun _ hh_ => by rw [show ([] : List At) = (L.take 0) from (by simp)] at hh_; exact hh_)
 have h13 := tk4 (sf3 (sf2 (sf3 (sf3 h12))))
 refine gi_rf2A (x := (Operand.tmp 6)) (ps := #[7]) (asg := CA Tryz.f117 [1, 0, 1, 0, 1]) (bd := CA Tryz.f117 [1, 0, 1, 0, 0]) (gf := 118) (cap := [pV c1, pV c2, pV c3, pV c4]) (N := m) (xs := fun i => [.agg #[iV ((L.getD i at0).at_), iV ((L.getD i at0).out.1), iV ((L.getD i at0).out.2.1), uV ((L.getD i at0).out.2.2), iV ((L.getD i at0).why), iV ((L.getD i at0).ans)]]) (A := Am) (K0 := [Cl r1 [.slice none 0 0] 41, Sl 74 6 none 0 0 (fl eAt (L.take 0))]) (L := [R]) (fun i => [(7, .agg #[iV ((L.getD i at0).at_), iV ((L.getD i at0).out.1), iV ((L.getD i at0).out.2.1), uV ((L.getD i at0).out.2.2), iV ((L.getD i at0).why), iV ((L.getD i at0).ans)])] ++ (([(0, .slice none 0 0), (1, .func (Fn.func 118) #[] #[pV c1, pV c2, pV c3, pV c4]), (2, pV r1), (4, .slice none 0 0), (6, .func (Fn.func 118) #[] #[pV c1, pV c2, pV c3, pV c4])] : Fr) ++ lr5)) (fun i rb_ => ([(5, pV rb_), (7, .agg #[iV ((L.getD i at0).at_), iV ((L.getD i at0).out.1), iV ((L.getD i at0).out.2.1), uV ((L.getD i at0).out.2.2), iV ((L.getD i at0).why), iV ((L.getD i at0).ans)])] : Fr) ++ (([(0, .slice none 0 0), (1, .func (Fn.func 118) #[] #[pV c1, pV c2, pV c3, pV c4]), (2, pV r1), (4, .slice none 0 0), (6, .func (Fn.func 118) #[] #[pV c1, pV c2, pV c3, pV c4])] : Fr) ++ lr5)) (fun i rb_ K => ∃ p : Option Addr, ∃ c : Nat, K = [Cl rb_ [iV ((L.getD i at0).at_), iV ((L.getD i at0).out.1), iV ((L.getD i at0).out.2.1), uV ((L.getD i at0).out.2.2), iV ((L.getD i at0).why), iV ((L.getD i at0).ans)] 74, Cl r1 [.slice p i c] 41, Sl 74 6 p i c (fl eAt (L.take i))]) (fun i K => ∃ p : Option Addr, ∃ c : Nat, K = [Cl r1 [.slice p i c] 41, Sl 74 6 p i c (fl eAt (L.take i))]) (fun c i K => False) (by kernel_rfl) (by kernel_rfl) Tryz.call118 (hit) ⟨none, 0, rfl⟩ h13 (fun _ _ => rfl) (fun _ _ => rf_frame1 rfl) ?_ ?_ ?_ ?_
 ·
  rintro i hi_ lp_ w14 K_ G ⟨p, c, rfl⟩ h15
  have h16 : sat g w14 [Cl r1 [.slice p i c] 41, Sl 74 6 p i c (fl eAt (L.take i)), Am (i + 1), G] := h15
  change WP _ _ (CA Tryz.f117 [1, 0, 1, 0, 1]) _ (mk 13 (([(7, .agg #[iV ((L.getD i at0).at_), iV ((L.getD i at0).out.1), iV ((L.getD i at0).out.2.1), uV ((L.getD i at0).out.2.2), iV ((L.getD i at0).why), iV ((L.getD i at0).ans)]), (0, .slice none 0 0), (1, .func (Fn.func 118) #[] #[pV c1, pV c2, pV c3, pV c4]), (2, pV r1), (4, .slice none 0 0), (6, .func (Fn.func 118) #[] #[pV c1, pV c2, pV c3, pV c4])] : Fr) ++ lr5)) _
  refine yPl [0, 1] ?_
  refine yA ?_
  refine yNp 5 74 [iV 0, iV 0, iV 0, uV 0, iV 0, iV 0] h16 fun r17 w18 h19 => ?_
  refine yA ?_
  refine yS [(0, iV ((L.getD i at0).at_)), (1, iV ((L.getD i at0).out.1)), (2, iV ((L.getD i at0).out.2.1)), (3, uV ((L.getD i at0).out.2.2)), (4, iV ((L.getD i at0).why)), (5, iV ((L.getD i at0).ans))] [iV ((L.getD i at0).at_), iV ((L.getD i at0).out.1), iV ((L.getD i at0).out.2.1), uV ((L.getD i at0).out.2.2), iV ((L.getD i at0).why), iV ((L.getD i at0).ans)] h19 fun w20 h21 => ?_
  refine PO.mk ?_
  repeat (first | simp only [Exit.inBlock] | simp only [Exit.then])
  exact ⟨r17, _, rfl, ⟨p, c, rfl⟩, h21⟩
 ·
  rintro i hi24 lp_ w22 rb_ K_ G ⟨p, c, rfl⟩ h23
  have h25 : sat g w22 [Cl rb_ [iV ((L.getD i at0).at_), iV ((L.getD i at0).out.1), iV ((L.getD i at0).out.2.1), uV ((L.getD i at0).out.2.2), iV ((L.getD i at0).why), iV ((L.getD i at0).ans)] 74, Cl r1 [.slice p i c] 41, Sl 74 6 p i c (fl eAt (L.take i)), Am (i + 1), G] := h23
  change WP _ _ (CA Tryz.f117 [1, 0, 1, 0, 0]) _ (mk 13 (([(5, pV rb_), (7, .agg #[iV ((L.getD i at0).at_), iV ((L.getD i at0).out.1), iV ((L.getD i at0).out.2.1), uV ((L.getD i at0).out.2.2), iV ((L.getD i at0).why), iV ((L.getD i at0).ans)]), (0, .slice none 0 0), (1, .func (Fn.func 118) #[] #[pV c1, pV c2, pV c3, pV c4]), (2, pV r1), (4, .slice none 0 0), (6, .func (Fn.func 118) #[] #[pV c1, pV c2, pV c3, pV c4])] : Fr) ++ lr5)) _
  refine yBk 1 ?_
  refine yPl [0, 1, 2, 3, 4] ?_
  refine yBb [2, 3, 4] [(9, .agg #[iV ((L.getD i at0).at_), iV ((L.getD i at0).out.1), iV ((L.getD i at0).out.2.1), uV ((L.getD i at0).out.2.2), iV ((L.getD i at0).why), iV ((L.getD i at0).ans)]), (8, .slice p i c)] [e2 0 [.slice p i c], e2 1 [iV ((L.getD i at0).at_), iV ((L.getD i at0).out.1), iV ((L.getD i at0).out.2.1), uV ((L.getD i at0).out.2.2), iV ((L.getD i at0).why), iV ((L.getD i at0).ans)]] [(1, ⟨rb_, 0, none⟩, iV ((L.getD i at0).at_)), (1, ⟨rb_, 1, none⟩, iV ((L.getD i at0).out.1)), (1, ⟨rb_, 2, none⟩, iV ((L.getD i at0).out.2.1)), (1, ⟨rb_, 3, none⟩, uV ((L.getD i at0).out.2.2)), (1, ⟨rb_, 4, none⟩, iV ((L.getD i at0).why)), (1, ⟨rb_, 5, none⟩, iV ((L.getD i at0).ans)), (0, ⟨r1, 0, none⟩, .slice p i c)] [] trivial (kC (sat_cell h25 0 rfl rfl) (kC (sat_cell h25 0 rfl rfl) (kC (sat_cell h25 0 rfl rfl) (kC (sat_cell h25 0 rfl rfl) (kC (sat_cell h25 0 rfl rfl) (kC (sat_cell h25 0 rfl rfl) (kC (sat_cell h25 1 rfl rfl) nC))))))) ?_
  refine yA ?_
  refine an_new (d := 10) (fun xb_ => .slice (some ⟨xb_, 0, none⟩) 1 1) (fun xb_ => Obj.cells [iV ((L.getD i at0).at_), iV ((L.getD i at0).out.1), iV ((L.getD i at0).out.2.1), uV ((L.getD i at0).out.2.2), iV ((L.getD i at0).why), iV ((L.getD i at0).ans)].toArray 74 (0, 0)) (fun xb_ => by kernel_rfl) (by kernel_rfl) rfl h25 ?_
  intro r26 w27 (h28 : sat g w27 [Cl r26 [iV ((L.getD i at0).at_), iV ((L.getD i at0).out.1), iV ((L.getD i at0).out.2.1), uV ((L.getD i at0).out.2.2), iV ((L.getD i at0).why), iV ((L.getD i at0).ans)] 74, Cl rb_ [iV ((L.getD i at0).at_), iV ((L.getD i at0).out.1), iV ((L.getD i at0).out.2.1), uV ((L.getD i at0).out.2.2), iV ((L.getD i at0).why), iV ((L.getD i at0).ans)] 74, Cl r1 [.slice p i c] 41, Sl 74 6 p i c (fl eAt (L.take i)), Am (i + 1), G])
  have h29 := tk6 (sf5 (sf4 (sf4 (sf4 (sf5 (sf5 h28))))))
  refine yA ?_
  refine an_append (d := 11) (sz := 6) (s := (Operand.tmp 8)) (x := (Operand.tmp 10)) (z := .agg #[iV 0, iV 0, iV 0, uV 0, iV 0, iV 0]) (p := p) (m := i) (c := c) (k := 1) (c2 := 1) (a := ⟨r26, 0, none⟩) (by_ := 48) (by kernel_rfl) (by kernel_rfl) rfl Tryz.underlying41 (by kernel_rfl) rfl (by decide) (by kernel_rfl) (by kernel_rfl) h29 (fl eAt [(⟨(L.getD i at0).at_, ((L.getD i at0).out.1, (L.getD i at0).out.2.1, (L.getD i at0).out.2.2), (L.getD i at0).why, (L.getD i at0).ans⟩ : At)]) rfl (fun j u hj => by rw [add_off]; exact sat_cell h29 1 rfl (by rw [Nat.zero_add]; exact hj)) (fl_one eAt_ok _) (by omega) (by omega) (i + 1) (by omega) ?_
  intro p30 cap31 w32 h33
  have h34 : sat g w32 [Sl 74 6 p30 (i + 1) cap31 (fl eAt ((L.take i) ++ [(⟨(L.getD i at0).at_, ((L.getD i at0).out.1, (L.getD i at0).out.2.1, (L.getD i at0).out.2.2), (L.getD i at0).why, (L.getD i at0).ans⟩ : At)])), Cl r26 [iV ((L.getD i at0).at_), iV ((L.getD i at0).out.1), iV ((L.getD i at0).out.2.1), uV ((L.getD i at0).out.2.2), iV ((L.getD i at0).why), iV ((L.getD i at0).ans)] 74, Cl rb_ [iV ((L.getD i at0).at_), iV ((L.getD i at0).out.1), iV ((L.getD i at0).out.2.1), uV ((L.getD i at0).out.2.2), iV ((L.getD i at0).why), iV ((L.getD i at0).ans)] 74, Cl r1 [.slice p i c] 41, Am (i + 1), G] := sat_imp h33 (fun _ hh => by rw [fl_app]; exact hh)
  obtain ⟨hn35, hn36⟩ := sl_le h34
  have h37 := tk6 (sf5 (sf4 (sf4 (sf4 (sf5 (sf5 h34))))))
  refine yA ?_
  refine yS [(0, .slice p30 (i + 1) cap31)] [.slice p30 (i + 1) cap31] h37 fun w38 h39 => ?_
  refine PO.mk ?_
  repeat (first | simp only [Exit.inBlock] | simp only [Exit.then])
  have h40 := tk6 (sf5 (sf4 (sf5 (sf5 (sf5 (sf5 h39))))))
  have h41 : sat g w38 [Sl 74 6 p30 (i + 1) cap31 (fl eAt (L.take (i + 1))), Cl r1 [.slice p30 (i + 1) cap31] 41, Cl r26 [iV ((L.getD i at0).at_), iV ((L.getD i at0).out.1), iV ((L.getD i at0).out.2.1), uV ((L.getD i at0).out.2.2), iV ((L.getD i at0).why), iV ((L.getD i at0).ans)] 74, Cl rb_ [iV ((L.getD i at0).at_), iV ((L.getD i at0).out.1), iV ((L.getD i at0).out.2.1), uV ((L.getD i at0).out.2.2), iV ((L.getD i at0).why), iV ((L.getD i at0).ans)] 74, Am (i + 1), G] := sat_imp h40 (fun _ hh_ => by rw [show (((L.take i) ++ [(⟨(L.getD i at0).at_, ((L.getD i at0).out.1, (L.getD i at0).out.2.1, (L.getD i at0).out.2.2), (L.getD i at0).why, (L.getD i at0).ans⟩ : At)]) : List At) = (L.take (i + 1)) from takeB_at (by omega)] at hh_; exact hh_)
  have h42 := tk6 (sf5 (sf4 (sf5 (sf5 (sf3 (sf3 h41))))))
  have h43 := tk4 h42
  exact ⟨_, ⟨p30, cap31, rfl⟩, h43⟩
 ·
  rintro D44 w45 K_ ⟨p, c, rfl⟩ h46
  have h47 : sat g w45 [pt D44 (Obj.deferred (some [])), Cl r1 [.slice p m c] 41, Sl 74 6 p m c (fl eAt (L.take m)), Am m, R] := h46
  refine yK [(2, pV r1)] fun lr48 => ?_
  refine ySq ?_
  refine yPl [0, 1] ?_
  refine yBb [] [(4, .slice p m c), (12, .slice p m c)] [e2 0 [.slice p m c], e0 1] [(0, ⟨r1, 0, none⟩, .slice p m c)] [] trivial (kC (sat_cell h47 1 rfl rfl) nC) (.mk ?_)
  refine yK [(4, .slice p m c)] fun lr49 => ?_
  refine yRt ?_
  repeat (first | simp only [Exit.inBlock] | simp only [Exit.then])
  have h50 := tk5 (sf4 (sf3 (sf3 (sf4 (sf4 h47)))))
  have h51 : sat g w45 [Sl 74 6 p m c (fl eAt L), pt D44 (Obj.deferred (some [])), Cl r1 [.slice p m c] 41, Am m, R] := sat_imp h50 (fun _ hh_ => by rw [show ((L.take m) : List At) = L from (List.take_of_length_le (by omega))] at hh_; exact hh_)
  have h52 := tk5 (sf4 (sf3 (sf4 (sf4 (sf4 h51)))))
  refine hi_out1 h52 [] (.slice p m c) [] (by kernel_rfl) (fun w54 h53 => ⟨?_, ?_⟩)
  · exact (by intro q hq; cases hq)
  ·
   have h55 : sat g w54 [pt D44 (Obj.deferred none), Sl 74 6 p m c (fl eAt L), Cl r1 [.slice p m c] 41, Am m, R] := h53
   have h56 := tk5 (sf4 (sf4 (sf2 (sf3 (sf4 h55)))))
   have h57 := tk3 (sf2 (sf2 (sf4 h56)))
   exact ⟨.slice p m c, [Sl 74 6 p m c (fl eAt L), Am m], rfl, ⟨p, c, rfl, rfl⟩, h57⟩
 ·
  intro _ _ _ _ _ _ hf_; exact hf_.elim

theorem collect_ht (c1 c2 c3 c4 m : Nat) (L : List At) (Am : Nat → Assn) (hL : L.length = m) (hm : m ≤ 10000) (hit : ITA Tryz.prog 118 [pV c1, pV c2, pV c3, pV c4] m (fun i : Nat => [vAt (L.getD i at0)]) Am) : HT Tryz.prog 49 [.func (Fn.func 118) #[] #[pV c1, pV c2, pV c3, pV c4]] [Am 0] (fun v K => ∃ (p : Option Addr) (c : Nat), v = .slice p m c ∧ K = [Sl 74 6 p m c (fl eAt L), Am m]) := by
 refine hiS Tryz.func49 Tryz.ntmps49 fun g w0 R h0 => go [] <| cP Tryz.call117 (appseq_ht c1 c2 c3 c4 m L Am hL hm hit) h0 ?_
 rintro v K _ (⟨p10, c11, rfl, rfl⟩) h13
 have h14 := ap2 h13
 refine go [] ?_
 exact en (.slice p10 m c11) [] ⟨_, _, rfl, ⟨p10, c11, rfl, rfl⟩, h14⟩

end Go.Proofs.YtehlamblpekmkaaGreatDoor

/- Walks, printed by my generator q8.py. -/
namespace Go.Proofs.YtehlamblpekmkaaGreatDoor
set_option maxHeartbeats 4000000
theorem collect_w (c1 c2 c3 c4 b n wb : Nat) (p : Option Addr) (cc : Nat) (l : List Int) (S : Ts) (W : Wst) (x0 x1 x2 x3 x4 x5 bt ba cp x9 : Int) (hb : 1 ≤ ba ∧ ba ≤ cp ∧ cp ≤ 1048576) (hrun : RunOk (⟨bt, ba, cp⟩ : Cf) W.now (S, W) l) (hll : l.length ≤ 2000) : HT Tryz.prog 49 [Value.func (Fn.func 118) #[] #[Value.pointer (some ⟨c1, 0, none⟩), Value.pointer (some ⟨c2, 0, none⟩), Value.pointer (some ⟨c3, 0, none⟩), Value.pointer (some ⟨c4, 0, none⟩)]] [Cl c1 [Value.pointer (some ⟨wb, 0, none⟩)] 26, Cl c2 [Value.slice p l.length cc] 37, Cl c3 [Value.pointer (some ⟨b, 0, none⟩)] 25, Cl c4 [Value.int IntKind.i64 x0, Value.int IntKind.i64 x1, Value.int IntKind.i64 x2, Value.int IntKind.i64 x3, Value.int IntKind.i64 x4, Value.int IntKind.i64 x5, Value.int IntKind.i64 bt, Value.int IntKind.i64 ba, Value.int IntKind.i64 cp, Value.int IntKind.u32 x9] 24, TW b n S, Wd wb W, Sl 3 1 p l.length cc (fl eI l)] (fun v K => ∃ (p2 : Option Addr) (c5 : Nat), v = Value.slice p2 l.length c5 ∧ K = [TW b n ((runB (⟨bt, ba, cp⟩ : Cf) W.now (S, W) l).1), Wd wb ((runB (⟨bt, ba, cp⟩ : Cf) W.now (S, W) l).2), Sl 74 6 p2 l.length c5 (fl eAt (atsB (⟨bt, ba, cp⟩ : Cf) W.now (S, W) l))]) := by
  intro g w F hs
  have h1 : sat g w ((AtB c1 c2 c3 c4 b n wb p cc l S W x0 x1 x2 x3 x4 x5 bt ba cp x9) 0 :: F) := sat_star (K := [Cl c1 [Value.pointer (some ⟨wb, 0, none⟩)] 26, Cl c2 [Value.slice p l.length cc] 37, Cl c3 [Value.pointer (some ⟨b, 0, none⟩)] 25, Cl c4 [Value.int IntKind.i64 x0, Value.int IntKind.i64 x1, Value.int IntKind.i64 x2, Value.int IntKind.i64 x3, Value.int IntKind.i64 x4, Value.int IntKind.i64 x5, Value.int IntKind.i64 bt, Value.int IntKind.i64 ba, Value.int IntKind.i64 cp, Value.int IntKind.u32 x9] 24, TW b n S, Wd wb W, Sl 3 1 p l.length cc (fl eI l)]) hs
  refine (collect_ht c1 c2 c3 c4 l.length (atsB (⟨bt, ba, cp⟩ : Cf) W.now (S, W) l) (AtB c1 c2 c3 c4 b n wb p cc l S W x0 x1 x2 x3 x4 x5 bt ba cp x9) (ats_len _ _ _ _) (by omega) (att_it c1 c2 c3 c4 b n wb p cc l S W x0 x1 x2 x3 x4 x5 bt ba cp x9 hb hrun hll) g w F h1).mono ?_
  rintro e w' ⟨v, K, rfl, ⟨p2, c5, rfl, rfl⟩, h2⟩
  refine ⟨_, _, rfl, ⟨p2, c5, rfl, rfl⟩, ?_⟩
  have h3 : sat g w' ((AtB c1 c2 c3 c4 b n wb p cc l S W x0 x1 x2 x3 x4 x5 bt ba cp x9) l.length :: Sl 74 6 p2 l.length c5 (fl eAt (atsB (⟨bt, ba, cp⟩ : Cf) W.now (S, W) l)) :: F) := sat_sw h2
  have h4 := sat_sel_tail (sat_sel_tail (sat_sel_tail (sat_sel_tail (sat_unstar h3))))
  rw [stB_end] at h4
  have h5 := sat_sel_tail (sat_rot (A := [TW b n (runB (⟨bt, ba, cp⟩ : Cf) W.now (S, W) l).1, Wd wb (runB (⟨bt, ba, cp⟩ : Cf) W.now (S, W) l).2]) (B := Sl 3 1 p l.length cc (fl eI l) :: Sl 74 6 p2 l.length c5 (fl eAt (atsB (⟨bt, ba, cp⟩ : Cf) W.now (S, W) l)) :: F) h4)
  have h6 := sat_rot (A := Sl 74 6 p2 l.length c5 (fl eAt (atsB (⟨bt, ba, cp⟩ : Cf) W.now (S, W) l)) :: F) (B := [TW b n (runB (⟨bt, ba, cp⟩ : Cf) W.now (S, W) l).1, Wd wb (runB (⟨bt, ba, cp⟩ : Cf) W.now (S, W) l).2]) h5
  exact h6
theorem run_ok (b n wb : Nat) (S : Ts) (W : Wst) (x0 x1 x2 x3 x4 x5 bt ba cp x9 : Int) (hc : (1 ≤ bt ∧ bt ≤ 64) ∧ (1 ≤ ba ∧ ba ≤ cp ∧ cp ≤ 1048576) ∧ bkE ba cp = 0) (hrun : RunOk (⟨bt, ba, cp⟩ : Cf) W.now (S, W) (dueB S W.now bt)) : HT Tryz.prog 12 [pV b, pV wb, .agg #[iV x0, iV x1, iV x2, iV x3, iV x4, iV x5, iV bt, iV ba, iV cp, uV x9]] [TW b n S, Wd wb W] (fun v K => ∃ (p : Option Addr) (c : Nat), v = .tuple #[.slice p (((dueB S W.now bt).length)) c, iV 0] ∧ K = [TW b n ((runB (⟨bt, ba, cp⟩ : Cf) W.now (S, W) (dueB S W.now bt)).1), Wd wb ((runB (⟨bt, ba, cp⟩ : Cf) W.now (S, W) (dueB S W.now bt)).2), Sl 74 6 p (((dueB S W.now bt).length)) c (fl eAt (atsB (⟨bt, ba, cp⟩ : Cf) W.now (S, W) (dueB S W.now bt)))]) := by
 refine hiS Tryz.func12 Tryz.ntmps12 fun g w0 R h0 => ?_
 have hk_ := wd_ok (j := 1) h0 rfl; have hk1_ := hk_.nl; have hk2_ := hk_.nh; have hrl_ := (tw_ok (j := 0) h0 rfl).rl; have hsl_ : (srtB S).length ≤ S.R.length := (by rw [srtB_len]; exact nums_le S.R 2); have hdl_ := due_le S W.now bt
 refine go [] <| nP 24 [iV x0, iV x1, iV x2, iV x3, iV x4, iV x5, iV bt, iV ba, iV cp, uV x9] h0 (fun _ _ h12 => ?_)
 have h13 := tk4 (sf3 (sf2 (sf3 (sf3 h12))))
 refine go [] <| cl1 Tryz.call43 (there_w b n S) h13 fun _ h15 => ?_
 have h17 := tk4 (sf3 (sf2 (sf2 (sf3 h15))))
 refine go [] <| cP Tryz.call47 (wcopy_ht wb W) h17 ?_
 rintro v K _ (⟨b16, rfl, rfl⟩) h19
 have h20 := ap2 h19
 refine go [rd 3 1 3 6 1 h20, .v 3 2 (oF (bt < 1)), rd 3 5 3 6 1 h20, .v 3 6 (oF (bt > 64)), rd 3 10 3 7 1 h20, rd 3 12 3 8 1 h20] <| cl0 Tryz.call48 (bkchk_ht ba cp) h20 fun _ h22 => go [.v 3 14 (qnF ((bkE ba cp)) 0)] <| dw (fls [0, 1, 3, 4] (Tr.an 2 (Tr.an 5 (fls [6, 7, 8, 9, 10] Tr.nil)))) h22 fun _ h24 => go [rd 5 4 3 6 1 h24] <| cw1 Tryz.call38 (wnow_ht wb W) h24 fun _ h26 => ⟨kd [rd 0 4 3 6 1 h26], ?_⟩
 refine cG Tryz.call11 (due_w b n S W.now bt (by omega)) (tk5 (sf4 (sf3 (sf3 (sf4 (sf4 h26)))))) ?_
 rintro v K _ (⟨p27, c28, rfl, rfl⟩) h31
 have h32 := ap2 h31
 refine ⟨kd [], ?_⟩
 refine go [rd 8 2 4 0 10 h32] <| cP Tryz.call50 (attempts_ht b wb p27 c28 (dueB S W.now bt) x0 x1 x2 x3 x4 x5 bt ba cp x9) h32 ?_
 rintro v K _ (⟨b33, b34, b35, b36, rfl, rfl⟩) h38
 refine cP Tryz.call49 (collect_w b33 b34 b35 b36 b n wb p27 c28 (dueB S W.now bt) S W x0 x1 x2 x3 x4 x5 bt ba cp x9 (by omega) hrun (by omega)) (tk10 (sf9 (sf9 (sf9 (sf9 (sf9 (sf9 (sf8 (sf9 (sf9 (sf9 (ap4 h38)))))))))))) ?_
 rintro v K _ (⟨p40, c41, rfl, rfl⟩) h44
 have h45 := ap3 h44
 refine go [] ?_
 exact en (.tuple #[.slice p40 (((dueB S W.now bt).length)) c41, iV 0]) [] ⟨_, _, rfl, ⟨p40, c41, rfl, rfl⟩, (tk4 (sf3 (sf3 (sf3 (sf5 h45)))))⟩

theorem run_arg (b n wb : Nat) (S : Ts) (W : Wst) (x0 x1 x2 x3 x4 x5 bt ba cp x9 : Int) (hc : bt < 1 ∨ 64 < bt ∨ 1 ≤ bkE ba cp) : HT Tryz.prog 12 [pV b, pV wb, .agg #[iV x0, iV x1, iV x2, iV x3, iV x4, iV x5, iV bt, iV ba, iV cp, uV x9]] [TW b n S, Wd wb W] (fun v K => v = .tuple #[.slice none 0 0, iV 2] ∧ K = [TW b n S, Wd wb W]) := by
 refine hiS Tryz.func12 Tryz.ntmps12 fun g w0 R h0 => ?_
 have hk_ := wd_ok (j := 1) h0 rfl; have hk1_ := hk_.nl; have hk2_ := hk_.nh; have hrl_ := (tw_ok (j := 0) h0 rfl).rl; have hsl_ : (srtB S).length ≤ S.R.length := (by rw [srtB_len]; exact nums_le S.R 2); have hdl_ := due_le S W.now bt
 refine go [] <| nP 24 [iV x0, iV x1, iV x2, iV x3, iV x4, iV x5, iV bt, iV ba, iV cp, uV x9] h0 (fun _ _ h12 => ?_)
 have h13 := tk4 (sf3 (sf2 (sf3 (sf3 h12))))
 refine go [] <| cl1 Tryz.call43 (there_w b n S) h13 fun _ h15 => ?_
 have h17 := tk4 (sf3 (sf2 (sf2 (sf3 h15))))
 refine go [] <| cP Tryz.call47 (wcopy_ht wb W) h17 ?_
 rintro v K _ (⟨b16, rfl, rfl⟩) h19
 have h20 := ap2 h19
 refine go [rd 3 1 3 6 1 h20, .s 3 2] ?_
 by_cases c21 : bt < 1
 ·
  refine go [.v 3 2 (oT (bt < 1))] ?_
  exact en (.tuple #[.slice none 0 0, iV 2]) [] ⟨_, _, rfl, ⟨rfl, rfl⟩, (tk3 (sf2 (sf2 (sf4 (tk5 (sf4 (sf3 (sf3 (sf4 (sf4 h20))))))))))⟩
 refine go [.v 3 2 (oF (bt < 1)), rd 3 5 3 6 1 h20, .s 3 6] ?_
 by_cases c24 : bt > 64
 ·
  refine go [.v 3 6 (oT (bt > 64))] ?_
  exact en (.tuple #[.slice none 0 0, iV 2]) [] ⟨_, _, rfl, ⟨rfl, rfl⟩, (tk3 (sf2 (sf2 (sf4 (tk5 (sf4 (sf3 (sf3 (sf4 (sf4 h20))))))))))⟩
 refine go [.v 3 6 (oF (bt > 64)), rd 3 10 3 7 1 h20, rd 3 12 3 8 1 h20] <| cl0 Tryz.call48 (bkchk_ht ba cp) h20 fun _ h28 => go [.v 3 14 (qnT ((bkE ba cp)) 0)] ?_
 exact en (.tuple #[.slice none 0 0, iV 2]) [] ⟨_, _, rfl, ⟨rfl, rfl⟩, (tk3 (sf2 (sf2 (sf4 (tk5 (sf4 (sf3 (sf3 (sf4 (sf4 h28))))))))))⟩

theorem run_w (b n wb : Nat) (S : Ts) (W : Wst) (x0 x1 x2 x3 x4 x5 bt ba cp x9 : Int) (hrun : cfgE (⟨bt, ba, cp⟩ : Cf) = 0 → RunOk (⟨bt, ba, cp⟩ : Cf) W.now (S, W) (dueB S W.now bt)) : HT Tryz.prog 12 [Value.pointer (some ⟨b, 0, none⟩), Value.pointer (some ⟨wb, 0, none⟩), Value.agg #[Value.int IntKind.i64 x0, Value.int IntKind.i64 x1, Value.int IntKind.i64 x2, Value.int IntKind.i64 x3, Value.int IntKind.i64 x4, Value.int IntKind.i64 x5, Value.int IntKind.i64 bt, Value.int IntKind.i64 ba, Value.int IntKind.i64 cp, Value.int IntKind.u32 x9]] [TW b n S, Wd wb W] (fun v K => ∃ (p : Option Addr) (c : Nat), v = Value.tuple #[Value.slice p (((rnL (⟨bt, ba, cp⟩ : Cf) (S, W)).length)) c, Value.int IntKind.i64 ((cfgE (⟨bt, ba, cp⟩ : Cf)))] ∧ K = [TW b n ((rnS (⟨bt, ba, cp⟩ : Cf) (S, W)).1), Wd wb ((rnS (⟨bt, ba, cp⟩ : Cf) (S, W)).2), Sl 74 6 p (((rnL (⟨bt, ba, cp⟩ : Cf) (S, W)).length)) c (fl eAt (rnL (⟨bt, ba, cp⟩ : Cf) (S, W)))]) := by
  by_cases hc : cfgE (⟨bt, ba, cp⟩ : Cf) = 0
  · have hr := hrun hc
    have h1 : bt < 1 ∨ 64 < bt ∨ bkE ba cp ≠ 0 → False := fun h => by
      unfold cfgE at hc
      rw [if_pos h] at hc
      cases hc
    have h2 : bkE ba cp = 0 := Decidable.byContradiction fun h => h1 (.inr (.inr h))
    have h3 : 1 ≤ ba ∧ ba ≤ cp ∧ cp ≤ 1048576 := by
      unfold bkE at h2
      split at h2
      · cases h2
      · omega
    have h4 : 1 ≤ bt ∧ bt ≤ 64 := ⟨Decidable.byContradiction fun h => h1 (.inl (by omega)), Decidable.byContradiction fun h => h1 (.inr (.inl (by omega)))⟩
    unfold rnS rnL
    rw [if_pos hc, if_pos hc, hc, ats_len]
    exact run_ok b n wb S W x0 x1 x2 x3 x4 x5 bt ba cp x9 ⟨h4, h3, h2⟩ hr
  · have h1 : bt < 1 ∨ 64 < bt ∨ bkE ba cp ≠ 0 := Decidable.byContradiction fun h => hc (if_neg h)
    have h2 : cfgE (⟨bt, ba, cp⟩ : Cf) = 2 := if_pos h1
    have h3 : bkE ba cp = 0 ∨ bkE ba cp = 2 := by
      unfold bkE
      split
      · exact .inr rfl
      · exact .inl rfl
    unfold rnS rnL
    rw [if_neg hc, if_neg hc, h2]
    refine (run_arg b n wb S W x0 x1 x2 x3 x4 x5 bt ba cp x9 (by omega)).post fun v K hP => ?_
    obtain ⟨rfl, rfl⟩ := hP
    exact ⟨_, ⟨none, 0, rfl, rfl⟩, fun g w F hs => sat_rot (A := Sl 74 6 none 0 0 (fl eAt []) :: F) (B := [TW b n S, Wd wb W]) (sl_nil 74 6 (sat_rot (A := [TW b n S, Wd wb W]) (B := F) hs))⟩

end Go.Proofs.YtehlamblpekmkaaGreatDoor

/-
  Turns with a table and a world (the laws of chapter 34), as plain functions. No program in sight.
-/
namespace Go.Proofs.YtehlamblpekmkaaGreatDoor
set_option maxHeartbeats 4000000
structure Tn where
  k : Int
  n : Int
def eTn (t : Tn) : List Value := [.int .u8 t.k, .int .u16 t.n]
theorem eTn_ok : Enc 2 eTn := ⟨fun _ => rfl, fun x v hv => by simp [eTn] at hv; rcases hv with rfl | rfl <;> rfl⟩
def TnOk (t : Tn) : Prop := (0 ≤ t.k ∧ t.k ≤ 255) ∧ 0 ≤ t.n ∧ t.n ≤ 65535
def whK (n : Int) : Int := n % 3 + 1
def whX (n : Int) : Int := n / 3 % 200 + 1
def opnP (X : Pw) (n at_ : Int) : Pw :=
  (if acqE X.2 (whK n) (whX n) = 0 then opnS X.1 (acqO X.2 (whK n) (whX n)) [116] (at_ % 256, at_ / 256 + 1) else X.1, acqS X.2 (whK n) (whX n))
def shK (S : Ts) (n : Int) : Int := n % (S.R.length : Int) + 1
def shuP (X : Pw) (n : Int) : Pw :=
  (if X.1.R.length = 0 then X.1 else if (getR X.1 (shK X.1 n)).st = 1 then setS (expS X.1 (shK X.1 n)) (shK X.1 n) (cloR (getR X.1 (shK X.1 n)) (n / 7 % 3 + 1) X.2.now) else X.1, X.2)
def ansF : Nat → Int → Int → List UInt8
  | 0, _, _ => []
  | f + 1, i, n => if i < n % 7 then ([111, 108, 108, 108, 102] : List UInt8).getD (n / 7 % 5).toNat 0 :: ansF f (i + 1) (n / 2 + 3) else []
def ansW (n : Int) : List UInt8 := ansF 8 0 n
theorem ansF_cap : ∀ (f : Nat) (i n : Int), 0 ≤ i → ((ansF f i n).length : Int) + i ≤ 6 ∨ (ansF f i n) = []
  | 0, _, _, _ => .inr rfl
  | f + 1, i, n, hi => by
    unfold ansF
    split
    · rename_i h
      left
      have h1 : n % 7 < 7 := Int.emod_lt_of_pos _ (by decide)
      rw [List.length_cons]
      rcases ansF_cap f (i + 1) (n / 2 + 3) (by omega) with h2 | h2
      · omega
      · rw [h2]
        simp
        omega
    · exact .inr rfl
theorem ansW_len (n : Int) : (ansW n).length ≤ 6 := by
  rcases ansF_cap 8 0 n (Int.le_refl _) with h | h
  · unfold ansW
    omega
  · unfold ansW
    rw [h]
    exact Nat.zero_le _
theorem ansF_go {f : Nat} {i n : Int} {acc L0 : List UInt8} {x : UInt8} (h : L0 = acc ++ ansF (f + 1) i n) (hi : i < n % 7) (hx : ([111, 108, 108, 108, 102] : List UInt8)[(n / 7 % 5).toNat]? = some x) : L0 = (acc ++ [x]) ++ ansF f (i + 1) (n / 2 + 3) := by
  have h2 : ([111, 108, 108, 108, 102] : List UInt8).getD (n / 7 % 5).toNat 0 = x := by
    rw [List.getD_eq_getElem?_getD, hx]
    rfl
  rw [h, List.append_assoc]
  show acc ++ (if i < n % 7 then ([111, 108, 108, 108, 102] : List UInt8).getD (n / 7 % 5).toNat 0 :: ansF f (i + 1) (n / 2 + 3) else []) = _
  rw [if_pos hi, h2]
  rfl
theorem ansF_end {f : Nat} {i n : Int} {acc L0 : List UInt8} (h : L0 = acc ++ ansF f i n) (hi : ¬ i < n % 7) : acc = L0 := by
  rw [h]
  cases f with
  | zero => exact (List.append_nil _).symm
  | succ f =>
    unfold ansF
    rw [if_neg hi, List.append_nil]
structure Md where
  now : Int
  due : List Int
  was : List Rs
  is : List Rs
  tr : List At
  inl : List At
def mdB (c : Cf) (X : Pw) : Md := ⟨X.2.now, dueB X.1 X.2.now 2000, X.1.R, (rnS c X).1.R, rnL c X, (rnS c X).2.T⟩
def stepP (c : Cf) (X : Pw) (i : Nat) (t : Tn) : Pw :=
  if t.k % 8 = 0 ∨ t.k % 8 = 1 then opnP X t.n (i : Int) else if t.k % 8 = 2 ∨ t.k % 8 = 3 then shuP X t.n else if t.k % 8 = 4 then (X.1, tckS X.2 (t.n % 300 + 1)) else if t.k % 8 = 5 then (X.1, aswS X.2 (ansW t.n)) else rnS c X
def isRun (t : Tn) : Prop := 6 ≤ t.k % 8
instance (t : Tn) : Decidable (isRun t) := by unfold isRun; infer_instance
def ts0 : Ts := ⟨List.replicate 64 (0, 1), [], []⟩
def plP (c : Cf) (T : List Tn) : Nat → Pw
  | 0 => (ts0, wnew 1)
  | i + 1 => match T[i]? with
    | some t => stepP c (plP c T i) i t
    | none => plP c T i
def mdsP (c : Cf) (T : List Tn) : Nat → List Md
  | 0 => []
  | i + 1 => match T[i]? with
    | some t => if isRun t then mdsP c T i ++ [mdB c (plP c T i)] else mdsP c T i
    | none => mdsP c T i
theorem plP_go {c : Cf} {T : List Tn} {i : Nat} {t : Tn} (h : T[i]? = some t) : plP c T (i + 1) = stepP c (plP c T i) i t := by
  show (match T[i]? with | some t => stepP c (plP c T i) i t | none => plP c T i) = _
  rw [h]
theorem mdsP_go {c : Cf} {T : List Tn} {i : Nat} {t : Tn} (h : T[i]? = some t) : mdsP c T (i + 1) = if isRun t then mdsP c T i ++ [mdB c (plP c T i)] else mdsP c T i := by
  show (match T[i]? with | some t => if isRun t then mdsP c T i ++ [mdB c (plP c T i)] else mdsP c T i | none => mdsP c T i) = _
  rw [h]
section
variable {c : Cf} {X : Pw} {i : Nat} {t : Tn}
theorem step_opn (h : t.k % 8 = 0 ∨ t.k % 8 = 1) : stepP c X i t = opnP X t.n (i : Int) := if_pos h
theorem step_shu (h : t.k % 8 = 2 ∨ t.k % 8 = 3) : stepP c X i t = shuP X t.n := by
  unfold stepP
  rw [if_neg (by omega), if_pos h]
theorem step_tck (h : t.k % 8 = 4) : stepP c X i t = (X.1, tckS X.2 (t.n % 300 + 1)) := by
  unfold stepP
  rw [if_neg (by omega), if_neg (by omega), if_pos h]
theorem step_asw (h : t.k % 8 = 5) : stepP c X i t = (X.1, aswS X.2 (ansW t.n)) := by
  unfold stepP
  rw [if_neg (by omega), if_neg (by omega), if_neg (by omega), if_pos h]
theorem step_run (h : isRun t) : stepP c X i t = rnS c X := by
  unfold isRun at h
  unfold stepP
  rw [if_neg (by omega), if_neg (by omega), if_neg (by omega), if_neg (by omega)]
theorem mds_no {T : List Tn} (h : T[i]? = some t) (hr : ¬ isRun t) : mdsP c T (i + 1) = mdsP c T i := (mdsP_go h).trans (if_neg hr)
theorem mds_run {T : List Tn} (h : T[i]? = some t) (hr : isRun t) : mdsP c T (i + 1) = mdsP c T i ++ [mdB c (plP c T i)] := (mdsP_go h).trans (if_pos hr)
end
def PlOk (c : Cf) (T : List Tn) : Prop := ∀ (i : Nat) (t : Tn), T[i]? = some t → isRun t → RunOk c (plP c T i).2.now (plP c T i) (dueB (plP c T i).1 (plP c T i).2.now c.bt)
def cfgZ (s b m : Int) : Cf := ⟨s % 64 + 1, b + 1, b + 4 * m + 1⟩
theorem cfgZ_ok {s b m : Int} (hs : 0 ≤ s ∧ s ≤ 255) (hb : 0 ≤ b ∧ b ≤ 255) (hm : 0 ≤ m ∧ m ≤ 255) : cfgE (cfgZ s b m) = 0 ∧ (cfgZ s b m).cp ≤ 1276 := by
  have h1 := Int.emod_nonneg s (b := 64) (by decide)
  have h2 := Int.emod_lt_of_pos s (b := 64) (by decide)
  have h3 : bkE (cfgZ s b m).ba (cfgZ s b m).cp = 0 := if_neg (by unfold cfgZ; simp only; omega)
  refine ⟨if_neg (by rw [h3]; unfold cfgZ; simp only; omega), by unfold cfgZ; simp only; omega⟩
end Go.Proofs.YtehlamblpekmkaaGreatDoor

/-
  Steps of scripts, and what they do. No program in sight.
-/
namespace Go.Proofs.YtehlamblpekmkaaGreatDoor
set_option maxHeartbeats 4000000
structure Sq where
  d : Int
  k : Int
  a : Int
  o : Ky
  wy : Int
  tk : Int
  tx : List UInt8
def Sho (L : List Sq) (m : Int) : Prop := (L.length : Int) ≤ m ∧ ∀ s ∈ L, s.tx.length ≤ 40
instance (L : List Sq) (m : Int) : Decidable (Sho L m) := by unfold Sho; infer_instance
section
variable {S : Wst} {s : Sq}
end
end Go.Proofs.YtehlamblpekmkaaGreatDoor

/-
  What steps do to what is there, to the attempts and to the time. No program in sight.
-/
namespace Go.Proofs.YtehlamblpekmkaaGreatDoor
set_option maxHeartbeats 4000000
section
variable {X : Xs} {S : Wst} {s : Sq} {o o' : Ky} {k a y t : Int}
theorem fre_as {i : Nat} {g : Int} (h : fre X = some (i, g)) : (As X)[i]? = some (0, g) := by
  obtain ⟨v, hv⟩ := fre_some h
  exact as_get hv
theorem tab_put (S : Wst) (X : Xs) {k k' : Int} (hk : k = 1 ∨ k = 2 ∨ k = 3) (hk' : k' = 1 ∨ k' = 2 ∨ k' = 3) : (S.put k X).tab k' = if k' = k then X else S.tab k' := by
  rcases hk with rfl | rfl | rfl <;> rcases hk' with rfl | rfl | rfl <;> rfl
theorem put_T (S : Wst) (X : Xs) (k : Int) : (S.put k X).T = S.T ∧ (S.put k X).now = S.now ∧ (S.put k X).q = S.q := by
  unfold Wst.put
  split
  · exact ⟨rfl, rfl, rfl⟩
  · split <;> exact ⟨rfl, rfl, rfl⟩
theorem acq_zero (h : acqE S k a = 0) : godP k a ∧ grwE S k a = 0 ∧ fre (S.tab k) ≠ none := by
  unfold acqE at h
  split at h
  · exact absurd h (by decide)
  · rename_i h1
    split at h
    · exact absurd h ‹_›
    · rename_i h2
      have hg := Decidable.not_not.1 h2
      refine ⟨Decidable.not_not.1 h1, hg, fun hf => ?_⟩
      unfold grwE at hg
      split at hg
      · exact absurd hg (by decide)
      · split at hg
        · exact absurd hg (by decide)
        · first
            | exact absurd hg (by decide)
            | exact absurd ((if_pos hf).symm.trans hg) (by decide)
theorem acq_S (h : acqE S k a = 0) : acqS S k a = ({ S with q := S.q.tail } : Wst).put k (grw (S.tab k) (valO S k a)) := by
  obtain ⟨h1, h2, _⟩ := acq_zero h
  unfold acqS
  rw [if_neg (by rintro (q | q); exact q h1; exact q h2), if_pos h]
theorem acq_keep (h : acqE S k a ≠ 0) : acqS S k a = S ∨ acqS S k a = { S with q := S.q.tail } := by
  unfold acqS
  split
  · exact .inl rfl
  · first
      | exact .inr rfl
      | (rw [if_neg h]; exact .inr rfl)
theorem acq_T : (acqS S k a).T = S.T ∧ (acqS S k a).now = S.now := by
  unfold acqS
  split
  · exact ⟨rfl, rfl⟩
  · split
    · have := put_T ({ S with q := S.q.tail } : Wst) (grw (S.tab k) (valO S k a)) k
      exact ⟨this.1, this.2.1⟩
    · exact ⟨rfl, rfl⟩
theorem acq_nm (h : acqE S k a = 0) : ∃ i g, fre (S.tab k) = some (i, g) ∧ acqO S k a = (k, (i : Int), g) ∧ i < (S.tab k).length := by
  obtain ⟨_, _, h3⟩ := acq_zero h
  cases hf : fre (S.tab k) with
  | none => exact absurd hf h3
  | some r =>
    obtain ⟨i, g⟩ := r
    refine ⟨i, g, rfl, ?_, ?_⟩
    · unfold acqO nam; rw [if_pos h, hf]
    · have := (List.getElem?_eq_some_iff.1 (fre_as hf)).1; rwa [as_len] at this
theorem tab_len (h : WOk S) (k : Int) : (S.tab k).length = 64 := by
  unfold Wst.tab
  split
  · exact h.fl
  · split
    · exact h.bl
    · exact h.dl
theorem tab_ok (h : WOk S) (k : Int) : Sok (As (S.tab k)) := by
  unfold Wst.tab
  split
  · exact h.fk
  · split
    · exact h.bk
    · exact h.dk
theorem acq_tab (h : acqE S k a = 0) {k' : Int} (hk' : k' = 1 ∨ k' = 2 ∨ k' = 3) : (acqS S k a).tab k' = if k' = k then grw (S.tab k) (valO S k a) else S.tab k' := by
  rw [acq_S h, tab_put _ _ (godP_k (acq_zero h).1) hk']
  rfl
theorem acq_thr (hW : WOk S) (h : acqE S k a = 0) : Thr (acqS S k a) (acqO S k a) ∧ (acqO S k a).1 = k := by
  obtain ⟨i, g, hf, ho, hi⟩ := acq_nm h
  have h1 := godP_k (acq_zero h).1
  rw [ho]
  have hl := tab_len hW k
  have hg := (tab_ok hW k) _ (List.mem_of_getElem? (fre_as hf))
  refine ⟨⟨⟨by show 1 ≤ k; omega, by show k ≤ 3; omega, by show (0 : Int) ≤ (i : Int); omega, by show (i : Int) ≤ 63; omega, hg.2.2.1⟩, ?_⟩, rfl⟩
  show (As ((acqS S k a).tab k))[((i : Int)).toNat]? = some (1, g)
  rw [acq_tab h h1, if_pos rfl, Int.toNat_natCast]
  unfold grw
  rw [hf]
  show (As ((S.tab k).set i (1, g, valO S k a)))[i]? = _
  rw [as_set, List.getElem?_set_self (by rw [as_len]; exact hi)]
theorem rel_T (h : relE S o y = 0) : (relS S o y).T = S.T ++ [⟨S.now, o, y, relA S o y⟩] ∧ (relS S o y).now = S.now := by
  have e : relA S o y = S.q.headD 1 := if_pos h
  unfold relS
  rw [if_neg (by rw [h]; decide), e]
  split
  · have := put_T ({ S with q := S.q.tail, T := S.T ++ [⟨S.now, o, y, S.q.headD 1⟩] } : Wst) (giv (S.tab o.1) o) o.1
    exact ⟨this.1, this.2.1⟩
  · exact ⟨rfl, rfl⟩
theorem rel_tab (h : relE S o y = 0) {k' : Int} (hk' : k' = 1 ∨ k' = 2 ∨ k' = 3) : (relS S o y).tab k' = if relA S o y = 1 ∧ k' = o.1 then giv (S.tab o.1) o else S.tab k' := by
  have e : relA S o y = S.q.headD 1 := if_pos h
  unfold relS
  rw [if_neg (by rw [h]; decide), e]
  by_cases h1 : S.q.headD 1 = 1
  · rw [if_pos h1, tab_put _ _ (kgood_k (rel_zero h).1) hk']
    by_cases h2 : k' = o.1
    · rw [if_pos h2, if_pos ⟨h1, h2⟩]
    · rw [if_neg h2, if_neg (fun q => h2 q.2)]; rfl
  · rw [if_neg h1, if_neg (fun q => h1 q.1)]; rfl
theorem tck_as (S : Wst) (t k : Int) : As ((tckS S t).tab k) = As (S.tab k) := by
  unfold tckS
  split <;> rfl
theorem tck_T (S : Wst) (t : Int) : (tckS S t).T = S.T := by
  unfold tckS
  split <;> rfl
end
end Go.Proofs.YtehlamblpekmkaaGreatDoor

/-
  Answers that are added, acquisitions with them, and a release. No program in sight.
-/
namespace Go.Proofs.YtehlamblpekmkaaGreatDoor
set_option maxHeartbeats 4000000
section
variable {S : Wst} {o : Ky} {k a y : Int} {q : List Int}
theorem thr_gen (hW : WOk S) (h : Thr S o) : 0 ≤ o.2.2 ∧ o.2.2 ≤ 4294967295 := by
  have := (tab_ok hW o.1) _ (List.mem_of_getElem? h.2)
  exact ⟨by have h1 : 1 ≤ o.2.2 := this.2.2.1; omega, this.2.2.2⟩
theorem rel_y (hW : WOk S) (hT : Thr S o) (hy : 1 ≤ y ∧ y ≤ 3) (hn : S.T.length < 10000) : relE S o y = 0 ∧ 1 ≤ relA S o y ∧ relA S o y ≤ 3 ∧ (relS S o y).T.length = S.T.length + 1 := by
  obtain ⟨h1, h2, _⟩ := rel_ok (S := S) (o := o) (wy := y) hy hT hn
  have h3 := headD_bd hW.qb
  refine ⟨h1, by rw [h2]; exact h3.1, by rw [h2]; exact h3.2, ?_⟩
  rw [(rel_T h1).1, List.length_append]
  rfl
end
end Go.Proofs.YtehlamblpekmkaaGreatDoor

/-
  What holds of tables and worlds behind turns. No program in sight.
-/
namespace Go.Proofs.YtehlamblpekmkaaGreatDoor
set_option maxHeartbeats 4000000
theorem acqO_bd {S : Wst} (hW : WOk S) (k a : Int) : 0 ≤ (acqO S k a).2.2 ∧ (acqO S k a).2.2 ≤ 4294967295 := by
  by_cases h : acqE S k a = 0
  · exact thr_gen (wok_acq hW k a) (acq_thr hW h).1
  · unfold acqO
    rw [if_neg h]
    exact ⟨by decide, by decide⟩
end Go.Proofs.YtehlamblpekmkaaGreatDoor
