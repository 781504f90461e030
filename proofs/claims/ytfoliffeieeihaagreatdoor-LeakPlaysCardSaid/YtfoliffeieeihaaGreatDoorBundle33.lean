/-
  Numbers as texts, for reports. No program in sight.
-/
import Derived.Test.YtfoliffeieeihaaGreatDoorBundle30
import Derived.Test.YtfoliffeieeihaaGreatDoorBundle18
import Derived.Test.YtfoliffeieeihaaGreatDoorIta
import Derived.Lib.ItoaLen
import Derived.Test.YtfoliffeieeihaaGreatDoorBundle28
namespace Go.Proofs.YtfoliffeieeihaaGreatDoor
theorem dec_le (u : Nat) (h : u < 18446744073709551616) : 1 ≤ (Lib.decDigits u).length ∧ (Lib.decDigits u).length ≤ 20 := by
  rw [Lib.decDigits_length]
  exact ⟨Lib.nDigits_pos u, Lib.nDigits_le20 u h⟩
theorem nd_bd (u : Nat) (h : u < 18446744073709551616) : 1 ≤ Lib.nDigits u ∧ Lib.nDigits u ≤ 20 := ⟨Lib.nDigits_pos u, Lib.nDigits_le20 u h⟩
theorem dgs_le (z : Int) (h : z < 18446744073709551616) : 1 ≤ (dgs z).length ∧ (dgs z).length ≤ 20 := dec_le _ (by omega)
theorem itoa_dgs {z : Int} (h : 0 ≤ z) : Lib.itoa z = dgs z := by
  unfold Lib.itoa dgs
  rw [if_neg (by omega)]
theorem dgs_nat (u : Nat) : dgs (u : Int) = Lib.decDigits u := rfl
/-- The text of a resource, or nothing. -/
def otV (o : Ky) : List UInt8 := if outE o = 0 then otL o else []
theorem otL_len {o : Ky} (h1 : o.2.1 < 18446744073709551616) (h2 : o.2.2 < 18446744073709551616) : (otL o).length ≤ 42 := by
  have := (dgs_le o.2.1 h1).2
  have := (dgs_le o.2.2 h2).2
  unfold otL
  simp only [List.length_append, List.length_cons, List.length_nil]
  omega
/-- What a report's texts ask of the laid variables. -/
structure Ld (P : Program) (g : Nat) (wo : World) : Prop where
  pow : Lib.TabIs P wo "internal/strconv.uint64pow10" .u64 Lib.pow10Tab
  words : ∀ z : Nat, 2 ≤ z → z ≤ 4 → wo.cell? ⟨g, z, none⟩ = some (.string (St (wdL z)))
/-- What is true of each leak. -/
theorem lks_good {S : Rp} (hw : Rw S) {x : Lk} (hx : x ∈ lks S) : tagE x.tag = 0 ∧ outE x.out = 0 ∧ x.out.2.2 ≤ 4294967295 ∧ 0 ≤ x.at_ ∧ x.at_ ≤ 1099511627776 ∧ 2 ≤ x.st ∧ x.st ≤ 4 := by
  obtain ⟨i, a, h1, _, _, rfl⟩ := mem_lks.1 hx
  obtain ⟨hp, hs⟩ := hw.at_ a (List.mem_of_getElem? h1)
  obtain ⟨t, ht⟩ := Option.isSome_iff_exists.1 hs
  have hm := hw.ok _ ((gn_mem hw.nd).1 ht)
  have hst := st_val S.A a.out
  have e1 : (lkOf S a).tag = t := by
    show tagO S a.out = t
    unfold tagO
    rw [ht]
    rfl
  refine ⟨by rw [e1]; exact hm.2.1, hm.1, hm.2.2, hp.1, hp.2.1, ?_, ?_⟩
  · show 2 ≤ stOf S.A a.out
    omega
  · show stOf S.A a.out ≤ 4
    omega
theorem tag96 {t : List UInt8} (h : tagE t = 0) : t.length ≤ 96 := (gd_0 h).1
theorem wd_le (z : Int) : (wdL z).length ≤ 10 := by
  unfold wdL
  split
  · decide
  · split <;> decide
theorem ln_eq (x : Lk) (u : Nat) (z : Int) (hu : x.at_ = (u : Int)) (hz : x.st = z) (acc : List UInt8) : ((acc ++ (((qtL x.tag ++ [32]) ++ otL (x.out.1, x.out.2.1, x.out.2.2)) ++ [32])) ++ Lib.decDigits u) ++ (([32] ++ wdL z) ++ [10]) = acc ++ lnL x := by
  unfold lnL
  rw [hu, hz, dgs_nat]
  simp only [List.append_assoc]
theorem tx_step {L : List Lk} {i : Nat} {x : Lk} (h : L[i]? = some x) : txL (L.take (i + 1)) = txL (L.take i) ++ lnL x := by
  unfold txL
  rw [List.take_add_one, h, List.flatMap_append]
  simp
theorem tx_mono (L : List Lk) (k : Nat) : (txL (L.take k)).length ≤ (txL L).length := by
  have h : txL L = txL (L.take k) ++ txL (L.drop k) := by
    unfold txL
    rw [← List.flatMap_append, List.take_append_drop]
  rw [h, List.length_append]
  omega
theorem tx_many {S : Rp} {k : Nat} (h : 65536 < (txL ((lks S).take k)).length) : txE S = 10 ∧ txV S = [] := by
  have := tx_mono (lks S) k
  unfold txE txV
  rw [if_pos (by omega), if_pos (by omega)]
  exact ⟨rfl, rfl⟩
theorem tx_all {S : Rp} {k m : Nat} (hk : (lks S).length ≤ k) (h : (txL ((lks S).take k)).length = m) (hm : m ≤ 65536) : txE S = 0 ∧ txV S = txL ((lks S).take k) := by
  rw [List.take_of_length_le hk] at h ⊢
  unfold txE txV
  rw [if_neg (by omega), if_neg (by omega)]
  exact ⟨rfl, rfl⟩
end Go.Proofs.YtfoliffeieeihaaGreatDoor

/- Walks, printed by my generator l9.py. -/
namespace Go.Proofs.YtfoliffeieeihaaGreatDoor
def itRen : Go.Shelf.Ren := ⟨fun | 129 => 82 | 171 => 86 | 243 => 105 | 246 => 114 | 283 => 106 | 284 => 107 | 285 => 108 | 286 => 109 | 317 => 115 | 318 => 116 | 319 => 117 | 320 => 118 | 337 => 120 | 338 => 121 | n => n, fun | 0 => 0 | 2 => 2 | 3 => 3 | 4 => 4 | 5 => 5 | 9 => 9 | 20 => 20 | 37 => 79 | 46 => 100 | 51 => 29 | 53 => 114 | 171 => 146 | 173 => 148 | 212 => 157 | 213 => 158 | 232 => 160 | 233 => 161 | n => n, fun | 17 => 1 | 18 => 2 | 19 => 3 | n => n⟩
theorem itLay : LaysM.n171 Tryz.prog itRen where
  mixed := by kernel_rfl
  f129 := Tryz.func82.trans (congrArg some (by kernel_rfl))
  f171 := Tryz.func86.trans (congrArg some (by kernel_rfl))
  f243 := Tryz.func105.trans (congrArg some (by kernel_rfl))
  f246 := Tryz.func114.trans (congrArg some (by kernel_rfl))
  f283 := Tryz.func106.trans (congrArg some (by kernel_rfl))
  f284 := Tryz.func107.trans (congrArg some (by kernel_rfl))
  f285 := Tryz.func108.trans (congrArg some (by kernel_rfl))
  f286 := Tryz.func109.trans (congrArg some (by kernel_rfl))
  f317 := Tryz.func115.trans (congrArg some (by kernel_rfl))
  f318 := Tryz.func116.trans (congrArg some (by kernel_rfl))
  f319 := Tryz.func117.trans (congrArg some (by kernel_rfl))
  f320 := Tryz.func118.trans (congrArg some (by kernel_rfl))
  f337 := Tryz.func120.trans (congrArg some (by kernel_rfl))
  f338 := Tryz.func121.trans (congrArg some (by kernel_rfl))
  t0 := Tryz.underlying0
  a0 := Tryz.isAgg0
  z0 := Tryz.sizeOf0
  v0 := Tryz.zeroValue0
  t2 := Tryz.underlying2
  a2 := Tryz.isAgg2
  z2 := Tryz.sizeOf2
  v2 := Tryz.zeroValue2
  t3 := Tryz.underlying3
  a3 := Tryz.isAgg3
  z3 := Tryz.sizeOf3
  v3 := Tryz.zeroValue3
  t4 := Tryz.underlying4
  a4 := Tryz.isAgg4
  z4 := Tryz.sizeOf4
  v4 := Tryz.zeroValue4
  t5 := Tryz.underlying5
  a5 := Tryz.isAgg5
  z5 := Tryz.sizeOf5
  v5 := Tryz.zeroValue5
  t9 := Tryz.underlying9
  a9 := Tryz.isAgg9
  z9 := Tryz.sizeOf9
  v9 := Tryz.zeroValue9
  t20 := Tryz.underlying20
  a20 := Tryz.isAgg20
  z20 := Tryz.sizeOf20
  v20 := Tryz.zeroValue20
  t37 := Tryz.underlying79
  a37 := Tryz.isAgg79
  z37 := Tryz.sizeOf79
  v37 := Tryz.zeroValue79
  t46 := Tryz.underlying100
  a46 := Tryz.isAgg100
  z46 := Tryz.sizeOf100
  v46 := Tryz.zeroValue100
  t51 := Tryz.underlying29
  a51 := Tryz.isAgg29
  z51 := Tryz.sizeOf29
  v51 := Tryz.zeroValue29
  t53 := Tryz.underlying114
  a53 := Tryz.isAgg114
  z53 := Tryz.sizeOf114
  v53 := Tryz.zeroValue114
  t171 := Tryz.underlying146
  a171 := Tryz.isAgg146
  z171 := Tryz.sizeOf146
  v171 := Tryz.zeroValue146
  t173 := Tryz.underlying148
  a173 := Tryz.isAgg148
  z173 := Tryz.sizeOf148
  v173 := Tryz.zeroValue148
  t212 := Tryz.underlying157
  a212 := Tryz.isAgg157
  z212 := Tryz.sizeOf157
  v212 := Tryz.zeroValue157
  t213 := Tryz.underlying158
  a213 := Tryz.isAgg158
  z213 := Tryz.sizeOf158
  t232 := Tryz.underlying160
  a232 := Tryz.isAgg160
  z232 := Tryz.sizeOf160
  v232 := Tryz.zeroValue160
  t233 := Tryz.underlying161
  a233 := Tryz.isAgg161
  z233 := Tryz.sizeOf161
  v233 := Tryz.zeroValue161
  g17 := by kernel_rfl
  g18 := by kernel_rfl
  g19 := by kernel_rfl
  i0 := by kernel_rfl
  i2 := by kernel_rfl
  i3 := by kernel_rfl
  i4 := by kernel_rfl
  i5 := by kernel_rfl
  i9 := by kernel_rfl
  i20 := by kernel_rfl
  i37 := by kernel_rfl
  i46 := by kernel_rfl
  i51 := by kernel_rfl
  i53 := by kernel_rfl
  i171 := by kernel_rfl
  i173 := by kernel_rfl
  i212 := by kernel_rfl
  i232 := by kernel_rfl
  i233 := by kernel_rfl
  m17 := by kernel_rfl
  m18 := by kernel_rfl
  m19 := by kernel_rfl
theorem ndLay : LaysM.n284 Tryz.prog itRen where
  mixed := by kernel_rfl
  f129 := Tryz.func82.trans (congrArg some (by kernel_rfl))
  f284 := Tryz.func107.trans (congrArg some (by kernel_rfl))
  f317 := Tryz.func115.trans (congrArg some (by kernel_rfl))
  f318 := Tryz.func116.trans (congrArg some (by kernel_rfl))
  t0 := Tryz.underlying0
  a0 := Tryz.isAgg0
  z0 := Tryz.sizeOf0
  v0 := Tryz.zeroValue0
  t3 := Tryz.underlying3
  a3 := Tryz.isAgg3
  z3 := Tryz.sizeOf3
  v3 := Tryz.zeroValue3
  t4 := Tryz.underlying4
  a4 := Tryz.isAgg4
  z4 := Tryz.sizeOf4
  v4 := Tryz.zeroValue4
  t5 := Tryz.underlying5
  a5 := Tryz.isAgg5
  z5 := Tryz.sizeOf5
  v5 := Tryz.zeroValue5
  t9 := Tryz.underlying9
  a9 := Tryz.isAgg9
  z9 := Tryz.sizeOf9
  v9 := Tryz.zeroValue9
  t46 := Tryz.underlying100
  a46 := Tryz.isAgg100
  z46 := Tryz.sizeOf100
  v46 := Tryz.zeroValue100
  t53 := Tryz.underlying114
  a53 := Tryz.isAgg114
  z53 := Tryz.sizeOf114
  v53 := Tryz.zeroValue114
  t212 := Tryz.underlying157
  a212 := Tryz.isAgg157
  z212 := Tryz.sizeOf157
  v212 := Tryz.zeroValue157
  g17 := by kernel_rfl
  i0 := by kernel_rfl
  i3 := by kernel_rfl
  i4 := by kernel_rfl
  i5 := by kernel_rfl
  i9 := by kernel_rfl
  i46 := by kernel_rfl
  i53 := by kernel_rfl
  i212 := by kernel_rfl
  m17 := by kernel_rfl
theorem fbLay : Lays.n285 Tryz.prog itRen where
  mixed := by kernel_rfl
  f285 := Tryz.func108.trans (congrArg some (by kernel_rfl))
  t0 := Tryz.underlying0
  a0 := Tryz.isAgg0
  z0 := Tryz.sizeOf0
  v0 := Tryz.zeroValue0
  t3 := Tryz.underlying3
  a3 := Tryz.isAgg3
  z3 := Tryz.sizeOf3
  v3 := Tryz.zeroValue3
  t4 := Tryz.underlying4
  a4 := Tryz.isAgg4
  z4 := Tryz.sizeOf4
  v4 := Tryz.zeroValue4
  t5 := Tryz.underlying5
  a5 := Tryz.isAgg5
  z5 := Tryz.sizeOf5
  v5 := Tryz.zeroValue5
  t9 := Tryz.underlying9
  a9 := Tryz.isAgg9
  z9 := Tryz.sizeOf9
  v9 := Tryz.zeroValue9
  t37 := Tryz.underlying79
  a37 := Tryz.isAgg79
  z37 := Tryz.sizeOf79
  v37 := Tryz.zeroValue79
  t51 := Tryz.underlying29
  a51 := Tryz.isAgg29
  z51 := Tryz.sizeOf29
  v51 := Tryz.zeroValue29
  t53 := Tryz.underlying114
  a53 := Tryz.isAgg114
  z53 := Tryz.sizeOf114
  v53 := Tryz.zeroValue114
theorem smLay : Lays.n283 Tryz.prog itRen where
  mixed := by kernel_rfl
  f283 := Tryz.func106.trans (congrArg some (by kernel_rfl))
  t3 := Tryz.underlying3
  a3 := Tryz.isAgg3
  z3 := Tryz.sizeOf3
  v3 := Tryz.zeroValue3
  t4 := Tryz.underlying4
  a4 := Tryz.isAgg4
  z4 := Tryz.sizeOf4
  v4 := Tryz.zeroValue4
  t9 := Tryz.underlying9
  a9 := Tryz.isAgg9
  z9 := Tryz.sizeOf9
  v9 := Tryz.zeroValue9
theorem nd_ht (u : Nat) (h1 : 1 ≤ u) (h2 : u < 18446744073709551616) (wo : World) (hg : Ld Tryz.prog 0 wo) : HT Tryz.prog 107 [.int .u64 u] [Old wo] fun v K => v = .int .i64 (Lib.nDigits u : Int) ∧ K = [Old wo] := nd_gen ndLay u h1 h2 wo hg.pow
theorem sm_ht (u : Nat) (h : u < 100) : HT Tryz.prog 106 [.int .i64 u] [] fun v K => v = .string (St (Lib.decDigits u)) ∧ K = [] := sm_gen smLay u h
theorem fb_ht (b u : Nat) (h24 : Lib.nDigits u ≤ 24) (hu64 : u < 18446744073709551616) : HT Tryz.prog 108 [.slice (some ⟨b, 0, none⟩) (Lib.nDigits u) 24, .int .u64 u] [Cl b (List.replicate 24 (Value.int .u8 0)) 146]
    fun v K => v = .tuple #[] ∧ K = [Sl 146 1 (some ⟨b, 0, none⟩) (Lib.nDigits u) 24 (fl eB (Lib.decDigits u))] := fb_gen fbLay 146 b _ u rfl h24 hu64
theorem itoa_ht (z : Int) (h0 : 0 ≤ z) (h1 : z ≤ 9223372036854775807) (wo : World) (hg : Ld Tryz.prog 0 wo) : HT Tryz.prog 86 [.int .i64 z] [Old wo] fun v K => v = .string (St (dgs z)) ∧ K = [Old wo] := by
  rw [← itoa_dgs h0]
  exact itoa_gen itLay z (by omega) h1 wo hg.pow
set_option maxHeartbeats 4000000 in
theorem apu_ht (p : Option Addr) (m c : Nat) (l : List UInt8) (u : Nat) (hu : u < 9223372036854775808) (hm : m ≤ 1099511627776) (wo : World) (hg : Ld Tryz.prog 0 wo) : HT Tryz.prog 87 [.slice p m c, .int .u64 (((u : Nat) : Int)), iV 10] [Sl 5 1 p m c (fl eB l), Old wo] (fun v K => ∃ (p2 : Option Addr) (c2 : Nat), v = .slice p2 (m + (Lib.decDigits u).length) c2 ∧ K = [Sl 5 1 p2 (m + (Lib.decDigits u).length) c2 (fl eB (l ++ Lib.decDigits u)), Old wo]) := by
 have hd_ := dec_le u (by omega)
 have hn_ := nd_bd u (by omega)
 refine hiS Tryz.func87 Tryz.ntmps87 fun g w0 R h0 => go [.s 2 1] ?_
 by_cases c10 : (u : Int) < 100
 ·
  refine go [.v 2 1 (oT ((u : Int) < 100)), .v 3 2 (oIr (u : Int))] <| cl0 Tryz.call106 (sm_ht u (by omega)) h0 fun _ h12 => ?_
  refine actG ?_
  refine an_append_str (d := 17) (s := (Operand.tmp 13)) (x := (Operand.tmp 16)) (p := p) (m := m) (c := c) (l2 := (Lib.decDigits u)) (by kernel_rfl) (by kernel_rfl) rfl Tryz.underlying79 Tryz.underlying9 (by kernel_rfl) (by kernel_rfl) (by kernel_rfl) h12 (by omega) (m + ((Lib.decDigits u).length)) (by omega) ?_
  intro p13 cap14 _ h16
  obtain ⟨hn17, hn18⟩ := sl_le h16
  refine nxA <| go [] ?_
  exact en (.slice p13 (m + ((Lib.decDigits u).length)) cap14) [] ⟨_, _, rfl, ⟨p13, cap14, rfl, rfl⟩, h16⟩
 refine go [.v 2 1 (oF ((u : Int) < 100))] <| nP 146 [yV 0, yV 0, yV 0, yV 0, yV 0, yV 0, yV 0, yV 0, yV 0, yV 0, yV 0, yV 0, yV 0, yV 0, yV 0, yV 0, yV 0, yV 0, yV 0, yV 0, yV 0, yV 0, yV 0, yV 0] h0 (fun r19 _ h21 => ?_)
 have h22 := tk4 (sf3 (sf2 (sf2 (sf3 h21))))
 refine go [] <| cl1 Tryz.call107 (nd_ht u (by omega) (by omega) wo hg) h22 fun _ h24 => go [.s 6 1] <| lwP (.slice (some ⟨r19, 0, none⟩) (((Lib.nDigits u))) 24) (law_sliceArr (x := (Operand.tmp 7)) (lo := none) (hi := (some (Operand.tmp 20))) (b := r19) (off := 0) (by kernel_rfl) Tryz.underlying146 1 (by kernel_rfl) 0 ((((Lib.nDigits u) : Nat) : Int)) 0 (((Lib.nDigits u))) (by kernel_rfl) rfl (show fe _ _ (Operand.tmp 20) = _ from by kernel_rfl) (by omega) (by omega) (by omega) (by omega) 0 (by split <;> omega) (((Lib.nDigits u))) 24 (by omega) (by omega) _) ?_
 have h25 := tk4 (sf3 (sf2 (sf3 (sf3 h24))))
 refine go [] <| cl1 Tryz.call108 (fb_ht r19 u (by omega) (by omega)) h25 fun _ h27 => go [.s 7 2] <| lwP (.slice (some ⟨r19, 0, none⟩) (((Lib.nDigits u))) 24) (law_sliceArr (x := (Operand.tmp 7)) (lo := none) (hi := (some (Operand.tmp 25))) (b := r19) (off := 0) (by kernel_rfl) Tryz.underlying146 1 (by kernel_rfl) 0 ((((Lib.nDigits u) : Nat) : Int)) 0 (((Lib.nDigits u))) (by kernel_rfl) rfl (show fe _ _ (Operand.tmp 25) = _ from by kernel_rfl) (by omega) (by omega) (by omega) (by omega) 0 (by split <;> omega) (((Lib.nDigits u))) 24 (by omega) (by omega) _) ?_
 have h28 := tk4 (sf3 (sf2 (sf2 (sf3 h27))))
 refine actG ?_
 refine an_append_gv (d := 27) (sz := 1) (s := (Operand.tmp 24)) (x := (Operand.tmp 26)) (z := yV 0) (p := p) (p2 := (some ⟨r19, 0, none⟩)) (m := m) (c := c) (k := (((Lib.nDigits u)))) (c2 := 24) (by_ := 1) (by kernel_rfl) (by kernel_rfl) rfl Tryz.underlying79 (by kernel_rfl) rfl (by decide) (by kernel_rfl) (by kernel_rfl) h28 1 rfl (fl eB (Lib.decDigits u)) (gv_sl _ _ _) (by rw [fl_len eB_ok, show ((Lib.decDigits u)).length = ((Lib.nDigits u)) from (Lib.decDigits_length u)]) (fl_one eB_ok _) (by omega) (by omega) (m + ((Lib.nDigits u))) (by omega) ?_
 intro p29 cap30 w31 h32
 have h33 : sat g w31 [Sl 5 1 p29 (m + ((Lib.nDigits u))) cap30 (fl eB (l ++ (Lib.decDigits u))), Sl 146 1 (some ⟨r19, 0, none⟩) (((Lib.nDigits u))) 24 (fl eB (Lib.decDigits u)), Old wo, R] := sat_imp h32 (fun _ hh => by rw [fl_app]; exact hh)
 obtain ⟨hn34, hn35⟩ := sl_le h33
 refine nxA <| go [] ?_
 exact en (.slice p29 (m + ((Lib.nDigits u))) cap30) [] ⟨_, [Sl 5 1 p29 (m + ((Lib.nDigits u))) cap30 (fl eB (l ++ (Lib.decDigits u))), Old wo], rfl, ⟨p29, cap30, by rw [Lib.decDigits_length], by rw [Lib.decDigits_length]⟩, (tk3 (sf2 (sf2 (sf3 (tk4 (sf3 (sf3 (sf2 (sf3 h33)))))))))⟩

set_option maxHeartbeats 4000000 in
theorem api0_ht (p : Option Addr) (m c : Nat) (l : List UInt8) (u : Nat) (hu : u < 9223372036854775808) (hm : m ≤ 1099511627776) (wo : World) (hg : Ld Tryz.prog 0 wo) : HT Tryz.prog 65 [.slice p m c, iV (((u : Nat) : Int)), iV 10] [Sl 5 1 p m c (fl eB l), Old wo] (fun v K => ∃ (p2 : Option Addr) (c2 : Nat), v = .slice p2 (m + (Lib.decDigits u).length) c2 ∧ K = [Sl 5 1 p2 (m + (Lib.decDigits u).length) c2 (fl eB (l ++ Lib.decDigits u)), Old wo]) := by
 have hd_ := dec_le u (by omega)
 have hn_ := nd_bd u (by omega)
 refine hiS Tryz.func65 Tryz.ntmps65 fun g w0 R h0 => go [.v 1 1 (oLr (u : Int)), .v 2 1 (oF ((u : Int) < 0))] <| cP Tryz.call87 (apu_ht p m c l u (by omega) (by omega) wo hg) h0 ?_
 rintro v K _ (⟨p10, cap11, rfl, rfl⟩) h13
 have h14 := ap2 h13
 have hd15 := dec_le u (by omega)
 refine go [] ?_
 exact en (.slice p10 (m + ((Lib.decDigits u).length)) cap11) [] ⟨_, _, rfl, ⟨p10, cap11, rfl, rfl⟩, h14⟩

set_option maxHeartbeats 4000000 in
theorem api_ht (p : Option Addr) (m c : Nat) (l : List UInt8) (u : Nat) (hu : u < 9223372036854775808) (hm : m ≤ 1099511627776) (wo : World) (hg : Ld Tryz.prog 0 wo) : HT Tryz.prog 45 [.slice p m c, iV (((u : Nat) : Int)), iV 10] [Sl 5 1 p m c (fl eB l), Old wo] (fun v K => ∃ (p2 : Option Addr) (c2 : Nat), v = .slice p2 (m + (Lib.decDigits u).length) c2 ∧ K = [Sl 5 1 p2 (m + (Lib.decDigits u).length) c2 (fl eB (l ++ Lib.decDigits u)), Old wo]) := by
 have hd_ := dec_le u (by omega)
 have hn_ := nd_bd u (by omega)
 refine hiS Tryz.func45 Tryz.ntmps45 fun g w0 R h0 => go [] <| cP Tryz.call65 (api0_ht p m c l u (by omega) (by omega) wo hg) h0 ?_
 rintro v K _ (⟨p10, cap11, rfl, rfl⟩) h13
 have h14 := ap2 h13
 have hd15 := dec_le u (by omega)
 refine go [] ?_
 exact en (.slice p10 (m + ((Lib.decDigits u).length)) cap11) [] ⟨_, _, rfl, ⟨p10, cap11, rfl, rfl⟩, h14⟩

set_option maxHeartbeats 4000000 in
theorem lett_ht  : HT Tryz.prog 85 [] [] (fun v K => ∃ r : Nat, v = .slice (some ⟨r, 0, none⟩) 4 4 ∧ K = [Cl r [.string (St []), .string (St [102]), .string (St [98]), .string (St [108])] 9]) := by
 refine hiS Tryz.func85 Tryz.ntmps85 fun g w0 R h0 => go [] <| nG (fun q_ => .slice (some ⟨q_, 0, none⟩) 4 4) 9 [.string (St []), .string (St [102]), .string (St [98]), .string (St [108])] h0 (fun r10 _ h12 => ⟨kd [], ?_⟩)
 refine go [] ?_
 exact en (.slice (some ⟨r10, 0, none⟩) 4 4) [] ⟨_, _, rfl, ⟨r10, rfl, rfl⟩, h12⟩

set_option maxHeartbeats 4000000 in
theorem ntx1_ht (y z : Int) (hy0 : 0 ≤ y) (hy1 : y ≤ 63) (hz0 : 0 ≤ z) (hz1 : z ≤ 4294967295) (wo : World) (hg : Ld Tryz.prog 0 wo) : HT Tryz.prog 64 [.agg #[iV 1, iV y, iV z], .string (St [58])] [Old wo] (fun v K => v = .string (St (otL (1, y, z))) ∧ K = [Old wo]) := by
 refine hiS Tryz.func64 Tryz.ntmps64 fun g w0 R h0 => go [] <| nP 89 [iV 1, iV y, iV z] h0 (fun r10 _ h12 => ?_)
 refine go [] <| dw (fls [1, 2, 5, 6, 9, 11, 12] (Tr.an 0 (fls [3, 4] (Tr.an 7 (fls [8, 10] (Tr.an 13 (fls [14, 15] Tr.nil))))))) h12 fun _ h14 => go [.s 1 1] <| lw (pV r10) (fun _ => law_indexArr (x := (Operand.tmp 2)) (i := (Operand.const (iV 0))) (b := r10) (off := 0) (z := 0) (by kernel_rfl) Tryz.underlying89 1 (by kernel_rfl) 0 (by kernel_rfl) (by kernel_rfl) (by omega) (by omega) 0 (by omega) _) <| go [rd 1 2 0 0 1 h14, .s 1 5] <| lw (.pointer (some ⟨r10, 1, none⟩)) (fun _ => law_indexArr (x := (Operand.tmp 2)) (i := (Operand.const (iV 1))) (b := r10) (off := 0) (z := 1) (by kernel_rfl) Tryz.underlying89 1 (by kernel_rfl) 1 (by kernel_rfl) (by kernel_rfl) (by omega) (by omega) 1 (by omega) _) <| go [rd 1 6 0 1 1 h14, .s 1 11] <| lw (.pointer (some ⟨r10, 2, none⟩)) (fun _ => law_indexArr (x := (Operand.tmp 2)) (i := (Operand.const (iV 2))) (b := r10) (off := 0) (z := 2) (by kernel_rfl) Tryz.underlying89 1 (by kernel_rfl) 2 (by kernel_rfl) (by kernel_rfl) (by omega) (by omega) 2 (by omega) _) <| go [rd 1 12 0 2 1 h14] <| cG Tryz.call85 (lett_ht) h14 ?_
 rintro v K _ (⟨r15, rfl, rfl⟩) h17
 have h18 := ap1 h17
 refine ⟨kd [rd 0 12 1 2 1 h18, rd 0 6 1 1 1 h18, rd 0 2 1 0 1 h18], ?_⟩
 refine lw (.pointer (some ⟨r15, 1, none⟩)) (fun _ => law_indexSl (x := (Operand.tmp 5)) (i := (Operand.tmp 7)) (b := r15) (off := 0) (z := 1) (len := 4) (cap := 4) (by kernel_rfl) Tryz.underlying49 1 (by kernel_rfl) 1 (by kernel_rfl) (by kernel_rfl) (by omega) (by omega) 1 (by omega) _) ?_
 have h19 := tk4 (sf3 (sf2 (sf2 (sf3 h18))))
 refine go [rd 1 4 0 1 1 h18] <| cw1 Tryz.call86 (itoa_ht y (by omega) (by omega) wo hg) h19 fun _ h21 => ?_
 have hd22 := dgs_le y (by omega)
 refine ⟨kd [rd 0 4 1 1 1 h21, rd 0 12 2 2 1 h21, rd 0 2 2 0 1 h21], ?_⟩
 refine lw (.string (St ([102] ++ (dgs y)))) (fun _ => law_catStr (t := 9) (x := (Operand.tmp 9)) (y := (Operand.tmp 12)) (a := [102]) (b := (dgs y)) (by kernel_rfl) (by kernel_rfl) (by kernel_rfl) (by simp only [List.length_cons, List.length_nil]; omega) _) ?_
 refine lw (.string (St (([102] ++ (dgs y)) ++ [58]))) (fun _ => law_catStr (t := 9) (x := (Operand.tmp 13)) (y := (Operand.tmp 14)) (a := ([102] ++ (dgs y))) (b := [58]) (by kernel_rfl) (by kernel_rfl) (by kernel_rfl) (by have h0_ := ((List.length_append.trans ((congr (congrArg HAdd.hAdd (rfl : ([102] : List UInt8).length = 1)) (rfl : ((dgs y) : List UInt8).length = ((dgs y).length))).trans (show 1 + (((dgs y).length)) = ((dgs y).length) + 1 from by omega))) : (([102] ++ (dgs y)) : List UInt8).length = ((dgs y).length) + 1); simp only [List.length_cons, List.length_nil]; omega) _) ?_
 refine cw1 Tryz.call86 (itoa_ht z (by omega) (by omega) wo hg) h21 fun _ h24 => ?_
 have hd25 := dgs_le z (by omega)
 refine ⟨kd [rd 0 4 1 1 1 h24, rd 0 2 2 0 1 h24], ?_⟩
 refine lw (.string (St ((([102] ++ (dgs y)) ++ [58]) ++ (dgs z)))) (fun _ => law_catStr (t := 9) (x := (Operand.tmp 15)) (y := (Operand.tmp 18)) (a := (([102] ++ (dgs y)) ++ [58])) (b := (dgs z)) (by kernel_rfl) (by kernel_rfl) (by kernel_rfl) (by have h0_ := ((List.length_append.trans ((congr (congrArg HAdd.hAdd ((List.length_append.trans ((congr (congrArg HAdd.hAdd (rfl : ([102] : List UInt8).length = 1)) (rfl : ((dgs y) : List UInt8).length = ((dgs y).length))).trans (show 1 + (((dgs y).length)) = ((dgs y).length) + 1 from by omega))) : (([102] ++ (dgs y)) : List UInt8).length = ((dgs y).length) + 1)) (rfl : ([58] : List UInt8).length = 1)).trans (show (((dgs y).length) + 1) + 1 = ((dgs y).length) + 2 from by omega))) : ((([102] ++ (dgs y)) ++ [58]) : List UInt8).length = ((dgs y).length) + 2); omega) _) ?_
 refine go [] ?_
 exact en (.string (St ((([102] ++ (dgs y)) ++ [58]) ++ (dgs z)))) [] ⟨_, _, rfl, ⟨rfl, rfl⟩, (tk2 (sf1 (sf3 h24)))⟩

set_option maxHeartbeats 4000000 in
theorem ntx2_ht (y z : Int) (hy0 : 0 ≤ y) (hy1 : y ≤ 63) (hz0 : 0 ≤ z) (hz1 : z ≤ 4294967295) (wo : World) (hg : Ld Tryz.prog 0 wo) : HT Tryz.prog 64 [.agg #[iV 2, iV y, iV z], .string (St [58])] [Old wo] (fun v K => v = .string (St (otL (2, y, z))) ∧ K = [Old wo]) := by
 refine hiS Tryz.func64 Tryz.ntmps64 fun g w0 R h0 => go [] <| nP 89 [iV 2, iV y, iV z] h0 (fun r10 _ h12 => ?_)
 refine go [] <| dw (fls [1, 2, 5, 6, 9, 11, 12] (Tr.an 0 (fls [3, 4] (Tr.an 7 (fls [8, 10] (Tr.an 13 (fls [14, 15] Tr.nil))))))) h12 fun _ h14 => go [.s 1 1] <| lw (pV r10) (fun _ => law_indexArr (x := (Operand.tmp 2)) (i := (Operand.const (iV 0))) (b := r10) (off := 0) (z := 0) (by kernel_rfl) Tryz.underlying89 1 (by kernel_rfl) 0 (by kernel_rfl) (by kernel_rfl) (by omega) (by omega) 0 (by omega) _) <| go [rd 1 2 0 0 1 h14, .s 1 5] <| lw (.pointer (some ⟨r10, 1, none⟩)) (fun _ => law_indexArr (x := (Operand.tmp 2)) (i := (Operand.const (iV 1))) (b := r10) (off := 0) (z := 1) (by kernel_rfl) Tryz.underlying89 1 (by kernel_rfl) 1 (by kernel_rfl) (by kernel_rfl) (by omega) (by omega) 1 (by omega) _) <| go [rd 1 6 0 1 1 h14, .s 1 11] <| lw (.pointer (some ⟨r10, 2, none⟩)) (fun _ => law_indexArr (x := (Operand.tmp 2)) (i := (Operand.const (iV 2))) (b := r10) (off := 0) (z := 2) (by kernel_rfl) Tryz.underlying89 1 (by kernel_rfl) 2 (by kernel_rfl) (by kernel_rfl) (by omega) (by omega) 2 (by omega) _) <| go [rd 1 12 0 2 1 h14] <| cG Tryz.call85 (lett_ht) h14 ?_
 rintro v K _ (⟨r15, rfl, rfl⟩) h17
 have h18 := ap1 h17
 refine ⟨kd [rd 0 12 1 2 1 h18, rd 0 6 1 1 1 h18, rd 0 2 1 0 1 h18], ?_⟩
 refine lw (.pointer (some ⟨r15, 2, none⟩)) (fun _ => law_indexSl (x := (Operand.tmp 5)) (i := (Operand.tmp 7)) (b := r15) (off := 0) (z := 2) (len := 4) (cap := 4) (by kernel_rfl) Tryz.underlying49 1 (by kernel_rfl) 2 (by kernel_rfl) (by kernel_rfl) (by omega) (by omega) 2 (by omega) _) ?_
 have h19 := tk4 (sf3 (sf2 (sf2 (sf3 h18))))
 refine go [rd 1 4 0 2 1 h18] <| cw1 Tryz.call86 (itoa_ht y (by omega) (by omega) wo hg) h19 fun _ h21 => ?_
 have hd22 := dgs_le y (by omega)
 refine ⟨kd [rd 0 4 1 2 1 h21, rd 0 12 2 2 1 h21, rd 0 2 2 0 1 h21], ?_⟩
 refine lw (.string (St ([98] ++ (dgs y)))) (fun _ => law_catStr (t := 9) (x := (Operand.tmp 9)) (y := (Operand.tmp 12)) (a := [98]) (b := (dgs y)) (by kernel_rfl) (by kernel_rfl) (by kernel_rfl) (by simp only [List.length_cons, List.length_nil]; omega) _) ?_
 refine lw (.string (St (([98] ++ (dgs y)) ++ [58]))) (fun _ => law_catStr (t := 9) (x := (Operand.tmp 13)) (y := (Operand.tmp 14)) (a := ([98] ++ (dgs y))) (b := [58]) (by kernel_rfl) (by kernel_rfl) (by kernel_rfl) (by have h0_ := ((List.length_append.trans ((congr (congrArg HAdd.hAdd (rfl : ([98] : List UInt8).length = 1)) (rfl : ((dgs y) : List UInt8).length = ((dgs y).length))).trans (show 1 + (((dgs y).length)) = ((dgs y).length) + 1 from by omega))) : (([98] ++ (dgs y)) : List UInt8).length = ((dgs y).length) + 1); simp only [List.length_cons, List.length_nil]; omega) _) ?_
 refine cw1 Tryz.call86 (itoa_ht z (by omega) (by omega) wo hg) h21 fun _ h24 => ?_
 have hd25 := dgs_le z (by omega)
 refine ⟨kd [rd 0 4 1 2 1 h24, rd 0 2 2 0 1 h24], ?_⟩
 refine lw (.string (St ((([98] ++ (dgs y)) ++ [58]) ++ (dgs z)))) (fun _ => law_catStr (t := 9) (x := (Operand.tmp 15)) (y := (Operand.tmp 18)) (a := (([98] ++ (dgs y)) ++ [58])) (b := (dgs z)) (by kernel_rfl) (by kernel_rfl) (by kernel_rfl) (by have h0_ := ((List.length_append.trans ((congr (congrArg HAdd.hAdd ((List.length_append.trans ((congr (congrArg HAdd.hAdd (rfl : ([98] : List UInt8).length = 1)) (rfl : ((dgs y) : List UInt8).length = ((dgs y).length))).trans (show 1 + (((dgs y).length)) = ((dgs y).length) + 1 from by omega))) : (([98] ++ (dgs y)) : List UInt8).length = ((dgs y).length) + 1)) (rfl : ([58] : List UInt8).length = 1)).trans (show (((dgs y).length) + 1) + 1 = ((dgs y).length) + 2 from by omega))) : ((([98] ++ (dgs y)) ++ [58]) : List UInt8).length = ((dgs y).length) + 2); omega) _) ?_
 refine go [] ?_
 exact en (.string (St ((([98] ++ (dgs y)) ++ [58]) ++ (dgs z)))) [] ⟨_, _, rfl, ⟨rfl, rfl⟩, (tk2 (sf1 (sf3 h24)))⟩

set_option maxHeartbeats 4000000 in
theorem ntx3_ht (y z : Int) (hy0 : 0 ≤ y) (hy1 : y ≤ 63) (hz0 : 0 ≤ z) (hz1 : z ≤ 4294967295) (wo : World) (hg : Ld Tryz.prog 0 wo) : HT Tryz.prog 64 [.agg #[iV 3, iV y, iV z], .string (St [58])] [Old wo] (fun v K => v = .string (St (otL (3, y, z))) ∧ K = [Old wo]) := by
 refine hiS Tryz.func64 Tryz.ntmps64 fun g w0 R h0 => go [] <| nP 89 [iV 3, iV y, iV z] h0 (fun r10 _ h12 => ?_)
 refine go [] <| dw (fls [1, 2, 5, 6, 9, 11, 12] (Tr.an 0 (fls [3, 4] (Tr.an 7 (fls [8, 10] (Tr.an 13 (fls [14, 15] Tr.nil))))))) h12 fun _ h14 => go [.s 1 1] <| lw (pV r10) (fun _ => law_indexArr (x := (Operand.tmp 2)) (i := (Operand.const (iV 0))) (b := r10) (off := 0) (z := 0) (by kernel_rfl) Tryz.underlying89 1 (by kernel_rfl) 0 (by kernel_rfl) (by kernel_rfl) (by omega) (by omega) 0 (by omega) _) <| go [rd 1 2 0 0 1 h14, .s 1 5] <| lw (.pointer (some ⟨r10, 1, none⟩)) (fun _ => law_indexArr (x := (Operand.tmp 2)) (i := (Operand.const (iV 1))) (b := r10) (off := 0) (z := 1) (by kernel_rfl) Tryz.underlying89 1 (by kernel_rfl) 1 (by kernel_rfl) (by kernel_rfl) (by omega) (by omega) 1 (by omega) _) <| go [rd 1 6 0 1 1 h14, .s 1 11] <| lw (.pointer (some ⟨r10, 2, none⟩)) (fun _ => law_indexArr (x := (Operand.tmp 2)) (i := (Operand.const (iV 2))) (b := r10) (off := 0) (z := 2) (by kernel_rfl) Tryz.underlying89 1 (by kernel_rfl) 2 (by kernel_rfl) (by kernel_rfl) (by omega) (by omega) 2 (by omega) _) <| go [rd 1 12 0 2 1 h14] <| cG Tryz.call85 (lett_ht) h14 ?_
 rintro v K _ (⟨r15, rfl, rfl⟩) h17
 have h18 := ap1 h17
 refine ⟨kd [rd 0 12 1 2 1 h18, rd 0 6 1 1 1 h18, rd 0 2 1 0 1 h18], ?_⟩
 refine lw (.pointer (some ⟨r15, 3, none⟩)) (fun _ => law_indexSl (x := (Operand.tmp 5)) (i := (Operand.tmp 7)) (b := r15) (off := 0) (z := 3) (len := 4) (cap := 4) (by kernel_rfl) Tryz.underlying49 1 (by kernel_rfl) 3 (by kernel_rfl) (by kernel_rfl) (by omega) (by omega) 3 (by omega) _) ?_
 have h19 := tk4 (sf3 (sf2 (sf2 (sf3 h18))))
 refine go [rd 1 4 0 3 1 h18] <| cw1 Tryz.call86 (itoa_ht y (by omega) (by omega) wo hg) h19 fun _ h21 => ?_
 have hd22 := dgs_le y (by omega)
 refine ⟨kd [rd 0 4 1 3 1 h21, rd 0 12 2 2 1 h21, rd 0 2 2 0 1 h21], ?_⟩
 refine lw (.string (St ([108] ++ (dgs y)))) (fun _ => law_catStr (t := 9) (x := (Operand.tmp 9)) (y := (Operand.tmp 12)) (a := [108]) (b := (dgs y)) (by kernel_rfl) (by kernel_rfl) (by kernel_rfl) (by simp only [List.length_cons, List.length_nil]; omega) _) ?_
 refine lw (.string (St (([108] ++ (dgs y)) ++ [58]))) (fun _ => law_catStr (t := 9) (x := (Operand.tmp 13)) (y := (Operand.tmp 14)) (a := ([108] ++ (dgs y))) (b := [58]) (by kernel_rfl) (by kernel_rfl) (by kernel_rfl) (by have h0_ := ((List.length_append.trans ((congr (congrArg HAdd.hAdd (rfl : ([108] : List UInt8).length = 1)) (rfl : ((dgs y) : List UInt8).length = ((dgs y).length))).trans (show 1 + (((dgs y).length)) = ((dgs y).length) + 1 from by omega))) : (([108] ++ (dgs y)) : List UInt8).length = ((dgs y).length) + 1); simp only [List.length_cons, List.length_nil]; omega) _) ?_
 refine cw1 Tryz.call86 (itoa_ht z (by omega) (by omega) wo hg) h21 fun _ h24 => ?_
 have hd25 := dgs_le z (by omega)
 refine ⟨kd [rd 0 4 1 3 1 h24, rd 0 2 2 0 1 h24], ?_⟩
 refine lw (.string (St ((([108] ++ (dgs y)) ++ [58]) ++ (dgs z)))) (fun _ => law_catStr (t := 9) (x := (Operand.tmp 15)) (y := (Operand.tmp 18)) (a := (([108] ++ (dgs y)) ++ [58])) (b := (dgs z)) (by kernel_rfl) (by kernel_rfl) (by kernel_rfl) (by have h0_ := ((List.length_append.trans ((congr (congrArg HAdd.hAdd ((List.length_append.trans ((congr (congrArg HAdd.hAdd (rfl : ([108] : List UInt8).length = 1)) (rfl : ((dgs y) : List UInt8).length = ((dgs y).length))).trans (show 1 + (((dgs y).length)) = ((dgs y).length) + 1 from by omega))) : (([108] ++ (dgs y)) : List UInt8).length = ((dgs y).length) + 1)) (rfl : ([58] : List UInt8).length = 1)).trans (show (((dgs y).length) + 1) + 1 = ((dgs y).length) + 2 from by omega))) : ((([108] ++ (dgs y)) ++ [58]) : List UInt8).length = ((dgs y).length) + 2); omega) _) ?_
 refine go [] ?_
 exact en (.string (St ((([108] ++ (dgs y)) ++ [58]) ++ (dgs z)))) [] ⟨_, _, rfl, ⟨rfl, rfl⟩, (tk2 (sf1 (sf3 h24)))⟩

theorem ntx_ht (x y z : Int) (hx : 1 ≤ x ∧ x ≤ 3) (hy0 : 0 ≤ y) (hy1 : y ≤ 63) (hz0 : 0 ≤ z) (hz1 : z ≤ 4294967295) (wo : World) (hg : Ld Tryz.prog 0 wo) : HT Tryz.prog 64 [.agg #[iV x, iV y, iV z], .string (St [58])] [Old wo] fun v K => v = Value.string (St (otL (x, y, z))) ∧ K = [Old wo] := by
  have : x = 1 ∨ x = 2 ∨ x = 3 := by omega
  rcases this with rfl | rfl | rfl
  · exact ntx1_ht y z hy0 hy1 hz0 hz1 wo hg
  · exact ntx2_ht y z hy0 hy1 hz0 hz1 wo hg
  · exact ntx3_ht y z hy0 hy1 hz0 hz1 wo hg

set_option maxHeartbeats 4000000 in
theorem otx_ht (x y z : Int) (hz0 : 0 ≤ z) (hz1 : z ≤ 4294967295) (wo : World) (hg : Ld Tryz.prog 0 wo) : HT Tryz.prog 44 [.agg #[iV x, iV y, uV z]] [Old wo] (fun v K => v = .tuple #[.string (St (otV (x, y, z))), iV (outE (x, y, z))] ∧ K = [Old wo]) := by
 refine hiS Tryz.func44 Tryz.ntmps44 fun g w0 R h0 => go [] <| nP 31 [iV x, iV y, uV z] h0 (fun _ _ h12 => ?_)
 refine go [rd 1 0 0 0 3 h12] <| cl0 Tryz.call31 (couter_ht x y z (by omega) (by omega)) h12 fun _ h14 => go [.s 2 1] ?_
 by_cases c15 : (outE (x, y, z)) = 0
 ·
  obtain ⟨_, _, _, _, _⟩ := outE_iff.1 (show outE (x, y, z) = 0 by omega); dsimp only at *
  refine go [.v 2 1 (qnF ((outE (x, y, z))) 0), rd 4 0 0 0 3 h14] <| cl0 Tryz.call53 (ofouter_ht x y z (by omega) (by omega)) h14 fun _ h17 => cl1 Tryz.call64 (ntx_ht x y z (by omega) (by omega) (by omega) (by omega) (by omega) wo hg) (tk3 (sf2 (sf1 (sf2 h17)))) fun _ h20 => go [] ?_
  exact en (.tuple #[.string (St (otL (x, y, z))), iV 0]) [] ⟨_, _, rfl, ⟨by unfold otV; rw [if_pos (show outE (x, y, z) = 0 by omega), show outE (x, y, z) = 0 by omega], rfl⟩, (tk2 (sf1 (sf2 h20)))⟩
 refine go [.v 2 1 (qnT ((outE (x, y, z))) 0)] ?_
 exact en (.tuple #[.string (St []), iV ((outE (x, y, z)))]) [] ⟨_, _, rfl, ⟨by unfold otV; rw [if_neg (by omega)], rfl⟩, (tk2 (sf1 (sf2 (tk3 (sf2 (sf1 (sf2 h14)))))))⟩

end Go.Proofs.YtfoliffeieeihaaGreatDoor

/- Walks, printed by my generator l6.py. -/
namespace Go.Proofs.YtfoliffeieeihaaGreatDoor
open Go.RowKit
/-- A strings.Builder that holds the bytes l. -/
def Bd (b : Nat) (l : List UInt8) : Assn := fun h => ∃ x : Option Addr × Option Addr × Nat, (x.1 = none ∨ x.1 = some ⟨b, 0, none⟩) ∧ (l = [] → x.2.1 = none) ∧ star [Cl b [.pointer x.1, .slice x.2.1 l.length x.2.2] 104, Sl 5 1 x.2.1 l.length x.2.2 (fl eB l)] h
section
variable {g w : World} {A : List Assn} {b : Nat} {l : List UInt8} {p ad : Option Addr} {c : Nat}
theorem bd_open (h : sat g w (Bd b l :: A)) : ∃ ad p c, (ad = none ∨ ad = some ⟨b, 0, none⟩) ∧ (l = [] → p = none) ∧ sat g w (Cl b [.pointer ad, .slice p l.length c] 104 :: Sl 5 1 p l.length c (fl eB l) :: A) := by
  obtain ⟨⟨ad, p, c⟩, h1, h2⟩ := sat_open (X := Option Addr × Option Addr × Nat) (p := fun x => (x.1 = none ∨ x.1 = some ⟨b, 0, none⟩) ∧ (l = [] → x.2.1 = none)) (B := fun x => star [Cl b [.pointer x.1, .slice x.2.1 l.length x.2.2] 104, Sl 5 1 x.2.1 l.length x.2.2 (fl eB l)]) h (fun k hk => by
    obtain ⟨x, h1, h2, h3⟩ := hk
    exact ⟨x, ⟨h1, h2⟩, h3⟩)
  exact ⟨ad, p, c, h1.1, h1.2, sat_unstar h2⟩
theorem bd_close (h1 : ad = none ∨ ad = some ⟨b, 0, none⟩) (h2 : l = [] → p = none) (h : sat g w (Cl b [.pointer ad, .slice p l.length c] 104 :: Sl 5 1 p l.length c (fl eB l) :: A)) : sat g w (Bd b l :: A) :=
  sat_imp (sat_star (K := [Cl b [.pointer ad, .slice p l.length c] 104, Sl 5 1 p l.length c (fl eB l)]) h) fun k hk => ⟨(ad, p, c), h1, h2, hk⟩
theorem noEscape_run {v : Value} {w : World} : (callFunc 103 #[v]).run Tryz.prog w = .ok (.value v) w := by
  rw [run_callFunc_extern Tryz.func103 (by kernel_rfl) (by kernel_rfl) (by kernel_rfl) (e := Extern.AbiNoEscape.same) (by kernel_rfl)]
  rfl
end
set_option maxHeartbeats 4000000 in
theorem cc_none (b : Nat) (v0 : Value) : HT Tryz.prog 83 [pV b] [Cl b [.pointer none, v0] 104] (fun v K => v = .tuple #[] ∧ K = [Cl b [pV b, v0] 104]) := by
 refine hiS Tryz.func83 Tryz.ntmps83 fun g w0 R h0 => go [rd 0 3 0 0 1 h0, .s 1 2] <| lwP (pV b) (law_toUnsafe (x := (Operand.tmp 8)) (by kernel_rfl) Tryz.underlying102 Tryz.underlying144 (by kernel_rfl) (by kernel_rfl) 0 h0 rfl (by simp)) ?_
 refine actG ?_
 refine an_noEscape (d := 10) (f := 103) (v := pV b) (by kernel_rfl) rfl noEscape_run ?_
 refine nxA <| lwP (pV b) (law_fromUnsafe (x := (Operand.tmp 10)) (by kernel_rfl) Tryz.underlying144 Tryz.underlying102 (by kernel_rfl) (by kernel_rfl) 0 h0 rfl (by kernel_rfl)) <| go [] <| sP [(0, pV b)] [pV b, v0] h0 fun _ h11 => go [] ?_
 exact en (.tuple #[]) [] ⟨_, _, rfl, ⟨rfl, rfl⟩, h11⟩

set_option maxHeartbeats 4000000 in
theorem cc_some (b : Nat) (v0 : Value) : HT Tryz.prog 83 [pV b] [Cl b [pV b, v0] 104] (fun v K => v = .tuple #[] ∧ K = [Cl b [pV b, v0] 104]) := by
 refine hiS Tryz.func83 Tryz.ntmps83 fun g w0 R h0 => go [rd 0 3 0 0 1 h0, rd 2 3 0 0 1 h0, .s 2 5] <| lwP (.bool false) (law_nePtrSame (x := (Operand.tmp 17)) (y := (Operand.tmp 18)) (a := ⟨b, 0, none⟩) (by kernel_rfl) Tryz.underlying102 (by kernel_rfl) (by kernel_rfl) (by kernel_rfl) _) <| go [] ?_
 exact en (.tuple #[]) [] ⟨_, _, rfl, ⟨rfl, rfl⟩, h0⟩

theorem cc_ht (b : Nat) (ad : Option Addr) (v0 : Value) (h : ad = none ∨ ad = some ⟨b, 0, none⟩) : HT Tryz.prog 83 [Value.pointer (some ⟨b, 0, none⟩)] [Cl b [Value.pointer ad, v0] 104] (fun v K => v = Value.tuple #[] ∧ K = [Cl b [Value.pointer (some ⟨b, 0, none⟩), v0] 104]) := by
  rcases h with rfl | rfl
  · exact cc_none b v0
  · exact cc_some b v0

set_option maxHeartbeats 4000000 in
theorem wb_ht (b : Nat) (l : List UInt8) (x : UInt8) (hl : l.length ≤ 1099511627776) : HT Tryz.prog 61 [pV b, yV (((x.toNat : Nat) : Int))] [Bd b l] (fun v K => v = Value.nilIface ∧ K = [Bd b (l ++ [x])]) := by
 have hx8 := u8_lt x
 refine hiS Tryz.func61 Tryz.ntmps61 fun g w0 R h0 => ?_
 obtain ⟨ad, p, c, had, hnil, h10⟩ := bd_open h0
 have h11 := tk3 (sf2 (sf1 (sf2 h10)))
 obtain ⟨hl12, hl13⟩ := sl_le h11
 have h14 := tk3 (sf2 (sf1 (sf2 h11)))
 refine go [] <| cl1 Tryz.call83 (cc_ht b ad (.slice p l.length c) had) h14 fun _ h16 => go [rd 2 4 0 1 1 h16] <| nG (fun q_ => .slice (some ⟨q_, 0, none⟩) 1 1) 5 [yV (((x.toNat : Nat) : Int))] h16 (fun r17 _ h19 => ⟨kd [], ?_⟩)
 have h20 := tk4 (sf3 (sf2 (sf2 (sf3 h19))))
 refine actG ?_
 refine an_append (d := 14) (sz := 1) (s := (Operand.tmp 11)) (x := (Operand.tmp 13)) (z := yV 0) (p := p) (m := l.length) (c := c) (k := 1) (c2 := 1) (a := ⟨r17, 0, none⟩) (by_ := 1) (by kernel_rfl) (by kernel_rfl) rfl Tryz.underlying79 (by kernel_rfl) rfl (by decide) (by kernel_rfl) (by kernel_rfl) h20 (fl eB [x]) rfl (fun j u hj => by rw [add_off]; exact sat_cell h20 1 rfl (by rw [Nat.zero_add]; exact hj)) (fl_one eB_ok _) (by omega) (by omega) (l.length + 1) (by omega) ?_
 intro p21 cap22 w23 h24
 have h25 : sat g w23 [Sl 5 1 p21 (l.length + 1) cap22 (fl eB (l ++ [x])), Cl r17 [yV (((x.toNat : Nat) : Int))] 5, Cl b [pV b, .slice p l.length c] 104, R] := sat_imp h24 (fun _ hh => by rw [fl_app]; exact hh)
 obtain ⟨hn26, hn27⟩ := sl_le h25
 refine nxA ?_
 have h28 := tk4 (sf3 (sf2 (sf2 (sf3 h25))))
 refine go [] <| sP [(1, .slice p21 (l.length + 1) cap22)] [pV b, .slice p21 (l.length + 1) cap22] h28 fun w29 h30 => go [] ?_
 have h31 := (show l.length + 1 = (l ++ [x]).length from by rw [List.length_append]; try rfl) ▸ h30
 have h32 : sat g w29 [Bd b (l ++ [x]), Cl r17 [yV (((x.toNat : Nat) : Int))] 5, R] := bd_close (.inr rfl) (by simp) h31
 exact en (Value.nilIface) [] ⟨_, _, rfl, ⟨rfl, rfl⟩, (tk2 (sf1 (sf2 h32)))⟩

set_option maxHeartbeats 4000000 in
theorem bstr_ht (b : Nat) (l : List UInt8) (hl : l.length ≤ 1099511627776) : HT Tryz.prog 63 [pV b] [Bd b l] (fun v K => v = .string (St l) ∧ K = []) := by
 refine hiS Tryz.func63 Tryz.ntmps63 fun g w0 R h0 => ?_
 obtain ⟨ad, p, c, had, hnil, h10⟩ := bd_open h0
 have h11 := tk3 (sf2 (sf1 (sf2 h10)))
 obtain ⟨hl12, hl13⟩ := sl_le h11
 refine go [] <| dw (fls [0, 1, 2, 3, 5, 6, 7, 8, 9] (Tr.an 4 (Tr.an 10 (Tr.fl 11 Tr.nil)))) h11 fun _ h15 => go [rd 1 3 1 1 1 h15, rd 1 8 1 1 1 h15] ?_
 refine actG ?_
 refine an_sliceData (t := 79) (d := 7) (x := (Operand.tmp 6)) (m := l.length) (c := c) (by kernel_rfl) (by kernel_rfl) rfl (by kernel_rfl) h15 (fun h_ => hnil (List.eq_nil_of_length_eq_zero h_)) ?_
 refine ⟨kd [rd 0 8 1 1 1 h15], nxG ?_⟩
 refine actG ?_
 refine an_unsafeString (t1 := 130) (t2 := 3) (z := (((l.length : Nat) : Int))) (d := 13) (x := (Operand.tmp 7)) (y := (Operand.tmp 12)) (by kernel_rfl) (by kernel_rfl) rfl Tryz.underlying130 (by kernel_rfl) (by kernel_rfl) (by kernel_rfl) (by omega) h15 rfl (by omega) ?_
 intro _ h17
 refine ⟨kd [], nxG ?_⟩
 refine go [] ?_
 exact en (.string (St l)) [] ⟨_, _, rfl, ⟨rfl, rfl⟩, (tk1 (sf1 h17))⟩

set_option maxHeartbeats 4000000 in
theorem aprn_ht (p : Option Addr) (m c : Nat) (l : List UInt8) (r : Nat) (h0 : 128 ≤ r) (h1 : r ≤ 1114111) (h2 : r < 55296 ∨ 57343 < r) (hm : m ≤ 1099511627776) : HT Tryz.prog 104 [.slice p m c, .int .i32 (((r : Nat) : Int))] [Sl 5 1 p m c (fl eB l)] (fun v K => ∃ (p2 : Option Addr) (c2 : Nat), v = .slice p2 (m + (encU r).length) c2 ∧ K = [Sl 5 1 p2 (m + (encU r).length) c2 (fl eB (l ++ encU r))]) := by
 refine hiS Tryz.func104 Tryz.ntmps104 fun g w0 R h0 => go [.v 1 1 (oUr (r : Int)), .s 3 1] ?_
 by_cases c10 : (r : Int) ≤ 2047
 ·
  refine go [.v 3 1 (oT ((r : Int) ≤ 2047)), .v 4 2 (⟨.int .i32 (Int.fdiv (r : Int) (2 ^ 6)), .int .i32 ((((r / 64) : Nat) : Int)), (shr_ov 6 (by omega))⟩), .v 4 3 (oYr ((((r / 64) : Nat) : Int))), .v 4 4 (⟨yV (IntKind.wrap .u8 ((BitVec.ofInt 8 192 ||| BitVec.ofInt 8 ((((r / 64) : Nat) : Int))).toNat : Int)), yV ((((UInt8.ofNat (192 + ((r / 64)))).toNat : Nat) : Int)), (o192 (by omega))⟩), .v 4 6 (⟨yV (IntKind.wrap .u8 (r : Int)), yV ((((r % 256) : Nat) : Int)), (mod_ov (m := ((r % 256))) (by omega) (by omega))⟩), .v 4 7 (⟨yV (IntKind.wrap .u8 ((BitVec.ofInt 8 ((((r % 256) : Nat) : Int)) &&& BitVec.ofInt 8 63).toNat : Int)), yV ((((r % 64) : Nat) : Int)), (and_ov (by omega) (by omega))⟩), .v 4 8 (⟨yV (IntKind.wrap .u8 ((BitVec.ofInt 8 128 ||| BitVec.ofInt 8 ((((r % 64) : Nat) : Int))).toNat : Int)), yV ((((UInt8.ofNat (128 + ((r % 64)))).toNat : Nat) : Int)), (o128 (by omega))⟩)] <| nG (fun q_ => .slice (some ⟨q_, 0, none⟩) 2 2) 5 [yV ((((UInt8.ofNat (192 + ((r / 64)))).toNat : Nat) : Int)), yV ((((UInt8.ofNat (128 + ((r % 64)))).toNat : Nat) : Int))] h0 (fun r11 _ h13 => ⟨kd [], ?_⟩)
  have h14 := tk3 (sf2 (sf1 (sf2 h13)))
  refine actG ?_
  refine an_append (d := 24) (sz := 1) (s := (Operand.tmp 14)) (x := (Operand.tmp 23)) (z := yV 0) (p := p) (m := m) (c := c) (k := 2) (c2 := 2) (a := ⟨r11, 0, none⟩) (by_ := 1) (by kernel_rfl) (by kernel_rfl) rfl Tryz.underlying79 (by kernel_rfl) rfl (by decide) (by kernel_rfl) (by kernel_rfl) h14 (fl eB [(UInt8.ofNat (192 + ((r / 64)))), (UInt8.ofNat (128 + ((r % 64))))]) rfl (fun j u hj => by rw [add_off]; exact sat_cell h14 1 rfl (by rw [Nat.zero_add]; exact hj)) (fl_one eB_ok _) (by omega) (by omega) (m + 2) (by omega) ?_
  intro p15 cap16 w17 h18
  have h19 : sat g w17 [Sl 5 1 p15 (m + 2) cap16 (fl eB (l ++ [(UInt8.ofNat (192 + ((r / 64)))), (UInt8.ofNat (128 + ((r % 64))))])), Cl r11 [yV ((((UInt8.ofNat (192 + ((r / 64)))).toNat : Nat) : Int)), yV ((((UInt8.ofNat (128 + ((r % 64)))).toNat : Nat) : Int))] 5, R] := sat_imp h18 (fun _ hh => by rw [fl_app]; exact hh)
  obtain ⟨hn20, hn21⟩ := sl_le h19
  refine nxA <| go [] ?_
  have he22 : encU r = [(UInt8.ofNat (192 + ((r / 64)))), (UInt8.ofNat (128 + ((r % 64))))] := by unfold encU; rw [if_neg (by omega), if_pos (by omega)]
  exact en (.slice p15 (m + 2) cap16) [] ⟨_, _, rfl, ⟨p15, cap16, by rw [he22]; try rfl, by rw [he22]; try rfl⟩, (tk2 (sf1 (sf2 h19)))⟩
 refine go [.v 3 1 (oF ((r : Int) ≤ 2047)), .s 5 1] ?_
 by_cases c25 : (r : Int) < 55296
 ·
  refine go [.v 5 1 (oT ((r : Int) < 55296)), .v 7 2 (⟨.int .i32 (Int.fdiv (r : Int) (2 ^ 12)), .int .i32 ((((r / 4096) : Nat) : Int)), (shr_ov 12 (by omega))⟩), .v 7 3 (oYr ((((r / 4096) : Nat) : Int))), .v 7 4 (⟨yV (IntKind.wrap .u8 ((BitVec.ofInt 8 224 ||| BitVec.ofInt 8 ((((r / 4096) : Nat) : Int))).toNat : Int)), yV ((((UInt8.ofNat (224 + ((r / 4096)))).toNat : Nat) : Int)), (o224 (by omega))⟩), .v 7 6 (⟨.int .i32 (Int.fdiv (r : Int) (2 ^ 6)), .int .i32 ((((r / 64) : Nat) : Int)), (shr_ov 6 (by omega))⟩), .v 7 7 (⟨yV (IntKind.wrap .u8 ((((r / 64) : Nat) : Int))), yV ((((((r / 64)) % 256) : Nat) : Int)), (mod_ov (m := ((((r / 64)) % 256))) (by omega) (by omega))⟩), .v 7 8 (⟨yV (IntKind.wrap .u8 ((BitVec.ofInt 8 ((((((r / 64)) % 256) : Nat) : Int)) &&& BitVec.ofInt 8 63).toNat : Int)), yV ((((((r / 64)) % 64) : Nat) : Int)), (and_ov (by omega) (by omega))⟩), .v 7 9 (⟨yV (IntKind.wrap .u8 ((BitVec.ofInt 8 128 ||| BitVec.ofInt 8 ((((((r / 64)) % 64) : Nat) : Int))).toNat : Int)), yV ((((UInt8.ofNat (128 + ((((r / 64)) % 64)))).toNat : Nat) : Int)), (o128 (by omega))⟩), .v 7 11 (⟨yV (IntKind.wrap .u8 (r : Int)), yV ((((r % 256) : Nat) : Int)), (mod_ov (m := ((r % 256))) (by omega) (by omega))⟩), .v 7 12 (⟨yV (IntKind.wrap .u8 ((BitVec.ofInt 8 ((((r % 256) : Nat) : Int)) &&& BitVec.ofInt 8 63).toNat : Int)), yV ((((r % 64) : Nat) : Int)), (and_ov (by omega) (by omega))⟩), .v 7 13 (⟨yV (IntKind.wrap .u8 ((BitVec.ofInt 8 128 ||| BitVec.ofInt 8 ((((r % 64) : Nat) : Int))).toNat : Int)), yV ((((UInt8.ofNat (128 + ((r % 64)))).toNat : Nat) : Int)), (o128 (by omega))⟩)] <| nG (fun q_ => .slice (some ⟨q_, 0, none⟩) 3 3) 5 [yV ((((UInt8.ofNat (224 + ((r / 4096)))).toNat : Nat) : Int)), yV ((((UInt8.ofNat (128 + ((((r / 64)) % 64)))).toNat : Nat) : Int)), yV ((((UInt8.ofNat (128 + ((r % 64)))).toNat : Nat) : Int))] h0 (fun r26 _ h28 => ⟨kd [], ?_⟩)
  have h29 := tk3 (sf2 (sf1 (sf2 h28)))
  refine actG ?_
  refine an_append (d := 49) (sz := 1) (s := (Operand.tmp 34)) (x := (Operand.tmp 48)) (z := yV 0) (p := p) (m := m) (c := c) (k := 3) (c2 := 3) (a := ⟨r26, 0, none⟩) (by_ := 1) (by kernel_rfl) (by kernel_rfl) rfl Tryz.underlying79 (by kernel_rfl) rfl (by decide) (by kernel_rfl) (by kernel_rfl) h29 (fl eB [(UInt8.ofNat (224 + ((r / 4096)))), (UInt8.ofNat (128 + ((((r / 64)) % 64)))), (UInt8.ofNat (128 + ((r % 64))))]) rfl (fun j u hj => by rw [add_off]; exact sat_cell h29 1 rfl (by rw [Nat.zero_add]; exact hj)) (fl_one eB_ok _) (by omega) (by omega) (m + 3) (by omega) ?_
  intro p30 cap31 w32 h33
  have h34 : sat g w32 [Sl 5 1 p30 (m + 3) cap31 (fl eB (l ++ [(UInt8.ofNat (224 + ((r / 4096)))), (UInt8.ofNat (128 + ((((r / 64)) % 64)))), (UInt8.ofNat (128 + ((r % 64))))])), Cl r26 [yV ((((UInt8.ofNat (224 + ((r / 4096)))).toNat : Nat) : Int)), yV ((((UInt8.ofNat (128 + ((((r / 64)) % 64)))).toNat : Nat) : Int)), yV ((((UInt8.ofNat (128 + ((r % 64)))).toNat : Nat) : Int))] 5, R] := sat_imp h33 (fun _ hh => by rw [fl_app]; exact hh)
  obtain ⟨hn35, hn36⟩ := sl_le h34
  refine nxA <| go [] ?_
  have he37 : encU r = [(UInt8.ofNat (224 + ((r / 4096)))), (UInt8.ofNat (128 + ((((r / 64)) % 64)))), (UInt8.ofNat (128 + ((r % 64))))] := by unfold encU; rw [if_neg (by omega), if_neg (by omega), if_pos (by omega)]
  exact en (.slice p30 (m + 3) cap31) [] ⟨_, _, rfl, ⟨p30, cap31, by rw [he37]; try rfl, by rw [he37]; try rfl⟩, (tk2 (sf1 (sf2 h34)))⟩
 refine go [.v 5 1 (oF ((r : Int) < 55296)), .v 6 1 (oT (57343 < (r : Int))), .s 6 4] ?_
 by_cases c40 : (r : Int) ≤ 65535
 ·
  refine go [.v 6 4 (oT ((r : Int) ≤ 65535)), .v 7 2 (⟨.int .i32 (Int.fdiv (r : Int) (2 ^ 12)), .int .i32 ((((r / 4096) : Nat) : Int)), (shr_ov 12 (by omega))⟩), .v 7 3 (oYr ((((r / 4096) : Nat) : Int))), .v 7 4 (⟨yV (IntKind.wrap .u8 ((BitVec.ofInt 8 224 ||| BitVec.ofInt 8 ((((r / 4096) : Nat) : Int))).toNat : Int)), yV ((((UInt8.ofNat (224 + ((r / 4096)))).toNat : Nat) : Int)), (o224 (by omega))⟩), .v 7 6 (⟨.int .i32 (Int.fdiv (r : Int) (2 ^ 6)), .int .i32 ((((r / 64) : Nat) : Int)), (shr_ov 6 (by omega))⟩), .v 7 7 (⟨yV (IntKind.wrap .u8 ((((r / 64) : Nat) : Int))), yV ((((((r / 64)) % 256) : Nat) : Int)), (mod_ov (m := ((((r / 64)) % 256))) (by omega) (by omega))⟩), .v 7 8 (⟨yV (IntKind.wrap .u8 ((BitVec.ofInt 8 ((((((r / 64)) % 256) : Nat) : Int)) &&& BitVec.ofInt 8 63).toNat : Int)), yV ((((((r / 64)) % 64) : Nat) : Int)), (and_ov (by omega) (by omega))⟩), .v 7 9 (⟨yV (IntKind.wrap .u8 ((BitVec.ofInt 8 128 ||| BitVec.ofInt 8 ((((((r / 64)) % 64) : Nat) : Int))).toNat : Int)), yV ((((UInt8.ofNat (128 + ((((r / 64)) % 64)))).toNat : Nat) : Int)), (o128 (by omega))⟩), .v 7 11 (⟨yV (IntKind.wrap .u8 (r : Int)), yV ((((r % 256) : Nat) : Int)), (mod_ov (m := ((r % 256))) (by omega) (by omega))⟩), .v 7 12 (⟨yV (IntKind.wrap .u8 ((BitVec.ofInt 8 ((((r % 256) : Nat) : Int)) &&& BitVec.ofInt 8 63).toNat : Int)), yV ((((r % 64) : Nat) : Int)), (and_ov (by omega) (by omega))⟩), .v 7 13 (⟨yV (IntKind.wrap .u8 ((BitVec.ofInt 8 128 ||| BitVec.ofInt 8 ((((r % 64) : Nat) : Int))).toNat : Int)), yV ((((UInt8.ofNat (128 + ((r % 64)))).toNat : Nat) : Int)), (o128 (by omega))⟩)] <| nG (fun q_ => .slice (some ⟨q_, 0, none⟩) 3 3) 5 [yV ((((UInt8.ofNat (224 + ((r / 4096)))).toNat : Nat) : Int)), yV ((((UInt8.ofNat (128 + ((((r / 64)) % 64)))).toNat : Nat) : Int)), yV ((((UInt8.ofNat (128 + ((r % 64)))).toNat : Nat) : Int))] h0 (fun r41 _ h43 => ⟨kd [], ?_⟩)
  have h44 := tk3 (sf2 (sf1 (sf2 h43)))
  refine actG ?_
  refine an_append (d := 49) (sz := 1) (s := (Operand.tmp 34)) (x := (Operand.tmp 48)) (z := yV 0) (p := p) (m := m) (c := c) (k := 3) (c2 := 3) (a := ⟨r41, 0, none⟩) (by_ := 1) (by kernel_rfl) (by kernel_rfl) rfl Tryz.underlying79 (by kernel_rfl) rfl (by decide) (by kernel_rfl) (by kernel_rfl) h44 (fl eB [(UInt8.ofNat (224 + ((r / 4096)))), (UInt8.ofNat (128 + ((((r / 64)) % 64)))), (UInt8.ofNat (128 + ((r % 64))))]) rfl (fun j u hj => by rw [add_off]; exact sat_cell h44 1 rfl (by rw [Nat.zero_add]; exact hj)) (fl_one eB_ok _) (by omega) (by omega) (m + 3) (by omega) ?_
  intro p45 cap46 w47 h48
  have h49 : sat g w47 [Sl 5 1 p45 (m + 3) cap46 (fl eB (l ++ [(UInt8.ofNat (224 + ((r / 4096)))), (UInt8.ofNat (128 + ((((r / 64)) % 64)))), (UInt8.ofNat (128 + ((r % 64))))])), Cl r41 [yV ((((UInt8.ofNat (224 + ((r / 4096)))).toNat : Nat) : Int)), yV ((((UInt8.ofNat (128 + ((((r / 64)) % 64)))).toNat : Nat) : Int)), yV ((((UInt8.ofNat (128 + ((r % 64)))).toNat : Nat) : Int))] 5, R] := sat_imp h48 (fun _ hh => by rw [fl_app]; exact hh)
  obtain ⟨hn50, hn51⟩ := sl_le h49
  refine nxA <| go [] ?_
  have he52 : encU r = [(UInt8.ofNat (224 + ((r / 4096)))), (UInt8.ofNat (128 + ((((r / 64)) % 64)))), (UInt8.ofNat (128 + ((r % 64))))] := by unfold encU; rw [if_neg (by omega), if_neg (by omega), if_pos (by omega)]
  exact en (.slice p45 (m + 3) cap46) [] ⟨_, _, rfl, ⟨p45, cap46, by rw [he52]; try rfl, by rw [he52]; try rfl⟩, (tk2 (sf1 (sf2 h49)))⟩
 refine go [.v 6 4 (oF ((r : Int) ≤ 65535)), .v 8 1 (oT ((r : Int) > 65535)), .v 8 4 (oT ((r : Int) ≤ 1114111)), .v 9 2 (⟨.int .i32 (Int.fdiv (r : Int) (2 ^ 18)), .int .i32 ((((r / 262144) : Nat) : Int)), (shr_ov 18 (by omega))⟩), .v 9 3 (oYr ((((r / 262144) : Nat) : Int))), .v 9 4 (⟨yV (IntKind.wrap .u8 ((BitVec.ofInt 8 240 ||| BitVec.ofInt 8 ((((r / 262144) : Nat) : Int))).toNat : Int)), yV ((((UInt8.ofNat (240 + ((r / 262144)))).toNat : Nat) : Int)), (o240 (by omega))⟩), .v 9 6 (⟨.int .i32 (Int.fdiv (r : Int) (2 ^ 12)), .int .i32 ((((r / 4096) : Nat) : Int)), (shr_ov 12 (by omega))⟩), .v 9 7 (⟨yV (IntKind.wrap .u8 ((((r / 4096) : Nat) : Int))), yV ((((((r / 4096)) % 256) : Nat) : Int)), (mod_ov (m := ((((r / 4096)) % 256))) (by omega) (by omega))⟩), .v 9 8 (⟨yV (IntKind.wrap .u8 ((BitVec.ofInt 8 ((((((r / 4096)) % 256) : Nat) : Int)) &&& BitVec.ofInt 8 63).toNat : Int)), yV ((((((r / 4096)) % 64) : Nat) : Int)), (and_ov (by omega) (by omega))⟩), .v 9 9 (⟨yV (IntKind.wrap .u8 ((BitVec.ofInt 8 128 ||| BitVec.ofInt 8 ((((((r / 4096)) % 64) : Nat) : Int))).toNat : Int)), yV ((((UInt8.ofNat (128 + ((((r / 4096)) % 64)))).toNat : Nat) : Int)), (o128 (by omega))⟩), .v 9 11 (⟨.int .i32 (Int.fdiv (r : Int) (2 ^ 6)), .int .i32 ((((r / 64) : Nat) : Int)), (shr_ov 6 (by omega))⟩), .v 9 12 (⟨yV (IntKind.wrap .u8 ((((r / 64) : Nat) : Int))), yV ((((((r / 64)) % 256) : Nat) : Int)), (mod_ov (m := ((((r / 64)) % 256))) (by omega) (by omega))⟩), .v 9 13 (⟨yV (IntKind.wrap .u8 ((BitVec.ofInt 8 ((((((r / 64)) % 256) : Nat) : Int)) &&& BitVec.ofInt 8 63).toNat : Int)), yV ((((((r / 64)) % 64) : Nat) : Int)), (and_ov (by omega) (by omega))⟩), .v 9 14 (⟨yV (IntKind.wrap .u8 ((BitVec.ofInt 8 128 ||| BitVec.ofInt 8 ((((((r / 64)) % 64) : Nat) : Int))).toNat : Int)), yV ((((UInt8.ofNat (128 + ((((r / 64)) % 64)))).toNat : Nat) : Int)), (o128 (by omega))⟩), .v 9 16 (⟨yV (IntKind.wrap .u8 (r : Int)), yV ((((r % 256) : Nat) : Int)), (mod_ov (m := ((r % 256))) (by omega) (by omega))⟩), .v 9 17 (⟨yV (IntKind.wrap .u8 ((BitVec.ofInt 8 ((((r % 256) : Nat) : Int)) &&& BitVec.ofInt 8 63).toNat : Int)), yV ((((r % 64) : Nat) : Int)), (and_ov (by omega) (by omega))⟩), .v 9 18 (⟨yV (IntKind.wrap .u8 ((BitVec.ofInt 8 128 ||| BitVec.ofInt 8 ((((r % 64) : Nat) : Int))).toNat : Int)), yV ((((UInt8.ofNat (128 + ((r % 64)))).toNat : Nat) : Int)), (o128 (by omega))⟩)] <| nG (fun q_ => .slice (some ⟨q_, 0, none⟩) 4 4) 5 [yV ((((UInt8.ofNat (240 + ((r / 262144)))).toNat : Nat) : Int)), yV ((((UInt8.ofNat (128 + ((((r / 4096)) % 64)))).toNat : Nat) : Int)), yV ((((UInt8.ofNat (128 + ((((r / 64)) % 64)))).toNat : Nat) : Int)), yV ((((UInt8.ofNat (128 + ((r % 64)))).toNat : Nat) : Int))] h0 (fun r55 _ h57 => ⟨kd [], ?_⟩)
 have h58 := tk3 (sf2 (sf1 (sf2 h57)))
 refine actG ?_
 refine an_append (d := 77) (sz := 1) (s := (Operand.tmp 57)) (x := (Operand.tmp 76)) (z := yV 0) (p := p) (m := m) (c := c) (k := 4) (c2 := 4) (a := ⟨r55, 0, none⟩) (by_ := 1) (by kernel_rfl) (by kernel_rfl) rfl Tryz.underlying79 (by kernel_rfl) rfl (by decide) (by kernel_rfl) (by kernel_rfl) h58 (fl eB [(UInt8.ofNat (240 + ((r / 262144)))), (UInt8.ofNat (128 + ((((r / 4096)) % 64)))), (UInt8.ofNat (128 + ((((r / 64)) % 64)))), (UInt8.ofNat (128 + ((r % 64))))]) rfl (fun j u hj => by rw [add_off]; exact sat_cell h58 1 rfl (by rw [Nat.zero_add]; exact hj)) (fl_one eB_ok _) (by omega) (by omega) (m + 4) (by omega) ?_
 intro p59 cap60 w61 h62
 have h63 : sat g w61 [Sl 5 1 p59 (m + 4) cap60 (fl eB (l ++ [(UInt8.ofNat (240 + ((r / 262144)))), (UInt8.ofNat (128 + ((((r / 4096)) % 64)))), (UInt8.ofNat (128 + ((((r / 64)) % 64)))), (UInt8.ofNat (128 + ((r % 64))))])), Cl r55 [yV ((((UInt8.ofNat (240 + ((r / 262144)))).toNat : Nat) : Int)), yV ((((UInt8.ofNat (128 + ((((r / 4096)) % 64)))).toNat : Nat) : Int)), yV ((((UInt8.ofNat (128 + ((((r / 64)) % 64)))).toNat : Nat) : Int)), yV ((((UInt8.ofNat (128 + ((r % 64)))).toNat : Nat) : Int))] 5, R] := sat_imp h62 (fun _ hh => by rw [fl_app]; exact hh)
 obtain ⟨hn64, hn65⟩ := sl_le h63
 refine nxA <| go [] ?_
 have he66 : encU r = [(UInt8.ofNat (240 + ((r / 262144)))), (UInt8.ofNat (128 + ((((r / 4096)) % 64)))), (UInt8.ofNat (128 + ((((r / 64)) % 64)))), (UInt8.ofNat (128 + ((r % 64))))] := by unfold encU; rw [if_neg (by omega), if_neg (by omega), if_neg (by omega)]
 exact en (.slice p59 (m + 4) cap60) [] ⟨_, _, rfl, ⟨p59, cap60, by rw [he66]; try rfl, by rw [he66]; try rfl⟩, (tk2 (sf1 (sf2 h63)))⟩

set_option maxHeartbeats 4000000 in
theorem apr_ht (p : Option Addr) (m c : Nat) (l : List UInt8) (r : Nat) (h1 : r ≤ 1114111) (h2 : r < 55296 ∨ 57343 < r) (hm : m ≤ 1099511627776) : HT Tryz.prog 84 [.slice p m c, .int .i32 (((r : Nat) : Int))] [Sl 5 1 p m c (fl eB l)] (fun v K => ∃ (p2 : Option Addr) (c2 : Nat), v = .slice p2 (m + (encU r).length) c2 ∧ K = [Sl 5 1 p2 (m + (encU r).length) c2 (fl eB (l ++ encU r))]) := by
 refine hiS Tryz.func84 Tryz.ntmps84 fun g w0 R h0 => go [.v 1 1 (oUr (r : Int)), .s 1 2] ?_
 by_cases c10 : (r : Int) ≤ 127
 ·
  refine go [.v 1 2 (oT ((r : Int) ≤ 127)), .v 2 2 (⟨yV (IntKind.wrap .u8 (r : Int)), yV ((((UInt8.ofNat r).toNat : Nat) : Int)), (cv_b (by omega))⟩)] <| nG (fun q_ => .slice (some ⟨q_, 0, none⟩) 1 1) 5 [yV ((((UInt8.ofNat r).toNat : Nat) : Int))] h0 (fun r11 _ h13 => ⟨kd [], ?_⟩)
  have h14 := tk3 (sf2 (sf1 (sf2 h13)))
  refine actG ?_
  refine an_append (d := 12) (sz := 1) (s := (Operand.tmp 8)) (x := (Operand.tmp 11)) (z := yV 0) (p := p) (m := m) (c := c) (k := 1) (c2 := 1) (a := ⟨r11, 0, none⟩) (by_ := 1) (by kernel_rfl) (by kernel_rfl) rfl Tryz.underlying79 (by kernel_rfl) rfl (by decide) (by kernel_rfl) (by kernel_rfl) h14 (fl eB [(UInt8.ofNat r)]) rfl (fun j u hj => by rw [add_off]; exact sat_cell h14 1 rfl (by rw [Nat.zero_add]; exact hj)) (fl_one eB_ok _) (by omega) (by omega) (m + 1) (by omega) ?_
  intro p15 cap16 w17 h18
  have h19 : sat g w17 [Sl 5 1 p15 (m + 1) cap16 (fl eB (l ++ [(UInt8.ofNat r)])), Cl r11 [yV ((((UInt8.ofNat r).toNat : Nat) : Int))] 5, R] := sat_imp h18 (fun _ hh => by rw [fl_app]; exact hh)
  obtain ⟨hn20, hn21⟩ := sl_le h19
  refine nxA <| go [] ?_
  have he22 : encU r = [(UInt8.ofNat r)] := by unfold encU; rw [if_pos (by omega)]
  exact en (.slice p15 (m + 1) cap16) [] ⟨_, _, rfl, ⟨p15, cap16, by rw [he22]; try rfl, by rw [he22]; try rfl⟩, (tk2 (sf1 (sf2 h19)))⟩
 refine go [.v 1 2 (oF ((r : Int) ≤ 127))] <| cP Tryz.call104 (aprn_ht p m c l r (by omega) (by omega) (by omega) (by omega)) h0 ?_
 rintro v K _ (⟨p25, cap26, rfl, rfl⟩) h28
 have h29 := ap1 h28
 refine go [] ?_
 exact en (.slice p25 (m + ((encU r).length)) cap26) [] ⟨_, _, rfl, ⟨p25, cap26, rfl, rfl⟩, h29⟩

set_option maxHeartbeats 4000000 in
theorem wr_ht (b : Nat) (l : List UInt8) (r : Nat) (h1 : r ≤ 1114111) (h2 : r < 55296 ∨ 57343 < r) (hl : l.length ≤ 1099511627776) : HT Tryz.prog 62 [pV b, .int .i32 (((r : Nat) : Int))] [Bd b l] (fun v K => v = .tuple #[iV ((encU r).length : Int), Value.nilIface] ∧ K = [Bd b (l ++ encU r)]) := by
 refine hiS Tryz.func62 Tryz.ntmps62 fun g w0 R h0 => ?_
 obtain ⟨ad, p, c, had, hnil, h10⟩ := bd_open h0
 have h11 := tk3 (sf2 (sf1 (sf2 h10)))
 obtain ⟨hl12, hl13⟩ := sl_le h11
 have h14 := tk3 (sf2 (sf1 (sf2 h11)))
 refine go [] <| cl1 Tryz.call83 (cc_ht b ad (.slice p l.length c) had) h14 fun _ h16 => ?_
 have h19 := tk3 (sf2 (sf1 (sf2 h16)))
 refine go [rd 2 3 0 1 1 h16, rd 3 4 0 1 1 h16] <| cP Tryz.call84 (apr_ht p l.length c l r (by omega) (by omega) (by omega)) h19 ?_
 rintro v K _ (⟨p17, cap18, rfl, rfl⟩) h21
 have h22 := ap1 h21
 have hu23 := encU_le r
 obtain ⟨hl24, hl25⟩ := sl_le h22
 have h26 := tk3 (sf2 (sf1 (sf2 h22)))
 refine go [] <| sP [(1, .slice p17 (l.length + ((encU r).length)) cap18)] [pV b, .slice p17 (l.length + ((encU r).length)) cap18] h26 fun w27 h28 => go [rd 4 3 0 1 1 h28, .v 4 4 (oJ .i64 ((l.length + ((encU r).length) : Nat) : Int) (((l.length : Nat) : Int) + (((encU r).length : Nat) : Int))), .v 4 6 (oI ((((l.length : Nat) : Int) + (((encU r).length : Nat) : Int)) - (((l.length : Nat) : Int))) ((((encU r).length : Nat) : Int)))] ?_
 have h29 := (show l.length + ((encU r).length) = (l ++ encU r).length from by rw [List.length_append]; try rfl) ▸ h28
 have h30 : sat g w27 [Bd b (l ++ encU r), R] := bd_close (.inr rfl) (fun h_ => by have := congrArg List.length h_; have h3_ := encU_le r; rw [List.length_append] at this; simp only [List.length_nil] at this; omega) h29
 exact en (.tuple #[iV ((((encU r).length : Nat) : Int)), Value.nilIface]) [] ⟨_, _, rfl, ⟨rfl, rfl⟩, h30⟩

end Go.Proofs.YtfoliffeieeihaaGreatDoor

/- Walks, printed by my generator l7.py. -/
namespace Go.Proofs.YtfoliffeieeihaaGreatDoor
set_option maxHeartbeats 4000000 in
theorem quote_ht (L : List UInt8) (hm : L.length ≤ 1099511627776) : HT Tryz.prog 43 [.string (St L)] [] (fun v K => v = .tuple #[.string (St (qtV L)), iV (tagE L)] ∧ K = []) := by
 refine hiS Tryz.func43 Tryz.ntmps43 fun g w0 R h0 => go [] <| cl0 Tryz.call32 (tag_ht L (by omega)) h0 fun _ h11 => go [.s 2 1] ?_
 by_cases c12 : (tagE L) = 0
 ·
  refine go [.v 2 1 (qnF ((tagE L)) 0)] <| nP 104 [.pointer none, .slice none 0 0] h11 (fun r13 w14 h15 => ?_)
  have h16 : sat g w14 [Sl 5 1 none 0 0 (fl eB []), Cl r13 [.pointer none, .slice none 0 0] 104, R] := sl_nil 5 1 h15
  have h18 : sat g w14 [Bd r13 [], R] := bd_close (.inl rfl) (fun _ => rfl) (tk3 (sf2 (sf1 (sf2 h16))))
  refine go [] <| cl1 Tryz.call61 (wb_ht r13 [] 34 (by decide)) h18 fun _ h20 => go [] ?_
  refine actG ?_
  refine as_rangeStr (t := 9) (d := 15) (x := (Operand.tmp 14)) (L := L) (by kernel_rfl) (by kernel_rfl) rfl Tryz.underlying9 (by kernel_rfl) h20 ?_
  intro r21 w22 h23
  refine nxA <| go [] ?_
  have h96_ := (gd_0 (L := L) (by omega)).1
  have h24 := tk3 (sf2 (sf1 (sf2 h23)))
  have h25 : sat g w22 [Bd r13 (qtA L 0), Si r21 L 0, R] := (show [34] = (qtA L 0) from qtA_0 L) ▸ h24
  refine lpS (fun mz_ a w => ∃ p : Nat, ∃ lr : Fr, mz_ = L.length - p ∧ (gdT L p) ∧ (p ≤ L.length) ∧ a = mk 30 (([(5, pV r13), (15, pV r21)] : Fr) ++ lr) ∧ sat g w [Si r21 L p, Bd r13 (qtA L p), R]) (L.length - 0) ⟨0, _, rfl, (gd_0 (by omega)).2, (Nat.zero_le _), (lvF [.k 5 (pV r13), .k 15 (pV r21)]), (tk3 (sf2 (sf1 (sf2 h25))))⟩ ?_
  rintro m28 a29 w30 ⟨p, lr27, rfl, hg_, hp_, rfl, h31⟩
  refine ga <| go [] ?_
  by_cases c32 : p < L.length
  ·
   have hd33 := dec_pos (L := L) (p := p) (by omega); have hd34 := dec_max L p
   refine actG ?_
   refine as_next (d := 16) (x := (Operand.tmp 15)) (r := r21) (L := L) (p := p) (by kernel_rfl) (by kernel_rfl) rfl (by kernel_rfl) h31 (by omega) (by omega) ?_
   intro _ h36
   refine nxA <| go [.s 9 1] ?_
   by_cases c37 : (((dec L p).1 : Nat) : Int) = 34
   ·
    have h38 := tk3 (sf2 (sf1 (sf2 h36)))
    refine go [.v 9 1 (qeT ((((dec L p).1 : Nat) : Int)) 34)] <| cl1 Tryz.call61 (wb_ht r13 (qtA L p) 92 (by have := qtA_le L p; (try simp only [List.length_append, List.length_cons, List.length_nil]); omega)) h38 fun _ h40 => ?_
    have gs41 := gd_step (L := L) (p := p) (by omega) hg_
    have gs41a := gs41.2.1; have gs41b := gs41.2.2.1
    refine go [] <| cl1 Tryz.call62 (wr_ht r13 ((qtA L p) ++ [92]) (((dec L p).1)) (by omega) (by omega) (by have := qtA_le L p; (try simp only [List.length_append, List.length_cons, List.length_nil]); omega)) h40 fun w42 h43 => ?_
    refine go [] ?_
    refine enL ?_
    have h44 : sat g w42 [Bd r13 (qtA L (p + ((dec L p).2))), Si r21 L (p + ((dec L p).2)), R] := (show ((qtA L p) ++ [92] ++ encU (((dec L p).1))) = (qtA L (p + ((dec L p).2))) from qtA_y gs41.2.2.2 (by omega)) ▸ h43
    have h45 := tk3 (sf2 (sf1 (sf2 h44)))
    change ∃ n', n' < _ ∧ _
    refine ⟨(L.length - (p + ((dec L p).2))), by omega, p + ((dec L p).2), _, rfl, gs41.1, (by omega), (lvF [.k 5 (pV r13), .k 15 (pV r21)]), h45⟩
   refine go [.v 9 1 (qeF ((((dec L p).1 : Nat) : Int)) 34), .s 9 4] ?_
   by_cases c46 : (((dec L p).1 : Nat) : Int) = 92
   ·
    have h47 := tk3 (sf2 (sf1 (sf2 h36)))
    refine go [.v 9 4 (qeT ((((dec L p).1 : Nat) : Int)) 92)] <| cl1 Tryz.call61 (wb_ht r13 (qtA L p) 92 (by have := qtA_le L p; (try simp only [List.length_append, List.length_cons, List.length_nil]); omega)) h47 fun _ h49 => ?_
    have gs50 := gd_step (L := L) (p := p) (by omega) hg_
    have gs50a := gs50.2.1; have gs50b := gs50.2.2.1
    refine go [] <| cl1 Tryz.call62 (wr_ht r13 ((qtA L p) ++ [92]) (((dec L p).1)) (by omega) (by omega) (by have := qtA_le L p; (try simp only [List.length_append, List.length_cons, List.length_nil]); omega)) h49 fun w51 h52 => ?_
    refine go [] ?_
    refine enL ?_
    have h53 : sat g w51 [Bd r13 (qtA L (p + ((dec L p).2))), Si r21 L (p + ((dec L p).2)), R] := (show ((qtA L p) ++ [92] ++ encU (((dec L p).1))) = (qtA L (p + ((dec L p).2))) from qtA_y gs50.2.2.2 (by omega)) ▸ h52
    have h54 := tk3 (sf2 (sf1 (sf2 h53)))
    change ∃ n', n' < _ ∧ _
    refine ⟨(L.length - (p + ((dec L p).2))), by omega, p + ((dec L p).2), _, rfl, gs50.1, (by omega), (lvF [.k 5 (pV r13), .k 15 (pV r21)]), h54⟩
   have gs55 := gd_step (L := L) (p := p) (by omega) hg_
   have gs55a := gs55.2.1; have gs55b := gs55.2.2.1
   have h56 := tk3 (sf2 (sf1 (sf2 h36)))
   refine go [.v 9 4 (qeF ((((dec L p).1 : Nat) : Int)) 92)] <| cl1 Tryz.call62 (wr_ht r13 (qtA L p) (((dec L p).1)) (by omega) (by omega) (by have := qtA_le L p; (try simp only [List.length_append, List.length_cons, List.length_nil]); omega)) h56 fun w57 h58 => ?_
   refine go [] ?_
   refine enL ?_
   have h59 : sat g w57 [Bd r13 (qtA L (p + ((dec L p).2))), Si r21 L (p + ((dec L p).2)), R] := (show ((qtA L p) ++ encU (((dec L p).1))) = (qtA L (p + ((dec L p).2))) from qtA_n gs55.2.2.2 (by omega)) ▸ h58
   have h60 := tk3 (sf2 (sf1 (sf2 h59)))
   change ∃ n', n' < _ ∧ _
   refine ⟨(L.length - (p + ((dec L p).2))), by omega, p + ((dec L p).2), _, rfl, gs55.1, (by omega), (lvF [.k 5 (pV r13), .k 15 (pV r21)]), h60⟩
  refine actG ?_
  refine as_nextEnd (d := 16) (x := (Operand.tmp 15)) (r := r21) (L := L) (p := p) (by kernel_rfl) (by kernel_rfl) rfl (by kernel_rfl) (j := 0) h31 rfl (by omega) ?_
  refine nxA <| go [] <| up ?_
  have h61 := tk3 (sf2 (sf1 (sf2 h31)))
  refine go [] <| cl1 Tryz.call61 (wb_ht r13 (qtA L p) 34 (by have := qtA_le L p; (try simp only [List.length_append, List.length_cons, List.length_nil]); omega)) h61 fun _ h63 => ?_
  refine go [] <| cl0 Tryz.call63 (bstr_ht r13 ((qtA L p) ++ [34]) (by have := qtA_le L p; (try simp only [List.length_append, List.length_cons, List.length_nil]); omega)) h63 fun _ h65 => ?_
  refine go [] ?_
  exact en (.tuple #[.string (St ((qtA L p) ++ [34])), iV 0]) [] ⟨_, _, rfl, ⟨by unfold qtV; rw [if_pos (show tagE L = 0 by omega), qtA_end (by omega), show tagE L = 0 by omega], rfl⟩, (tk1 (sf1 h65))⟩
 refine go [.v 2 1 (qnT ((tagE L)) 0)] ?_
 exact en (.tuple #[.string (St []), iV ((tagE L))]) [] ⟨_, _, rfl, ⟨by unfold qtV; rw [if_neg (by omega)], rfl⟩, h11⟩

end Go.Proofs.YtfoliffeieeihaaGreatDoor

/- Walks, printed by my generator l10.py. -/
namespace Go.Proofs.YtfoliffeieeihaaGreatDoor
theorem quote_ok (t : List UInt8) (h : tagE t = 0) : HT Tryz.prog 43 [.string (St t)] [] fun v K => v = .tuple #[.string (St (qtL t)), .int .i64 0] ∧ K = [] := by
  have h1 := quote_ht t (by have := tag96 h; omega)
  unfold qtV at h1
  rw [if_pos h, h] at h1
  exact h1
theorem otx_ok (x y z : Int) (h : outE (x, y, z) = 0) (hz0 : 0 ≤ z) (hz1 : z ≤ 4294967295) (wo : World) (hg : Ld Tryz.prog 0 wo) : HT Tryz.prog 44 [.agg #[iV x, iV y, uV z]] [Old wo] fun v K => v = .tuple #[.string (St (otL (x, y, z))), .int .i64 0] ∧ K = [Old wo] := by
  have h1 := otx_ht x y z hz0 hz1 wo hg
  unfold otV at h1
  rw [if_pos h, h] at h1
  exact h1
theorem api_q (p : Option Addr) (m c : Nat) (l : List UInt8) (u : Nat) (hu : u < 9223372036854775808) (hm : m ≤ 1099511627776) (wo : World) (hg : Ld Tryz.prog 0 wo) (q : Nat) (hq : m + (Lib.decDigits u).length = q) (z : Int) (hz : z = (u : Int)) : HT Tryz.prog 45 [.slice p m c, .int .i64 z, .int .i64 10] [Sl 5 1 p m c (fl eB l), Old wo]
    fun v K => ∃ (p2 : Option Addr) (c2 : Nat), v = Value.slice p2 q c2 ∧ K = [Sl 5 1 p2 q c2 (fl eB (l ++ Lib.decDigits u)), Old wo] := by
  subst hq
  subst hz
  exact api_ht p m c l u hu hm wo hg
set_option maxHeartbeats 4000000 in
theorem rtext_ht (b : Nat) (S : Rp) (wo : World) (hg : Ld Tryz.prog 0 wo) : HT Tryz.prog 22 [pV b] [Rpt b S, Old wo] (fun v K => v = .tuple #[.string (St (txV S)), iV (txE S)] ∧ K = [Rpt b S, Old wo]) := by
 refine hiS Tryz.func22 Tryz.ntmps22 fun g w0 R h0 => go [] <| cl1 Tryz.call30 (rvalid_ht b S) h0 fun _ h11 => go [] <| cP Tryz.call16 (all_ht b S) h11 ?_
 rintro v K w15 (⟨p12, cap13, hl14, rfl, rfl⟩) h16
 have h17 := ap2 h16
 obtain ⟨hn18, hn19⟩ := sl_le h17
 refine go [] ?_
 have hW_ := rp_w (j := 1) h17 rfl
 have h20 : sat g w15 [Sl 5 1 none 0 0 (fl eB []), Sl 61 6 p12 (((lks S).length)) cap13 (fl eLk (lks S)), Rpt b S, Old wo, R] := sl_nil 5 1 h17
 refine lpS (fun mz_ a w => ∃ i : Nat, ∃ p2 : Option Addr, ∃ m2 : Nat, ∃ c2 : Nat, ∃ lr : Fr, mz_ = (lks S).length - i ∧ (i ≤ (lks S).length) ∧ (m2 ≤ 65536) ∧ ((txL ((lks S).take i)).length = m2) ∧ a = mk 63 (([(4, .slice p2 m2 c2), (14, .slice p12 (((lks S).length)) cap13), (15, iV ((((lks S).length : Nat) : Int))), (16, iV (i : Int))] : Fr) ++ lr) ∧ sat g w [Sl 5 1 p2 m2 c2 (fl eB (txL ((lks S).take i))), Sl 61 6 p12 (((lks S).length)) cap13 (fl eLk (lks S)), Rpt b S, Old wo, R]) ((lks S).length - 0) ⟨0, none, 0, 0, _, rfl, (Nat.zero_le _), (Nat.zero_le _), rfl, (lvF [.k 4 (.slice none 0 0), .k 14 (.slice p12 (((lks S).length)) cap13), .k 15 (iV ((((lks S).length : Nat) : Int))), .o 16 (oJ .i64 0 (0 : Int))]), h20⟩ ?_
 rintro m22 a23 w24 ⟨i, p2, m2, c2, lr21, rfl, hi_, hm_, hl_, rfl, h25⟩
 refine ga <| go [.s 5 0] ?_
 by_cases c26 : (i : Int) < (((lks S).length : Nat) : Int)
 ·
  obtain ⟨b27, hp28⟩ := sl_ptr0 (j := 1) h25 rfl (by omega)
  refine go [.v 5 0 (oT ((i : Int) < (((lks S).length : Nat) : Int))), .s 6 0] <| lwP (.pointer (some ⟨b27, i * 6, none⟩)) (law_indexSlP (x := (Operand.tmp 14)) (i := (Operand.tmp 16)) (p := p12) (b := b27) (off := 0) (z := (i : Int)) (len := (((lks S).length))) (cap := cap13) (by kernel_rfl) Tryz.underlying40 6 (by kernel_rfl) i (by kernel_rfl) hp28 (by kernel_rfl) (by omega) (by omega) (i * 6) (by omega) _) ?_
  obtain ⟨x29, hx30⟩ : ∃ x, (lks S)[i]? = some x := ⟨_, List.getElem?_eq_getElem (by omega)⟩
  have gd31 := lks_good hW_ (List.mem_of_getElem? hx30)
  have gd31z := gd31; obtain ⟨_, gd31a, gd31b, gd31c, gd31d, gd31e, gd31f⟩ := gd31z
  obtain ⟨gd31g, gd31h, gd31i, gd31j, gd31k⟩ := outE_iff.1 gd31a; have gd31l := tag96 gd31.1
  refine go [.r 6 1 b27 (i * 6) [.string (St x29.tag), iV x29.out.1, iV x29.out.2.1, uV x29.out.2.2, iV x29.at_, iV x29.st] ⟨gv_cell (j := 1) h25 rfl (gv_sl _ _ _) hp28 (fl_get eLk_ok (j := 0) (v := .string (St x29.tag)) hx30 rfl) (i * 6) (by omega), gv_cell (j := 1) h25 rfl (gv_sl _ _ _) hp28 (fl_get eLk_ok (j := 1) (v := iV x29.out.1) hx30 rfl) (i * 6 + 1) (by omega), gv_cell (j := 1) h25 rfl (gv_sl _ _ _) hp28 (fl_get eLk_ok (j := 2) (v := iV x29.out.2.1) hx30 rfl) (i * 6 + 2) (by omega), gv_cell (j := 1) h25 rfl (gv_sl _ _ _) hp28 (fl_get eLk_ok (j := 3) (v := uV x29.out.2.2) hx30 rfl) (i * 6 + 3) (by omega), gv_cell (j := 1) h25 rfl (gv_sl _ _ _) hp28 (fl_get eLk_ok (j := 4) (v := iV x29.at_) hx30 rfl) (i * 6 + 4) (by omega), gv_cell (j := 1) h25 rfl (gv_sl _ _ _) hp28 (fl_get eLk_ok (j := 5) (v := iV x29.st) hx30 rfl) (i * 6 + 5) (by omega), trivial⟩] <| nP 61 [.string (St []), iV 0, iV 0, uV 0, iV 0, iV 0] h25 (fun r32 _ h34 => ?_)
  refine sP [(0, .string (St x29.tag)), (1, iV x29.out.1), (2, iV x29.out.2.1), (3, uV x29.out.2.2), (4, iV x29.at_), (5, iV x29.st)] [.string (St x29.tag), iV x29.out.1, iV x29.out.2.1, uV x29.out.2.2, iV x29.at_, iV x29.st] h34 fun _ h36 => go [rd 7 1 0 0 1 h36] <| cl0 Tryz.call43 (quote_ok x29.tag gd31.1) h36 fun _ h38 => ?_
  have hq39 := qtL_len x29.tag
  have h40 := tk6 (sf5 (sf4 (sf4 (sf4 (sf4 (sf5 h38))))))
  refine go [rd 10 1 0 1 3 h38] <| cl1 Tryz.call44 (otx_ok x29.out.1 x29.out.2.1 x29.out.2.2 gd31.2.1 (by omega) (by omega) wo hg) h40 fun _ h42 => ?_
  have hq43 : (otL (x29.out.1, x29.out.2.1, x29.out.2.2)).length ≤ 42 := otL_len (by show x29.out.2.1 < _; omega) (by show x29.out.2.2 < _; omega)
  refine go [.s 13 2] <| lwP (.string (St ((qtL x29.tag) ++ [32]))) (law_catStr (t := 9) (x := (Operand.tmp 39)) (y := (Operand.const (.string (St [32])))) (a := (qtL x29.tag)) (b := [32]) (by kernel_rfl) (by kernel_rfl) (by kernel_rfl) (by simp only [List.length_cons, List.length_nil]; omega) _) ?_
  refine go [.s 13 4] <| lwP (.string (St (((qtL x29.tag) ++ [32]) ++ (otL (x29.out.1, x29.out.2.1, x29.out.2.2))))) (law_catStr (t := 9) (x := (Operand.tmp 40)) (y := (Operand.tmp 41)) (a := ((qtL x29.tag) ++ [32])) (b := (otL (x29.out.1, x29.out.2.1, x29.out.2.2))) (by kernel_rfl) (by kernel_rfl) (by kernel_rfl) (by have h0_ := ((List.length_append.trans ((congr (congrArg HAdd.hAdd (rfl : ((qtL x29.tag) : List UInt8).length = ((qtL x29.tag).length))) (rfl : ([32] : List UInt8).length = 1)).trans (show (((qtL x29.tag).length)) + 1 = ((qtL x29.tag).length) + 1 from by omega))) : (((qtL x29.tag) ++ [32]) : List UInt8).length = ((qtL x29.tag).length) + 1); omega) _) ?_
  refine lwP (.string (St ((((qtL x29.tag) ++ [32]) ++ (otL (x29.out.1, x29.out.2.1, x29.out.2.2))) ++ [32]))) (law_catStr (t := 9) (x := (Operand.tmp 42)) (y := (Operand.const (.string (St [32])))) (a := (((qtL x29.tag) ++ [32]) ++ (otL (x29.out.1, x29.out.2.1, x29.out.2.2)))) (b := [32]) (by kernel_rfl) (by kernel_rfl) (by kernel_rfl) (by have h0_ := ((List.length_append.trans ((congr (congrArg HAdd.hAdd ((List.length_append.trans ((congr (congrArg HAdd.hAdd (rfl : ((qtL x29.tag) : List UInt8).length = ((qtL x29.tag).length))) (rfl : ([32] : List UInt8).length = 1)).trans (show (((qtL x29.tag).length)) + 1 = ((qtL x29.tag).length) + 1 from by omega))) : (((qtL x29.tag) ++ [32]) : List UInt8).length = ((qtL x29.tag).length) + 1)) (rfl : ((otL (x29.out.1, x29.out.2.1, x29.out.2.2)) : List UInt8).length = ((otL (x29.out.1, x29.out.2.1, x29.out.2.2)).length))).trans (show (((qtL x29.tag).length) + 1) + (((otL (x29.out.1, x29.out.2.1, x29.out.2.2)).length)) = ((qtL x29.tag).length) + ((otL (x29.out.1, x29.out.2.1, x29.out.2.2)).length) + 1 from by omega))) : ((((qtL x29.tag) ++ [32]) ++ (otL (x29.out.1, x29.out.2.1, x29.out.2.2))) : List UInt8).length = ((qtL x29.tag).length) + ((otL (x29.out.1, x29.out.2.1, x29.out.2.2)).length) + 1); simp only [List.length_cons, List.length_nil]; omega) _) ?_
  have h44 := tk6 (sf5 (sf4 (sf4 (sf5 (sf5 (sf5 h42))))))
  refine actG ?_
  refine an_append_str (d := 44) (s := (Operand.tmp 38)) (x := (Operand.tmp 43)) (p := p2) (m := m2) (c := c2) (l2 := ((((qtL x29.tag) ++ [32]) ++ (otL (x29.out.1, x29.out.2.1, x29.out.2.2))) ++ [32])) (by kernel_rfl) (by kernel_rfl) rfl Tryz.underlying79 Tryz.underlying9 (by kernel_rfl) (by kernel_rfl) (by kernel_rfl) h44 (by have h0_ := ((List.length_append.trans ((congr (congrArg HAdd.hAdd ((List.length_append.trans ((congr (congrArg HAdd.hAdd ((List.length_append.trans ((congr (congrArg HAdd.hAdd (rfl : ((qtL x29.tag) : List UInt8).length = ((qtL x29.tag).length))) (rfl : ([32] : List UInt8).length = 1)).trans (show (((qtL x29.tag).length)) + 1 = ((qtL x29.tag).length) + 1 from by omega))) : (((qtL x29.tag) ++ [32]) : List UInt8).length = ((qtL x29.tag).length) + 1)) (rfl : ((otL (x29.out.1, x29.out.2.1, x29.out.2.2)) : List UInt8).length = ((otL (x29.out.1, x29.out.2.1, x29.out.2.2)).length))).trans (show (((qtL x29.tag).length) + 1) + (((otL (x29.out.1, x29.out.2.1, x29.out.2.2)).length)) = ((qtL x29.tag).length) + ((otL (x29.out.1, x29.out.2.1, x29.out.2.2)).length) + 1 from by omega))) : ((((qtL x29.tag) ++ [32]) ++ (otL (x29.out.1, x29.out.2.1, x29.out.2.2))) : List UInt8).length = ((qtL x29.tag).length) + ((otL (x29.out.1, x29.out.2.1, x29.out.2.2)).length) + 1)) (rfl : ([32] : List UInt8).length = 1)).trans (show (((qtL x29.tag).length) + ((otL (x29.out.1, x29.out.2.1, x29.out.2.2)).length) + 1) + 1 = ((qtL x29.tag).length) + ((otL (x29.out.1, x29.out.2.1, x29.out.2.2)).length) + 2 from by omega))) : (((((qtL x29.tag) ++ [32]) ++ (otL (x29.out.1, x29.out.2.1, x29.out.2.2))) ++ [32]) : List UInt8).length = ((qtL x29.tag).length) + ((otL (x29.out.1, x29.out.2.1, x29.out.2.2)).length) + 2); omega) (m2 + ((qtL x29.tag).length) + ((otL (x29.out.1, x29.out.2.1, x29.out.2.2)).length) + 2) (by have h0_ := ((List.length_append.trans ((congr (congrArg HAdd.hAdd ((List.length_append.trans ((congr (congrArg HAdd.hAdd ((List.length_append.trans ((congr (congrArg HAdd.hAdd (rfl : ((qtL x29.tag) : List UInt8).length = ((qtL x29.tag).length))) (rfl : ([32] : List UInt8).length = 1)).trans (show (((qtL x29.tag).length)) + 1 = ((qtL x29.tag).length) + 1 from by omega))) : (((qtL x29.tag) ++ [32]) : List UInt8).length = ((qtL x29.tag).length) + 1)) (rfl : ((otL (x29.out.1, x29.out.2.1, x29.out.2.2)) : List UInt8).length = ((otL (x29.out.1, x29.out.2.1, x29.out.2.2)).length))).trans (show (((qtL x29.tag).length) + 1) + (((otL (x29.out.1, x29.out.2.1, x29.out.2.2)).length)) = ((qtL x29.tag).length) + ((otL (x29.out.1, x29.out.2.1, x29.out.2.2)).length) + 1 from by omega))) : ((((qtL x29.tag) ++ [32]) ++ (otL (x29.out.1, x29.out.2.1, x29.out.2.2))) : List UInt8).length = ((qtL x29.tag).length) + ((otL (x29.out.1, x29.out.2.1, x29.out.2.2)).length) + 1)) (rfl : ([32] : List UInt8).length = 1)).trans (show (((qtL x29.tag).length) + ((otL (x29.out.1, x29.out.2.1, x29.out.2.2)).length) + 1) + 1 = ((qtL x29.tag).length) + ((otL (x29.out.1, x29.out.2.1, x29.out.2.2)).length) + 2 from by omega))) : (((((qtL x29.tag) ++ [32]) ++ (otL (x29.out.1, x29.out.2.1, x29.out.2.2))) ++ [32]) : List UInt8).length = ((qtL x29.tag).length) + ((otL (x29.out.1, x29.out.2.1, x29.out.2.2)).length) + 2); omega) ?_
  intro p45 cap46 _ h48
  obtain ⟨hn49, hn50⟩ := sl_le h48
  refine nxA ?_
  obtain ⟨kk51, hk52⟩ : ∃ z_ : Nat, x29.at_ = (z_ : Int) := ⟨(x29.at_).toNat, by omega⟩
  refine go [rd 14 2 2 4 1 h48] <| cP Tryz.call45 (api_q p45 (m2 + ((qtL x29.tag).length) + ((otL (x29.out.1, x29.out.2.1, x29.out.2.2)).length) + 2) cap46 ((txL ((lks S).take i)) ++ ((((qtL x29.tag) ++ [32]) ++ (otL (x29.out.1, x29.out.2.1, x29.out.2.2))) ++ [32])) kk51 (by omega) (by omega) wo hg (m2 + ((qtL x29.tag).length) + ((otL (x29.out.1, x29.out.2.1, x29.out.2.2)).length) + ((Lib.decDigits kk51).length) + 2) (by omega) x29.at_ (by omega)) h48 ?_
  rintro v K _ (⟨p53, cap54, rfl, rfl⟩) h56
  have h57 := ap2 h56
  have hd58 := dec_le kk51 (by omega)
  obtain ⟨kk59, hk60⟩ : ∃ z_ : Nat, x29.st = (z_ : Int) := ⟨(x29.st).toNat, by omega⟩
  refine go [rd 15 2 2 5 1 h57, .s 15 3] <| lwP (.pointer (some ⟨0, kk59, none⟩)) (law_indexArr (x := (Operand.global 0)) (i := (Operand.tmp 51)) (b := 0) (off := 0) (z := x29.st) (by kernel_rfl) Tryz.underlying83 1 (by kernel_rfl) kk59 (by kernel_rfl) (by kernel_rfl) (by omega) (by omega) kk59 (by omega) _) ?_
  have hw61 := wd_le (kk59 : Int)
  refine go [.r 15 4 0 kk59 [.string (St (wdL (kk59 : Int)))] ⟨sat_cellOld h57 1 rfl (hg.words kk59 (by omega) (by omega)), trivial⟩, .s 15 5] <| lwP (.string (St ([32] ++ (wdL (kk59 : Int))))) (law_catStr (t := 9) (x := (Operand.const (.string (St [32])))) (y := (Operand.tmp 53)) (a := [32]) (b := (wdL (kk59 : Int))) (by kernel_rfl) (by kernel_rfl) (by kernel_rfl) (by simp only [List.length_cons, List.length_nil]; omega) _) ?_
  refine lwP (.string (St (([32] ++ (wdL (kk59 : Int))) ++ [10]))) (law_catStr (t := 9) (x := (Operand.tmp 54)) (y := (Operand.const (.string (St [10])))) (a := ([32] ++ (wdL (kk59 : Int)))) (b := [10]) (by kernel_rfl) (by kernel_rfl) (by kernel_rfl) (by have h0_ := ((List.length_append.trans ((congr (congrArg HAdd.hAdd (rfl : ([32] : List UInt8).length = 1)) (rfl : ((wdL (kk59 : Int)) : List UInt8).length = ((wdL (kk59 : Int)).length))).trans (show 1 + (((wdL (kk59 : Int)).length)) = ((wdL (kk59 : Int)).length) + 1 from by omega))) : (([32] ++ (wdL (kk59 : Int))) : List UInt8).length = ((wdL (kk59 : Int)).length) + 1); simp only [List.length_cons, List.length_nil]; omega) _) ?_
  refine actG ?_
  refine an_append_str (d := 56) (s := (Operand.tmp 49)) (x := (Operand.tmp 55)) (p := p53) (m := (m2 + ((qtL x29.tag).length) + ((otL (x29.out.1, x29.out.2.1, x29.out.2.2)).length) + ((Lib.decDigits kk51).length) + 2)) (c := cap54) (l2 := (([32] ++ (wdL (kk59 : Int))) ++ [10])) (by kernel_rfl) (by kernel_rfl) rfl Tryz.underlying79 Tryz.underlying9 (by kernel_rfl) (by kernel_rfl) (by kernel_rfl) h57 (by have h0_ := ((List.length_append.trans ((congr (congrArg HAdd.hAdd ((List.length_append.trans ((congr (congrArg HAdd.hAdd (rfl : ([32] : List UInt8).length = 1)) (rfl : ((wdL (kk59 : Int)) : List UInt8).length = ((wdL (kk59 : Int)).length))).trans (show 1 + (((wdL (kk59 : Int)).length)) = ((wdL (kk59 : Int)).length) + 1 from by omega))) : (([32] ++ (wdL (kk59 : Int))) : List UInt8).length = ((wdL (kk59 : Int)).length) + 1)) (rfl : ([10] : List UInt8).length = 1)).trans (show (((wdL (kk59 : Int)).length) + 1) + 1 = ((wdL (kk59 : Int)).length) + 2 from by omega))) : ((([32] ++ (wdL (kk59 : Int))) ++ [10]) : List UInt8).length = ((wdL (kk59 : Int)).length) + 2); omega) (m2 + ((qtL x29.tag).length) + ((otL (x29.out.1, x29.out.2.1, x29.out.2.2)).length) + ((Lib.decDigits kk51).length) + ((wdL (kk59 : Int)).length) + 4) (by have h0_ := ((List.length_append.trans ((congr (congrArg HAdd.hAdd ((List.length_append.trans ((congr (congrArg HAdd.hAdd (rfl : ([32] : List UInt8).length = 1)) (rfl : ((wdL (kk59 : Int)) : List UInt8).length = ((wdL (kk59 : Int)).length))).trans (show 1 + (((wdL (kk59 : Int)).length)) = ((wdL (kk59 : Int)).length) + 1 from by omega))) : (([32] ++ (wdL (kk59 : Int))) : List UInt8).length = ((wdL (kk59 : Int)).length) + 1)) (rfl : ([10] : List UInt8).length = 1)).trans (show (((wdL (kk59 : Int)).length) + 1) + 1 = ((wdL (kk59 : Int)).length) + 2 from by omega))) : ((([32] ++ (wdL (kk59 : Int))) ++ [10]) : List UInt8).length = ((wdL (kk59 : Int)).length) + 2); omega) ?_
  intro p62 cap63 w64 h65
  obtain ⟨hn66, hn67⟩ := sl_le h65
  refine nxA <| go [.v 16 1 (oJ .i64 ((m2 + ((qtL x29.tag).length) + ((otL (x29.out.1, x29.out.2.1, x29.out.2.2)).length) + ((Lib.decDigits kk51).length) + ((wdL (kk59 : Int)).length) + 4 : Nat) : Int) ((m2 : Int) + (((qtL x29.tag).length : Nat) : Int) + (((otL (x29.out.1, x29.out.2.1, x29.out.2.2)).length : Nat) : Int) + (((Lib.decDigits kk51).length : Nat) : Int) + (((wdL (kk59 : Int)).length : Nat) : Int) + 4)), .s 16 2] ?_
  by_cases c68 : (m2 : Int) + (((qtL x29.tag).length : Nat) : Int) + (((otL (x29.out.1, x29.out.2.1, x29.out.2.2)).length : Nat) : Int) + (((Lib.decDigits kk51).length : Nat) : Int) + (((wdL (kk59 : Int)).length : Nat) : Int) + 4 > 65536
  ·
   refine go [.v 16 2 (oT ((m2 : Int) + (((qtL x29.tag).length : Nat) : Int) + (((otL (x29.out.1, x29.out.2.1, x29.out.2.2)).length : Nat) : Int) + (((Lib.decDigits kk51).length : Nat) : Int) + (((wdL (kk59 : Int)).length : Nat) : Int) + 4 > 65536))] <| up <| go [] ?_
   have hq70 := (ln_eq x29 kk51 (kk59 : Int) (by omega) (by omega) (txL ((lks S).take i))).trans (tx_step hx30).symm
   have h69 : sat g w64 [Sl 5 1 p62 (m2 + ((qtL x29.tag).length) + ((otL (x29.out.1, x29.out.2.1, x29.out.2.2)).length) + ((Lib.decDigits kk51).length) + ((wdL (kk59 : Int)).length) + 4) cap63 (fl eB (txL ((lks S).take (i + 1)))), Old wo, Cl r32 [.string (St x29.tag), iV x29.out.1, iV x29.out.2.1, uV x29.out.2.2, iV x29.at_, iV x29.st] 61, Sl 61 6 p12 (((lks S).length)) cap13 (fl eLk (lks S)), Rpt b S, R] := hq70 ▸ h65
   have hl71 := fl_n eB_ok (by decide) h69
   exact en (.tuple #[.string (St []), iV 10]) [] ⟨_, _, rfl, ⟨by rw [(tx_many (S := S) (k := i + 1) (by omega)).1, (tx_many (S := S) (k := i + 1) (by omega)).2], rfl⟩, (tk3 (sf2 (sf2 (sf5 (tk6 (sf5 (sf4 (sf3 (sf4 (sf4 (sf5 h69)))))))))))⟩
  refine go [.v 16 2 (oF ((m2 : Int) + (((qtL x29.tag).length : Nat) : Int) + (((otL (x29.out.1, x29.out.2.1, x29.out.2.2)).length : Nat) : Int) + (((Lib.decDigits kk51).length : Nat) : Int) + (((wdL (kk59 : Int)).length : Nat) : Int) + 4 > 65536)), .v 18 0 (oIr ((i : Int) + 1))] ?_
  refine enL ?_
  have hq75 := (ln_eq x29 kk51 (kk59 : Int) (by omega) (by omega) (txL ((lks S).take i))).trans (tx_step hx30).symm
  have h74 : sat g w64 [Sl 5 1 p62 (m2 + ((qtL x29.tag).length) + ((otL (x29.out.1, x29.out.2.1, x29.out.2.2)).length) + ((Lib.decDigits kk51).length) + ((wdL (kk59 : Int)).length) + 4) cap63 (fl eB (txL ((lks S).take (i + 1)))), Old wo, Cl r32 [.string (St x29.tag), iV x29.out.1, iV x29.out.2.1, uV x29.out.2.2, iV x29.at_, iV x29.st] 61, Sl 61 6 p12 (((lks S).length)) cap13 (fl eLk (lks S)), Rpt b S, R] := hq75 ▸ h65
  have hl76 := fl_n eB_ok (by decide) h74
  have h78 := tk5 (tk6 (sf5 (sf5 (sf5 (sf3 (sf5 (sf2 h74)))))))
  change ∃ n', n' < _ ∧ _
  refine ⟨((lks S).length - (i + 1)), by omega, (i + 1), p62, m2 + ((qtL x29.tag).length) + ((otL (x29.out.1, x29.out.2.1, x29.out.2.2)).length) + ((Lib.decDigits kk51).length) + ((wdL (kk59 : Int)).length) + 4, cap63, _, rfl, (by omega), (by omega), hl76, (lvF [.k 4 (.slice p62 (m2 + ((qtL x29.tag).length) + ((otL (x29.out.1, x29.out.2.1, x29.out.2.2)).length) + ((Lib.decDigits kk51).length) + ((wdL (kk59 : Int)).length) + 4) cap63), .k 14 (.slice p12 (((lks S).length)) cap13), .k 15 (iV ((((lks S).length : Nat) : Int))), .o 16 (oJ .i64 ((i : Int) + 1) ((((i + 1) : Nat) : Int)))]), h78⟩
 refine go [.v 5 0 (oF ((i : Int) < (((lks S).length : Nat) : Int)))] <| up <| go [.s 19 1] <| lwP (.string (St (txL ((lks S).take i)))) (law_bts (x := (Operand.tmp 61)) (p := p2) (m := m2) (c := c2) (by kernel_rfl) Tryz.underlying79 Tryz.underlying5 Tryz.underlying9 (by kernel_rfl) 0 h25 rfl (gv_sl _ _ _) hl_) <| go [] ?_
 exact en (.tuple #[.string (St (txL ((lks S).take i))), iV 0]) [] ⟨_, _, rfl, ⟨by rw [(tx_all (by omega) hl_ hm_).1, (tx_all (by omega) hl_ hm_).2], rfl⟩, (tk3 (sf2 (sf2 (sf4 (tk5 (sf4 (sf4 (sf2 (sf2 (sf4 h25))))))))))⟩

end Go.Proofs.YtfoliffeieeihaaGreatDoor
