/-
  slices.SortFunc at api.Outer: the shelf's contract, laid at this dump, as a contract of mine. The laying is printed by my gensrt.py.
-/
import Derived.Test.YtcgpkhdocakloaaFdsZ
import Derived.Shelf.SlSortCmp.WholeK
import Derived.Test.YtcgpkhdocakloaaF20
namespace Go.Proofs.Ytcgpkhdocakloaa
section
open Go.Shelf Go.RowKit Go.Lib Go.Sort
def sortRen : Go.Shelf.Ren := ⟨fun | 6 => 31 | 15 => 50 | 14 => 49 | 28 => 69 | 29 => 70 | 20 => 61 | 21 => 62 | 22 => 63 | 23 => 64 | 24 => 65 | 25 => 66 | 26 => 67 | 27 => 68 | 46 => 75 | 47 => 76 | 48 => 77 | 49 => 78 | 50 => 79 | 57 => 81 | n => n, fun | 22 => 42 | 24 => 28 | 25 => 76 | 3 => 3 | 39 => 55 | 0 => 0 | 53 => 22 | 55 => 124 | 4 => 4 | 46 => 116 | 45 => 115 | 50 => 120 | 5 => 5 | 9 => 9 | 66 => 132 | 70 => 136 | 76 => 140 | 77 => 141 | n => n, fun n => n⟩
theorem sortLay : SlLaysF0.n6 Try.prog sortRen where
  mixed := by kernel_rfl
  f6 := ⟨ "slices.SortFunc[[]estray/api.Outer,estray/api.Outer]", by decide, Try.func31.trans (congrArg some (by kernel_rfl))⟩
  f14 := ⟨ "slices.pdqsortCmpFunc[estray/api.Outer]", by decide, Try.func49.trans (congrArg some (by kernel_rfl))⟩
  f15 := Try.func50.trans (congrArg some (by kernel_rfl))
  f20 := ⟨ "slices.insertionSortCmpFunc[estray/api.Outer]", by decide, Try.func61.trans (congrArg some (by kernel_rfl))⟩
  f21 := ⟨ "slices.heapSortCmpFunc[estray/api.Outer]", by decide, Try.func62.trans (congrArg some (by kernel_rfl))⟩
  f22 := ⟨ "slices.breakPatternsCmpFunc[estray/api.Outer]", by decide, Try.func63.trans (congrArg some (by kernel_rfl))⟩
  f23 := ⟨ "slices.choosePivotCmpFunc[estray/api.Outer]", by decide, Try.func64.trans (congrArg some (by kernel_rfl))⟩
  f24 := ⟨ "slices.reverseRangeCmpFunc[estray/api.Outer]", by decide, Try.func65.trans (congrArg some (by kernel_rfl))⟩
  f25 := ⟨ "slices.partialInsertionSortCmpFunc[estray/api.Outer]", by decide, Try.func66.trans (congrArg some (by kernel_rfl))⟩
  f26 := ⟨ "slices.partitionEqualCmpFunc[estray/api.Outer]", by decide, Try.func67.trans (congrArg some (by kernel_rfl))⟩
  f27 := ⟨ "slices.partitionCmpFunc[estray/api.Outer]", by decide, Try.func68.trans (congrArg some (by kernel_rfl))⟩
  f28 := Try.func69.trans (congrArg some (by kernel_rfl))
  f29 := Try.func70.trans (congrArg some (by kernel_rfl))
  f46 := ⟨ "slices.siftDownCmpFunc[estray/api.Outer]", by decide, Try.func75.trans (congrArg some (by kernel_rfl))⟩
  f47 := Try.func76.trans (congrArg some (by kernel_rfl))
  f48 := Try.func77.trans (congrArg some (by kernel_rfl))
  f49 := ⟨ "slices.medianAdjacentCmpFunc[estray/api.Outer]", by decide, Try.func78.trans (congrArg some (by kernel_rfl))⟩
  f50 := ⟨ "slices.medianCmpFunc[estray/api.Outer]", by decide, Try.func79.trans (congrArg some (by kernel_rfl))⟩
  f57 := ⟨ "slices.order2CmpFunc[estray/api.Outer]", by decide, Try.func81.trans (congrArg some (by kernel_rfl))⟩
  t0 := Try.underlying0
  a0 := Try.isAgg0
  z0 := Try.sizeOf0
  v0 := Try.zeroValue0
  t3 := Try.underlying3
  a3 := Try.isAgg3
  z3 := Try.sizeOf3
  v3 := Try.zeroValue3
  t4 := Try.underlying4
  a4 := Try.isAgg4
  z4 := Try.sizeOf4
  v4 := Try.zeroValue4
  t5 := Try.underlying5
  a5 := Try.isAgg5
  z5 := Try.sizeOf5
  v5 := Try.zeroValue5
  t9 := Try.underlying9
  a9 := Try.isAgg9
  z9 := Try.sizeOf9
  v9 := Try.zeroValue9
  t22 := Try.underlying42
  a22 := Try.isAgg42
  z22 := Try.sizeOf42
  v22 := Try.zeroValue42
  t25 := Try.underlying76
  a25 := Try.isAgg76
  z25 := Try.sizeOf76
  v25 := Try.zeroValue76
  t39 := Try.underlying55
  a39 := Try.isAgg55
  z39 := Try.sizeOf55
  v39 := Try.zeroValue55
  t45 := Try.underlying115
  a45 := Try.isAgg115
  z45 := Try.sizeOf115
  v45 := Try.zeroValue115
  t46 := Try.underlying116
  a46 := Try.isAgg116
  z46 := Try.sizeOf116
  v46 := Try.zeroValue116
  t50 := Try.underlying120
  a50 := Try.isAgg120
  z50 := Try.sizeOf120
  v50 := Try.zeroValue120
  t53 := Try.underlying22
  a53 := Try.isAgg22
  z53 := Try.sizeOf22
  v53 := Try.zeroValue22
  t55 := Try.underlying124
  a55 := Try.isAgg124
  z55 := Try.sizeOf124
  v55 := Try.zeroValue124
  t66 := Try.underlying132
  a66 := Try.isAgg132
  z66 := Try.sizeOf132
  v66 := Try.zeroValue132
  t70 := Try.underlying136
  a70 := Try.isAgg136
  z70 := Try.sizeOf136
  v70 := Try.zeroValue136
  t76 := Try.underlying140
  a76 := Try.isAgg140
  z76 := Try.sizeOf140
  v76 := Try.zeroValue140
  t77 := Try.underlying141
  a77 := Try.isAgg141
  z77 := Try.sizeOf141
  v77 := Try.zeroValue141
abbrev So := Fin 64 × Int
def encSo (x : So) : List Value := [.int .i64 1, .int .i64 ((x.1.val : Nat) : Int), .int .u32 x.2]
def cfSo (x y : So) : Int := ((x.1.val : Nat) : Int) - ((y.1.val : Nat) : Int)
theorem ltSo (x y : So) : ltOf cfSo x y = decide (x.1.val < y.1.val) := by
  unfold ltOf cfSo
  by_cases h : x.1.val < y.1.val
  · rw [decide_eq_true h, decide_eq_true (by omega)]
  · rw [decide_eq_false h, decide_eq_false (by omega)]
theorem swoSo : SWO (ltOf cfSo) where
  irrefl x := by rw [ltSo]; simp
  trans x y z h1 h2 := by rw [ltSo] at *; simp at *; omega
  ntrans x y z h1 h2 := by rw [ltSo] at *; simp at *; omega
set_option maxHeartbeats 1000000 in
theorem closSo (x y : So) (W : World) : Calls Try.prog 32 #[.agg (encSo x).toArray, .agg (encSo y).toArray] W fun e w' => e = .returned (.int .i64 (cfSo x y)) ∧ ∃ q os', w' = grow (W.drewN q) os' := by
  have hw : wrap64 (((x.1.val : Nat) : Int) - ((y.1.val : Nat) : Int)) = cfSo x y := by
    have h1 := x.1.isLt
    have h2 := y.1.isLt
    unfold cfSo
    simp only [wrap64]
    omega
  change Calls Try.prog 32 #[.agg #[.int .i64 1, .int .i64 ((x.1.val : Nat) : Int), .int .u32 x.2], .agg #[.int .i64 1, .int .i64 ((y.1.val : Nat) : Int), .int .u32 y.2]] W _
  rw [← hw]
  generalize ((x.1.val : Nat) : Int) = a
  generalize ((y.1.val : Nat) : Int) = b
  go_enter Try.func32, Try.ntmps32
  go_wp2
  go_ret
  exact ⟨rfl, 0, _, by rw [alloc_eq_grow, alloc_eq_grow, grow_grow]; rfl⟩
def toKy (x : So) : Ky := (1, ((x.1.val : Nat) : Int), x.2)
def ofKy (o : Ky) : So := (⟨o.2.1.toNat % 64, Nat.mod_lt _ (by decide)⟩, o.2.2)
theorem toKy_of {o : Ky} (h : o.1 = 1 ∧ 0 ≤ o.2.1 ∧ o.2.1 < 64) : toKy (ofKy o) = o := by
  obtain ⟨a, b, c⟩ := o
  obtain ⟨h1, h2, h3⟩ := h
  simp only at h1 h2 h3
  subst h1
  show ((1, ((b.toNat % 64 : Nat) : Int), c) : Ky) = (1, b, c)
  rw [show ((b.toNat % 64 : Nat) : Int) = b from by omega]
theorem toKy_map {L : List Ky} (h : ∀ o ∈ L, o.1 = 1 ∧ 0 ≤ o.2.1 ∧ o.2.1 < 64) : (L.map ofKy).map toKy = L := by
  rw [List.map_map]
  conv => rhs; rw [← List.map_id L]
  exact List.map_congr_left fun o ho => toKy_of (h o ho)
theorem flatK_fl (d : Array So) : (flatK encSo 3 d).toList = fl eO (d.toList.map toKy) := by
  apply List.ext_getElem?
  intro t
  by_cases ht : t < d.size * 3
  · have hi : t / 3 < d.size := by omega
    have h1 : (d.toList.map toKy)[t / 3]? = some (toKy d[t / 3]!) := by
      rw [List.getElem?_map, Array.getElem?_toList, getElem!_pos d _ hi, Array.getElem?_eq_getElem hi]
      rfl
    have h2 : t % 3 < 3 := Nat.mod_lt _ (by decide)
    have h3 : (eO (toKy d[t / 3]!))[t % 3]? = some ((encSo d[t / 3]!)[t % 3]!) := by
      have : ∀ j, j < 3 → (eO (toKy d[t / 3]!))[j]? = some ((encSo d[t / 3]!)[j]!) := by
        intro j hj
        match j, hj with
        | 0, _ => rfl
        | 1, _ => rfl
        | 2, _ => rfl
      exact this _ h2
    have h4 := fl_get eO_ok h1 h3
    rw [show t / 3 * 3 + t % 3 = t from by omega] at h4
    rw [h4, Array.getElem?_toList, ← get_flatK encSo 3 d t ht, getElem!_pos (flatK encSo 3 d) t (by rw [size_flatK]; exact ht), Array.getElem?_eq_getElem (by rw [size_flatK]; exact ht)]
  · rw [List.getElem?_eq_none (by rw [Array.length_toList, size_flatK]; omega), List.getElem?_eq_none (by rw [fl_len eO_ok, List.length_map, Array.length_toList]; omega)]
theorem putCells_take (F cur : Array Value) (h : F.size ≤ cur.size) : putCells id 0 F cur = (F.toList ++ cur.toList.drop F.size).toArray := by
  apply Array.ext
  · simp [putCells]
    omega
  · intro i h1 h2
    simp only [putCells, Array.getElem_mapIdx, List.getElem_toArray, id_eq, Nat.zero_le, true_and, Nat.zero_add, Nat.sub_zero]
    by_cases hi : i < F.size
    · rw [if_pos hi, List.getElem_append_left (by simpa using hi), getElem!_pos F i hi, Array.getElem_toList]
    · rw [if_neg hi, List.getElem_append_right (by rw [Array.length_toList]; omega), List.getElem_drop, Array.getElem_toList]
      congr 1
      rw [Array.length_toList]
      omega
theorem sat_grow {g w : World} {L : List Assn} (h : sat g w L) (os : Array Obj) : sat g (grow w os) L := by
  obtain ⟨s, Z, hZ, ok, pw⟩ := h
  refine ⟨⟨s.os, s.tape, s.output⟩, Z, hZ, fun z hz => ⟨(ok z hz).1, fun b o hb => ?_⟩, pw⟩
  have h1 := (ok z hz).2 b o hb
  show (w.heap ++ os)[b]? = some o
  rw [Array.getElem?_append_left (Array.getElem?_eq_some_iff.1 h1).1]
  exact h1
/-- slices.SortFunc by the ids: a permutation, in the order of the ids. -/
theorem sort_ht (p : Option Addr) (m c : Nat) (L : List Ky) (hm : m ≤ 1000000) (hL : ∀ o ∈ L, o.1 = 1 ∧ 0 ≤ o.2.1 ∧ o.2.1 < 64) : HT Try.prog 31 [.slice p m c, .func (.func 32) #[] #[]] [Sl 28 3 p m c (fl eO L)]
    (fun v K => ∃ M : List Ky, (M.Perm L ∧ M.Pairwise fun a b => a.2.1 ≤ b.2.1) ∧ v = .tuple #[] ∧ K = [Sl 28 3 p m c (fl eO M)]) := by
  intro g w F hs
  have hlen : L.length = m := fl_n eO_ok (by decide) hs
  rcases Nat.eq_zero_or_pos m with h0 | h0
  · subst h0
    have hl : L = [] := List.eq_nil_of_length_eq_zero hlen
    subst hl
    refine (sort_z p c g w (Sl 28 3 p 0 c (fl eO []) :: F) hs).mono ?_
    rintro e w' ⟨v, K, rfl, ⟨rfl, rfl⟩, h2⟩
    exact ⟨_, _, rfl, ⟨[], ⟨List.Perm.refl _, List.Pairwise.nil⟩, rfl, rfl⟩, h2⟩
  · have hle := sl_le hs
    have hcl := sl_len hs
    obtain ⟨b, cur, rfl, e2, e3, e4⟩ := sl_open hs h0
    have hb : w.heap[b]? = some (.cells cur.toArray 28 (0, 0)) := sat_at (i := 0) e4 rfl
    obtain ⟨d, hd⟩ : ∃ d : Array So, d = (L.map ofKy).toArray := ⟨_, rfl⟩
    have hds : d.size = m := by rw [hd, List.size_toArray, List.length_map, hlen]
    have hdm : d.toList.map toKy = L := by rw [hd]; exact toKy_map hL
    have hF : (flatK encSo 3 d).toList = fl eO L := by rw [flatK_fl, hdm]
    have hge : m * 3 ≤ cur.length := by rw [e2]; exact Nat.mul_le_mul_right _ hle.1
    have hH : HoldsK encSo 3 w b 0 d := by
      intro j hj
      rw [size_flatK, hds] at hj
      refine ⟨?_, frozen_of_row w b _ cur.toArray 28 hb⟩
      have hj2 : j < (flatK encSo 3 d).size := by rw [size_flatK, hds]; exact hj
      have hj3 : j < (fl eO L).length := by rw [fl_len eO_ok, hlen]; exact hj
      rw [Nat.zero_add, cell_of_row w b j cur.toArray 28 (0, 0) hb, List.getElem?_toArray, take_at e3 hj, getElem!_pos _ j hj2, id_eq, ← Array.getElem?_eq_getElem hj2, ← Array.getElem?_toList, hF]
    have eg : ∀ args w, (callFunc 32 args).run Try.prog w = .ok (.enter 32 args) w := enters_of Try.func32 (by kernel_rfl) rfl
    have hcon := AnyQ.slices_SortFunc sortLay 3 Try.isAgg28 Try.sizeOf28 encSo (fun _ => rfl) (fun x v hv => by simp [encSo] at hv; rcases hv with rfl | rfl | rfl <;> rfl) cfSo swoSo 32 #[] b 0 c d w eg (fun _ _ _ _ x y => closSo x y _) hH (Array.getElem?_eq_some_iff.1 hb).1 (by omega)
    rw [hds] at hcon
    refine (show Calls Try.prog 31 #[.slice (some ⟨b, 0, none⟩) m c, .func (.func 32) #[] #[]] w _ from hcon).mono ?_
    rintro e w' ⟨rfl, d', n, os, hp, hso, rfl⟩
    have hd's : d'.size = m := hp.1.trans hds
    have hperm : d'.toList.Perm d.toList := by
      have h1 := hp.2.2
      have e1 : ∀ x : Array So, x.size = m → (x.extract 0 m).toList = x.toList := by
        intro x hx
        simp [← hx]
      rw [e1 d' hd's, e1 d hds] at h1
      exact h1
    refine ⟨_, _, rfl, ⟨d'.toList.map toKy, ⟨?_, ?_⟩, rfl, rfl⟩, ?_⟩
    · rw [← hdm]
      exact hperm.map toKy
    · rw [List.pairwise_map, List.pairwise_iff_getElem]
      intro i j hi hj hij
      rw [Array.length_toList] at hi hj
      have h1 := hso i j (Nat.zero_le _) hij (by omega)
      rw [ltSo, getElem!_pos d' j hj, getElem!_pos d' i hi] at h1
      have h2 := of_decide_eq_false h1
      rw [Array.getElem_toList, Array.getElem_toList]
      show ((_ : Nat) : Int) ≤ ((_ : Nat) : Int)
      omega
    · have hF' : (flatK encSo 3 d').toList = fl eO (d'.toList.map toKy) := flatK_fl d'
      have hFs : (flatK encSo 3 d').size = m * 3 := by rw [size_flatK, hd's]
      refine sat_grow (os := os) (w := putRowK encSo 3 (Sort.ahead w n) b 0 d') ?_
      have hput : (putRowK encSo 3 (Sort.ahead w n) b 0 d').heap[b]? = some (.cells ((fl eO (d'.toList.map toKy)) ++ cur.drop (m * 3)).toArray 28 (0, 0)) := by
        show (w.heap.modify b _)[b]? = _
        rw [Array.getElem?_modify, if_pos rfl, hb]
        show some (Obj.cells (putCells id 0 (flatK encSo 3 d') cur.toArray) 28 (0, 0)) = _
        rw [putCells_take _ _ (by rw [hFs, List.size_toArray]; exact hge), hFs, hF']
      refine sl_close (cur := fl eO (d'.toList.map toKy) ++ cur.drop (m * 3)) (sat_put (b := b) (w := w) e4 ⟨rfl, rfl, rfl⟩ hput (fun k hk => ?_)) ?_ hle.1 hle.2 ?_ ?_
      · show (w.heap.modify b _)[k]? = _
        rw [Array.getElem?_modify, if_neg (fun h => hk h.symm)]
      · rw [fl_len eO_ok, List.length_map, Array.length_toList, hd's]
      · rw [List.length_append, fl_len eO_ok, List.length_map, Array.length_toList, hd's, List.length_drop]
        omega
      · rw [List.take_append_of_le_length (by rw [fl_len eO_ok, List.length_map, Array.length_toList, hd's]; exact Nat.le_refl _), List.take_of_length_le (by rw [fl_len eO_ok, List.length_map, Array.length_toList, hd's]; exact Nat.le_refl _)]
end
end Go.Proofs.Ytcgpkhdocakloaa
