/-
  Tags in their order, none twice. No program in sight.
-/
import Derived.Test.YtfoliffeieeihaaDoorBundle33
import Derived.Test.YtfoliffeieeihaaDoorTso
import Derived.Test.YtfoliffeieeihaaDoorBundle30
import Derived.Test.YtfoliffeieeihaaDoorBundle18
namespace Go.Proofs.YtfoliffeieeihaaDoor
open Go.Sort Go.Lib
def ordB (a b : List UInt8) : Int := if ltStr a b = true then -1 else if ltStr b a = true then 1 else 0
/-- The order of tags: what is no tag comes first. -/
def ordT (a b : List UInt8) : Int := if tagE a = 0 ∧ tagE b = 0 then ordB a b else if tagE a = 0 then 1 else if tagE b = 0 then -1 else 0
theorem ordB_lt {a b : List UInt8} : ordB a b < 0 ↔ a < b := by
  unfold ordB ltStr
  simp only [decide_eq_true_eq]
  split
  · simp_all
  · split <;> simp_all
theorem lt_ordT (a b : List UInt8) : ltOf ordT a b = true ↔ (tagE a = 0 ∧ tagE b = 0 ∧ a < b) ∨ (tagE a ≠ 0 ∧ tagE b = 0) := by
  unfold ltOf ordT
  rw [decide_eq_true_eq]
  by_cases h1 : tagE a = 0 <;> by_cases h2 : tagE b = 0
  · rw [if_pos ⟨h1, h2⟩, ordB_lt]; simp [h1, h2]
  · rw [if_neg (fun q => h2 q.2), if_pos h1]; simp [h1, h2]
  · rw [if_neg (fun q => h1 q.1), if_neg h1, if_pos h2]; simp [h1, h2]
  · rw [if_neg (fun q => h1 q.1), if_neg h1, if_neg h2]; simp [h1, h2]
theorem lt_ordF (a b : List UInt8) : ltOf ordT a b = false ↔ ¬ ((tagE a = 0 ∧ tagE b = 0 ∧ a < b) ∨ (tagE a ≠ 0 ∧ tagE b = 0)) := by
  rw [← lt_ordT]
  simp
theorem swoT : SWO (ltOf ordT) where
  irrefl x := by
    rw [lt_ordF]
    rintro (⟨_, _, h⟩ | ⟨h1, h2⟩)
    · exact List.lt_irrefl x h
    · exact h1 h2
  trans x y z h1 h2 := by
    rw [lt_ordT] at *
    rcases h1 with ⟨a, b, c⟩ | ⟨a, b⟩
    · rcases h2 with ⟨_, d, e⟩ | ⟨d, e⟩
      · exact .inl ⟨a, d, List.lt_trans c e⟩
      · exact absurd b d
    · rcases h2 with ⟨_, d, e⟩ | ⟨d, e⟩
      · exact .inr ⟨a, d⟩
      · exact absurd b d
  ntrans x y z h1 h2 := by
    rw [lt_ordF] at *
    rintro (⟨a, b, c⟩ | ⟨a, b⟩)
    · by_cases hy : tagE y = 0
      · have e1 : ¬ x < y := fun h => h1 (.inl ⟨a, hy, h⟩)
        have e2 : ¬ y < z := fun h => h2 (.inl ⟨hy, b, h⟩)
        exact absurd c (List.not_lt.2 (List.le_trans (List.not_lt.1 e2) (List.not_lt.1 e1)))
      · exact h2 (.inr ⟨hy, b⟩)
    · by_cases hy : tagE y = 0
      · exact h1 (.inr ⟨a, hy⟩)
      · exact h2 (.inr ⟨hy, b⟩)
/-- The tags of a report: in their order, none twice. -/
structure Tg (S : Rp) (T : List (List UInt8)) : Prop where
  so : T.Pairwise fun a b => a < b
  mem : ∀ t, t ∈ T ↔ ∃ x ∈ lks S, x.tag = t
theorem cmp_mem {d : Array (List UInt8)} {m : Nat} : ∀ {j : Nat}, j < m → d[j]! ∈ compactUpTo d m
  | 0, h => by
    unfold compactUpTo
    exact List.mem_map.2 ⟨0, List.mem_filter.2 ⟨List.mem_range.2 h, keeps_lt_one d 0 (by omega)⟩, rfl⟩
  | j + 1, h => by
    by_cases he : d[j + 1]! = d[j + 1 - 1]!
    · rw [he]
      exact cmp_mem (j := j) (by omega)
    · unfold compactUpTo
      exact List.mem_map.2 ⟨j + 1, List.mem_filter.2 ⟨List.mem_range.2 h, keeps_pos he⟩, rfl⟩
theorem keeps_ne {d : Array (List UInt8)} {j : Nat} (h0 : 0 < j) (h : keeps d j = true) : d[j]! ≠ d[j - 1]! := fun e => by
  rw [keeps_neg h0 e] at h
  cases h
theorem tg_of {S : Rp} (hw : Rw S) {M : List (List UInt8)} (hP : M.Perm ((lks S).map (·.tag))) (hs : M.Pairwise fun a b => ltOf ordT b a = false) : Tg S (compact M) := by
  have hgood : ∀ t ∈ M, tagE t = 0 := fun t ht => by
    obtain ⟨x, hx, rfl⟩ := List.mem_map.1 (hP.mem_iff.1 ht)
    exact (lks_good hw hx).1
  have hle : ∀ i j : Nat, i < j → j < M.length → ¬ (M.toArray[j]! < M.toArray[i]!) := fun i j hij hj => by
    rw [List.pairwise_iff_getElem] at hs
    have h1 := hs i j (by omega) hj hij
    rw [lt_ordF] at h1
    rw [getElem!_pos M.toArray j (by simpa using hj), getElem!_pos M.toArray i (by simp; omega)]
    intro h
    exact h1 (.inl ⟨hgood _ (List.getElem_mem _), hgood _ (List.getElem_mem _), h⟩)
  refine ⟨?_, fun t => ?_⟩
  · unfold compact compactUpTo
    rw [List.pairwise_map]
    refine List.Pairwise.imp_of_mem (fun {a b} ha hb hab => ?_) (List.pairwise_lt_range.filter _)
    rw [List.mem_filter, List.mem_range] at ha hb
    have hne := keeps_ne (by omega) hb.2
    have h1 : ¬ M.toArray[b]! < M.toArray[b - 1]! := hle (b - 1) b (by omega) hb.1
    have h2 : M.toArray[b - 1]! < M.toArray[b]! := by
      apply Classical.byContradiction
      intro h3
      exact hne (List.le_antisymm (List.not_lt.1 h3) (List.not_lt.1 h1))
    rcases Nat.lt_or_ge a (b - 1) with h3 | h3
    · exact List.lt_of_le_of_lt (List.not_lt.1 (hle a (b - 1) h3 (by omega))) h2
    · obtain rfl : a = b - 1 := by omega
      exact h2
  · have e1 : t ∈ compact M ↔ t ∈ M := by
      constructor
      · intro h
        unfold compact compactUpTo at h
        obtain ⟨j, hj, rfl⟩ := List.mem_map.1 h
        rw [List.mem_filter, List.mem_range] at hj
        rw [getElem!_pos M.toArray j (by simpa using hj.1)]
        exact List.getElem_mem _
      · intro h
        obtain ⟨j, hj, rfl⟩ := List.mem_iff_getElem.1 h
        have := cmp_mem (d := M.toArray) (m := M.length) (j := j) hj
        rw [getElem!_pos M.toArray j (by simpa using hj)] at this
        exact this
    rw [e1, hP.mem_iff, List.mem_map]
end Go.Proofs.YtfoliffeieeihaaDoor

/- Walks, printed by my generator l11.py. -/
namespace Go.Proofs.YtfoliffeieeihaaDoor
def sortRenW : Go.Shelf.Ren := ⟨fun | 6 => 34 | 14 => 47 | 15 => 45 | 20 => 66 | 21 => 67 | 22 => 68 | 23 => 69 | 24 => 70 | 25 => 71 | 26 => 72 | 27 => 73 | 28 => 64 | 29 => 65 | 46 => 85 | 47 => 81 | 48 => 82 | 49 => 86 | 50 => 87 | 57 => 96 | n => n, fun | 22 => 32 | 24 => 9 | 25 => 52 | 3 => 3 | 39 => 91 | 0 => 0 | 53 => 28 | 55 => 116 | 4 => 4 | 46 => 109 | 45 => 108 | 50 => 86 | 5 => 5 | 9 => 9 | 66 => 126 | 70 => 130 | 76 => 140 | 77 => 141 | n => n, fun n => n⟩
theorem sortLayW : SlLaysF.n6 Tryd.prog sortRenW where
  mixed := by kernel_rfl
  f6 := ⟨ "slices.SortFunc[[]string,string]", by decide, Tryd.func34.trans (congrArg some (by kernel_rfl))⟩
  f14 := ⟨ "slices.pdqsortCmpFunc[string]", by decide, Tryd.func47.trans (congrArg some (by kernel_rfl))⟩
  f15 := Tryd.func45.trans (congrArg some (by kernel_rfl))
  f20 := ⟨ "slices.insertionSortCmpFunc[string]", by decide, Tryd.func66.trans (congrArg some (by kernel_rfl))⟩
  f21 := ⟨ "slices.heapSortCmpFunc[string]", by decide, Tryd.func67.trans (congrArg some (by kernel_rfl))⟩
  f22 := ⟨ "slices.breakPatternsCmpFunc[string]", by decide, Tryd.func68.trans (congrArg some (by kernel_rfl))⟩
  f23 := ⟨ "slices.choosePivotCmpFunc[string]", by decide, Tryd.func69.trans (congrArg some (by kernel_rfl))⟩
  f24 := ⟨ "slices.reverseRangeCmpFunc[string]", by decide, Tryd.func70.trans (congrArg some (by kernel_rfl))⟩
  f25 := ⟨ "slices.partialInsertionSortCmpFunc[string]", by decide, Tryd.func71.trans (congrArg some (by kernel_rfl))⟩
  f26 := ⟨ "slices.partitionEqualCmpFunc[string]", by decide, Tryd.func72.trans (congrArg some (by kernel_rfl))⟩
  f27 := ⟨ "slices.partitionCmpFunc[string]", by decide, Tryd.func73.trans (congrArg some (by kernel_rfl))⟩
  f28 := Tryd.func64.trans (congrArg some (by kernel_rfl))
  f29 := Tryd.func65.trans (congrArg some (by kernel_rfl))
  f46 := ⟨ "slices.siftDownCmpFunc[string]", by decide, Tryd.func85.trans (congrArg some (by kernel_rfl))⟩
  f47 := Tryd.func81.trans (congrArg some (by kernel_rfl))
  f48 := Tryd.func82.trans (congrArg some (by kernel_rfl))
  f49 := ⟨ "slices.medianAdjacentCmpFunc[string]", by decide, Tryd.func86.trans (congrArg some (by kernel_rfl))⟩
  f50 := ⟨ "slices.medianCmpFunc[string]", by decide, Tryd.func87.trans (congrArg some (by kernel_rfl))⟩
  f57 := ⟨ "slices.order2CmpFunc[string]", by decide, Tryd.func96.trans (congrArg some (by kernel_rfl))⟩
  t0 := Tryd.underlying0
  a0 := Tryd.isAgg0
  z0 := Tryd.sizeOf0
  v0 := Tryd.zeroValue0
  t3 := Tryd.underlying3
  a3 := Tryd.isAgg3
  z3 := Tryd.sizeOf3
  v3 := Tryd.zeroValue3
  t4 := Tryd.underlying4
  a4 := Tryd.isAgg4
  z4 := Tryd.sizeOf4
  v4 := Tryd.zeroValue4
  t5 := Tryd.underlying5
  a5 := Tryd.isAgg5
  z5 := Tryd.sizeOf5
  v5 := Tryd.zeroValue5
  t9 := Tryd.underlying9
  a9 := Tryd.isAgg9
  z9 := Tryd.sizeOf9
  v9 := Tryd.zeroValue9
  t22 := Tryd.underlying32
  a22 := Tryd.isAgg32
  z22 := Tryd.sizeOf32
  v22 := Tryd.zeroValue32
  t25 := Tryd.underlying52
  a25 := Tryd.isAgg52
  z25 := Tryd.sizeOf52
  v25 := Tryd.zeroValue52
  t39 := Tryd.underlying91
  a39 := Tryd.isAgg91
  z39 := Tryd.sizeOf91
  v39 := Tryd.zeroValue91
  t45 := Tryd.underlying108
  a45 := Tryd.isAgg108
  z45 := Tryd.sizeOf108
  v45 := Tryd.zeroValue108
  t46 := Tryd.underlying109
  a46 := Tryd.isAgg109
  z46 := Tryd.sizeOf109
  v46 := Tryd.zeroValue109
  t50 := Tryd.underlying86
  a50 := Tryd.isAgg86
  z50 := Tryd.sizeOf86
  v50 := Tryd.zeroValue86
  t53 := Tryd.underlying28
  a53 := Tryd.isAgg28
  z53 := Tryd.sizeOf28
  v53 := Tryd.zeroValue28
  t55 := Tryd.underlying116
  a55 := Tryd.isAgg116
  z55 := Tryd.sizeOf116
  v55 := Tryd.zeroValue116
  t66 := Tryd.underlying126
  a66 := Tryd.isAgg126
  z66 := Tryd.sizeOf126
  v66 := Tryd.zeroValue126
  t70 := Tryd.underlying130
  a70 := Tryd.isAgg130
  z70 := Tryd.sizeOf130
  v70 := Tryd.zeroValue130
  t76 := Tryd.underlying140
  a76 := Tryd.isAgg140
  z76 := Tryd.sizeOf140
  v76 := Tryd.zeroValue140
  t77 := Tryd.underlying141
  a77 := Tryd.isAgg141
  z77 := Tryd.sizeOf141
  v77 := Tryd.zeroValue141
  a24 := Tryd.isAgg9
  z24 := Tryd.sizeOf9
def cpRen : Go.Shelf.Ren := ⟨fun | 194 => 35 | n => n, fun | 0 => 0 | 3 => 3 | 4 => 4 | 9 => 9 | 31 => 32 | n => n, fun n => n⟩
theorem cpLay : Lays.n194 Tryd.prog cpRen where
  mixed := by kernel_rfl
  f194 := Tryd.func35.trans (congrArg some (by kernel_rfl))
  t0 := Tryd.underlying0
  a0 := Tryd.isAgg0
  z0 := Tryd.sizeOf0
  v0 := Tryd.zeroValue0
  t3 := Tryd.underlying3
  a3 := Tryd.isAgg3
  z3 := Tryd.sizeOf3
  v3 := Tryd.zeroValue3
  t4 := Tryd.underlying4
  a4 := Tryd.isAgg4
  z4 := Tryd.sizeOf4
  v4 := Tryd.zeroValue4
  t9 := Tryd.underlying9
  a9 := Tryd.isAgg9
  z9 := Tryd.sizeOf9
  v9 := Tryd.zeroValue9
  t31 := Tryd.underlying32
  a31 := Tryd.isAgg32
  z31 := Tryd.sizeOf32
  v31 := Tryd.zeroValue32
set_option maxHeartbeats 4000000 in
theorem nan_s (a : List UInt8) : HT Tryd.prog 48 [.string (St a)] [] (fun v K => v = .bool false ∧ K = []) := by
 refine hiS Tryd.func48 Tryd.ntmps48 fun g w0 R h0 => go [.s 1 2] <| lwP (.bool false) (law_neStr (t := 9) (x := (Operand.tmp 3)) (y := (Operand.tmp 4)) (a := a) (b := a) (by kernel_rfl) (by kernel_rfl) (by kernel_rfl) false (decide_eq_true rfl) _) <| go [] ?_
 exact en (.bool false) [] ⟨_, _, rfl, ⟨rfl, rfl⟩, h0⟩

set_option maxHeartbeats 4000000 in
theorem cmps_lt (a b_ : List UInt8) (h : Go.Sort.ltStr a b_ = true) : HT Tryd.prog 36 [.string (St a), .string (St b_)] [] (fun v K => v = iV (-1) ∧ K = []) := by
 refine hiS Tryd.func36 Tryd.ntmps36 fun g w0 R h0 => go [] <| cl0 Tryd.call48 (nan_s a) h0 fun _ h11 => go [] <| cl0 Tryd.call48 (nan_s b_) h11 fun _ h13 => go [.s 9 2] <| lwP (.bool true) (law_ltStr (t := 9) (x := (Operand.tmp 14)) (y := (Operand.tmp 15)) (a := a) (b := b_) (by kernel_rfl) (by kernel_rfl) (by kernel_rfl) true h _) <| go [] ?_
 exact en (iV (-1)) [] ⟨_, _, rfl, ⟨rfl, rfl⟩, h13⟩

set_option maxHeartbeats 4000000 in
theorem cmps_gt (a b_ : List UInt8) (hf_ : Go.Sort.ltStr a b_ = false) (h : Go.Sort.ltStr b_ a = true) : HT Tryd.prog 36 [.string (St a), .string (St b_)] [] (fun v K => v = iV (1) ∧ K = []) := by
 refine hiS Tryd.func36 Tryd.ntmps36 fun g w0 R h0 => go [] <| cl0 Tryd.call48 (nan_s a) h0 fun _ h11 => go [] <| cl0 Tryd.call48 (nan_s b_) h11 fun _ h13 => go [.s 9 2] <| lwP (.bool false) (law_ltStr (t := 9) (x := (Operand.tmp 14)) (y := (Operand.tmp 15)) (a := a) (b := b_) (by kernel_rfl) (by kernel_rfl) (by kernel_rfl) false hf_ _) <| go [.s 11 2] <| lwP (.bool true) (law_gtStr (t := 9) (x := (Operand.tmp 17)) (y := (Operand.tmp 18)) (a := a) (b := b_) (by kernel_rfl) (by kernel_rfl) (by kernel_rfl) true h _) <| go [] ?_
 exact en (iV 1) [] ⟨_, _, rfl, ⟨rfl, rfl⟩, h13⟩

set_option maxHeartbeats 4000000 in
theorem cmps_eq (a b_ : List UInt8) (hf_ : Go.Sort.ltStr a b_ = false) (h : Go.Sort.ltStr b_ a = false) : HT Tryd.prog 36 [.string (St a), .string (St b_)] [] (fun v K => v = iV (0) ∧ K = []) := by
 refine hiS Tryd.func36 Tryd.ntmps36 fun g w0 R h0 => go [] <| cl0 Tryd.call48 (nan_s a) h0 fun _ h11 => go [] <| cl0 Tryd.call48 (nan_s b_) h11 fun _ h13 => go [.s 9 2] <| lwP (.bool false) (law_ltStr (t := 9) (x := (Operand.tmp 14)) (y := (Operand.tmp 15)) (a := a) (b := b_) (by kernel_rfl) (by kernel_rfl) (by kernel_rfl) false hf_ _) <| go [.s 11 2] <| lwP (.bool false) (law_gtStr (t := 9) (x := (Operand.tmp 17)) (y := (Operand.tmp 18)) (a := a) (b := b_) (by kernel_rfl) (by kernel_rfl) (by kernel_rfl) false h _) <| go [] ?_
 exact en (iV 0) [] ⟨_, _, rfl, ⟨rfl, rfl⟩, h13⟩

theorem cmps_ht (a b_ : List UInt8) : HT Tryd.prog 36 [.string (St a), .string (St b_)] [] fun v K => v = .int .i64 (ordB a b_) ∧ K = [] := by
  unfold ordB
  cases h0 : Go.Sort.ltStr a b_ with
  | true => exact cmps_lt a b_ h0
  | false =>
    cases h : Go.Sort.ltStr b_ a with
    | true => exact cmps_gt a b_ h0 h
    | false => exact cmps_eq a b_ h0 h

set_option maxHeartbeats 4000000 in
theorem tag_long (a : List UInt8) (h : 96 < a.length) : HT Tryd.prog 30 [.string (St a)] [] (fun v K => v = iV (tagE a) ∧ K = []) := by
 refine hiS Tryd.func30 Tryd.ntmps30 fun g w0 R h0 => go [.v 1 1 (⟨iV ((St a).size : Int), iV (((a.length : Nat) : Int)), (ov_int (st_len _))⟩), .v 1 2 (oT (((a.length : Nat) : Int) > 96))] ?_
 exact en (iV 16) [] ⟨_, _, rfl, ⟨by unfold tagE; rw [if_pos h], rfl⟩, h0⟩

theorem tag_any (a : List UInt8) : HT Tryd.prog 30 [.string (St a)] [] fun v K => v = .int .i64 (tagE a) ∧ K = [] := by
  by_cases h : 96 < a.length
  · exact tag_long a h
  · exact tag_ht a (by omega)

set_option maxHeartbeats 4000000 in
theorem tord_ht (a b_ : List UInt8) : HT Tryd.prog 23 [.string (St a), .string (St b_)] [] (fun v K => v = iV (ordT a b_) ∧ K = []) := by
 refine hiS Tryd.func23 Tryd.ntmps23 fun g w0 R h0 => go [] <| cl0 Tryd.call30 (tag_any a) h0 fun _ h11 => go [] <| cl0 Tryd.call30 (tag_any b_) h11 fun _ h13 => go [.s 2 1] ?_
 by_cases c14 : (tagE a) = 0
 ·
  refine go [.v 2 1 (qeT ((tagE a)) 0), .s 2 4] ?_
  by_cases c15 : (tagE b_) = 0
  ·
   refine go [.v 2 4 (qeT ((tagE b_)) 0)] <| cl0 Tryd.call36 (cmps_ht a b_) h13 fun _ h17 => go [] ?_
   exact en (iV ((ordB a b_))) [] ⟨_, _, rfl, ⟨by unfold ordT; rw [if_pos ⟨by omega, by omega⟩], rfl⟩, h17⟩
  refine go [.v 2 4 (qeF ((tagE b_)) 0), .v 4 1 (qeT ((tagE a)) 0)] ?_
  exact en (iV 1) [] ⟨_, _, rfl, ⟨by unfold ordT; rw [if_neg (by omega), if_pos (by omega)], rfl⟩, h13⟩
 refine go [.v 2 1 (qeF ((tagE a)) 0), .v 4 1 (qeF ((tagE a)) 0), .s 6 1] ?_
 by_cases c18 : (tagE b_) = 0
 ·
  refine go [.v 6 1 (qeT ((tagE b_)) 0)] ?_
  exact en (iV (-1)) [] ⟨_, _, rfl, ⟨by unfold ordT; rw [if_neg (by omega), if_neg (by omega), if_pos (by omega)], rfl⟩, h13⟩
 refine go [.v 6 1 (qeF ((tagE b_)) 0)] ?_
 exact en (iV 0) [] ⟨_, _, rfl, ⟨by unfold ordT; rw [if_neg (by omega), if_neg (by omega), if_neg (by omega)], rfl⟩, h13⟩

set_option maxHeartbeats 4000000 in
theorem insw_z (p : Option Addr) (c : Nat) : HT Tryd.prog 66 [.slice p 0 c, iV 0, iV 0, .func (Fn.func 23) #[] #[]] [] (fun v K => v = .tuple #[] ∧ K = []) := by
 refine hiS Tryd.func66 Tryd.ntmps66 fun g w0 R h0 => go [] <| unS 1 <| go [] <| up <| go [] ?_
 exact en (.tuple #[]) [] ⟨_, _, rfl, ⟨rfl, rfl⟩, h0⟩

set_option maxHeartbeats 4000000 in
theorem pdqw_z (p : Option Addr) (c : Nat) : HT Tryd.prog 47 [.slice p 0 c, iV 0, iV 0, iV 0, .func (Fn.func 23) #[] #[]] [] (fun v K => v = .tuple #[] ∧ K = []) := by
 refine hiS Tryd.func47 Tryd.ntmps47 fun g w0 R h0 => go [] <| unS 1 <| go [] <| cl0 Tryd.call66 (insw_z p c) h0 fun _ h11 => go [] <| up <| go [] ?_
 exact en (.tuple #[]) [] ⟨_, _, rfl, ⟨rfl, rfl⟩, h11⟩

set_option maxHeartbeats 4000000 in
theorem sortw_z (p : Option Addr) (c : Nat) : HT Tryd.prog 34 [.slice p 0 c, .func (Fn.func 23) #[] #[]] [] (fun v K => v = .tuple #[] ∧ K = []) := by
 refine hiS Tryd.func34 Tryd.ntmps34 fun g w0 R h0 => go [.v 1 3 (oLr 0)] <| cl0 Tryd.call45 (len_z) h0 fun _ h11 => go [] <| cl0 Tryd.call47 (pdqw_z p c) h11 fun _ h13 => go [] ?_
 exact en (.tuple #[]) [] ⟨_, _, rfl, ⟨rfl, rfl⟩, h13⟩

theorem wsort_ht (p : Option Addr) (m c : Nat) (X : List (List UInt8)) (hm : m ≤ 1000000) : HT Tryd.prog 34 [.slice p m c, .func (.func 23) #[] #[]] [Sl 9 1 p m c (fl eW X)]
    (fun v K => ∃ M : List (List UInt8), (M.Perm X ∧ M.Pairwise fun a b => Go.Proofs.ltOf ordT b a = false) ∧ v = .tuple #[] ∧ K = [Sl 9 1 p m c (fl eW M)]) := by
  intro g w F hs
  rcases Nat.eq_zero_or_pos m with h0 | h0
  · subst h0
    have hl : X = [] := List.eq_nil_of_length_eq_zero (fl_n eW_ok (by decide) hs)
    subst hl
    refine (sortw_z p c g w _ hs).mono ?_
    rintro e w' ⟨v, K, rfl, ⟨rfl, rfl⟩, h2⟩
    exact ⟨_, _, rfl, ⟨[], ⟨List.Perm.refl _, List.Pairwise.nil⟩, rfl, rfl⟩, h2⟩
  · refine (sort_rowW sortLayW ordT swoT 23 Tryd.call23 hs h0 (by omega) ?_).mono ?_
    · intro W x y
      refine exact_of (W := W) (f := 23) (args := [.string (St x), .string (St y)]) fun g w F hs => (tord_ht x y g w (Old W :: F) hs).mono ?_
      rintro e w' ⟨v, K, rfl, ⟨rfl, rfl⟩, h2⟩
      exact ⟨_, _, rfl, ⟨rfl, rfl⟩, h2⟩
    · rintro e w' ⟨rfl, M, h1, h2, h3⟩
      exact ⟨_, _, rfl, ⟨M, ⟨h1, h2⟩, rfl, rfl⟩, h3⟩
theorem wcomp_ht (p : Option Addr) (m c : Nat) (X : List (List UInt8)) (hm : m ≤ 1000000) : HT Tryd.prog 35 [.slice p m c] [Sl 9 1 p m c (fl eW X)]
    (fun v K => v = .slice p (Go.Lib.compact X).length c ∧ K = [Sl 9 1 p (Go.Lib.compact X).length c (fl eW (Go.Lib.compact X))]) := by
  intro g w F hs
  refine (compact_rowW cpLay hs (by omega)).mono ?_
  rintro e w' ⟨rfl, h2⟩
  exact ⟨_, _, rfl, ⟨rfl, rfl⟩, h2⟩

theorem tgs_step {L : List Lk} {i : Nat} {x : Lk} (h : L[i]? = some x) : (L.take i).map (·.tag) ++ [x.tag] = (L.take (i + 1)).map (·.tag) := by
  rw [List.take_add_one, h, List.map_append]
  rfl

set_option maxHeartbeats 4000000 in
theorem rtags_ht (b : Nat) (S : Rp) : HT Tryd.prog 21 [pV b] [Rpt b S] (fun v K => ∃ (T : List (List UInt8)) (p : Option Addr) (c : Nat), Tg S T ∧ v = .slice p T.length c ∧ K = [Sl 9 1 p T.length c (fl eW T), Rpt b S]) := by
 refine hiS Tryd.func21 Tryd.ntmps21 fun g w0 R h0 => go [] <| cP Tryd.call19 (all_ht b S) h0 ?_
 rintro v K w13 (⟨p10, cap11, hl12, rfl, rfl⟩) h14
 have h15 := ap2 h14
 obtain ⟨hn16, hn17⟩ := sl_le h15
 refine go [] ?_
 have hW_ := rp_w (j := 1) h15 rfl
 have h18 : sat g w13 [Sl 9 1 none 0 0 (fl eW []), Sl 47 6 p10 (((lks S).length)) cap11 (fl eLk (lks S)), Rpt b S, R] := sl_nil 9 1 h15
 refine lpS (fun mz_ a w => ∃ i : Nat, ∃ p2 : Option Addr, ∃ c2 : Nat, ∃ lr : Fr, mz_ = (lks S).length - i ∧ (i ≤ (lks S).length) ∧ a = mk 23 (([(3, .slice p2 i c2), (7, .slice p10 (((lks S).length)) cap11), (8, iV ((((lks S).length : Nat) : Int))), (9, iV (i : Int))] : Fr) ++ lr) ∧ sat g w [Sl 9 1 p2 i c2 (fl eW (((lks S).take i).map (·.tag))), Sl 47 6 p10 (((lks S).length)) cap11 (fl eLk (lks S)), Rpt b S, R]) ((lks S).length - 0) ⟨0, none, 0, _, rfl, (Nat.zero_le _), (lvF [.k 3 (.slice none 0 0), .k 7 (.slice p10 (((lks S).length)) cap11), .k 8 (iV ((((lks S).length : Nat) : Int))), .o 9 (oJ .i64 0 (0 : Int))]), h18⟩ ?_
 rintro m20 a21 w22 ⟨i, p2, c2, lr19, rfl, hi_, rfl, h23⟩
 refine ga <| go [.s 3 0] ?_
 by_cases c24 : (i : Int) < (((lks S).length : Nat) : Int)
 ·
  obtain ⟨b25, hp26⟩ := sl_ptr0 (j := 1) h23 rfl (by omega)
  refine go [.v 3 0 (oT ((i : Int) < (((lks S).length : Nat) : Int))), .s 4 0] <| lwP (.pointer (some ⟨b25, i * 6, none⟩)) (law_indexSlP (x := (Operand.tmp 7)) (i := (Operand.tmp 9)) (p := p10) (b := b25) (off := 0) (z := (i : Int)) (len := (((lks S).length))) (cap := cap11) (by kernel_rfl) Tryd.underlying44 6 (by kernel_rfl) i (by kernel_rfl) hp26 (by kernel_rfl) (by omega) (by omega) (i * 6) (by omega) _) ?_
  obtain ⟨x27, hx28⟩ : ∃ x, (lks S)[i]? = some x := ⟨_, List.getElem?_eq_getElem (by omega)⟩
  refine go [.r 4 1 b25 (i * 6) [.string (St x27.tag), iV x27.out.1, iV x27.out.2.1, uV x27.out.2.2, iV x27.at_, iV x27.st] ⟨gv_cell (j := 1) h23 rfl (gv_sl _ _ _) hp26 (fl_get eLk_ok (j := 0) (v := .string (St x27.tag)) hx28 rfl) (i * 6) (by omega), gv_cell (j := 1) h23 rfl (gv_sl _ _ _) hp26 (fl_get eLk_ok (j := 1) (v := iV x27.out.1) hx28 rfl) (i * 6 + 1) (by omega), gv_cell (j := 1) h23 rfl (gv_sl _ _ _) hp26 (fl_get eLk_ok (j := 2) (v := iV x27.out.2.1) hx28 rfl) (i * 6 + 2) (by omega), gv_cell (j := 1) h23 rfl (gv_sl _ _ _) hp26 (fl_get eLk_ok (j := 3) (v := uV x27.out.2.2) hx28 rfl) (i * 6 + 3) (by omega), gv_cell (j := 1) h23 rfl (gv_sl _ _ _) hp26 (fl_get eLk_ok (j := 4) (v := iV x27.at_) hx28 rfl) (i * 6 + 4) (by omega), gv_cell (j := 1) h23 rfl (gv_sl _ _ _) hp26 (fl_get eLk_ok (j := 5) (v := iV x27.st) hx28 rfl) (i * 6 + 5) (by omega), trivial⟩] <| nP 47 [.string (St []), iV 0, iV 0, uV 0, iV 0, iV 0] h23 (fun r29 _ h31 => ?_)
  refine sP [(0, .string (St x27.tag)), (1, iV x27.out.1), (2, iV x27.out.2.1), (3, uV x27.out.2.2), (4, iV x27.at_), (5, iV x27.st)] [.string (St x27.tag), iV x27.out.1, iV x27.out.2.1, uV x27.out.2.2, iV x27.at_, iV x27.st] h31 fun _ h33 => go [rd 5 2 0 0 1 h33] <| nG (fun q_ => .slice (some ⟨q_, 0, none⟩) 1 1) 9 [.string (St x27.tag)] h33 (fun r34 _ h36 => ⟨kd [], ?_⟩)
  have h37 := tk6 (sf5 (sf4 (sf4 (sf5 (sf5 (sf5 h36))))))
  refine actG ?_
  refine an_append (d := 17) (sz := 1) (s := (Operand.tmp 13)) (x := (Operand.tmp 16)) (z := .string (St [])) (p := p2) (m := i) (c := c2) (k := 1) (c2 := 1) (a := ⟨r34, 0, none⟩) (by_ := 16) (by kernel_rfl) (by kernel_rfl) rfl Tryd.underlying32 (by kernel_rfl) rfl (by decide) (by kernel_rfl) (by kernel_rfl) h37 (fl eW [x27.tag]) rfl (fun j u hj => by rw [add_off]; exact sat_cell h37 1 rfl (by rw [Nat.zero_add]; exact hj)) (fl_one eW_ok _) (by omega) (by omega) (i + 1) (by omega) ?_
  intro p38 cap39 w40 h41
  have h42 : sat g w40 [Sl 9 1 p38 (i + 1) cap39 (fl eW ((((lks S).take i).map (·.tag)) ++ [x27.tag])), Cl r34 [.string (St x27.tag)] 9, Cl r29 [.string (St x27.tag), iV x27.out.1, iV x27.out.2.1, uV x27.out.2.2, iV x27.at_, iV x27.st] 47, Sl 47 6 p10 (((lks S).length)) cap11 (fl eLk (lks S)), Rpt b S, R] := sat_imp h41 (fun _ hh => by rw [fl_app]; exact hh)
  obtain ⟨hn43, hn44⟩ := sl_le h42
  refine nxA <| go [.v 6 0 (oIr ((i : Int) + 1))] ?_
  refine enL ?_
  have h45 : sat g w40 [Sl 9 1 p38 (i + 1) cap39 (fl eW (((lks S).take (i + 1)).map (·.tag))), Cl r34 [.string (St x27.tag)] 9, Cl r29 [.string (St x27.tag), iV x27.out.1, iV x27.out.2.1, uV x27.out.2.2, iV x27.at_, iV x27.st] 47, Sl 47 6 p10 (((lks S).length)) cap11 (fl eLk (lks S)), Rpt b S, R] := tgs_step hx28 ▸ h42
  have h47 := tk4 (tk6 (sf5 (sf5 (sf5 (sf5 (sf2 (sf2 h45)))))))
  change ∃ n', n' < _ ∧ _
  refine ⟨((lks S).length - (i + 1)), by omega, (i + 1), p38, cap39, _, rfl, (by omega), (lvF [.k 3 (.slice p38 (i + 1) cap39), .k 7 (.slice p10 (((lks S).length)) cap11), .k 8 (iV ((((lks S).length : Nat) : Int))), .o 9 (oJ .i64 ((i : Int) + 1) ((((i + 1) : Nat) : Int)))]), h47⟩
 refine go [.v 3 0 (oF ((i : Int) < (((lks S).length : Nat) : Int)))] <| up <| go [] <| cP Tryd.call34 (wsort_ht p2 i c2 (((lks S).take i).map (·.tag)) (by omega)) h23 ?_
 rintro v K _ (⟨M48, ⟨hp49, hs50⟩, rfl, rfl⟩) h52
 have h53 := ap1 h52
 refine go [] <| cl1 Tryd.call35 (wcomp_ht p2 i c2 M48 (by omega)) h53 fun _ h55 => go [] ?_
 exact en (.slice p2 (((Go.Lib.compact M48).length)) c2) [] ⟨_, _, rfl, ⟨(Go.Lib.compact M48), p2, c2, tg_of hW_ (by have h_ := hp49; rw [List.take_of_length_le (by omega)] at h_; exact h_) hs50, rfl, rfl⟩, (tk3 (sf2 (sf2 (sf3 (tk4 (sf3 (sf3 (sf2 (sf3 h55)))))))))⟩

end Go.Proofs.YtfoliffeieeihaaDoor

/- Walks, printed by my generator l12.py. -/
namespace Go.Proofs.YtfoliffeieeihaaDoor
theorem seq47_neq_t {n : Nat} {l : Fr} {o : Oper} {x y : Operand} (a0 : List UInt8) (a1 : Int) (a2 : Int) (a3 : Int) (a4 : Int) (a5 : Int) (c0 : List UInt8) (c1 : Int) (c2 : Int) (c3 : Int) (c4 : Int) (c5 : Int) (ho : o.op = .binOp .neq 47 x y 47) (hx : fe n l x = .agg #[.string (St a0), .int .i64 a1, .int .i64 a2, .int .u32 a3, .int .i64 a4, .int .i64 a5]) (hy : fe n l y = .agg #[.string (St c0), .int .i64 c1, .int .i64 c2, .int .u32 c3, .int .i64 c4, .int .i64 c5]) (h : a0 = c0 ∧ a1 = c1 ∧ a2 = c2 ∧ a3 = c3 ∧ a4 = c4 ∧ a5 = c5) (w : World) : (execOp (fe n l) o).run Tryd.prog w = .ok (.value (.bool false)) w := by
  obtain ⟨rfl, rfl, rfl, rfl, rfl, rfl⟩ := h
  simp [execOp, ho, hx, hy, go_sem]
set_option maxHeartbeats 4000000 in
theorem file_ht (n_ g_ : Int) : HT Tryd.prog 14 [iV n_, uV g_] [] (fun v K => v = .agg #[iV 1, iV n_, uV g_] ∧ K = []) := by
 refine hiS Tryd.func14 Tryd.ntmps14 fun g w0 R h0 => go [] <| nP 30 [iV 0, iV 0, uV 0] h0 (fun _ _ h12 => ?_)
 refine go [] <| sP [(0, iV 1), (1, iV n_), (2, uV g_)] [iV 1, iV n_, uV g_] h12 fun _ h14 => go [] ?_
 exact en (.agg #[iV 1, iV n_, uV g_]) [rd 0 0 0 0 3 h14] ⟨_, _, rfl, ⟨rfl, rfl⟩, (tk1 (sf1 h14))⟩

theorem dg1 (z : Nat) (h : z < 10) : dgs (z : Int) = [UInt8.ofNat (48 + z)] := Lib.decDigits_one h
theorem wtx : txV (⟨[((1, 0, 1), [109, 97, 105, 110]), ((2, 0, 1), [120, 32, 121])], [⟨5, (1, 0, 1), 3, 2⟩, ⟨6, (2, 0, 1), 1, 2⟩, ⟨7, (2, 0, 1), 3, 1⟩, ⟨9, (1, 0, 1), 1, 1⟩]⟩ : Rp) = [34, 109, 97, 105, 110, 34, 32, 102, 48, 58, 49, 32, 53, 32, 114, 101, 108, 101, 97, 115, 101, 100, 10] ∧ txE (⟨[((1, 0, 1), [109, 97, 105, 110]), ((2, 0, 1), [120, 32, 121])], [⟨5, (1, 0, 1), 3, 2⟩, ⟨6, (2, 0, 1), 1, 2⟩, ⟨7, (2, 0, 1), 3, 1⟩, ⟨9, (1, 0, 1), 1, 1⟩]⟩ : Rp) = 0 := by
  have hl : lks (⟨[((1, 0, 1), [109, 97, 105, 110]), ((2, 0, 1), [120, 32, 121])], [⟨5, (1, 0, 1), 3, 2⟩, ⟨6, (2, 0, 1), 1, 2⟩, ⟨7, (2, 0, 1), 3, 1⟩, ⟨9, (1, 0, 1), 1, 1⟩]⟩ : Rp) = [⟨[109, 97, 105, 110], (1, 0, 1), 5, 3⟩] := by kernel_rfl
  have d0 : dgs 0 = [48] := dg1 0 (by decide)
  have d1 : dgs 1 = [49] := dg1 1 (by decide)
  have d5 : dgs 5 = [53] := dg1 5 (by decide)
  have ht : txL (lks (⟨[((1, 0, 1), [109, 97, 105, 110]), ((2, 0, 1), [120, 32, 121])], [⟨5, (1, 0, 1), 3, 2⟩, ⟨6, (2, 0, 1), 1, 2⟩, ⟨7, (2, 0, 1), 3, 1⟩, ⟨9, (1, 0, 1), 1, 1⟩]⟩ : Rp)) = [34, 109, 97, 105, 110, 34, 32, 102, 48, 58, 49, 32, 53, 32, 114, 101, 108, 101, 97, 115, 101, 100, 10] := by
    rw [hl]
    show (qtL [109, 97, 105, 110] ++ [32] ++ ([letO 1] ++ dgs 0 ++ [58] ++ dgs 1) ++ [32] ++ dgs 5 ++ [32] ++ wdL 3 ++ [10]) ++ [] = _
    rw [d0, d1, d5]
    kernel_rfl
  unfold txV txE
  rw [ht]
  exact ⟨rfl, rfl⟩
theorem tg_one {S : Rp} {x : Lk} {T : List (List UInt8)} (h : lks S = [x]) (hT : Tg S T) : T = [x.tag] := by
  have hm : ∀ t, t ∈ T ↔ t = x.tag := fun t => by
    rw [hT.mem, h]
    constructor
    · rintro ⟨y, hy, rfl⟩
      rw [List.mem_singleton.1 hy]
    · intro e
      exact ⟨x, by simp, e.symm⟩
  match T, hm, hT.so with
  | [], hm, _ => exact absurd ((hm x.tag).2 rfl) (by simp)
  | [a], hm, _ => rw [(hm a).1 (by simp)]
  | a :: b :: T, hm, hs =>
    have e1 := (hm a).1 (by simp)
    have e2 := (hm b).1 (by simp)
    rw [List.pairwise_cons] at hs
    have := hs.1 b (by simp)
    rw [e1, e2] at this
    exact absurd this (List.lt_irrefl _)
theorem all_eq (b : Nat) (S : Rp) (L : List Lk) (n : Nat) (h : lks S = L) (hn : L.length = n) : HT Tryd.prog 19 [pV b] [Rpt b S] fun v K => ∃ (p : Option Addr) (c : Nat), n ≤ 2000 ∧ v = .slice p n c ∧ K = [Sl 47 6 p n c (fl eLk L), Rpt b S] := by
  subst hn
  subst h
  exact all_ht b S
theorem tags_one (b : Nat) (S : Rp) (x : Lk) (t : List UInt8) (h : lks S = [x]) (ht : x.tag = t) : HT Tryd.prog 21 [pV b] [Rpt b S] fun v K => ∃ (p : Option Addr) (c : Nat), v = .slice p 1 c ∧ K = [Sl 9 1 p 1 c (fl eW [t]), Rpt b S] := by
  subst ht
  intro g w F hs
  refine (rtags_ht b S g w F hs).mono ?_
  rintro e w' ⟨v, K, rfl, ⟨T, p, c, hT, rfl, rfl⟩, h2⟩
  obtain rfl := tg_one h hT
  exact ⟨_, _, rfl, ⟨p, c, rfl, rfl⟩, h2⟩

set_option maxHeartbeats 4000000 in
theorem works_ht (wo : World) (hg : Ld Tryd.prog 1 wo) : HT Tryd.prog 11 [] [Old wo] (fun v K => v = .bool true ∧ K = [Old wo]) := by
 refine hiS Tryd.func11 Tryd.ntmps11 fun g w0 R h0 => go [] <| cP Tryd.call12 (rnew0_ht) h0 ?_
 rintro v K _ (⟨b10, rfl, rfl⟩) h12
 have h13 := ap1 h12
 refine go [] <| nP 30 [iV 0, iV 0, uV 0] h13 (fun _ _ h16 => ?_)
 refine sP [(0, iV 2), (1, iV 0), (2, uV 1)] [iV 2, iV 0, uV 1] h16 fun _ h18 => go [] <| cl0 Tryd.call14 (file_ht 0 1) h18 fun _ h20 => cl1 Tryd.call13 ((by have h_ := ropen_ht b10 (⟨[], []⟩ : Rp) 1 0 1 ([109, 97, 105, 110] : List UInt8) (by decide) (by decide) (by decide); rw [show opdE (⟨[], []⟩ : Rp) ((1, 0, 1) : Ky) ([109, 97, 105, 110] : List UInt8) = 0 from by decide +kernel, show opdS (⟨[], []⟩ : Rp) ((1, 0, 1) : Ky) ([109, 97, 105, 110] : List UInt8) = (⟨[((1, 0, 1), [109, 97, 105, 110])], []⟩ : Rp) from by kernel_rfl] at h_; exact h_)) (tk4 (sf3 (sf2 (sf3 (sf3 h20))))) fun _ h23 => ?_
 refine go [rd 3 6 1 0 3 h23] <| cl1 Tryd.call13 ((by have h_ := ropen_ht b10 (⟨[((1, 0, 1), [109, 97, 105, 110])], []⟩ : Rp) 2 0 1 ([120, 32, 121] : List UInt8) (by decide) (by decide) (by decide); rw [show opdE (⟨[((1, 0, 1), [109, 97, 105, 110])], []⟩ : Rp) ((2, 0, 1) : Ky) ([120, 32, 121] : List UInt8) = 0 from by decide +kernel, show opdS (⟨[((1, 0, 1), [109, 97, 105, 110])], []⟩ : Rp) ((2, 0, 1) : Ky) ([120, 32, 121] : List UInt8) = (⟨[((1, 0, 1), [109, 97, 105, 110]), ((2, 0, 1), [120, 32, 121])], []⟩ : Rp) from by kernel_rfl] at h_; exact h_)) h23 fun _ h25 => ?_
 refine go [rd 3 12 1 0 3 h25] <| cl1 Tryd.call13 ((by have h_ := ropen_ht b10 (⟨[((1, 0, 1), [109, 97, 105, 110]), ((2, 0, 1), [120, 32, 121])], []⟩ : Rp) 2 0 1 ([120] : List UInt8) (by decide) (by decide) (by decide); rw [show opdE (⟨[((1, 0, 1), [109, 97, 105, 110]), ((2, 0, 1), [120, 32, 121])], []⟩ : Rp) ((2, 0, 1) : Ky) ([120] : List UInt8) = 6 from by decide +kernel, show opdS (⟨[((1, 0, 1), [109, 97, 105, 110]), ((2, 0, 1), [120, 32, 121])], []⟩ : Rp) ((2, 0, 1) : Ky) ([120] : List UInt8) = (⟨[((1, 0, 1), [109, 97, 105, 110]), ((2, 0, 1), [120, 32, 121])], []⟩ : Rp) from by kernel_rfl] at h_; exact h_)) h25 fun _ h27 => ?_
 refine go [] <| cl0 Tryd.call14 (file_ht 0 1) h27 fun _ h29 => go [] <| cl1 Tryd.call16 ((by have h_ := rtry_ht b10 (⟨[((1, 0, 1), [109, 97, 105, 110]), ((2, 0, 1), [120, 32, 121])], []⟩ : Rp) 5 1 0 1 3 2 (by decide) (by decide) (by decide); rw [show trE (⟨[((1, 0, 1), [109, 97, 105, 110]), ((2, 0, 1), [120, 32, 121])], []⟩ : Rp) (⟨5, (1, 0, 1), 3, 2⟩ : At) = 0 from by decide +kernel, show trS (⟨[((1, 0, 1), [109, 97, 105, 110]), ((2, 0, 1), [120, 32, 121])], []⟩ : Rp) (⟨5, (1, 0, 1), 3, 2⟩ : At) = (⟨[((1, 0, 1), [109, 97, 105, 110]), ((2, 0, 1), [120, 32, 121])], [⟨5, (1, 0, 1), 3, 2⟩]⟩ : Rp) from by kernel_rfl] at h_; exact h_)) h29 fun _ h31 => ?_
 refine go [rd 6 1 1 0 3 h31] <| cl1 Tryd.call16 ((by have h_ := rtry_ht b10 (⟨[((1, 0, 1), [109, 97, 105, 110]), ((2, 0, 1), [120, 32, 121])], [⟨5, (1, 0, 1), 3, 2⟩]⟩ : Rp) 6 2 0 1 1 2 (by decide) (by decide) (by decide); rw [show trE (⟨[((1, 0, 1), [109, 97, 105, 110]), ((2, 0, 1), [120, 32, 121])], [⟨5, (1, 0, 1), 3, 2⟩]⟩ : Rp) (⟨6, (2, 0, 1), 1, 2⟩ : At) = 0 from by decide +kernel, show trS (⟨[((1, 0, 1), [109, 97, 105, 110]), ((2, 0, 1), [120, 32, 121])], [⟨5, (1, 0, 1), 3, 2⟩]⟩ : Rp) (⟨6, (2, 0, 1), 1, 2⟩ : At) = (⟨[((1, 0, 1), [109, 97, 105, 110]), ((2, 0, 1), [120, 32, 121])], [⟨5, (1, 0, 1), 3, 2⟩, ⟨6, (2, 0, 1), 1, 2⟩]⟩ : Rp) from by kernel_rfl] at h_; exact h_)) h31 fun _ h33 => ?_
 refine go [rd 7 1 1 0 3 h33] <| cl1 Tryd.call16 ((by have h_ := rtry_ht b10 (⟨[((1, 0, 1), [109, 97, 105, 110]), ((2, 0, 1), [120, 32, 121])], [⟨5, (1, 0, 1), 3, 2⟩, ⟨6, (2, 0, 1), 1, 2⟩]⟩ : Rp) 7 2 0 1 3 1 (by decide) (by decide) (by decide); rw [show trE (⟨[((1, 0, 1), [109, 97, 105, 110]), ((2, 0, 1), [120, 32, 121])], [⟨5, (1, 0, 1), 3, 2⟩, ⟨6, (2, 0, 1), 1, 2⟩]⟩ : Rp) (⟨7, (2, 0, 1), 3, 1⟩ : At) = 0 from by decide +kernel, show trS (⟨[((1, 0, 1), [109, 97, 105, 110]), ((2, 0, 1), [120, 32, 121])], [⟨5, (1, 0, 1), 3, 2⟩, ⟨6, (2, 0, 1), 1, 2⟩]⟩ : Rp) (⟨7, (2, 0, 1), 3, 1⟩ : At) = (⟨[((1, 0, 1), [109, 97, 105, 110]), ((2, 0, 1), [120, 32, 121])], [⟨5, (1, 0, 1), 3, 2⟩, ⟨6, (2, 0, 1), 1, 2⟩, ⟨7, (2, 0, 1), 3, 1⟩]⟩ : Rp) from by kernel_rfl] at h_; exact h_)) h33 fun _ h35 => ?_
 refine go [] <| cP Tryd.call19 (all_eq b10 (⟨[((1, 0, 1), [109, 97, 105, 110]), ((2, 0, 1), [120, 32, 121])], [⟨5, (1, 0, 1), 3, 2⟩, ⟨6, (2, 0, 1), 1, 2⟩, ⟨7, (2, 0, 1), 3, 1⟩]⟩ : Rp) [⟨[109, 97, 105, 110], (1, 0, 1), 5, 2⟩] 1 (by kernel_rfl) rfl) h35 ?_
 rintro v K _ (⟨p36, cap37, hl38, rfl, rfl⟩) h40
 have h41 := ap2 h40
 obtain ⟨hn42, hn43⟩ := sl_le h41
 refine go [] <| dw (fls [0, 1, 2, 3, 4, 5, 6, 7, 8, 9, 10, 11, 12, 13, 14, 15, 16, 17, 18] (Tr.an 19 (fls [20, 21, 22] Tr.nil))) h41 fun _ h45 => ?_
 obtain ⟨b46, hp47⟩ := sl_ptr0 (j := 0) h45 rfl (by omega)
 refine go [.v 9 12 (oJ .i64 (1 : Int) 1), .s 9 17] <| lw (pV b46) (fun _ => law_indexSlP (x := (Operand.tmp 59)) (i := (Operand.const (iV 0))) (p := p36) (b := b46) (off := 0) (z := 0) (len := 1) (cap := cap37) (by kernel_rfl) Tryd.underlying44 6 (by kernel_rfl) 0 (by kernel_rfl) hp47 (by kernel_rfl) (by omega) (by omega) 0 (by omega) _) <| go [.r 9 18 b46 0 [.string (St [109, 97, 105, 110]), iV 1, iV 0, uV 1, iV 5, iV 2] ⟨gv_cell (j := 0) h45 rfl (gv_sl _ _ _) hp47 (fl_get eLk_ok (j := 0) (v := .string (St [109, 97, 105, 110])) (show ([⟨[109, 97, 105, 110], (1, 0, 1), 5, 2⟩] : List Lk)[0]? = some (⟨[109, 97, 105, 110], (1, 0, 1), 5, 2⟩ : Lk) from rfl) rfl) 0 (by omega), gv_cell (j := 0) h45 rfl (gv_sl _ _ _) hp47 (fl_get eLk_ok (j := 1) (v := iV 1) (show ([⟨[109, 97, 105, 110], (1, 0, 1), 5, 2⟩] : List Lk)[0]? = some (⟨[109, 97, 105, 110], (1, 0, 1), 5, 2⟩ : Lk) from rfl) rfl) 1 (by omega), gv_cell (j := 0) h45 rfl (gv_sl _ _ _) hp47 (fl_get eLk_ok (j := 2) (v := iV 0) (show ([⟨[109, 97, 105, 110], (1, 0, 1), 5, 2⟩] : List Lk)[0]? = some (⟨[109, 97, 105, 110], (1, 0, 1), 5, 2⟩ : Lk) from rfl) rfl) 2 (by omega), gv_cell (j := 0) h45 rfl (gv_sl _ _ _) hp47 (fl_get eLk_ok (j := 3) (v := uV 1) (show ([⟨[109, 97, 105, 110], (1, 0, 1), 5, 2⟩] : List Lk)[0]? = some (⟨[109, 97, 105, 110], (1, 0, 1), 5, 2⟩ : Lk) from rfl) rfl) 3 (by omega), gv_cell (j := 0) h45 rfl (gv_sl _ _ _) hp47 (fl_get eLk_ok (j := 4) (v := iV 5) (show ([⟨[109, 97, 105, 110], (1, 0, 1), 5, 2⟩] : List Lk)[0]? = some (⟨[109, 97, 105, 110], (1, 0, 1), 5, 2⟩ : Lk) from rfl) rfl) 4 (by omega), gv_cell (j := 0) h45 rfl (gv_sl _ _ _) hp47 (fl_get eLk_ok (j := 5) (v := iV 2) (show ([⟨[109, 97, 105, 110], (1, 0, 1), 5, 2⟩] : List Lk)[0]? = some (⟨[109, 97, 105, 110], (1, 0, 1), 5, 2⟩ : Lk) from rfl) rfl) 5 (by omega), trivial⟩] <| cw0 Tryd.call14 (file_ht 0 1) h45 fun _ h49 => ⟨kd [.r 0 18 b46 0 [.string (St [109, 97, 105, 110]), iV 1, iV 0, uV 1, iV 5, iV 2] ⟨gv_cell (j := 0) h49 rfl (gv_sl _ _ _) hp47 (fl_get eLk_ok (j := 0) (v := .string (St [109, 97, 105, 110])) (show ([⟨[109, 97, 105, 110], (1, 0, 1), 5, 2⟩] : List Lk)[0]? = some (⟨[109, 97, 105, 110], (1, 0, 1), 5, 2⟩ : Lk) from rfl) rfl) 0 (by omega), gv_cell (j := 0) h49 rfl (gv_sl _ _ _) hp47 (fl_get eLk_ok (j := 1) (v := iV 1) (show ([⟨[109, 97, 105, 110], (1, 0, 1), 5, 2⟩] : List Lk)[0]? = some (⟨[109, 97, 105, 110], (1, 0, 1), 5, 2⟩ : Lk) from rfl) rfl) 1 (by omega), gv_cell (j := 0) h49 rfl (gv_sl _ _ _) hp47 (fl_get eLk_ok (j := 2) (v := iV 0) (show ([⟨[109, 97, 105, 110], (1, 0, 1), 5, 2⟩] : List Lk)[0]? = some (⟨[109, 97, 105, 110], (1, 0, 1), 5, 2⟩ : Lk) from rfl) rfl) 2 (by omega), gv_cell (j := 0) h49 rfl (gv_sl _ _ _) hp47 (fl_get eLk_ok (j := 3) (v := uV 1) (show ([⟨[109, 97, 105, 110], (1, 0, 1), 5, 2⟩] : List Lk)[0]? = some (⟨[109, 97, 105, 110], (1, 0, 1), 5, 2⟩ : Lk) from rfl) rfl) 3 (by omega), gv_cell (j := 0) h49 rfl (gv_sl _ _ _) hp47 (fl_get eLk_ok (j := 4) (v := iV 5) (show ([⟨[109, 97, 105, 110], (1, 0, 1), 5, 2⟩] : List Lk)[0]? = some (⟨[109, 97, 105, 110], (1, 0, 1), 5, 2⟩ : Lk) from rfl) rfl) 4 (by omega), gv_cell (j := 0) h49 rfl (gv_sl _ _ _) hp47 (fl_get eLk_ok (j := 5) (v := iV 2) (show ([⟨[109, 97, 105, 110], (1, 0, 1), 5, 2⟩] : List Lk)[0]? = some (⟨[109, 97, 105, 110], (1, 0, 1), 5, 2⟩ : Lk) from rfl) rfl) 5 (by omega), trivial⟩], ?_⟩
 refine go [.s 9 21] <| lw (.bool false) (fun _ => seq47_neq_t (x := (Operand.tmp 61)) (y := (Operand.tmp 63)) [109, 97, 105, 110] 1 0 1 5 2 [109, 97, 105, 110] 1 0 1 5 2 (by kernel_rfl) (by kernel_rfl) (by kernel_rfl) ⟨rfl, rfl, rfl, rfl, rfl, rfl⟩ _) <| go [] <| cl0 Tryd.call14 (file_ht 0 1) h49 fun _ h51 => go [] <| nP 35 [iV 0, iV 0, iV 0, uV 0, iV 0, iV 0] h51 (fun _ _ h54 => ?_)
 refine sP [(0, iV 9), (1, iV 1), (2, iV 0), (3, uV 1), (4, iV 1), (5, iV 1)] [iV 9, iV 1, iV 0, uV 1, iV 1, iV 1] h54 fun _ h56 => ?_
 have h57 := tk6 (sf5 (sf4 (sf4 (sf5 (sf5 (sf5 h56))))))
 refine go [rd 12 1 0 0 6 h56] <| cl1 Tryd.call16 ((by have h_ := rtry_ht b10 (⟨[((1, 0, 1), [109, 97, 105, 110]), ((2, 0, 1), [120, 32, 121])], [⟨5, (1, 0, 1), 3, 2⟩, ⟨6, (2, 0, 1), 1, 2⟩, ⟨7, (2, 0, 1), 3, 1⟩]⟩ : Rp) 9 1 0 1 1 1 (by decide) (by decide) (by decide); rw [show trE (⟨[((1, 0, 1), [109, 97, 105, 110]), ((2, 0, 1), [120, 32, 121])], [⟨5, (1, 0, 1), 3, 2⟩, ⟨6, (2, 0, 1), 1, 2⟩, ⟨7, (2, 0, 1), 3, 1⟩]⟩ : Rp) (⟨9, (1, 0, 1), 1, 1⟩ : At) = 0 from by decide +kernel, show trS (⟨[((1, 0, 1), [109, 97, 105, 110]), ((2, 0, 1), [120, 32, 121])], [⟨5, (1, 0, 1), 3, 2⟩, ⟨6, (2, 0, 1), 1, 2⟩, ⟨7, (2, 0, 1), 3, 1⟩]⟩ : Rp) (⟨9, (1, 0, 1), 1, 1⟩ : At) = (⟨[((1, 0, 1), [109, 97, 105, 110]), ((2, 0, 1), [120, 32, 121])], [⟨5, (1, 0, 1), 3, 2⟩, ⟨6, (2, 0, 1), 1, 2⟩, ⟨7, (2, 0, 1), 3, 1⟩, ⟨9, (1, 0, 1), 1, 1⟩]⟩ : Rp) from by kernel_rfl] at h_; exact h_)) h57 fun _ h59 => ?_
 have h60 := tk6 (sf5 (sf5 (sf4 (sf4 (sf4 (sf5 h59))))))
 refine go [] <| cl2 Tryd.call24 ((by have h_ := rtext_ht b10 (⟨[((1, 0, 1), [109, 97, 105, 110]), ((2, 0, 1), [120, 32, 121])], [⟨5, (1, 0, 1), 3, 2⟩, ⟨6, (2, 0, 1), 1, 2⟩, ⟨7, (2, 0, 1), 3, 1⟩, ⟨9, (1, 0, 1), 1, 1⟩]⟩ : Rp) wo hg; rw [wtx.1, wtx.2] at h_; exact h_)) h60 fun _ h62 => ?_
 refine go [.s 14 8] <| lwP (.bool true) (law_eqStr (t := 9) (x := (Operand.tmp 83)) (y := (Operand.const (.string (St [34, 109, 97, 105, 110, 34, 32, 102, 48, 58, 49, 32, 53, 32, 114, 101, 108, 101, 97, 115, 101, 100, 10])))) (a := [34, 109, 97, 105, 110, 34, 32, 102, 48, 58, 49, 32, 53, 32, 114, 101, 108, 101, 97, 115, 101, 100, 10]) (b := [34, 109, 97, 105, 110, 34, 32, 102, 48, 58, 49, 32, 53, 32, 114, 101, 108, 101, 97, 115, 101, 100, 10]) (by kernel_rfl) (by kernel_rfl) (by kernel_rfl) true (decide_eq_true rfl) _) <| go [rd 14 12 2 0 6 h62] <| cl1 Tryd.call16 ((by have h_ := rtry_ht b10 (⟨[((1, 0, 1), [109, 97, 105, 110]), ((2, 0, 1), [120, 32, 121])], [⟨5, (1, 0, 1), 3, 2⟩, ⟨6, (2, 0, 1), 1, 2⟩, ⟨7, (2, 0, 1), 3, 1⟩, ⟨9, (1, 0, 1), 1, 1⟩]⟩ : Rp) 9 1 0 1 1 1 (by decide) (by decide) (by decide); rw [show trE (⟨[((1, 0, 1), [109, 97, 105, 110]), ((2, 0, 1), [120, 32, 121])], [⟨5, (1, 0, 1), 3, 2⟩, ⟨6, (2, 0, 1), 1, 2⟩, ⟨7, (2, 0, 1), 3, 1⟩, ⟨9, (1, 0, 1), 1, 1⟩]⟩ : Rp) (⟨9, (1, 0, 1), 1, 1⟩ : At) = 8 from by decide +kernel, show trS (⟨[((1, 0, 1), [109, 97, 105, 110]), ((2, 0, 1), [120, 32, 121])], [⟨5, (1, 0, 1), 3, 2⟩, ⟨6, (2, 0, 1), 1, 2⟩, ⟨7, (2, 0, 1), 3, 1⟩, ⟨9, (1, 0, 1), 1, 1⟩]⟩ : Rp) (⟨9, (1, 0, 1), 1, 1⟩ : At) = (⟨[((1, 0, 1), [109, 97, 105, 110]), ((2, 0, 1), [120, 32, 121])], [⟨5, (1, 0, 1), 3, 2⟩, ⟨6, (2, 0, 1), 1, 2⟩, ⟨7, (2, 0, 1), 3, 1⟩, ⟨9, (1, 0, 1), 1, 1⟩]⟩ : Rp) from by kernel_rfl] at h_; exact h_)) h62 fun _ h64 => ?_
 refine go [] <| cl1 Tryd.call22 ((by have h_ := rcnt_ht b10 (⟨[((1, 0, 1), [109, 97, 105, 110]), ((2, 0, 1), [120, 32, 121])], [⟨5, (1, 0, 1), 3, 2⟩, ⟨6, (2, 0, 1), 1, 2⟩, ⟨7, (2, 0, 1), 3, 1⟩, ⟨9, (1, 0, 1), 1, 1⟩]⟩ : Rp) [109, 97, 105, 110]; rw [show cntL (lks (⟨[((1, 0, 1), [109, 97, 105, 110]), ((2, 0, 1), [120, 32, 121])], [⟨5, (1, 0, 1), 3, 2⟩, ⟨6, (2, 0, 1), 1, 2⟩, ⟨7, (2, 0, 1), 3, 1⟩, ⟨9, (1, 0, 1), 1, 1⟩]⟩ : Rp)) [109, 97, 105, 110] = 1 from by decide +kernel] at h_; exact h_)) h64 fun _ h66 => ?_
 refine go [] <| cP Tryd.call21 (tags_one b10 (⟨[((1, 0, 1), [109, 97, 105, 110]), ((2, 0, 1), [120, 32, 121])], [⟨5, (1, 0, 1), 3, 2⟩, ⟨6, (2, 0, 1), 1, 2⟩, ⟨7, (2, 0, 1), 3, 1⟩, ⟨9, (1, 0, 1), 1, 1⟩]⟩ : Rp) ⟨[109, 97, 105, 110], (1, 0, 1), 5, 3⟩ [109, 97, 105, 110] (by kernel_rfl) rfl) h66 ?_
 rintro v K _ (⟨p67, cap68, rfl, rfl⟩) h70
 have h71 := ap2 h70
 obtain ⟨hn72, hn73⟩ := sl_le h71
 refine go [.v 14 24 (oJ .i64 (1 : Int) 1)] ?_
 exact en (.bool true) [] ⟨_, _, rfl, ⟨rfl, rfl⟩, (tk2 (sf1 (sf6 (tk7 (sf6 (sf5 (sf5 (sf6 (sf6 (sf6 (sf6 h71)))))))))))⟩

end Go.Proofs.YtfoliffeieeihaaDoor

/-
  Attempts by numbers: what the laws' 'tried' leaves behind. No program in sight.
-/
namespace Go.Proofs.YtfoliffeieeihaaDoor
def nmT (k : Nat) : List UInt8 := if k = 1 then [109, 97, 105, 110] else if k = 2 then [120, 32, 121] else [97]
-- one attempt more
/-- How leaks stay. -/
structure Sty (L M : List Lk) : Prop where
  lo : L.length ≤ M.length
  hi : M.length ≤ L.length + 1
  el : ∀ (k : Nat) x y, L[k]? = some x → M[k]? = some y → x.tag = y.tag ∧ x.out.1 = y.out.1 ∧ x.out.2.1 = y.out.2.1 ∧ x.out.2.2 = y.out.2.2 ∧ x.at_ = y.at_ ∧ (x.st = y.st ∨ x.st = 2)
-- the first attempt for a resource, and the last one
theorem lksN_mono (S : Rp) {i j : Nat} (h : i ≤ j) : ∃ M, lksN S j = lksN S i ++ M := by
  induction h with
  | refl => exact ⟨[], by simp⟩
  | step _ ih =>
    obtain ⟨M, hM⟩ := ih
    exact ⟨M ++ lkAt S _, by simp only [lksN]; rw [hM, List.append_assoc]⟩
theorem lks_at {S : Rp} {i : Nat} {a : At} (ha : S.A[i]? = some a) (hf : isF S.A i a = true) (hy : a.why = 3) : (lks S)[(lksN S i).length]? = some (lkOf S a) ∧ (lksN S (i + 1)).length = (lksN S i).length + 1 := by
  have hi := (List.getElem?_eq_some_iff.1 ha).1
  have h1 : lksN S (i + 1) = lksN S i ++ [lkOf S a] := by
    simp only [lksN, lkAt, ha]
    rw [if_pos ⟨hf, hy⟩]
  obtain ⟨M, hM⟩ := lksN_mono S (show i + 1 ≤ S.A.length by omega)
  refine ⟨?_, by rw [h1, List.length_append]; rfl⟩
  unfold lks
  rw [hM, h1, List.append_assoc, List.getElem?_append_right (Nat.le_refl _), Nat.sub_self]
  rfl
-- ended
/-- The laid names. -/
structure Ln (g nb no : Nat) (wo : World) : Prop where
  sl : wo.cell? ⟨g, 0, none⟩ = some (.slice (some ⟨nb, no, none⟩) 4 4)
  el : ∀ k : Nat, k < 4 → wo.cell? ⟨nb, no + k, none⟩ = some (.string (St (nmT k)))
end Go.Proofs.YtfoliffeieeihaaDoor

/-
  Counts of tags, lines of texts. No program in sight.
-/
namespace Go.Proofs.YtfoliffeieeihaaDoor
theorem tg_nodup {S : Rp} {T : List (List UInt8)} (h : Tg S T) : T.Nodup := h.so.imp fun {a b} hab (e : a = b) => List.lt_irrefl b (by rw [e] at hab; exact hab)
-- lines
end Go.Proofs.YtfoliffeieeihaaDoor

/-
  The limits of a report: 2000 resources, 1998 leaks. No program in sight.
-/
namespace Go.Proofs.YtfoliffeieeihaaDoor
def LKT : List UInt8 := [108, 101, 97, 107, 32, 108, 101, 97, 107, 32, 108, 101, 97, 107, 32, 108, 101, 97, 107, 32, 108, 101, 97, 107]
def kKey (j : Nat) : Ky := (1, ((j : Int) + 2) % 64, ((j : Int) + 2) / 64 + 3)
def kO (j : Nat) : List (Ky × List UInt8) := [((1, 0, 1), [97]), ((1, 0, 2), [98])] ++ (List.range j).map fun q => (kKey q, LKT)
def kA (j : Nat) : List At := (List.range j).map fun (q : Nat) => ⟨(q : Int) + 2, kKey q, 3, 3⟩
theorem kO_len (j : Nat) : (kO j).length = j + 2 := by simp [kO]
theorem kA_len (j : Nat) : (kA j).length = j := by simp [kA]
theorem kKey_inj {p q : Nat} (h : kKey p = kKey q) : p = q := by
  unfold kKey at h
  simp only [Prod.mk.injEq, true_and] at h
  omega
theorem kO_s (j : Nat) : kO (j + 1) = kO j ++ [(kKey j, LKT)] := by
  unfold kO
  rw [List.range_succ, List.map_append, List.append_assoc]
  rfl
theorem kA_s (j : Nat) : kA (j + 1) = kA j ++ [⟨(j : Int) + 2, kKey j, 3, 3⟩] := by
  unfold kA
  rw [List.range_succ, List.map_append]
  rfl
theorem kO_mem {j : Nat} {k : Ky} : k ∈ (kO j).map (·.1) ↔ k = (1, 0, 1) ∨ k = (1, 0, 2) ∨ ∃ q, q < j ∧ k = kKey q := by
  unfold kO
  rw [List.map_append, List.map_map, List.mem_append]
  constructor
  · rintro (h | h)
    · simp only [List.map_cons, List.map_nil, List.mem_cons, List.not_mem_nil, or_false] at h
      rcases h with h | h
      · exact .inl h
      · exact .inr (.inl h)
    · obtain ⟨q, hq, rfl⟩ := List.mem_map.1 h
      exact .inr (.inr ⟨q, List.mem_range.1 hq, rfl⟩)
  · rintro (h | h | ⟨q, hq, rfl⟩)
    · exact .inl (by simp [h])
    · exact .inl (by simp [h])
    · exact .inr (List.mem_map.2 ⟨q, List.mem_range.2 hq, rfl⟩)
theorem kKey_ok {j : Nat} : outE (kKey j) = 0 := outE_iff.2 ⟨by show (1 : Int) ≤ 1; omega, by show (1 : Int) ≤ 3; omega, by show 0 ≤ ((j : Int) + 2) % 64; omega, by show ((j : Int) + 2) % 64 ≤ 63; omega, by show 1 ≤ ((j : Int) + 2) / 64 + 3; omega⟩
theorem LKT_ok : tagE LKT = 0 := by kernel_rfl
theorem kop {j : Nat} (h : j < 1998) : opdE ⟨kO j, []⟩ (kKey j) LKT = 0 ∧ opdS ⟨kO j, []⟩ (kKey j) LKT = ⟨kO (j + 1), []⟩ := by
  have h1 : gget (kO j) (kKey j) = none := gn_none.2 fun hm => by
    rcases kO_mem.1 hm with e | e | ⟨q, hq, e⟩
    · unfold kKey at e
      simp only [Prod.mk.injEq, true_and] at e
      omega
    · unfold kKey at e
      simp only [Prod.mk.injEq, true_and] at e
      omega
    · have := kKey_inj e
      omega
  have h2 : opdE ⟨kO j, []⟩ (kKey j) LKT = 0 := opdE_ok kKey_ok LKT_ok (by show (gget (kO j) (kKey j)).isSome = false; rw [h1]; rfl) (by show ¬ 2000 ≤ (kO j).length; rw [kO_len]; omega)
  refine ⟨h2, ?_⟩
  unfold opdS
  rw [if_pos h2, kO_s]
theorem kful : opdE ⟨kO 1998, []⟩ (1, 0, 99) [97] = 4 ∧ opdS ⟨kO 1998, []⟩ (1, 0, 99) [97] = ⟨kO 1998, []⟩ := by
  have h1 : gget (kO 1998) (1, 0, 99) = none := gn_none.2 fun hm => by
    rcases kO_mem.1 hm with e | e | ⟨q, hq, e⟩
    · cases e
    · cases e
    · unfold kKey at e
      simp only [Prod.mk.injEq, true_and] at e
      omega
  have h2 : opdE ⟨kO 1998, []⟩ (1, 0, 99) [97] = 4 := opdE_full (by decide) (by kernel_rfl) (by show (gget (kO 1998) (1, 0, 99)).isSome = false; rw [h1]; rfl) (by show 2000 ≤ (kO 1998).length; rw [kO_len]; omega)
  exact ⟨h2, opdS_no h2 (by decide)⟩
theorem khav : opdE ⟨kO 1998, []⟩ (1, 0, 1) [97] = 6 ∧ opdS ⟨kO 1998, []⟩ (1, 0, 1) [97] = ⟨kO 1998, []⟩ := by
  have h1 : gget (kO 1998) (1, 0, 1) = some [97] := by unfold kO; rw [List.cons_append]; unfold gget; rw [if_pos rfl]
  have h2 : opdE ⟨kO 1998, []⟩ (1, 0, 1) [97] = 6 := opdE_have (by decide) (by kernel_rfl) (by show (gget (kO 1998) (1, 0, 1)).isSome = true; rw [h1]; rfl)
  exact ⟨h2, opdS_no h2 (by decide)⟩
theorem kA_at {n i : Nat} {a : At} (h : (kA n)[i]? = some a) : i < n ∧ a = ⟨(i : Int) + 2, kKey i, 3, 3⟩ := by
  have hi := (List.getElem?_eq_some_iff.1 h).1
  rw [kA_len] at hi
  unfold kA at h
  rw [List.getElem?_map, List.getElem?_range hi] at h
  exact ⟨hi, (Option.some.inj h).symm⟩
theorem kA_no {n j : Nat} (h : n ≤ j) : ∀ a ∈ kA n, a.out ≠ kKey j := fun a ha e => by
  obtain ⟨i, hi, rfl⟩ := List.mem_iff_getElem.1 ha
  obtain ⟨h1, h2⟩ := kA_at (List.getElem?_eq_getElem hi)
  rw [h2] at e
  have := kKey_inj e
  omega
theorem ktr {j : Nat} (h : j < 1998) : trE ⟨kO 1998, kA j⟩ ⟨(j : Int) + 2, kKey j, 3, 3⟩ = 0 ∧ trS ⟨kO 1998, kA j⟩ ⟨(j : Int) + 2, kKey j, 3, 3⟩ = ⟨kO 1998, kA (j + 1)⟩ := by
  have h1 : (gget (kO 1998) (kKey j)).isSome = true := by
    cases hg : gget (kO 1998) (kKey j) with
    | some _ => rfl
    | none => exact absurd (kO_mem.2 (.inr (.inr ⟨j, h, rfl⟩))) (gn_none.1 hg)
  have h2 : attE ⟨(j : Int) + 2, kKey j, 3, 3⟩ = 0 := if_pos ⟨by show (0 : Int) ≤ _ + 2; omega, by show (j : Int) + 2 ≤ _; omega, kKey_ok, by show (1 : Int) ≤ 3; omega, by show (3 : Int) ≤ 3; omega, by show (1 : Int) ≤ 3; omega, by show (3 : Int) ≤ 3; omega⟩
  have h3 : trE ⟨kO 1998, kA j⟩ ⟨(j : Int) + 2, kKey j, 3, 3⟩ = 0 := trE_ok h2 h1 (st_none (kA_no (Nat.le_refl j)))
  refine ⟨h3, ?_⟩
  unfold trS
  rw [if_pos h3, kA_s]
def kS (n : Nat) : Rp := ⟨kO n, kA n⟩
theorem k_isF {n i : Nat} {a : At} (h : (kA n)[i]? = some a) : isF (kA n) i a = true := by
  obtain ⟨_, rfl⟩ := kA_at h
  unfold isF
  rw [List.all_eq_true]
  intro q hq
  obtain ⟨j, hj, rfl⟩ := List.mem_iff_getElem.1 hq
  have h1 : (kA n)[j]? = some ((kA n).take i)[j] := by
    rw [← List.getElem?_eq_getElem hj] 
    rw [List.getElem?_take, if_pos (by rw [List.length_take] at hj; omega)]
  obtain ⟨_, h2⟩ := kA_at h1
  refine decide_eq_true ?_
  rw [h2]
  intro e
  have := kKey_inj e
  rw [List.length_take] at hj
  omega
theorem k_len (n : Nat) : ∀ i, i ≤ n → (lksN (kS n) i).length = i
  | 0, _ => rfl
  | i + 1, h => by
    obtain ⟨a, ha⟩ : ∃ a, (kA n)[i]? = some a := ⟨_, List.getElem?_eq_getElem (by rw [kA_len]; omega)⟩
    have hy : a.why = 3 := by rw [(kA_at ha).2]
    rw [(lks_at (S := (kS n)) ha (k_isF ha) hy).2, k_len n i (by omega)]
theorem kl_len (n : Nat) : (lks (kS n)).length = n := by
  have h : (kS n).A.length = n := kA_len n
  unfold lks
  rw [h]
  exact k_len n n (Nat.le_refl _)
theorem kl_tag {n : Nat} (hw : Rw (kS n)) {x : Lk} (hx : x ∈ lks (kS n)) : x.tag = LKT := by
  obtain ⟨i, a, h1, _, _, rfl⟩ := mem_lks.1 hx
  obtain ⟨h2, h3⟩ := kA_at h1
  have h4 : gget (kS n).O a.out = some LKT := (gn_mem hw.nd).2 (by
    rw [h3]
    show (kKey i, LKT) ∈ kO n
    unfold kO
    exact List.mem_append_right _ (List.mem_map.2 ⟨i, List.mem_range.2 h2, rfl⟩))
  show tagO (kS n) a.out = LKT
  unfold tagO
  rw [h4]
  rfl
theorem k_cnt {n : Nat} (hw : Rw (kS n)) : cntL (lks (kS n)) LKT = n := by
  unfold cntL
  rw [List.filter_eq_self.2 fun x hx => decide_eq_true (kl_tag hw hx), kl_len]
theorem k_tags {n : Nat} (hn0 : 0 < n) (hw : Rw (kS n)) {T : List (List UInt8)} (h : Tg (kS n) T) : T.length = 1 := by
  have h1 : ∀ t, t ∈ T ↔ t = LKT := fun t => by
    rw [h.mem]
    constructor
    · rintro ⟨x, hx, rfl⟩
      exact kl_tag hw hx
    · rintro rfl
      have h0 : 0 < (lks (kS n)).length := by rw [kl_len]; exact hn0
      exact ⟨(lks (kS n))[0], List.getElem_mem h0, kl_tag hw (List.getElem_mem h0)⟩
  have hn := tg_nodup h
  match T, h1, hn with
  | [], h1, _ => exact absurd ((h1 LKT).2 rfl) (by simp)
  | [_], _, _ => rfl
  | a :: b :: T, h1, hn =>
    have e1 := (h1 a).1 (by simp)
    have e2 := (h1 b).1 (by simp)
    rw [List.nodup_cons] at hn
    exact absurd (by rw [e1, e2]; simp) hn.1
theorem tx_ge {k : Nat} : ∀ {L : List Lk}, (∀ x ∈ L, k ≤ (lnL x).length) → k * L.length ≤ (txL L).length
  | [], _ => by simp
  | x :: L, h => by
    have h1 := tx_ge (k := k) (L := L) fun y hy => h y (by simp [hy])
    have h2 := h x (by simp)
    unfold txL at h1 ⊢
    rw [List.flatMap_cons, List.length_append, List.length_cons, Nat.mul_succ]
    omega
theorem qtL_k : (qtL LKT).length = 26 := by kernel_rfl
theorem k_txt {n : Nat} (hn0 : 1998 ≤ n) (hw : Rw (kS n)) : txV (kS n) = [] ∧ txE (kS n) = 10 := by
  have h1 : 40 * (lks (kS n)).length ≤ (txL (lks (kS n))).length := tx_ge fun x hx => by
    obtain ⟨g1, g2, g3, g4, g5, _⟩ := lks_good hw hx
    have g6 := outE_iff.1 g2
    have e1 := (dgs_le x.at_ (by omega)).1
    have e2 := (dgs_le x.out.2.1 (by omega)).1
    have e3 := (dgs_le x.out.2.2 (by omega)).1
    have e4 : 7 ≤ (wdL x.st).length := by
      unfold wdL
      split
      · decide
      · split <;> decide
    unfold lnL otL
    rw [kl_tag hw hx]
    simp only [List.length_append, List.length_cons, List.length_nil, qtL_k]
    omega
  rw [kl_len] at h1
  unfold txV txE
  rw [if_pos (by omega), if_pos (by omega)]
  exact ⟨rfl, rfl⟩
end Go.Proofs.YtfoliffeieeihaaDoor
