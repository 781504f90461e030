/-
  Tags in their order, none twice. No program in sight.
-/
import Derived.Test.YtfoliffeieeihaaGreatDoorBundle33
import Derived.Test.YtfoliffeieeihaaGreatDoorTso
namespace Go.Proofs.YtfoliffeieeihaaGreatDoor
open Go.Sort Go.Lib
def ordB (a b : List UInt8) : Int := if ltStr a b = true then -1 else if ltStr b a = true then 1 else 0
/-- The order of tags: what is no tag comes first. -/
def ordT (a b : List UInt8) : Int := if tagE a = 0 ∧ tagE b = 0 then ordB a b else if tagE a = 0 then 1 else if tagE b = 0 then -1 else 0
theorem ordB_lt {a b : List UInt8} : ordB a b < 0 ↔ a < b := by
  unfold ordB ltStr
  simp only [decide_eq_true_eq]
  split
  · simp_all
  · split <;> simp_all
theorem lt_ordT (a b : List UInt8) : ltOf ordT a b = true ↔ (tagE a = 0 ∧ tagE b = 0 ∧ a < b) ∨ (tagE a ≠ 0 ∧ tagE b = 0) := by
  unfold ltOf ordT
  rw [decide_eq_true_eq]
  by_cases h1 : tagE a = 0 <;> by_cases h2 : tagE b = 0
  · rw [if_pos ⟨h1, h2⟩, ordB_lt]; simp [h1, h2]
  · rw [if_neg (fun q => h2 q.2), if_pos h1]; simp [h1, h2]
  · rw [if_neg (fun q => h1 q.1), if_neg h1, if_pos h2]; simp [h1, h2]
  · rw [if_neg (fun q => h1 q.1), if_neg h1, if_neg h2]; simp [h1, h2]
theorem lt_ordF (a b : List UInt8) : ltOf ordT a b = false ↔ ¬ ((tagE a = 0 ∧ tagE b = 0 ∧ a < b) ∨ (tagE a ≠ 0 ∧ tagE b = 0)) := by
  rw [← lt_ordT]
  simp
theorem swoT : SWO (ltOf ordT) where
  irrefl x := by
    rw [lt_ordF]
    rintro (⟨_, _, h⟩ | ⟨h1, h2⟩)
    · exact List.lt_irrefl x h
    · exact h1 h2
  trans x y z h1 h2 := by
    rw [lt_ordT] at *
    rcases h1 with ⟨a, b, c⟩ | ⟨a, b⟩
    · rcases h2 with ⟨_, d, e⟩ | ⟨d, e⟩
      · exact .inl ⟨a, d, List.lt_trans c e⟩
      · exact absurd b d
    · rcases h2 with ⟨_, d, e⟩ | ⟨d, e⟩
      · exact .inr ⟨a, d⟩
      · exact absurd b d
  ntrans x y z h1 h2 := by
    rw [lt_ordF] at *
    rintro (⟨a, b, c⟩ | ⟨a, b⟩)
    · by_cases hy : tagE y = 0
      · have e1 : ¬ x < y := fun h => h1 (.inl ⟨a, hy, h⟩)
        have e2 : ¬ y < z := fun h => h2 (.inl ⟨hy, b, h⟩)
        exact absurd c (List.not_lt.2 (List.le_trans (List.not_lt.1 e2) (List.not_lt.1 e1)))
      · exact h2 (.inr ⟨hy, b⟩)
    · by_cases hy : tagE y = 0
      · exact h1 (.inr ⟨a, hy⟩)
      · exact h2 (.inr ⟨hy, b⟩)
/-- The tags of a report: in their order, none twice. -/
structure Tg (S : Rp) (T : List (List UInt8)) : Prop where
  so : T.Pairwise fun a b => a < b
  mem : ∀ t, t ∈ T ↔ ∃ x ∈ lks S, x.tag = t
theorem cmp_mem {d : Array (List UInt8)} {m : Nat} : ∀ {j : Nat}, j < m → d[j]! ∈ compactUpTo d m
  | 0, h => by
    unfold compactUpTo
    exact List.mem_map.2 ⟨0, List.mem_filter.2 ⟨List.mem_range.2 h, keeps_lt_one d 0 (by omega)⟩, rfl⟩
  | j + 1, h => by
    by_cases he : d[j + 1]! = d[j + 1 - 1]!
    · rw [he]
      exact cmp_mem (j := j) (by omega)
    · unfold compactUpTo
      exact List.mem_map.2 ⟨j + 1, List.mem_filter.2 ⟨List.mem_range.2 h, keeps_pos he⟩, rfl⟩
theorem keeps_ne {d : Array (List UInt8)} {j : Nat} (h0 : 0 < j) (h : keeps d j = true) : d[j]! ≠ d[j - 1]! := fun e => by
  rw [keeps_neg h0 e] at h
  cases h
theorem tg_of {S : Rp} (hw : Rw S) {M : List (List UInt8)} (hP : M.Perm ((lks S).map (·.tag))) (hs : M.Pairwise fun a b => ltOf ordT b a = false) : Tg S (compact M) := by
  have hgood : ∀ t ∈ M, tagE t = 0 := fun t ht => by
    obtain ⟨x, hx, rfl⟩ := List.mem_map.1 (hP.mem_iff.1 ht)
    exact (lks_good hw hx).1
  have hle : ∀ i j : Nat, i < j → j < M.length → ¬ (M.toArray[j]! < M.toArray[i]!) := fun i j hij hj => by
    rw [List.pairwise_iff_getElem] at hs
    have h1 := hs i j (by omega) hj hij
    rw [lt_ordF] at h1
    rw [getElem!_pos M.toArray j (by simpa using hj), getElem!_pos M.toArray i (by simp; omega)]
    intro h
    exact h1 (.inl ⟨hgood _ (List.getElem_mem _), hgood _ (List.getElem_mem _), h⟩)
  refine ⟨?_, fun t => ?_⟩
  · unfold compact compactUpTo
    rw [List.pairwise_map]
    refine List.Pairwise.imp_of_mem (fun {a b} ha hb hab => ?_) (List.pairwise_lt_range.filter _)
    rw [List.mem_filter, List.mem_range] at ha hb
    have hne := keeps_ne (by omega) hb.2
    have h1 : ¬ M.toArray[b]! < M.toArray[b - 1]! := hle (b - 1) b (by omega) hb.1
    have h2 : M.toArray[b - 1]! < M.toArray[b]! := by
      apply Classical.byContradiction
      intro h3
      exact hne (List.le_antisymm (List.not_lt.1 h3) (List.not_lt.1 h1))
    rcases Nat.lt_or_ge a (b - 1) with h3 | h3
    · exact List.lt_of_le_of_lt (List.not_lt.1 (hle a (b - 1) h3 (by omega))) h2
    · obtain rfl : a = b - 1 := by omega
      exact h2
  · have e1 : t ∈ compact M ↔ t ∈ M := by
      constructor
      · intro h
        unfold compact compactUpTo at h
        obtain ⟨j, hj, rfl⟩ := List.mem_map.1 h
        rw [List.mem_filter, List.mem_range] at hj
        rw [getElem!_pos M.toArray j (by simpa using hj.1)]
        exact List.getElem_mem _
      · intro h
        obtain ⟨j, hj, rfl⟩ := List.mem_iff_getElem.1 h
        have := cmp_mem (d := M.toArray) (m := M.length) (j := j) hj
        rw [getElem!_pos M.toArray j (by simpa using hj)] at this
        exact this
    rw [e1, hP.mem_iff, List.mem_map]
end Go.Proofs.YtfoliffeieeihaaGreatDoor

/- Walks, printed by my generator l11.py. -/
namespace Go.Proofs.YtfoliffeieeihaaGreatDoor
def sortRenW : Go.Shelf.Ren := ⟨fun | 6 => 49 | 14 => 68 | 15 => 59 | 20 => 88 | 21 => 89 | 22 => 90 | 23 => 91 | 24 => 92 | 25 => 93 | 26 => 94 | 27 => 95 | 28 => 81 | 29 => 82 | 46 => 110 | 47 => 99 | 48 => 100 | 49 => 111 | 50 => 112 | 57 => 119 | n => n, fun | 22 => 49 | 24 => 9 | 25 => 86 | 3 => 3 | 39 => 100 | 0 => 0 | 53 => 29 | 55 => 114 | 4 => 4 | 46 => 122 | 45 => 121 | 50 => 92 | 5 => 5 | 9 => 9 | 66 => 138 | 70 => 142 | 76 => 152 | 77 => 118 | n => n, fun n => n⟩
theorem sortLayW : SlLaysF.n6 Tryz.prog sortRenW where
  mixed := by kernel_rfl
  f6 := ⟨ "slices.SortFunc[[]string,string]", by decide, Tryz.func49.trans (congrArg some (by kernel_rfl))⟩
  f14 := ⟨ "slices.pdqsortCmpFunc[string]", by decide, Tryz.func68.trans (congrArg some (by kernel_rfl))⟩
  f15 := Tryz.func59.trans (congrArg some (by kernel_rfl))
  f20 := ⟨ "slices.insertionSortCmpFunc[string]", by decide, Tryz.func88.trans (congrArg some (by kernel_rfl))⟩
  f21 := ⟨ "slices.heapSortCmpFunc[string]", by decide, Tryz.func89.trans (congrArg some (by kernel_rfl))⟩
  f22 := ⟨ "slices.breakPatternsCmpFunc[string]", by decide, Tryz.func90.trans (congrArg some (by kernel_rfl))⟩
  f23 := ⟨ "slices.choosePivotCmpFunc[string]", by decide, Tryz.func91.trans (congrArg some (by kernel_rfl))⟩
  f24 := ⟨ "slices.reverseRangeCmpFunc[string]", by decide, Tryz.func92.trans (congrArg some (by kernel_rfl))⟩
  f25 := ⟨ "slices.partialInsertionSortCmpFunc[string]", by decide, Tryz.func93.trans (congrArg some (by kernel_rfl))⟩
  f26 := ⟨ "slices.partitionEqualCmpFunc[string]", by decide, Tryz.func94.trans (congrArg some (by kernel_rfl))⟩
  f27 := ⟨ "slices.partitionCmpFunc[string]", by decide, Tryz.func95.trans (congrArg some (by kernel_rfl))⟩
  f28 := Tryz.func81.trans (congrArg some (by kernel_rfl))
  f29 := Tryz.func82.trans (congrArg some (by kernel_rfl))
  f46 := ⟨ "slices.siftDownCmpFunc[string]", by decide, Tryz.func110.trans (congrArg some (by kernel_rfl))⟩
  f47 := Tryz.func99.trans (congrArg some (by kernel_rfl))
  f48 := Tryz.func100.trans (congrArg some (by kernel_rfl))
  f49 := ⟨ "slices.medianAdjacentCmpFunc[string]", by decide, Tryz.func111.trans (congrArg some (by kernel_rfl))⟩
  f50 := ⟨ "slices.medianCmpFunc[string]", by decide, Tryz.func112.trans (congrArg some (by kernel_rfl))⟩
  f57 := ⟨ "slices.order2CmpFunc[string]", by decide, Tryz.func119.trans (congrArg some (by kernel_rfl))⟩
  t0 := Tryz.underlying0
  a0 := Tryz.isAgg0
  z0 := Tryz.sizeOf0
  v0 := Tryz.zeroValue0
  t3 := Tryz.underlying3
  a3 := Tryz.isAgg3
  z3 := Tryz.sizeOf3
  v3 := Tryz.zeroValue3
  t4 := Tryz.underlying4
  a4 := Tryz.isAgg4
  z4 := Tryz.sizeOf4
  v4 := Tryz.zeroValue4
  t5 := Tryz.underlying5
  a5 := Tryz.isAgg5
  z5 := Tryz.sizeOf5
  v5 := Tryz.zeroValue5
  t9 := Tryz.underlying9
  a9 := Tryz.isAgg9
  z9 := Tryz.sizeOf9
  v9 := Tryz.zeroValue9
  t22 := Tryz.underlying49
  a22 := Tryz.isAgg49
  z22 := Tryz.sizeOf49
  v22 := Tryz.zeroValue49
  t25 := Tryz.underlying86
  a25 := Tryz.isAgg86
  z25 := Tryz.sizeOf86
  v25 := Tryz.zeroValue86
  t39 := Tryz.underlying100
  a39 := Tryz.isAgg100
  z39 := Tryz.sizeOf100
  v39 := Tryz.zeroValue100
  t45 := Tryz.underlying121
  a45 := Tryz.isAgg121
  z45 := Tryz.sizeOf121
  v45 := Tryz.zeroValue121
  t46 := Tryz.underlying122
  a46 := Tryz.isAgg122
  z46 := Tryz.sizeOf122
  v46 := Tryz.zeroValue122
  t50 := Tryz.underlying92
  a50 := Tryz.isAgg92
  z50 := Tryz.sizeOf92
  v50 := Tryz.zeroValue92
  t53 := Tryz.underlying29
  a53 := Tryz.isAgg29
  z53 := Tryz.sizeOf29
  v53 := Tryz.zeroValue29
  t55 := Tryz.underlying114
  a55 := Tryz.isAgg114
  z55 := Tryz.sizeOf114
  v55 := Tryz.zeroValue114
  t66 := Tryz.underlying138
  a66 := Tryz.isAgg138
  z66 := Tryz.sizeOf138
  v66 := Tryz.zeroValue138
  t70 := Tryz.underlying142
  a70 := Tryz.isAgg142
  z70 := Tryz.sizeOf142
  v70 := Tryz.zeroValue142
  t76 := Tryz.underlying152
  a76 := Tryz.isAgg152
  z76 := Tryz.sizeOf152
  v76 := Tryz.zeroValue152
  t77 := Tryz.underlying118
  a77 := Tryz.isAgg118
  z77 := Tryz.sizeOf118
  v77 := Tryz.zeroValue118
  a24 := Tryz.isAgg9
  z24 := Tryz.sizeOf9
def cpRen : Go.Shelf.Ren := ⟨fun | 194 => 51 | n => n, fun | 0 => 0 | 3 => 3 | 4 => 4 | 9 => 9 | 31 => 49 | n => n, fun n => n⟩
theorem cpLay : Lays.n194 Tryz.prog cpRen where
  mixed := by kernel_rfl
  f194 := Tryz.func51.trans (congrArg some (by kernel_rfl))
  t0 := Tryz.underlying0
  a0 := Tryz.isAgg0
  z0 := Tryz.sizeOf0
  v0 := Tryz.zeroValue0
  t3 := Tryz.underlying3
  a3 := Tryz.isAgg3
  z3 := Tryz.sizeOf3
  v3 := Tryz.zeroValue3
  t4 := Tryz.underlying4
  a4 := Tryz.isAgg4
  z4 := Tryz.sizeOf4
  v4 := Tryz.zeroValue4
  t9 := Tryz.underlying9
  a9 := Tryz.isAgg9
  z9 := Tryz.sizeOf9
  v9 := Tryz.zeroValue9
  t31 := Tryz.underlying49
  a31 := Tryz.isAgg49
  z31 := Tryz.sizeOf49
  v31 := Tryz.zeroValue49
set_option maxHeartbeats 4000000 in
theorem nan_s (a : List UInt8) : HT Tryz.prog 96 [.string (St a)] [] (fun v K => v = .bool false ∧ K = []) := by
 refine hiS Tryz.func96 Tryz.ntmps96 fun g w0 R h0 => go [.s 1 2] <| lwP (.bool false) (law_neStr (t := 9) (x := (Operand.tmp 3)) (y := (Operand.tmp 4)) (a := a) (b := a) (by kernel_rfl) (by kernel_rfl) (by kernel_rfl) false (decide_eq_true rfl) _) <| go [] ?_
 exact en (.bool false) [] ⟨_, _, rfl, ⟨rfl, rfl⟩, h0⟩

set_option maxHeartbeats 4000000 in
theorem cmps_lt (a b_ : List UInt8) (h : Go.Sort.ltStr a b_ = true) : HT Tryz.prog 69 [.string (St a), .string (St b_)] [] (fun v K => v = iV (-1) ∧ K = []) := by
 refine hiS Tryz.func69 Tryz.ntmps69 fun g w0 R h0 => go [] <| cl0 Tryz.call96 (nan_s a) h0 fun _ h11 => go [] <| cl0 Tryz.call96 (nan_s b_) h11 fun _ h13 => go [.s 9 2] <| lwP (.bool true) (law_ltStr (t := 9) (x := (Operand.tmp 14)) (y := (Operand.tmp 15)) (a := a) (b := b_) (by kernel_rfl) (by kernel_rfl) (by kernel_rfl) true h _) <| go [] ?_
 exact en (iV (-1)) [] ⟨_, _, rfl, ⟨rfl, rfl⟩, h13⟩

set_option maxHeartbeats 4000000 in
theorem cmps_gt (a b_ : List UInt8) (hf_ : Go.Sort.ltStr a b_ = false) (h : Go.Sort.ltStr b_ a = true) : HT Tryz.prog 69 [.string (St a), .string (St b_)] [] (fun v K => v = iV (1) ∧ K = []) := by
 refine hiS Tryz.func69 Tryz.ntmps69 fun g w0 R h0 => go [] <| cl0 Tryz.call96 (nan_s a) h0 fun _ h11 => go [] <| cl0 Tryz.call96 (nan_s b_) h11 fun _ h13 => go [.s 9 2] <| lwP (.bool false) (law_ltStr (t := 9) (x := (Operand.tmp 14)) (y := (Operand.tmp 15)) (a := a) (b := b_) (by kernel_rfl) (by kernel_rfl) (by kernel_rfl) false hf_ _) <| go [.s 11 2] <| lwP (.bool true) (law_gtStr (t := 9) (x := (Operand.tmp 17)) (y := (Operand.tmp 18)) (a := a) (b := b_) (by kernel_rfl) (by kernel_rfl) (by kernel_rfl) true h _) <| go [] ?_
 exact en (iV 1) [] ⟨_, _, rfl, ⟨rfl, rfl⟩, h13⟩

set_option maxHeartbeats 4000000 in
theorem cmps_eq (a b_ : List UInt8) (hf_ : Go.Sort.ltStr a b_ = false) (h : Go.Sort.ltStr b_ a = false) : HT Tryz.prog 69 [.string (St a), .string (St b_)] [] (fun v K => v = iV (0) ∧ K = []) := by
 refine hiS Tryz.func69 Tryz.ntmps69 fun g w0 R h0 => go [] <| cl0 Tryz.call96 (nan_s a) h0 fun _ h11 => go [] <| cl0 Tryz.call96 (nan_s b_) h11 fun _ h13 => go [.s 9 2] <| lwP (.bool false) (law_ltStr (t := 9) (x := (Operand.tmp 14)) (y := (Operand.tmp 15)) (a := a) (b := b_) (by kernel_rfl) (by kernel_rfl) (by kernel_rfl) false hf_ _) <| go [.s 11 2] <| lwP (.bool false) (law_gtStr (t := 9) (x := (Operand.tmp 17)) (y := (Operand.tmp 18)) (a := a) (b := b_) (by kernel_rfl) (by kernel_rfl) (by kernel_rfl) false h _) <| go [] ?_
 exact en (iV 0) [] ⟨_, _, rfl, ⟨rfl, rfl⟩, h13⟩

theorem cmps_ht (a b_ : List UInt8) : HT Tryz.prog 69 [.string (St a), .string (St b_)] [] fun v K => v = .int .i64 (ordB a b_) ∧ K = [] := by
  unfold ordB
  cases h0 : Go.Sort.ltStr a b_ with
  | true => exact cmps_lt a b_ h0
  | false =>
    cases h : Go.Sort.ltStr b_ a with
    | true => exact cmps_gt a b_ h0 h
    | false => exact cmps_eq a b_ h0 h

set_option maxHeartbeats 4000000 in
theorem tag_long (a : List UInt8) (h : 96 < a.length) : HT Tryz.prog 32 [.string (St a)] [] (fun v K => v = iV (tagE a) ∧ K = []) := by
 refine hiS Tryz.func32 Tryz.ntmps32 fun g w0 R h0 => go [.v 1 1 (⟨iV ((St a).size : Int), iV (((a.length : Nat) : Int)), (ov_int (st_len _))⟩), .v 1 2 (oT (((a.length : Nat) : Int) > 96))] ?_
 exact en (iV 16) [] ⟨_, _, rfl, ⟨by unfold tagE; rw [if_pos h], rfl⟩, h0⟩

theorem tag_any (a : List UInt8) : HT Tryz.prog 32 [.string (St a)] [] fun v K => v = .int .i64 (tagE a) ∧ K = [] := by
  by_cases h : 96 < a.length
  · exact tag_long a h
  · exact tag_ht a (by omega)

set_option maxHeartbeats 4000000 in
theorem tord_ht (a b_ : List UInt8) : HT Tryz.prog 50 [.string (St a), .string (St b_)] [] (fun v K => v = iV (ordT a b_) ∧ K = []) := by
 refine hiS Tryz.func50 Tryz.ntmps50 fun g w0 R h0 => go [] <| cl0 Tryz.call32 (tag_any a) h0 fun _ h11 => go [] <| cl0 Tryz.call32 (tag_any b_) h11 fun _ h13 => go [.s 2 1] ?_
 by_cases c14 : (tagE a) = 0
 ·
  refine go [.v 2 1 (qeT ((tagE a)) 0), .s 2 4] ?_
  by_cases c15 : (tagE b_) = 0
  ·
   refine go [.v 2 4 (qeT ((tagE b_)) 0)] <| cl0 Tryz.call69 (cmps_ht a b_) h13 fun _ h17 => go [] ?_
   exact en (iV ((ordB a b_))) [] ⟨_, _, rfl, ⟨by unfold ordT; rw [if_pos ⟨by omega, by omega⟩], rfl⟩, h17⟩
  refine go [.v 2 4 (qeF ((tagE b_)) 0), .v 4 1 (qeT ((tagE a)) 0)] ?_
  exact en (iV 1) [] ⟨_, _, rfl, ⟨by unfold ordT; rw [if_neg (by omega), if_pos (by omega)], rfl⟩, h13⟩
 refine go [.v 2 1 (qeF ((tagE a)) 0), .v 4 1 (qeF ((tagE a)) 0), .s 6 1] ?_
 by_cases c18 : (tagE b_) = 0
 ·
  refine go [.v 6 1 (qeT ((tagE b_)) 0)] ?_
  exact en (iV (-1)) [] ⟨_, _, rfl, ⟨by unfold ordT; rw [if_neg (by omega), if_neg (by omega), if_pos (by omega)], rfl⟩, h13⟩
 refine go [.v 6 1 (qeF ((tagE b_)) 0)] ?_
 exact en (iV 0) [] ⟨_, _, rfl, ⟨by unfold ordT; rw [if_neg (by omega), if_neg (by omega), if_neg (by omega)], rfl⟩, h13⟩

set_option maxHeartbeats 4000000 in
theorem insw_z (p : Option Addr) (c : Nat) : HT Tryz.prog 88 [.slice p 0 c, iV 0, iV 0, .func (Fn.func 50) #[] #[]] [] (fun v K => v = .tuple #[] ∧ K = []) := by
 refine hiS Tryz.func88 Tryz.ntmps88 fun g w0 R h0 => go [] <| unS 1 <| go [] <| up <| go [] ?_
 exact en (.tuple #[]) [] ⟨_, _, rfl, ⟨rfl, rfl⟩, h0⟩

set_option maxHeartbeats 4000000 in
theorem pdqw_z (p : Option Addr) (c : Nat) : HT Tryz.prog 68 [.slice p 0 c, iV 0, iV 0, iV 0, .func (Fn.func 50) #[] #[]] [] (fun v K => v = .tuple #[] ∧ K = []) := by
 refine hiS Tryz.func68 Tryz.ntmps68 fun g w0 R h0 => go [] <| unS 1 <| go [] <| cl0 Tryz.call88 (insw_z p c) h0 fun _ h11 => go [] <| up <| go [] ?_
 exact en (.tuple #[]) [] ⟨_, _, rfl, ⟨rfl, rfl⟩, h11⟩

set_option maxHeartbeats 4000000 in
theorem sortw_z (p : Option Addr) (c : Nat) : HT Tryz.prog 49 [.slice p 0 c, .func (Fn.func 50) #[] #[]] [] (fun v K => v = .tuple #[] ∧ K = []) := by
 refine hiS Tryz.func49 Tryz.ntmps49 fun g w0 R h0 => go [.v 1 3 (oLr 0)] <| cl0 Tryz.call59 (len_z) h0 fun _ h11 => go [] <| cl0 Tryz.call68 (pdqw_z p c) h11 fun _ h13 => go [] ?_
 exact en (.tuple #[]) [] ⟨_, _, rfl, ⟨rfl, rfl⟩, h13⟩

theorem wsort_ht (p : Option Addr) (m c : Nat) (X : List (List UInt8)) (hm : m ≤ 1000000) : HT Tryz.prog 49 [.slice p m c, .func (.func 50) #[] #[]] [Sl 9 1 p m c (fl eW X)]
    (fun v K => ∃ M : List (List UInt8), (M.Perm X ∧ M.Pairwise fun a b => Go.Proofs.ltOf ordT b a = false) ∧ v = .tuple #[] ∧ K = [Sl 9 1 p m c (fl eW M)]) := by
  intro g w F hs
  rcases Nat.eq_zero_or_pos m with h0 | h0
  · subst h0
    have hl : X = [] := List.eq_nil_of_length_eq_zero (fl_n eW_ok (by decide) hs)
    subst hl
    refine (sortw_z p c g w _ hs).mono ?_
    rintro e w' ⟨v, K, rfl, ⟨rfl, rfl⟩, h2⟩
    exact ⟨_, _, rfl, ⟨[], ⟨List.Perm.refl _, List.Pairwise.nil⟩, rfl, rfl⟩, h2⟩
  · refine (sort_rowW sortLayW ordT swoT 50 Tryz.call50 hs h0 (by omega) ?_).mono ?_
    · intro W x y
      refine exact_of (W := W) (f := 50) (args := [.string (St x), .string (St y)]) fun g w F hs => (tord_ht x y g w (Old W :: F) hs).mono ?_
      rintro e w' ⟨v, K, rfl, ⟨rfl, rfl⟩, h2⟩
      exact ⟨_, _, rfl, ⟨rfl, rfl⟩, h2⟩
    · rintro e w' ⟨rfl, M, h1, h2, h3⟩
      exact ⟨_, _, rfl, ⟨M, ⟨h1, h2⟩, rfl, rfl⟩, h3⟩
theorem wcomp_ht (p : Option Addr) (m c : Nat) (X : List (List UInt8)) (hm : m ≤ 1000000) : HT Tryz.prog 51 [.slice p m c] [Sl 9 1 p m c (fl eW X)]
    (fun v K => v = .slice p (Go.Lib.compact X).length c ∧ K = [Sl 9 1 p (Go.Lib.compact X).length c (fl eW (Go.Lib.compact X))]) := by
  intro g w F hs
  refine (compact_rowW cpLay hs (by omega)).mono ?_
  rintro e w' ⟨rfl, h2⟩
  exact ⟨_, _, rfl, ⟨rfl, rfl⟩, h2⟩

theorem tgs_step {L : List Lk} {i : Nat} {x : Lk} (h : L[i]? = some x) : (L.take i).map (·.tag) ++ [x.tag] = (L.take (i + 1)).map (·.tag) := by
  rw [List.take_add_one, h, List.map_append]
  rfl

set_option maxHeartbeats 4000000 in
theorem rtags_ht (b : Nat) (S : Rp) : HT Tryz.prog 25 [pV b] [Rpt b S] (fun v K => ∃ (T : List (List UInt8)) (p : Option Addr) (c : Nat), Tg S T ∧ v = .slice p T.length c ∧ K = [Sl 9 1 p T.length c (fl eW T), Rpt b S]) := by
 refine hiS Tryz.func25 Tryz.ntmps25 fun g w0 R h0 => go [] <| cP Tryz.call16 (all_ht b S) h0 ?_
 rintro v K w13 (⟨p10, cap11, hl12, rfl, rfl⟩) h14
 have h15 := ap2 h14
 obtain ⟨hn16, hn17⟩ := sl_le h15
 refine go [] ?_
 have hW_ := rp_w (j := 1) h15 rfl
 have h18 : sat g w13 [Sl 9 1 none 0 0 (fl eW []), Sl 61 6 p10 (((lks S).length)) cap11 (fl eLk (lks S)), Rpt b S, R] := sl_nil 9 1 h15
 refine lpS (fun mz_ a w => ∃ i : Nat, ∃ p2 : Option Addr, ∃ c2 : Nat, ∃ lr : Fr, mz_ = (lks S).length - i ∧ (i ≤ (lks S).length) ∧ a = mk 23 (([(3, .slice p2 i c2), (7, .slice p10 (((lks S).length)) cap11), (8, iV ((((lks S).length : Nat) : Int))), (9, iV (i : Int))] : Fr) ++ lr) ∧ sat g w [Sl 9 1 p2 i c2 (fl eW (((lks S).take i).map (·.tag))), Sl 61 6 p10 (((lks S).length)) cap11 (fl eLk (lks S)), Rpt b S, R]) ((lks S).length - 0) ⟨0, none, 0, _, rfl, (Nat.zero_le _), (lvF [.k 3 (.slice none 0 0), .k 7 (.slice p10 (((lks S).length)) cap11), .k 8 (iV ((((lks S).length : Nat) : Int))), .o 9 (oJ .i64 0 (0 : Int))]), h18⟩ ?_
 rintro m20 a21 w22 ⟨i, p2, c2, lr19, rfl, hi_, rfl, h23⟩
 refine ga <| go [.s 3 0] ?_
 by_cases c24 : (i : Int) < (((lks S).length : Nat) : Int)
 ·
  obtain ⟨b25, hp26⟩ := sl_ptr0 (j := 1) h23 rfl (by omega)
  refine go [.v 3 0 (oT ((i : Int) < (((lks S).length : Nat) : Int))), .s 4 0] <| lwP (.pointer (some ⟨b25, i * 6, none⟩)) (law_indexSlP (x := (Operand.tmp 7)) (i := (Operand.tmp 9)) (p := p10) (b := b25) (off := 0) (z := (i : Int)) (len := (((lks S).length))) (cap := cap11) (by kernel_rfl) Tryz.underlying40 6 (by kernel_rfl) i (by kernel_rfl) hp26 (by kernel_rfl) (by omega) (by omega) (i * 6) (by omega) _) ?_
  obtain ⟨x27, hx28⟩ : ∃ x, (lks S)[i]? = some x := ⟨_, List.getElem?_eq_getElem (by omega)⟩
  refine go [.r 4 1 b25 (i * 6) [.string (St x27.tag), iV x27.out.1, iV x27.out.2.1, uV x27.out.2.2, iV x27.at_, iV x27.st] ⟨gv_cell (j := 1) h23 rfl (gv_sl _ _ _) hp26 (fl_get eLk_ok (j := 0) (v := .string (St x27.tag)) hx28 rfl) (i * 6) (by omega), gv_cell (j := 1) h23 rfl (gv_sl _ _ _) hp26 (fl_get eLk_ok (j := 1) (v := iV x27.out.1) hx28 rfl) (i * 6 + 1) (by omega), gv_cell (j := 1) h23 rfl (gv_sl _ _ _) hp26 (fl_get eLk_ok (j := 2) (v := iV x27.out.2.1) hx28 rfl) (i * 6 + 2) (by omega), gv_cell (j := 1) h23 rfl (gv_sl _ _ _) hp26 (fl_get eLk_ok (j := 3) (v := uV x27.out.2.2) hx28 rfl) (i * 6 + 3) (by omega), gv_cell (j := 1) h23 rfl (gv_sl _ _ _) hp26 (fl_get eLk_ok (j := 4) (v := iV x27.at_) hx28 rfl) (i * 6 + 4) (by omega), gv_cell (j := 1) h23 rfl (gv_sl _ _ _) hp26 (fl_get eLk_ok (j := 5) (v := iV x27.st) hx28 rfl) (i * 6 + 5) (by omega), trivial⟩] <| nP 61 [.string (St []), iV 0, iV 0, uV 0, iV 0, iV 0] h23 (fun r29 _ h31 => ?_)
  refine sP [(0, .string (St x27.tag)), (1, iV x27.out.1), (2, iV x27.out.2.1), (3, uV x27.out.2.2), (4, iV x27.at_), (5, iV x27.st)] [.string (St x27.tag), iV x27.out.1, iV x27.out.2.1, uV x27.out.2.2, iV x27.at_, iV x27.st] h31 fun _ h33 => go [rd 5 2 0 0 1 h33] <| nG (fun q_ => .slice (some ⟨q_, 0, none⟩) 1 1) 9 [.string (St x27.tag)] h33 (fun r34 _ h36 => ⟨kd [], ?_⟩)
  have h37 := tk6 (sf5 (sf4 (sf4 (sf5 (sf5 (sf5 h36))))))
  refine actG ?_
  refine an_append (d := 17) (sz := 1) (s := (Operand.tmp 13)) (x := (Operand.tmp 16)) (z := .string (St [])) (p := p2) (m := i) (c := c2) (k := 1) (c2 := 1) (a := ⟨r34, 0, none⟩) (by_ := 16) (by kernel_rfl) (by kernel_rfl) rfl Tryz.underlying49 (by kernel_rfl) rfl (by decide) (by kernel_rfl) (by kernel_rfl) h37 (fl eW [x27.tag]) rfl (fun j u hj => by rw [add_off]; exact sat_cell h37 1 rfl (by rw [Nat.zero_add]; exact hj)) (fl_one eW_ok _) (by omega) (by omega) (i + 1) (by omega) ?_
  intro p38 cap39 w40 h41
  have h42 : sat g w40 [Sl 9 1 p38 (i + 1) cap39 (fl eW ((((lks S).take i).map (·.tag)) ++ [x27.tag])), Cl r34 [.string (St x27.tag)] 9, Cl r29 [.string (St x27.tag), iV x27.out.1, iV x27.out.2.1, uV x27.out.2.2, iV x27.at_, iV x27.st] 61, Sl 61 6 p10 (((lks S).length)) cap11 (fl eLk (lks S)), Rpt b S, R] := sat_imp h41 (fun _ hh => by rw [fl_app]; exact hh)
  obtain ⟨hn43, hn44⟩ := sl_le h42
  refine nxA <| go [.v 6 0 (oIr ((i : Int) + 1))] ?_
  refine enL ?_
  have h45 : sat g w40 [Sl 9 1 p38 (i + 1) cap39 (fl eW (((lks S).take (i + 1)).map (·.tag))), Cl r34 [.string (St x27.tag)] 9, Cl r29 [.string (St x27.tag), iV x27.out.1, iV x27.out.2.1, uV x27.out.2.2, iV x27.at_, iV x27.st] 61, Sl 61 6 p10 (((lks S).length)) cap11 (fl eLk (lks S)), Rpt b S, R] := tgs_step hx28 ▸ h42
  have h47 := tk4 (tk6 (sf5 (sf5 (sf5 (sf5 (sf2 (sf2 h45)))))))
  change ∃ n', n' < _ ∧ _
  refine ⟨((lks S).length - (i + 1)), by omega, (i + 1), p38, cap39, _, rfl, (by omega), (lvF [.k 3 (.slice p38 (i + 1) cap39), .k 7 (.slice p10 (((lks S).length)) cap11), .k 8 (iV ((((lks S).length : Nat) : Int))), .o 9 (oJ .i64 ((i : Int) + 1) ((((i + 1) : Nat) : Int)))]), h47⟩
 refine go [.v 3 0 (oF ((i : Int) < (((lks S).length : Nat) : Int)))] <| up <| go [] <| cP Tryz.call49 (wsort_ht p2 i c2 (((lks S).take i).map (·.tag)) (by omega)) h23 ?_
 rintro v K _ (⟨M48, ⟨hp49, hs50⟩, rfl, rfl⟩) h52
 have h53 := ap1 h52
 refine go [] <| cl1 Tryz.call51 (wcomp_ht p2 i c2 M48 (by omega)) h53 fun _ h55 => go [] ?_
 exact en (.slice p2 (((Go.Lib.compact M48).length)) c2) [] ⟨_, _, rfl, ⟨(Go.Lib.compact M48), p2, c2, tg_of hW_ (by have h_ := hp49; rw [List.take_of_length_le (by omega)] at h_; exact h_) hs50, rfl, rfl⟩, (tk3 (sf2 (sf2 (sf3 (tk4 (sf3 (sf3 (sf2 (sf3 h55)))))))))⟩

end Go.Proofs.YtfoliffeieeihaaGreatDoor

/- Walks, printed by my generator l12.py. -/
namespace Go.Proofs.YtfoliffeieeihaaGreatDoor
theorem seq61_neq_t {n : Nat} {l : Fr} {o : Oper} {x y : Operand} (a0 : List UInt8) (a1 : Int) (a2 : Int) (a3 : Int) (a4 : Int) (a5 : Int) (c0 : List UInt8) (c1 : Int) (c2 : Int) (c3 : Int) (c4 : Int) (c5 : Int) (ho : o.op = .binOp .neq 61 x y 61) (hx : fe n l x = .agg #[.string (St a0), .int .i64 a1, .int .i64 a2, .int .u32 a3, .int .i64 a4, .int .i64 a5]) (hy : fe n l y = .agg #[.string (St c0), .int .i64 c1, .int .i64 c2, .int .u32 c3, .int .i64 c4, .int .i64 c5]) (h : a0 = c0 ∧ a1 = c1 ∧ a2 = c2 ∧ a3 = c3 ∧ a4 = c4 ∧ a5 = c5) (w : World) : (execOp (fe n l) o).run Tryz.prog w = .ok (.value (.bool false)) w := by
  obtain ⟨rfl, rfl, rfl, rfl, rfl, rfl⟩ := h
  simp [execOp, ho, hx, hy, go_sem]
set_option maxHeartbeats 4000000 in
theorem file_ht (n_ g_ : Int) : HT Tryz.prog 29 [iV n_, uV g_] [] (fun v K => v = .agg #[iV 1, iV n_, uV g_] ∧ K = []) := by
 refine hiS Tryz.func29 Tryz.ntmps29 fun g w0 R h0 => go [] <| nP 31 [iV 0, iV 0, uV 0] h0 (fun _ _ h12 => ?_)
 refine go [] <| sP [(0, iV 1), (1, iV n_), (2, uV g_)] [iV 1, iV n_, uV g_] h12 fun _ h14 => go [] ?_
 exact en (.agg #[iV 1, iV n_, uV g_]) [rd 0 0 0 0 3 h14] ⟨_, _, rfl, ⟨rfl, rfl⟩, (tk1 (sf1 h14))⟩

theorem dg1 (z : Nat) (h : z < 10) : dgs (z : Int) = [UInt8.ofNat (48 + z)] := Lib.decDigits_one h
theorem wtx : txV (⟨[((1, 0, 1), [109, 97, 105, 110]), ((2, 0, 1), [120, 32, 121])], [⟨5, (1, 0, 1), 3, 2⟩, ⟨6, (2, 0, 1), 1, 2⟩, ⟨7, (2, 0, 1), 3, 1⟩, ⟨9, (1, 0, 1), 1, 1⟩]⟩ : Rp) = [34, 109, 97, 105, 110, 34, 32, 102, 48, 58, 49, 32, 53, 32, 114, 101, 108, 101, 97, 115, 101, 100, 10] ∧ txE (⟨[((1, 0, 1), [109, 97, 105, 110]), ((2, 0, 1), [120, 32, 121])], [⟨5, (1, 0, 1), 3, 2⟩, ⟨6, (2, 0, 1), 1, 2⟩, ⟨7, (2, 0, 1), 3, 1⟩, ⟨9, (1, 0, 1), 1, 1⟩]⟩ : Rp) = 0 := by
  have hl : lks (⟨[((1, 0, 1), [109, 97, 105, 110]), ((2, 0, 1), [120, 32, 121])], [⟨5, (1, 0, 1), 3, 2⟩, ⟨6, (2, 0, 1), 1, 2⟩, ⟨7, (2, 0, 1), 3, 1⟩, ⟨9, (1, 0, 1), 1, 1⟩]⟩ : Rp) = [⟨[109, 97, 105, 110], (1, 0, 1), 5, 3⟩] := by kernel_rfl
  have d0 : dgs 0 = [48] := dg1 0 (by decide)
  have d1 : dgs 1 = [49] := dg1 1 (by decide)
  have d5 : dgs 5 = [53] := dg1 5 (by decide)
  have ht : txL (lks (⟨[((1, 0, 1), [109, 97, 105, 110]), ((2, 0, 1), [120, 32, 121])], [⟨5, (1, 0, 1), 3, 2⟩, ⟨6, (2, 0, 1), 1, 2⟩, ⟨7, (2, 0, 1), 3, 1⟩, ⟨9, (1, 0, 1), 1, 1⟩]⟩ : Rp)) = [34, 109, 97, 105, 110, 34, 32, 102, 48, 58, 49, 32, 53, 32, 114, 101, 108, 101, 97, 115, 101, 100, 10] := by
    rw [hl]
    show (qtL [109, 97, 105, 110] ++ [32] ++ ([letO 1] ++ dgs 0 ++ [58] ++ dgs 1) ++ [32] ++ dgs 5 ++ [32] ++ wdL 3 ++ [10]) ++ [] = _
    rw [d0, d1, d5]
    kernel_rfl
  unfold txV txE
  rw [ht]
  exact ⟨rfl, rfl⟩
theorem tg_one {S : Rp} {x : Lk} {T : List (List UInt8)} (h : lks S = [x]) (hT : Tg S T) : T = [x.tag] := by
  have hm : ∀ t, t ∈ T ↔ t = x.tag := fun t => by
    rw [hT.mem, h]
    constructor
    · rintro ⟨y, hy, rfl⟩
      rw [List.mem_singleton.1 hy]
    · intro e
      exact ⟨x, by simp, e.symm⟩
  match T, hm, hT.so with
  | [], hm, _ => exact absurd ((hm x.tag).2 rfl) (by simp)
  | [a], hm, _ => rw [(hm a).1 (by simp)]
  | a :: b :: T, hm, hs =>
    have e1 := (hm a).1 (by simp)
    have e2 := (hm b).1 (by simp)
    rw [List.pairwise_cons] at hs
    have := hs.1 b (by simp)
    rw [e1, e2] at this
    exact absurd this (List.lt_irrefl _)
theorem all_eq (b : Nat) (S : Rp) (L : List Lk) (n : Nat) (h : lks S = L) (hn : L.length = n) : HT Tryz.prog 16 [pV b] [Rpt b S] fun v K => ∃ (p : Option Addr) (c : Nat), n ≤ 2000 ∧ v = .slice p n c ∧ K = [Sl 61 6 p n c (fl eLk L), Rpt b S] := by
  subst hn
  subst h
  exact all_ht b S
theorem tags_one (b : Nat) (S : Rp) (x : Lk) (t : List UInt8) (h : lks S = [x]) (ht : x.tag = t) : HT Tryz.prog 25 [pV b] [Rpt b S] fun v K => ∃ (p : Option Addr) (c : Nat), v = .slice p 1 c ∧ K = [Sl 9 1 p 1 c (fl eW [t]), Rpt b S] := by
  subst ht
  intro g w F hs
  refine (rtags_ht b S g w F hs).mono ?_
  rintro e w' ⟨v, K, rfl, ⟨T, p, c, hT, rfl, rfl⟩, h2⟩
  obtain rfl := tg_one h hT
  exact ⟨_, _, rfl, ⟨p, c, rfl, rfl⟩, h2⟩

set_option maxHeartbeats 4000000 in
theorem works_ht (wo : World) (hg : Ld Tryz.prog 0 wo) : HT Tryz.prog 6 [] [Old wo] (fun v K => v = .bool true ∧ K = [Old wo]) := by
 refine hiS Tryz.func6 Tryz.ntmps6 fun g w0 R h0 => go [] <| cP Tryz.call7 (rnew0_ht) h0 ?_
 rintro v K _ (⟨b10, rfl, rfl⟩) h12
 have h13 := ap1 h12
 refine go [] <| nP 31 [iV 0, iV 0, uV 0] h13 (fun _ _ h16 => ?_)
 refine sP [(0, iV 2), (1, iV 0), (2, uV 1)] [iV 2, iV 0, uV 1] h16 fun _ h18 => go [] <| cl0 Tryz.call29 (file_ht 0 1) h18 fun _ h20 => cl1 Tryz.call9 ((by have h_ := ropen_ht b10 (⟨[], []⟩ : Rp) 1 0 1 ([109, 97, 105, 110] : List UInt8) (by decide) (by decide) (by decide); rw [show opdE (⟨[], []⟩ : Rp) ((1, 0, 1) : Ky) ([109, 97, 105, 110] : List UInt8) = 0 from by decide +kernel, show opdS (⟨[], []⟩ : Rp) ((1, 0, 1) : Ky) ([109, 97, 105, 110] : List UInt8) = (⟨[((1, 0, 1), [109, 97, 105, 110])], []⟩ : Rp) from by kernel_rfl] at h_; exact h_)) (tk4 (sf3 (sf2 (sf3 (sf3 h20))))) fun _ h23 => ?_
 refine go [rd 3 6 1 0 3 h23] <| cl1 Tryz.call9 ((by have h_ := ropen_ht b10 (⟨[((1, 0, 1), [109, 97, 105, 110])], []⟩ : Rp) 2 0 1 ([120, 32, 121] : List UInt8) (by decide) (by decide) (by decide); rw [show opdE (⟨[((1, 0, 1), [109, 97, 105, 110])], []⟩ : Rp) ((2, 0, 1) : Ky) ([120, 32, 121] : List UInt8) = 0 from by decide +kernel, show opdS (⟨[((1, 0, 1), [109, 97, 105, 110])], []⟩ : Rp) ((2, 0, 1) : Ky) ([120, 32, 121] : List UInt8) = (⟨[((1, 0, 1), [109, 97, 105, 110]), ((2, 0, 1), [120, 32, 121])], []⟩ : Rp) from by kernel_rfl] at h_; exact h_)) h23 fun _ h25 => ?_
 refine go [rd 3 12 1 0 3 h25] <| cl1 Tryz.call9 ((by have h_ := ropen_ht b10 (⟨[((1, 0, 1), [109, 97, 105, 110]), ((2, 0, 1), [120, 32, 121])], []⟩ : Rp) 2 0 1 ([120] : List UInt8) (by decide) (by decide) (by decide); rw [show opdE (⟨[((1, 0, 1), [109, 97, 105, 110]), ((2, 0, 1), [120, 32, 121])], []⟩ : Rp) ((2, 0, 1) : Ky) ([120] : List UInt8) = 6 from by decide +kernel, show opdS (⟨[((1, 0, 1), [109, 97, 105, 110]), ((2, 0, 1), [120, 32, 121])], []⟩ : Rp) ((2, 0, 1) : Ky) ([120] : List UInt8) = (⟨[((1, 0, 1), [109, 97, 105, 110]), ((2, 0, 1), [120, 32, 121])], []⟩ : Rp) from by kernel_rfl] at h_; exact h_)) h25 fun _ h27 => ?_
 refine go [] <| cl0 Tryz.call29 (file_ht 0 1) h27 fun _ h29 => go [] <| cl1 Tryz.call11 ((by have h_ := rtry_ht b10 (⟨[((1, 0, 1), [109, 97, 105, 110]), ((2, 0, 1), [120, 32, 121])], []⟩ : Rp) 5 1 0 1 3 2 (by decide) (by decide) (by decide); rw [show trE (⟨[((1, 0, 1), [109, 97, 105, 110]), ((2, 0, 1), [120, 32, 121])], []⟩ : Rp) (⟨5, (1, 0, 1), 3, 2⟩ : At) = 0 from by decide +kernel, show trS (⟨[((1, 0, 1), [109, 97, 105, 110]), ((2, 0, 1), [120, 32, 121])], []⟩ : Rp) (⟨5, (1, 0, 1), 3, 2⟩ : At) = (⟨[((1, 0, 1), [109, 97, 105, 110]), ((2, 0, 1), [120, 32, 121])], [⟨5, (1, 0, 1), 3, 2⟩]⟩ : Rp) from by kernel_rfl] at h_; exact h_)) h29 fun _ h31 => ?_
 refine go [rd 6 1 1 0 3 h31] <| cl1 Tryz.call11 ((by have h_ := rtry_ht b10 (⟨[((1, 0, 1), [109, 97, 105, 110]), ((2, 0, 1), [120, 32, 121])], [⟨5, (1, 0, 1), 3, 2⟩]⟩ : Rp) 6 2 0 1 1 2 (by decide) (by decide) (by decide); rw [show trE (⟨[((1, 0, 1), [109, 97, 105, 110]), ((2, 0, 1), [120, 32, 121])], [⟨5, (1, 0, 1), 3, 2⟩]⟩ : Rp) (⟨6, (2, 0, 1), 1, 2⟩ : At) = 0 from by decide +kernel, show trS (⟨[((1, 0, 1), [109, 97, 105, 110]), ((2, 0, 1), [120, 32, 121])], [⟨5, (1, 0, 1), 3, 2⟩]⟩ : Rp) (⟨6, (2, 0, 1), 1, 2⟩ : At) = (⟨[((1, 0, 1), [109, 97, 105, 110]), ((2, 0, 1), [120, 32, 121])], [⟨5, (1, 0, 1), 3, 2⟩, ⟨6, (2, 0, 1), 1, 2⟩]⟩ : Rp) from by kernel_rfl] at h_; exact h_)) h31 fun _ h33 => ?_
 refine go [rd 7 1 1 0 3 h33] <| cl1 Tryz.call11 ((by have h_ := rtry_ht b10 (⟨[((1, 0, 1), [109, 97, 105, 110]), ((2, 0, 1), [120, 32, 121])], [⟨5, (1, 0, 1), 3, 2⟩, ⟨6, (2, 0, 1), 1, 2⟩]⟩ : Rp) 7 2 0 1 3 1 (by decide) (by decide) (by decide); rw [show trE (⟨[((1, 0, 1), [109, 97, 105, 110]), ((2, 0, 1), [120, 32, 121])], [⟨5, (1, 0, 1), 3, 2⟩, ⟨6, (2, 0, 1), 1, 2⟩]⟩ : Rp) (⟨7, (2, 0, 1), 3, 1⟩ : At) = 0 from by decide +kernel, show trS (⟨[((1, 0, 1), [109, 97, 105, 110]), ((2, 0, 1), [120, 32, 121])], [⟨5, (1, 0, 1), 3, 2⟩, ⟨6, (2, 0, 1), 1, 2⟩]⟩ : Rp) (⟨7, (2, 0, 1), 3, 1⟩ : At) = (⟨[((1, 0, 1), [109, 97, 105, 110]), ((2, 0, 1), [120, 32, 121])], [⟨5, (1, 0, 1), 3, 2⟩, ⟨6, (2, 0, 1), 1, 2⟩, ⟨7, (2, 0, 1), 3, 1⟩]⟩ : Rp) from by kernel_rfl] at h_; exact h_)) h33 fun _ h35 => ?_
 refine go [] <| cP Tryz.call16 (all_eq b10 (⟨[((1, 0, 1), [109, 97, 105, 110]), ((2, 0, 1), [120, 32, 121])], [⟨5, (1, 0, 1), 3, 2⟩, ⟨6, (2, 0, 1), 1, 2⟩, ⟨7, (2, 0, 1), 3, 1⟩]⟩ : Rp) [⟨[109, 97, 105, 110], (1, 0, 1), 5, 2⟩] 1 (by kernel_rfl) rfl) h35 ?_
 rintro v K _ (⟨p36, cap37, hl38, rfl, rfl⟩) h40
 have h41 := ap2 h40
 obtain ⟨hn42, hn43⟩ := sl_le h41
 refine go [] <| dw (fls [0, 1, 2, 3, 4, 5, 6, 7, 8, 9, 10, 11, 12, 13, 14, 15, 16, 17, 18] (Tr.an 19 (fls [20, 21, 22] Tr.nil))) h41 fun _ h45 => ?_
 obtain ⟨b46, hp47⟩ := sl_ptr0 (j := 0) h45 rfl (by omega)
 refine go [.v 9 12 (oJ .i64 (1 : Int) 1), .s 9 17] <| lw (pV b46) (fun _ => law_indexSlP (x := (Operand.tmp 59)) (i := (Operand.const (iV 0))) (p := p36) (b := b46) (off := 0) (z := 0) (len := 1) (cap := cap37) (by kernel_rfl) Tryz.underlying40 6 (by kernel_rfl) 0 (by kernel_rfl) hp47 (by kernel_rfl) (by omega) (by omega) 0 (by omega) _) <| go [.r 9 18 b46 0 [.string (St [109, 97, 105, 110]), iV 1, iV 0, uV 1, iV 5, iV 2] ⟨gv_cell (j := 0) h45 rfl (gv_sl _ _ _) hp47 (fl_get eLk_ok (j := 0) (v := .string (St [109, 97, 105, 110])) (show ([⟨[109, 97, 105, 110], (1, 0, 1), 5, 2⟩] : List Lk)[0]? = some (⟨[109, 97, 105, 110], (1, 0, 1), 5, 2⟩ : Lk) from rfl) rfl) 0 (by omega), gv_cell (j := 0) h45 rfl (gv_sl _ _ _) hp47 (fl_get eLk_ok (j := 1) (v := iV 1) (show ([⟨[109, 97, 105, 110], (1, 0, 1), 5, 2⟩] : List Lk)[0]? = some (⟨[109, 97, 105, 110], (1, 0, 1), 5, 2⟩ : Lk) from rfl) rfl) 1 (by omega), gv_cell (j := 0) h45 rfl (gv_sl _ _ _) hp47 (fl_get eLk_ok (j := 2) (v := iV 0) (show ([⟨[109, 97, 105, 110], (1, 0, 1), 5, 2⟩] : List Lk)[0]? = some (⟨[109, 97, 105, 110], (1, 0, 1), 5, 2⟩ : Lk) from rfl) rfl) 2 (by omega), gv_cell (j := 0) h45 rfl (gv_sl _ _ _) hp47 (fl_get eLk_ok (j := 3) (v := uV 1) (show ([⟨[109, 97, 105, 110], (1, 0, 1), 5, 2⟩] : List Lk)[0]? = some (⟨[109, 97, 105, 110], (1, 0, 1), 5, 2⟩ : Lk) from rfl) rfl) 3 (by omega), gv_cell (j := 0) h45 rfl (gv_sl _ _ _) hp47 (fl_get eLk_ok (j := 4) (v := iV 5) (show ([⟨[109, 97, 105, 110], (1, 0, 1), 5, 2⟩] : List Lk)[0]? = some (⟨[109, 97, 105, 110], (1, 0, 1), 5, 2⟩ : Lk) from rfl) rfl) 4 (by omega), gv_cell (j := 0) h45 rfl (gv_sl _ _ _) hp47 (fl_get eLk_ok (j := 5) (v := iV 2) (show ([⟨[109, 97, 105, 110], (1, 0, 1), 5, 2⟩] : List Lk)[0]? = some (⟨[109, 97, 105, 110], (1, 0, 1), 5, 2⟩ : Lk) from rfl) rfl) 5 (by omega), trivial⟩] <| cw0 Tryz.call29 (file_ht 0 1) h45 fun _ h49 => ⟨kd [.r 0 18 b46 0 [.string (St [109, 97, 105, 110]), iV 1, iV 0, uV 1, iV 5, iV 2] ⟨gv_cell (j := 0) h49 rfl (gv_sl _ _ _) hp47 (fl_get eLk_ok (j := 0) (v := .string (St [109, 97, 105, 110])) (show ([⟨[109, 97, 105, 110], (1, 0, 1), 5, 2⟩] : List Lk)[0]? = some (⟨[109, 97, 105, 110], (1, 0, 1), 5, 2⟩ : Lk) from rfl) rfl) 0 (by omega), gv_cell (j := 0) h49 rfl (gv_sl _ _ _) hp47 (fl_get eLk_ok (j := 1) (v := iV 1) (show ([⟨[109, 97, 105, 110], (1, 0, 1), 5, 2⟩] : List Lk)[0]? = some (⟨[109, 97, 105, 110], (1, 0, 1), 5, 2⟩ : Lk) from rfl) rfl) 1 (by omega), gv_cell (j := 0) h49 rfl (gv_sl _ _ _) hp47 (fl_get eLk_ok (j := 2) (v := iV 0) (show ([⟨[109, 97, 105, 110], (1, 0, 1), 5, 2⟩] : List Lk)[0]? = some (⟨[109, 97, 105, 110], (1, 0, 1), 5, 2⟩ : Lk) from rfl) rfl) 2 (by omega), gv_cell (j := 0) h49 rfl (gv_sl _ _ _) hp47 (fl_get eLk_ok (j := 3) (v := uV 1) (show ([⟨[109, 97, 105, 110], (1, 0, 1), 5, 2⟩] : List Lk)[0]? = some (⟨[109, 97, 105, 110], (1, 0, 1), 5, 2⟩ : Lk) from rfl) rfl) 3 (by omega), gv_cell (j := 0) h49 rfl (gv_sl _ _ _) hp47 (fl_get eLk_ok (j := 4) (v := iV 5) (show ([⟨[109, 97, 105, 110], (1, 0, 1), 5, 2⟩] : List Lk)[0]? = some (⟨[109, 97, 105, 110], (1, 0, 1), 5, 2⟩ : Lk) from rfl) rfl) 4 (by omega), gv_cell (j := 0) h49 rfl (gv_sl _ _ _) hp47 (fl_get eLk_ok (j := 5) (v := iV 2) (show ([⟨[109, 97, 105, 110], (1, 0, 1), 5, 2⟩] : List Lk)[0]? = some (⟨[109, 97, 105, 110], (1, 0, 1), 5, 2⟩ : Lk) from rfl) rfl) 5 (by omega), trivial⟩], ?_⟩
 refine go [.s 9 21] <| lw (.bool false) (fun _ => seq61_neq_t (x := (Operand.tmp 61)) (y := (Operand.tmp 63)) [109, 97, 105, 110] 1 0 1 5 2 [109, 97, 105, 110] 1 0 1 5 2 (by kernel_rfl) (by kernel_rfl) (by kernel_rfl) ⟨rfl, rfl, rfl, rfl, rfl, rfl⟩ _) <| go [] <| cl0 Tryz.call29 (file_ht 0 1) h49 fun _ h51 => go [] <| nP 33 [iV 0, iV 0, iV 0, uV 0, iV 0, iV 0] h51 (fun _ _ h54 => ?_)
 refine sP [(0, iV 9), (1, iV 1), (2, iV 0), (3, uV 1), (4, iV 1), (5, iV 1)] [iV 9, iV 1, iV 0, uV 1, iV 1, iV 1] h54 fun _ h56 => ?_
 have h57 := tk6 (sf5 (sf4 (sf4 (sf5 (sf5 (sf5 h56))))))
 refine go [rd 12 1 0 0 6 h56] <| cl1 Tryz.call11 ((by have h_ := rtry_ht b10 (⟨[((1, 0, 1), [109, 97, 105, 110]), ((2, 0, 1), [120, 32, 121])], [⟨5, (1, 0, 1), 3, 2⟩, ⟨6, (2, 0, 1), 1, 2⟩, ⟨7, (2, 0, 1), 3, 1⟩]⟩ : Rp) 9 1 0 1 1 1 (by decide) (by decide) (by decide); rw [show trE (⟨[((1, 0, 1), [109, 97, 105, 110]), ((2, 0, 1), [120, 32, 121])], [⟨5, (1, 0, 1), 3, 2⟩, ⟨6, (2, 0, 1), 1, 2⟩, ⟨7, (2, 0, 1), 3, 1⟩]⟩ : Rp) (⟨9, (1, 0, 1), 1, 1⟩ : At) = 0 from by decide +kernel, show trS (⟨[((1, 0, 1), [109, 97, 105, 110]), ((2, 0, 1), [120, 32, 121])], [⟨5, (1, 0, 1), 3, 2⟩, ⟨6, (2, 0, 1), 1, 2⟩, ⟨7, (2, 0, 1), 3, 1⟩]⟩ : Rp) (⟨9, (1, 0, 1), 1, 1⟩ : At) = (⟨[((1, 0, 1), [109, 97, 105, 110]), ((2, 0, 1), [120, 32, 121])], [⟨5, (1, 0, 1), 3, 2⟩, ⟨6, (2, 0, 1), 1, 2⟩, ⟨7, (2, 0, 1), 3, 1⟩, ⟨9, (1, 0, 1), 1, 1⟩]⟩ : Rp) from by kernel_rfl] at h_; exact h_)) h57 fun _ h59 => ?_
 have h60 := tk6 (sf5 (sf5 (sf4 (sf4 (sf4 (sf5 h59))))))
 refine go [] <| cl2 Tryz.call22 ((by have h_ := rtext_ht b10 (⟨[((1, 0, 1), [109, 97, 105, 110]), ((2, 0, 1), [120, 32, 121])], [⟨5, (1, 0, 1), 3, 2⟩, ⟨6, (2, 0, 1), 1, 2⟩, ⟨7, (2, 0, 1), 3, 1⟩, ⟨9, (1, 0, 1), 1, 1⟩]⟩ : Rp) wo hg; rw [wtx.1, wtx.2] at h_; exact h_)) h60 fun _ h62 => ?_
 refine go [.s 14 8] <| lwP (.bool true) (law_eqStr (t := 9) (x := (Operand.tmp 83)) (y := (Operand.const (.string (St [34, 109, 97, 105, 110, 34, 32, 102, 48, 58, 49, 32, 53, 32, 114, 101, 108, 101, 97, 115, 101, 100, 10])))) (a := [34, 109, 97, 105, 110, 34, 32, 102, 48, 58, 49, 32, 53, 32, 114, 101, 108, 101, 97, 115, 101, 100, 10]) (b := [34, 109, 97, 105, 110, 34, 32, 102, 48, 58, 49, 32, 53, 32, 114, 101, 108, 101, 97, 115, 101, 100, 10]) (by kernel_rfl) (by kernel_rfl) (by kernel_rfl) true (decide_eq_true rfl) _) <| go [rd 14 12 2 0 6 h62] <| cl1 Tryz.call11 ((by have h_ := rtry_ht b10 (⟨[((1, 0, 1), [109, 97, 105, 110]), ((2, 0, 1), [120, 32, 121])], [⟨5, (1, 0, 1), 3, 2⟩, ⟨6, (2, 0, 1), 1, 2⟩, ⟨7, (2, 0, 1), 3, 1⟩, ⟨9, (1, 0, 1), 1, 1⟩]⟩ : Rp) 9 1 0 1 1 1 (by decide) (by decide) (by decide); rw [show trE (⟨[((1, 0, 1), [109, 97, 105, 110]), ((2, 0, 1), [120, 32, 121])], [⟨5, (1, 0, 1), 3, 2⟩, ⟨6, (2, 0, 1), 1, 2⟩, ⟨7, (2, 0, 1), 3, 1⟩, ⟨9, (1, 0, 1), 1, 1⟩]⟩ : Rp) (⟨9, (1, 0, 1), 1, 1⟩ : At) = 8 from by decide +kernel, show trS (⟨[((1, 0, 1), [109, 97, 105, 110]), ((2, 0, 1), [120, 32, 121])], [⟨5, (1, 0, 1), 3, 2⟩, ⟨6, (2, 0, 1), 1, 2⟩, ⟨7, (2, 0, 1), 3, 1⟩, ⟨9, (1, 0, 1), 1, 1⟩]⟩ : Rp) (⟨9, (1, 0, 1), 1, 1⟩ : At) = (⟨[((1, 0, 1), [109, 97, 105, 110]), ((2, 0, 1), [120, 32, 121])], [⟨5, (1, 0, 1), 3, 2⟩, ⟨6, (2, 0, 1), 1, 2⟩, ⟨7, (2, 0, 1), 3, 1⟩, ⟨9, (1, 0, 1), 1, 1⟩]⟩ : Rp) from by kernel_rfl] at h_; exact h_)) h62 fun _ h64 => ?_
 refine go [] <| cl1 Tryz.call20 ((by have h_ := rcnt_ht b10 (⟨[((1, 0, 1), [109, 97, 105, 110]), ((2, 0, 1), [120, 32, 121])], [⟨5, (1, 0, 1), 3, 2⟩, ⟨6, (2, 0, 1), 1, 2⟩, ⟨7, (2, 0, 1), 3, 1⟩, ⟨9, (1, 0, 1), 1, 1⟩]⟩ : Rp) [109, 97, 105, 110]; rw [show cntL (lks (⟨[((1, 0, 1), [109, 97, 105, 110]), ((2, 0, 1), [120, 32, 121])], [⟨5, (1, 0, 1), 3, 2⟩, ⟨6, (2, 0, 1), 1, 2⟩, ⟨7, (2, 0, 1), 3, 1⟩, ⟨9, (1, 0, 1), 1, 1⟩]⟩ : Rp)) [109, 97, 105, 110] = 1 from by decide +kernel] at h_; exact h_)) h64 fun _ h66 => ?_
 refine go [] <| cP Tryz.call25 (tags_one b10 (⟨[((1, 0, 1), [109, 97, 105, 110]), ((2, 0, 1), [120, 32, 121])], [⟨5, (1, 0, 1), 3, 2⟩, ⟨6, (2, 0, 1), 1, 2⟩, ⟨7, (2, 0, 1), 3, 1⟩, ⟨9, (1, 0, 1), 1, 1⟩]⟩ : Rp) ⟨[109, 97, 105, 110], (1, 0, 1), 5, 3⟩ [109, 97, 105, 110] (by kernel_rfl) rfl) h66 ?_
 rintro v K _ (⟨p67, cap68, rfl, rfl⟩) h70
 have h71 := ap2 h70
 obtain ⟨hn72, hn73⟩ := sl_le h71
 refine go [.v 14 24 (oJ .i64 (1 : Int) 1)] ?_
 exact en (.bool true) [] ⟨_, _, rfl, ⟨rfl, rfl⟩, (tk2 (sf1 (sf6 (tk7 (sf6 (sf5 (sf5 (sf6 (sf6 (sf6 (sf6 h71)))))))))))⟩

end Go.Proofs.YtfoliffeieeihaaGreatDoor
