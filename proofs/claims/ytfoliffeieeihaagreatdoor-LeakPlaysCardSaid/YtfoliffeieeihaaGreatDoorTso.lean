/-
  Rows of strings: sorted, and without equal neighbours: the shelf's contracts as mine. Strings compared. No program in sight.
-/
import Derived.Test.YtfoliffeieeihaaGreatDoorIta
import Derived.Shelf.SlSortCmp.Whole1
import Derived.Shelf.Slices.CompactS
import Derived.Sort.LotA
import Derived.Lib.RowBridge
import Derived.Laws.Cover1
namespace Go.Proofs.YtfoliffeieeihaaGreatDoor
open Go.Shelf Go.RowKit Go.Lib Go.Sort
section
variable {P : Program} {n : Nat} {l : Fr} {o : Oper}
theorem less_ltStr : ∀ (x y : List UInt8), Op.bytesLess x y = ltStr x y
  | [], [] => by simp [Op.bytesLess, ltStr]
  | _ :: _, [] => by simp [Op.bytesLess, ltStr]
  | [], _ :: _ => by simp [Op.bytesLess, ltStr]
  | a :: x, b :: y => by
    rw [Op.bytesLess, less_ltStr x y]
    unfold ltStr
    simp only [List.cons_lt_cons_iff]
    by_cases h1 : a < b <;> by_cases h2 : a = b <;> by_cases h3 : x < y <;> simp [h1, h2, h3]
theorem law_ltStr {t : Nat} {x y : Operand} {a b : List UInt8} (ho : o.op = .binOp .lss t x y t) (hx : fe n l x = .string (St a)) (hy : fe n l y = .string (St b)) (r : Bool) (h : ltStr a b = r) (w : World) :
    (execOp (fe n l) o).run P w = .ok (.value (.bool r)) w := by
  subst h
  rw [← less_ltStr]
  simp [execOp, ho, hx, hy, go_sem]
theorem gt_str (a b : List UInt8) : (!(ltStr a b || a == b)) = ltStr b a := by
  unfold ltStr
  by_cases h1 : a < b
  · have h2 : ¬ b < a := fun h => List.lt_irrefl a (List.lt_trans h1 h)
    simp [h1, h2]
  · by_cases h2 : a = b
    · subst h2
      simp [h1]
    · have h3 : b < a := by
        apply Classical.byContradiction
        intro h3
        exact h2 (List.le_antisymm (List.not_lt.1 h3) (List.not_lt.1 h1))
      simp [h1, h2, h3]
theorem law_gtStr {t : Nat} {x y : Operand} {a b : List UInt8} (ho : o.op = .binOp .gtr t x y t) (hx : fe n l x = .string (St a)) (hy : fe n l y = .string (St b)) (r : Bool) (h : ltStr b a = r) (w : World) :
    (execOp (fe n l) o).run P w = .ok (.value (.bool r)) w := by
  subst h
  rw [← gt_str, ← less_ltStr]
  simp [execOp, ho, hx, hy, go_sem, binOp_string_gtr]
end
/-- A string in a row. -/
def eW (x : List UInt8) : List Value := [.string (St x)]
theorem eW_ok : Enc 1 eW := ⟨fun _ => rfl, fun x v hv => by simp only [eW, List.mem_cons, List.not_mem_nil, or_false] at hv; subst hv; rfl⟩
theorem map_flW (l : List (List UInt8)) : l.map encStr = fl eW l := by
  induction l with
  | nil => rfl
  | cons b l ih => rw [List.map_cons, ih]; rfl
section
variable {P : Program} {ρ : Ren} {g w : World} {F : List Assn} {p : Option Addr} {m c T : Nat} {L : List (List UInt8)}
theorem holdsW (hs : sat g w (Sl T 1 p m c (fl eW L) :: F)) {b : Nat} {cur : List Value} (hb : w.heap[b]? = some (.cells cur.toArray T (0, 0))) (e3 : cur.take (m * 1) = fl eW L) : Holds encStr w b 0 L.toArray := by
  intro j hj
  have hj2 : j < L.length := by simpa using hj
  refine ⟨?_, frozen_of_row w b _ cur.toArray _ hb⟩
  have h1 : (fl eW L)[j]? = some (encStr L[j]) := by rw [← map_flW, List.getElem?_map, List.getElem?_eq_getElem hj2]; rfl
  have hl : (fl eW L).length = m * 1 := sl_len hs
  have hj3 : j < m * 1 := by rw [← hl, fl_len eW_ok]; omega
  rw [Nat.zero_add, cell_of_row w b j cur.toArray _ (0, 0) hb, List.getElem?_toArray, take_at e3 hj3, h1, getElem!_pos _ j hj]
  rfl
/-- A world in which the row's cells hold other strings. -/
theorem sat_putW {b : Nat} {cur : List Value} {M : List (List UInt8)} {m' : Nat} (e4 : sat g w (pt b (.cells cur.toArray T (0, 0)) :: F)) (hb : w.heap[b]? = some (.cells cur.toArray T (0, 0))) (hm : m' ≤ M.length) (hM : M.length ≤ cur.length) (hc : c * 1 = cur.length) (h63 : c ≤ maxLen) (k : Nat) :
    sat g (putRow encStr (Sort.ahead w k) b 0 M.toArray) (Sl T 1 (some ⟨b, 0, none⟩) m' c (fl eW (M.take m')) :: F) := by
  have hput : (putRow encStr (Sort.ahead w k) b 0 M.toArray).heap[b]? = some (.cells (fl eW M ++ cur.drop M.length).toArray T (0, 0)) := by
    show (w.heap.modify b _)[b]? = _
    rw [Array.getElem?_modify, if_pos rfl, hb]
    show some (Obj.cells (putCells encStr 0 M.toArray cur.toArray) T (0, 0)) = _
    rw [putCells_enc _ _ _ (by simpa using hM), ← map_flW]
    simp
  have hl : (fl eW (M.take m')).length = m' * 1 := by rw [fl_len eW_ok, List.length_take]; omega
  refine sl_close (cur := fl eW M ++ cur.drop M.length) (sat_put (b := b) (w := w) e4 ⟨rfl, rfl, rfl, Nat.le_add_right _ _⟩ hput (fun j hj => ?_)) hl (by omega) h63 ?_ ?_
  · show (w.heap.modify b _)[j]? = _
    rw [Array.getElem?_modify, if_neg (fun h => hj h.symm)]
  · rw [List.length_append, fl_len eW_ok, List.length_drop]
    omega
  · rw [Nat.mul_one, List.take_append_of_le_length (by rw [fl_len eW_ok]; omega), ← map_flW, ← map_flW, List.map_take]
/-- A row of strings that is not empty is sorted. -/
theorem sort_rowW (Ly : SlLaysF.n6 P ρ) (cf : List UInt8 → List UInt8 → Int) (hO : SWO (ltOf cf)) (gc : Nat) (eg : ∀ args w, (callFunc gc args).run P w = .ok (.enter gc args) w) (hs : sat g w (Sl T 1 p m c (fl eW L) :: F)) (hm : 0 < m) (hm2 : m < 4611686018427387904)
    (hc : ∀ W, ∀ x y : List UInt8, Calls P gc #[.string (St x), .string (St y)] W fun e w' => e = .returned (.int .i64 (cf x y)) ∧ ∃ q os, w' = grow (W.drewN q) os) :
    Calls P (ρ.f 6) #[.slice p m c, .func (.func gc) #[] #[]] w fun e w' => e = .returned (.tuple #[]) ∧ ∃ M : List (List UInt8), M.Perm L ∧ (M.Pairwise fun a b => ltOf cf b a = false) ∧ sat g w' (Sl T 1 p m c (fl eW M) :: F) := by
  have hlen : L.length = m := fl_n eW_ok (by decide) hs
  have hle := sl_le hs
  obtain ⟨b, cur, rfl, e2, e3, e4⟩ := sl_open hs hm
  have hb : w.heap[b]? = some (.cells cur.toArray T (0, 0)) := sat_at (i := 0) e4 rfl
  have hds : L.toArray.size = m := by rw [List.size_toArray, hlen]
  have hcon := Any.slices_SortFunc Ly encStr (fun _ => rfl) cf hO gc #[] b 0 c L.toArray w eg (fun q os dk _ x y => hc _ x y) (holdsW hs hb e3) (Array.getElem?_eq_some_iff.1 hb).1 (by omega)
  rw [hds] at hcon
  refine (show Calls P (ρ.f 6) #[.slice (some ⟨b, 0, none⟩) m c, .func (.func gc) #[] #[]] w _ from hcon).mono ?_
  rintro e w' ⟨rfl, d', n, os, hp, hso, rfl⟩
  have hd's : d'.size = m := hp.1.trans hds
  have hperm : d'.toList.Perm L := by
    have h1 := hp.2.2
    have e1 : ∀ x : Array (List UInt8), x.size = m → (x.extract 0 m).toList = x.toList := by
      intro x hx
      simp [← hx]
    rw [e1 d' hd's, e1 L.toArray hds] at h1
    exact h1
  refine ⟨rfl, d'.toList, hperm, ?_, ?_⟩
  · rw [List.pairwise_iff_getElem]
    intro i j hi hj hij
    rw [Array.length_toList] at hi hj
    have h1 := hso i j (Nat.zero_le _) hij (by omega)
    rw [getElem!_pos d' j hj, getElem!_pos d' i hi] at h1
    rw [Array.getElem_toList, Array.getElem_toList]
    exact h1
  · have hq := sat_putW (M := d'.toList) (m' := m) e4 hb (by rw [Array.length_toList]; omega) (by rw [Array.length_toList]; omega) (by omega) hle.2 n
    rw [List.take_of_length_le (by rw [Array.length_toList]; omega)] at hq
    exact sat_gr (w := putRow encStr (Sort.ahead w n) b 0 d') hq os
/-- Equal neighbours go. -/
theorem compact_rowW (Y : Lays.n194 P ρ) (hs : sat g w (Sl T 1 p m c (fl eW L) :: F)) (hm : m ≤ 4611686018427387904) :
    Calls P (ρ.f 194) #[.slice p m c] w fun e w' => e = .returned (.slice p (compact L).length c) ∧ sat g w' (Sl T 1 p (compact L).length c (fl eW (compact L)) :: F) := by
  have hlen : L.length = m := fl_n eW_ok (by decide) hs
  have hle := sl_le hs
  have hcl := compact_length_le L
  rcases Nat.eq_zero_or_pos m with h0 | h0
  · subst h0
    obtain rfl : L = [] := List.eq_nil_of_length_eq_zero hlen
    refine (Any.slices_Compact_string_empty Y p c w).mono ?_
    rintro e w' ⟨rfl, rfl⟩
    exact ⟨rfl, hs⟩
  · obtain ⟨b, cur, rfl, e2, e3, e4⟩ := sl_open hs h0
    have hb : w.heap[b]? = some (.cells cur.toArray T (0, 0)) := sat_at (i := 0) e4 rfl
    have hcon := Any.slices_Compact_string Y b 0 c L w (holdsW hs hb e3) (by omega) (by omega)
    rw [hlen] at hcon
    refine (show Calls P (ρ.f 194) #[.slice (some ⟨b, 0, none⟩) m c] w _ from hcon).mono ?_
    rintro e w' ⟨rfl, q, rfl⟩
    have hq := sat_putW (M := compact L ++ List.replicate (m - (compact L).length) []) (m' := (compact L).length) e4 hb (by rw [List.length_append]; omega) (by rw [List.length_append, List.length_replicate]; omega) (by omega) hle.2 q
    rw [List.take_left' rfl] at hq
    exact ⟨rfl, hq⟩
end
end Go.Proofs.YtfoliffeieeihaaGreatDoor
