/-
  slices.SortFunc at structs: the shelf's contract as one of mine, for any encoding and any comparison that only reads. No program in sight.
-/
import Derived.Test.YtfoliffeieeihaaGreatDoorLst
import Derived.Shelf.SlSortCmp.WholeK
namespace Go.Proofs.YtfoliffeieeihaaGreatDoor
open Go.Shelf Go.RowKit Go.Lib Go.Sort
/-- A call that leaves all that was there alone: what it adds is draws and blocks. -/
theorem exact_of {P : Program} {f : FuncId} {args : List Value} {W : World} {v0 : Value} (hT : HT P f args [Old W] fun v K => v = v0 ∧ K = [Old W]) : Calls P f args.toArray W fun e w' => e = .returned v0 ∧ ∃ q os, w' = grow (W.drewN q) os := by
  refine (hT W W [] (sat_start W)).mono ?_
  rintro e w' ⟨v, K, rfl, ⟨rfl, rfl⟩, h2⟩
  have hb := sat_below (i := 0) h2 rfl
  have hd : W.drawn ≤ w'.drawn := h2.1.drawn
  refine ⟨rfl, w'.drawn - W.drawn, w'.heap.extract W.heap.size w'.heap.size, ?_⟩
  have hsz : W.heap.size ≤ w'.heap.size := hb.size
  have hh : w'.heap = W.heap ++ w'.heap.extract W.heap.size w'.heap.size := by
    apply Array.ext_getElem?
    intro i
    rcases Nat.lt_or_ge i W.heap.size with hi | hi
    · rw [Array.getElem?_append_left hi]
      exact hb.block i hi
    · rw [Array.getElem?_append_right hi, Array.getElem?_extract]
      split
      · congr 1
        omega
      · rw [Array.getElem?_eq_none]
        omega
  have e1 : grow (W.drewN (w'.drawn - W.drawn)) (w'.heap.extract W.heap.size w'.heap.size) = { heap := W.heap ++ w'.heap.extract W.heap.size w'.heap.size, tape := W.tape, drawn := W.drawn + (w'.drawn - W.drawn), os := W.os, output := W.output } := rfl
  rw [e1, ← hh, show W.drawn + (w'.drawn - W.drawn) = w'.drawn by omega, ← hb.tape, ← hb.os, ← hb.output]
/-- A block is not one that another assertion has. -/
theorem sat_ne {g w : World} {L : List Assn} {a b j : Nat} {o : Obj} {A : Assn} (h : sat g w (pt a o :: L)) (hj : (pt a o :: L)[j + 1 - 1]? = some A) (hA : ∀ k, A k → ∃ o', k b = some o') (hne : 1 ≤ j := by decide) : a ≠ b := by
  intro e
  subst e
  obtain ⟨_, Z, hZ, ok, pw⟩ := h
  match Z, hZ with
  | z :: Z, hZ =>
    simp only [List.map_cons, List.cons.injEq] at hZ
    obtain ⟨hz1, hZ⟩ := hZ
    have hz := (ok z (by simp)).1
    rw [hz1] at hz
    rw [List.pairwise_cons] at pw
    obtain ⟨j, rfl⟩ : ∃ i, j = i + 1 := ⟨j - 1, by omega⟩
    rw [Nat.add_sub_cancel, List.getElem?_cons_succ, ← hZ, List.getElem?_map, Option.map_eq_some_iff] at hj
    obtain ⟨y, hy, hyA⟩ := hj
    have hym := List.mem_of_getElem? hy
    have h1 := (ok y (by simp [hym])).1
    rw [hyA] at h1
    obtain ⟨o', ho'⟩ := hA _ h1
    rcases pw.1 y hym a with h2 | h2
    · have h3 : z.2 a = some o := hz
      rw [h2] at h3
      cases h3
    · rw [h2] at ho'
      cases ho'
section
variable {α : Type} [Inhabited α] {f : α → List Value} {k : Nat}
theorem flatK_gen (E : Enc k f) (hk : 0 < k) (d : Array α) : (flatK f k d).toList = fl f d.toList := by
  apply List.ext_getElem?
  intro t
  by_cases ht : t < d.size * k
  · have hi : t / k < d.size := (Nat.div_lt_iff_lt_mul hk).2 ht
    have h1 : d.toList[t / k]? = some d[t / k]! := by rw [Array.getElem?_toList, getElem!_pos d (t / k) hi, Array.getElem?_eq_getElem hi]
    have h2 : t % k < k := Nat.mod_lt _ hk
    have h3 : (f d[t / k]!)[t % k]? = some ((f d[t / k]!)[t % k]!) := by
      have hl : t % k < (f d[t / k]!).length := by rw [E.len]; exact h2
      rw [getElem!_pos (f d[t / k]!) (t % k) hl, List.getElem?_eq_getElem hl]
    have h4 := fl_get E h1 h3
    rw [show t / k * k + t % k = t from Nat.div_add_mod' t k] at h4
    rw [h4, Array.getElem?_toList, ← get_flatK f k d t ht, getElem!_pos (flatK f k d) t (by rw [size_flatK]; exact ht), Array.getElem?_eq_getElem (by rw [size_flatK]; exact ht)]
  · rw [List.getElem?_eq_none (by rw [Array.length_toList, size_flatK]; omega), List.getElem?_eq_none (by rw [fl_len E, Array.length_toList]; omega)]
theorem putCells_tk (F cur : Array Value) (h : F.size ≤ cur.size) : putCells id 0 F cur = (F.toList ++ cur.toList.drop F.size).toArray := by
  apply Array.ext
  · simp [putCells]
    omega
  · intro i h1 h2
    simp only [putCells, Array.getElem_mapIdx, List.getElem_toArray, id_eq, Nat.zero_le, true_and, Nat.zero_add, Nat.sub_zero]
    by_cases hi : i < F.size
    · rw [if_pos hi, List.getElem_append_left (by simpa using hi), getElem!_pos F i hi, Array.getElem_toList]
    · rw [if_neg hi, List.getElem_append_right (by rw [Array.length_toList]; omega), List.getElem_drop, Array.getElem_toList]
      congr 1
      rw [Array.length_toList]
      omega
theorem sat_gr {g w : World} {L : List Assn} (h : sat g w L) (os : Array Obj) : sat g (grow w os) L := by
  obtain ⟨s, Z, hZ, ok, pw⟩ := h
  refine ⟨⟨s.os, s.tape, s.output, s.drawn⟩, Z, hZ, fun z hz => ⟨(ok z hz).1, fun b o hb => ?_⟩, pw⟩
  have h1 := (ok z hz).2 b o hb
  show (w.heap ++ os)[b]? = some o
  rw [Array.getElem?_append_left (Array.getElem?_eq_some_iff.1 h1).1]
  exact h1
/-- A row that is not empty is sorted. -/
theorem sort_row {P : Program} {ρ : Ren} (Ly : SlLaysF0.n6 P ρ) (E : Enc k f) (hk : 0 < k) (aE : ∀ w, (isAgg (ρ.t 24)).run P w = .ok true w) (zE : ∀ w, (Go.sizeOf (ρ.t 24)).run P w = .ok k w) (cf : α → α → Int) (hO : SWO (ltOf cf)) (gc : Nat) (cb : List Value) {g w : World} {F : List Assn} {p : Option Addr} {m c : Nat} {L : List α}
    (eg : ∀ args w, (callFunc gc args).run P w = .ok (.enter gc args) w) (hs : sat g w (Sl (ρ.t 24) k p m c (fl f L) :: F)) (hm : 0 < m) (hm2 : m < 4611686018427387904)
    (hc : ∀ (b : Nat) (W : World), p = some ⟨b, 0, none⟩ → (∀ j, j ≠ b → j < w.heap.size → W.heap[j]? = w.heap[j]?) → ∀ x y : α, Calls P gc (#[.agg (f x).toArray, .agg (f y).toArray] ++ cb.toArray) W fun e w' => e = .returned (.int .i64 (cf x y)) ∧ ∃ q os, w' = grow (W.drewN q) os) :
    Calls P (ρ.f 6) #[.slice p m c, .func (.func gc) #[] cb.toArray] w fun e w' => e = .returned (.tuple #[]) ∧ ∃ M : List α, M.Perm L ∧ (M.Pairwise fun a b => ltOf cf b a = false) ∧ sat g w' (Sl (ρ.t 24) k p m c (fl f M) :: F) := by
  have hlen : L.length = m := fl_n E hk hs
  have hle := sl_le hs
  have hcl := sl_len hs
  obtain ⟨b, cur, rfl, e2, e3, e4⟩ := sl_open hs hm
  have hb : w.heap[b]? = some (.cells cur.toArray (ρ.t 24) (0, 0)) := sat_at (i := 0) e4 rfl
  have hds : L.toArray.size = m := by rw [List.size_toArray, hlen]
  have hF : (flatK f k L.toArray).toList = fl f L := flatK_gen E hk _
  have hge : m * k ≤ cur.length := by rw [e2]; exact Nat.mul_le_mul_right _ hle.1
  have hH : HoldsK f k w b 0 L.toArray := by
    intro j hj
    rw [size_flatK, hds] at hj
    refine ⟨?_, frozen_of_row w b _ cur.toArray _ hb⟩
    have hj2 : j < (flatK f k L.toArray).size := by rw [size_flatK, hds]; exact hj
    rw [Nat.zero_add, cell_of_row w b j cur.toArray _ (0, 0) hb, List.getElem?_toArray, take_at e3 hj, getElem!_pos _ j hj2, id_eq, ← Array.getElem?_eq_getElem hj2, ← Array.getElem?_toList, hF]
  have hcmp : CmpLays P gc cb.toArray f k cf b 0 L.toArray.size w := fun q os dk hdk x y => by
    refine hc b _ rfl (fun j hj hjl => ?_) x y
    show ((w.heap.modify b _) ++ os)[j]? = _
    rw [Array.getElem?_append_left (by rw [Array.size_modify]; exact hjl), Array.getElem?_modify, if_neg (fun h => hj h.symm)]
  have hcon := AnyQ.slices_SortFunc Ly k aE zE f (fun x => E.len x) (fun x v hv => E.one x v hv) cf hO gc cb.toArray b 0 c L.toArray w eg hcmp hH (Array.getElem?_eq_some_iff.1 hb).1 (by omega)
  rw [hds] at hcon
  refine (show Calls P (ρ.f 6) #[.slice (some ⟨b, 0, none⟩) m c, .func (.func gc) #[] cb.toArray] w _ from hcon).mono ?_
  rintro e w' ⟨rfl, d', n, os, hp, hso, rfl⟩
  have hd's : d'.size = m := hp.1.trans hds
  have hperm : d'.toList.Perm L := by
    have h1 := hp.2.2
    have e1 : ∀ x : Array α, x.size = m → (x.extract 0 m).toList = x.toList := by
      intro x hx
      simp [← hx]
    rw [e1 d' hd's, e1 L.toArray hds] at h1
    exact h1
  refine ⟨rfl, d'.toList, hperm, ?_, ?_⟩
  · rw [List.pairwise_iff_getElem]
    intro i j hi hj hij
    rw [Array.length_toList] at hi hj
    have h1 := hso i j (Nat.zero_le _) hij (by omega)
    rw [getElem!_pos d' j hj, getElem!_pos d' i hi] at h1
    rw [Array.getElem_toList, Array.getElem_toList]
    exact h1
  · have hF' : (flatK f k d').toList = fl f d'.toList := flatK_gen E hk d'
    have hFs : (flatK f k d').size = m * k := by rw [size_flatK, hd's]
    refine sat_gr (os := os) (w := putRowK f k (Sort.ahead w n) b 0 d') ?_
    have hput : (putRowK f k (Sort.ahead w n) b 0 d').heap[b]? = some (.cells ((fl f d'.toList) ++ cur.drop (m * k)).toArray (ρ.t 24) (0, 0)) := by
      show (w.heap.modify b _)[b]? = _
      rw [Array.getElem?_modify, if_pos rfl, hb]
      show some (Obj.cells (putCells id 0 (flatK f k d') cur.toArray) (ρ.t 24) (0, 0)) = _
      rw [putCells_tk _ _ (by rw [hFs, List.size_toArray]; exact hge), hFs, hF']
    refine sl_close (cur := fl f d'.toList ++ cur.drop (m * k)) (sat_put (b := b) (w := w) e4 ⟨rfl, rfl, rfl, Nat.le_add_right _ _⟩ hput (fun j hj => ?_)) ?_ hle.1 hle.2 ?_ ?_
    · show (w.heap.modify b _)[j]? = _
      rw [Array.getElem?_modify, if_neg (fun h => hj h.symm)]
    · rw [fl_len E, Array.length_toList, hd's]
    · rw [List.length_append, fl_len E, Array.length_toList, hd's, List.length_drop]
      have : c * k = cur.length := e2.symm
      omega
    · rw [List.take_append_of_le_length (by rw [fl_len E, Array.length_toList, hd's]; exact Nat.le_refl _), List.take_of_length_le (by rw [fl_len E, Array.length_toList, hd's]; exact Nat.le_refl _)]
end
end Go.Proofs.YtfoliffeieeihaaGreatDoor
