/-
  Numerals: the shelf's contracts as mine. No program in sight.
-/
import Derived.Test.YtfoliffeieeihaaGreatDoorAps
import Derived.Test.YtfoliffeieeihaaGreatDoorSrt
import Derived.Shelf.Strconv.Itoa3
import Derived.Lib.ItoaMem
namespace Go.Proofs.YtfoliffeieeihaaGreatDoor
open Go.Shelf Go.RowKit Go.Lib Go.Sort
variable {P : Program} {ρ : Ren}
/-- A table that lies below stays. -/
theorem tab_old {g w wo : World} {L : List Assn} {i : Nat} {nm : String} {k : IntKind} {zs : List Int} (hg : TabIs P wo nm k zs) (hs : sat g w L) (hi : L[i]? = some (Old wo)) : TabIs P w nm k zs := by
  unfold TabIs World.var? at *
  cases hq : P.globalNamed nm with
  | none => rw [hq] at hg; cases hg
  | some b =>
    rw [hq] at hg
    simp only [Option.bind_some] at hg ⊢
    cases ho : wo.heap[b]? with
    | none => rw [ho] at hg; cases hg
    | some x =>
      rw [ho] at hg
      rw [sat_old hs hi ho]
      exact hg
theorem sat_drN {g w : World} {L : List Assn} (h : sat g w L) (k : Nat) : sat g (w.drewN k) L := by
  obtain ⟨s, Z, hZ, ok, pw⟩ := h
  exact ⟨⟨s.os, s.tape, s.output, Nat.le_trans s.drawn (Nat.le_add_right _ _)⟩, Z, hZ, ok, pw⟩
theorem nd_gen (Y : LaysM.n284 P ρ) (u : Nat) (h1 : 1 ≤ u) (h2 : u < 18446744073709551616) (wo : World) (hg : TabIs P wo "internal/strconv.uint64pow10" .u64 pow10Tab) : HT P (ρ.f 284) [.int .u64 u] [Old wo] fun v K => v = .int .i64 (nDigits u : Int) ∧ K = [Old wo] := by
  intro g w F hs
  refine (Any.internal_strconv_numDigits Y u h1 h2 w (tab_old hg hs (i := 0) rfl)).mono ?_
  rintro e w' ⟨rfl, rfl⟩
  exact ⟨_, _, rfl, ⟨rfl, rfl⟩, hs⟩
theorem sm_gen (Y : Lays.n283 P ρ) (u : Nat) (h : u < 100) : HT P (ρ.f 283) [.int .i64 u] [] fun v K => v = .string (St (decDigits u)) ∧ K = [] := by
  intro g w F hs
  refine (Any.internal_strconv_small Y u h w).mono ?_
  rintro e w' ⟨rfl, rfl⟩
  exact ⟨_, _, rfl, ⟨rfl, rfl⟩, hs⟩
theorem itoa_gen (Y : LaysM.n171 P ρ) (n : Int) (h0 : -9223372036854775808 ≤ n) (h1 : n ≤ 9223372036854775807) (wo : World) (hg : TabIs P wo "internal/strconv.uint64pow10" .u64 pow10Tab) : HT P (ρ.f 171) [.int .i64 n] [Old wo] fun v K => v = .string (St (itoa n)) ∧ K = [Old wo] := by
  intro g w F hs
  refine (Any.strconv_Itoa Y n h0 h1 w (tab_old hg hs (i := 0) rfl)).mono ?_
  rintro e w' ⟨rfl, k, os, rfl⟩
  exact ⟨_, _, rfl, ⟨rfl, rfl⟩, sat_gr (sat_drN hs k) os⟩
theorem putCells_enc {α : Type} [Inhabited α] (f : α → Value) (d : Array α) (cur : Array Value) (h : d.size ≤ cur.size) : putCells f 0 d cur = (d.toList.map f ++ cur.toList.drop d.size).toArray := by
  apply Array.ext
  · simp [putCells]
    omega
  · intro i h1 h2
    simp only [putCells, Array.getElem_mapIdx, List.getElem_toArray, Nat.zero_le, true_and, Nat.zero_add, Nat.sub_zero]
    by_cases hi : i < d.size
    · rw [if_pos hi, List.getElem_append_left (by simpa using hi), getElem!_pos d i hi, List.getElem_map, Array.getElem_toList]
    · rw [if_neg hi, List.getElem_append_right (by rw [List.length_map, Array.length_toList]; omega), List.getElem_drop, Array.getElem_toList]
      congr 1
      rw [List.length_map, Array.length_toList]
      omega
theorem map_fl (l : List UInt8) : (l.map fun b => Value.int .u8 (b.toNat : Int)) = fl eB l := by
  induction l with
  | nil => rfl
  | cons b l ih => rw [List.map_cons, ih]; rfl
/-- formatBase10 into a new array of 24 bytes. -/
theorem fb_gen (Y : Lays.n285 P ρ) (T b nd u : Nat) (hnd : nd = nDigits u) (h24 : nd ≤ 24) (hu64 : u < 18446744073709551616) : HT P (ρ.f 285) [.slice (some ⟨b, 0, none⟩) nd 24, .int .u64 u] [Cl b (List.replicate 24 (Value.int .u8 0)) T]
    fun v K => v = .tuple #[] ∧ K = [Sl T 1 (some ⟨b, 0, none⟩) nd 24 (fl eB (decDigits u))] := by
  intro g w F hs
  have hb : w.heap[b]? = some (.cells (List.replicate 24 (Value.int .u8 0)).toArray T (0, 0)) := sat_at (i := 0) hs rfl
  have hH : Holds (fun (b : UInt8) => Value.int .u8 (b.toNat : Int)) w b 0 (Array.replicate nd 0) := by
    intro j hj
    rw [Array.size_replicate] at hj
    refine ⟨?_, frozen_of_row w b _ _ _ hb⟩
    rw [Nat.zero_add, cell_of_row w b j _ _ (0, 0) hb, List.getElem?_toArray, List.getElem?_replicate, if_pos (by omega), getElem!_pos _ j (by rw [Array.size_replicate]; exact hj), Array.getElem_replicate]
    rfl
  have hc := Any.internal_strconv_formatBase10 Y b 0 24 u (Array.replicate nd 0) w hH (by rw [Array.size_replicate, hnd]; exact lt_pow_nDigits u) hu64 (by rw [Array.size_replicate]; omega)
  rw [Array.size_replicate] at hc
  refine (show Calls P (ρ.f 285) #[.slice (some ⟨b, 0, none⟩) nd 24, .int .u64 u] w _ from hc).mono ?_
  rintro e w' ⟨rfl, k, v', dk, rfl, hF⟩
  refine ⟨_, _, rfl, ⟨rfl, rfl⟩, ?_⟩
  have hsz : dk.size = nd := hF.size
  subst hnd
  have hnum : dk.toList = decDigits u := by
    apply List.ext_getElem
    · rw [Array.length_toList, hsz, decDigits_length]
    · intro j h1 h2
      rw [Array.length_toList] at h1
      rw [row_is_numeral hF j h2, getElem!_pos dk j h1, Array.getElem_toList]
  have hcz : (List.replicate 24 (Value.int .u8 0)).toArray.size = 24 := rfl
  have hput : ((putRow (fun (b : UInt8) => Value.int .u8 (b.toNat : Int)) w b 0 dk).drewN k).heap[b]? = some (.cells (fl eB (decDigits u) ++ (List.replicate 24 (Value.int .u8 0)).drop (nDigits u)).toArray T (0, 0)) := by
    show (w.heap.modify b _)[b]? = _
    rw [Array.getElem?_modify, if_pos rfl, hb]
    show some (Obj.cells (putCells _ 0 dk (List.replicate 24 (Value.int .u8 0)).toArray) T (0, 0)) = _
    rw [putCells_enc _ _ _ (by rw [hsz, hcz]; exact h24), hsz, hnum, map_fl]
  have hl : (fl eB (decDigits u)).length = nDigits u * 1 := by rw [fl_len eB_ok, decDigits_length]
  refine sl_close (cur := fl eB (decDigits u) ++ (List.replicate 24 (Value.int .u8 0)).drop (nDigits u)) (sat_put (b := b) (w := w) hs ⟨rfl, rfl, rfl, Nat.le_add_right _ _⟩ hput (fun j hj => ?_)) hl h24 (by decide) ?_ ?_
  · show (w.heap.modify b _)[j]? = _
    rw [Array.getElem?_modify, if_neg (fun h => hj h.symm)]
  · rw [List.length_append, hl, List.length_drop, List.length_replicate]
    omega
  · rw [Nat.mul_one] at hl
    rw [Nat.mul_one, List.take_append_of_le_length (by rw [hl]; exact Nat.le_refl _), List.take_of_length_le (by rw [hl]; exact Nat.le_refl _)]
end Go.Proofs.YtfoliffeieeihaaGreatDoor
