/-
  What a card's laid variables hold. No program in sight.
-/
import Derived.Test.YtfoliffeieeihaaGreatDoorRn2
import Derived.Lib.LaidTab
import Derived.Test.YtfoliffeieeihaaGreatDoorRow
namespace Go.Proofs.YtfoliffeieeihaaGreatDoor
open Go.Lib
theorem trod_str {H : Type} {enc : TypeId × Value → H} {P : Program} {w : World} {base : Nat} {sp : Nat → Bool} {held : Bool} {fuel : Nat} {e : TypeId} {cs : List Value} {x : DataW H × List MemPlace} (he : P.underlying e = some .string)
    (h : DataW.trod enc P w base sp held fuel e cs = some x) : ∃ z, cs = [.string (St z)] ∧ x.1 = .lit (.string z) := by
  obtain ⟨s, h1, h2, _⟩ := DataW.trod_string he h
  have e : St s.data.toList = s := by
    show (⟨s.data.toList.toArray⟩ : ByteArray) = s
    rw [Array.toArray_toList]
  exact ⟨s.data.toList, by rw [h1, e], by rw [h2]⟩
theorem cells_of_strs {H : Type} {enc : TypeId × Value → H} {P : Program} {w : World} {base : Nat} {sp : Nat → Bool} {held : Bool} {fuel : Nat} {t e : TypeId} {n : Nat} {cs : List Value} {zs : List (List UInt8)} {p : List MemPlace}
    (ht : P.underlying t = some (.array n e)) (he : P.underlying e = some .string) (hce : P.cellsOf e = 1) (hct : P.cellsOf t = n)
    (h : DataW.trod enc P w base sp held fuel t cs = some (.agg (zs.map fun z => .lit (.string z)), p)) : cs = zs.map fun z => Value.string (St z) := by
  cases fuel with
  | zero => simp [DataW.trod] at h
  | succ fuel =>
    simp only [DataW.trod, ht, hce, hct, Nat.mul_one] at h
    split at h
    · rename_i hl
      obtain ⟨xs, hm, hx⟩ := Option.map_eq_some_iff.1 h
      have hxs : xs.map (·.1) = zs.map fun z => (DataW.lit (.string z) : DataW H) := by
        have := congrArg Prod.fst hx
        simpa using this
      have hxl : xs.length = n := by simpa using mapM_length hm
      have hzl : zs.length = n := by
        have := congrArg List.length hxs
        simp at this
        omega
      apply List.ext_getElem?
      intro i
      by_cases hi : i < n
      · obtain ⟨b, hb, hf⟩ := mapM_at hm i i (by simp [hi])
        obtain ⟨z, hc, hz⟩ := trod_str he hf
        have h1 : cs[i]? = some (.string (St z)) := by
          have := congrArg (·[0]?) hc
          simpa [List.getElem?_take, List.getElem?_drop] using this
        have h2 : (xs.map (·.1))[i]? = some (DataW.lit (.string z) : DataW H) := by simp [hb, hz]
        rw [hxs] at h2
        simp only [List.getElem?_map, Option.map_eq_some_iff, DataW.lit.injEq, Lit.string.injEq] at h2
        obtain ⟨z', hz', rfl⟩ := h2
        simp [h1, hz']
      · rw [List.getElem?_eq_none (by omega), List.getElem?_eq_none (by simp; omega)]
    · cases h
section
variable {P : Program} {W : World} {nm : String} {g : Nat} {t e : TypeId} {n : Nat} {rest : List (String × DataW Unit)} {ps : List MemPlace} {d : DataW Unit}
theorem laid_tail (h : DataW.LaidVars P W ((nm, d) :: rest) ps) : ∃ q, DataW.LaidVars P W rest q := by
  obtain ⟨_, _, _, _, _, q, _, _, _, _, h6, _⟩ := h
  exact ⟨q, h6⟩
theorem laid_tab {k : IntKind} {zs : List Int} (hg : P.globalNamed nm = some g) (hty : (P.globals[g]?).map (·.type) = some t) (ht : P.underlying t = some (.array n e)) (he : P.underlying e = some (.int k)) (hce : P.cellsOf e = 1) (hct : P.cellsOf t = n)
    (h : DataW.LaidVars P W ((nm, tabData k zs) :: rest) ps) : TabIs P W nm k zs := by
  obtain ⟨g', t', cs, fuel, p, q, hg', ht', hvar, hd, _, _⟩ := h
  obtain rfl := Option.some.inj (hg.symm.trans hg')
  obtain rfl := Option.some.inj (hty.symm.trans ht')
  unfold TabIs
  rw [hvar, ← cells_of_tab ht he hce hct hd]
theorem laid_strs {zs : List (List UInt8)} (hg : P.globalNamed nm = some g) (hty : (P.globals[g]?).map (·.type) = some t) (ht : P.underlying t = some (.array n e)) (he : P.underlying e = some .string) (hce : P.cellsOf e = 1) (hct : P.cellsOf t = n)
    (h : DataW.LaidVars P W ((nm, .agg (zs.map fun z => .lit (.string z))) :: rest) ps) {j : Nat} {z : List UInt8} (hj : zs[j]? = some z) : W.cell? ⟨g, j, none⟩ = some (.string (St z)) := by
  obtain ⟨g', t', cs, fuel, p, q, hg', ht', hvar, hd, _, _⟩ := h
  obtain rfl := Option.some.inj (hg.symm.trans hg')
  obtain rfl := Option.some.inj (hty.symm.trans ht')
  have hc := cells_of_strs ht he hce hct hd
  unfold World.var? at hvar
  rw [hg] at hvar
  simp only [Option.bind_some] at hvar
  cases ho : W.heap[g]? with
  | none => rw [ho] at hvar; cases hvar
  | some o =>
    rw [ho] at hvar
    cases o with
    | cells c a b =>
      obtain rfl := Option.some.inj hvar
      show W.cell? ⟨g, j, none⟩ = _
      simp only [World.cell?, ho]
      rw [← Array.getElem?_toList, hc, List.getElem?_map, hj]
      rfl
    | _ => cases hvar
end
end Go.Proofs.YtfoliffeieeihaaGreatDoor
