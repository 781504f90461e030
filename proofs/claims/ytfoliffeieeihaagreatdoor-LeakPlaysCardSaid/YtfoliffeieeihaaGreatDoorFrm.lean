/-
  The tail of a slice. Lemmas of the engine, no program.
-/
import Derived.Test.YtfoliffeieeihaaGreatDoorLst
import Derived.Test.YtfoliffeieeihaaGreatDoorLaws
namespace Go.Proofs.YtfoliffeieeihaaGreatDoor
/-- A slice's tail, whatever the slice. -/
theorem gv_from {α : Type} {f : α → List Value} {sz n c k : Nat} {M : List α} {p q : Option Addr} {X : Assn} (E : Enc sz f) (hg : Gv X p n (fl f M)) (hM : M.length = n) (hk : k ≤ n) (hn : n ≤ c) (hq : q = if c = k then p else p.map (fun a : Addr => a.add (k * sz))) : Gv X q (n - k) (fl f (M.drop k)) := by
  intro h ha
  rcases Nat.lt_or_ge k n with h1 | h1
  · rcases hg h ha with ⟨h2, _⟩ | ⟨b, off, h2, h3⟩
    · omega
    · rw [if_neg (by omega), h2] at hq
      refine .inr ⟨b, off + k * sz, by rw [hq]; simp [add_off], fun w hw j v hj => ?_⟩
      rw [← fl_drop E, List.getElem?_drop] at hj
      rw [Nat.add_assoc]
      exact h3 w hw _ v hj
  · refine .inl ⟨by omega, ?_⟩
    rw [List.drop_eq_nil_of_le (by omega)]
    rfl
section
variable {P : Program} {n : Nat} {l : Fr} {o : Oper}
/-- 's[k:]', whatever s. -/
theorem law_sliceFrom {t e m c sz : Nat} {x y : Operand} {p q : Option Addr} (ho : o.op = .slice t x (some y) none none) (ht : P.underlying t = some (.slice e)) (hi : (P.info? e).map (·.size) = some sz) (hx : fe n l x = .slice p m c) {z : Int} (hy : fe n l y = .int .i64 z) (k : Nat) (hz : z = (k : Int)) (hk : k ≤ m) (hq : q = if c = k then p else p.map (fun a : Addr => a.add (k * sz))) (w : World) :
    (execOp (fe n l) o).run P w = .ok (.value (.slice q (m - k) (c - k))) w := by
  subst hz
  subst hq
  cases hi' : P.info? e with
  | none => simp [hi'] at hi
  | some inf =>
    have hs' : inf.size = sz := by simpa [hi'] using hi
    have a1 : ¬ m < k := by omega
    by_cases hc : c = k
    · simp [execOp, ho, hx, hy, Instr.sliceAt, Instr.slice, run_underlying ht, Instr.sliceBounds, Instr.sliceBound, asIntOf, sizeOf, typeInfo, hi', hk, a1, hc]
    · simp [execOp, ho, hx, hy, Instr.sliceAt, Instr.slice, run_underlying ht, Instr.sliceBounds, Instr.sliceBound, asIntOf, sizeOf, typeInfo, hi', hs', hk, a1, hc]
end
end Go.Proofs.YtfoliffeieeihaaGreatDoor
