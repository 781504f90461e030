/-
  Ranges over functions: what an iterator promises, and the rule for the statement. No program in sight.
-/
import Derived.Test.YtfoliffeieeihaaGreatDoorGo
namespace Go.Proofs.YtfoliffeieeihaaGreatDoor

section
variable {P : Program} {Q : Exit → Act → World → Prop} {g w : World} {L : List Assn} {c : Code} {ds : List Deferred}

theorem YieldAt.mono {F : Fence} {m : Nat} {k : Nat} {args : Array Value} {W : World} {R R' : Ending → World → Prop} (h : YieldAt F m P k args W R) (hr : ∀ e w, R e w → R' e w) : YieldAt F m P k args W R' := by
  obtain ⟨fn, tmps, as, bd, h1, h2⟩ := h
  exact ⟨fn, tmps, as, bd, h1, h2.mono hr⟩
theorem sat_sel_tail {A : Assn} (h : sat g w (A :: L)) : sat g w L := by
  obtain ⟨s, Z, hZ, ok, pw⟩ := h
  match Z, hZ with
  | z :: Z, hZ =>
    simp only [List.map_cons, List.cons.injEq] at hZ
    rw [List.pairwise_cons] at pw
    exact ⟨s, Z, hZ.2, fun y hy => ok y (by simp [hy]), pw.2⟩

end

/-! ### Iterators -/
section
variable {P : Program} {Q : Exit → Act → World → Prop} {w : World} {c : Code} {ds : List Deferred} {f : FuncId} {fn : Func} {cap : List Value} {N : Nat} {xs : Nat → List Value} {At : List Assn} {ops : Array Oper} {n : Nat} {l : Fr}
end

end Go.Proofs.YtfoliffeieeihaaGreatDoor
