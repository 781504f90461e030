/-
  What is no stack: nil, or not made.
-/
import Derived.Test.YtafencnieimpnaaG5
namespace Go.Proofs.Ytafencnieimpnaa

def NoStk (o : Option Addr) : Assn := fun h => o = none ∨ ∃ q : Nat × List Value, o = some ⟨q.1, 0, none⟩ ∧ q.2[0]? = some (.bool false) ∧ Cl q.1 q.2 57 h
section
variable {g w : World} {A : List Assn} {o : Option Addr}
theorem nostk_nil (h : sat g w A) : sat g w (NoStk none :: A) := by
  obtain ⟨s, Z, hZ, ok, pw⟩ := h
  refine ⟨s, (NoStk none, fun _ => none) :: Z, by simp [hZ], ?_, ?_⟩
  · intro z hz
    rcases List.mem_cons.1 hz with rfl | hz
    · exact ⟨.inl rfl, fun b o e => by cases e⟩
    · exact ok z hz
  · rw [List.pairwise_cons]
    exact ⟨fun z _ b => .inl rfl, pw⟩
theorem nostk_of {b : Nat} {cs : List Value} (h : sat g w (Cl b cs 57 :: A)) (h0 : cs[0]? = some (.bool false)) : sat g w (NoStk (some ⟨b, 0, none⟩) :: A) :=
  sat_imp h fun _ hh => .inr ⟨(b, cs), rfl, h0, hh⟩
theorem nostk_cases (h : sat g w (NoStk o :: A)) : o = none ∨ ∃ b cs, o = some ⟨b, 0, none⟩ ∧ cs[0]? = some (.bool false) ∧ sat g w (Cl b cs 57 :: A) := by
  cases o with
  | none => exact .inl rfl
  | some a =>
    obtain ⟨q, ⟨h1, h2⟩, h3⟩ := sat_open (X := Nat × List Value) (p := fun q => some a = some ⟨q.1, 0, none⟩ ∧ q.2[0]? = some (.bool false)) (B := fun q => Cl q.1 q.2 57) h (fun _ hh => by
      rcases hh with hh | ⟨q, h1, h2, h3⟩
      · cases hh
      · exact ⟨q, ⟨h1, h2⟩, h3⟩)
    exact .inr ⟨q.1, q.2, h1, h2, h3⟩
end

end Go.Proofs.Ytafencnieimpnaa
