/-
  Answers, step by step: the step that came in; the source that was copied. No walk in sight.
-/
import Derived.Test.YtjedglbadkbneaaDoorAnsO
namespace Go.Proofs.YtjedglbadkbneaaDoor
structure Stp where
  d : Int
  n : Int
  t : List UInt8
def eStp (s : Stp) : List Value := [.int .i64 s.d, .int .i64 s.n, .string (St s.t)]
theorem eStp_ok : Enc 3 eStp := ⟨fun _ => rfl, fun x v hv => by simp [eStp] at hv; rcases hv with rfl | rfl | rfl <;> rfl⟩
theorem pk_len (L : List Int) (n : Int) : (pk L n).length ≤ L.length := by unfold pk; rw [List.length_take]; omega
/-- Two sources with the same list, or none. -/
def Op2 (T U : Nat) (o1 o2 : Option Addr) : Assn := fun h => (o1 = none ∧ o2 = none) ∨ ∃ x : Nat × Nat × List Int, o1 = some ⟨x.1, 0, none⟩ ∧ o2 = some ⟨x.2.1, 0, none⟩ ∧ star [Sr T x.1 x.2.2, Sr U x.2.1 x.2.2] h
section
variable {g w : World} {A : List Assn} {T U b d : Nat} {M : List Int} {o1 o2 : Option Addr}
theorem op2_nil (T U : Nat) (h : sat g w A) : sat g w (Op2 T U none none :: A) := sat_imp (sl_nil 0 1 h) fun _ _ => .inl ⟨rfl, rfl⟩
theorem op2_close (h : sat g w (Sr T b M :: Sr U d M :: A)) : sat g w (Op2 T U (some ⟨b, 0, none⟩) (some ⟨d, 0, none⟩) :: A) :=
  sat_imp (sat_star (K := [Sr T b M, Sr U d M]) h) fun k hk => .inr ⟨(b, d, M), rfl, rfl, hk⟩
theorem op2_open (h : sat g w (Op2 T U o1 o2 :: A)) : (o1 = none ∧ o2 = none ∧ sat g w A) ∨ ∃ b d M, o1 = some ⟨b, 0, none⟩ ∧ o2 = some ⟨d, 0, none⟩ ∧ sat g w (Sr T b M :: Sr U d M :: A) := by
  obtain ⟨x, hx, h1⟩ := sat_open (X := Option (Nat × Nat × List Int)) (p := fun x => match x with | none => o1 = none ∧ o2 = none | some x => o1 = some ⟨x.1, 0, none⟩ ∧ o2 = some ⟨x.2.1, 0, none⟩)
    (B := fun x => match x with | none => Emp | some x => star [Sr T x.1 x.2.2, Sr U x.2.1 x.2.2]) h (fun k hk => by
      rcases hk with hk | ⟨x, h1, h2, h3⟩
      · exact ⟨none, hk, trivial⟩
      · exact ⟨some x, ⟨h1, h2⟩, h3⟩)
  cases x with
  | none => exact .inl ⟨hx.1, hx.2, sat_sel_tail h1⟩
  | some x => exact .inr ⟨x.1, x.2.1, x.2.2, hx.1, hx.2, sat_unstar h1⟩
end
end Go.Proofs.YtjedglbadkbneaaDoor
