/-
  The document's stack as an assertion.
-/
import Derived.Test.YtafencnieimpnaaG7
namespace Go.Proofs.Ytafencnieimpnaa

def RStk (b : Nat) (L : List Rf) : Assn := fun h => ∃ q : Option Addr × Nat × Nat, L.length = q.2.1 ∧ star [Cl b [.bool true, .slice q.1 q.2.1 q.2.2] 65, Sl 25 2 q.1 q.2.1 q.2.2 (fl eR L)] h
section
variable {g w : World} {A : List Assn} {b : Nat} {L : List Rf}
theorem rstk_open (h : sat g w (RStk b L :: A)) : ∃ p n c, L.length = n ∧ sat g w (Cl b [.bool true, .slice p n c] 65 :: Sl 25 2 p n c (fl eR L) :: A) := by
  obtain ⟨q, h1, h2⟩ := sat_open (X := Option Addr × Nat × Nat) (p := fun q => L.length = q.2.1) (B := fun q => star [Cl b [.bool true, .slice q.1 q.2.1 q.2.2] 65, Sl 25 2 q.1 q.2.1 q.2.2 (fl eR L)]) h (fun _ hh => hh)
  exact ⟨q.1, q.2.1, q.2.2, h1, sat_unstar h2⟩
theorem rstk_close {p : Option Addr} {n c : Nat} (h : sat g w (Cl b [.bool true, .slice p n c] 65 :: Sl 25 2 p n c (fl eR L) :: A)) (hn : L.length = n) : sat g w (RStk b L :: A) :=
  sat_imp (sat_star (K := [_, _]) h) fun _ hh => ⟨(p, n, c), hn, hh⟩
end
def fk : List Rf → Rf → Nat
  | [], _ => 0
  | x :: L, r => if x = r then 0 else fk L r + 1
theorem fk_is {L : List Rf} {r : Rf} (h : r ∈ L) : L[fk L r]? = some r ∧ ∀ j : Nat, j < fk L r → L[j]? ≠ some r := by
  induction L with
  | nil => cases h
  | cons x L ih =>
    by_cases e : x = r
    · simp [fk, e]
    · have h' : r ∈ L := by
        rcases List.mem_cons.1 h with h | h
        · exact absurd h.symm e
        · exact h
      obtain ⟨h1, h2⟩ := ih h'
      rw [fk, if_neg e]
      refine ⟨by simpa using h1, fun j hj => ?_⟩
      cases j with
      | zero => simpa using e
      | succ j => simpa using h2 j (by omega)
theorem er_eq' {L : List Rf} {k m a : Nat} (ha : a = k + 1) (h : L.length ≤ m + k + 1) : (L.drop 0).take k ++ (L.drop a).take m = L.eraseIdx k := by
  subst ha; exact er_eq h

end Go.Proofs.Ytafencnieimpnaa
