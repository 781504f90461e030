/- Walks, printed by my generator a0.py. -/
import Derived.Test.YtggfnbpohmhphaaDoorProg
import Derived.Test.YtggfnbpohmhphaaDoorAnsP
import Derived.Test.YtggfnbpohmhphaaDoorRws
import Derived.Test.YtggfnbpohmhphaaDoorRn2
namespace Go.Proofs.YtggfnbpohmhphaaDoor
open Go.RowKit
abbrev letW : List Value := [.int .u8 0, .int .u8 111, .int .u8 108, .int .u8 102]
/-- What lies in answer.letters. -/
def Lett (wo : World) : Prop := ∀ (k : Nat) (v : Value), letW[k]? = some v → wo.cell? ⟨0, k, none⟩ = some v
/-- A source with the list L. -/
def Sr (T b : Nat) (L : List Int) : Assn := fun h => L.length ≤ 2000 ∧ ∃ x : Option Addr × Nat, star [Cl b [.bool true, .slice x.1 L.length x.2] T, Vw 3 1 x.1 L.length x.2 (fl eI L)] h
section
variable {g w : World} {A : List Assn} {T b : Nat} {L : List Int} {l : List UInt8} {p ad : Option Addr} {c : Nat}
theorem sr_open (h : sat g w (Sr T b L :: A)) : L.length ≤ 2000 ∧ ∃ p c, sat g w (Cl b [.bool true, .slice p L.length c] T :: Vw 3 1 p L.length c (fl eI L) :: A) := by
  obtain ⟨⟨p, c⟩, hl, h1⟩ := sat_open (X := Option Addr × Nat) (p := fun _ => L.length ≤ 2000) (B := fun x => star [Cl b [.bool true, .slice x.1 L.length x.2] T, Vw 3 1 x.1 L.length x.2 (fl eI L)]) h (fun k hk => by
    obtain ⟨h1, x, h2⟩ := hk
    exact ⟨x, h1, h2⟩)
  exact ⟨hl, p, c, sat_unstar h1⟩
theorem sr_close (hl : L.length ≤ 2000) (h : sat g w (Cl b [.bool true, .slice p L.length c] T :: Vw 3 1 p L.length c (fl eI L) :: A)) : sat g w (Sr T b L :: A) :=
  sat_imp (sat_star (K := [Cl b [.bool true, .slice p L.length c] T, Vw 3 1 p L.length c (fl eI L)]) h) fun k hk => ⟨hl, (p, c), hk⟩
end
section
variable {g w : World} {A : List Assn} {T b : Nat} {L : List Int} {p : Option Addr} {c : Nat}
theorem sr_next {q : Option Addr} {b' off off' : Nat} (hp : p = some ⟨b', off, none⟩) (hq : q = some ⟨b', off', none⟩) (hn : 0 < L.length) (ho : (if c = 1 then off else off + 1 * 1) = off') (h : sat g w (Vw 3 1 p L.length c (fl eI L) :: A)) : sat g w (Vw 3 1 q L.tail.length (c - 1) (fl eI L.tail) :: A) := by
  have h1 := vw_drop (i := 1) hp hn ho hq h
  rw [fl_drop eI_ok, tl_drop] at h1
  rw [List.length_tail]
  exact h1
end
end Go.Proofs.YtggfnbpohmhphaaDoor
