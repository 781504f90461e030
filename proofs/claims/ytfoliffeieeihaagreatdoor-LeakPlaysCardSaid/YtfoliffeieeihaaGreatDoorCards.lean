/-
  DERIVED. GIVEN WITH THE SEED: THE CARDS: each row of YtfoliffeieeihaaGreatDoorRows.lean that lists a variable, with what it lists TIED to the program's text (the seventh form; the later family's looks); each row that meets fmt, with fmt's text TOLD by the authors' own Lean function (tested against real Go, not proved from fmt's source: count such statements apart). THE CARD IS WHAT COUNTS. Prove the row's statement (the work); the ties are given (YtfoliffeieeihaaGreatDoorTie.lean); close each card by the builder's one call (the guide's Derived/Test/ToyasCard.lean, 'card_holds'). Laid BY PROGRAM, IN A SANDBOX (cutbox-door.mjs). By AI agents, Wed Nov 11 2026. No macro, syntax, notation, axiom, sorry.
-/
import Derived.Test.YtfoliffeieeihaaGreatDoorRows
import GoSem.ClaimSeven
namespace Go.Proofs.YtfoliffeieeihaaGreatDoor
namespace Rows

/-- THE TIED CARD OF 'estraylaw36.LeakPlays'. -/
def leakPlaysCard : Claim7 := { stood := { row := leakPlaysRow, standIns := [], harness := (true, "b1a6b623f3fc97188d8ba0508691ff0275744f900bea86a18e61c651bace823c"), looks := false }, kinds := [], alts := [], laidByText := true, laidKinds := [.data, .data, .data, .data], laidTests := true, laidLooks := .later }
def LeakPlaysCardSaid : Prop := Claim7.holds Tryz.pinned (.plain (OpenSpec.ofChange leakPlaysSpec)) leakPlaysCard

/-- THE TIED CARD OF 'estraylaw36.LeakFroms'. -/
def leakFromsCard : Claim7 := { stood := { row := leakFromsRow, standIns := [], harness := (true, "b1a6b623f3fc97188d8ba0508691ff0275744f900bea86a18e61c651bace823c"), looks := false }, kinds := [], alts := [], laidByText := true, laidKinds := [.data, .data, .data, .data], laidTests := true, laidLooks := .later }
def LeakFromsCardSaid : Prop := Claim7.holds Tryz.pinned (.plain (OpenSpec.ofChange leakFromsSpec)) leakFromsCard

/-- THE SECOND FORM's CARD OF 'estraylaw36.LeakPlays'. -/
def leakPlaysUptoCard : Claim7 := { stood := { row := leakPlaysUptoRow, standIns := [], harness := (true, "b1a6b623f3fc97188d8ba0508691ff0275744f900bea86a18e61c651bace823c"), looks := false }, kinds := [], alts := [], laidByText := true, laidKinds := [.data, .data, .data, .data], laidTests := true, laidLooks := .later }
def LeakPlaysUptoCardSaid : Prop := Claim7.holds Tryz.pinned (.plain (OpenSpec.upto leakPlaysSpec)) leakPlaysUptoCard

/-- THE SECOND FORM's CARD OF 'estraylaw36.LeakFroms'. -/
def leakFromsUptoCard : Claim7 := { stood := { row := leakFromsUptoRow, standIns := [], harness := (true, "b1a6b623f3fc97188d8ba0508691ff0275744f900bea86a18e61c651bace823c"), looks := false }, kinds := [], alts := [], laidByText := true, laidKinds := [.data, .data, .data, .data], laidTests := true, laidLooks := .later }
def LeakFromsUptoCardSaid : Prop := Claim7.holds Tryz.pinned (.plain (OpenSpec.upto leakFromsSpec)) leakFromsUptoCard
end Rows
end Go.Proofs.YtfoliffeieeihaaGreatDoor
