/-
  DERIVED. GIVEN WITH THE SEED: THE CARDS: each row of YtcgkoffnknpgjaaGreatDoorRows.lean that lists a variable, with what it lists TIED to the program's text (the seventh form; the later family's looks); each row that meets fmt, with fmt's text TOLD by the authors' own Lean function (tested against real Go, not proved from fmt's source: count such statements apart). THE CARD IS WHAT COUNTS. Prove the row's statement (the work); the ties are given (YtcgkoffnknpgjaaGreatDoorTie.lean); close each card by the builder's one call (the guide's Derived/Test/ToyasCard.lean, 'card_holds'). Laid BY PROGRAM, IN A SANDBOX (cutbox-door.mjs). By AI agents, Wed Nov 11 2026. No macro, syntax, notation, axiom, sorry.
-/
import Derived.Test.YtcgkoffnknpgjaaGreatDoorRows
import GoSem.ClaimSeven
namespace Go.Proofs.YtcgkoffnknpgjaaGreatDoor
namespace Rows

/-- THE TIED CARD OF 'estraytop.TopRetired'. -/
def topRetiredCard : Claim7 := { stood := { row := topRetiredRow, standIns := [], harness := (true, "d395bf85b63a306879471ae60636049d9882ea0913f342a6974b743663aac8b2"), looks := true }, kinds := [], alts := [], laidByText := true, laidKinds := [.widerDeep], laidTests := true, laidLooks := .later }
def TopRetiredCardSaid : Prop := Claim7.holds Tryz.pinned (.plain (OpenSpec.ofChange topRetiredSpec)) topRetiredCard

/-- THE TIED CARD OF 'estraytop.TopRaces'. -/
def topRacesCard : Claim7 := { stood := { row := topRacesRow, standIns := [], harness := (true, "d395bf85b63a306879471ae60636049d9882ea0913f342a6974b743663aac8b2"), looks := true }, kinds := [], alts := [], laidByText := true, laidKinds := [.widerDeep], laidTests := true, laidLooks := .later }
def TopRacesCardSaid : Prop := Claim7.holds Tryz.pinned (.plain (OpenSpec.ofChange topRacesSpec)) topRacesCard

/-- THE SECOND FORM's CARD OF 'estraytop.TopRetired'. -/
def topRetiredUptoCard : Claim7 := { stood := { row := topRetiredUptoRow, standIns := [], harness := (true, "d395bf85b63a306879471ae60636049d9882ea0913f342a6974b743663aac8b2"), looks := true }, kinds := [], alts := [], laidByText := true, laidKinds := [.widerDeep], laidTests := true, laidLooks := .later }
def TopRetiredUptoCardSaid : Prop := Claim7.holds Tryz.pinned (.plain (OpenSpec.upto topRetiredSpec)) topRetiredUptoCard

/-- THE SECOND FORM's CARD OF 'estraytop.TopRaces'. -/
def topRacesUptoCard : Claim7 := { stood := { row := topRacesUptoRow, standIns := [], harness := (true, "d395bf85b63a306879471ae60636049d9882ea0913f342a6974b743663aac8b2"), looks := true }, kinds := [], alts := [], laidByText := true, laidKinds := [.widerDeep], laidTests := true, laidLooks := .later }
def TopRacesUptoCardSaid : Prop := Claim7.holds Tryz.pinned (.plain (OpenSpec.upto topRacesSpec)) topRacesUptoCard
end Rows
end Go.Proofs.YtcgkoffnknpgjaaGreatDoor
