/-
  DERIVED. GIVEN WITH THE SEED: THE CARDS: each row of YtehlamblpekmkaaGreatDoorRows.lean that lists a variable, with what it lists TIED to the program's text (the seventh form; the later family's looks); each row that meets fmt, with fmt's text TOLD by the authors' own Lean function (tested against real Go, not proved from fmt's source: count such statements apart). THE CARD IS WHAT COUNTS. Prove the row's statement (the work); the ties are given (YtehlamblpekmkaaGreatDoorTie.lean); close each card by the builder's one call (the guide's Derived/Test/ToyasCard.lean, 'card_holds'). Laid BY PROGRAM, IN A SANDBOX (cutbox-door.mjs). By AI agents, Wed Nov 11 2026. No macro, syntax, notation, axiom, sorry.
-/
import Derived.Test.YtehlamblpekmkaaGreatDoorRows
import GoSem.ClaimSeven
namespace Go.Proofs.YtehlamblpekmkaaGreatDoor
namespace Rows

/-- THE TIED CARD OF 'estraylaw34.BatchNil'. -/
def batchNilCard : Claim7 := { stood := { row := batchNilRow, standIns := [], harness := (true, "9de32fd99920f5748e0abfdc0b702f4b2023793e5ace24087229fe5df85d5615"), looks := true }, kinds := [], alts := [], laidByText := true, laidKinds := [.widerDeep], laidTests := true, laidLooks := .later }
def BatchNilCardSaid : Prop := Claim7.holds Tryz.pinned (.plain (OpenSpec.ofChange batchNilSpec)) batchNilCard

/-- THE TIED CARD OF 'estraylaw34.BatchTurns'. -/
def batchTurnsCard : Claim7 := { stood := { row := batchTurnsRow, standIns := [], harness := (true, "9de32fd99920f5748e0abfdc0b702f4b2023793e5ace24087229fe5df85d5615"), looks := true }, kinds := [], alts := [], laidByText := true, laidKinds := [.widerDeep], laidTests := true, laidLooks := .later }
def BatchTurnsCardSaid : Prop := Claim7.holds Tryz.pinned (.plain (OpenSpec.ofChange batchTurnsSpec)) batchTurnsCard

/-- THE TIED CARD OF 'estraylaw34.BatchWaits'. -/
def batchWaitsCard : Claim7 := { stood := { row := batchWaitsRow, standIns := [], harness := (true, "9de32fd99920f5748e0abfdc0b702f4b2023793e5ace24087229fe5df85d5615"), looks := true }, kinds := [], alts := [], laidByText := true, laidKinds := [.widerDeep], laidTests := true, laidLooks := .later }
def BatchWaitsCardSaid : Prop := Claim7.holds Tryz.pinned (.plain (OpenSpec.ofChange batchWaitsSpec)) batchWaitsCard

/-- THE TIED CARD OF 'estraylaw34.BatchAnswers'. -/
def batchAnswersCard : Claim7 := { stood := { row := batchAnswersRow, standIns := [], harness := (true, "9de32fd99920f5748e0abfdc0b702f4b2023793e5ace24087229fe5df85d5615"), looks := true }, kinds := [], alts := [], laidByText := true, laidKinds := [.widerDeep], laidTests := true, laidLooks := .later }
def BatchAnswersCardSaid : Prop := Claim7.holds Tryz.pinned (.plain (OpenSpec.ofChange batchAnswersSpec)) batchAnswersCard

/-- THE TIED CARD OF 'estraylaw34.BatchRefuses'. -/
def batchRefusesCard : Claim7 := { stood := { row := batchRefusesRow, standIns := [], harness := (true, "9de32fd99920f5748e0abfdc0b702f4b2023793e5ace24087229fe5df85d5615"), looks := true }, kinds := [], alts := [], laidByText := true, laidKinds := [.widerDeep], laidTests := true, laidLooks := .later }
def BatchRefusesCardSaid : Prop := Claim7.holds Tryz.pinned (.plain (OpenSpec.ofChange batchRefusesSpec)) batchRefusesCard

/-- THE TIED CARD OF 'estraylaw34.BatchPlays'. -/
def batchPlaysCard : Claim7 := { stood := { row := batchPlaysRow, standIns := [], harness := (true, "9de32fd99920f5748e0abfdc0b702f4b2023793e5ace24087229fe5df85d5615"), looks := true }, kinds := [], alts := [], laidByText := true, laidKinds := [.widerDeep], laidTests := true, laidLooks := .later }
def BatchPlaysCardSaid : Prop := Claim7.holds Tryz.pinned (.plain (OpenSpec.ofChange batchPlaysSpec)) batchPlaysCard

/-- THE TIED CARD OF 'estraylaw34.BatchEnds'. -/
def batchEndsCard : Claim7 := { stood := { row := batchEndsRow, standIns := [], harness := (true, "9de32fd99920f5748e0abfdc0b702f4b2023793e5ace24087229fe5df85d5615"), looks := true }, kinds := [], alts := [], laidByText := true, laidKinds := [.widerDeep], laidTests := true, laidLooks := .later }
def BatchEndsCardSaid : Prop := Claim7.holds Tryz.pinned (.plain (OpenSpec.ofChange batchEndsSpec)) batchEndsCard

/-- THE SECOND FORM's CARD OF 'estraylaw34.BatchNil'. -/
def batchNilUptoCard : Claim7 := { stood := { row := batchNilUptoRow, standIns := [], harness := (true, "9de32fd99920f5748e0abfdc0b702f4b2023793e5ace24087229fe5df85d5615"), looks := true }, kinds := [], alts := [], laidByText := true, laidKinds := [.widerDeep], laidTests := true, laidLooks := .later }
def BatchNilUptoCardSaid : Prop := Claim7.holds Tryz.pinned (.plain (OpenSpec.upto batchNilSpec)) batchNilUptoCard

/-- THE SECOND FORM's CARD OF 'estraylaw34.BatchTurns'. -/
def batchTurnsUptoCard : Claim7 := { stood := { row := batchTurnsUptoRow, standIns := [], harness := (true, "9de32fd99920f5748e0abfdc0b702f4b2023793e5ace24087229fe5df85d5615"), looks := true }, kinds := [], alts := [], laidByText := true, laidKinds := [.widerDeep], laidTests := true, laidLooks := .later }
def BatchTurnsUptoCardSaid : Prop := Claim7.holds Tryz.pinned (.plain (OpenSpec.upto batchTurnsSpec)) batchTurnsUptoCard

/-- THE SECOND FORM's CARD OF 'estraylaw34.BatchWaits'. -/
def batchWaitsUptoCard : Claim7 := { stood := { row := batchWaitsUptoRow, standIns := [], harness := (true, "9de32fd99920f5748e0abfdc0b702f4b2023793e5ace24087229fe5df85d5615"), looks := true }, kinds := [], alts := [], laidByText := true, laidKinds := [.widerDeep], laidTests := true, laidLooks := .later }
def BatchWaitsUptoCardSaid : Prop := Claim7.holds Tryz.pinned (.plain (OpenSpec.upto batchWaitsSpec)) batchWaitsUptoCard

/-- THE SECOND FORM's CARD OF 'estraylaw34.BatchAnswers'. -/
def batchAnswersUptoCard : Claim7 := { stood := { row := batchAnswersUptoRow, standIns := [], harness := (true, "9de32fd99920f5748e0abfdc0b702f4b2023793e5ace24087229fe5df85d5615"), looks := true }, kinds := [], alts := [], laidByText := true, laidKinds := [.widerDeep], laidTests := true, laidLooks := .later }
def BatchAnswersUptoCardSaid : Prop := Claim7.holds Tryz.pinned (.plain (OpenSpec.upto batchAnswersSpec)) batchAnswersUptoCard

/-- THE SECOND FORM's CARD OF 'estraylaw34.BatchRefuses'. -/
def batchRefusesUptoCard : Claim7 := { stood := { row := batchRefusesUptoRow, standIns := [], harness := (true, "9de32fd99920f5748e0abfdc0b702f4b2023793e5ace24087229fe5df85d5615"), looks := true }, kinds := [], alts := [], laidByText := true, laidKinds := [.widerDeep], laidTests := true, laidLooks := .later }
def BatchRefusesUptoCardSaid : Prop := Claim7.holds Tryz.pinned (.plain (OpenSpec.upto batchRefusesSpec)) batchRefusesUptoCard

/-- THE SECOND FORM's CARD OF 'estraylaw34.BatchPlays'. -/
def batchPlaysUptoCard : Claim7 := { stood := { row := batchPlaysUptoRow, standIns := [], harness := (true, "9de32fd99920f5748e0abfdc0b702f4b2023793e5ace24087229fe5df85d5615"), looks := true }, kinds := [], alts := [], laidByText := true, laidKinds := [.widerDeep], laidTests := true, laidLooks := .later }
def BatchPlaysUptoCardSaid : Prop := Claim7.holds Tryz.pinned (.plain (OpenSpec.upto batchPlaysSpec)) batchPlaysUptoCard

/-- THE SECOND FORM's CARD OF 'estraylaw34.BatchEnds'. -/
def batchEndsUptoCard : Claim7 := { stood := { row := batchEndsUptoRow, standIns := [], harness := (true, "9de32fd99920f5748e0abfdc0b702f4b2023793e5ace24087229fe5df85d5615"), looks := true }, kinds := [], alts := [], laidByText := true, laidKinds := [.widerDeep], laidTests := true, laidLooks := .later }
def BatchEndsUptoCardSaid : Prop := Claim7.holds Tryz.pinned (.plain (OpenSpec.upto batchEndsSpec)) batchEndsUptoCard
end Rows
end Go.Proofs.YtehlamblpekmkaaGreatDoor
