/-
  DERIVED. GIVEN WITH THE SEED: THE CARDS: each row of YtfoliffeieeihaaDoorRows.lean that lists a variable, with what it lists TIED to the program's text (the seventh form; the later family's looks); each row that meets fmt, with fmt's text TOLD by the authors' own Lean function (tested against real Go, not proved from fmt's source: count such statements apart). THE CARD IS WHAT COUNTS. Prove the row's statement (the work); the ties are given (YtfoliffeieeihaaDoorTie.lean); close each card by the builder's one call (the guide's Derived/Test/ToyasCard.lean, 'card_holds'). Laid BY PROGRAM, IN A SANDBOX (cutbox-door.mjs). By AI agents, Wed Nov 11 2026. No macro, syntax, notation, axiom, sorry.
-/
import Derived.Test.YtfoliffeieeihaaDoorRows
import GoSem.ClaimSeven
namespace Go.Proofs.YtfoliffeieeihaaDoor
namespace Rows

/-- THE TIED CARD OF 'estraylaw36.LeakEnds'. -/
def leakEndsCard : Claim7 := { stood := { row := leakEndsRow, standIns := [], harness := (true, "2fd3589cfad396625c975a40fdb2a1966eb01ac6305f079de486fc4213b8286a"), looks := false }, kinds := [], alts := [], laidByText := true, laidKinds := [.data, .data, .data, .data, .data], laidTests := true, laidLooks := .later }
def LeakEndsCardSaid : Prop := Claim7.holds Tryd.pinned (.plain (OpenSpec.ofChange leakEndsSpec)) leakEndsCard

/-- THE TIED CARD OF 'estraylaw36.LeakStays'. -/
def leakStaysCard : Claim7 := { stood := { row := leakStaysRow, standIns := [], harness := (true, "2fd3589cfad396625c975a40fdb2a1966eb01ac6305f079de486fc4213b8286a"), looks := false }, kinds := [], alts := [], laidByText := true, laidKinds := [.data, .data, .data, .data, .data], laidTests := true, laidLooks := .later }
def LeakStaysCardSaid : Prop := Claim7.holds Tryd.pinned (.plain (OpenSpec.ofChange leakStaysSpec)) leakStaysCard

/-- THE TIED CARD OF 'estraylaw36.LeakFirst'. -/
def leakFirstCard : Claim7 := { stood := { row := leakFirstRow, standIns := [], harness := (true, "2fd3589cfad396625c975a40fdb2a1966eb01ac6305f079de486fc4213b8286a"), looks := false }, kinds := [], alts := [], laidByText := true, laidKinds := [.data, .data, .data, .data, .data], laidTests := true, laidLooks := .later }
def LeakFirstCardSaid : Prop := Claim7.holds Tryd.pinned (.plain (OpenSpec.ofChange leakFirstSpec)) leakFirstCard

/-- THE TIED CARD OF 'estraylaw36.LeakCounts'. -/
def leakCountsCard : Claim7 := { stood := { row := leakCountsRow, standIns := [], harness := (true, "2fd3589cfad396625c975a40fdb2a1966eb01ac6305f079de486fc4213b8286a"), looks := false }, kinds := [], alts := [], laidByText := true, laidKinds := [.data, .data, .data, .data, .data], laidTests := true, laidLooks := .later }
def LeakCountsCardSaid : Prop := Claim7.holds Tryd.pinned (.plain (OpenSpec.ofChange leakCountsSpec)) leakCountsCard

/-- THE TIED CARD OF 'estraylaw36.LeakKnown'. -/
def leakKnownCard : Claim7 := { stood := { row := leakKnownRow, standIns := [], harness := (true, "2fd3589cfad396625c975a40fdb2a1966eb01ac6305f079de486fc4213b8286a"), looks := false }, kinds := [], alts := [], laidByText := true, laidKinds := [.data, .data, .data, .data], laidTests := true, laidLooks := .later }
def LeakKnownCardSaid : Prop := Claim7.holds Tryd.pinned (.plain (OpenSpec.ofChange leakKnownSpec)) leakKnownCard

/-- THE TIED CARD OF 'estraylaw36.LeakApart'. -/
def leakApartCard : Claim7 := { stood := { row := leakApartRow, standIns := [], harness := (true, "2fd3589cfad396625c975a40fdb2a1966eb01ac6305f079de486fc4213b8286a"), looks := false }, kinds := [], alts := [], laidByText := true, laidKinds := [.data, .data, .data, .data, .data], laidTests := true, laidLooks := .later }
def LeakApartCardSaid : Prop := Claim7.holds Tryd.pinned (.plain (OpenSpec.ofChange leakApartSpec)) leakApartCard

/-- THE TIED CARD OF 'estraylaw36.LeakNil'. -/
def leakNilCard : Claim7 := { stood := { row := leakNilRow, standIns := [], harness := (true, "2fd3589cfad396625c975a40fdb2a1966eb01ac6305f079de486fc4213b8286a"), looks := false }, kinds := [], alts := [], laidByText := true, laidKinds := [.data, .data, .data, .data], laidTests := true, laidLooks := .later }
def LeakNilCardSaid : Prop := Claim7.holds Tryd.pinned (.plain (OpenSpec.ofChange leakNilSpec)) leakNilCard

/-- THE TIED CARD OF 'estraylaw36.LeakFrom'. -/
def leakFromCard : Claim7 := { stood := { row := leakFromRow, standIns := [], harness := (true, "2fd3589cfad396625c975a40fdb2a1966eb01ac6305f079de486fc4213b8286a"), looks := false }, kinds := [], alts := [], laidByText := true, laidKinds := [.data, .data, .data, .data, .data], laidTests := true, laidLooks := .later }
def LeakFromCardSaid : Prop := Claim7.holds Tryd.pinned (.plain (OpenSpec.ofChange leakFromSpec)) leakFromCard

/-- THE SECOND FORM's CARD OF 'estraylaw36.LeakEnds'. -/
def leakEndsUptoCard : Claim7 := { stood := { row := leakEndsUptoRow, standIns := [], harness := (true, "2fd3589cfad396625c975a40fdb2a1966eb01ac6305f079de486fc4213b8286a"), looks := false }, kinds := [], alts := [], laidByText := true, laidKinds := [.data, .data, .data, .data, .data], laidTests := true, laidLooks := .later }
def LeakEndsUptoCardSaid : Prop := Claim7.holds Tryd.pinned (.plain (OpenSpec.upto leakEndsSpec)) leakEndsUptoCard

/-- THE SECOND FORM's CARD OF 'estraylaw36.LeakStays'. -/
def leakStaysUptoCard : Claim7 := { stood := { row := leakStaysUptoRow, standIns := [], harness := (true, "2fd3589cfad396625c975a40fdb2a1966eb01ac6305f079de486fc4213b8286a"), looks := false }, kinds := [], alts := [], laidByText := true, laidKinds := [.data, .data, .data, .data, .data], laidTests := true, laidLooks := .later }
def LeakStaysUptoCardSaid : Prop := Claim7.holds Tryd.pinned (.plain (OpenSpec.upto leakStaysSpec)) leakStaysUptoCard

/-- THE SECOND FORM's CARD OF 'estraylaw36.LeakFirst'. -/
def leakFirstUptoCard : Claim7 := { stood := { row := leakFirstUptoRow, standIns := [], harness := (true, "2fd3589cfad396625c975a40fdb2a1966eb01ac6305f079de486fc4213b8286a"), looks := false }, kinds := [], alts := [], laidByText := true, laidKinds := [.data, .data, .data, .data, .data], laidTests := true, laidLooks := .later }
def LeakFirstUptoCardSaid : Prop := Claim7.holds Tryd.pinned (.plain (OpenSpec.upto leakFirstSpec)) leakFirstUptoCard

/-- THE SECOND FORM's CARD OF 'estraylaw36.LeakCounts'. -/
def leakCountsUptoCard : Claim7 := { stood := { row := leakCountsUptoRow, standIns := [], harness := (true, "2fd3589cfad396625c975a40fdb2a1966eb01ac6305f079de486fc4213b8286a"), looks := false }, kinds := [], alts := [], laidByText := true, laidKinds := [.data, .data, .data, .data, .data], laidTests := true, laidLooks := .later }
def LeakCountsUptoCardSaid : Prop := Claim7.holds Tryd.pinned (.plain (OpenSpec.upto leakCountsSpec)) leakCountsUptoCard

/-- THE SECOND FORM's CARD OF 'estraylaw36.LeakKnown'. -/
def leakKnownUptoCard : Claim7 := { stood := { row := leakKnownUptoRow, standIns := [], harness := (true, "2fd3589cfad396625c975a40fdb2a1966eb01ac6305f079de486fc4213b8286a"), looks := false }, kinds := [], alts := [], laidByText := true, laidKinds := [.data, .data, .data, .data], laidTests := true, laidLooks := .later }
def LeakKnownUptoCardSaid : Prop := Claim7.holds Tryd.pinned (.plain (OpenSpec.upto leakKnownSpec)) leakKnownUptoCard

/-- THE SECOND FORM's CARD OF 'estraylaw36.LeakApart'. -/
def leakApartUptoCard : Claim7 := { stood := { row := leakApartUptoRow, standIns := [], harness := (true, "2fd3589cfad396625c975a40fdb2a1966eb01ac6305f079de486fc4213b8286a"), looks := false }, kinds := [], alts := [], laidByText := true, laidKinds := [.data, .data, .data, .data, .data], laidTests := true, laidLooks := .later }
def LeakApartUptoCardSaid : Prop := Claim7.holds Tryd.pinned (.plain (OpenSpec.upto leakApartSpec)) leakApartUptoCard

/-- THE SECOND FORM's CARD OF 'estraylaw36.LeakNil'. -/
def leakNilUptoCard : Claim7 := { stood := { row := leakNilUptoRow, standIns := [], harness := (true, "2fd3589cfad396625c975a40fdb2a1966eb01ac6305f079de486fc4213b8286a"), looks := false }, kinds := [], alts := [], laidByText := true, laidKinds := [.data, .data, .data, .data], laidTests := true, laidLooks := .later }
def LeakNilUptoCardSaid : Prop := Claim7.holds Tryd.pinned (.plain (OpenSpec.upto leakNilSpec)) leakNilUptoCard

/-- THE SECOND FORM's CARD OF 'estraylaw36.LeakFrom'. -/
def leakFromUptoCard : Claim7 := { stood := { row := leakFromUptoRow, standIns := [], harness := (true, "2fd3589cfad396625c975a40fdb2a1966eb01ac6305f079de486fc4213b8286a"), looks := false }, kinds := [], alts := [], laidByText := true, laidKinds := [.data, .data, .data, .data, .data], laidTests := true, laidLooks := .later }
def LeakFromUptoCardSaid : Prop := Claim7.holds Tryd.pinned (.plain (OpenSpec.upto leakFromSpec)) leakFromUptoCard
end Rows
end Go.Proofs.YtfoliffeieeihaaDoor
