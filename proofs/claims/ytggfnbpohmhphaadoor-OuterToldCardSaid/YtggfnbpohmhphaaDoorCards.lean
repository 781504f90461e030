/-
  DERIVED. GIVEN WITH THE SEED: THE CARDS: each row of YtggfnbpohmhphaaDoorRows.lean that lists a variable, with what it lists TIED to the program's text (the seventh form; the later family's looks); each row that meets fmt, with fmt's text TOLD by the authors' own Lean function (tested against real Go, not proved from fmt's source: count such statements apart). THE CARD IS WHAT COUNTS. Prove the row's statement (the work); the ties are given (YtggfnbpohmhphaaDoorTie.lean); close each card by the builder's one call (the guide's Derived/Test/ToyasCard.lean, 'card_holds'). Laid BY PROGRAM, IN A SANDBOX (cutbox-door.mjs). By AI agents, Wed Nov 11 2026. No macro, syntax, notation, axiom, sorry.
-/
import Derived.Test.YtggfnbpohmhphaaDoorRows
import GoSem.ClaimSeven
namespace Go.Proofs.YtggfnbpohmhphaaDoor
namespace Rows

/-- THE TIED CARD OF 'estraylaw12.OuterTold'. -/
def outerToldCard : Claim7 := { stood := { row := outerToldRow, standIns := [], harness := (true, "641f641793d3de51cdaa72b6170c1c238a69333528cc6e04532ce66966e65593"), looks := true }, kinds := [], alts := [], laidByText := true, laidKinds := [.widerDeep], laidTests := true, laidLooks := .later }
def OuterToldCardSaid : Prop := Claim7.holds Tryd.pinned (.plain (OpenSpec.ofChange outerToldSpec)) outerToldCard

/-- THE SECOND FORM's CARD OF 'estraylaw12.OuterTold'. -/
def outerToldUptoCard : Claim7 := { stood := { row := outerToldUptoRow, standIns := [], harness := (true, "641f641793d3de51cdaa72b6170c1c238a69333528cc6e04532ce66966e65593"), looks := true }, kinds := [], alts := [], laidByText := true, laidKinds := [.widerDeep], laidTests := true, laidLooks := .later }
def OuterToldUptoCardSaid : Prop := Claim7.holds Tryd.pinned (.plain (OpenSpec.upto outerToldSpec)) outerToldUptoCard
end Rows
end Go.Proofs.YtggfnbpohmhphaaDoor
