/-
  NARROWER THAN 'FOR EVERY INPUT', by the rows' own cells (each row's printed sentence says how): TopRetired: laid · TopRaces: laid.
  DERIVED. THE GIVEN ROWS OF THIS SEAT. 2 by the template 'for every input the law returns true; each argument reads behind the call as it read before'; 0 by the template 'total and deterministic' (their statements: YtcgkoffnknpgjaaGreatDoorTotals.lean).
  GIVEN WITH THE SEED: the statements are not yours to turn. If you find one false, say at which input.
  Laid BY PROGRAM, IN A SANDBOX (cutbox-rows.mjs): the forced cells as the released guide's own fill.sh prints them over the translation c1feaa3e90eaea66… (all of the seat's roots in one cut). By AI agents, Wed Nov 11 2026. No macro, syntax, notation, axiom, sorry.
-/
import Derived.Test.YtcgkoffnknpgjaaGreatDoorChecked
import GoSem.Claim
import GoSem.ClaimJoined
import GoSem.ClaimMapViews
import Derived.JoinedTies
import Derived.KernelRfl
namespace Go.Proofs.YtcgkoffnknpgjaaGreatDoor
/- THE CELL 'sum', in the pinned program and in every row, IS THE sha256 OF THE DUMP (.gsa) THAT YtcgkoffnknpgjaaGreatDoorProg.lean LOADS. Nothing in Lean hashes anything: it is a label: what it is worth is what the hold of that sum in a sandbox is worth. -/
noncomputable def Tryz.pinned : Pinned := { name := "ytcgkoffnknpgjaagreatdoor", sum := "c1feaa3e90eaea663b6139054b890221afe48ee7f95dab7e82b610538af87a6d", checked := Tryz.checked }
namespace Rows
def none {H : Type} : Left H := { results := [], args := [] }

/- WHAT THE LISTED PACKAGE-LEVEL VARIABLES READ AS WHEN THE CALL BEGINS. Each datum BY PROGRAM (the guide's laid-datum.mjs) off the statement by which the dump's own 'gosem.cut.vars' lays the variable. In a bare row this is a premise. The card (YtcgkoffnknpgjaaGreatDoorCards.lean) ties it to the program's text. -/
def laid_estray_answer_letters {H : Type} : DataW H := .agg [.lit (.int .u8 0), .lit (.int .u8 111), .lit (.int .u8 108), .lit (.int .u8 102)]

/-- 'estraytop.TopRetired': WHATEVER THE INPUT: true; the input reads as it did. -/
def topRetiredSpec : ChangeSpec := { name := "topRetired", fn := fun _ => fun
  | [d1, d2] => { results := [.lit (.bool true)], args := [d1, d2] }
  | _ => none }
def topRetiredRow : OpenClaim := { program := "ytcgkoffnknpgjaagreatdoor", sum := "c1feaa3e90eaea663b6139054b890221afe48ee7f95dab7e82b610538af87a6d", func := "estray/estraytop.TopRetired", spec := "topRetired", inPlace := ["maps.clone"], unfollowed := true, recurses := true, named := ["estray/answer.letters"], plainKeys := false, apart := false, laid := [("estray/answer.letters", laid_estray_answer_letters)] }
def TopRetiredSaid : Prop := topRetiredRow.holds Tryz.pinned (OpenSpec.ofChange topRetiredSpec)

/-- ITS FALSE NEIGHBOUR: 'it returns false'. Refute it at one input. -/
def topRetiredWrong : ChangeSpec := { name := "topRetired", fn := fun _ => fun
  | [d1, d2] => { results := [.lit (.bool false)], args := [d1, d2] }
  | _ => none }
def TopRetiredWrongFalsely : Prop := topRetiredRow.holds Tryz.pinned (OpenSpec.ofChange topRetiredWrong)

/-- 'estraytop.TopRaces': WHATEVER THE INPUT: true; the input reads as it did. -/
def topRacesSpec : ChangeSpec := { name := "topRaces", fn := fun _ => fun
  | [d1, d2, d3] => { results := [.lit (.bool true)], args := [d1, d2, d3] }
  | _ => none }
def topRacesRow : OpenClaim := { program := "ytcgkoffnknpgjaagreatdoor", sum := "c1feaa3e90eaea663b6139054b890221afe48ee7f95dab7e82b610538af87a6d", func := "estray/estraytop.TopRaces", spec := "topRaces", inPlace := ["maps.clone"], unfollowed := true, recurses := true, named := ["estray/answer.letters"], plainKeys := false, apart := false, laid := [("estray/answer.letters", laid_estray_answer_letters)] }
def TopRacesSaid : Prop := topRacesRow.holds Tryz.pinned (OpenSpec.ofChange topRacesSpec)

/-- ITS FALSE NEIGHBOUR: 'it returns false'. Refute it at one input. -/
def topRacesWrong : ChangeSpec := { name := "topRaces", fn := fun _ => fun
  | [d1, d2, d3] => { results := [.lit (.bool false)], args := [d1, d2, d3] }
  | _ => none }
def TopRacesWrongFalsely : Prop := topRacesRow.holds Tryz.pinned (OpenSpec.ofChange topRacesWrong)

/- THE SECOND FORM. 'bulk': how many values and letters a reading holds, each counted each time it is reached (what is shared counts as often as it is met; a slice's spare places count too). A statement '..UptoSaid' is the law's where the arguments, and the package variables that the reading takes, are together of bulk at most 1048576: NARROWER than '..Said'. Prove '..Said' where nothing that the law and all that it calls make is longer than what came in: it says more and counts as full. Else prove '..UptoSaid'. A law counts once. -/
mutual
def uptoBulk {H : Type} : DataW H → Nat
  | .lit (.string bytes) => bytes.length + 1
  | .lit _ => 1
  | .nil => 1
  | .ptr d => uptoBulk d + 1
  | .slice elems spare => uptoBulkAll elems + uptoBulkAll spare + 1
  | .agg parts => uptoBulkAll parts + 1
  | .iface _ d => uptoBulk d + 1
  | .map entries => uptoBulkEntries entries + 1
  | .held _ => 1
def uptoBulkAll {H : Type} : List (DataW H) → Nat
  | [] => 0
  | d :: r => uptoBulk d + uptoBulkAll r
def uptoBulkEntries {H : Type} : List (Lit × DataW H) → Nat
  | [] => 0
  | x :: r => uptoBulkEntry x + uptoBulkEntries r
def uptoBulkEntry {H : Type} : Lit × DataW H → Nat
  | (.string bytes, d) => bytes.length + uptoBulk d + 1
  | (_, d) => uptoBulk d + 1
 end
def uptoSmall : (H : Type) → List (DataW H) → Bool := fun _ ds => decide (uptoBulkAll ds ≤ 1048576)
def OpenSpec.upto (s : _root_.Go.ChangeSpec) : _root_.Go.OpenSpec := { _root_.Go.OpenSpec.ofChange s with cond := some uptoSmall }

/-- 'estraytop.TopRetired', WHERE WHAT IT READS IS OF BULK AT MOST 1048576: true; the input reads as it did. -/
def topRetiredUptoRow : OpenClaim := { program := "ytcgkoffnknpgjaagreatdoor", sum := "c1feaa3e90eaea663b6139054b890221afe48ee7f95dab7e82b610538af87a6d", func := "estray/estraytop.TopRetired", spec := "topRetired", inPlace := ["maps.clone"], unfollowed := true, recurses := true, named := ["estray/answer.letters"], plainKeys := false, apart := false, laid := [("estray/answer.letters", laid_estray_answer_letters)], narrowed := true }
def TopRetiredUptoSaid : Prop := topRetiredUptoRow.holds Tryz.pinned (OpenSpec.upto topRetiredSpec)

/-- 'estraytop.TopRaces', WHERE WHAT IT READS IS OF BULK AT MOST 1048576: true; the input reads as it did. -/
def topRacesUptoRow : OpenClaim := { program := "ytcgkoffnknpgjaagreatdoor", sum := "c1feaa3e90eaea663b6139054b890221afe48ee7f95dab7e82b610538af87a6d", func := "estray/estraytop.TopRaces", spec := "topRaces", inPlace := ["maps.clone"], unfollowed := true, recurses := true, named := ["estray/answer.letters"], plainKeys := false, apart := false, laid := [("estray/answer.letters", laid_estray_answer_letters)], narrowed := true }
def TopRacesUptoSaid : Prop := topRacesUptoRow.holds Tryz.pinned (OpenSpec.upto topRacesSpec)

end Rows
end Go.Proofs.YtcgkoffnknpgjaaGreatDoor
