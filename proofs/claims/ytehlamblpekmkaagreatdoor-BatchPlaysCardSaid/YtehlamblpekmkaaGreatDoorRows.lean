/-
  NARROWER THAN 'FOR EVERY INPUT', by the rows' own cells (each row's printed sentence says how): BatchNil: laid · BatchTurns: laid · BatchWaits: laid · BatchAnswers: laid · BatchRefuses: laid · BatchPlays: laid · BatchEnds: laid.
  DERIVED. THE GIVEN ROWS OF THIS SEAT. 7 by the template 'for every input the law returns true; each argument reads behind the call as it read before'; 0 by the template 'total and deterministic' (their statements: YtehlamblpekmkaaGreatDoorTotals.lean).
  GIVEN WITH THE SEED: the statements are not yours to turn. If you find one false, say at which input.
  Laid BY PROGRAM, IN A SANDBOX (cutbox-rows.mjs): the forced cells as the released guide's own fill.sh prints them over the translation 891c919b51e26599… (all of the seat's roots in one cut). By AI agents, Wed Nov 11 2026. No macro, syntax, notation, axiom, sorry.
-/
import Derived.Test.YtehlamblpekmkaaGreatDoorChecked
import GoSem.Claim
import GoSem.ClaimJoined
import GoSem.ClaimMapViews
import Derived.JoinedTies
import Derived.KernelRfl
namespace Go.Proofs.YtehlamblpekmkaaGreatDoor
/- THE CELL 'sum', in the pinned program and in every row, IS THE sha256 OF THE DUMP (.gsa) THAT YtehlamblpekmkaaGreatDoorProg.lean LOADS. Nothing in Lean hashes anything: it is a label: what it is worth is what the hold of that sum in a sandbox is worth. -/
noncomputable def Tryz.pinned : Pinned := { name := "ytehlamblpekmkaagreatdoor", sum := "891c919b51e26599f6546e87c26d0f954875f2bc942df0cc6c119b8dd196f68a", checked := Tryz.checked }
namespace Rows
def none {H : Type} : Left H := { results := [], args := [] }

/- WHAT THE LISTED PACKAGE-LEVEL VARIABLES READ AS WHEN THE CALL BEGINS. Each datum BY PROGRAM (the guide's laid-datum.mjs) off the statement by which the dump's own 'gosem.cut.vars' lays the variable. In a bare row this is a premise. The card (YtehlamblpekmkaaGreatDoorCards.lean) ties it to the program's text. -/
def laid_estray_answer_letters {H : Type} : DataW H := .agg [.lit (.int .u8 0), .lit (.int .u8 111), .lit (.int .u8 108), .lit (.int .u8 102)]

/-- 'estraylaw34.BatchNil': WHATEVER THE INPUT: true; the input reads as it did. -/
def batchNilSpec : ChangeSpec := { name := "batchNil", fn := fun _ => fun
  | [d1, d2, d3] => { results := [.lit (.bool true)], args := [d1, d2, d3] }
  | _ => none }
def batchNilRow : OpenClaim := { program := "ytehlamblpekmkaagreatdoor", sum := "891c919b51e26599f6546e87c26d0f954875f2bc942df0cc6c119b8dd196f68a", func := "estray/estraylaw34.BatchNil", spec := "batchNil", inPlace := ["maps.clone"], unfollowed := true, recurses := true, named := ["estray/answer.letters"], plainKeys := false, apart := false, laid := [("estray/answer.letters", laid_estray_answer_letters)] }
def BatchNilSaid : Prop := batchNilRow.holds Tryz.pinned (OpenSpec.ofChange batchNilSpec)

/-- ITS FALSE NEIGHBOUR: 'it returns false'. Refute it at one input. -/
def batchNilWrong : ChangeSpec := { name := "batchNil", fn := fun _ => fun
  | [d1, d2, d3] => { results := [.lit (.bool false)], args := [d1, d2, d3] }
  | _ => none }
def BatchNilWrongFalsely : Prop := batchNilRow.holds Tryz.pinned (OpenSpec.ofChange batchNilWrong)

/-- 'estraylaw34.BatchTurns': WHATEVER THE INPUT: true; the input reads as it did. -/
def batchTurnsSpec : ChangeSpec := { name := "batchTurns", fn := fun _ => fun
  | [d1, d2, d3, d4] => { results := [.lit (.bool true)], args := [d1, d2, d3, d4] }
  | _ => none }
def batchTurnsRow : OpenClaim := { program := "ytehlamblpekmkaagreatdoor", sum := "891c919b51e26599f6546e87c26d0f954875f2bc942df0cc6c119b8dd196f68a", func := "estray/estraylaw34.BatchTurns", spec := "batchTurns", inPlace := ["maps.clone"], unfollowed := true, recurses := true, named := ["estray/answer.letters"], plainKeys := false, apart := false, laid := [("estray/answer.letters", laid_estray_answer_letters)] }
def BatchTurnsSaid : Prop := batchTurnsRow.holds Tryz.pinned (OpenSpec.ofChange batchTurnsSpec)

/-- ITS FALSE NEIGHBOUR: 'it returns false'. Refute it at one input. -/
def batchTurnsWrong : ChangeSpec := { name := "batchTurns", fn := fun _ => fun
  | [d1, d2, d3, d4] => { results := [.lit (.bool false)], args := [d1, d2, d3, d4] }
  | _ => none }
def BatchTurnsWrongFalsely : Prop := batchTurnsRow.holds Tryz.pinned (OpenSpec.ofChange batchTurnsWrong)

/-- 'estraylaw34.BatchWaits': WHATEVER THE INPUT: true; the input reads as it did. -/
def batchWaitsSpec : ChangeSpec := { name := "batchWaits", fn := fun _ => fun
  | [d1, d2, d3, d4] => { results := [.lit (.bool true)], args := [d1, d2, d3, d4] }
  | _ => none }
def batchWaitsRow : OpenClaim := { program := "ytehlamblpekmkaagreatdoor", sum := "891c919b51e26599f6546e87c26d0f954875f2bc942df0cc6c119b8dd196f68a", func := "estray/estraylaw34.BatchWaits", spec := "batchWaits", inPlace := ["maps.clone"], unfollowed := true, recurses := true, named := ["estray/answer.letters"], plainKeys := false, apart := false, laid := [("estray/answer.letters", laid_estray_answer_letters)] }
def BatchWaitsSaid : Prop := batchWaitsRow.holds Tryz.pinned (OpenSpec.ofChange batchWaitsSpec)

/-- ITS FALSE NEIGHBOUR: 'it returns false'. Refute it at one input. -/
def batchWaitsWrong : ChangeSpec := { name := "batchWaits", fn := fun _ => fun
  | [d1, d2, d3, d4] => { results := [.lit (.bool false)], args := [d1, d2, d3, d4] }
  | _ => none }
def BatchWaitsWrongFalsely : Prop := batchWaitsRow.holds Tryz.pinned (OpenSpec.ofChange batchWaitsWrong)

/-- 'estraylaw34.BatchAnswers': WHATEVER THE INPUT: true; the input reads as it did. -/
def batchAnswersSpec : ChangeSpec := { name := "batchAnswers", fn := fun _ => fun
  | [d1, d2, d3, d4] => { results := [.lit (.bool true)], args := [d1, d2, d3, d4] }
  | _ => none }
def batchAnswersRow : OpenClaim := { program := "ytehlamblpekmkaagreatdoor", sum := "891c919b51e26599f6546e87c26d0f954875f2bc942df0cc6c119b8dd196f68a", func := "estray/estraylaw34.BatchAnswers", spec := "batchAnswers", inPlace := ["maps.clone"], unfollowed := true, recurses := true, named := ["estray/answer.letters"], plainKeys := false, apart := false, laid := [("estray/answer.letters", laid_estray_answer_letters)] }
def BatchAnswersSaid : Prop := batchAnswersRow.holds Tryz.pinned (OpenSpec.ofChange batchAnswersSpec)

/-- ITS FALSE NEIGHBOUR: 'it returns false'. Refute it at one input. -/
def batchAnswersWrong : ChangeSpec := { name := "batchAnswers", fn := fun _ => fun
  | [d1, d2, d3, d4] => { results := [.lit (.bool false)], args := [d1, d2, d3, d4] }
  | _ => none }
def BatchAnswersWrongFalsely : Prop := batchAnswersRow.holds Tryz.pinned (OpenSpec.ofChange batchAnswersWrong)

/-- 'estraylaw34.BatchRefuses': WHATEVER THE INPUT: true; the input reads as it did. -/
def batchRefusesSpec : ChangeSpec := { name := "batchRefuses", fn := fun _ => fun
  | [d1, d2, d3] => { results := [.lit (.bool true)], args := [d1, d2, d3] }
  | _ => none }
def batchRefusesRow : OpenClaim := { program := "ytehlamblpekmkaagreatdoor", sum := "891c919b51e26599f6546e87c26d0f954875f2bc942df0cc6c119b8dd196f68a", func := "estray/estraylaw34.BatchRefuses", spec := "batchRefuses", inPlace := ["maps.clone"], unfollowed := true, recurses := true, named := ["estray/answer.letters"], plainKeys := false, apart := false, laid := [("estray/answer.letters", laid_estray_answer_letters)] }
def BatchRefusesSaid : Prop := batchRefusesRow.holds Tryz.pinned (OpenSpec.ofChange batchRefusesSpec)

/-- ITS FALSE NEIGHBOUR: 'it returns false'. Refute it at one input. -/
def batchRefusesWrong : ChangeSpec := { name := "batchRefuses", fn := fun _ => fun
  | [d1, d2, d3] => { results := [.lit (.bool false)], args := [d1, d2, d3] }
  | _ => none }
def BatchRefusesWrongFalsely : Prop := batchRefusesRow.holds Tryz.pinned (OpenSpec.ofChange batchRefusesWrong)

/-- 'estraylaw34.BatchPlays': WHATEVER THE INPUT: true; the input reads as it did. -/
def batchPlaysSpec : ChangeSpec := { name := "batchPlays", fn := fun _ => fun
  | [d1, d2, d3, d4] => { results := [.lit (.bool true)], args := [d1, d2, d3, d4] }
  | _ => none }
def batchPlaysRow : OpenClaim := { program := "ytehlamblpekmkaagreatdoor", sum := "891c919b51e26599f6546e87c26d0f954875f2bc942df0cc6c119b8dd196f68a", func := "estray/estraylaw34.BatchPlays", spec := "batchPlays", inPlace := ["maps.clone"], unfollowed := true, recurses := true, named := ["estray/answer.letters"], plainKeys := false, apart := false, laid := [("estray/answer.letters", laid_estray_answer_letters)] }
def BatchPlaysSaid : Prop := batchPlaysRow.holds Tryz.pinned (OpenSpec.ofChange batchPlaysSpec)

/-- ITS FALSE NEIGHBOUR: 'it returns false'. Refute it at one input. -/
def batchPlaysWrong : ChangeSpec := { name := "batchPlays", fn := fun _ => fun
  | [d1, d2, d3, d4] => { results := [.lit (.bool false)], args := [d1, d2, d3, d4] }
  | _ => none }
def BatchPlaysWrongFalsely : Prop := batchPlaysRow.holds Tryz.pinned (OpenSpec.ofChange batchPlaysWrong)

/-- 'estraylaw34.BatchEnds': WHATEVER THE INPUT: true; the input reads as it did. -/
def batchEndsSpec : ChangeSpec := { name := "batchEnds", fn := fun _ => fun
  | [d1, d2, d3, d4] => { results := [.lit (.bool true)], args := [d1, d2, d3, d4] }
  | _ => none }
def batchEndsRow : OpenClaim := { program := "ytehlamblpekmkaagreatdoor", sum := "891c919b51e26599f6546e87c26d0f954875f2bc942df0cc6c119b8dd196f68a", func := "estray/estraylaw34.BatchEnds", spec := "batchEnds", inPlace := ["maps.clone"], unfollowed := true, recurses := true, named := ["estray/answer.letters"], plainKeys := false, apart := false, laid := [("estray/answer.letters", laid_estray_answer_letters)] }
def BatchEndsSaid : Prop := batchEndsRow.holds Tryz.pinned (OpenSpec.ofChange batchEndsSpec)

/-- ITS FALSE NEIGHBOUR: 'it returns false'. Refute it at one input. -/
def batchEndsWrong : ChangeSpec := { name := "batchEnds", fn := fun _ => fun
  | [d1, d2, d3, d4] => { results := [.lit (.bool false)], args := [d1, d2, d3, d4] }
  | _ => none }
def BatchEndsWrongFalsely : Prop := batchEndsRow.holds Tryz.pinned (OpenSpec.ofChange batchEndsWrong)

/- THE SECOND FORM. 'bulk': how many values and letters a reading holds, each counted each time it is reached (what is shared counts as often as it is met; a slice's spare places count too). A statement '..UptoSaid' is the law's where the arguments, and the package variables that the reading takes, are together of bulk at most 1048576: NARROWER than '..Said'. Prove '..Said' where nothing that the law and all that it calls make is longer than what came in: it says more and counts as full. Else prove '..UptoSaid'. A law counts once. -/
mutual
def uptoBulk {H : Type} : DataW H → Nat
  | .lit (.string bytes) => bytes.length + 1
  | .lit _ => 1
  | .nil => 1
  | .ptr d => uptoBulk d + 1
  | .slice elems spare => uptoBulkAll elems + uptoBulkAll spare + 1
  | .agg parts => uptoBulkAll parts + 1
  | .iface _ d => uptoBulk d + 1
  | .map entries => uptoBulkEntries entries + 1
  | .held _ => 1
def uptoBulkAll {H : Type} : List (DataW H) → Nat
  | [] => 0
  | d :: r => uptoBulk d + uptoBulkAll r
def uptoBulkEntries {H : Type} : List (Lit × DataW H) → Nat
  | [] => 0
  | x :: r => uptoBulkEntry x + uptoBulkEntries r
def uptoBulkEntry {H : Type} : Lit × DataW H → Nat
  | (.string bytes, d) => bytes.length + uptoBulk d + 1
  | (_, d) => uptoBulk d + 1
 end
def uptoSmall : (H : Type) → List (DataW H) → Bool := fun _ ds => decide (uptoBulkAll ds ≤ 1048576)
def OpenSpec.upto (s : _root_.Go.ChangeSpec) : _root_.Go.OpenSpec := { _root_.Go.OpenSpec.ofChange s with cond := some uptoSmall }

/-- 'estraylaw34.BatchNil', WHERE WHAT IT READS IS OF BULK AT MOST 1048576: true; the input reads as it did. -/
def batchNilUptoRow : OpenClaim := { program := "ytehlamblpekmkaagreatdoor", sum := "891c919b51e26599f6546e87c26d0f954875f2bc942df0cc6c119b8dd196f68a", func := "estray/estraylaw34.BatchNil", spec := "batchNil", inPlace := ["maps.clone"], unfollowed := true, recurses := true, named := ["estray/answer.letters"], plainKeys := false, apart := false, laid := [("estray/answer.letters", laid_estray_answer_letters)], narrowed := true }
def BatchNilUptoSaid : Prop := batchNilUptoRow.holds Tryz.pinned (OpenSpec.upto batchNilSpec)

/-- 'estraylaw34.BatchTurns', WHERE WHAT IT READS IS OF BULK AT MOST 1048576: true; the input reads as it did. -/
def batchTurnsUptoRow : OpenClaim := { program := "ytehlamblpekmkaagreatdoor", sum := "891c919b51e26599f6546e87c26d0f954875f2bc942df0cc6c119b8dd196f68a", func := "estray/estraylaw34.BatchTurns", spec := "batchTurns", inPlace := ["maps.clone"], unfollowed := true, recurses := true, named := ["estray/answer.letters"], plainKeys := false, apart := false, laid := [("estray/answer.letters", laid_estray_answer_letters)], narrowed := true }
def BatchTurnsUptoSaid : Prop := batchTurnsUptoRow.holds Tryz.pinned (OpenSpec.upto batchTurnsSpec)

/-- 'estraylaw34.BatchWaits', WHERE WHAT IT READS IS OF BULK AT MOST 1048576: true; the input reads as it did. -/
def batchWaitsUptoRow : OpenClaim := { program := "ytehlamblpekmkaagreatdoor", sum := "891c919b51e26599f6546e87c26d0f954875f2bc942df0cc6c119b8dd196f68a", func := "estray/estraylaw34.BatchWaits", spec := "batchWaits", inPlace := ["maps.clone"], unfollowed := true, recurses := true, named := ["estray/answer.letters"], plainKeys := false, apart := false, laid := [("estray/answer.letters", laid_estray_answer_letters)], narrowed := true }
def BatchWaitsUptoSaid : Prop := batchWaitsUptoRow.holds Tryz.pinned (OpenSpec.upto batchWaitsSpec)

/-- 'estraylaw34.BatchAnswers', WHERE WHAT IT READS IS OF BULK AT MOST 1048576: true; the input reads as it did. -/
def batchAnswersUptoRow : OpenClaim := { program := "ytehlamblpekmkaagreatdoor", sum := "891c919b51e26599f6546e87c26d0f954875f2bc942df0cc6c119b8dd196f68a", func := "estray/estraylaw34.BatchAnswers", spec := "batchAnswers", inPlace := ["maps.clone"], unfollowed := true, recurses := true, named := ["estray/answer.letters"], plainKeys := false, apart := false, laid := [("estray/answer.letters", laid_estray_answer_letters)], narrowed := true }
def BatchAnswersUptoSaid : Prop := batchAnswersUptoRow.holds Tryz.pinned (OpenSpec.upto batchAnswersSpec)

/-- 'estraylaw34.BatchRefuses', WHERE WHAT IT READS IS OF BULK AT MOST 1048576: true; the input reads as it did. -/
def batchRefusesUptoRow : OpenClaim := { program := "ytehlamblpekmkaagreatdoor", sum := "891c919b51e26599f6546e87c26d0f954875f2bc942df0cc6c119b8dd196f68a", func := "estray/estraylaw34.BatchRefuses", spec := "batchRefuses", inPlace := ["maps.clone"], unfollowed := true, recurses := true, named := ["estray/answer.letters"], plainKeys := false, apart := false, laid := [("estray/answer.letters", laid_estray_answer_letters)], narrowed := true }
def BatchRefusesUptoSaid : Prop := batchRefusesUptoRow.holds Tryz.pinned (OpenSpec.upto batchRefusesSpec)

/-- 'estraylaw34.BatchPlays', WHERE WHAT IT READS IS OF BULK AT MOST 1048576: true; the input reads as it did. -/
def batchPlaysUptoRow : OpenClaim := { program := "ytehlamblpekmkaagreatdoor", sum := "891c919b51e26599f6546e87c26d0f954875f2bc942df0cc6c119b8dd196f68a", func := "estray/estraylaw34.BatchPlays", spec := "batchPlays", inPlace := ["maps.clone"], unfollowed := true, recurses := true, named := ["estray/answer.letters"], plainKeys := false, apart := false, laid := [("estray/answer.letters", laid_estray_answer_letters)], narrowed := true }
def BatchPlaysUptoSaid : Prop := batchPlaysUptoRow.holds Tryz.pinned (OpenSpec.upto batchPlaysSpec)

/-- 'estraylaw34.BatchEnds', WHERE WHAT IT READS IS OF BULK AT MOST 1048576: true; the input reads as it did. -/
def batchEndsUptoRow : OpenClaim := { program := "ytehlamblpekmkaagreatdoor", sum := "891c919b51e26599f6546e87c26d0f954875f2bc942df0cc6c119b8dd196f68a", func := "estray/estraylaw34.BatchEnds", spec := "batchEnds", inPlace := ["maps.clone"], unfollowed := true, recurses := true, named := ["estray/answer.letters"], plainKeys := false, apart := false, laid := [("estray/answer.letters", laid_estray_answer_letters)], narrowed := true }
def BatchEndsUptoSaid : Prop := batchEndsUptoRow.holds Tryz.pinned (OpenSpec.upto batchEndsSpec)

end Rows
end Go.Proofs.YtehlamblpekmkaaGreatDoor
