/-
  No cell of these rows narrows 'for every input' (looked for: loops, veiled, ifaces, maps, wideKeys, modest, calm, conditions, laid).
  DERIVED. THE GIVEN ROWS OF THIS SEAT. 8 by the template 'for every input the law returns true; each argument reads behind the call as it read before'; 0 by the template 'total and deterministic' (their statements: YtjjpmehiolejgaaTotals.lean).
  GIVEN WITH THE SEED: the statements are not yours to turn. If you find one false, say at which input.
  Laid BY PROGRAM, IN A SANDBOX (cutbox-rows.mjs): the forced cells as the released guide's own fill.sh prints them over the translation 18c09bdce0f852a3… (all of the seat's roots in one cut). By AI agents, Wed Nov 11 2026. No macro, syntax, notation, axiom, sorry.
-/
import Derived.Test.YtjjpmehiolejgaaChecked
import GoSem.Claim
import GoSem.ClaimJoined
import GoSem.ClaimMapViews
import Derived.JoinedTies
import Derived.KernelRfl
namespace Go.Proofs.Ytjjpmehiolejgaa
/- THE CELL 'sum', in the pinned program and in every row, IS THE sha256 OF THE DUMP (.gsa) THAT YtjjpmehiolejgaaProg.lean LOADS. Nothing in Lean hashes anything: it is a label: what it is worth is what the hold of that sum in a sandbox is worth. -/
noncomputable def Try.pinned : Pinned := { name := "ytjjpmehiolejgaa", sum := "18c09bdce0f852a3b9575689c39a5014e991167dbaa38bb0ee349d02751004ee", checked := Try.checked }
namespace Rows
def none {H : Type} : Left H := { results := [], args := [] }

/-- 'estraylaw32.TableKnown': WHATEVER THE INPUT: true; the input reads as it did. -/
def tableKnownSpec : ChangeSpec := { name := "tableKnown", fn := fun _ => fun
  | [] => { results := [.lit (.bool true)], args := [] }
  | _ => none }
def tableKnownRow : OpenClaim := { program := "ytjjpmehiolejgaa", sum := "18c09bdce0f852a3b9575689c39a5014e991167dbaa38bb0ee349d02751004ee", func := "estray/estraylaw32.TableKnown", spec := "tableKnown", unfollowed := true, recurses := true, apart := false }
def TableKnownSaid : Prop := tableKnownRow.holds Try.pinned (OpenSpec.ofChange tableKnownSpec)

/-- ITS FALSE NEIGHBOUR: 'it returns false'. Refute it at one input. -/
def tableKnownWrong : ChangeSpec := { name := "tableKnown", fn := fun _ => fun
  | [] => { results := [.lit (.bool false)], args := [] }
  | _ => none }
def TableKnownWrongFalsely : Prop := tableKnownRow.holds Try.pinned (OpenSpec.ofChange tableKnownWrong)

/-- 'estraylaw32.TableSets': WHATEVER THE INPUT: true; the input reads as it did. -/
def tableSetsSpec : ChangeSpec := { name := "tableSets", fn := fun _ => fun
  | [d1, d2, d3, d4, d5] => { results := [.lit (.bool true)], args := [d1, d2, d3, d4, d5] }
  | _ => none }
def tableSetsRow : OpenClaim := { program := "ytjjpmehiolejgaa", sum := "18c09bdce0f852a3b9575689c39a5014e991167dbaa38bb0ee349d02751004ee", func := "estray/estraylaw32.TableSets", spec := "tableSets", unfollowed := true, recurses := true, apart := false }
def TableSetsSaid : Prop := tableSetsRow.holds Try.pinned (OpenSpec.ofChange tableSetsSpec)

/-- ITS FALSE NEIGHBOUR: 'it returns false'. Refute it at one input. -/
def tableSetsWrong : ChangeSpec := { name := "tableSets", fn := fun _ => fun
  | [d1, d2, d3, d4, d5] => { results := [.lit (.bool false)], args := [d1, d2, d3, d4, d5] }
  | _ => none }
def TableSetsWrongFalsely : Prop := tableSetsRow.holds Try.pinned (OpenSpec.ofChange tableSetsWrong)

/-- 'estraylaw32.TableStale': WHATEVER THE INPUT: true; the input reads as it did. -/
def tableStaleSpec : ChangeSpec := { name := "tableStale", fn := fun _ => fun
  | [d1, d2, d3] => { results := [.lit (.bool true)], args := [d1, d2, d3] }
  | _ => none }
def tableStaleRow : OpenClaim := { program := "ytjjpmehiolejgaa", sum := "18c09bdce0f852a3b9575689c39a5014e991167dbaa38bb0ee349d02751004ee", func := "estray/estraylaw32.TableStale", spec := "tableStale", unfollowed := true, recurses := true, apart := false }
def TableStaleSaid : Prop := tableStaleRow.holds Try.pinned (OpenSpec.ofChange tableStaleSpec)

/-- ITS FALSE NEIGHBOUR: 'it returns false'. Refute it at one input. -/
def tableStaleWrong : ChangeSpec := { name := "tableStale", fn := fun _ => fun
  | [d1, d2, d3] => { results := [.lit (.bool false)], args := [d1, d2, d3] }
  | _ => none }
def TableStaleWrongFalsely : Prop := tableStaleRow.holds Try.pinned (OpenSpec.ofChange tableStaleWrong)

/-- 'estraylaw32.TableParts': WHATEVER THE INPUT: true; the input reads as it did. -/
def tablePartsSpec : ChangeSpec := { name := "tableParts", fn := fun _ => fun
  | [d1, d2, d3] => { results := [.lit (.bool true)], args := [d1, d2, d3] }
  | _ => none }
def tablePartsRow : OpenClaim := { program := "ytjjpmehiolejgaa", sum := "18c09bdce0f852a3b9575689c39a5014e991167dbaa38bb0ee349d02751004ee", func := "estray/estraylaw32.TableParts", spec := "tableParts", unfollowed := true, recurses := true, apart := false }
def TablePartsSaid : Prop := tablePartsRow.holds Try.pinned (OpenSpec.ofChange tablePartsSpec)

/-- ITS FALSE NEIGHBOUR: 'it returns false'. Refute it at one input. -/
def tablePartsWrong : ChangeSpec := { name := "tableParts", fn := fun _ => fun
  | [d1, d2, d3] => { results := [.lit (.bool false)], args := [d1, d2, d3] }
  | _ => none }
def TablePartsWrongFalsely : Prop := tablePartsRow.holds Try.pinned (OpenSpec.ofChange tablePartsWrong)

/-- 'estraylaw32.TableLast': WHATEVER THE INPUT: true; the input reads as it did. -/
def tableLastSpec : ChangeSpec := { name := "tableLast", fn := fun _ => fun
  | [d1, d2, d3, d4] => { results := [.lit (.bool true)], args := [d1, d2, d3, d4] }
  | _ => none }
def tableLastRow : OpenClaim := { program := "ytjjpmehiolejgaa", sum := "18c09bdce0f852a3b9575689c39a5014e991167dbaa38bb0ee349d02751004ee", func := "estray/estraylaw32.TableLast", spec := "tableLast", unfollowed := true, recurses := true, apart := false }
def TableLastSaid : Prop := tableLastRow.holds Try.pinned (OpenSpec.ofChange tableLastSpec)

/-- ITS FALSE NEIGHBOUR: 'it returns false'. Refute it at one input. -/
def tableLastWrong : ChangeSpec := { name := "tableLast", fn := fun _ => fun
  | [d1, d2, d3, d4] => { results := [.lit (.bool false)], args := [d1, d2, d3, d4] }
  | _ => none }
def TableLastWrongFalsely : Prop := tableLastRow.holds Try.pinned (OpenSpec.ofChange tableLastWrong)

/-- 'estraylaw32.TableCopies': WHATEVER THE INPUT: true; the input reads as it did. -/
def tableCopiesSpec : ChangeSpec := { name := "tableCopies", fn := fun _ => fun
  | [d1, d2, d3] => { results := [.lit (.bool true)], args := [d1, d2, d3] }
  | _ => none }
def tableCopiesRow : OpenClaim := { program := "ytjjpmehiolejgaa", sum := "18c09bdce0f852a3b9575689c39a5014e991167dbaa38bb0ee349d02751004ee", func := "estray/estraylaw32.TableCopies", spec := "tableCopies", unfollowed := true, recurses := true, apart := false }
def TableCopiesSaid : Prop := tableCopiesRow.holds Try.pinned (OpenSpec.ofChange tableCopiesSpec)

/-- ITS FALSE NEIGHBOUR: 'it returns false'. Refute it at one input. -/
def tableCopiesWrong : ChangeSpec := { name := "tableCopies", fn := fun _ => fun
  | [d1, d2, d3] => { results := [.lit (.bool false)], args := [d1, d2, d3] }
  | _ => none }
def TableCopiesWrongFalsely : Prop := tableCopiesRow.holds Try.pinned (OpenSpec.ofChange tableCopiesWrong)

/-- 'estraylaw32.TableNil': WHATEVER THE INPUT: true; the input reads as it did. -/
def tableNilSpec : ChangeSpec := { name := "tableNil", fn := fun _ => fun
  | [d] => { results := [.lit (.bool true)], args := [d] }
  | _ => none }
def tableNilRow : OpenClaim := { program := "ytjjpmehiolejgaa", sum := "18c09bdce0f852a3b9575689c39a5014e991167dbaa38bb0ee349d02751004ee", func := "estray/estraylaw32.TableNil", spec := "tableNil", unfollowed := true, recurses := true, apart := false }
def TableNilSaid : Prop := tableNilRow.holds Try.pinned (OpenSpec.ofChange tableNilSpec)

/-- ITS FALSE NEIGHBOUR: 'it returns false'. Refute it at one input. -/
def tableNilWrong : ChangeSpec := { name := "tableNil", fn := fun _ => fun
  | [d] => { results := [.lit (.bool false)], args := [d] }
  | _ => none }
def TableNilWrongFalsely : Prop := tableNilRow.holds Try.pinned (OpenSpec.ofChange tableNilWrong)

/-- 'estraylaw32.TableOpens': WHATEVER THE INPUT: true; the input reads as it did. -/
def tableOpensSpec : ChangeSpec := { name := "tableOpens", fn := fun _ => fun
  | [d1, d2, d3, d4, d5, d6, d7] => { results := [.lit (.bool true)], args := [d1, d2, d3, d4, d5, d6, d7] }
  | _ => none }
def tableOpensRow : OpenClaim := { program := "ytjjpmehiolejgaa", sum := "18c09bdce0f852a3b9575689c39a5014e991167dbaa38bb0ee349d02751004ee", func := "estray/estraylaw32.TableOpens", spec := "tableOpens", unfollowed := true, recurses := true, apart := false }
def TableOpensSaid : Prop := tableOpensRow.holds Try.pinned (OpenSpec.ofChange tableOpensSpec)

/-- ITS FALSE NEIGHBOUR: 'it returns false'. Refute it at one input. -/
def tableOpensWrong : ChangeSpec := { name := "tableOpens", fn := fun _ => fun
  | [d1, d2, d3, d4, d5, d6, d7] => { results := [.lit (.bool false)], args := [d1, d2, d3, d4, d5, d6, d7] }
  | _ => none }
def TableOpensWrongFalsely : Prop := tableOpensRow.holds Try.pinned (OpenSpec.ofChange tableOpensWrong)

/- THE SECOND FORM. 'bulk': how many values and letters a reading holds, each counted each time it is reached (what is shared counts as often as it is met; a slice's spare places count too). A statement '..UptoSaid' is the law's where the arguments, and the package variables that the reading takes, are together of bulk at most 1048576: NARROWER than '..Said'. Prove '..Said' where nothing that the law and all that it calls make is longer than what came in: it says more and counts as full. Else prove '..UptoSaid'. A law counts once. -/
mutual
def uptoBulk {H : Type} : DataW H → Nat
  | .lit (.string bytes) => bytes.length + 1
  | .lit _ => 1
  | .nil => 1
  | .ptr d => uptoBulk d + 1
  | .slice elems spare => uptoBulkAll elems + uptoBulkAll spare + 1
  | .agg parts => uptoBulkAll parts + 1
  | .iface _ d => uptoBulk d + 1
  | .map entries => uptoBulkEntries entries + 1
  | .held _ => 1
def uptoBulkAll {H : Type} : List (DataW H) → Nat
  | [] => 0
  | d :: r => uptoBulk d + uptoBulkAll r
def uptoBulkEntries {H : Type} : List (Lit × DataW H) → Nat
  | [] => 0
  | x :: r => uptoBulkEntry x + uptoBulkEntries r
def uptoBulkEntry {H : Type} : Lit × DataW H → Nat
  | (.string bytes, d) => bytes.length + uptoBulk d + 1
  | (_, d) => uptoBulk d + 1
 end
def uptoSmall : (H : Type) → List (DataW H) → Bool := fun _ ds => decide (uptoBulkAll ds ≤ 1048576)
def OpenSpec.upto (s : _root_.Go.ChangeSpec) : _root_.Go.OpenSpec := { _root_.Go.OpenSpec.ofChange s with cond := some uptoSmall }

/-- 'estraylaw32.TableKnown', WHERE WHAT IT READS IS OF BULK AT MOST 1048576: true; the input reads as it did. -/
def tableKnownUptoRow : OpenClaim := { program := "ytjjpmehiolejgaa", sum := "18c09bdce0f852a3b9575689c39a5014e991167dbaa38bb0ee349d02751004ee", func := "estray/estraylaw32.TableKnown", spec := "tableKnown", unfollowed := true, recurses := true, apart := false, narrowed := true }
def TableKnownUptoSaid : Prop := tableKnownUptoRow.holds Try.pinned (OpenSpec.upto tableKnownSpec)

/-- 'estraylaw32.TableSets', WHERE WHAT IT READS IS OF BULK AT MOST 1048576: true; the input reads as it did. -/
def tableSetsUptoRow : OpenClaim := { program := "ytjjpmehiolejgaa", sum := "18c09bdce0f852a3b9575689c39a5014e991167dbaa38bb0ee349d02751004ee", func := "estray/estraylaw32.TableSets", spec := "tableSets", unfollowed := true, recurses := true, apart := false, narrowed := true }
def TableSetsUptoSaid : Prop := tableSetsUptoRow.holds Try.pinned (OpenSpec.upto tableSetsSpec)

/-- 'estraylaw32.TableStale', WHERE WHAT IT READS IS OF BULK AT MOST 1048576: true; the input reads as it did. -/
def tableStaleUptoRow : OpenClaim := { program := "ytjjpmehiolejgaa", sum := "18c09bdce0f852a3b9575689c39a5014e991167dbaa38bb0ee349d02751004ee", func := "estray/estraylaw32.TableStale", spec := "tableStale", unfollowed := true, recurses := true, apart := false, narrowed := true }
def TableStaleUptoSaid : Prop := tableStaleUptoRow.holds Try.pinned (OpenSpec.upto tableStaleSpec)

/-- 'estraylaw32.TableParts', WHERE WHAT IT READS IS OF BULK AT MOST 1048576: true; the input reads as it did. -/
def tablePartsUptoRow : OpenClaim := { program := "ytjjpmehiolejgaa", sum := "18c09bdce0f852a3b9575689c39a5014e991167dbaa38bb0ee349d02751004ee", func := "estray/estraylaw32.TableParts", spec := "tableParts", unfollowed := true, recurses := true, apart := false, narrowed := true }
def TablePartsUptoSaid : Prop := tablePartsUptoRow.holds Try.pinned (OpenSpec.upto tablePartsSpec)

/-- 'estraylaw32.TableLast', WHERE WHAT IT READS IS OF BULK AT MOST 1048576: true; the input reads as it did. -/
def tableLastUptoRow : OpenClaim := { program := "ytjjpmehiolejgaa", sum := "18c09bdce0f852a3b9575689c39a5014e991167dbaa38bb0ee349d02751004ee", func := "estray/estraylaw32.TableLast", spec := "tableLast", unfollowed := true, recurses := true, apart := false, narrowed := true }
def TableLastUptoSaid : Prop := tableLastUptoRow.holds Try.pinned (OpenSpec.upto tableLastSpec)

/-- 'estraylaw32.TableCopies', WHERE WHAT IT READS IS OF BULK AT MOST 1048576: true; the input reads as it did. -/
def tableCopiesUptoRow : OpenClaim := { program := "ytjjpmehiolejgaa", sum := "18c09bdce0f852a3b9575689c39a5014e991167dbaa38bb0ee349d02751004ee", func := "estray/estraylaw32.TableCopies", spec := "tableCopies", unfollowed := true, recurses := true, apart := false, narrowed := true }
def TableCopiesUptoSaid : Prop := tableCopiesUptoRow.holds Try.pinned (OpenSpec.upto tableCopiesSpec)

/-- 'estraylaw32.TableNil', WHERE WHAT IT READS IS OF BULK AT MOST 1048576: true; the input reads as it did. -/
def tableNilUptoRow : OpenClaim := { program := "ytjjpmehiolejgaa", sum := "18c09bdce0f852a3b9575689c39a5014e991167dbaa38bb0ee349d02751004ee", func := "estray/estraylaw32.TableNil", spec := "tableNil", unfollowed := true, recurses := true, apart := false, narrowed := true }
def TableNilUptoSaid : Prop := tableNilUptoRow.holds Try.pinned (OpenSpec.upto tableNilSpec)

/-- 'estraylaw32.TableOpens', WHERE WHAT IT READS IS OF BULK AT MOST 1048576: true; the input reads as it did. -/
def tableOpensUptoRow : OpenClaim := { program := "ytjjpmehiolejgaa", sum := "18c09bdce0f852a3b9575689c39a5014e991167dbaa38bb0ee349d02751004ee", func := "estray/estraylaw32.TableOpens", spec := "tableOpens", unfollowed := true, recurses := true, apart := false, narrowed := true }
def TableOpensUptoSaid : Prop := tableOpensUptoRow.holds Try.pinned (OpenSpec.upto tableOpensSpec)

end Rows
end Go.Proofs.Ytjjpmehiolejgaa
