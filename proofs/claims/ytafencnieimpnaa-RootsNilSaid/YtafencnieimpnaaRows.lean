/-
  No cell of these rows narrows 'for every input' (looked for: loops, veiled, ifaces, maps, wideKeys, modest, calm, conditions, laid).
  DERIVED. THE GIVEN ROWS OF THIS SEAT. 8 by the template 'for every input the law returns true; each argument reads behind the call as it read before'; 0 by the template 'total and deterministic' (their statements: YtafencnieimpnaaTotals.lean).
  GIVEN WITH THE SEED: the statements are not yours to turn. If you find one false, say at which input.
  Laid BY PROGRAM, IN A SANDBOX (cutbox-rows.mjs): the forced cells as the released guide's own fill.sh prints them over the translation 6faa3746c7957b32… (all of the seat's roots in one cut). By AI agents, Wed Nov 11 2026. No macro, syntax, notation, axiom, sorry.
-/
import Derived.Test.YtafencnieimpnaaChecked
import GoSem.Claim
import GoSem.ClaimJoined
import GoSem.ClaimMapViews
import Derived.JoinedTies
import Derived.KernelRfl
namespace Go.Proofs.Ytafencnieimpnaa
/- THE CELL 'sum', in the pinned program and in every row, IS THE sha256 OF THE DUMP (.gsa) THAT YtafencnieimpnaaProg.lean LOADS. Nothing in Lean hashes anything: it is a label: what it is worth is what the hold of that sum in a sandbox is worth. -/
noncomputable def Try.pinned : Pinned := { name := "ytafencnieimpnaa", sum := "6faa3746c7957b32e19d0567389dddb7060ce0a980f1d3884c6ffe9a83439cd7", checked := Try.checked }
namespace Rows
def none {H : Type} : Left H := { results := [], args := [] }

/-- 'estraylaw16.RootsFind': WHATEVER THE INPUT: true; the input reads as it did. -/
def rootsFindSpec : ChangeSpec := { name := "rootsFind", fn := fun _ => fun
  | [d1, d2] => { results := [.lit (.bool true)], args := [d1, d2] }
  | _ => none }
def rootsFindRow : OpenClaim := { program := "ytafencnieimpnaa", sum := "6faa3746c7957b32e19d0567389dddb7060ce0a980f1d3884c6ffe9a83439cd7", func := "estray/estraylaw16.RootsFind", spec := "rootsFind", unfollowed := true, recurses := true, apart := false }
def RootsFindSaid : Prop := rootsFindRow.holds Try.pinned (OpenSpec.ofChange rootsFindSpec)

/-- ITS FALSE NEIGHBOUR: 'it returns false'. Refute it at one input. -/
def rootsFindWrong : ChangeSpec := { name := "rootsFind", fn := fun _ => fun
  | [d1, d2] => { results := [.lit (.bool false)], args := [d1, d2] }
  | _ => none }
def RootsFindWrongFalsely : Prop := rootsFindRow.holds Try.pinned (OpenSpec.ofChange rootsFindWrong)

/-- 'estraylaw16.RootsKnown': WHATEVER THE INPUT: true; the input reads as it did. -/
def rootsKnownSpec : ChangeSpec := { name := "rootsKnown", fn := fun _ => fun
  | [] => { results := [.lit (.bool true)], args := [] }
  | _ => none }
def rootsKnownRow : OpenClaim := { program := "ytafencnieimpnaa", sum := "6faa3746c7957b32e19d0567389dddb7060ce0a980f1d3884c6ffe9a83439cd7", func := "estray/estraylaw16.RootsKnown", spec := "rootsKnown", unfollowed := true, recurses := true, apart := false }
def RootsKnownSaid : Prop := rootsKnownRow.holds Try.pinned (OpenSpec.ofChange rootsKnownSpec)

/-- ITS FALSE NEIGHBOUR: 'it returns false'. Refute it at one input. -/
def rootsKnownWrong : ChangeSpec := { name := "rootsKnown", fn := fun _ => fun
  | [] => { results := [.lit (.bool false)], args := [] }
  | _ => none }
def RootsKnownWrongFalsely : Prop := rootsKnownRow.holds Try.pinned (OpenSpec.ofChange rootsKnownWrong)

/-- 'estraylaw16.RootsRefuses': WHATEVER THE INPUT: true; the input reads as it did. -/
def rootsRefusesSpec : ChangeSpec := { name := "rootsRefuses", fn := fun _ => fun
  | [d1, d2] => { results := [.lit (.bool true)], args := [d1, d2] }
  | _ => none }
def rootsRefusesRow : OpenClaim := { program := "ytafencnieimpnaa", sum := "6faa3746c7957b32e19d0567389dddb7060ce0a980f1d3884c6ffe9a83439cd7", func := "estray/estraylaw16.RootsRefuses", spec := "rootsRefuses", unfollowed := true, recurses := true, apart := false }
def RootsRefusesSaid : Prop := rootsRefusesRow.holds Try.pinned (OpenSpec.ofChange rootsRefusesSpec)

/-- ITS FALSE NEIGHBOUR: 'it returns false'. Refute it at one input. -/
def rootsRefusesWrong : ChangeSpec := { name := "rootsRefuses", fn := fun _ => fun
  | [d1, d2] => { results := [.lit (.bool false)], args := [d1, d2] }
  | _ => none }
def RootsRefusesWrongFalsely : Prop := rootsRefusesRow.holds Try.pinned (OpenSpec.ofChange rootsRefusesWrong)

/-- 'estraylaw16.RootsOrder': WHATEVER THE INPUT: true; the input reads as it did. -/
def rootsOrderSpec : ChangeSpec := { name := "rootsOrder", fn := fun _ => fun
  | [d] => { results := [.lit (.bool true)], args := [d] }
  | _ => none }
def rootsOrderRow : OpenClaim := { program := "ytafencnieimpnaa", sum := "6faa3746c7957b32e19d0567389dddb7060ce0a980f1d3884c6ffe9a83439cd7", func := "estray/estraylaw16.RootsOrder", spec := "rootsOrder", unfollowed := true, recurses := true, apart := false }
def RootsOrderSaid : Prop := rootsOrderRow.holds Try.pinned (OpenSpec.ofChange rootsOrderSpec)

/-- ITS FALSE NEIGHBOUR: 'it returns false'. Refute it at one input. -/
def rootsOrderWrong : ChangeSpec := { name := "rootsOrder", fn := fun _ => fun
  | [d] => { results := [.lit (.bool false)], args := [d] }
  | _ => none }
def RootsOrderWrongFalsely : Prop := rootsOrderRow.holds Try.pinned (OpenSpec.ofChange rootsOrderWrong)

/-- 'estraylaw16.RootsApart': WHATEVER THE INPUT: true; the input reads as it did. -/
def rootsApartSpec : ChangeSpec := { name := "rootsApart", fn := fun _ => fun
  | [d1, d2] => { results := [.lit (.bool true)], args := [d1, d2] }
  | _ => none }
def rootsApartRow : OpenClaim := { program := "ytafencnieimpnaa", sum := "6faa3746c7957b32e19d0567389dddb7060ce0a980f1d3884c6ffe9a83439cd7", func := "estray/estraylaw16.RootsApart", spec := "rootsApart", unfollowed := true, recurses := true, apart := false }
def RootsApartSaid : Prop := rootsApartRow.holds Try.pinned (OpenSpec.ofChange rootsApartSpec)

/-- ITS FALSE NEIGHBOUR: 'it returns false'. Refute it at one input. -/
def rootsApartWrong : ChangeSpec := { name := "rootsApart", fn := fun _ => fun
  | [d1, d2] => { results := [.lit (.bool false)], args := [d1, d2] }
  | _ => none }
def RootsApartWrongFalsely : Prop := rootsApartRow.holds Try.pinned (OpenSpec.ofChange rootsApartWrong)

/-- 'estraylaw16.RootsPlays': WHATEVER THE INPUT: true; the input reads as it did. -/
def rootsPlaysSpec : ChangeSpec := { name := "rootsPlays", fn := fun _ => fun
  | [d1, d2, d3] => { results := [.lit (.bool true)], args := [d1, d2, d3] }
  | _ => none }
def rootsPlaysRow : OpenClaim := { program := "ytafencnieimpnaa", sum := "6faa3746c7957b32e19d0567389dddb7060ce0a980f1d3884c6ffe9a83439cd7", func := "estray/estraylaw16.RootsPlays", spec := "rootsPlays", unfollowed := true, recurses := true, apart := false }
def RootsPlaysSaid : Prop := rootsPlaysRow.holds Try.pinned (OpenSpec.ofChange rootsPlaysSpec)

/-- ITS FALSE NEIGHBOUR: 'it returns false'. Refute it at one input. -/
def rootsPlaysWrong : ChangeSpec := { name := "rootsPlays", fn := fun _ => fun
  | [d1, d2, d3] => { results := [.lit (.bool false)], args := [d1, d2, d3] }
  | _ => none }
def RootsPlaysWrongFalsely : Prop := rootsPlaysRow.holds Try.pinned (OpenSpec.ofChange rootsPlaysWrong)

/-- 'estraylaw16.RootsNil': WHATEVER THE INPUT: true; the input reads as it did. -/
def rootsNilSpec : ChangeSpec := { name := "rootsNil", fn := fun _ => fun
  | [d1, d2] => { results := [.lit (.bool true)], args := [d1, d2] }
  | _ => none }
def rootsNilRow : OpenClaim := { program := "ytafencnieimpnaa", sum := "6faa3746c7957b32e19d0567389dddb7060ce0a980f1d3884c6ffe9a83439cd7", func := "estray/estraylaw16.RootsNil", spec := "rootsNil", unfollowed := true, recurses := true, apart := false }
def RootsNilSaid : Prop := rootsNilRow.holds Try.pinned (OpenSpec.ofChange rootsNilSpec)

/-- ITS FALSE NEIGHBOUR: 'it returns false'. Refute it at one input. -/
def rootsNilWrong : ChangeSpec := { name := "rootsNil", fn := fun _ => fun
  | [d1, d2] => { results := [.lit (.bool false)], args := [d1, d2] }
  | _ => none }
def RootsNilWrongFalsely : Prop := rootsNilRow.holds Try.pinned (OpenSpec.ofChange rootsNilWrong)

/-- 'estraylaw16.RootsPops': WHATEVER THE INPUT: true; the input reads as it did. -/
def rootsPopsSpec : ChangeSpec := { name := "rootsPops", fn := fun _ => fun
  | [d1, d2, d3] => { results := [.lit (.bool true)], args := [d1, d2, d3] }
  | _ => none }
def rootsPopsRow : OpenClaim := { program := "ytafencnieimpnaa", sum := "6faa3746c7957b32e19d0567389dddb7060ce0a980f1d3884c6ffe9a83439cd7", func := "estray/estraylaw16.RootsPops", spec := "rootsPops", unfollowed := true, recurses := true, apart := false }
def RootsPopsSaid : Prop := rootsPopsRow.holds Try.pinned (OpenSpec.ofChange rootsPopsSpec)

/-- ITS FALSE NEIGHBOUR: 'it returns false'. Refute it at one input. -/
def rootsPopsWrong : ChangeSpec := { name := "rootsPops", fn := fun _ => fun
  | [d1, d2, d3] => { results := [.lit (.bool false)], args := [d1, d2, d3] }
  | _ => none }
def RootsPopsWrongFalsely : Prop := rootsPopsRow.holds Try.pinned (OpenSpec.ofChange rootsPopsWrong)

/- THE SECOND FORM. 'bulk': how many values and letters a reading holds, each counted each time it is reached (what is shared counts as often as it is met; a slice's spare places count too). A statement '..UptoSaid' is the law's where the arguments, and the package variables that the reading takes, are together of bulk at most 1048576: NARROWER than '..Said'. Prove '..Said' where nothing that the law and all that it calls make is longer than what came in: it says more and counts as full. Else prove '..UptoSaid'. A law counts once. -/
mutual
def uptoBulk {H : Type} : DataW H → Nat
  | .lit (.string bytes) => bytes.length + 1
  | .lit _ => 1
  | .nil => 1
  | .ptr d => uptoBulk d + 1
  | .slice elems spare => uptoBulkAll elems + uptoBulkAll spare + 1
  | .agg parts => uptoBulkAll parts + 1
  | .iface _ d => uptoBulk d + 1
  | .map entries => uptoBulkEntries entries + 1
  | .held _ => 1
def uptoBulkAll {H : Type} : List (DataW H) → Nat
  | [] => 0
  | d :: r => uptoBulk d + uptoBulkAll r
def uptoBulkEntries {H : Type} : List (Lit × DataW H) → Nat
  | [] => 0
  | x :: r => uptoBulkEntry x + uptoBulkEntries r
def uptoBulkEntry {H : Type} : Lit × DataW H → Nat
  | (.string bytes, d) => bytes.length + uptoBulk d + 1
  | (_, d) => uptoBulk d + 1
 end
def uptoSmall : (H : Type) → List (DataW H) → Bool := fun _ ds => decide (uptoBulkAll ds ≤ 1048576)
def OpenSpec.upto (s : _root_.Go.ChangeSpec) : _root_.Go.OpenSpec := { _root_.Go.OpenSpec.ofChange s with cond := some uptoSmall }

/-- 'estraylaw16.RootsFind', WHERE WHAT IT READS IS OF BULK AT MOST 1048576: true; the input reads as it did. -/
def rootsFindUptoRow : OpenClaim := { program := "ytafencnieimpnaa", sum := "6faa3746c7957b32e19d0567389dddb7060ce0a980f1d3884c6ffe9a83439cd7", func := "estray/estraylaw16.RootsFind", spec := "rootsFind", unfollowed := true, recurses := true, apart := false, narrowed := true }
def RootsFindUptoSaid : Prop := rootsFindUptoRow.holds Try.pinned (OpenSpec.upto rootsFindSpec)

/-- 'estraylaw16.RootsKnown', WHERE WHAT IT READS IS OF BULK AT MOST 1048576: true; the input reads as it did. -/
def rootsKnownUptoRow : OpenClaim := { program := "ytafencnieimpnaa", sum := "6faa3746c7957b32e19d0567389dddb7060ce0a980f1d3884c6ffe9a83439cd7", func := "estray/estraylaw16.RootsKnown", spec := "rootsKnown", unfollowed := true, recurses := true, apart := false, narrowed := true }
def RootsKnownUptoSaid : Prop := rootsKnownUptoRow.holds Try.pinned (OpenSpec.upto rootsKnownSpec)

/-- 'estraylaw16.RootsRefuses', WHERE WHAT IT READS IS OF BULK AT MOST 1048576: true; the input reads as it did. -/
def rootsRefusesUptoRow : OpenClaim := { program := "ytafencnieimpnaa", sum := "6faa3746c7957b32e19d0567389dddb7060ce0a980f1d3884c6ffe9a83439cd7", func := "estray/estraylaw16.RootsRefuses", spec := "rootsRefuses", unfollowed := true, recurses := true, apart := false, narrowed := true }
def RootsRefusesUptoSaid : Prop := rootsRefusesUptoRow.holds Try.pinned (OpenSpec.upto rootsRefusesSpec)

/-- 'estraylaw16.RootsOrder', WHERE WHAT IT READS IS OF BULK AT MOST 1048576: true; the input reads as it did. -/
def rootsOrderUptoRow : OpenClaim := { program := "ytafencnieimpnaa", sum := "6faa3746c7957b32e19d0567389dddb7060ce0a980f1d3884c6ffe9a83439cd7", func := "estray/estraylaw16.RootsOrder", spec := "rootsOrder", unfollowed := true, recurses := true, apart := false, narrowed := true }
def RootsOrderUptoSaid : Prop := rootsOrderUptoRow.holds Try.pinned (OpenSpec.upto rootsOrderSpec)

/-- 'estraylaw16.RootsApart', WHERE WHAT IT READS IS OF BULK AT MOST 1048576: true; the input reads as it did. -/
def rootsApartUptoRow : OpenClaim := { program := "ytafencnieimpnaa", sum := "6faa3746c7957b32e19d0567389dddb7060ce0a980f1d3884c6ffe9a83439cd7", func := "estray/estraylaw16.RootsApart", spec := "rootsApart", unfollowed := true, recurses := true, apart := false, narrowed := true }
def RootsApartUptoSaid : Prop := rootsApartUptoRow.holds Try.pinned (OpenSpec.upto rootsApartSpec)

/-- 'estraylaw16.RootsPlays', WHERE WHAT IT READS IS OF BULK AT MOST 1048576: true; the input reads as it did. -/
def rootsPlaysUptoRow : OpenClaim := { program := "ytafencnieimpnaa", sum := "6faa3746c7957b32e19d0567389dddb7060ce0a980f1d3884c6ffe9a83439cd7", func := "estray/estraylaw16.RootsPlays", spec := "rootsPlays", unfollowed := true, recurses := true, apart := false, narrowed := true }
def RootsPlaysUptoSaid : Prop := rootsPlaysUptoRow.holds Try.pinned (OpenSpec.upto rootsPlaysSpec)

/-- 'estraylaw16.RootsNil', WHERE WHAT IT READS IS OF BULK AT MOST 1048576: true; the input reads as it did. -/
def rootsNilUptoRow : OpenClaim := { program := "ytafencnieimpnaa", sum := "6faa3746c7957b32e19d0567389dddb7060ce0a980f1d3884c6ffe9a83439cd7", func := "estray/estraylaw16.RootsNil", spec := "rootsNil", unfollowed := true, recurses := true, apart := false, narrowed := true }
def RootsNilUptoSaid : Prop := rootsNilUptoRow.holds Try.pinned (OpenSpec.upto rootsNilSpec)

/-- 'estraylaw16.RootsPops', WHERE WHAT IT READS IS OF BULK AT MOST 1048576: true; the input reads as it did. -/
def rootsPopsUptoRow : OpenClaim := { program := "ytafencnieimpnaa", sum := "6faa3746c7957b32e19d0567389dddb7060ce0a980f1d3884c6ffe9a83439cd7", func := "estray/estraylaw16.RootsPops", spec := "rootsPops", unfollowed := true, recurses := true, apart := false, narrowed := true }
def RootsPopsUptoSaid : Prop := rootsPopsUptoRow.holds Try.pinned (OpenSpec.upto rootsPopsSpec)

end Rows
end Go.Proofs.Ytafencnieimpnaa
