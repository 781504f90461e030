/-
  NARROWER THAN 'FOR EVERY INPUT', by the rows' own cells (each row's printed sentence says how): LeakEnds: laid · LeakStays: laid · LeakFirst: laid · LeakCounts: laid · LeakKnown: laid · LeakApart: laid · LeakNil: laid · LeakFrom: laid.
  DERIVED. THE GIVEN ROWS OF THIS SEAT. 8 by the template 'for every input the law returns true; each argument reads behind the call as it read before'; 0 by the template 'total and deterministic' (their statements: YtfoliffeieeihaaDoorTotals.lean).
  GIVEN WITH THE SEED: the statements are not yours to turn. If you find one false, say at which input.
  Laid BY PROGRAM, IN A SANDBOX (cutbox-rows.mjs): the forced cells as the released guide's own fill.sh prints them over the translation 06a74a07831bd1f2… (all of the seat's roots in one cut). By AI agents, Wed Nov 11 2026. No macro, syntax, notation, axiom, sorry.
-/
import Derived.Test.YtfoliffeieeihaaDoorChecked
import GoSem.Claim
import GoSem.ClaimJoined
import GoSem.ClaimMapViews
import Derived.JoinedTies
import Derived.KernelRfl
namespace Go.Proofs.YtfoliffeieeihaaDoor
/- THE CELL 'sum', in the pinned program and in every row, IS THE sha256 OF THE DUMP (.gsa) THAT YtfoliffeieeihaaDoorProg.lean LOADS. Nothing in Lean hashes anything: it is a label: what it is worth is what the hold of that sum in a sandbox is worth. -/
noncomputable def Tryd.pinned : Pinned := { name := "ytfoliffeieeihaadoor", sum := "06a74a07831bd1f27ad50706a4b1d2a293bbf22de1dc37c0ad7f01387c73aed9", checked := Tryd.checked }
namespace Rows
def none {H : Type} : Left H := { results := [], args := [] }

/- WHAT THE LISTED PACKAGE-LEVEL VARIABLES READ AS WHEN THE CALL BEGINS. Each datum BY PROGRAM (the guide's laid-datum.mjs) off the statement by which the dump's own 'gosem.cut.vars' lays the variable. In a bare row this is a premise. The card (YtfoliffeieeihaaDoorCards.lean) ties it to the program's text. -/
def laid_math_bits_deBruijn32tab {H : Type} : DataW H := .agg [.lit (.int .u8 0), .lit (.int .u8 1), .lit (.int .u8 28), .lit (.int .u8 2), .lit (.int .u8 29), .lit (.int .u8 14), .lit (.int .u8 24), .lit (.int .u8 3), .lit (.int .u8 30), .lit (.int .u8 22), .lit (.int .u8 20), .lit (.int .u8 15), .lit (.int .u8 25), .lit (.int .u8 17), .lit (.int .u8 4), .lit (.int .u8 8), .lit (.int .u8 31), .lit (.int .u8 27), .lit (.int .u8 13), .lit (.int .u8 23), .lit (.int .u8 21), .lit (.int .u8 19), .lit (.int .u8 16), .lit (.int .u8 7), .lit (.int .u8 26), .lit (.int .u8 12), .lit (.int .u8 18), .lit (.int .u8 6), .lit (.int .u8 11), .lit (.int .u8 5), .lit (.int .u8 10), .lit (.int .u8 9)]
def laid_math_bits_deBruijn64tab {H : Type} : DataW H := .agg [.lit (.int .u8 0), .lit (.int .u8 1), .lit (.int .u8 56), .lit (.int .u8 2), .lit (.int .u8 57), .lit (.int .u8 49), .lit (.int .u8 28), .lit (.int .u8 3), .lit (.int .u8 61), .lit (.int .u8 58), .lit (.int .u8 42), .lit (.int .u8 50), .lit (.int .u8 38), .lit (.int .u8 29), .lit (.int .u8 17), .lit (.int .u8 4), .lit (.int .u8 62), .lit (.int .u8 47), .lit (.int .u8 59), .lit (.int .u8 36), .lit (.int .u8 45), .lit (.int .u8 43), .lit (.int .u8 51), .lit (.int .u8 22), .lit (.int .u8 53), .lit (.int .u8 39), .lit (.int .u8 33), .lit (.int .u8 30), .lit (.int .u8 24), .lit (.int .u8 18), .lit (.int .u8 12), .lit (.int .u8 5), .lit (.int .u8 63), .lit (.int .u8 55), .lit (.int .u8 48), .lit (.int .u8 27), .lit (.int .u8 60), .lit (.int .u8 41), .lit (.int .u8 37), .lit (.int .u8 16), .lit (.int .u8 46), .lit (.int .u8 35), .lit (.int .u8 44), .lit (.int .u8 21), .lit (.int .u8 52), .lit (.int .u8 32), .lit (.int .u8 23), .lit (.int .u8 11), .lit (.int .u8 54), .lit (.int .u8 26), .lit (.int .u8 40), .lit (.int .u8 15), .lit (.int .u8 34), .lit (.int .u8 20), .lit (.int .u8 31), .lit (.int .u8 10), .lit (.int .u8 25), .lit (.int .u8 14), .lit (.int .u8 19), .lit (.int .u8 9), .lit (.int .u8 13), .lit (.int .u8 8), .lit (.int .u8 7), .lit (.int .u8 6)]
def laid_internal_strconv_uint64pow10 {H : Type} : DataW H := .agg [.lit (.int .u64 1), .lit (.int .u64 10), .lit (.int .u64 100), .lit (.int .u64 1000), .lit (.int .u64 10000), .lit (.int .u64 100000), .lit (.int .u64 1000000), .lit (.int .u64 10000000), .lit (.int .u64 100000000), .lit (.int .u64 1000000000), .lit (.int .u64 10000000000), .lit (.int .u64 100000000000), .lit (.int .u64 1000000000000), .lit (.int .u64 10000000000000), .lit (.int .u64 100000000000000), .lit (.int .u64 1000000000000000), .lit (.int .u64 10000000000000000), .lit (.int .u64 100000000000000000), .lit (.int .u64 1000000000000000000), .lit (.int .u64 10000000000000000000)]
def laid_estray_leak_words {H : Type} : DataW H := .agg [.lit (.string []), .lit (.string []), .lit (.string [99, 108, 111, 115, 105, 110, 103]), .lit (.string [114, 101, 108, 101, 97, 115, 101, 100]), .lit (.string [113, 117, 97, 114, 97, 110, 116, 105, 110, 101])]
def laid_estray_estraylaw36_names {H : Type} : DataW H := .slice [.lit (.string [97]), .lit (.string [109, 97, 105, 110]), .lit (.string [120, 32, 121]), .lit (.string [97])] []

/-- 'estraylaw36.LeakEnds': WHATEVER THE INPUT: true; the input reads as it did. -/
def leakEndsSpec : ChangeSpec := { name := "leakEnds", fn := fun _ => fun
  | [d] => { results := [.lit (.bool true)], args := [d] }
  | _ => none }
def leakEndsRow : OpenClaim := { program := "ytfoliffeieeihaadoor", sum := "06a74a07831bd1f27ad50706a4b1d2a293bbf22de1dc37c0ad7f01387c73aed9", func := "estray/estraylaw36.LeakEnds", spec := "leakEnds", inPlace := ["internal/abi.NoEscape"], unfollowed := true, recurses := true, named := ["estray/estraylaw36.names", "estray/leak.words", "internal/strconv.uint64pow10", "math/bits.deBruijn32tab", "math/bits.deBruijn64tab"], plainKeys := false, apart := false, laid := [("math/bits.deBruijn32tab", laid_math_bits_deBruijn32tab), ("math/bits.deBruijn64tab", laid_math_bits_deBruijn64tab), ("internal/strconv.uint64pow10", laid_internal_strconv_uint64pow10), ("estray/leak.words", laid_estray_leak_words), ("estray/estraylaw36.names", laid_estray_estraylaw36_names)] }
def LeakEndsSaid : Prop := leakEndsRow.holds Tryd.pinned (OpenSpec.ofChange leakEndsSpec)

/-- ITS FALSE NEIGHBOUR: 'it returns false'. Refute it at one input. -/
def leakEndsWrong : ChangeSpec := { name := "leakEnds", fn := fun _ => fun
  | [d] => { results := [.lit (.bool false)], args := [d] }
  | _ => none }
def LeakEndsWrongFalsely : Prop := leakEndsRow.holds Tryd.pinned (OpenSpec.ofChange leakEndsWrong)

/-- 'estraylaw36.LeakStays': WHATEVER THE INPUT: true; the input reads as it did. -/
def leakStaysSpec : ChangeSpec := { name := "leakStays", fn := fun _ => fun
  | [d] => { results := [.lit (.bool true)], args := [d] }
  | _ => none }
def leakStaysRow : OpenClaim := { program := "ytfoliffeieeihaadoor", sum := "06a74a07831bd1f27ad50706a4b1d2a293bbf22de1dc37c0ad7f01387c73aed9", func := "estray/estraylaw36.LeakStays", spec := "leakStays", inPlace := ["internal/abi.NoEscape"], unfollowed := true, recurses := true, named := ["estray/leak.words", "internal/strconv.uint64pow10", "math/bits.deBruijn32tab", "math/bits.deBruijn64tab", "estray/estraylaw36.names"], plainKeys := false, apart := false, laid := [("math/bits.deBruijn32tab", laid_math_bits_deBruijn32tab), ("math/bits.deBruijn64tab", laid_math_bits_deBruijn64tab), ("internal/strconv.uint64pow10", laid_internal_strconv_uint64pow10), ("estray/leak.words", laid_estray_leak_words), ("estray/estraylaw36.names", laid_estray_estraylaw36_names)] }
def LeakStaysSaid : Prop := leakStaysRow.holds Tryd.pinned (OpenSpec.ofChange leakStaysSpec)

/-- ITS FALSE NEIGHBOUR: 'it returns false'. Refute it at one input. -/
def leakStaysWrong : ChangeSpec := { name := "leakStays", fn := fun _ => fun
  | [d] => { results := [.lit (.bool false)], args := [d] }
  | _ => none }
def LeakStaysWrongFalsely : Prop := leakStaysRow.holds Tryd.pinned (OpenSpec.ofChange leakStaysWrong)

/-- 'estraylaw36.LeakFirst': WHATEVER THE INPUT: true; the input reads as it did. -/
def leakFirstSpec : ChangeSpec := { name := "leakFirst", fn := fun _ => fun
  | [d] => { results := [.lit (.bool true)], args := [d] }
  | _ => none }
def leakFirstRow : OpenClaim := { program := "ytfoliffeieeihaadoor", sum := "06a74a07831bd1f27ad50706a4b1d2a293bbf22de1dc37c0ad7f01387c73aed9", func := "estray/estraylaw36.LeakFirst", spec := "leakFirst", inPlace := ["internal/abi.NoEscape"], unfollowed := true, recurses := true, named := ["estray/estraylaw36.names", "estray/leak.words", "internal/strconv.uint64pow10", "math/bits.deBruijn32tab", "math/bits.deBruijn64tab"], plainKeys := false, apart := false, laid := [("math/bits.deBruijn32tab", laid_math_bits_deBruijn32tab), ("math/bits.deBruijn64tab", laid_math_bits_deBruijn64tab), ("internal/strconv.uint64pow10", laid_internal_strconv_uint64pow10), ("estray/leak.words", laid_estray_leak_words), ("estray/estraylaw36.names", laid_estray_estraylaw36_names)] }
def LeakFirstSaid : Prop := leakFirstRow.holds Tryd.pinned (OpenSpec.ofChange leakFirstSpec)

/-- ITS FALSE NEIGHBOUR: 'it returns false'. Refute it at one input. -/
def leakFirstWrong : ChangeSpec := { name := "leakFirst", fn := fun _ => fun
  | [d] => { results := [.lit (.bool false)], args := [d] }
  | _ => none }
def LeakFirstWrongFalsely : Prop := leakFirstRow.holds Tryd.pinned (OpenSpec.ofChange leakFirstWrong)

/-- 'estraylaw36.LeakCounts': WHATEVER THE INPUT: true; the input reads as it did. -/
def leakCountsSpec : ChangeSpec := { name := "leakCounts", fn := fun _ => fun
  | [d] => { results := [.lit (.bool true)], args := [d] }
  | _ => none }
def leakCountsRow : OpenClaim := { program := "ytfoliffeieeihaadoor", sum := "06a74a07831bd1f27ad50706a4b1d2a293bbf22de1dc37c0ad7f01387c73aed9", func := "estray/estraylaw36.LeakCounts", spec := "leakCounts", inPlace := ["internal/abi.NoEscape"], unfollowed := true, recurses := true, named := ["estray/leak.words", "internal/strconv.uint64pow10", "math/bits.deBruijn32tab", "math/bits.deBruijn64tab", "estray/estraylaw36.names"], plainKeys := false, apart := false, laid := [("math/bits.deBruijn32tab", laid_math_bits_deBruijn32tab), ("math/bits.deBruijn64tab", laid_math_bits_deBruijn64tab), ("internal/strconv.uint64pow10", laid_internal_strconv_uint64pow10), ("estray/leak.words", laid_estray_leak_words), ("estray/estraylaw36.names", laid_estray_estraylaw36_names)] }
def LeakCountsSaid : Prop := leakCountsRow.holds Tryd.pinned (OpenSpec.ofChange leakCountsSpec)

/-- ITS FALSE NEIGHBOUR: 'it returns false'. Refute it at one input. -/
def leakCountsWrong : ChangeSpec := { name := "leakCounts", fn := fun _ => fun
  | [d] => { results := [.lit (.bool false)], args := [d] }
  | _ => none }
def LeakCountsWrongFalsely : Prop := leakCountsRow.holds Tryd.pinned (OpenSpec.ofChange leakCountsWrong)

/-- 'estraylaw36.LeakKnown': WHATEVER THE INPUT: true; the input reads as it did. -/
def leakKnownSpec : ChangeSpec := { name := "leakKnown", fn := fun _ => fun
  | [] => { results := [.lit (.bool true)], args := [] }
  | _ => none }
def leakKnownRow : OpenClaim := { program := "ytfoliffeieeihaadoor", sum := "06a74a07831bd1f27ad50706a4b1d2a293bbf22de1dc37c0ad7f01387c73aed9", func := "estray/estraylaw36.LeakKnown", spec := "leakKnown", inPlace := ["internal/abi.NoEscape"], unfollowed := true, recurses := true, named := ["estray/leak.words", "internal/strconv.uint64pow10", "math/bits.deBruijn32tab", "math/bits.deBruijn64tab"], plainKeys := false, apart := false, laid := [("math/bits.deBruijn32tab", laid_math_bits_deBruijn32tab), ("math/bits.deBruijn64tab", laid_math_bits_deBruijn64tab), ("internal/strconv.uint64pow10", laid_internal_strconv_uint64pow10), ("estray/leak.words", laid_estray_leak_words)] }
def LeakKnownSaid : Prop := leakKnownRow.holds Tryd.pinned (OpenSpec.ofChange leakKnownSpec)

/-- ITS FALSE NEIGHBOUR: 'it returns false'. Refute it at one input. -/
def leakKnownWrong : ChangeSpec := { name := "leakKnown", fn := fun _ => fun
  | [] => { results := [.lit (.bool false)], args := [] }
  | _ => none }
def LeakKnownWrongFalsely : Prop := leakKnownRow.holds Tryd.pinned (OpenSpec.ofChange leakKnownWrong)

/-- 'estraylaw36.LeakApart': WHATEVER THE INPUT: true; the input reads as it did. -/
def leakApartSpec : ChangeSpec := { name := "leakApart", fn := fun _ => fun
  | [d] => { results := [.lit (.bool true)], args := [d] }
  | _ => none }
def leakApartRow : OpenClaim := { program := "ytfoliffeieeihaadoor", sum := "06a74a07831bd1f27ad50706a4b1d2a293bbf22de1dc37c0ad7f01387c73aed9", func := "estray/estraylaw36.LeakApart", spec := "leakApart", inPlace := ["internal/abi.NoEscape"], unfollowed := true, recurses := true, named := ["estray/leak.words", "internal/strconv.uint64pow10", "math/bits.deBruijn32tab", "math/bits.deBruijn64tab", "estray/estraylaw36.names"], plainKeys := false, apart := false, laid := [("math/bits.deBruijn32tab", laid_math_bits_deBruijn32tab), ("math/bits.deBruijn64tab", laid_math_bits_deBruijn64tab), ("internal/strconv.uint64pow10", laid_internal_strconv_uint64pow10), ("estray/leak.words", laid_estray_leak_words), ("estray/estraylaw36.names", laid_estray_estraylaw36_names)] }
def LeakApartSaid : Prop := leakApartRow.holds Tryd.pinned (OpenSpec.ofChange leakApartSpec)

/-- ITS FALSE NEIGHBOUR: 'it returns false'. Refute it at one input. -/
def leakApartWrong : ChangeSpec := { name := "leakApart", fn := fun _ => fun
  | [d] => { results := [.lit (.bool false)], args := [d] }
  | _ => none }
def LeakApartWrongFalsely : Prop := leakApartRow.holds Tryd.pinned (OpenSpec.ofChange leakApartWrong)

/-- 'estraylaw36.LeakNil': WHATEVER THE INPUT: true; the input reads as it did. -/
def leakNilSpec : ChangeSpec := { name := "leakNil", fn := fun _ => fun
  | [d] => { results := [.lit (.bool true)], args := [d] }
  | _ => none }
def leakNilRow : OpenClaim := { program := "ytfoliffeieeihaadoor", sum := "06a74a07831bd1f27ad50706a4b1d2a293bbf22de1dc37c0ad7f01387c73aed9", func := "estray/estraylaw36.LeakNil", spec := "leakNil", inPlace := ["internal/abi.NoEscape"], unfollowed := true, recurses := true, named := ["estray/leak.words", "internal/strconv.uint64pow10", "math/bits.deBruijn32tab", "math/bits.deBruijn64tab"], plainKeys := false, apart := false, laid := [("math/bits.deBruijn32tab", laid_math_bits_deBruijn32tab), ("math/bits.deBruijn64tab", laid_math_bits_deBruijn64tab), ("internal/strconv.uint64pow10", laid_internal_strconv_uint64pow10), ("estray/leak.words", laid_estray_leak_words)] }
def LeakNilSaid : Prop := leakNilRow.holds Tryd.pinned (OpenSpec.ofChange leakNilSpec)

/-- ITS FALSE NEIGHBOUR: 'it returns false'. Refute it at one input. -/
def leakNilWrong : ChangeSpec := { name := "leakNil", fn := fun _ => fun
  | [d] => { results := [.lit (.bool false)], args := [d] }
  | _ => none }
def LeakNilWrongFalsely : Prop := leakNilRow.holds Tryd.pinned (OpenSpec.ofChange leakNilWrong)

/-- 'estraylaw36.LeakFrom': WHATEVER THE INPUT: true; the input reads as it did. -/
def leakFromSpec : ChangeSpec := { name := "leakFrom", fn := fun _ => fun
  | [d] => { results := [.lit (.bool true)], args := [d] }
  | _ => none }
def leakFromRow : OpenClaim := { program := "ytfoliffeieeihaadoor", sum := "06a74a07831bd1f27ad50706a4b1d2a293bbf22de1dc37c0ad7f01387c73aed9", func := "estray/estraylaw36.LeakFrom", spec := "leakFrom", inPlace := ["internal/abi.NoEscape"], unfollowed := true, recurses := true, named := ["estray/estraylaw36.names", "estray/leak.words", "internal/strconv.uint64pow10", "math/bits.deBruijn32tab", "math/bits.deBruijn64tab"], plainKeys := false, apart := false, laid := [("math/bits.deBruijn32tab", laid_math_bits_deBruijn32tab), ("math/bits.deBruijn64tab", laid_math_bits_deBruijn64tab), ("internal/strconv.uint64pow10", laid_internal_strconv_uint64pow10), ("estray/leak.words", laid_estray_leak_words), ("estray/estraylaw36.names", laid_estray_estraylaw36_names)] }
def LeakFromSaid : Prop := leakFromRow.holds Tryd.pinned (OpenSpec.ofChange leakFromSpec)

/-- ITS FALSE NEIGHBOUR: 'it returns false'. Refute it at one input. -/
def leakFromWrong : ChangeSpec := { name := "leakFrom", fn := fun _ => fun
  | [d] => { results := [.lit (.bool false)], args := [d] }
  | _ => none }
def LeakFromWrongFalsely : Prop := leakFromRow.holds Tryd.pinned (OpenSpec.ofChange leakFromWrong)

/- THE SECOND FORM. 'bulk': how many values and letters a reading holds, each counted each time it is reached (what is shared counts as often as it is met; a slice's spare places count too). A statement '..UptoSaid' is the law's where the arguments, and the package variables that the reading takes, are together of bulk at most 1048576: NARROWER than '..Said'. Prove '..Said' where nothing that the law and all that it calls make is longer than what came in: it says more and counts as full. Else prove '..UptoSaid'. A law counts once. -/
mutual
def uptoBulk {H : Type} : DataW H → Nat
  | .lit (.string bytes) => bytes.length + 1
  | .lit _ => 1
  | .nil => 1
  | .ptr d => uptoBulk d + 1
  | .slice elems spare => uptoBulkAll elems + uptoBulkAll spare + 1
  | .agg parts => uptoBulkAll parts + 1
  | .iface _ d => uptoBulk d + 1
  | .map entries => uptoBulkEntries entries + 1
  | .held _ => 1
def uptoBulkAll {H : Type} : List (DataW H) → Nat
  | [] => 0
  | d :: r => uptoBulk d + uptoBulkAll r
def uptoBulkEntries {H : Type} : List (Lit × DataW H) → Nat
  | [] => 0
  | x :: r => uptoBulkEntry x + uptoBulkEntries r
def uptoBulkEntry {H : Type} : Lit × DataW H → Nat
  | (.string bytes, d) => bytes.length + uptoBulk d + 1
  | (_, d) => uptoBulk d + 1
 end
def uptoSmall : (H : Type) → List (DataW H) → Bool := fun _ ds => decide (uptoBulkAll ds ≤ 1048576)
def OpenSpec.upto (s : _root_.Go.ChangeSpec) : _root_.Go.OpenSpec := { _root_.Go.OpenSpec.ofChange s with cond := some uptoSmall }

/-- 'estraylaw36.LeakEnds', WHERE WHAT IT READS IS OF BULK AT MOST 1048576: true; the input reads as it did. -/
def leakEndsUptoRow : OpenClaim := { program := "ytfoliffeieeihaadoor", sum := "06a74a07831bd1f27ad50706a4b1d2a293bbf22de1dc37c0ad7f01387c73aed9", func := "estray/estraylaw36.LeakEnds", spec := "leakEnds", inPlace := ["internal/abi.NoEscape"], unfollowed := true, recurses := true, named := ["estray/estraylaw36.names", "estray/leak.words", "internal/strconv.uint64pow10", "math/bits.deBruijn32tab", "math/bits.deBruijn64tab"], plainKeys := false, apart := false, laid := [("math/bits.deBruijn32tab", laid_math_bits_deBruijn32tab), ("math/bits.deBruijn64tab", laid_math_bits_deBruijn64tab), ("internal/strconv.uint64pow10", laid_internal_strconv_uint64pow10), ("estray/leak.words", laid_estray_leak_words), ("estray/estraylaw36.names", laid_estray_estraylaw36_names)], narrowed := true }
def LeakEndsUptoSaid : Prop := leakEndsUptoRow.holds Tryd.pinned (OpenSpec.upto leakEndsSpec)

/-- 'estraylaw36.LeakStays', WHERE WHAT IT READS IS OF BULK AT MOST 1048576: true; the input reads as it did. -/
def leakStaysUptoRow : OpenClaim := { program := "ytfoliffeieeihaadoor", sum := "06a74a07831bd1f27ad50706a4b1d2a293bbf22de1dc37c0ad7f01387c73aed9", func := "estray/estraylaw36.LeakStays", spec := "leakStays", inPlace := ["internal/abi.NoEscape"], unfollowed := true, recurses := true, named := ["estray/leak.words", "internal/strconv.uint64pow10", "math/bits.deBruijn32tab", "math/bits.deBruijn64tab", "estray/estraylaw36.names"], plainKeys := false, apart := false, laid := [("math/bits.deBruijn32tab", laid_math_bits_deBruijn32tab), ("math/bits.deBruijn64tab", laid_math_bits_deBruijn64tab), ("internal/strconv.uint64pow10", laid_internal_strconv_uint64pow10), ("estray/leak.words", laid_estray_leak_words), ("estray/estraylaw36.names", laid_estray_estraylaw36_names)], narrowed := true }
def LeakStaysUptoSaid : Prop := leakStaysUptoRow.holds Tryd.pinned (OpenSpec.upto leakStaysSpec)

/-- 'estraylaw36.LeakFirst', WHERE WHAT IT READS IS OF BULK AT MOST 1048576: true; the input reads as it did. -/
def leakFirstUptoRow : OpenClaim := { program := "ytfoliffeieeihaadoor", sum := "06a74a07831bd1f27ad50706a4b1d2a293bbf22de1dc37c0ad7f01387c73aed9", func := "estray/estraylaw36.LeakFirst", spec := "leakFirst", inPlace := ["internal/abi.NoEscape"], unfollowed := true, recurses := true, named := ["estray/estraylaw36.names", "estray/leak.words", "internal/strconv.uint64pow10", "math/bits.deBruijn32tab", "math/bits.deBruijn64tab"], plainKeys := false, apart := false, laid := [("math/bits.deBruijn32tab", laid_math_bits_deBruijn32tab), ("math/bits.deBruijn64tab", laid_math_bits_deBruijn64tab), ("internal/strconv.uint64pow10", laid_internal_strconv_uint64pow10), ("estray/leak.words", laid_estray_leak_words), ("estray/estraylaw36.names", laid_estray_estraylaw36_names)], narrowed := true }
def LeakFirstUptoSaid : Prop := leakFirstUptoRow.holds Tryd.pinned (OpenSpec.upto leakFirstSpec)

/-- 'estraylaw36.LeakCounts', WHERE WHAT IT READS IS OF BULK AT MOST 1048576: true; the input reads as it did. -/
def leakCountsUptoRow : OpenClaim := { program := "ytfoliffeieeihaadoor", sum := "06a74a07831bd1f27ad50706a4b1d2a293bbf22de1dc37c0ad7f01387c73aed9", func := "estray/estraylaw36.LeakCounts", spec := "leakCounts", inPlace := ["internal/abi.NoEscape"], unfollowed := true, recurses := true, named := ["estray/leak.words", "internal/strconv.uint64pow10", "math/bits.deBruijn32tab", "math/bits.deBruijn64tab", "estray/estraylaw36.names"], plainKeys := false, apart := false, laid := [("math/bits.deBruijn32tab", laid_math_bits_deBruijn32tab), ("math/bits.deBruijn64tab", laid_math_bits_deBruijn64tab), ("internal/strconv.uint64pow10", laid_internal_strconv_uint64pow10), ("estray/leak.words", laid_estray_leak_words), ("estray/estraylaw36.names", laid_estray_estraylaw36_names)], narrowed := true }
def LeakCountsUptoSaid : Prop := leakCountsUptoRow.holds Tryd.pinned (OpenSpec.upto leakCountsSpec)

/-- 'estraylaw36.LeakKnown', WHERE WHAT IT READS IS OF BULK AT MOST 1048576: true; the input reads as it did. -/
def leakKnownUptoRow : OpenClaim := { program := "ytfoliffeieeihaadoor", sum := "06a74a07831bd1f27ad50706a4b1d2a293bbf22de1dc37c0ad7f01387c73aed9", func := "estray/estraylaw36.LeakKnown", spec := "leakKnown", inPlace := ["internal/abi.NoEscape"], unfollowed := true, recurses := true, named := ["estray/leak.words", "internal/strconv.uint64pow10", "math/bits.deBruijn32tab", "math/bits.deBruijn64tab"], plainKeys := false, apart := false, laid := [("math/bits.deBruijn32tab", laid_math_bits_deBruijn32tab), ("math/bits.deBruijn64tab", laid_math_bits_deBruijn64tab), ("internal/strconv.uint64pow10", laid_internal_strconv_uint64pow10), ("estray/leak.words", laid_estray_leak_words)], narrowed := true }
def LeakKnownUptoSaid : Prop := leakKnownUptoRow.holds Tryd.pinned (OpenSpec.upto leakKnownSpec)

/-- 'estraylaw36.LeakApart', WHERE WHAT IT READS IS OF BULK AT MOST 1048576: true; the input reads as it did. -/
def leakApartUptoRow : OpenClaim := { program := "ytfoliffeieeihaadoor", sum := "06a74a07831bd1f27ad50706a4b1d2a293bbf22de1dc37c0ad7f01387c73aed9", func := "estray/estraylaw36.LeakApart", spec := "leakApart", inPlace := ["internal/abi.NoEscape"], unfollowed := true, recurses := true, named := ["estray/leak.words", "internal/strconv.uint64pow10", "math/bits.deBruijn32tab", "math/bits.deBruijn64tab", "estray/estraylaw36.names"], plainKeys := false, apart := false, laid := [("math/bits.deBruijn32tab", laid_math_bits_deBruijn32tab), ("math/bits.deBruijn64tab", laid_math_bits_deBruijn64tab), ("internal/strconv.uint64pow10", laid_internal_strconv_uint64pow10), ("estray/leak.words", laid_estray_leak_words), ("estray/estraylaw36.names", laid_estray_estraylaw36_names)], narrowed := true }
def LeakApartUptoSaid : Prop := leakApartUptoRow.holds Tryd.pinned (OpenSpec.upto leakApartSpec)

/-- 'estraylaw36.LeakNil', WHERE WHAT IT READS IS OF BULK AT MOST 1048576: true; the input reads as it did. -/
def leakNilUptoRow : OpenClaim := { program := "ytfoliffeieeihaadoor", sum := "06a74a07831bd1f27ad50706a4b1d2a293bbf22de1dc37c0ad7f01387c73aed9", func := "estray/estraylaw36.LeakNil", spec := "leakNil", inPlace := ["internal/abi.NoEscape"], unfollowed := true, recurses := true, named := ["estray/leak.words", "internal/strconv.uint64pow10", "math/bits.deBruijn32tab", "math/bits.deBruijn64tab"], plainKeys := false, apart := false, laid := [("math/bits.deBruijn32tab", laid_math_bits_deBruijn32tab), ("math/bits.deBruijn64tab", laid_math_bits_deBruijn64tab), ("internal/strconv.uint64pow10", laid_internal_strconv_uint64pow10), ("estray/leak.words", laid_estray_leak_words)], narrowed := true }
def LeakNilUptoSaid : Prop := leakNilUptoRow.holds Tryd.pinned (OpenSpec.upto leakNilSpec)

/-- 'estraylaw36.LeakFrom', WHERE WHAT IT READS IS OF BULK AT MOST 1048576: true; the input reads as it did. -/
def leakFromUptoRow : OpenClaim := { program := "ytfoliffeieeihaadoor", sum := "06a74a07831bd1f27ad50706a4b1d2a293bbf22de1dc37c0ad7f01387c73aed9", func := "estray/estraylaw36.LeakFrom", spec := "leakFrom", inPlace := ["internal/abi.NoEscape"], unfollowed := true, recurses := true, named := ["estray/estraylaw36.names", "estray/leak.words", "internal/strconv.uint64pow10", "math/bits.deBruijn32tab", "math/bits.deBruijn64tab"], plainKeys := false, apart := false, laid := [("math/bits.deBruijn32tab", laid_math_bits_deBruijn32tab), ("math/bits.deBruijn64tab", laid_math_bits_deBruijn64tab), ("internal/strconv.uint64pow10", laid_internal_strconv_uint64pow10), ("estray/leak.words", laid_estray_leak_words), ("estray/estraylaw36.names", laid_estray_estraylaw36_names)], narrowed := true }
def LeakFromUptoSaid : Prop := leakFromUptoRow.holds Tryd.pinned (OpenSpec.upto leakFromSpec)

end Rows
end Go.Proofs.YtfoliffeieeihaaDoor
