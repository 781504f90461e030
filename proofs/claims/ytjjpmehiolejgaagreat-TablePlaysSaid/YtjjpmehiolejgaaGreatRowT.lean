/- The given statement TablePlays holds. No condition. -/
import Derived.Test.YtjjpmehiolejgaaGreatRows
import Derived.WalkKit
import Derived.ProofKit
import Derived.OpenShut
import Derived.ChangeOld
import Derived.Below
import Derived.Carry
import Derived.Test.YtjjpmehiolejgaaGreatRow
import Derived.Test.YtjjpmehiolejgaaGreatBundle40
namespace Go.Proofs.YtjjpmehiolejgaaGreat
open Go.ChangeShapes Go.WideShapes Go.ChangeAt Go.RowKit
theorem rdT3 {H : Type} {enc : TypeId × Value → H} {w : World} {base : Nat} {spare : Nat → Bool} {held : Bool} {fuel : Nat} {cs : List Value} {x : DataW H × List MemPlace} (h : DataW.trod enc Tryz.prog w base spare held fuel 3 cs = some x) :
    ∃ (a0 : Int), cs = [.int .i64 a0] ∧ ((-9223372036854775808) ≤ a0 ∧ a0 ≤ 9223372036854775807) := by
  obtain ⟨z, h1, h2, h3⟩ := rd_int Tryz.underlying3 h
  exact ⟨z, h1, (by simpa [IntKind.min, IntKind.max, IntKind.signed, IntKind.bits] using h2), (by simpa [IntKind.min, IntKind.max, IntKind.signed, IntKind.bits] using h3)⟩
theorem rdT22 {H : Type} {enc : TypeId × Value → H} {w : World} {base : Nat} {spare : Nat → Bool} {held : Bool} {fuel : Nat} {cs : List Value} {x : DataW H × List MemPlace} (h : DataW.trod enc Tryz.prog w base spare held fuel 22 cs = some x) :
    ∃ (a0 : Int), cs = [.int .u32 a0] ∧ ((0) ≤ a0 ∧ a0 ≤ 4294967295) := by
  obtain ⟨z, h1, h2, h3⟩ := rd_int Tryz.underlying22 h
  exact ⟨z, h1, (by simpa [IntKind.min, IntKind.max, IntKind.signed, IntKind.bits] using h2), (by simpa [IntKind.min, IntKind.max, IntKind.signed, IntKind.bits] using h3)⟩
theorem rdT36 {H : Type} {enc : TypeId × Value → H} {w : World} {base : Nat} {spare : Nat → Bool} {held : Bool} {fuel : Nat} {cs : List Value} {x : DataW H × List MemPlace} (h : DataW.trod enc Tryz.prog w base spare held fuel 36 cs = some x) :
    ∃ (a0 : Int) (a1 : Int) (a2 : Int), cs = [.int .i64 a0, .int .i64 a1, .int .u32 a2] ∧ ((-9223372036854775808) ≤ a0 ∧ a0 ≤ 9223372036854775807) ∧ ((-9223372036854775808) ≤ a1 ∧ a1 ≤ 9223372036854775807) ∧ ((0) ≤ a2 ∧ a2 ≤ 4294967295) := by
  have hl : cs.length = 3 := (rd_parts Tryz.underlying36 h).1.trans (by kernel_rfl)
  match cs, hl, h with
  | [c0, c1, c2], _, h =>
    obtain ⟨y0, n0, h0⟩ := rd_field Tryz.underlying36 h 0 _ rfl 1 (by kernel_rfl)
    obtain ⟨a0, e0, p0_0⟩ := rdT3 h0
    have e0 : [c0] = [.int .i64 a0] := e0
    simp only [List.cons.injEq, and_true] at e0
    obtain rfl := e0
    obtain ⟨y1, n1, h1⟩ := rd_field Tryz.underlying36 h 1 _ rfl 1 (by kernel_rfl)
    obtain ⟨a1, e1, p1_0⟩ := rdT3 h1
    have e1 : [c1] = [.int .i64 a1] := e1
    simp only [List.cons.injEq, and_true] at e1
    obtain rfl := e1
    obtain ⟨y2, n2, h2⟩ := rd_field Tryz.underlying36 h 2 _ rfl 1 (by kernel_rfl)
    obtain ⟨a2, e2, p2_0⟩ := rdT22 h2
    have e2 : [c2] = [.int .u32 a2] := e2
    simp only [List.cons.injEq, and_true] at e2
    obtain rfl := e2
    exact ⟨a0, a1, a2, rfl, p0_0, p1_0, p2_0⟩
theorem rdT9 {H : Type} {enc : TypeId × Value → H} {w : World} {base : Nat} {spare : Nat → Bool} {held : Bool} {fuel : Nat} {cs : List Value} {x : DataW H × List MemPlace} (h : DataW.trod enc Tryz.prog w base spare held fuel 9 cs = some x) :
    ∃ (a0 : ByteArray), cs = [.string a0] ∧ (a0.size ≤ maxLen) := by
  exact rd_string Tryz.underlying9 h
theorem rdT38 {H : Type} {enc : TypeId × Value → H} {w : World} {base : Nat} {spare : Nat → Bool} {held : Bool} {fuel : Nat} {cs : List Value} {x : DataW H × List MemPlace} (h : DataW.trod enc Tryz.prog w base spare held fuel 38 cs = some x) :
    ∃ (a0 : Int) (a1 : Int), cs = [.int .i64 a0, .int .u32 a1] ∧ ((-9223372036854775808) ≤ a0 ∧ a0 ≤ 9223372036854775807) ∧ ((0) ≤ a1 ∧ a1 ≤ 4294967295) := by
  have hl : cs.length = 2 := (rd_parts Tryz.underlying38 h).1.trans (by kernel_rfl)
  match cs, hl, h with
  | [c0, c1], _, h =>
    obtain ⟨y0, n0, h0⟩ := rd_field Tryz.underlying38 h 0 _ rfl 1 (by kernel_rfl)
    obtain ⟨a0, e0, p0_0⟩ := rdT3 h0
    have e0 : [c0] = [.int .i64 a0] := e0
    simp only [List.cons.injEq, and_true] at e0
    obtain rfl := e0
    obtain ⟨y1, n1, h1⟩ := rd_field Tryz.underlying38 h 1 _ rfl 1 (by kernel_rfl)
    obtain ⟨a1, e1, p1_0⟩ := rdT22 h1
    have e1 : [c1] = [.int .u32 a1] := e1
    simp only [List.cons.injEq, and_true] at e1
    obtain rfl := e1
    exact ⟨a0, a1, rfl, p0_0, p1_0⟩
theorem rdT25 {H : Type} {enc : TypeId × Value → H} {w : World} {base : Nat} {spare : Nat → Bool} {held : Bool} {fuel : Nat} {cs : List Value} {x : DataW H × List MemPlace} (h : DataW.trod enc Tryz.prog w base spare held fuel 25 cs = some x) :
    ∃ (a0 : Int) (a1 : Int) (a2 : Int), cs = [.int .i64 a0, .int .i64 a1, .int .u32 a2] ∧ ((-9223372036854775808) ≤ a0 ∧ a0 ≤ 9223372036854775807) ∧ ((-9223372036854775808) ≤ a1 ∧ a1 ≤ 9223372036854775807) ∧ ((0) ≤ a2 ∧ a2 ≤ 4294967295) := by
  have hl : cs.length = 3 := (rd_parts Tryz.underlying25 h).1.trans (by kernel_rfl)
  match cs, hl, h with
  | [c0, c1, c2], _, h =>
    obtain ⟨y0, n0, h0⟩ := rd_field Tryz.underlying25 h 0 _ rfl 1 (by kernel_rfl)
    obtain ⟨a0, e0, p0_0⟩ := rdT3 h0
    have e0 : [c0] = [.int .i64 a0] := e0
    simp only [List.cons.injEq, and_true] at e0
    obtain rfl := e0
    obtain ⟨y1, n1, h1⟩ := rd_field Tryz.underlying25 h 1 _ rfl 1 (by kernel_rfl)
    obtain ⟨a1, e1, p1_0⟩ := rdT3 h1
    have e1 : [c1] = [.int .i64 a1] := e1
    simp only [List.cons.injEq, and_true] at e1
    obtain rfl := e1
    obtain ⟨y2, n2, h2⟩ := rd_field Tryz.underlying25 h 2 _ rfl 1 (by kernel_rfl)
    obtain ⟨a2, e2, p2_0⟩ := rdT22 h2
    have e2 : [c2] = [.int .u32 a2] := e2
    simp only [List.cons.injEq, and_true] at e2
    obtain rfl := e2
    exact ⟨a0, a1, a2, rfl, p0_0, p1_0, p2_0⟩
theorem rdT2 {H : Type} {enc : TypeId × Value → H} {w : World} {base : Nat} {spare : Nat → Bool} {held : Bool} {fuel : Nat} {cs : List Value} {x : DataW H × List MemPlace} (h : DataW.trod enc Tryz.prog w base spare held fuel 2 cs = some x) :
    ∃ (a0 : Int), cs = [.int .i64 a0] ∧ ((-9223372036854775808) ≤ a0 ∧ a0 ≤ 9223372036854775807) := by
  obtain ⟨z, h1, h2, h3⟩ := rd_int Tryz.underlying2 h
  exact ⟨z, h1, (by simpa [IntKind.min, IntKind.max, IntKind.signed, IntKind.bits] using h2), (by simpa [IntKind.min, IntKind.max, IntKind.signed, IntKind.bits] using h3)⟩
theorem rdT40 {H : Type} {enc : TypeId × Value → H} {w : World} {base : Nat} {spare : Nat → Bool} {held : Bool} {fuel : Nat} {cs : List Value} {x : DataW H × List MemPlace} (h : DataW.trod enc Tryz.prog w base spare held fuel 40 cs = some x) :
    ∃ (a0 : Int) (a1 : Int) (a2 : Int) (a3 : Int) (a4 : Int) (a5 : Int) (a6 : Int) (a7 : ByteArray), cs = [.int .i64 a0, .int .i64 a1, .int .u32 a2, .int .i64 a3, .int .i64 a4, .int .i64 a5, .int .i64 a6, .string a7] ∧ ((-9223372036854775808) ≤ a0 ∧ a0 ≤ 9223372036854775807) ∧ ((-9223372036854775808) ≤ a1 ∧ a1 ≤ 9223372036854775807) ∧ ((0) ≤ a2 ∧ a2 ≤ 4294967295) ∧ ((-9223372036854775808) ≤ a3 ∧ a3 ≤ 9223372036854775807) ∧ ((-9223372036854775808) ≤ a4 ∧ a4 ≤ 9223372036854775807) ∧ ((-9223372036854775808) ≤ a5 ∧ a5 ≤ 9223372036854775807) ∧ ((-9223372036854775808) ≤ a6 ∧ a6 ≤ 9223372036854775807) ∧ (a7.size ≤ maxLen) := by
  have hl : cs.length = 8 := (rd_parts Tryz.underlying40 h).1.trans (by kernel_rfl)
  match cs, hl, h with
  | [c0, c1, c2, c3, c4, c5, c6, c7], _, h =>
    obtain ⟨y0, n0, h0⟩ := rd_field Tryz.underlying40 h 0 _ rfl 3 (by kernel_rfl)
    obtain ⟨a0, a1, a2, e0, p0_0, p0_1, p0_2⟩ := rdT36 h0
    have e0 : [c0, c1, c2] = [.int .i64 a0, .int .i64 a1, .int .u32 a2] := e0
    simp only [List.cons.injEq, and_true] at e0
    obtain ⟨rfl, rfl, rfl⟩ := e0
    obtain ⟨y1, n1, h1⟩ := rd_field Tryz.underlying40 h 1 _ rfl 1 (by kernel_rfl)
    obtain ⟨a3, e1, p1_0⟩ := rdT3 h1
    have e1 : [c3] = [.int .i64 a3] := e1
    simp only [List.cons.injEq, and_true] at e1
    obtain rfl := e1
    obtain ⟨y2, n2, h2⟩ := rd_field Tryz.underlying40 h 2 _ rfl 1 (by kernel_rfl)
    obtain ⟨a4, e2, p2_0⟩ := rdT3 h2
    have e2 : [c4] = [.int .i64 a4] := e2
    simp only [List.cons.injEq, and_true] at e2
    obtain rfl := e2
    obtain ⟨y3, n3, h3⟩ := rd_field Tryz.underlying40 h 3 _ rfl 1 (by kernel_rfl)
    obtain ⟨a5, e3, p3_0⟩ := rdT3 h3
    have e3 : [c5] = [.int .i64 a5] := e3
    simp only [List.cons.injEq, and_true] at e3
    obtain rfl := e3
    obtain ⟨y4, n4, h4⟩ := rd_field Tryz.underlying40 h 4 _ rfl 1 (by kernel_rfl)
    obtain ⟨a6, e4, p4_0⟩ := rdT2 h4
    have e4 : [c6] = [.int .i64 a6] := e4
    simp only [List.cons.injEq, and_true] at e4
    obtain rfl := e4
    obtain ⟨y5, n5, h5⟩ := rd_field Tryz.underlying40 h 5 _ rfl 1 (by kernel_rfl)
    obtain ⟨a7, e5, p5_0⟩ := rdT9 h5
    have e5 : [c7] = [.string a7] := e5
    simp only [List.cons.injEq, and_true] at e5
    obtain rfl := e5
    exact ⟨a0, a1, a2, a3, a4, a5, a6, a7, rfl, p0_0, p0_1, p0_2, p1_0, p2_0, p3_0, p4_0, p5_0⟩
theorem rdT42 {H : Type} {enc : TypeId × Value → H} {w : World} {base : Nat} {spare : Nat → Bool} {held : Bool} {fuel : Nat} {cs : List Value} {x : DataW H × List MemPlace} (h : DataW.trod enc Tryz.prog w base spare held fuel 42 cs = some x) :
    ∃ (a0 : Int) (a1 : Int) (a2 : Int) (a3 : Int) (a4 : ByteArray) (a5 : Int) (a6 : Int) (a7 : Int) (a8 : Int) (a9 : Int) (a10 : Int) (a11 : Int) (a12 : Int) (a13 : Int) (a14 : Int) (a15 : Int) (a16 : Int) (a17 : Int) (a18 : ByteArray), cs = [.int .i64 a0, .int .i64 a1, .int .i64 a2, .int .u32 a3, .string a4, .int .i64 a5, .int .u32 a6, .int .i64 a7, .int .i64 a8, .int .u32 a9, .int .i64 a10, .int .i64 a11, .int .i64 a12, .int .u32 a13, .int .i64 a14, .int .i64 a15, .int .i64 a16, .int .i64 a17, .string a18] ∧ ((-9223372036854775808) ≤ a0 ∧ a0 ≤ 9223372036854775807) ∧ ((-9223372036854775808) ≤ a1 ∧ a1 ≤ 9223372036854775807) ∧ ((-9223372036854775808) ≤ a2 ∧ a2 ≤ 9223372036854775807) ∧ ((0) ≤ a3 ∧ a3 ≤ 4294967295) ∧ (a4.size ≤ maxLen) ∧ ((-9223372036854775808) ≤ a5 ∧ a5 ≤ 9223372036854775807) ∧ ((0) ≤ a6 ∧ a6 ≤ 4294967295) ∧ ((-9223372036854775808) ≤ a7 ∧ a7 ≤ 9223372036854775807) ∧ ((-9223372036854775808) ≤ a8 ∧ a8 ≤ 9223372036854775807) ∧ ((0) ≤ a9 ∧ a9 ≤ 4294967295) ∧ ((-9223372036854775808) ≤ a10 ∧ a10 ≤ 9223372036854775807) ∧ ((-9223372036854775808) ≤ a11 ∧ a11 ≤ 9223372036854775807) ∧ ((-9223372036854775808) ≤ a12 ∧ a12 ≤ 9223372036854775807) ∧ ((0) ≤ a13 ∧ a13 ≤ 4294967295) ∧ ((-9223372036854775808) ≤ a14 ∧ a14 ≤ 9223372036854775807) ∧ ((-9223372036854775808) ≤ a15 ∧ a15 ≤ 9223372036854775807) ∧ ((-9223372036854775808) ≤ a16 ∧ a16 ≤ 9223372036854775807) ∧ ((-9223372036854775808) ≤ a17 ∧ a17 ≤ 9223372036854775807) ∧ (a18.size ≤ maxLen) := by
  have hl : cs.length = 19 := (rd_parts Tryz.underlying42 h).1.trans (by kernel_rfl)
  match cs, hl, h with
  | [c0, c1, c2, c3, c4, c5, c6, c7, c8, c9, c10, c11, c12, c13, c14, c15, c16, c17, c18], _, h =>
    obtain ⟨y0, n0, h0⟩ := rd_field Tryz.underlying42 h 0 _ rfl 1 (by kernel_rfl)
    obtain ⟨a0, e0, p0_0⟩ := rdT3 h0
    have e0 : [c0] = [.int .i64 a0] := e0
    simp only [List.cons.injEq, and_true] at e0
    obtain rfl := e0
    obtain ⟨y1, n1, h1⟩ := rd_field Tryz.underlying42 h 1 _ rfl 3 (by kernel_rfl)
    obtain ⟨a1, a2, a3, e1, p1_0, p1_1, p1_2⟩ := rdT36 h1
    have e1 : [c1, c2, c3] = [.int .i64 a1, .int .i64 a2, .int .u32 a3] := e1
    simp only [List.cons.injEq, and_true] at e1
    obtain ⟨rfl, rfl, rfl⟩ := e1
    obtain ⟨y2, n2, h2⟩ := rd_field Tryz.underlying42 h 2 _ rfl 1 (by kernel_rfl)
    obtain ⟨a4, e2, p2_0⟩ := rdT9 h2
    have e2 : [c4] = [.string a4] := e2
    simp only [List.cons.injEq, and_true] at e2
    obtain rfl := e2
    obtain ⟨y3, n3, h3⟩ := rd_field Tryz.underlying42 h 3 _ rfl 2 (by kernel_rfl)
    obtain ⟨a5, a6, e3, p3_0, p3_1⟩ := rdT38 h3
    have e3 : [c5, c6] = [.int .i64 a5, .int .u32 a6] := e3
    simp only [List.cons.injEq, and_true] at e3
    obtain ⟨rfl, rfl⟩ := e3
    obtain ⟨y4, n4, h4⟩ := rd_field Tryz.underlying42 h 4 _ rfl 3 (by kernel_rfl)
    obtain ⟨a7, a8, a9, e4, p4_0, p4_1, p4_2⟩ := rdT25 h4
    have e4 : [c7, c8, c9] = [.int .i64 a7, .int .i64 a8, .int .u32 a9] := e4
    simp only [List.cons.injEq, and_true] at e4
    obtain ⟨rfl, rfl, rfl⟩ := e4
    obtain ⟨y5, n5, h5⟩ := rd_field Tryz.underlying42 h 5 _ rfl 1 (by kernel_rfl)
    obtain ⟨a10, e5, p5_0⟩ := rdT3 h5
    have e5 : [c10] = [.int .i64 a10] := e5
    simp only [List.cons.injEq, and_true] at e5
    obtain rfl := e5
    obtain ⟨y6, n6, h6⟩ := rd_field Tryz.underlying42 h 6 _ rfl 8 (by kernel_rfl)
    obtain ⟨a11, a12, a13, a14, a15, a16, a17, a18, e6, p6_0, p6_1, p6_2, p6_3, p6_4, p6_5, p6_6, p6_7⟩ := rdT40 h6
    have e6 : [c11, c12, c13, c14, c15, c16, c17, c18] = [.int .i64 a11, .int .i64 a12, .int .u32 a13, .int .i64 a14, .int .i64 a15, .int .i64 a16, .int .i64 a17, .string a18] := e6
    simp only [List.cons.injEq, and_true] at e6
    obtain ⟨rfl, rfl, rfl, rfl, rfl, rfl, rfl, rfl⟩ := e6
    exact ⟨a0, a1, a2, a3, a4, a5, a6, a7, a8, a9, a10, a11, a12, a13, a14, a15, a16, a17, a18, rfl, p0_0, p1_0, p1_1, p1_2, p2_0, p3_0, p3_1, p4_0, p4_1, p4_2, p5_0, p6_0, p6_1, p6_2, p6_3, p6_4, p6_5, p6_6, p6_7⟩
namespace tablePlaysRow
theorem own : ownKnob Tryz.prog.godebug = none := by kernel_rfl
theorem laidOut : laidOutB Tryz.prog = true := by kernel_rfl
set_option maxRecDepth 100000 in
set_option maxHeartbeats 4000000 in
theorem lifted (os : Os) (started : os.Started) (H : Type) (enc : TypeId × Value → H) :
    ReturnsInHanded {} Tryz.checked os 3 .any (Rows.tablePlaysSpec.pre6 enc Tryz.prog Tryz.f3 Rows.tablePlaysRow.domain false) (Rows.tablePlaysSpec.post enc Tryz.prog Tryz.f3 false true false false) := by
  refine returnsInHanded_of_change (C := Tryz.checked) own started (by kernel_rfl) Tryz.func3
    (ChangeSpec.witness6 (enc := enc) (C := Tryz.checked) false ⟨#[], #[.int .i64 0, .int .u32 0, .slice none 0 0, .agg #[.int .i64 0, .int .i64 0, .int .u32 0], .int .i64 0], []⟩ 8 (by kernel_rfl) (by kernel_rfl) (by kernel_rfl) (by kernel_rfl)) ?_
  intro W base args ds gs before hval0 hW hcnd _
  have hval : ∀ (j : Nat) t v, Tryz.f3.params[j]? = some t → args[j]? = some v → Value.okWide Tryz.prog W .any base t v := hval0
  have hW' := hW
  obtain ⟨p, q, hA0, hV, rfl, hfz, hnd⟩ := hW
  have hA : DataW.TrodAll enc Tryz.prog W 0 (fun _ => true) true Tryz.f3.params.toList args.toList ds p := hA0
  rw [Tryz.params3] at hA hval
  obtain ⟨v0, vs0, d0, ds0, p0, q0, hargs, rfl, rfl, h0, r0⟩ := trodAll_cons hA
  obtain ⟨v1, vs1, d1, ds1, p1, q1, rfl, rfl, rfl, h1, r1⟩ := trodAll_cons r0
  obtain ⟨v2, vs2, d2, ds2, p2, q2, rfl, rfl, rfl, h2, r2⟩ := trodAll_cons r1
  obtain ⟨v3, vs3, d3, ds3, p3, q3, rfl, rfl, rfl, h3, r3⟩ := trodAll_cons r2
  obtain ⟨v4, vs4, d4, ds4, p4, q4, rfl, rfl, rfl, h4, r4⟩ := trodAll_cons r3
  obtain ⟨rfl, rfl, rfl⟩ := trodAll_nil r4
  obtain rfl : args = #[v0, v1, v2, v3, v4] := by cases args; simp_all
  obtain ⟨rfl, rfl⟩ := trodVars_none hV
  have k0 := h0
  have lt0 : ∀ x ∈ p0, x.block < W.heap.size := by obtain ⟨m, hm⟩ := k0; exact DataW.trod_lt m _ _ _ hm
  obtain ⟨a0, rfl⟩ := okWide_int Tryz.underlying3 (hval 0 3 _ rfl rfl)
  obtain ⟨fu0, hf0⟩ := h0
  obtain ⟨z0, e0, g0⟩ := rdT3 hf0
  obtain rfl : a0 = z0 := by simpa [Value.cells] using e0
  have k1 := h1
  have lt1 : ∀ x ∈ p1, x.block < W.heap.size := by obtain ⟨m, hm⟩ := k1; exact DataW.trod_lt m _ _ _ hm
  obtain ⟨a1, rfl⟩ := okWide_int Tryz.underlying22 (hval 1 22 _ rfl rfl)
  obtain ⟨fu1, hf1⟩ := h1
  obtain ⟨z1, e1, g1⟩ := rdT22 hf1
  obtain rfl : a1 = z1 := by simpa [Value.cells] using e1
  have k2 := h2
  have lt2 : ∀ x ∈ p2, x.block < W.heap.size := by obtain ⟨m, hm⟩ := k2; exact DataW.trod_lt m _ _ _ hm
  obtain ⟨s2, n2, c2, T2, rfl, hT2, hO2, hr2, hc2, hm2⟩ := rd_slice eSp_ok (ok := SpOk) (by decide) Tryz.underlying23 (by kernel_rfl) (fun h => by obtain ⟨a0, a1, a2, a3, a4, a5, a6, a7, a8, a9, a10, a11, a12, a13, a14, a15, a16, a17, a18, e, g0, g1, g2, g3, g4, g5, g6, g7, g8, g9, g10, g11, g12, g13, g14, g15, g16, g17, g18⟩ := rdT42 h; exact ⟨⟨a0, (a1, a2, a3), a4.data.toList, (a5, a6), (a7, a8, a9), a10, ⟨(a11, a12, a13), a14, a15, a16, a17, a18.data.toList⟩⟩, e, ⟨g3, g6, g9, g13⟩⟩) (hval 2 23 _ rfl rfl) h2
  have k3 := h3
  have lt3 : ∀ x ∈ p3, x.block < W.heap.size := by obtain ⟨m, hm⟩ := k3; exact DataW.trod_lt m _ _ _ hm
  obtain ⟨cv3, rfl, hsz3⟩ := okWide_struct Tryz.underlying25 (hval 3 25 _ rfl rfl)
  obtain ⟨fu3, hf3⟩ := h3
  obtain ⟨a3_0, a3_1, a3_2, e3, g3_0, g3_1, g3_2⟩ := rdT25 hf3
  obtain rfl : cv3 = #[.int .i64 a3_0, .int .i64 a3_1, .int .u32 a3_2] := by cases cv3; simpa [Value.cells] using e3
  have k4 := h4
  have lt4 : ∀ x ∈ p4, x.block < W.heap.size := by obtain ⟨m, hm⟩ := k4; exact DataW.trod_lt m _ _ _ hm
  obtain ⟨a4, rfl⟩ := okWide_int Tryz.underlying3 (hval 4 3 _ rfl rfl)
  obtain ⟨fu4, hf4⟩ := h4
  obtain ⟨z4, e4, g4⟩ := rdT3 hf4
  obtain rfl : a4 = z4 := by simpa [Value.cells] using e4
  refine (tplays_law W a0 a1 g1 s2 n2 c2 T2 hr2 hT2 hO2 a3_0 a3_1 a3_2 a4 g3_2 W W [] (sat_start W)).mono fun e W' ⟨v, K, he, ⟨hv, hK⟩, hs⟩ => ?_
  subst hv; subst hK; subst he
  have bel : Below W.heap.size W W' := sat_below (i := 0) hs rfl
  exact ⟨_, rfl, _, _, _, [], _, [], hW', trodAll_mk1 (shut_bool Tryz.underlying4 _), (trodAll_cons_mk (Below.trod laidOut (by kernel_rfl) (of_decide_eq_true (by kernel_rfl)) k0 bel lt0) (trodAll_cons_mk (Below.trod laidOut (by kernel_rfl) (of_decide_eq_true (by kernel_rfl)) k1 bel lt1) (trodAll_cons_mk (Below.trod laidOut (by kernel_rfl) (of_decide_eq_true (by kernel_rfl)) k2 bel lt2) (trodAll_cons_mk (Below.trod laidOut (by kernel_rfl) (of_decide_eq_true (by kernel_rfl)) k3 bel lt3) (trodAll_cons_mk (Below.trod laidOut (by kernel_rfl) (of_decide_eq_true (by kernel_rfl)) k4 bel lt4) trodAll_mk0))))), rfl, bel.frame _, fun h => by cases h⟩
theorem over : Rows.tablePlaysRow.holds Tryz.pinned (OpenSpec.ofChange Rows.tablePlaysSpec) :=
  OpenClaim.holds_of_wide 3 Tryz.f3 rfl rfl rfl rfl rfl rfl rfl ⟨rfl, rfl, rfl, rfl, rfl⟩ rfl rfl rfl rfl rfl (by kernel_rfl) Tryz.func3 (by kernel_rfl)
    (of_decide_eq_true (by kernel_rfl)) (by unfold Func.isWrapper; first | (rw [if_pos (by decide +kernel)]; kernel_rfl) | (rw [if_neg (by decide +kernel)]; exact ⟨rfl, rfl⟩))
    (fun os started H enc _ => lifted os started H enc)
end tablePlaysRow
/-- The law TablePlays, as stated. -/
theorem tablePlays_holds : Rows.TablePlaysSaid := tablePlaysRow.over
#print axioms tablePlays_holds
end Go.Proofs.YtjjpmehiolejgaaGreat

