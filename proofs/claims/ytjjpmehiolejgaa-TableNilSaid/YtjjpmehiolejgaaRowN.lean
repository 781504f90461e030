/- The given statement TableNil holds. No condition. -/
import Derived.Test.YtjjpmehiolejgaaRows
import Derived.WalkKit
import Derived.ProofKit
import Derived.OpenShut
import Derived.ChangeOld
import Derived.Below
import Derived.Carry
import Derived.Test.YtjjpmehiolejgaaRow
import Derived.Test.YtjjpmehiolejgaaF19
namespace Go.Proofs.Ytjjpmehiolejgaa
open Go.ChangeShapes Go.WideShapes Go.ChangeAt Go.RowKit
theorem rdT3 {H : Type} {enc : TypeId × Value → H} {w : World} {base : Nat} {spare : Nat → Bool} {held : Bool} {fuel : Nat} {cs : List Value} {x : DataW H × List MemPlace} (h : DataW.trod enc Try.prog w base spare held fuel 3 cs = some x) :
    ∃ (a0 : Int), cs = [.int .i64 a0] ∧ ((-9223372036854775808) ≤ a0 ∧ a0 ≤ 9223372036854775807) := by
  obtain ⟨z, h1, h2, h3⟩ := rd_int Try.underlying3 h
  exact ⟨z, h1, (by simpa [IntKind.min, IntKind.max, IntKind.signed, IntKind.bits] using h2), (by simpa [IntKind.min, IntKind.max, IntKind.signed, IntKind.bits] using h3)⟩
theorem rdT26 {H : Type} {enc : TypeId × Value → H} {w : World} {base : Nat} {spare : Nat → Bool} {held : Bool} {fuel : Nat} {cs : List Value} {x : DataW H × List MemPlace} (h : DataW.trod enc Try.prog w base spare held fuel 26 cs = some x) :
    ∃ (a0 : Int), cs = [.int .u32 a0] ∧ ((0) ≤ a0 ∧ a0 ≤ 4294967295) := by
  obtain ⟨z, h1, h2, h3⟩ := rd_int Try.underlying26 h
  exact ⟨z, h1, (by simpa [IntKind.min, IntKind.max, IntKind.signed, IntKind.bits] using h2), (by simpa [IntKind.min, IntKind.max, IntKind.signed, IntKind.bits] using h3)⟩
theorem rdT32 {H : Type} {enc : TypeId × Value → H} {w : World} {base : Nat} {spare : Nat → Bool} {held : Bool} {fuel : Nat} {cs : List Value} {x : DataW H × List MemPlace} (h : DataW.trod enc Try.prog w base spare held fuel 32 cs = some x) :
    ∃ (a0 : Int) (a1 : Int) (a2 : Int), cs = [.int .i64 a0, .int .i64 a1, .int .u32 a2] ∧ ((-9223372036854775808) ≤ a0 ∧ a0 ≤ 9223372036854775807) ∧ ((-9223372036854775808) ≤ a1 ∧ a1 ≤ 9223372036854775807) ∧ ((0) ≤ a2 ∧ a2 ≤ 4294967295) := by
  have hl : cs.length = 3 := (rd_parts Try.underlying32 h).1.trans (by kernel_rfl)
  match cs, hl, h with
  | [c0, c1, c2], _, h =>
    obtain ⟨y0, n0, h0⟩ := rd_field Try.underlying32 h 0 _ rfl 1 (by kernel_rfl)
    obtain ⟨a0, e0, p0_0⟩ := rdT3 h0
    have e0 : [c0] = [.int .i64 a0] := e0
    simp only [List.cons.injEq, and_true] at e0
    obtain rfl := e0
    obtain ⟨y1, n1, h1⟩ := rd_field Try.underlying32 h 1 _ rfl 1 (by kernel_rfl)
    obtain ⟨a1, e1, p1_0⟩ := rdT3 h1
    have e1 : [c1] = [.int .i64 a1] := e1
    simp only [List.cons.injEq, and_true] at e1
    obtain rfl := e1
    obtain ⟨y2, n2, h2⟩ := rd_field Try.underlying32 h 2 _ rfl 1 (by kernel_rfl)
    obtain ⟨a2, e2, p2_0⟩ := rdT26 h2
    have e2 : [c2] = [.int .u32 a2] := e2
    simp only [List.cons.injEq, and_true] at e2
    obtain rfl := e2
    exact ⟨a0, a1, a2, rfl, p0_0, p1_0, p2_0⟩
theorem rdT9 {H : Type} {enc : TypeId × Value → H} {w : World} {base : Nat} {spare : Nat → Bool} {held : Bool} {fuel : Nat} {cs : List Value} {x : DataW H × List MemPlace} (h : DataW.trod enc Try.prog w base spare held fuel 9 cs = some x) :
    ∃ (a0 : ByteArray), cs = [.string a0] ∧ (a0.size ≤ maxLen) := by
  exact rd_string Try.underlying9 h
theorem rdT34 {H : Type} {enc : TypeId × Value → H} {w : World} {base : Nat} {spare : Nat → Bool} {held : Bool} {fuel : Nat} {cs : List Value} {x : DataW H × List MemPlace} (h : DataW.trod enc Try.prog w base spare held fuel 34 cs = some x) :
    ∃ (a0 : Int) (a1 : Int), cs = [.int .i64 a0, .int .u32 a1] ∧ ((-9223372036854775808) ≤ a0 ∧ a0 ≤ 9223372036854775807) ∧ ((0) ≤ a1 ∧ a1 ≤ 4294967295) := by
  have hl : cs.length = 2 := (rd_parts Try.underlying34 h).1.trans (by kernel_rfl)
  match cs, hl, h with
  | [c0, c1], _, h =>
    obtain ⟨y0, n0, h0⟩ := rd_field Try.underlying34 h 0 _ rfl 1 (by kernel_rfl)
    obtain ⟨a0, e0, p0_0⟩ := rdT3 h0
    have e0 : [c0] = [.int .i64 a0] := e0
    simp only [List.cons.injEq, and_true] at e0
    obtain rfl := e0
    obtain ⟨y1, n1, h1⟩ := rd_field Try.underlying34 h 1 _ rfl 1 (by kernel_rfl)
    obtain ⟨a1, e1, p1_0⟩ := rdT26 h1
    have e1 : [c1] = [.int .u32 a1] := e1
    simp only [List.cons.injEq, and_true] at e1
    obtain rfl := e1
    exact ⟨a0, a1, rfl, p0_0, p1_0⟩
theorem rdT28 {H : Type} {enc : TypeId × Value → H} {w : World} {base : Nat} {spare : Nat → Bool} {held : Bool} {fuel : Nat} {cs : List Value} {x : DataW H × List MemPlace} (h : DataW.trod enc Try.prog w base spare held fuel 28 cs = some x) :
    ∃ (a0 : Int) (a1 : Int) (a2 : Int), cs = [.int .i64 a0, .int .i64 a1, .int .u32 a2] ∧ ((-9223372036854775808) ≤ a0 ∧ a0 ≤ 9223372036854775807) ∧ ((-9223372036854775808) ≤ a1 ∧ a1 ≤ 9223372036854775807) ∧ ((0) ≤ a2 ∧ a2 ≤ 4294967295) := by
  have hl : cs.length = 3 := (rd_parts Try.underlying28 h).1.trans (by kernel_rfl)
  match cs, hl, h with
  | [c0, c1, c2], _, h =>
    obtain ⟨y0, n0, h0⟩ := rd_field Try.underlying28 h 0 _ rfl 1 (by kernel_rfl)
    obtain ⟨a0, e0, p0_0⟩ := rdT3 h0
    have e0 : [c0] = [.int .i64 a0] := e0
    simp only [List.cons.injEq, and_true] at e0
    obtain rfl := e0
    obtain ⟨y1, n1, h1⟩ := rd_field Try.underlying28 h 1 _ rfl 1 (by kernel_rfl)
    obtain ⟨a1, e1, p1_0⟩ := rdT3 h1
    have e1 : [c1] = [.int .i64 a1] := e1
    simp only [List.cons.injEq, and_true] at e1
    obtain rfl := e1
    obtain ⟨y2, n2, h2⟩ := rd_field Try.underlying28 h 2 _ rfl 1 (by kernel_rfl)
    obtain ⟨a2, e2, p2_0⟩ := rdT26 h2
    have e2 : [c2] = [.int .u32 a2] := e2
    simp only [List.cons.injEq, and_true] at e2
    obtain rfl := e2
    exact ⟨a0, a1, a2, rfl, p0_0, p1_0, p2_0⟩
theorem rdT2 {H : Type} {enc : TypeId × Value → H} {w : World} {base : Nat} {spare : Nat → Bool} {held : Bool} {fuel : Nat} {cs : List Value} {x : DataW H × List MemPlace} (h : DataW.trod enc Try.prog w base spare held fuel 2 cs = some x) :
    ∃ (a0 : Int), cs = [.int .i64 a0] ∧ ((-9223372036854775808) ≤ a0 ∧ a0 ≤ 9223372036854775807) := by
  obtain ⟨z, h1, h2, h3⟩ := rd_int Try.underlying2 h
  exact ⟨z, h1, (by simpa [IntKind.min, IntKind.max, IntKind.signed, IntKind.bits] using h2), (by simpa [IntKind.min, IntKind.max, IntKind.signed, IntKind.bits] using h3)⟩
theorem rdT42 {H : Type} {enc : TypeId × Value → H} {w : World} {base : Nat} {spare : Nat → Bool} {held : Bool} {fuel : Nat} {cs : List Value} {x : DataW H × List MemPlace} (h : DataW.trod enc Try.prog w base spare held fuel 42 cs = some x) :
    ∃ (a0 : Int) (a1 : Int) (a2 : Int) (a3 : Int) (a4 : Int) (a5 : Int) (a6 : Int) (a7 : ByteArray), cs = [.int .i64 a0, .int .i64 a1, .int .u32 a2, .int .i64 a3, .int .i64 a4, .int .i64 a5, .int .i64 a6, .string a7] ∧ ((-9223372036854775808) ≤ a0 ∧ a0 ≤ 9223372036854775807) ∧ ((-9223372036854775808) ≤ a1 ∧ a1 ≤ 9223372036854775807) ∧ ((0) ≤ a2 ∧ a2 ≤ 4294967295) ∧ ((-9223372036854775808) ≤ a3 ∧ a3 ≤ 9223372036854775807) ∧ ((-9223372036854775808) ≤ a4 ∧ a4 ≤ 9223372036854775807) ∧ ((-9223372036854775808) ≤ a5 ∧ a5 ≤ 9223372036854775807) ∧ ((-9223372036854775808) ≤ a6 ∧ a6 ≤ 9223372036854775807) ∧ (a7.size ≤ maxLen) := by
  have hl : cs.length = 8 := (rd_parts Try.underlying42 h).1.trans (by kernel_rfl)
  match cs, hl, h with
  | [c0, c1, c2, c3, c4, c5, c6, c7], _, h =>
    obtain ⟨y0, n0, h0⟩ := rd_field Try.underlying42 h 0 _ rfl 3 (by kernel_rfl)
    obtain ⟨a0, a1, a2, e0, p0_0, p0_1, p0_2⟩ := rdT32 h0
    have e0 : [c0, c1, c2] = [.int .i64 a0, .int .i64 a1, .int .u32 a2] := e0
    simp only [List.cons.injEq, and_true] at e0
    obtain ⟨rfl, rfl, rfl⟩ := e0
    obtain ⟨y1, n1, h1⟩ := rd_field Try.underlying42 h 1 _ rfl 1 (by kernel_rfl)
    obtain ⟨a3, e1, p1_0⟩ := rdT3 h1
    have e1 : [c3] = [.int .i64 a3] := e1
    simp only [List.cons.injEq, and_true] at e1
    obtain rfl := e1
    obtain ⟨y2, n2, h2⟩ := rd_field Try.underlying42 h 2 _ rfl 1 (by kernel_rfl)
    obtain ⟨a4, e2, p2_0⟩ := rdT3 h2
    have e2 : [c4] = [.int .i64 a4] := e2
    simp only [List.cons.injEq, and_true] at e2
    obtain rfl := e2
    obtain ⟨y3, n3, h3⟩ := rd_field Try.underlying42 h 3 _ rfl 1 (by kernel_rfl)
    obtain ⟨a5, e3, p3_0⟩ := rdT3 h3
    have e3 : [c5] = [.int .i64 a5] := e3
    simp only [List.cons.injEq, and_true] at e3
    obtain rfl := e3
    obtain ⟨y4, n4, h4⟩ := rd_field Try.underlying42 h 4 _ rfl 1 (by kernel_rfl)
    obtain ⟨a6, e4, p4_0⟩ := rdT2 h4
    have e4 : [c6] = [.int .i64 a6] := e4
    simp only [List.cons.injEq, and_true] at e4
    obtain rfl := e4
    obtain ⟨y5, n5, h5⟩ := rd_field Try.underlying42 h 5 _ rfl 1 (by kernel_rfl)
    obtain ⟨a7, e5, p5_0⟩ := rdT9 h5
    have e5 : [c7] = [.string a7] := e5
    simp only [List.cons.injEq, and_true] at e5
    obtain rfl := e5
    exact ⟨a0, a1, a2, a3, a4, a5, a6, a7, rfl, p0_0, p0_1, p0_2, p1_0, p2_0, p3_0, p4_0, p5_0⟩
theorem rdT69 {H : Type} {enc : TypeId × Value → H} {w : World} {base : Nat} {spare : Nat → Bool} {held : Bool} {fuel : Nat} {cs : List Value} {x : DataW H × List MemPlace} (h : DataW.trod enc Try.prog w base spare held fuel 69 cs = some x) :
    ∃ (a0 : Int) (a1 : Int) (a2 : Int) (a3 : Int) (a4 : ByteArray) (a5 : Int) (a6 : Int) (a7 : Int) (a8 : Int) (a9 : Int) (a10 : Int) (a11 : Int) (a12 : Int) (a13 : Int) (a14 : Int) (a15 : Int) (a16 : Int) (a17 : Int) (a18 : ByteArray), cs = [.int .i64 a0, .int .i64 a1, .int .i64 a2, .int .u32 a3, .string a4, .int .i64 a5, .int .u32 a6, .int .i64 a7, .int .i64 a8, .int .u32 a9, .int .i64 a10, .int .i64 a11, .int .i64 a12, .int .u32 a13, .int .i64 a14, .int .i64 a15, .int .i64 a16, .int .i64 a17, .string a18] ∧ ((-9223372036854775808) ≤ a0 ∧ a0 ≤ 9223372036854775807) ∧ ((-9223372036854775808) ≤ a1 ∧ a1 ≤ 9223372036854775807) ∧ ((-9223372036854775808) ≤ a2 ∧ a2 ≤ 9223372036854775807) ∧ ((0) ≤ a3 ∧ a3 ≤ 4294967295) ∧ (a4.size ≤ maxLen) ∧ ((-9223372036854775808) ≤ a5 ∧ a5 ≤ 9223372036854775807) ∧ ((0) ≤ a6 ∧ a6 ≤ 4294967295) ∧ ((-9223372036854775808) ≤ a7 ∧ a7 ≤ 9223372036854775807) ∧ ((-9223372036854775808) ≤ a8 ∧ a8 ≤ 9223372036854775807) ∧ ((0) ≤ a9 ∧ a9 ≤ 4294967295) ∧ ((-9223372036854775808) ≤ a10 ∧ a10 ≤ 9223372036854775807) ∧ ((-9223372036854775808) ≤ a11 ∧ a11 ≤ 9223372036854775807) ∧ ((-9223372036854775808) ≤ a12 ∧ a12 ≤ 9223372036854775807) ∧ ((0) ≤ a13 ∧ a13 ≤ 4294967295) ∧ ((-9223372036854775808) ≤ a14 ∧ a14 ≤ 9223372036854775807) ∧ ((-9223372036854775808) ≤ a15 ∧ a15 ≤ 9223372036854775807) ∧ ((-9223372036854775808) ≤ a16 ∧ a16 ≤ 9223372036854775807) ∧ ((-9223372036854775808) ≤ a17 ∧ a17 ≤ 9223372036854775807) ∧ (a18.size ≤ maxLen) := by
  have hl : cs.length = 19 := (rd_parts Try.underlying69 h).1.trans (by kernel_rfl)
  match cs, hl, h with
  | [c0, c1, c2, c3, c4, c5, c6, c7, c8, c9, c10, c11, c12, c13, c14, c15, c16, c17, c18], _, h =>
    obtain ⟨y0, n0, h0⟩ := rd_field Try.underlying69 h 0 _ rfl 1 (by kernel_rfl)
    obtain ⟨a0, e0, p0_0⟩ := rdT3 h0
    have e0 : [c0] = [.int .i64 a0] := e0
    simp only [List.cons.injEq, and_true] at e0
    obtain rfl := e0
    obtain ⟨y1, n1, h1⟩ := rd_field Try.underlying69 h 1 _ rfl 3 (by kernel_rfl)
    obtain ⟨a1, a2, a3, e1, p1_0, p1_1, p1_2⟩ := rdT32 h1
    have e1 : [c1, c2, c3] = [.int .i64 a1, .int .i64 a2, .int .u32 a3] := e1
    simp only [List.cons.injEq, and_true] at e1
    obtain ⟨rfl, rfl, rfl⟩ := e1
    obtain ⟨y2, n2, h2⟩ := rd_field Try.underlying69 h 2 _ rfl 1 (by kernel_rfl)
    obtain ⟨a4, e2, p2_0⟩ := rdT9 h2
    have e2 : [c4] = [.string a4] := e2
    simp only [List.cons.injEq, and_true] at e2
    obtain rfl := e2
    obtain ⟨y3, n3, h3⟩ := rd_field Try.underlying69 h 3 _ rfl 2 (by kernel_rfl)
    obtain ⟨a5, a6, e3, p3_0, p3_1⟩ := rdT34 h3
    have e3 : [c5, c6] = [.int .i64 a5, .int .u32 a6] := e3
    simp only [List.cons.injEq, and_true] at e3
    obtain ⟨rfl, rfl⟩ := e3
    obtain ⟨y4, n4, h4⟩ := rd_field Try.underlying69 h 4 _ rfl 3 (by kernel_rfl)
    obtain ⟨a7, a8, a9, e4, p4_0, p4_1, p4_2⟩ := rdT28 h4
    have e4 : [c7, c8, c9] = [.int .i64 a7, .int .i64 a8, .int .u32 a9] := e4
    simp only [List.cons.injEq, and_true] at e4
    obtain ⟨rfl, rfl, rfl⟩ := e4
    obtain ⟨y5, n5, h5⟩ := rd_field Try.underlying69 h 5 _ rfl 1 (by kernel_rfl)
    obtain ⟨a10, e5, p5_0⟩ := rdT3 h5
    have e5 : [c10] = [.int .i64 a10] := e5
    simp only [List.cons.injEq, and_true] at e5
    obtain rfl := e5
    obtain ⟨y6, n6, h6⟩ := rd_field Try.underlying69 h 6 _ rfl 8 (by kernel_rfl)
    obtain ⟨a11, a12, a13, a14, a15, a16, a17, a18, e6, p6_0, p6_1, p6_2, p6_3, p6_4, p6_5, p6_6, p6_7⟩ := rdT42 h6
    have e6 : [c11, c12, c13, c14, c15, c16, c17, c18] = [.int .i64 a11, .int .i64 a12, .int .u32 a13, .int .i64 a14, .int .i64 a15, .int .i64 a16, .int .i64 a17, .string a18] := e6
    simp only [List.cons.injEq, and_true] at e6
    obtain ⟨rfl, rfl, rfl, rfl, rfl, rfl, rfl, rfl⟩ := e6
    exact ⟨a0, a1, a2, a3, a4, a5, a6, a7, a8, a9, a10, a11, a12, a13, a14, a15, a16, a17, a18, rfl, p0_0, p1_0, p1_1, p1_2, p2_0, p3_0, p3_1, p4_0, p4_1, p4_2, p5_0, p6_0, p6_1, p6_2, p6_3, p6_4, p6_5, p6_6, p6_7⟩
namespace tableNilRow
theorem own : ownKnob Try.prog.godebug = none := by kernel_rfl
theorem laidOut : laidOutB Try.prog = true := by kernel_rfl
set_option maxRecDepth 100000 in
set_option maxHeartbeats 4000000 in
theorem lifted (os : Os) (started : os.Started) (H : Type) (enc : TypeId × Value → H) :
    ReturnsInHanded {} Try.checked os 9 .any (Rows.tableNilSpec.pre6 enc Try.prog Try.f9 Rows.tableNilRow.domain false) (Rows.tableNilSpec.post enc Try.prog Try.f9 false true false false) := by
  refine returnsInHanded_of_change (C := Try.checked) own started (by kernel_rfl) Try.func9
    (ChangeSpec.witness6 (enc := enc) (C := Try.checked) false ⟨#[], #[.agg #[.int .i64 0, .int .i64 0, .int .i64 0, .int .u32 0, .string (St []), .int .i64 0, .int .u32 0, .int .i64 0, .int .i64 0, .int .u32 0, .int .i64 0, .int .i64 0, .int .i64 0, .int .u32 0, .int .i64 0, .int .i64 0, .int .i64 0, .int .i64 0, .string (St [])]], []⟩ 8 (by kernel_rfl) (by kernel_rfl) (by kernel_rfl) (by kernel_rfl)) ?_
  intro W base args ds gs before hval0 hW hcnd _
  have hval : ∀ (j : Nat) t v, Try.f9.params[j]? = some t → args[j]? = some v → Value.okWide Try.prog W .any base t v := hval0
  have hW' := hW
  obtain ⟨p, q, hA0, hV, rfl, hfz, hnd⟩ := hW
  have hA : DataW.TrodAll enc Try.prog W 0 (fun _ => true) true Try.f9.params.toList args.toList ds p := hA0
  rw [Try.params9] at hA hval
  obtain ⟨v0, vs0, d0, ds0, p0, q0, hargs, rfl, rfl, h0, r0⟩ := trodAll_cons hA
  obtain ⟨rfl, rfl, rfl⟩ := trodAll_nil r0
  obtain rfl : args = #[v0] := by cases args; simp_all
  obtain ⟨rfl, rfl⟩ := trodVars_none hV
  have k0 := h0
  have lt0 : ∀ x ∈ p0, x.block < W.heap.size := by obtain ⟨m, hm⟩ := k0; exact DataW.trod_lt m _ _ _ hm
  obtain ⟨cv0, rfl, hsz0⟩ := okWide_struct Try.underlying69 (hval 0 69 _ rfl rfl)
  obtain ⟨fu0, hf0⟩ := h0
  obtain ⟨a0_0, a0_1, a0_2, a0_3, a0_4, a0_5, a0_6, a0_7, a0_8, a0_9, a0_10, a0_11, a0_12, a0_13, a0_14, a0_15, a0_16, a0_17, a0_18, e0, g0_0, g0_1, g0_2, g0_3, g0_4, g0_5, g0_6, g0_7, g0_8, g0_9, g0_10, g0_11, g0_12, g0_13, g0_14, g0_15, g0_16, g0_17, g0_18⟩ := rdT69 hf0
  obtain rfl : cv0 = #[.int .i64 a0_0, .int .i64 a0_1, .int .i64 a0_2, .int .u32 a0_3, .string a0_4, .int .i64 a0_5, .int .u32 a0_6, .int .i64 a0_7, .int .i64 a0_8, .int .u32 a0_9, .int .i64 a0_10, .int .i64 a0_11, .int .i64 a0_12, .int .u32 a0_13, .int .i64 a0_14, .int .i64 a0_15, .int .i64 a0_16, .int .i64 a0_17, .string a0_18] := by cases cv0; simpa [Value.cells] using e0
  refine (nil_law W a0_0 a0_1 a0_2 a0_3 a0_5 a0_6 a0_7 a0_8 a0_9 a0_10 a0_11 a0_12 a0_13 a0_14 a0_15 a0_16 a0_17 a0_4.data.toList a0_18.data.toList g0_3.1 g0_3.2 g0_6.1 g0_6.2 g0_9.1 g0_9.2 g0_13.1 g0_13.2 W W [] (sat_start W)).mono fun e W' ⟨v, K, he, ⟨hv, hK⟩, hs⟩ => ?_
  subst hv; subst hK; subst he
  have bel : Below W.heap.size W W' := sat_below (i := 0) hs rfl
  exact ⟨_, rfl, _, _, _, [], _, [], hW', trodAll_mk1 (shut_bool Try.underlying4 _), (trodAll_cons_mk (Below.trod laidOut (by kernel_rfl) (of_decide_eq_true (by kernel_rfl)) k0 bel lt0) trodAll_mk0), rfl, bel.frame _, fun h => by cases h⟩
theorem over : Rows.tableNilRow.holds Try.pinned (OpenSpec.ofChange Rows.tableNilSpec) :=
  OpenClaim.holds_of_wide 9 Try.f9 rfl rfl rfl rfl rfl rfl rfl ⟨rfl, rfl, rfl, rfl, rfl⟩ rfl rfl rfl rfl rfl (by kernel_rfl) Try.func9 (by kernel_rfl)
    (of_decide_eq_true (by kernel_rfl)) (by unfold Func.isWrapper; first | (rw [if_pos (by decide +kernel)]; kernel_rfl) | (rw [if_neg (by decide +kernel)]; exact ⟨rfl, rfl⟩))
    (fun os started H enc _ => lifted os started H enc)
end tableNilRow
/-- The law TableNil, as stated. -/
theorem tableNil_holds : Rows.TableNilSaid := tableNilRow.over
#print axioms tableNil_holds
end Go.Proofs.Ytjjpmehiolejgaa

