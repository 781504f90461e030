/- The given card of LeakNil holds. No condition. -/
import Derived.Test.YtfoliffeieeihaaDoorRows
import Derived.Test.YtfoliffeieeihaaDoorCards
import Derived.Test.YtfoliffeieeihaaDoorTie
import Derived.Deep.DeepHandedRow
import Derived.Lib.LaidTab
import Derived.WalkKit
import Derived.ProofKit
import Derived.OpenShut
import Derived.ChangeOld
import Derived.Below
import Derived.Carry
import Derived.Test.YtfoliffeieeihaaDoorRow
import Derived.Test.YtfoliffeieeihaaDoorBundle35
import Derived.Test.YtfoliffeieeihaaDoorLai
namespace Go.Proofs.YtfoliffeieeihaaDoor
open Go.ChangeShapes Go.WideShapes Go.ChangeAt Go.RowKit
theorem rdT3 {H : Type} {enc : TypeId × Value → H} {w : World} {base : Nat} {spare : Nat → Bool} {held : Bool} {fuel : Nat} {cs : List Value} {x : DataW H × List MemPlace} (h : DataW.trod enc Tryd.prog w base spare held fuel 3 cs = some x) :
    ∃ (a0 : Int), cs = [.int .i64 a0] ∧ ((-9223372036854775808) ≤ a0 ∧ a0 ≤ 9223372036854775807) := by
  obtain ⟨z, h1, h2, h3⟩ := rd_int Tryd.underlying3 h
  exact ⟨z, h1, (by simpa [IntKind.min, IntKind.max, IntKind.signed, IntKind.bits] using h2), (by simpa [IntKind.min, IntKind.max, IntKind.signed, IntKind.bits] using h3)⟩
theorem rdT28 {H : Type} {enc : TypeId × Value → H} {w : World} {base : Nat} {spare : Nat → Bool} {held : Bool} {fuel : Nat} {cs : List Value} {x : DataW H × List MemPlace} (h : DataW.trod enc Tryd.prog w base spare held fuel 28 cs = some x) :
    ∃ (a0 : Int), cs = [.int .u32 a0] ∧ ((0) ≤ a0 ∧ a0 ≤ 4294967295) := by
  obtain ⟨z, h1, h2, h3⟩ := rd_int Tryd.underlying28 h
  exact ⟨z, h1, (by simpa [IntKind.min, IntKind.max, IntKind.signed, IntKind.bits] using h2), (by simpa [IntKind.min, IntKind.max, IntKind.signed, IntKind.bits] using h3)⟩
theorem rdT30 {H : Type} {enc : TypeId × Value → H} {w : World} {base : Nat} {spare : Nat → Bool} {held : Bool} {fuel : Nat} {cs : List Value} {x : DataW H × List MemPlace} (h : DataW.trod enc Tryd.prog w base spare held fuel 30 cs = some x) :
    ∃ (a0 : Int) (a1 : Int) (a2 : Int), cs = [.int .i64 a0, .int .i64 a1, .int .u32 a2] ∧ ((-9223372036854775808) ≤ a0 ∧ a0 ≤ 9223372036854775807) ∧ ((-9223372036854775808) ≤ a1 ∧ a1 ≤ 9223372036854775807) ∧ ((0) ≤ a2 ∧ a2 ≤ 4294967295) := by
  have hl : cs.length = 3 := (rd_parts Tryd.underlying30 h).1.trans (by kernel_rfl)
  match cs, hl, h with
  | [c0, c1, c2], _, h =>
    obtain ⟨y0, n0, h0⟩ := rd_field Tryd.underlying30 h 0 _ rfl 1 (by kernel_rfl)
    obtain ⟨a0, e0, p0_0⟩ := rdT3 h0
    have e0 : [c0] = [.int .i64 a0] := e0
    simp only [List.cons.injEq, and_true] at e0
    obtain rfl := e0
    obtain ⟨y1, n1, h1⟩ := rd_field Tryd.underlying30 h 1 _ rfl 1 (by kernel_rfl)
    obtain ⟨a1, e1, p1_0⟩ := rdT3 h1
    have e1 : [c1] = [.int .i64 a1] := e1
    simp only [List.cons.injEq, and_true] at e1
    obtain rfl := e1
    obtain ⟨y2, n2, h2⟩ := rd_field Tryd.underlying30 h 2 _ rfl 1 (by kernel_rfl)
    obtain ⟨a2, e2, p2_0⟩ := rdT28 h2
    have e2 : [c2] = [.int .u32 a2] := e2
    simp only [List.cons.injEq, and_true] at e2
    obtain rfl := e2
    exact ⟨a0, a1, a2, rfl, p0_0, p1_0, p2_0⟩
theorem rdT9 {H : Type} {enc : TypeId × Value → H} {w : World} {base : Nat} {spare : Nat → Bool} {held : Bool} {fuel : Nat} {cs : List Value} {x : DataW H × List MemPlace} (h : DataW.trod enc Tryd.prog w base spare held fuel 9 cs = some x) :
    ∃ (a0 : ByteArray), cs = [.string a0] ∧ (a0.size ≤ maxLen) := by
  exact rd_string Tryd.underlying9 h
theorem rdT2 {H : Type} {enc : TypeId × Value → H} {w : World} {base : Nat} {spare : Nat → Bool} {held : Bool} {fuel : Nat} {cs : List Value} {x : DataW H × List MemPlace} (h : DataW.trod enc Tryd.prog w base spare held fuel 2 cs = some x) :
    ∃ (a0 : Int), cs = [.int .i64 a0] ∧ ((-9223372036854775808) ≤ a0 ∧ a0 ≤ 9223372036854775807) := by
  obtain ⟨z, h1, h2, h3⟩ := rd_int Tryd.underlying2 h
  exact ⟨z, h1, (by simpa [IntKind.min, IntKind.max, IntKind.signed, IntKind.bits] using h2), (by simpa [IntKind.min, IntKind.max, IntKind.signed, IntKind.bits] using h3)⟩
theorem rdT35 {H : Type} {enc : TypeId × Value → H} {w : World} {base : Nat} {spare : Nat → Bool} {held : Bool} {fuel : Nat} {cs : List Value} {x : DataW H × List MemPlace} (h : DataW.trod enc Tryd.prog w base spare held fuel 35 cs = some x) :
    ∃ (a0 : Int) (a1 : Int) (a2 : Int) (a3 : Int) (a4 : Int) (a5 : Int), cs = [.int .i64 a0, .int .i64 a1, .int .i64 a2, .int .u32 a3, .int .i64 a4, .int .i64 a5] ∧ ((-9223372036854775808) ≤ a0 ∧ a0 ≤ 9223372036854775807) ∧ ((-9223372036854775808) ≤ a1 ∧ a1 ≤ 9223372036854775807) ∧ ((-9223372036854775808) ≤ a2 ∧ a2 ≤ 9223372036854775807) ∧ ((0) ≤ a3 ∧ a3 ≤ 4294967295) ∧ ((-9223372036854775808) ≤ a4 ∧ a4 ≤ 9223372036854775807) ∧ ((-9223372036854775808) ≤ a5 ∧ a5 ≤ 9223372036854775807) := by
  have hl : cs.length = 6 := (rd_parts Tryd.underlying35 h).1.trans (by kernel_rfl)
  match cs, hl, h with
  | [c0, c1, c2, c3, c4, c5], _, h =>
    obtain ⟨y0, n0, h0⟩ := rd_field Tryd.underlying35 h 0 _ rfl 1 (by kernel_rfl)
    obtain ⟨a0, e0, p0_0⟩ := rdT2 h0
    have e0 : [c0] = [.int .i64 a0] := e0
    simp only [List.cons.injEq, and_true] at e0
    obtain rfl := e0
    obtain ⟨y1, n1, h1⟩ := rd_field Tryd.underlying35 h 1 _ rfl 3 (by kernel_rfl)
    obtain ⟨a1, a2, a3, e1, p1_0, p1_1, p1_2⟩ := rdT30 h1
    have e1 : [c1, c2, c3] = [.int .i64 a1, .int .i64 a2, .int .u32 a3] := e1
    simp only [List.cons.injEq, and_true] at e1
    obtain ⟨rfl, rfl, rfl⟩ := e1
    obtain ⟨y2, n2, h2⟩ := rd_field Tryd.underlying35 h 2 _ rfl 1 (by kernel_rfl)
    obtain ⟨a4, e2, p2_0⟩ := rdT3 h2
    have e2 : [c4] = [.int .i64 a4] := e2
    simp only [List.cons.injEq, and_true] at e2
    obtain rfl := e2
    obtain ⟨y3, n3, h3⟩ := rd_field Tryd.underlying35 h 3 _ rfl 1 (by kernel_rfl)
    obtain ⟨a5, e3, p3_0⟩ := rdT3 h3
    have e3 : [c5] = [.int .i64 a5] := e3
    simp only [List.cons.injEq, and_true] at e3
    obtain rfl := e3
    exact ⟨a0, a1, a2, a3, a4, a5, rfl, p0_0, p1_0, p1_1, p1_2, p2_0, p3_0⟩
theorem rdT56 {H : Type} {enc : TypeId × Value → H} {w : World} {base : Nat} {spare : Nat → Bool} {held : Bool} {fuel : Nat} {cs : List Value} {x : DataW H × List MemPlace} (h : DataW.trod enc Tryd.prog w base spare held fuel 56 cs = some x) :
    ∃ (a0 : Int) (a1 : Int) (a2 : Int) (a3 : Int) (a4 : ByteArray) (a5 : Int) (a6 : Int) (a7 : Int) (a8 : Int) (a9 : Int) (a10 : Int), cs = [.int .i64 a0, .int .i64 a1, .int .i64 a2, .int .u32 a3, .string a4, .int .i64 a5, .int .i64 a6, .int .i64 a7, .int .u32 a8, .int .i64 a9, .int .i64 a10] ∧ ((-9223372036854775808) ≤ a0 ∧ a0 ≤ 9223372036854775807) ∧ ((-9223372036854775808) ≤ a1 ∧ a1 ≤ 9223372036854775807) ∧ ((-9223372036854775808) ≤ a2 ∧ a2 ≤ 9223372036854775807) ∧ ((0) ≤ a3 ∧ a3 ≤ 4294967295) ∧ (a4.size ≤ maxLen) ∧ ((-9223372036854775808) ≤ a5 ∧ a5 ≤ 9223372036854775807) ∧ ((-9223372036854775808) ≤ a6 ∧ a6 ≤ 9223372036854775807) ∧ ((-9223372036854775808) ≤ a7 ∧ a7 ≤ 9223372036854775807) ∧ ((0) ≤ a8 ∧ a8 ≤ 4294967295) ∧ ((-9223372036854775808) ≤ a9 ∧ a9 ≤ 9223372036854775807) ∧ ((-9223372036854775808) ≤ a10 ∧ a10 ≤ 9223372036854775807) := by
  have hl : cs.length = 11 := (rd_parts Tryd.underlying56 h).1.trans (by kernel_rfl)
  match cs, hl, h with
  | [c0, c1, c2, c3, c4, c5, c6, c7, c8, c9, c10], _, h =>
    obtain ⟨y0, n0, h0⟩ := rd_field Tryd.underlying56 h 0 _ rfl 1 (by kernel_rfl)
    obtain ⟨a0, e0, p0_0⟩ := rdT3 h0
    have e0 : [c0] = [.int .i64 a0] := e0
    simp only [List.cons.injEq, and_true] at e0
    obtain rfl := e0
    obtain ⟨y1, n1, h1⟩ := rd_field Tryd.underlying56 h 1 _ rfl 3 (by kernel_rfl)
    obtain ⟨a1, a2, a3, e1, p1_0, p1_1, p1_2⟩ := rdT30 h1
    have e1 : [c1, c2, c3] = [.int .i64 a1, .int .i64 a2, .int .u32 a3] := e1
    simp only [List.cons.injEq, and_true] at e1
    obtain ⟨rfl, rfl, rfl⟩ := e1
    obtain ⟨y2, n2, h2⟩ := rd_field Tryd.underlying56 h 2 _ rfl 1 (by kernel_rfl)
    obtain ⟨a4, e2, p2_0⟩ := rdT9 h2
    have e2 : [c4] = [.string a4] := e2
    simp only [List.cons.injEq, and_true] at e2
    obtain rfl := e2
    obtain ⟨y3, n3, h3⟩ := rd_field Tryd.underlying56 h 3 _ rfl 6 (by kernel_rfl)
    obtain ⟨a5, a6, a7, a8, a9, a10, e3, p3_0, p3_1, p3_2, p3_3, p3_4, p3_5⟩ := rdT35 h3
    have e3 : [c5, c6, c7, c8, c9, c10] = [.int .i64 a5, .int .i64 a6, .int .i64 a7, .int .u32 a8, .int .i64 a9, .int .i64 a10] := e3
    simp only [List.cons.injEq, and_true] at e3
    obtain ⟨rfl, rfl, rfl, rfl, rfl, rfl⟩ := e3
    exact ⟨a0, a1, a2, a3, a4, a5, a6, a7, a8, a9, a10, rfl, p0_0, p1_0, p1_1, p1_2, p2_0, p3_0, p3_1, p3_2, p3_3, p3_4, p3_5⟩
namespace leakNilRow
theorem own : ownKnob Tryd.prog.godebug = none := by kernel_rfl
theorem laidOut : laidOutB Tryd.prog = true := by kernel_rfl
theorem gP : Tryd.prog.globalNamed "internal/strconv.uint64pow10" = some 2 := by kernel_rfl
theorem gPType : (Tryd.prog.globals[2]?).map (·.type) = some 147 := by kernel_rfl
theorem cPT : Tryd.prog.cellsOf 147 = 20 := by kernel_rfl
theorem cPE : Tryd.prog.cellsOf 116 = 1 := by kernel_rfl
theorem gW : Tryd.prog.globalNamed "estray/leak.words" = some 1 := by kernel_rfl
theorem gWType : (Tryd.prog.globals[1]?).map (·.type) = some 81 := by kernel_rfl
theorem cWT : Tryd.prog.cellsOf 81 = 5 := by kernel_rfl
theorem cWE : Tryd.prog.cellsOf 9 = 1 := by kernel_rfl
theorem lett {W : World} (h : laidMetH Tryd.prog Rows.leakNilRow.laid W) : Ld Tryd.prog 1 W := by
  obtain ⟨q0, h0, _⟩ := (show laidMet Tryd.prog Rows.leakNilRow.laid W from h)
  obtain ⟨q1, h1⟩ := laid_tail h0
  obtain ⟨q2, h2⟩ := laid_tail h1
  obtain ⟨q3, h3⟩ := laid_tail h2
  refine ⟨laid_tab (zs := Lib.pow10Tab) gP gPType Tryd.underlying147 Tryd.underlying116 cPE cPT h2, fun z hz1 hz2 => ?_⟩
  have hz : z = 2 ∨ z = 3 ∨ z = 4 := by omega
  rcases hz with rfl | rfl | rfl
  · rw [show wdL ((2 : Nat) : Int) = [99, 108, 111, 115, 105, 110, 103] from by decide]
    exact laid_strs (zs := [[], [], [99, 108, 111, 115, 105, 110, 103], [114, 101, 108, 101, 97, 115, 101, 100], [113, 117, 97, 114, 97, 110, 116, 105, 110, 101]]) gW gWType Tryd.underlying81 Tryd.underlying9 cWE cWT h3 (j := 2) rfl
  · rw [show wdL ((3 : Nat) : Int) = [114, 101, 108, 101, 97, 115, 101, 100] from by decide]
    exact laid_strs (zs := [[], [], [99, 108, 111, 115, 105, 110, 103], [114, 101, 108, 101, 97, 115, 101, 100], [113, 117, 97, 114, 97, 110, 116, 105, 110, 101]]) gW gWType Tryd.underlying81 Tryd.underlying9 cWE cWT h3 (j := 3) rfl
  · rw [show wdL ((4 : Nat) : Int) = [113, 117, 97, 114, 97, 110, 116, 105, 110, 101] from by decide]
    exact laid_strs (zs := [[], [], [99, 108, 111, 115, 105, 110, 103], [114, 101, 108, 101, 97, 115, 101, 100], [113, 117, 97, 114, 97, 110, 116, 105, 110, 101]]) gW gWType Tryd.underlying81 Tryd.underlying9 cWE cWT h3 (j := 4) rfl
set_option maxRecDepth 100000 in
set_option maxHeartbeats 4000000 in
theorem contract (H : Type) (enc : TypeId × Value → H) (W : World) (base : Nat) (args : Array Value) (ds gs : List (DataW H)) (before : List MemPlace)
    (hval0 : ∀ (j : Nat) t v, Tryd.f9.params[j]? = some t → args[j]? = some v → Value.okWide Tryd.prog W .any base t v)
    (hW : DataW.Whole enc Tryd.prog Tryd.f9.params.toList Rows.leakNilSpec.vars false W args.toList ds gs before) (hL : laidMetH Tryd.prog Rows.leakNilRow.laid W) :
    Calls Tryd.prog 9 args W fun e W' => ∃ v, e = .returned v ∧ Rows.leakNilSpec.post enc Tryd.prog Tryd.f9 false true false false W args v W' := by
  have hg := lett hL
  have hval : ∀ (j : Nat) t v, Tryd.f9.params[j]? = some t → args[j]? = some v → Value.okWide Tryd.prog W .any base t v := hval0
  have hW' := hW
  obtain ⟨p, q, hA0, hV, rfl, hfz, hnd⟩ := hW
  have hA : DataW.TrodAll enc Tryd.prog W 0 (fun _ => true) true Tryd.f9.params.toList args.toList ds p := hA0
  rw [Tryd.params9] at hA hval
  obtain ⟨v0, vs0, d0, ds0, p0, q0, hargs, rfl, rfl, h0, r0⟩ := trodAll_cons hA
  obtain ⟨rfl, rfl, rfl⟩ := trodAll_nil r0
  obtain rfl : args = #[v0] := by cases args; simp_all
  obtain ⟨rfl, rfl⟩ := trodVars_none hV
  have k0 := h0
  have lt0 : ∀ x ∈ p0, x.block < W.heap.size := by obtain ⟨m, hm⟩ := k0; exact DataW.trod_lt m _ _ _ hm
  obtain ⟨cv0, rfl, hsz0⟩ := okWide_struct Tryd.underlying56 (hval 0 56 _ rfl rfl)
  obtain ⟨fu0, hf0⟩ := h0
  obtain ⟨a0_0, a0_1, a0_2, a0_3, a0_4, a0_5, a0_6, a0_7, a0_8, a0_9, a0_10, e0, g0_0, g0_1, g0_2, g0_3, g0_4, g0_5, g0_6, g0_7, g0_8, g0_9, g0_10⟩ := rdT56 hf0
  obtain rfl : cv0 = #[.int .i64 a0_0, .int .i64 a0_1, .int .i64 a0_2, .int .u32 a0_3, .string a0_4, .int .i64 a0_5, .int .i64 a0_6, .int .i64 a0_7, .int .u32 a0_8, .int .i64 a0_9, .int .i64 a0_10] := by cases cv0; simpa [Value.cells] using e0
  refine ((leaknil_ht a0_0 a0_1 a0_2 a0_3 a0_4.data.toList a0_5 a0_6 a0_7 a0_8 a0_9 a0_10 g0_3.1 g0_3.2 g0_8.1 g0_8.2 W hg) W W [] (sat_start W)).mono fun e W' ⟨v, K, he, ⟨hv, hK⟩, hs⟩ => ?_
  subst hv; subst hK; subst he
  have bel : Below W.heap.size W W' := sat_below (i := 0) hs rfl
  exact ⟨_, rfl, _, _, _, [], _, [], hW', trodAll_mk1 (shut_bool Tryd.underlying4 _), (trodAll_cons_mk (Below.trod laidOut (by kernel_rfl) (of_decide_eq_true (by kernel_rfl)) k0 bel lt0) trodAll_mk0), rfl, bel.frame _, fun h => by cases h⟩
noncomputable def laidWorld (os : Os) : World :=
  { World.holding Tryd.prog os ⟨#[], #[], []⟩ with heap := (((((World.holding Tryd.prog os ⟨#[], #[], []⟩).heap.modify 3 fun
      | .cells _ t frozen => .cells #[.int .u8 0, .int .u8 1, .int .u8 28, .int .u8 2, .int .u8 29, .int .u8 14, .int .u8 24, .int .u8 3, .int .u8 30, .int .u8 22, .int .u8 20, .int .u8 15, .int .u8 25, .int .u8 17, .int .u8 4, .int .u8 8, .int .u8 31, .int .u8 27, .int .u8 13, .int .u8 23, .int .u8 21, .int .u8 19, .int .u8 16, .int .u8 7, .int .u8 26, .int .u8 12, .int .u8 18, .int .u8 6, .int .u8 11, .int .u8 5, .int .u8 10, .int .u8 9] t frozen
      | o => o).modify 4 fun
      | .cells _ t frozen => .cells #[.int .u8 0, .int .u8 1, .int .u8 56, .int .u8 2, .int .u8 57, .int .u8 49, .int .u8 28, .int .u8 3, .int .u8 61, .int .u8 58, .int .u8 42, .int .u8 50, .int .u8 38, .int .u8 29, .int .u8 17, .int .u8 4, .int .u8 62, .int .u8 47, .int .u8 59, .int .u8 36, .int .u8 45, .int .u8 43, .int .u8 51, .int .u8 22, .int .u8 53, .int .u8 39, .int .u8 33, .int .u8 30, .int .u8 24, .int .u8 18, .int .u8 12, .int .u8 5, .int .u8 63, .int .u8 55, .int .u8 48, .int .u8 27, .int .u8 60, .int .u8 41, .int .u8 37, .int .u8 16, .int .u8 46, .int .u8 35, .int .u8 44, .int .u8 21, .int .u8 52, .int .u8 32, .int .u8 23, .int .u8 11, .int .u8 54, .int .u8 26, .int .u8 40, .int .u8 15, .int .u8 34, .int .u8 20, .int .u8 31, .int .u8 10, .int .u8 25, .int .u8 14, .int .u8 19, .int .u8 9, .int .u8 13, .int .u8 8, .int .u8 7, .int .u8 6] t frozen
      | o => o).modify 2 fun
      | .cells _ t frozen => .cells #[.int .u64 1, .int .u64 10, .int .u64 100, .int .u64 1000, .int .u64 10000, .int .u64 100000, .int .u64 1000000, .int .u64 10000000, .int .u64 100000000, .int .u64 1000000000, .int .u64 10000000000, .int .u64 100000000000, .int .u64 1000000000000, .int .u64 10000000000000, .int .u64 100000000000000, .int .u64 1000000000000000, .int .u64 10000000000000000, .int .u64 100000000000000000, .int .u64 1000000000000000000, .int .u64 10000000000000000000] t frozen
      | o => o).modify 1 fun
      | .cells _ t frozen => .cells #[.string ⟨#[]⟩, .string ⟨#[]⟩, .string ⟨#[99, 108, 111, 115, 105, 110, 103]⟩, .string ⟨#[114, 101, 108, 101, 97, 115, 101, 100]⟩, .string ⟨#[113, 117, 97, 114, 97, 110, 116, 105, 110, 101]⟩] t frozen
      | o => o) }
theorem laid_met (os : Os) : laidMet Tryd.prog Rows.leakNilRow.laid ((laidWorld os).forCall (fun _ _ => 0) ⟨#[], #[.agg #[.int .i64 0, .int .i64 0, .int .i64 0, .int .u32 0, .string (St []), .int .i64 0, .int .i64 0, .int .i64 0, .int .u32 0, .int .i64 0, .int .i64 0]], []⟩).memory :=
  laidMet_of_run' 8 (by kernel_rfl) (by kernel_rfl)
theorem reads (os : Os) {H : Type} (enc : TypeId × Value → H) : ∃ places, DataW.whole enc Tryd.prog ((laidWorld os).forCall (fun _ _ => 0) ⟨#[], #[.agg #[.int .i64 0, .int .i64 0, .int .i64 0, .int .u32 0, .string (St []), .int .i64 0, .int .i64 0, .int .i64 0, .int .u32 0, .int .i64 0, .int .i64 0]], []⟩).memory Tryd.f9.params.toList Rows.leakNilSpec.vars false (#[.agg #[.int .i64 0, .int .i64 0, .int .i64 0, .int .u32 0, .string (St []), .int .i64 0, .int .i64 0, .int .i64 0, .int .u32 0, .int .i64 0, .int .i64 0]] : Array Value).toList 8 = some ([.agg [.lit (.int .i64 0), .agg [.lit (.int .i64 0), .lit (.int .i64 0), .lit (.int .u32 0)], .lit (.string []), .agg [.lit (.int .i64 0), .agg [.lit (.int .i64 0), .lit (.int .i64 0), .lit (.int .u32 0)], .lit (.int .i64 0), .lit (.int .i64 0)]]], [], places) :=
  ⟨[], by kernel_rfl⟩
set_option maxRecDepth 100000 in
theorem lifted (os : Os) (started : os.Started) (H : Type) (enc : TypeId × Value → H) (F : Stop.Interp) :
    ReturnsInHanded {} Tryd.checked os 9 .any ((OpenSpec.ofChange Rows.leakNilSpec).preRow enc Tryd.prog Tryd.f9 Rows.leakNilRow.domain false Rows.leakNilRow.laid) (((OpenSpec.ofChange Rows.leakNilSpec).at F).post enc Tryd.prog Tryd.f9 false true false false) := by
  obtain ⟨places, hx⟩ := reads os enc
  refine returnsInHanded_of_row (C := Tryd.checked) (s := OpenSpec.ofChange Rows.leakNilSpec) own started (by kernel_rfl) Tryd.func9
    (witness_row_at (enc := enc) (C := Tryd.checked) false (laidWorld os) #[.agg #[.int .i64 0, .int .i64 0, .int .i64 0, .int .u32 0, .string (St []), .int .i64 0, .int .i64 0, .int .i64 0, .int .u32 0, .int .i64 0, .int .i64 0]] rfl (by kernel_rfl) (by kernel_rfl) (by kernel_rfl)
      (OpenSpec.preRow_of_cond 8 hx (by kernel_rfl) (fun k hk => by cases hk) (by kernel_rfl) (laid_met os))) ?_
  intro W base args ds gs before hval hW _ _ _ hL _ _
  exact contract H enc W base args ds gs before hval hW hL
theorem said : Rows.LeakNilSaid :=
  OpenClaim.holds_of_cond 9 Tryd.f9 rfl rfl rfl rfl rfl rfl rfl ⟨rfl, rfl, rfl, rfl, rfl⟩ rfl rfl rfl rfl rfl (by kernel_rfl) Tryd.func9 (by kernel_rfl)
    (of_decide_eq_true (by kernel_rfl)) (by unfold Func.isWrapper; first | (rw [if_pos (by decide +kernel)]; kernel_rfl) | (rw [if_neg (by decide +kernel)]; exact ⟨rfl, rfl⟩))
    (fun os started H enc _ F => by rw [OpenClaim.pre_eq_preRow]; exact lifted os started H enc F)
theorem plain (f : FuncId) (fn : Func) (hf : Tryd.pinned.checked.prog.funcNamed "estray/estraylaw36.LeakNil" = some f) (hfn : Tryd.pinned.checked.prog.funcs[f]? = some fn) :
    false = Tryd.pinned.checked.prog.looks [] ∧ ∀ (j : Nat) t, fn.params[j]? = some t → Tryd.pinned.checked.prog.wantsStandIn t = false := by
  obtain rfl : f = 9 := Option.some.inj ((show Tryd.prog.funcNamed "estray/estraylaw36.LeakNil" = some 9 by kernel_rfl).symm.trans hf) |>.symm
  obtain rfl : fn = Tryd.f9 := (Option.some.inj (Tryd.func9.symm.trans hfn)).symm
  refine ⟨by kernel_rfl, fun j t ht => ?_⟩
  rw [Tryd.params9] at ht
  have hm : t = 56 := by simpa using Array.mem_of_getElem? ht
  rcases hm with rfl
  · exact (show Tryd.prog.wantsStandIn 56 = false by kernel_rfl)
theorem card : Rows.LeakNilCardSaid :=
  Claim7.holds_tied_plain_at .later [] _ _ _ _ said (fun _ h => by cases h) (by kernel_rfl) (fun _ h => by cases h) leakNil_row_tie rfl ⟨rfl, rfl⟩ (by kernel_rfl) rfl plain (by kernel_rfl)
end leakNilRow
/-- The law LeakNil, as stated. -/
theorem leakNil_holds : Rows.LeakNilCardSaid := leakNilRow.card
#print axioms leakNil_holds
end Go.Proofs.YtfoliffeieeihaaDoor

