/- The given card of LeakFrom holds. No condition. -/
import Derived.Test.YtfoliffeieeihaaDoorRows
import Derived.Test.YtfoliffeieeihaaDoorCards
import Derived.Test.YtfoliffeieeihaaDoorTie
import Derived.Deep.DeepHandedRow
import Derived.Lib.LaidTab
import Derived.Deep.DeepWitnessRowRef
import Derived.WalkKit
import Derived.ProofKit
import Derived.OpenShut
import Derived.ChangeOld
import Derived.Below
import Derived.Carry
import Derived.Test.YtfoliffeieeihaaDoorRow
import Derived.Test.YtfoliffeieeihaaDoorBundle37
import Derived.Test.YtfoliffeieeihaaDoorLai
namespace Go.Proofs.YtfoliffeieeihaaDoor
open Go.ChangeShapes Go.WideShapes Go.ChangeAt Go.RowKit
theorem rdT5 {H : Type} {enc : TypeId × Value → H} {w : World} {base : Nat} {spare : Nat → Bool} {held : Bool} {fuel : Nat} {cs : List Value} {x : DataW H × List MemPlace} (h : DataW.trod enc Tryd.prog w base spare held fuel 5 cs = some x) :
    ∃ (a0 : Int), cs = [.int .u8 a0] ∧ ((0) ≤ a0 ∧ a0 ≤ 255) := by
  obtain ⟨z, h1, h2, h3⟩ := rd_int Tryd.underlying5 h
  exact ⟨z, h1, (by simpa [IntKind.min, IntKind.max, IntKind.signed, IntKind.bits] using h2), (by simpa [IntKind.min, IntKind.max, IntKind.signed, IntKind.bits] using h3)⟩
theorem rdT37 {H : Type} {enc : TypeId × Value → H} {w : World} {base : Nat} {spare : Nat → Bool} {held : Bool} {fuel : Nat} {cs : List Value} {x : DataW H × List MemPlace} (h : DataW.trod enc Tryd.prog w base spare held fuel 37 cs = some x) :
    ∃ (a0 : Int) (a1 : Int) (a2 : Int), cs = [.int .u8 a0, .int .u8 a1, .int .u8 a2] ∧ ((0) ≤ a0 ∧ a0 ≤ 255) ∧ ((0) ≤ a1 ∧ a1 ≤ 255) ∧ ((0) ≤ a2 ∧ a2 ≤ 255) := by
  have hl : cs.length = 3 := (rd_parts Tryd.underlying37 h).1.trans (by kernel_rfl)
  match cs, hl, h with
  | [c0, c1, c2], _, h =>
    obtain ⟨y0, n0, h0⟩ := rd_field Tryd.underlying37 h 0 _ rfl 1 (by kernel_rfl)
    obtain ⟨a0, e0, p0_0⟩ := rdT5 h0
    have e0 : [c0] = [.int .u8 a0] := e0
    simp only [List.cons.injEq, and_true] at e0
    obtain rfl := e0
    obtain ⟨y1, n1, h1⟩ := rd_field Tryd.underlying37 h 1 _ rfl 1 (by kernel_rfl)
    obtain ⟨a1, e1, p1_0⟩ := rdT5 h1
    have e1 : [c1] = [.int .u8 a1] := e1
    simp only [List.cons.injEq, and_true] at e1
    obtain rfl := e1
    obtain ⟨y2, n2, h2⟩ := rd_field Tryd.underlying37 h 2 _ rfl 1 (by kernel_rfl)
    obtain ⟨a2, e2, p2_0⟩ := rdT5 h2
    have e2 : [c2] = [.int .u8 a2] := e2
    simp only [List.cons.injEq, and_true] at e2
    obtain rfl := e2
    exact ⟨a0, a1, a2, rfl, p0_0, p1_0, p2_0⟩
namespace leakFromRow
theorem own : ownKnob Tryd.prog.godebug = none := by kernel_rfl
theorem laidOut : laidOutB Tryd.prog = true := by kernel_rfl
theorem gP : Tryd.prog.globalNamed "internal/strconv.uint64pow10" = some 2 := by kernel_rfl
theorem gPType : (Tryd.prog.globals[2]?).map (·.type) = some 147 := by kernel_rfl
theorem cPT : Tryd.prog.cellsOf 147 = 20 := by kernel_rfl
theorem cPE : Tryd.prog.cellsOf 116 = 1 := by kernel_rfl
theorem gW : Tryd.prog.globalNamed "estray/leak.words" = some 1 := by kernel_rfl
theorem gWType : (Tryd.prog.globals[1]?).map (·.type) = some 81 := by kernel_rfl
theorem cWT : Tryd.prog.cellsOf 81 = 5 := by kernel_rfl
theorem cWE : Tryd.prog.cellsOf 9 = 1 := by kernel_rfl
theorem gN : Tryd.prog.globalNamed "estray/estraylaw36.names" = some 0 := by kernel_rfl
theorem gNType : (Tryd.prog.globals[0]?).map (·.type) = some 32 := by kernel_rfl
theorem cNE : Tryd.prog.cellsOf 9 = 1 := by kernel_rfl
theorem lett {W : World} (h : laidMetH Tryd.prog Rows.leakFromRow.laid W) : Ld Tryd.prog 1 W ∧ ∃ nb no, Ln 0 nb no W := by
  obtain ⟨q0, h0, _⟩ := (show laidMet Tryd.prog Rows.leakFromRow.laid W from h)
  obtain ⟨q1, h1⟩ := laid_tail h0
  obtain ⟨q2, h2⟩ := laid_tail h1
  obtain ⟨q3, h3⟩ := laid_tail h2
  obtain ⟨q4, h4⟩ := laid_tail h3
  refine ⟨?_, ?_⟩
  rotate_left
  · obtain ⟨b, off, e1, e2⟩ := laid_sl (zs := [[97], [109, 97, 105, 110], [120, 32, 121], [97]]) gN gNType Tryd.underlying32 Tryd.underlying9 cNE (by decide) h4
    exact ⟨b, off, ln_of e1 e2⟩
  refine ⟨laid_tab (zs := Lib.pow10Tab) gP gPType Tryd.underlying147 Tryd.underlying116 cPE cPT h2, fun z hz1 hz2 => ?_⟩
  have hz : z = 2 ∨ z = 3 ∨ z = 4 := by omega
  rcases hz with rfl | rfl | rfl
  · rw [show wdL ((2 : Nat) : Int) = [99, 108, 111, 115, 105, 110, 103] from by decide]
    exact laid_strs (zs := [[], [], [99, 108, 111, 115, 105, 110, 103], [114, 101, 108, 101, 97, 115, 101, 100], [113, 117, 97, 114, 97, 110, 116, 105, 110, 101]]) gW gWType Tryd.underlying81 Tryd.underlying9 cWE cWT h3 (j := 2) rfl
  · rw [show wdL ((3 : Nat) : Int) = [114, 101, 108, 101, 97, 115, 101, 100] from by decide]
    exact laid_strs (zs := [[], [], [99, 108, 111, 115, 105, 110, 103], [114, 101, 108, 101, 97, 115, 101, 100], [113, 117, 97, 114, 97, 110, 116, 105, 110, 101]]) gW gWType Tryd.underlying81 Tryd.underlying9 cWE cWT h3 (j := 3) rfl
  · rw [show wdL ((4 : Nat) : Int) = [113, 117, 97, 114, 97, 110, 116, 105, 110, 101] from by decide]
    exact laid_strs (zs := [[], [], [99, 108, 111, 115, 105, 110, 103], [114, 101, 108, 101, 97, 115, 101, 100], [113, 117, 97, 114, 97, 110, 116, 105, 110, 101]]) gW gWType Tryd.underlying81 Tryd.underlying9 cWE cWT h3 (j := 4) rfl
set_option maxRecDepth 100000 in
set_option maxHeartbeats 4000000 in
theorem contract (H : Type) (enc : TypeId × Value → H) (W : World) (base : Nat) (args : Array Value) (ds gs : List (DataW H)) (before : List MemPlace)
    (hval0 : ∀ (j : Nat) t v, Tryd.f10.params[j]? = some t → args[j]? = some v → Value.okWide Tryd.prog W .any base t v)
    (hW : DataW.Whole enc Tryd.prog Tryd.f10.params.toList Rows.leakFromSpec.vars false W args.toList ds gs before) (hL : laidMetH Tryd.prog Rows.leakFromRow.laid W) :
    Calls Tryd.prog 10 args W fun e W' => ∃ v, e = .returned v ∧ Rows.leakFromSpec.post enc Tryd.prog Tryd.f10 false true false false W args v W' := by
  have hg := lett hL
  have hval : ∀ (j : Nat) t v, Tryd.f10.params[j]? = some t → args[j]? = some v → Value.okWide Tryd.prog W .any base t v := hval0
  have hW' := hW
  obtain ⟨p, q, hA0, hV, rfl, hfz, hnd⟩ := hW
  have hA : DataW.TrodAll enc Tryd.prog W 0 (fun _ => true) true Tryd.f10.params.toList args.toList ds p := hA0
  rw [Tryd.params10] at hA hval
  obtain ⟨v0, vs0, d0, ds0, p0, q0, hargs, rfl, rfl, h0, r0⟩ := trodAll_cons hA
  obtain ⟨rfl, rfl, rfl⟩ := trodAll_nil r0
  obtain rfl : args = #[v0] := by cases args; simp_all
  obtain ⟨rfl, rfl⟩ := trodVars_none hV
  have k0 := h0
  have lt0 : ∀ x ∈ p0, x.block < W.heap.size := by obtain ⟨m, hm⟩ := k0; exact DataW.trod_lt m _ _ _ hm
  obtain ⟨s0, n0, c0, T0, rfl, hT0, hO0, hr0, hc0, hm0⟩ := rd_slice eTr_ok (ok := TrOk) (by decide) Tryd.underlying22 (by kernel_rfl) (fun h => by obtain ⟨a0, a1, a2, e, g0, g1, g2⟩ := rdT37 h; exact ⟨(a0, a1, a2), e, ⟨g0.1, g0.2, g1.1, g1.2, g2.1, g2.2⟩⟩) (hval 0 22 _ rfl rfl) h0
  refine (from_law W hg.1 hg.2.choose hg.2.choose_spec.choose hg.2.choose_spec.choose_spec s0 n0 c0 T0 hr0 hT0 hO0 W W [] (sat_start W)).mono fun e W' ⟨v, K, he, ⟨hv, hK⟩, hs⟩ => ?_
  subst hv; subst hK; subst he
  have bel : Below W.heap.size W W' := sat_below (i := 0) hs rfl
  exact ⟨_, rfl, _, _, _, [], _, [], hW', trodAll_mk1 (shut_bool Tryd.underlying4 _), (trodAll_cons_mk (Below.trod laidOut (by kernel_rfl) (of_decide_eq_true (by kernel_rfl)) k0 bel lt0) trodAll_mk0), rfl, bel.frame _, fun h => by cases h⟩
noncomputable def laidWorld (os : Os) : World :=
  { World.holding Tryd.prog os ⟨#[], #[], []⟩ with heap := (((((((World.holding Tryd.prog os ⟨#[], #[], []⟩).heap.modify 3 fun
      | .cells _ t frozen => .cells #[.int .u8 0, .int .u8 1, .int .u8 28, .int .u8 2, .int .u8 29, .int .u8 14, .int .u8 24, .int .u8 3, .int .u8 30, .int .u8 22, .int .u8 20, .int .u8 15, .int .u8 25, .int .u8 17, .int .u8 4, .int .u8 8, .int .u8 31, .int .u8 27, .int .u8 13, .int .u8 23, .int .u8 21, .int .u8 19, .int .u8 16, .int .u8 7, .int .u8 26, .int .u8 12, .int .u8 18, .int .u8 6, .int .u8 11, .int .u8 5, .int .u8 10, .int .u8 9] t frozen
      | o => o).modify 4 fun
      | .cells _ t frozen => .cells #[.int .u8 0, .int .u8 1, .int .u8 56, .int .u8 2, .int .u8 57, .int .u8 49, .int .u8 28, .int .u8 3, .int .u8 61, .int .u8 58, .int .u8 42, .int .u8 50, .int .u8 38, .int .u8 29, .int .u8 17, .int .u8 4, .int .u8 62, .int .u8 47, .int .u8 59, .int .u8 36, .int .u8 45, .int .u8 43, .int .u8 51, .int .u8 22, .int .u8 53, .int .u8 39, .int .u8 33, .int .u8 30, .int .u8 24, .int .u8 18, .int .u8 12, .int .u8 5, .int .u8 63, .int .u8 55, .int .u8 48, .int .u8 27, .int .u8 60, .int .u8 41, .int .u8 37, .int .u8 16, .int .u8 46, .int .u8 35, .int .u8 44, .int .u8 21, .int .u8 52, .int .u8 32, .int .u8 23, .int .u8 11, .int .u8 54, .int .u8 26, .int .u8 40, .int .u8 15, .int .u8 34, .int .u8 20, .int .u8 31, .int .u8 10, .int .u8 25, .int .u8 14, .int .u8 19, .int .u8 9, .int .u8 13, .int .u8 8, .int .u8 7, .int .u8 6] t frozen
      | o => o).modify 2 fun
      | .cells _ t frozen => .cells #[.int .u64 1, .int .u64 10, .int .u64 100, .int .u64 1000, .int .u64 10000, .int .u64 100000, .int .u64 1000000, .int .u64 10000000, .int .u64 100000000, .int .u64 1000000000, .int .u64 10000000000, .int .u64 100000000000, .int .u64 1000000000000, .int .u64 10000000000000, .int .u64 100000000000000, .int .u64 1000000000000000, .int .u64 10000000000000000, .int .u64 100000000000000000, .int .u64 1000000000000000000, .int .u64 10000000000000000000] t frozen
      | o => o).modify 1 fun
      | .cells _ t frozen => .cells #[.string ⟨#[]⟩, .string ⟨#[]⟩, .string ⟨#[99, 108, 111, 115, 105, 110, 103]⟩, .string ⟨#[114, 101, 108, 101, 97, 115, 101, 100]⟩, .string ⟨#[113, 117, 97, 114, 97, 110, 116, 105, 110, 101]⟩] t frozen
      | o => o).modify 0 fun
      | .cells _ t frozen => .cells #[.slice (some ⟨(World.holding Tryd.prog os ⟨#[], #[], []⟩).heap.size, 0, none⟩) 4 4] t frozen
      | o => o).push (.cells #[.string ⟨#[97]⟩, .string ⟨#[109, 97, 105, 110]⟩, .string ⟨#[120, 32, 121]⟩, .string ⟨#[97]⟩] 9 (0, 0))) }
theorem laid_met (os : Os) : laidMet Tryd.prog Rows.leakFromRow.laid ((laidWorld os).forCall (fun _ _ => 0) ⟨#[], #[.slice none 0 0], []⟩).memory :=
  laidMet_of_run' 8 (by kernel_rfl) (by kernel_rfl)
theorem reads (os : Os) {H : Type} (enc : TypeId × Value → H) : ∃ places, DataW.whole enc Tryd.prog ((laidWorld os).forCall (fun _ _ => 0) ⟨#[], #[.slice none 0 0], []⟩).memory Tryd.f10.params.toList Rows.leakFromSpec.vars false (#[.slice none 0 0] : Array Value).toList 8 = some ([.nil], [], places) :=
  ⟨[], by kernel_rfl⟩
set_option maxRecDepth 100000 in
theorem lifted (os : Os) (started : os.Started) (H : Type) (enc : TypeId × Value → H) (F : Stop.Interp) :
    ReturnsInHanded {} Tryd.checked os 10 .any ((OpenSpec.ofChange Rows.leakFromSpec).preRow enc Tryd.prog Tryd.f10 Rows.leakFromRow.domain false Rows.leakFromRow.laid) (((OpenSpec.ofChange Rows.leakFromSpec).at F).post enc Tryd.prog Tryd.f10 false true false false) := by
  obtain ⟨places, hx⟩ := reads os enc
  refine returnsInHanded_of_row (C := Tryd.checked) (s := OpenSpec.ofChange Rows.leakFromSpec) own started (by kernel_rfl) Tryd.func10
    (witness_row_atRef (enc := enc) (C := Tryd.checked) false (laidWorld os) #[.slice none 0 0] rfl (by kernel_rfl) (by kernel_rfl) (by kernel_rfl)
      (OpenSpec.preRow_of_cond 8 hx (by kernel_rfl) (fun k hk => by cases hk) (by kernel_rfl) (laid_met os))) ?_
  intro W base args ds gs before hval hW _ _ _ hL _ _
  exact contract H enc W base args ds gs before hval hW hL
theorem said : Rows.LeakFromSaid :=
  OpenClaim.holds_of_cond 10 Tryd.f10 rfl rfl rfl rfl rfl rfl rfl ⟨rfl, rfl, rfl, rfl, rfl⟩ rfl rfl rfl rfl rfl (by kernel_rfl) Tryd.func10 (by kernel_rfl)
    (of_decide_eq_true (by kernel_rfl)) (by unfold Func.isWrapper; first | (rw [if_pos (by decide +kernel)]; kernel_rfl) | (rw [if_neg (by decide +kernel)]; exact ⟨rfl, rfl⟩))
    (fun os started H enc _ F => by rw [OpenClaim.pre_eq_preRow]; exact lifted os started H enc F)
theorem plain (f : FuncId) (fn : Func) (hf : Tryd.pinned.checked.prog.funcNamed "estray/estraylaw36.LeakFrom" = some f) (hfn : Tryd.pinned.checked.prog.funcs[f]? = some fn) :
    false = Tryd.pinned.checked.prog.looks [] ∧ ∀ (j : Nat) t, fn.params[j]? = some t → Tryd.pinned.checked.prog.wantsStandIn t = false := by
  obtain rfl : f = 10 := Option.some.inj ((show Tryd.prog.funcNamed "estray/estraylaw36.LeakFrom" = some 10 by kernel_rfl).symm.trans hf) |>.symm
  obtain rfl : fn = Tryd.f10 := (Option.some.inj (Tryd.func10.symm.trans hfn)).symm
  refine ⟨by kernel_rfl, fun j t ht => ?_⟩
  rw [Tryd.params10] at ht
  have hm : t = 22 := by simpa using Array.mem_of_getElem? ht
  rcases hm with rfl
  · exact (show Tryd.prog.wantsStandIn 22 = false by kernel_rfl)
theorem card : Rows.LeakFromCardSaid :=
  Claim7.holds_tied_plain_at .later [] _ _ _ _ said (fun _ h => by cases h) (by kernel_rfl) (fun _ h => by cases h) leakFrom_row_tie rfl ⟨rfl, rfl⟩ (by kernel_rfl) rfl plain (by kernel_rfl)
end leakFromRow
/-- The law LeakFrom, as stated. -/
theorem leakFrom_holds : Rows.LeakFromCardSaid := leakFromRow.card
#print axioms leakFrom_holds
end Go.Proofs.YtfoliffeieeihaaDoor

