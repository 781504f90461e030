/- The given card of OuterPlays holds. No condition. -/
import Derived.Test.YtggfnbpohmhphaaGreatDoorRows
import Derived.Test.YtggfnbpohmhphaaGreatDoorCards
import Derived.Test.YtggfnbpohmhphaaGreatDoorTie
import Derived.Deep.DeepHandedRow
import Derived.Lib.LaidTab
import Derived.WalkKit
import Derived.ProofKit
import Derived.OpenShut
import Derived.ChangeOld
import Derived.Below
import Derived.Carry
import Derived.Test.YtggfnbpohmhphaaGreatDoorRow
import Derived.Test.YtggfnbpohmhphaaGreatDoorBundle34
import Derived.Test.YtggfnbpohmhphaaGreatDoorLai
namespace Go.Proofs.YtggfnbpohmhphaaGreatDoor
open Go.ChangeShapes Go.WideShapes Go.ChangeAt Go.RowKit
theorem rdT29 {H : Type} {enc : TypeId × Value → H} {w : World} {base : Nat} {spare : Nat → Bool} {held : Bool} {fuel : Nat} {cs : List Value} {x : DataW H × List MemPlace} (h : DataW.trod enc Tryz.prog w base spare held fuel 29 cs = some x) :
    ∃ (a0 : Int), cs = [.int .u32 a0] ∧ ((0) ≤ a0 ∧ a0 ≤ 4294967295) := by
  obtain ⟨z, h1, h2, h3⟩ := rd_int Tryz.underlying29 h
  exact ⟨z, h1, (by simpa [IntKind.min, IntKind.max, IntKind.signed, IntKind.bits] using h2), (by simpa [IntKind.min, IntKind.max, IntKind.signed, IntKind.bits] using h3)⟩
theorem rdT3 {H : Type} {enc : TypeId × Value → H} {w : World} {base : Nat} {spare : Nat → Bool} {held : Bool} {fuel : Nat} {cs : List Value} {x : DataW H × List MemPlace} (h : DataW.trod enc Tryz.prog w base spare held fuel 3 cs = some x) :
    ∃ (a0 : Int), cs = [.int .i64 a0] ∧ ((-9223372036854775808) ≤ a0 ∧ a0 ≤ 9223372036854775807) := by
  obtain ⟨z, h1, h2, h3⟩ := rd_int Tryz.underlying3 h
  exact ⟨z, h1, (by simpa [IntKind.min, IntKind.max, IntKind.signed, IntKind.bits] using h2), (by simpa [IntKind.min, IntKind.max, IntKind.signed, IntKind.bits] using h3)⟩
theorem rdT32 {H : Type} {enc : TypeId × Value → H} {w : World} {base : Nat} {spare : Nat → Bool} {held : Bool} {fuel : Nat} {cs : List Value} {x : DataW H × List MemPlace} (h : DataW.trod enc Tryz.prog w base spare held fuel 32 cs = some x) :
    ∃ (a0 : Int) (a1 : Int) (a2 : Int), cs = [.int .i64 a0, .int .i64 a1, .int .u32 a2] ∧ ((-9223372036854775808) ≤ a0 ∧ a0 ≤ 9223372036854775807) ∧ ((-9223372036854775808) ≤ a1 ∧ a1 ≤ 9223372036854775807) ∧ ((0) ≤ a2 ∧ a2 ≤ 4294967295) := by
  have hl : cs.length = 3 := (rd_parts Tryz.underlying32 h).1.trans (by kernel_rfl)
  match cs, hl, h with
  | [c0, c1, c2], _, h =>
    obtain ⟨y0, n0, h0⟩ := rd_field Tryz.underlying32 h 0 _ rfl 1 (by kernel_rfl)
    obtain ⟨a0, e0, p0_0⟩ := rdT3 h0
    have e0 : [c0] = [.int .i64 a0] := e0
    simp only [List.cons.injEq, and_true] at e0
    obtain rfl := e0
    obtain ⟨y1, n1, h1⟩ := rd_field Tryz.underlying32 h 1 _ rfl 1 (by kernel_rfl)
    obtain ⟨a1, e1, p1_0⟩ := rdT3 h1
    have e1 : [c1] = [.int .i64 a1] := e1
    simp only [List.cons.injEq, and_true] at e1
    obtain rfl := e1
    obtain ⟨y2, n2, h2⟩ := rd_field Tryz.underlying32 h 2 _ rfl 1 (by kernel_rfl)
    obtain ⟨a2, e2, p2_0⟩ := rdT29 h2
    have e2 : [c2] = [.int .u32 a2] := e2
    simp only [List.cons.injEq, and_true] at e2
    obtain rfl := e2
    exact ⟨a0, a1, a2, rfl, p0_0, p1_0, p2_0⟩
theorem rdT2 {H : Type} {enc : TypeId × Value → H} {w : World} {base : Nat} {spare : Nat → Bool} {held : Bool} {fuel : Nat} {cs : List Value} {x : DataW H × List MemPlace} (h : DataW.trod enc Tryz.prog w base spare held fuel 2 cs = some x) :
    ∃ (a0 : Int), cs = [.int .i64 a0] ∧ ((-9223372036854775808) ≤ a0 ∧ a0 ≤ 9223372036854775807) := by
  obtain ⟨z, h1, h2, h3⟩ := rd_int Tryz.underlying2 h
  exact ⟨z, h1, (by simpa [IntKind.min, IntKind.max, IntKind.signed, IntKind.bits] using h2), (by simpa [IntKind.min, IntKind.max, IntKind.signed, IntKind.bits] using h3)⟩
theorem rdT9 {H : Type} {enc : TypeId × Value → H} {w : World} {base : Nat} {spare : Nat → Bool} {held : Bool} {fuel : Nat} {cs : List Value} {x : DataW H × List MemPlace} (h : DataW.trod enc Tryz.prog w base spare held fuel 9 cs = some x) :
    ∃ (a0 : ByteArray), cs = [.string a0] ∧ (a0.size ≤ maxLen) := by
  exact rd_string Tryz.underlying9 h
theorem rdT36 {H : Type} {enc : TypeId × Value → H} {w : World} {base : Nat} {spare : Nat → Bool} {held : Bool} {fuel : Nat} {cs : List Value} {x : DataW H × List MemPlace} (h : DataW.trod enc Tryz.prog w base spare held fuel 36 cs = some x) :
    ∃ (a0 : Int) (a1 : Int) (a2 : Int) (a3 : Int) (a4 : Int) (a5 : Int) (a6 : Int) (a7 : Int) (a8 : ByteArray), cs = [.int .i64 a0, .int .i64 a1, .int .i64 a2, .int .i64 a3, .int .i64 a4, .int .u32 a5, .int .i64 a6, .int .i64 a7, .string a8] ∧ ((-9223372036854775808) ≤ a0 ∧ a0 ≤ 9223372036854775807) ∧ ((-9223372036854775808) ≤ a1 ∧ a1 ≤ 9223372036854775807) ∧ ((-9223372036854775808) ≤ a2 ∧ a2 ≤ 9223372036854775807) ∧ ((-9223372036854775808) ≤ a3 ∧ a3 ≤ 9223372036854775807) ∧ ((-9223372036854775808) ≤ a4 ∧ a4 ≤ 9223372036854775807) ∧ ((0) ≤ a5 ∧ a5 ≤ 4294967295) ∧ ((-9223372036854775808) ≤ a6 ∧ a6 ≤ 9223372036854775807) ∧ ((-9223372036854775808) ≤ a7 ∧ a7 ≤ 9223372036854775807) ∧ (a8.size ≤ maxLen) := by
  have hl : cs.length = 9 := (rd_parts Tryz.underlying36 h).1.trans (by kernel_rfl)
  match cs, hl, h with
  | [c0, c1, c2, c3, c4, c5, c6, c7, c8], _, h =>
    obtain ⟨y0, n0, h0⟩ := rd_field Tryz.underlying36 h 0 _ rfl 1 (by kernel_rfl)
    obtain ⟨a0, e0, p0_0⟩ := rdT3 h0
    have e0 : [c0] = [.int .i64 a0] := e0
    simp only [List.cons.injEq, and_true] at e0
    obtain rfl := e0
    obtain ⟨y1, n1, h1⟩ := rd_field Tryz.underlying36 h 1 _ rfl 1 (by kernel_rfl)
    obtain ⟨a1, e1, p1_0⟩ := rdT3 h1
    have e1 : [c1] = [.int .i64 a1] := e1
    simp only [List.cons.injEq, and_true] at e1
    obtain rfl := e1
    obtain ⟨y2, n2, h2⟩ := rd_field Tryz.underlying36 h 2 _ rfl 1 (by kernel_rfl)
    obtain ⟨a2, e2, p2_0⟩ := rdT3 h2
    have e2 : [c2] = [.int .i64 a2] := e2
    simp only [List.cons.injEq, and_true] at e2
    obtain rfl := e2
    obtain ⟨y3, n3, h3⟩ := rd_field Tryz.underlying36 h 3 _ rfl 3 (by kernel_rfl)
    obtain ⟨a3, a4, a5, e3, p3_0, p3_1, p3_2⟩ := rdT32 h3
    have e3 : [c3, c4, c5] = [.int .i64 a3, .int .i64 a4, .int .u32 a5] := e3
    simp only [List.cons.injEq, and_true] at e3
    obtain ⟨rfl, rfl, rfl⟩ := e3
    obtain ⟨y4, n4, h4⟩ := rd_field Tryz.underlying36 h 4 _ rfl 1 (by kernel_rfl)
    obtain ⟨a6, e4, p4_0⟩ := rdT3 h4
    have e4 : [c6] = [.int .i64 a6] := e4
    simp only [List.cons.injEq, and_true] at e4
    obtain rfl := e4
    obtain ⟨y5, n5, h5⟩ := rd_field Tryz.underlying36 h 5 _ rfl 1 (by kernel_rfl)
    obtain ⟨a7, e5, p5_0⟩ := rdT2 h5
    have e5 : [c7] = [.int .i64 a7] := e5
    simp only [List.cons.injEq, and_true] at e5
    obtain rfl := e5
    obtain ⟨y6, n6, h6⟩ := rd_field Tryz.underlying36 h 6 _ rfl 1 (by kernel_rfl)
    obtain ⟨a8, e6, p6_0⟩ := rdT9 h6
    have e6 : [c8] = [.string a8] := e6
    simp only [List.cons.injEq, and_true] at e6
    obtain rfl := e6
    exact ⟨a0, a1, a2, a3, a4, a5, a6, a7, a8, rfl, p0_0, p1_0, p2_0, p3_0, p3_1, p3_2, p4_0, p5_0, p6_0⟩
namespace outerPlaysRow
theorem own : ownKnob Tryz.prog.godebug = none := by kernel_rfl
theorem laidOut : laidOutB Tryz.prog = true := by kernel_rfl
theorem gTab : Tryz.prog.globalNamed "estray/answer.letters" = some 0 := by kernel_rfl
theorem gTabType : (Tryz.prog.globals[0]?).map (·.type) = some 220 := by kernel_rfl
theorem cellsT : Tryz.prog.cellsOf 220 = 4 := by kernel_rfl
theorem cellsE : Tryz.prog.cellsOf 5 = 1 := by kernel_rfl
theorem lett {W : World} (h : laidMetH Tryz.prog Rows.outerPlaysRow.laid W) : Lett W := by
  have ht : Lib.TabIs Tryz.prog W "estray/answer.letters" .u8 [0, 111, 108, 102] := Lib.tabIs_of_head (rest := []) gTab gTabType Tryz.underlying220 Tryz.underlying5 cellsE cellsT h
  intro j v hj
  match j, hj with
  | 0, hj => simp at hj; subst hj; exact ht.cell gTab 0 (by decide)
  | 1, hj => simp at hj; subst hj; exact ht.cell gTab 1 (by decide)
  | 2, hj => simp at hj; subst hj; exact ht.cell gTab 2 (by decide)
  | 3, hj => simp at hj; subst hj; exact ht.cell gTab 3 (by decide)
set_option maxRecDepth 100000 in
set_option maxHeartbeats 4000000 in
theorem contract (H : Type) (enc : TypeId × Value → H) (W : World) (base : Nat) (args : Array Value) (ds gs : List (DataW H)) (before : List MemPlace)
    (hval0 : ∀ (j : Nat) t v, Tryz.f9.params[j]? = some t → args[j]? = some v → Value.okWide Tryz.prog W .any base t v)
    (hW : DataW.Whole enc Tryz.prog Tryz.f9.params.toList Rows.outerPlaysSpec.vars false W args.toList ds gs before) (hL : laidMetH Tryz.prog Rows.outerPlaysRow.laid W) :
    Calls Tryz.prog 9 args W fun e W' => ∃ v, e = .returned v ∧ Rows.outerPlaysSpec.post enc Tryz.prog Tryz.f9 false true false false W args v W' := by
  have hg := lett hL
  have hval : ∀ (j : Nat) t v, Tryz.f9.params[j]? = some t → args[j]? = some v → Value.okWide Tryz.prog W .any base t v := hval0
  have hW' := hW
  obtain ⟨p, q, hA0, hV, rfl, hfz, hnd⟩ := hW
  have hA : DataW.TrodAll enc Tryz.prog W 0 (fun _ => true) true Tryz.f9.params.toList args.toList ds p := hA0
  rw [Tryz.params9] at hA hval
  obtain ⟨v0, vs0, d0, ds0, p0, q0, hargs, rfl, rfl, h0, r0⟩ := trodAll_cons hA
  obtain ⟨v1, vs1, d1, ds1, p1, q1, rfl, rfl, rfl, h1, r1⟩ := trodAll_cons r0
  obtain ⟨v2, vs2, d2, ds2, p2, q2, rfl, rfl, rfl, h2, r2⟩ := trodAll_cons r1
  obtain ⟨rfl, rfl, rfl⟩ := trodAll_nil r2
  obtain rfl : args = #[v0, v1, v2] := by cases args; simp_all
  obtain ⟨rfl, rfl⟩ := trodVars_none hV
  have k0 := h0
  have lt0 : ∀ x ∈ p0, x.block < W.heap.size := by obtain ⟨m, hm⟩ := k0; exact DataW.trod_lt m _ _ _ hm
  obtain ⟨a0, rfl⟩ := okWide_int Tryz.underlying29 (hval 0 29 _ rfl rfl)
  obtain ⟨fu0, hf0⟩ := h0
  obtain ⟨z0, e0, g0⟩ := rdT29 hf0
  obtain rfl : a0 = z0 := by simpa [Value.cells] using e0
  have k1 := h1
  have lt1 : ∀ x ∈ p1, x.block < W.heap.size := by obtain ⟨m, hm⟩ := k1; exact DataW.trod_lt m _ _ _ hm
  obtain ⟨s1, n1, c1, T1, rfl, hT1, hO1, hr1, hc1, hm1⟩ := rd_slice eSq_ok (ok := SqOk) (by decide) Tryz.underlying22 (by kernel_rfl) (fun h => by obtain ⟨a0, a1, a2, a3, a4, a5, a6, a7, a8, e, g0, g1, g2, g3, g4, g5, g6, g7, g8⟩ := rdT36 h; exact ⟨⟨a0, a1, a2, (a3, a4, a5), a6, a7, a8.data.toList⟩, e, g5⟩) (hval 1 22 _ rfl rfl) h1
  have k2 := h2
  have lt2 : ∀ x ∈ p2, x.block < W.heap.size := by obtain ⟨m, hm⟩ := k2; exact DataW.trod_lt m _ _ _ hm
  obtain ⟨cv2, rfl, hsz2⟩ := okWide_struct Tryz.underlying32 (hval 2 32 _ rfl rfl)
  obtain ⟨fu2, hf2⟩ := h2
  obtain ⟨a2_0, a2_1, a2_2, e2, g2_0, g2_1, g2_2⟩ := rdT32 hf2
  obtain rfl : cv2 = #[.int .i64 a2_0, .int .i64 a2_1, .int .u32 a2_2] := by cases cv2; simpa [Value.cells] using e2
  refine (plays_law W hg a0 g0.1 g0.2 s1 n1 c1 T1 hr1 hT1 hO1 a2_0 a2_1 a2_2 g2_2.1 g2_2.2 W W [] (sat_start W)).mono fun e W' ⟨v, K, he, ⟨hv, hK⟩, hs⟩ => ?_
  subst hv; subst hK; subst he
  have bel : Below W.heap.size W W' := sat_below (i := 0) hs rfl
  exact ⟨_, rfl, _, _, _, [], _, [], hW', trodAll_mk1 (shut_bool Tryz.underlying4 _), (trodAll_cons_mk (Below.trod laidOut (by kernel_rfl) (of_decide_eq_true (by kernel_rfl)) k0 bel lt0) (trodAll_cons_mk (Below.trod laidOut (by kernel_rfl) (of_decide_eq_true (by kernel_rfl)) k1 bel lt1) (trodAll_cons_mk (Below.trod laidOut (by kernel_rfl) (of_decide_eq_true (by kernel_rfl)) k2 bel lt2) trodAll_mk0))), rfl, bel.frame _, fun h => by cases h⟩
noncomputable def laidWorld (os : Os) : World :=
  { World.holding Tryz.prog os ⟨#[], #[], []⟩ with heap := (World.holding Tryz.prog os ⟨#[], #[], []⟩).heap.modify 0 fun
      | .cells _ t frozen => .cells #[.int .u8 0, .int .u8 111, .int .u8 108, .int .u8 102] t frozen
      | o => o }
theorem laid_met (os : Os) : laidMet Tryz.prog Rows.outerPlaysRow.laid ((laidWorld os).forCall (fun _ _ => 0) ⟨#[], #[.int .u32 0, .slice none 0 0, .agg #[.int .i64 0, .int .i64 0, .int .u32 0]], []⟩).memory :=
  laidMet_of_run' 8 (by kernel_rfl) (by kernel_rfl)
theorem reads (os : Os) {H : Type} (enc : TypeId × Value → H) : ∃ places, DataW.whole enc Tryz.prog ((laidWorld os).forCall (fun _ _ => 0) ⟨#[], #[.int .u32 0, .slice none 0 0, .agg #[.int .i64 0, .int .i64 0, .int .u32 0]], []⟩).memory Tryz.f9.params.toList Rows.outerPlaysSpec.vars false (#[.int .u32 0, .slice none 0 0, .agg #[.int .i64 0, .int .i64 0, .int .u32 0]] : Array Value).toList 8 = some ([.lit (.int .u32 0), .nil, .agg [.lit (.int .i64 0), .lit (.int .i64 0), .lit (.int .u32 0)]], [], places) :=
  ⟨[], by kernel_rfl⟩
set_option maxRecDepth 100000 in
theorem lifted (os : Os) (started : os.Started) (H : Type) (enc : TypeId × Value → H) (F : Stop.Interp) :
    ReturnsInHanded {} Tryz.checked os 9 .any ((OpenSpec.ofChange Rows.outerPlaysSpec).preRow enc Tryz.prog Tryz.f9 Rows.outerPlaysRow.domain false Rows.outerPlaysRow.laid) (((OpenSpec.ofChange Rows.outerPlaysSpec).at F).post enc Tryz.prog Tryz.f9 false true false false) := by
  obtain ⟨places, hx⟩ := reads os enc
  refine returnsInHanded_of_row (C := Tryz.checked) (s := OpenSpec.ofChange Rows.outerPlaysSpec) own started (by kernel_rfl) Tryz.func9
    (witness_row_at (enc := enc) (C := Tryz.checked) false (laidWorld os) #[.int .u32 0, .slice none 0 0, .agg #[.int .i64 0, .int .i64 0, .int .u32 0]] rfl (by kernel_rfl) (by kernel_rfl) (by kernel_rfl)
      (OpenSpec.preRow_of_cond 8 hx (by kernel_rfl) (fun k hk => by cases hk) (by kernel_rfl) (laid_met os))) ?_
  intro W base args ds gs before hval hW _ _ _ hL _ _
  exact contract H enc W base args ds gs before hval hW hL
theorem said : Rows.OuterPlaysSaid :=
  OpenClaim.holds_of_cond 9 Tryz.f9 rfl rfl rfl rfl rfl rfl rfl ⟨rfl, rfl, rfl, rfl, rfl⟩ rfl rfl rfl rfl rfl (by kernel_rfl) Tryz.func9 (by kernel_rfl)
    (of_decide_eq_true (by kernel_rfl)) (by unfold Func.isWrapper; first | (rw [if_pos (by decide +kernel)]; kernel_rfl) | (rw [if_neg (by decide +kernel)]; exact ⟨rfl, rfl⟩))
    (fun os started H enc _ F => by rw [OpenClaim.pre_eq_preRow]; exact lifted os started H enc F)
theorem plain (f : FuncId) (fn : Func) (hf : Tryz.pinned.checked.prog.funcNamed "estray/estraylaw12.OuterPlays" = some f) (hfn : Tryz.pinned.checked.prog.funcs[f]? = some fn) :
    true = Tryz.pinned.checked.prog.looks [] ∧ ∀ (j : Nat) t, fn.params[j]? = some t → Tryz.pinned.checked.prog.wantsStandIn t = false := by
  obtain rfl : f = 9 := Option.some.inj ((show Tryz.prog.funcNamed "estray/estraylaw12.OuterPlays" = some 9 by kernel_rfl).symm.trans hf) |>.symm
  obtain rfl : fn = Tryz.f9 := (Option.some.inj (Tryz.func9.symm.trans hfn)).symm
  refine ⟨by kernel_rfl, fun j t ht => ?_⟩
  rw [Tryz.params9] at ht
  have hm : t = 29 ∨ t = 22 ∨ t = 32 := by simpa using Array.mem_of_getElem? ht
  rcases hm with rfl | rfl | rfl
  · exact (show Tryz.prog.wantsStandIn 29 = false by kernel_rfl)
  · exact (show Tryz.prog.wantsStandIn 22 = false by kernel_rfl)
  · exact (show Tryz.prog.wantsStandIn 32 = false by kernel_rfl)
theorem card : Rows.OuterPlaysCardSaid :=
  Claim7.holds_tied_plain_at .later [] _ _ _ _ said (fun _ h => by cases h) (by kernel_rfl) (fun _ h => by cases h) outerPlays_row_tie rfl ⟨rfl, rfl⟩ (by kernel_rfl) rfl plain (by kernel_rfl)
end outerPlaysRow
/-- The law OuterPlays, as stated. -/
theorem outerPlays_holds : Rows.OuterPlaysCardSaid := outerPlaysRow.card
#print axioms outerPlays_holds
end Go.Proofs.YtggfnbpohmhphaaGreatDoor

