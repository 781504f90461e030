/- The given card of AnswerKeeps holds. No condition. -/
import Derived.Test.YtjedglbadkbneaaDoorRows
import Derived.Test.YtjedglbadkbneaaDoorCards
import Derived.Test.YtjedglbadkbneaaDoorTie
import Derived.Deep.DeepHandedRow
import Derived.Lib.LaidTab
import Derived.WalkKit
import Derived.ProofKit
import Derived.OpenShut
import Derived.ChangeOld
import Derived.Below
import Derived.Carry
import Derived.Test.YtjedglbadkbneaaDoorRow
import Derived.Test.YtjedglbadkbneaaDoorA12
namespace Go.Proofs.YtjedglbadkbneaaDoor
open Go.ChangeShapes Go.WideShapes Go.ChangeAt Go.RowKit
theorem rdT5 {H : Type} {enc : TypeId × Value → H} {w : World} {base : Nat} {spare : Nat → Bool} {held : Bool} {fuel : Nat} {cs : List Value} {x : DataW H × List MemPlace} (h : DataW.trod enc Tryd.prog w base spare held fuel 5 cs = some x) :
    ∃ (a0 : Int), cs = [.int .u8 a0] ∧ ((0) ≤ a0 ∧ a0 ≤ 255) := by
  obtain ⟨z, h1, h2, h3⟩ := rd_int Tryd.underlying5 h
  exact ⟨z, h1, (by simpa [IntKind.min, IntKind.max, IntKind.signed, IntKind.bits] using h2), (by simpa [IntKind.min, IntKind.max, IntKind.signed, IntKind.bits] using h3)⟩
theorem rdT3 {H : Type} {enc : TypeId × Value → H} {w : World} {base : Nat} {spare : Nat → Bool} {held : Bool} {fuel : Nat} {cs : List Value} {x : DataW H × List MemPlace} (h : DataW.trod enc Tryd.prog w base spare held fuel 3 cs = some x) :
    ∃ (a0 : Int), cs = [.int .i64 a0] ∧ ((-9223372036854775808) ≤ a0 ∧ a0 ≤ 9223372036854775807) := by
  obtain ⟨z, h1, h2, h3⟩ := rd_int Tryd.underlying3 h
  exact ⟨z, h1, (by simpa [IntKind.min, IntKind.max, IntKind.signed, IntKind.bits] using h2), (by simpa [IntKind.min, IntKind.max, IntKind.signed, IntKind.bits] using h3)⟩
namespace answerKeepsRow
theorem own : ownKnob Tryd.prog.godebug = none := by kernel_rfl
theorem laidOut : laidOutB Tryd.prog = true := by kernel_rfl
theorem gTab : Tryd.prog.globalNamed "estray/answer.letters" = some 0 := by kernel_rfl
theorem gTabType : (Tryd.prog.globals[0]?).map (·.type) = some 65 := by kernel_rfl
theorem cellsT : Tryd.prog.cellsOf 65 = 4 := by kernel_rfl
theorem cellsE : Tryd.prog.cellsOf 5 = 1 := by kernel_rfl
theorem lett {W : World} (h : laidMetH Tryd.prog Rows.answerKeepsRow.laid W) : Lett W := by
  have ht : Lib.TabIs Tryd.prog W "estray/answer.letters" .u8 [0, 111, 108, 102] := Lib.tabIs_of_head (rest := []) gTab gTabType Tryd.underlying65 Tryd.underlying5 cellsE cellsT h
  intro j v hj
  match j, hj with
  | 0, hj => simp at hj; subst hj; exact ht.cell gTab 0 (by decide)
  | 1, hj => simp at hj; subst hj; exact ht.cell gTab 1 (by decide)
  | 2, hj => simp at hj; subst hj; exact ht.cell gTab 2 (by decide)
  | 3, hj => simp at hj; subst hj; exact ht.cell gTab 3 (by decide)
set_option maxRecDepth 100000 in
set_option maxHeartbeats 4000000 in
theorem contract (H : Type) (enc : TypeId × Value → H) (W : World) (base : Nat) (args : Array Value) (ds gs : List (DataW H)) (before : List MemPlace)
    (hval0 : ∀ (j : Nat) t v, Tryd.f10.params[j]? = some t → args[j]? = some v → Value.okWide Tryd.prog W .any base t v)
    (hW : DataW.Whole enc Tryd.prog Tryd.f10.params.toList Rows.answerKeepsSpec.vars false W args.toList ds gs before) (hL : laidMetH Tryd.prog Rows.answerKeepsRow.laid W) :
    Calls Tryd.prog 10 args W fun e W' => ∃ v, e = .returned v ∧ Rows.answerKeepsSpec.post enc Tryd.prog Tryd.f10 false true false false W args v W' := by
  have hg := lett hL
  have hval : ∀ (j : Nat) t v, Tryd.f10.params[j]? = some t → args[j]? = some v → Value.okWide Tryd.prog W .any base t v := hval0
  have hW' := hW
  obtain ⟨p, q, hA0, hV, rfl, hfz, hnd⟩ := hW
  have hA : DataW.TrodAll enc Tryd.prog W 0 (fun _ => true) true Tryd.f10.params.toList args.toList ds p := hA0
  rw [Tryd.params10] at hA hval
  obtain ⟨v0, vs0, d0, ds0, p0, q0, hargs, rfl, rfl, h0, r0⟩ := trodAll_cons hA
  obtain ⟨v1, vs1, d1, ds1, p1, q1, rfl, rfl, rfl, h1, r1⟩ := trodAll_cons r0
  obtain ⟨v2, vs2, d2, ds2, p2, q2, rfl, rfl, rfl, h2, r2⟩ := trodAll_cons r1
  obtain ⟨v3, vs3, d3, ds3, p3, q3, rfl, rfl, rfl, h3, r3⟩ := trodAll_cons r2
  obtain ⟨rfl, rfl, rfl⟩ := trodAll_nil r3
  obtain rfl : args = #[v0, v1, v2, v3] := by cases args; simp_all
  obtain ⟨rfl, rfl⟩ := trodVars_none hV
  have k0 := h0
  have lt0 : ∀ x ∈ p0, x.block < W.heap.size := by obtain ⟨m, hm⟩ := k0; exact DataW.trod_lt m _ _ _ hm
  obtain ⟨s0, n0, c0, T0, rfl, hT0, hO0, hr0, hc0, hm0⟩ := rd_slice eB_ok (ok := (fun _ => True)) (by decide) Tryd.underlying34 (by kernel_rfl) (fun h => by obtain ⟨a0, e, g0⟩ := rdT5 h; exact ⟨UInt8.ofNat a0.toNat, u8_row e g0, trivial⟩) (hval 0 34 _ rfl rfl) h0
  have k1 := h1
  have lt1 : ∀ x ∈ p1, x.block < W.heap.size := by obtain ⟨m, hm⟩ := k1; exact DataW.trod_lt m _ _ _ hm
  obtain ⟨a1, rfl⟩ := okWide_int Tryd.underlying5 (hval 1 5 _ rfl rfl)
  obtain ⟨fu1, hf1⟩ := h1
  obtain ⟨z1, e1, g1⟩ := rdT5 hf1
  obtain rfl : a1 = z1 := by simpa [Value.cells] using e1
  have k2 := h2
  have lt2 : ∀ x ∈ p2, x.block < W.heap.size := by obtain ⟨m, hm⟩ := k2; exact DataW.trod_lt m _ _ _ hm
  obtain ⟨a2, rfl⟩ := okWide_int Tryd.underlying5 (hval 2 5 _ rfl rfl)
  obtain ⟨fu2, hf2⟩ := h2
  obtain ⟨z2, e2, g2⟩ := rdT5 hf2
  obtain rfl : a2 = z2 := by simpa [Value.cells] using e2
  have k3 := h3
  have lt3 : ∀ x ∈ p3, x.block < W.heap.size := by obtain ⟨m, hm⟩ := k3; exact DataW.trod_lt m _ _ _ hm
  obtain ⟨a3, rfl⟩ := okWide_int Tryd.underlying3 (hval 3 3 _ rfl rfl)
  obtain ⟨fu3, hf3⟩ := h3
  obtain ⟨z3, e3, g3⟩ := rdT3 hf3
  obtain rfl : a3 = z3 := by simpa [Value.cells] using e3
  refine (keeps_z W hg s0 n0 c0 T0 hr0 hT0 hc0 a1 g1 a2 g2 a3 W W [] (sat_start W)).mono fun e W' ⟨v, K, he, ⟨hv, hK⟩, hs⟩ => ?_
  subst hv; subst hK; subst he
  have bel : Below W.heap.size W W' := sat_below (i := 0) hs rfl
  exact ⟨_, rfl, _, _, _, [], _, [], hW', trodAll_mk1 (shut_bool Tryd.underlying4 _), (trodAll_cons_mk (Below.trod laidOut (by kernel_rfl) (of_decide_eq_true (by kernel_rfl)) k0 bel lt0) (trodAll_cons_mk (Below.trod laidOut (by kernel_rfl) (of_decide_eq_true (by kernel_rfl)) k1 bel lt1) (trodAll_cons_mk (Below.trod laidOut (by kernel_rfl) (of_decide_eq_true (by kernel_rfl)) k2 bel lt2) (trodAll_cons_mk (Below.trod laidOut (by kernel_rfl) (of_decide_eq_true (by kernel_rfl)) k3 bel lt3) trodAll_mk0)))), rfl, bel.frame _, fun h => by cases h⟩
noncomputable def laidWorld (os : Os) : World :=
  { World.holding Tryd.prog os ⟨#[], #[], []⟩ with heap := (World.holding Tryd.prog os ⟨#[], #[], []⟩).heap.modify 0 fun
      | .cells _ t frozen => .cells #[.int .u8 0, .int .u8 111, .int .u8 108, .int .u8 102] t frozen
      | o => o }
theorem laid_met (os : Os) : laidMet Tryd.prog Rows.answerKeepsRow.laid ((laidWorld os).forCall (fun _ _ => 0) ⟨#[], #[.slice none 0 0, .int .u8 0, .int .u8 0, .int .i64 0], []⟩).memory :=
  laidMet_of_run' 8 (by kernel_rfl) (by kernel_rfl)
theorem reads (os : Os) {H : Type} (enc : TypeId × Value → H) : ∃ places, DataW.whole enc Tryd.prog ((laidWorld os).forCall (fun _ _ => 0) ⟨#[], #[.slice none 0 0, .int .u8 0, .int .u8 0, .int .i64 0], []⟩).memory Tryd.f10.params.toList Rows.answerKeepsSpec.vars false (#[.slice none 0 0, .int .u8 0, .int .u8 0, .int .i64 0] : Array Value).toList 8 = some ([.nil, .lit (.int .u8 0), .lit (.int .u8 0), .lit (.int .i64 0)], [], places) :=
  ⟨[], by kernel_rfl⟩
set_option maxRecDepth 100000 in
theorem lifted (os : Os) (started : os.Started) (H : Type) (enc : TypeId × Value → H) (F : Stop.Interp) :
    ReturnsInHanded {} Tryd.checked os 10 .any ((OpenSpec.ofChange Rows.answerKeepsSpec).preRow enc Tryd.prog Tryd.f10 Rows.answerKeepsRow.domain false Rows.answerKeepsRow.laid) (((OpenSpec.ofChange Rows.answerKeepsSpec).at F).post enc Tryd.prog Tryd.f10 false true false false) := by
  obtain ⟨places, hx⟩ := reads os enc
  refine returnsInHanded_of_row (C := Tryd.checked) (s := OpenSpec.ofChange Rows.answerKeepsSpec) own started (by kernel_rfl) Tryd.func10
    (witness_row_at (enc := enc) (C := Tryd.checked) false (laidWorld os) #[.slice none 0 0, .int .u8 0, .int .u8 0, .int .i64 0] rfl (by kernel_rfl) (by kernel_rfl) (by kernel_rfl)
      (OpenSpec.preRow_of_cond 8 hx (by kernel_rfl) (fun k hk => by cases hk) (by kernel_rfl) (laid_met os))) ?_
  intro W base args ds gs before hval hW _ _ _ hL _ _
  exact contract H enc W base args ds gs before hval hW hL
theorem said : Rows.AnswerKeepsSaid :=
  OpenClaim.holds_of_cond 10 Tryd.f10 rfl rfl rfl rfl rfl rfl rfl ⟨rfl, rfl, rfl, rfl, rfl⟩ rfl rfl rfl rfl rfl (by kernel_rfl) Tryd.func10 (by kernel_rfl)
    (of_decide_eq_true (by kernel_rfl)) (by unfold Func.isWrapper; first | (rw [if_pos (by decide +kernel)]; kernel_rfl) | (rw [if_neg (by decide +kernel)]; exact ⟨rfl, rfl⟩))
    (fun os started H enc _ F => by rw [OpenClaim.pre_eq_preRow]; exact lifted os started H enc F)
theorem plain (f : FuncId) (fn : Func) (hf : Tryd.pinned.checked.prog.funcNamed "estray/estraylaw06.AnswerKeeps" = some f) (hfn : Tryd.pinned.checked.prog.funcs[f]? = some fn) :
    false = Tryd.pinned.checked.prog.looks [] ∧ ∀ (j : Nat) t, fn.params[j]? = some t → Tryd.pinned.checked.prog.wantsStandIn t = false := by
  obtain rfl : f = 10 := Option.some.inj ((show Tryd.prog.funcNamed "estray/estraylaw06.AnswerKeeps" = some 10 by kernel_rfl).symm.trans hf) |>.symm
  obtain rfl : fn = Tryd.f10 := (Option.some.inj (Tryd.func10.symm.trans hfn)).symm
  refine ⟨by kernel_rfl, fun j t ht => ?_⟩
  rw [Tryd.params10] at ht
  have hm : t = 34 ∨ t = 5 ∨ t = 5 ∨ t = 3 := by simpa using Array.mem_of_getElem? ht
  rcases hm with rfl | rfl | rfl | rfl
  · exact (show Tryd.prog.wantsStandIn 34 = false by kernel_rfl)
  · exact (show Tryd.prog.wantsStandIn 5 = false by kernel_rfl)
  · exact (show Tryd.prog.wantsStandIn 5 = false by kernel_rfl)
  · exact (show Tryd.prog.wantsStandIn 3 = false by kernel_rfl)
theorem card : Rows.AnswerKeepsCardSaid :=
  Claim7.holds_tied_plain_at .later [] _ _ _ _ said (fun _ h => by cases h) (by kernel_rfl) (fun _ h => by cases h) answerKeeps_row_tie rfl ⟨rfl, rfl⟩ (by kernel_rfl) rfl plain (by kernel_rfl)
end answerKeepsRow
/-- The law AnswerKeeps, as stated. -/
theorem answerKeeps_holds : Rows.AnswerKeepsCardSaid := answerKeepsRow.card
#print axioms answerKeeps_holds
end Go.Proofs.YtjedglbadkbneaaDoor

