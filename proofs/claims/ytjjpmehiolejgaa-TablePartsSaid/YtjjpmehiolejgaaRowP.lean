/- The given statement TableParts holds. No condition. -/
import Derived.Test.YtjjpmehiolejgaaRows
import Derived.WalkKit
import Derived.ProofKit
import Derived.OpenShut
import Derived.ChangeOld
import Derived.Below
import Derived.Carry
import Derived.Test.YtjjpmehiolejgaaRow
import Derived.Test.YtjjpmehiolejgaaF31
namespace Go.Proofs.Ytjjpmehiolejgaa
open Go.ChangeShapes Go.WideShapes Go.ChangeAt Go.RowKit
theorem rdT5 {H : Type} {enc : TypeId × Value → H} {w : World} {base : Nat} {spare : Nat → Bool} {held : Bool} {fuel : Nat} {cs : List Value} {x : DataW H × List MemPlace} (h : DataW.trod enc Try.prog w base spare held fuel 5 cs = some x) :
    ∃ (a0 : Int), cs = [.int .u8 a0] ∧ ((0) ≤ a0 ∧ a0 ≤ 255) := by
  obtain ⟨z, h1, h2, h3⟩ := rd_int Try.underlying5 h
  exact ⟨z, h1, (by simpa [IntKind.min, IntKind.max, IntKind.signed, IntKind.bits] using h2), (by simpa [IntKind.min, IntKind.max, IntKind.signed, IntKind.bits] using h3)⟩
theorem rdT95 {H : Type} {enc : TypeId × Value → H} {w : World} {base : Nat} {spare : Nat → Bool} {held : Bool} {fuel : Nat} {cs : List Value} {x : DataW H × List MemPlace} (h : DataW.trod enc Try.prog w base spare held fuel 95 cs = some x) :
    ∃ (a0 : Int) (a1 : Int), cs = [.int .u8 a0, .int .u8 a1] ∧ ((0) ≤ a0 ∧ a0 ≤ 255) ∧ ((0) ≤ a1 ∧ a1 ≤ 255) := by
  have hl : cs.length = 2 := (rd_parts Try.underlying95 h).1.trans (by kernel_rfl)
  match cs, hl, h with
  | [c0, c1], _, h =>
    obtain ⟨y0, n0, h0⟩ := rd_field Try.underlying95 h 0 _ rfl 1 (by kernel_rfl)
    obtain ⟨a0, e0, p0_0⟩ := rdT5 h0
    have e0 : [c0] = [.int .u8 a0] := e0
    simp only [List.cons.injEq, and_true] at e0
    obtain rfl := e0
    obtain ⟨y1, n1, h1⟩ := rd_field Try.underlying95 h 1 _ rfl 1 (by kernel_rfl)
    obtain ⟨a1, e1, p1_0⟩ := rdT5 h1
    have e1 : [c1] = [.int .u8 a1] := e1
    simp only [List.cons.injEq, and_true] at e1
    obtain rfl := e1
    exact ⟨a0, a1, rfl, p0_0, p1_0⟩
namespace tablePartsRow
theorem own : ownKnob Try.prog.godebug = none := by kernel_rfl
theorem laidOut : laidOutB Try.prog = true := by kernel_rfl
set_option maxRecDepth 100000 in
set_option maxHeartbeats 4000000 in
theorem lifted (os : Os) (started : os.Started) (H : Type) (enc : TypeId × Value → H) :
    ReturnsInHanded {} Try.checked os 6 .any (Rows.tablePartsSpec.pre6 enc Try.prog Try.f6 Rows.tablePartsRow.domain false) (Rows.tablePartsSpec.post enc Try.prog Try.f6 false true false false) := by
  refine returnsInHanded_of_change (C := Try.checked) own started (by kernel_rfl) Try.func6
    (ChangeSpec.witness6 (enc := enc) (C := Try.checked) false ⟨#[], #[.int .u8 0, .int .u8 0, .slice none 0 0], []⟩ 8 (by kernel_rfl) (by kernel_rfl) (by kernel_rfl) (by kernel_rfl)) ?_
  intro W base args ds gs before hval0 hW hcnd _
  have hval : ∀ (j : Nat) t v, Try.f6.params[j]? = some t → args[j]? = some v → Value.okWide Try.prog W .any base t v := hval0
  have hW' := hW
  obtain ⟨p, q, hA0, hV, rfl, hfz, hnd⟩ := hW
  have hA : DataW.TrodAll enc Try.prog W 0 (fun _ => true) true Try.f6.params.toList args.toList ds p := hA0
  rw [Try.params6] at hA hval
  obtain ⟨v0, vs0, d0, ds0, p0, q0, hargs, rfl, rfl, h0, r0⟩ := trodAll_cons hA
  obtain ⟨v1, vs1, d1, ds1, p1, q1, rfl, rfl, rfl, h1, r1⟩ := trodAll_cons r0
  obtain ⟨v2, vs2, d2, ds2, p2, q2, rfl, rfl, rfl, h2, r2⟩ := trodAll_cons r1
  obtain ⟨rfl, rfl, rfl⟩ := trodAll_nil r2
  obtain rfl : args = #[v0, v1, v2] := by cases args; simp_all
  obtain ⟨rfl, rfl⟩ := trodVars_none hV
  have k0 := h0
  have lt0 : ∀ x ∈ p0, x.block < W.heap.size := by obtain ⟨m, hm⟩ := k0; exact DataW.trod_lt m _ _ _ hm
  obtain ⟨a0, rfl⟩ := okWide_int Try.underlying5 (hval 0 5 _ rfl rfl)
  obtain ⟨fu0, hf0⟩ := h0
  obtain ⟨z0, e0, g0⟩ := rdT5 hf0
  obtain rfl : a0 = z0 := by simpa [Value.cells] using e0
  have k1 := h1
  have lt1 : ∀ x ∈ p1, x.block < W.heap.size := by obtain ⟨m, hm⟩ := k1; exact DataW.trod_lt m _ _ _ hm
  obtain ⟨a1, rfl⟩ := okWide_int Try.underlying5 (hval 1 5 _ rfl rfl)
  obtain ⟨fu1, hf1⟩ := h1
  obtain ⟨z1, e1, g1⟩ := rdT5 hf1
  obtain rfl : a1 = z1 := by simpa [Value.cells] using e1
  have k2 := h2
  have lt2 : ∀ x ∈ p2, x.block < W.heap.size := by obtain ⟨m, hm⟩ := k2; exact DataW.trod_lt m _ _ _ hm
  obtain ⟨s2, n2, c2, T2, rfl, hT2, hO2, hr2, hc2, hm2⟩ := rd_slice eMv_ok (ok := MvOk) (by decide) Try.underlying44 (by kernel_rfl) (fun h => by obtain ⟨a0, a1, e, g0, g1⟩ := rdT95 h; exact ⟨(a0, a1), e, ⟨g0, g1⟩⟩) (hval 2 44 _ rfl rfl) h2
  refine (parts_law W a0 a1 g0 g1 s2 n2 c2 T2 hr2 hT2 hO2 W W [] (sat_start W)).mono fun e W' ⟨v, K, he, ⟨hv, hK⟩, hs⟩ => ?_
  subst hv; subst hK; subst he
  have bel : Below W.heap.size W W' := sat_below (i := 0) hs rfl
  exact ⟨_, rfl, _, _, _, [], _, [], hW', trodAll_mk1 (shut_bool Try.underlying4 _), (trodAll_cons_mk (Below.trod laidOut (by kernel_rfl) (of_decide_eq_true (by kernel_rfl)) k0 bel lt0) (trodAll_cons_mk (Below.trod laidOut (by kernel_rfl) (of_decide_eq_true (by kernel_rfl)) k1 bel lt1) (trodAll_cons_mk (Below.trod laidOut (by kernel_rfl) (of_decide_eq_true (by kernel_rfl)) k2 bel lt2) trodAll_mk0))), rfl, bel.frame _, fun h => by cases h⟩
theorem over : Rows.tablePartsRow.holds Try.pinned (OpenSpec.ofChange Rows.tablePartsSpec) :=
  OpenClaim.holds_of_wide 6 Try.f6 rfl rfl rfl rfl rfl rfl rfl ⟨rfl, rfl, rfl, rfl, rfl⟩ rfl rfl rfl rfl rfl (by kernel_rfl) Try.func6 (by kernel_rfl)
    (of_decide_eq_true (by kernel_rfl)) (by unfold Func.isWrapper; first | (rw [if_pos (by decide +kernel)]; kernel_rfl) | (rw [if_neg (by decide +kernel)]; exact ⟨rfl, rfl⟩))
    (fun os started H enc _ => lifted os started H enc)
end tablePartsRow
/-- The law TableParts, as stated. -/
theorem tableParts_holds : Rows.TablePartsSaid := tablePartsRow.over
#print axioms tableParts_holds
end Go.Proofs.Ytjjpmehiolejgaa

