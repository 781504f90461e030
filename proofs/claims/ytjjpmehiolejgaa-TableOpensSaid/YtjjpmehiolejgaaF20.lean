/- Walks, printed by my generator gen20.py. -/
import Derived.Test.YtjjpmehiolejgaaF16
import Derived.Test.YtjjpmehiolejgaaF17
import Derived.Test.YtjjpmehiolejgaaTabW
import Derived.Test.YtjjpmehiolejgaaWfm
namespace Go.Proofs.Ytjjpmehiolejgaa
/-- A table, with all that is true of it. -/
def TW (b n : Nat) (S : Ts) : Assn := Wi (Wf n S) (Tab b n S.A S.E S.R)
theorem opn_bad {S : Ts} {o : Ky} {L : List UInt8} {h : Int × Int} {e : Int} (h0 : opnE S o L h = e) (he : e ≠ 0) : opnS S o L h = S ∧ opnD S o L h = (0, 0, 0) := by
  unfold opnS opnD
  rw [if_neg (by omega), if_neg (by omega)]
  exact ⟨rfl, rfl⟩
theorem dup_bad {S : Ts} {d : Ky} {h : Int × Int} {e : Int} (h0 : dupE S d h = e) (he : e ≠ 0) : dupS S d h = S ∧ dupD S d h = (0, 0, 0) := by
  unfold dupS dupD
  rw [if_neg (by omega), if_neg (by omega)]
  exact ⟨rfl, rfl⟩
theorem has_not {E : Tm} {h : Int × Int} (hh : ¬ hasH E h) : ∀ e ∈ allE E, e.h ≠ h := fun e h1 h2 => hh ⟨e, h1, h2⟩
theorem haso_not {R : List Rs} {o : Ky} (hh : ¬ hasO R o) : ∀ r ∈ R, r.out ≠ o := fun e h1 h2 => hh ⟨e, h1, h2⟩
theorem obj_not {hx hy : Int} (h : ¬ objH (hx, hy)) : hx < 0 ∨ 255 < hx ∨ hy ≤ 0 := by
  unfold objH at h
  simp only at h
  omega
theorem ky3 {p : Ky} {x y z : Int} (h : p = (x, y, z)) : p.1 = x ∧ p.2.1 = y ∧ p.2.2 = z := by subst h; exact ⟨rfl, rfl, rfl⟩
theorem ky3n {p : Ky} {x y z : Int} (h : p ≠ (x, y, z)) : ¬ (p.1 = x ∧ p.2.1 = y ∧ p.2.2 = z) := fun h2 => h (Prod.ext h2.1 (Prod.ext h2.2.1 h2.2.2))
theorem free_len {A : List Sl2} {j : Nat} {g : Int} (h : freeS A = some (j, g)) : 1 ≤ (inS 0 A 0).length := by
  have := (List.getElem?_eq_some_iff.1 h).1
  omega
theorem topen_w (b n : Nat) (S : Ts) (x y z hx hy : Int) (L : List UInt8) (hz0 : 0 ≤ z) (hz1 : z ≤ 4294967295) (hm : L.length ≤ 1099511627776) : HT Try.prog 12 [Value.pointer (some ⟨b, 0, none⟩), Value.agg #[Value.int IntKind.i64 x, Value.int IntKind.i64 y, Value.int IntKind.u32 z], Value.string (St L), Value.agg #[Value.int IntKind.i64 hx, Value.int IntKind.u32 hy]] [TW b n S] (fun v K => v = Value.tuple #[Value.agg #[Value.int IntKind.i64 ((opnD S (x, y, z) L (hx, hy)).1), Value.int IntKind.i64 ((opnD S (x, y, z) L (hx, hy)).2.1), Value.int IntKind.u32 ((opnD S (x, y, z) L (hx, hy)).2.2)], Value.int IntKind.i64 ((opnE S (x, y, z) L (hx, hy)))] ∧ K = [TW b n (opnS S (x, y, z) L (hx, hy))]) := by
  refine ht_wi (fun W => ?_) (fun W => wf_opn W hz1 _ _)
  have bad : ∀ e : Int, opnE S (x, y, z) L (hx, hy) = e → e ≠ 0 → HT Try.prog 12 [Value.pointer (some ⟨b, 0, none⟩), Value.agg #[Value.int IntKind.i64 x, Value.int IntKind.i64 y, Value.int IntKind.u32 z], Value.string (St L), Value.agg #[Value.int IntKind.i64 hx, Value.int IntKind.u32 hy]] [Tab b n S.A S.E S.R] (fun v K => v = Value.tuple #[Value.agg #[Value.int .i64 0, Value.int .i64 0, Value.int .u32 0], Value.int .i64 e] ∧ K = [Tab b n S.A S.E S.R]) → HT Try.prog 12 [Value.pointer (some ⟨b, 0, none⟩), Value.agg #[Value.int IntKind.i64 x, Value.int IntKind.i64 y, Value.int IntKind.u32 z], Value.string (St L), Value.agg #[Value.int IntKind.i64 hx, Value.int IntKind.u32 hy]] [Tab b n S.A S.E S.R] (fun v K => v = Value.tuple #[Value.agg #[Value.int IntKind.i64 ((opnD S (x, y, z) L (hx, hy)).1), Value.int IntKind.i64 ((opnD S (x, y, z) L (hx, hy)).2.1), Value.int IntKind.u32 ((opnD S (x, y, z) L (hx, hy)).2.2)], Value.int IntKind.i64 ((opnE S (x, y, z) L (hx, hy)))] ∧ K = [Tab b n (opnS S (x, y, z) L (hx, hy)).A (opnS S (x, y, z) L (hx, hy)).E (opnS S (x, y, z) L (hx, hy)).R]) := fun e h1 h2 h3 => by
    rw [(opn_bad h1 h2).1, (opn_bad h1 h2).2, h1]
    exact h3
  rcases newE_cases (x, y, z) L with ⟨h1, h2⟩ | ⟨h1, h2⟩
  · exact bad 2 (by unfold opnE; rw [if_pos (by omega), h2]) (by omega) (topen_out b n S.A S.E S.R x y z hx hy L hz0 hz1 hm h1)
  · rcases tagE_or L with h3 | h3
    · rw [h3] at h2
      by_cases h4 : objH (hx, hy)
      · have hob : 0 ≤ hx ∧ hx ≤ 255 ∧ 1 ≤ hy := h4
        by_cases h5 : hasO S.R (x, y, z)
        · exact bad 6 (by unfold opnE; rw [if_neg (by omega), if_neg (not_not_intro h4), if_pos (.inl h5)]) (by omega) (topen_out2 b n S.A S.E S.R x y z hx hy L hz0 hz1 hm h1 h3 hob h5)
        · by_cases h6 : hasH S.E (hx, hy)
          · exact bad 6 (by unfold opnE; rw [if_neg (by omega), if_neg (not_not_intro h4), if_pos (.inr h6)]) (by omega) (topen_have b n S.A S.E S.R x y z hx hy L hz0 hz1 hm h1 h3 hob (haso_not h5) h6)
          · have h56 : ¬ (hasO S.R (x, y, z) ∨ hasH S.E (hx, hy)) := fun h => h.elim h5 h6
            by_cases h7 : S.R.length = 2000 ∨ (inS 0 S.A 0).length = 0
            · exact bad 4 (by unfold opnE; rw [if_neg (by omega), if_neg (not_not_intro h4), if_neg h56, if_pos (h7.imp (fun h => by omega) (fun h => freeS_none.2 h))]) (by omega) (topen_full b n S.A S.E S.R x y z hx hy L hz0 hz1 hm h1 h3 hob (haso_not h5) (has_not h6) h7)
            · have hl := W.rl
              cases h8 : freeS S.A with
              | none => exact absurd (.inr (freeS_none.1 h8)) h7
              | some p =>
                obtain ⟨j, g⟩ := p
                have h0 : opnE S (x, y, z) L (hx, hy) = 0 := by unfold opnE; rw [if_neg (by omega), if_neg (not_not_intro h4), if_neg h56, if_neg (fun h => h.elim (fun h => h7 (.inl (by omega))) (fun h => by rw [h8] at h; cases h))]
                have hS : opnS S (x, y, z) L (hx, hy) = ⟨S.A.set j (1, g), gset S.E (j : Int) ⟨(x, (j : Int), g), (S.R.length : Int) + 1, (hx, hy)⟩, S.R ++ [⟨(x, y, z), 1, 0, 0, 0, L⟩]⟩ := by
                  unfold opnS addS
                  rw [if_pos h0]
                  simp only [h8]
                have hD : opnD S (x, y, z) L (hx, hy) = (x, (j : Int), g) := by
                  unfold opnD addD
                  rw [if_pos h0]
                  simp only [h8]
                rw [hS, hD, h0]
                exact topen_ok b n S.A S.E S.R x y z hx hy L hz0 hz1 hm h1 h3 hob (haso_not h5) (has_not h6) (by omega) j g h8 (free_len h8)
      · exact bad 2 (by unfold opnE; rw [if_neg (by omega), if_pos h4]) (by omega) (topen_arg b n S.A S.E S.R x y z hx hy L hz0 hz1 hm h1 h3 (obj_not h4))
    · rw [h3] at h2
      exact bad 16 (by unfold opnE; rw [if_pos (by omega), h2]) (by omega) (topen_tag b n S.A S.E S.R x y z hx hy L hz0 hz1 hm h1 (by omega))
theorem tdup_w (b n : Nat) (S : Ts) (x y z hx hy : Int) (hz0 : 0 ≤ z) (hz1 : z ≤ 4294967295) : HT Try.prog 14 [Value.pointer (some ⟨b, 0, none⟩), Value.agg #[Value.int IntKind.i64 x, Value.int IntKind.i64 y, Value.int IntKind.u32 z], Value.agg #[Value.int IntKind.i64 hx, Value.int IntKind.u32 hy]] [TW b n S] (fun v K => v = Value.tuple #[Value.agg #[Value.int IntKind.i64 ((dupD S (x, y, z) (hx, hy)).1), Value.int IntKind.i64 ((dupD S (x, y, z) (hx, hy)).2.1), Value.int IntKind.u32 ((dupD S (x, y, z) (hx, hy)).2.2)], Value.int IntKind.i64 ((dupE S (x, y, z) (hx, hy)))] ∧ K = [TW b n (dupS S (x, y, z) (hx, hy))]) := by
  refine ht_wi (fun W => ?_) (fun W => wf_dup W _ _)
  have bad : ∀ e : Int, dupE S (x, y, z) (hx, hy) = e → e ≠ 0 → HT Try.prog 14 [Value.pointer (some ⟨b, 0, none⟩), Value.agg #[Value.int IntKind.i64 x, Value.int IntKind.i64 y, Value.int IntKind.u32 z], Value.agg #[Value.int IntKind.i64 hx, Value.int IntKind.u32 hy]] [Tab b n S.A S.E S.R] (fun v K => v = Value.tuple #[Value.agg #[Value.int .i64 0, Value.int .i64 0, Value.int .u32 0], Value.int .i64 e] ∧ K = [Tab b n S.A S.E S.R]) → HT Try.prog 14 [Value.pointer (some ⟨b, 0, none⟩), Value.agg #[Value.int IntKind.i64 x, Value.int IntKind.i64 y, Value.int IntKind.u32 z], Value.agg #[Value.int IntKind.i64 hx, Value.int IntKind.u32 hy]] [Tab b n S.A S.E S.R] (fun v K => v = Value.tuple #[Value.agg #[Value.int IntKind.i64 ((dupD S (x, y, z) (hx, hy)).1), Value.int IntKind.i64 ((dupD S (x, y, z) (hx, hy)).2.1), Value.int IntKind.u32 ((dupD S (x, y, z) (hx, hy)).2.2)], Value.int IntKind.i64 ((dupE S (x, y, z) (hx, hy)))] ∧ K = [Tab b n (dupS S (x, y, z) (hx, hy)).A (dupS S (x, y, z) (hx, hy)).E (dupS S (x, y, z) (hx, hy)).R]) := fun e h1 h2 h3 => by
    rw [(dup_bad h1 h2).1, (dup_bad h1 h2).2, h1]
    exact h3
  by_cases h4 : objH (hx, hy)
  · have hob : 0 ≤ hx ∧ hx ≤ 255 ∧ 1 ≤ hy := h4
    rcases fnd_cases S (x, y, z) with ⟨hg, h1, _⟩ | ⟨hg, hn, h1, _⟩ | ⟨hg, e, he, hd, h1, h2⟩
    · exact bad 2 (by unfold dupE; rw [if_neg (not_not_intro h4), if_pos (by omega), h1]) (by omega) (tdup_bad b n S.A S.E S.R x y z hx hy hob hz0 hz1 hg)
    · refine bad 7 (by unfold dupE; rw [if_neg (not_not_intro h4), if_pos (by omega), h1]) (by omega) ?_
      cases he : gget S.E y with
      | none => exact tdup_none b n S.A S.E S.R x y z hx hy hob hz0 hz1 hg he
      | some e => exact tdup_diff b n S.A S.E S.R x y z hx hy hob e hz0 hz1 hg he (ky3n (hn e he))
    · by_cases h6 : hasH S.E (hx, hy)
      · exact bad 6 (by unfold dupE; rw [if_neg (not_not_intro h4), if_neg (by omega), if_pos h6]) (by omega) (tdup_have b n S.A S.E S.R x y z hx hy hob e hz0 hz1 hg he (ky3 hd) h6)
      · obtain ⟨_, _, ⟨q, r, h7, h8, h9, _⟩, _⟩ := W.ent _ e he
        cases h10 : freeS S.A with
        | none => exact bad 4 (by unfold dupE; rw [if_neg (not_not_intro h4), if_neg (by omega), if_neg h6, if_pos h10]) (by omega) (tdup_full b n S.A S.E S.R x y z hx hy hob e hz0 hz1 hg he (ky3 hd) (has_not h6) q r h7 h8 (freeS_none.1 h10))
        | some p =>
          obtain ⟨j, g⟩ := p
          have h0 : dupE S (x, y, z) (hx, hy) = 0 := by unfold dupE; rw [if_neg (not_not_intro h4), if_neg (by omega), if_neg h6, if_neg (by rw [h10]; exact fun h => by cases h)]
          have hk : r.out.1 = x := h9.trans (congrArg Prod.fst hd)
          have hS : dupS S (x, y, z) (hx, hy) = ⟨S.A.set j (1, g), gset S.E (j : Int) ⟨(r.out.1, (j : Int), g), e.num, (hx, hy)⟩, S.R⟩ := by
            unfold dupS addS
            rw [if_pos h0, h2, hk]
            simp only [h10]
          have hD : dupD S (x, y, z) (hx, hy) = (r.out.1, (j : Int), g) := by
            unfold dupD addD
            rw [if_pos h0, hk]
            simp only [h10]
          rw [hS, hD, h0]
          exact tdup_ok b n S.A S.E S.R x y z hx hy hob e hz0 hz1 hg he (ky3 hd) (has_not h6) q r h7 h8 j g h10 (free_len h10)
  · exact bad 2 (by unfold dupE; rw [if_pos h4]) (by omega) (tdup_arg b n S.A S.E S.R x y z hx hy (obj_not h4))
theorem cls_bad {S : Ts} {d : Ky} {e : Int} (h0 : fndE S d = e) (he : e ≠ 0) : clsS S d = S ∧ clsL S d = false := by
  unfold clsS clsL
  rw [if_neg (by omega), decide_eq_false (fun h => by omega)]
  exact ⟨rfl, rfl⟩
theorem cls_ok {S : Ts} {d : Ky} (h0 : fndE S d = 0) : clsS S d = dropS S d ∧ clsL S d = decide ((descs (dropS S d).E (fndX S d).num).length = 0) := by
  unfold clsS clsL
  rw [if_pos h0]
  exact ⟨rfl, by rw [decide_eq_decide]; exact ⟨fun h => h.2, fun h => ⟨h0, h⟩⟩⟩
theorem tclose_w (b n : Nat) (S : Ts) (x y z : Int) (hz0 : 0 ≤ z) (hz1 : z ≤ 4294967295) : HT Try.prog 15 [Value.pointer (some ⟨b, 0, none⟩), Value.agg #[Value.int IntKind.i64 x, Value.int IntKind.i64 y, Value.int IntKind.u32 z]] [TW b n S] (fun v K => v = Value.tuple #[Value.int IntKind.i64 ((fndX S (x, y, z)).num), Value.bool (clsL S (x, y, z)), Value.int IntKind.i64 ((fndE S (x, y, z)))] ∧ K = [TW b n (clsS S (x, y, z))]) := by
  refine ht_wi (fun W => ?_) (fun W => wf_cls W _)
  rcases fnd_cases S (x, y, z) with ⟨hg, h1, h2⟩ | ⟨hg, hn, h1, h2⟩ | ⟨hg, e, he, hd, h1, h2⟩
  · rw [(cls_bad h1 (by omega)).1, (cls_bad h1 (by omega)).2, h1, h2]
    exact tclose_bad b n S.A S.E S.R x y z hz0 hz1 hg
  · rw [(cls_bad h1 (by omega)).1, (cls_bad h1 (by omega)).2, h1, h2]
    cases he : gget S.E y with
    | none => exact tclose_none b n S.A S.E S.R x y z hz0 hz1 hg he
    | some e => exact tclose_diff b n S.A S.E S.R x y z e hz0 hz1 hg he (ky3n (hn e he))
  · obtain ⟨q, h3, _, h4⟩ := wf_slot W he
    have h3' : y = (q : Int) := h3
    have hq : y.toNat = q := by omega
    obtain ⟨_, _, ⟨q2, r, h7, h8, _⟩, _⟩ := W.ent _ e he
    have hl := (List.getElem?_eq_some_iff.1 h7).1
    rw [hd] at h4
    rw [(cls_ok h1).1, (cls_ok h1).2, h1, h2]
    unfold dropS
    simp only [hq]
    exact tclose_ok b n S.A S.E S.R x y z e hz0 hz1 hg he (ky3 hd) q (1, z) h4 ⟨h3', rfl, rfl⟩ ⟨by omega, by omega⟩
theorem tnum_w (b n : Nat) (S : Ts) (x y z : Int) (hz0 : 0 ≤ z) (hz1 : z ≤ 4294967295) : HT Try.prog 25 [Value.pointer (some ⟨b, 0, none⟩), Value.agg #[Value.int IntKind.i64 x, Value.int IntKind.i64 y, Value.int IntKind.u32 z]] [TW b n S] (fun v K => v = Value.tuple #[Value.int IntKind.i64 ((fndX S (x, y, z)).num), Value.int IntKind.i64 ((fndE S (x, y, z)))] ∧ K = [TW b n S]) := by
  refine ht_wi (fun W => ?_) (fun W => W)
  rcases fnd_cases S (x, y, z) with ⟨hg, h1, h2⟩ | ⟨hg, hn, h1, h2⟩ | ⟨hg, e, he, hd, h1, h2⟩
  · rw [h1, h2]
    exact tnum_bad b n S.A S.E S.R x y z hz0 hz1 hg
  · rw [h1, h2]
    cases he : gget S.E y with
    | none => exact tnum_none b n S.A S.E S.R x y z hz0 hz1 hg he
    | some e => exact tnum_diff b n S.A S.E S.R x y z e hz0 hz1 hg he (ky3n (hn e he))
  · rw [h1, h2]
    exact tnum_ok b n S.A S.E S.R x y z e hz0 hz1 hg he (ky3 hd)
theorem thnd_w (b n : Nat) (S : Ts) (x y z : Int) (hz0 : 0 ≤ z) (hz1 : z ≤ 4294967295) : HT Try.prog 26 [Value.pointer (some ⟨b, 0, none⟩), Value.agg #[Value.int IntKind.i64 x, Value.int IntKind.i64 y, Value.int IntKind.u32 z]] [TW b n S] (fun v K => v = Value.tuple #[Value.agg #[Value.int IntKind.i64 ((fndX S (x, y, z)).h.1), Value.int IntKind.u32 ((fndX S (x, y, z)).h.2)], Value.int IntKind.i64 ((fndE S (x, y, z)))] ∧ K = [TW b n S]) := by
  refine ht_wi (fun W => ?_) (fun W => W)
  rcases fnd_cases S (x, y, z) with ⟨hg, h1, h2⟩ | ⟨hg, hn, h1, h2⟩ | ⟨hg, e, he, hd, h1, h2⟩
  · rw [h1, h2]
    exact thnd_bad b n S.A S.E S.R x y z hz0 hz1 hg
  · rw [h1, h2]
    cases he : gget S.E y with
    | none => exact thnd_none b n S.A S.E S.R x y z hz0 hz1 hg he
    | some e => exact thnd_diff b n S.A S.E S.R x y z e hz0 hz1 hg he (ky3n (hn e he))
  · rw [h1, h2]
    exact thnd_ok b n S.A S.E S.R x y z e hz0 hz1 hg he (ky3 hd)
theorem tat_w (b n : Nat) (S : Ts) (vn : Int) : HT Try.prog 34 [Value.pointer (some ⟨b, 0, none⟩), Value.int IntKind.i64 vn] [TW b n S] (fun v K => v = Value.tuple #[Value.agg #[Value.int IntKind.i64 (((atX S vn).d).1), Value.int IntKind.i64 (((atX S vn).d).2.1), Value.int IntKind.u32 (((atX S vn).d).2.2)], Value.bool ((gget S.E vn).isSome)] ∧ K = [TW b n S]) := by
  refine ht_wi (fun W => ?_) (fun W => W)
  unfold atX
  cases he : gget S.E vn with
  | none => exact tat_none b n S.A S.E S.R vn he
  | some e => exact tat_ok b n S.A S.E S.R vn e he
theorem tget_w (b n : Nat) (S : Ts) (vn : Int) : HT Try.prog 20 [Value.pointer (some ⟨b, 0, none⟩), Value.int IntKind.i64 vn] [TW b n S] (fun v K => v = Value.tuple #[Value.agg #[Value.int IntKind.i64 ((getR S vn).out.1), Value.int IntKind.i64 ((getR S vn).out.2.1), Value.int IntKind.u32 ((getR S vn).out.2.2), Value.int IntKind.i64 ((getR S vn).st), Value.int IntKind.i64 ((getR S vn).why), Value.int IntKind.i64 ((getR S vn).tr), Value.int IntKind.i64 ((getR S vn).nx), Value.string (St ((getR S vn).tag))], Value.int IntKind.i64 ((nE S vn))] ∧ K = [TW b n S]) := by
  refine ht_wi (fun W => ?_) (fun W => W)
  unfold nE
  by_cases h : 1 ≤ vn ∧ vn ≤ (S.R.length : Int)
  · rw [if_pos h]
    exact tget_ok b n S.A S.E S.R vn (vn - 1).toNat (getR S vn) (getR_at h) (by omega)
  · rw [if_neg h, getR_no h]
    exact tget_no b n S.A S.E S.R vn (by omega)
theorem tlen_w (b n : Nat) (S : Ts) : HT Try.prog 22 [Value.pointer (some ⟨b, 0, none⟩)] [TW b n S] (fun v K => v = Value.int IntKind.i64 (((S.R.length : Nat) : Int)) ∧ K = [TW b n S]) := by
  exact ht_wi (fun W => tlen_ht b n S.A S.E S.R) (fun W => W)
theorem tdescs_w (b n : Nat) (S : Ts) (vn : Int) : HT Try.prog 21 [Value.pointer (some ⟨b, 0, none⟩), Value.int IntKind.i64 vn] [TW b n S] (fun v K => ∃ (p : Option Addr) (c : Nat), v = Value.tuple #[Value.slice p (((descs S.E vn).length)) c, Value.int IntKind.i64 ((nE S vn))] ∧ K = [TW b n S, Sl 28 3 p (((descs S.E vn).length)) c (fl eO (descs S.E vn))]) := by
  refine HT.wi fun W => ?_
  unfold nE
  by_cases h : 1 ≤ vn ∧ vn ≤ (S.R.length : Int)
  · rw [if_pos h]
    exact (tdescs_ok b n S.A S.E S.R vn h).post fun v K hP => by
      obtain ⟨p, c, h1, h2⟩ := hP
      exact ⟨_, ⟨p, c, h1, rfl⟩, fun g w F hs => by rw [h2] at hs; exact wi_in W hs⟩
  · rw [if_neg h, descs_nil W h]
    exact (tdescs_no b n S.A S.E S.R vn (by omega)).post fun v K hP => ⟨_, ⟨none, 0, hP.1, rfl⟩, fun g w F hs => by
      rw [hP.2] at hs
      exact wi_in W (sat_sw (sl_nil 28 3 hs))⟩
theorem tdrop_w (b n : Nat) (S : Ts) (x y z : Int) (hz0 : 0 ≤ z) (hz1 : z ≤ 4294967295) (e : Ety) (he : gget S.E y = some e) (hd : e.d = (x, y, z)) : HT Try.prog 45 [Value.pointer (some ⟨b, 0, none⟩), Value.agg #[Value.int IntKind.i64 x, Value.int IntKind.i64 y, Value.int IntKind.u32 z]] [TW b n S] (fun v K => v = Value.tuple #[] ∧ K = [TW b n (dropS S (x, y, z))]) := by
  refine ht_wi (fun W => ?_) (fun W => wf_drop W he hd)
  obtain ⟨q, h3, _, h4⟩ := wf_slot W he
  have hq : y.toNat = q := by omega
  rw [hd] at h4
  unfold dropS
  simp only [hq]
  exact tdrop_ht b n S.A S.E S.R x y z hz0 hz1 q (1, z) h4 ⟨h3, rfl, rfl⟩
theorem tnew_w (n : Nat) (gn : Int) (hn : 1 ≤ n ∧ n ≤ 256) (hg : 1 ≤ gn ∧ gn ≤ 4294967295) : HT Try.prog 11 [Value.int IntKind.i64 (((n : Nat) : Int)), Value.int IntKind.u32 gn] [] (fun v K => ∃ b : Nat, v = Value.tuple #[Value.pointer (some ⟨b, 0, none⟩), Value.int .i64 0] ∧ K = [TW b n ⟨List.replicate n (0, gn), [], []⟩]) :=
  (tnew_ok n gn hn hg).post fun v K hP => by
    obtain ⟨b, h1, h2⟩ := hP
    exact ⟨_, ⟨b, h1, rfl⟩, fun g w F hs => by rw [h2] at hs; exact wi_in (wf_new hn hg) hs⟩

end Go.Proofs.Ytjjpmehiolejgaa
