/- Walks, printed by my generator ../tab/gen20.py. -/
import Derived.Test.YtjjpmehiolejgaaGreatBundle29
import Derived.Test.YtjjpmehiolejgaaGreatBundle28
import Derived.Test.YtjjpmehiolejgaaGreatWfm
namespace Go.Proofs.YtjjpmehiolejgaaGreat
/-- A table, with all that is true of it. -/
def TW (b n : Nat) (S : Ts) : Assn := Wi (Wf n S) (Tab b n S.A S.E S.R)
theorem opn_bad {S : Ts} {o : Ky} {L : List UInt8} {h : Int × Int} {e : Int} (h0 : opnE S o L h = e) (he : e ≠ 0) : opnS S o L h = S ∧ opnD S o L h = (0, 0, 0) := by
  unfold opnS opnD
  rw [if_neg (by omega), if_neg (by omega)]
  exact ⟨rfl, rfl⟩
theorem dup_bad {S : Ts} {d : Ky} {h : Int × Int} {e : Int} (h0 : dupE S d h = e) (he : e ≠ 0) : dupS S d h = S ∧ dupD S d h = (0, 0, 0) := by
  unfold dupS dupD
  rw [if_neg (by omega), if_neg (by omega)]
  exact ⟨rfl, rfl⟩
theorem has_not {E : Tm} {h : Int × Int} (hh : ¬ hasH E h) : ∀ e ∈ allE E, e.h ≠ h := fun e h1 h2 => hh ⟨e, h1, h2⟩
theorem haso_not {R : List Rs} {o : Ky} (hh : ¬ hasO R o) : ∀ r ∈ R, r.out ≠ o := fun e h1 h2 => hh ⟨e, h1, h2⟩
theorem obj_not {hx hy : Int} (h : ¬ objH (hx, hy)) : hx < 0 ∨ 255 < hx ∨ hy ≤ 0 := by
  unfold objH at h
  simp only at h
  omega
theorem ky3 {p : Ky} {x y z : Int} (h : p = (x, y, z)) : p.1 = x ∧ p.2.1 = y ∧ p.2.2 = z := by subst h; exact ⟨rfl, rfl, rfl⟩
theorem ky3n {p : Ky} {x y z : Int} (h : p ≠ (x, y, z)) : ¬ (p.1 = x ∧ p.2.1 = y ∧ p.2.2 = z) := fun h2 => h (Prod.ext h2.1 (Prod.ext h2.2.1 h2.2.2))
theorem free_len {A : List Sl2} {j : Nat} {g : Int} (h : freeS A = some (j, g)) : 1 ≤ (inS 0 A 0).length := by
  have := (List.getElem?_eq_some_iff.1 h).1
  omega
theorem topen_w (b n : Nat) (S : Ts) (x y z hx hy : Int) (L : List UInt8) (hz0 : 0 ≤ z) (hz1 : z ≤ 4294967295) (hm : L.length ≤ 1099511627776) : HT Tryz.prog 8 [Value.pointer (some ⟨b, 0, none⟩), Value.agg #[Value.int IntKind.i64 x, Value.int IntKind.i64 y, Value.int IntKind.u32 z], Value.string (St L), Value.agg #[Value.int IntKind.i64 hx, Value.int IntKind.u32 hy]] [TW b n S] (fun v K => v = Value.tuple #[Value.agg #[Value.int IntKind.i64 ((opnD S (x, y, z) L (hx, hy)).1), Value.int IntKind.i64 ((opnD S (x, y, z) L (hx, hy)).2.1), Value.int IntKind.u32 ((opnD S (x, y, z) L (hx, hy)).2.2)], Value.int IntKind.i64 ((opnE S (x, y, z) L (hx, hy)))] ∧ K = [TW b n (opnS S (x, y, z) L (hx, hy))]) := by
  refine ht_wi (fun W => ?_) (fun W => wf_opn W hz1 _ _)
  have bad : ∀ e : Int, opnE S (x, y, z) L (hx, hy) = e → e ≠ 0 → HT Tryz.prog 8 [Value.pointer (some ⟨b, 0, none⟩), Value.agg #[Value.int IntKind.i64 x, Value.int IntKind.i64 y, Value.int IntKind.u32 z], Value.string (St L), Value.agg #[Value.int IntKind.i64 hx, Value.int IntKind.u32 hy]] [Tab b n S.A S.E S.R] (fun v K => v = Value.tuple #[Value.agg #[Value.int .i64 0, Value.int .i64 0, Value.int .u32 0], Value.int .i64 e] ∧ K = [Tab b n S.A S.E S.R]) → HT Tryz.prog 8 [Value.pointer (some ⟨b, 0, none⟩), Value.agg #[Value.int IntKind.i64 x, Value.int IntKind.i64 y, Value.int IntKind.u32 z], Value.string (St L), Value.agg #[Value.int IntKind.i64 hx, Value.int IntKind.u32 hy]] [Tab b n S.A S.E S.R] (fun v K => v = Value.tuple #[Value.agg #[Value.int IntKind.i64 ((opnD S (x, y, z) L (hx, hy)).1), Value.int IntKind.i64 ((opnD S (x, y, z) L (hx, hy)).2.1), Value.int IntKind.u32 ((opnD S (x, y, z) L (hx, hy)).2.2)], Value.int IntKind.i64 ((opnE S (x, y, z) L (hx, hy)))] ∧ K = [Tab b n (opnS S (x, y, z) L (hx, hy)).A (opnS S (x, y, z) L (hx, hy)).E (opnS S (x, y, z) L (hx, hy)).R]) := fun e h1 h2 h3 => by
    rw [(opn_bad h1 h2).1, (opn_bad h1 h2).2, h1]
    exact h3
  rcases newE_cases (x, y, z) L with ⟨h1, h2⟩ | ⟨h1, h2⟩
  · exact bad 2 (by unfold opnE; rw [if_pos (by omega), h2]) (by omega) (topen_out b n S.A S.E S.R x y z hx hy L hz0 hz1 hm h1)
  · rcases tagE_or L with h3 | h3
    · rw [h3] at h2
      by_cases h4 : objH (hx, hy)
      · have hob : 0 ≤ hx ∧ hx ≤ 255 ∧ 1 ≤ hy := h4
        by_cases h5 : hasO S.R (x, y, z)
        · exact bad 6 (by unfold opnE; rw [if_neg (by omega), if_neg (not_not_intro h4), if_pos (.inl h5)]) (by omega) (topen_out2 b n S.A S.E S.R x y z hx hy L hz0 hz1 hm h1 h3 hob h5)
        · by_cases h6 : hasH S.E (hx, hy)
          · exact bad 6 (by unfold opnE; rw [if_neg (by omega), if_neg (not_not_intro h4), if_pos (.inr h6)]) (by omega) (topen_have b n S.A S.E S.R x y z hx hy L hz0 hz1 hm h1 h3 hob (haso_not h5) h6)
          · have h56 : ¬ (hasO S.R (x, y, z) ∨ hasH S.E (hx, hy)) := fun h => h.elim h5 h6
            by_cases h7 : S.R.length = 2000 ∨ (inS 0 S.A 0).length = 0
            · exact bad 4 (by unfold opnE; rw [if_neg (by omega), if_neg (not_not_intro h4), if_neg h56, if_pos (h7.imp (fun h => by omega) (fun h => freeS_none.2 h))]) (by omega) (topen_full b n S.A S.E S.R x y z hx hy L hz0 hz1 hm h1 h3 hob (haso_not h5) (has_not h6) h7)
            · have hl := W.rl
              cases h8 : freeS S.A with
              | none => exact absurd (.inr (freeS_none.1 h8)) h7
              | some p =>
                obtain ⟨j, g⟩ := p
                have h0 : opnE S (x, y, z) L (hx, hy) = 0 := by unfold opnE; rw [if_neg (by omega), if_neg (not_not_intro h4), if_neg h56, if_neg (fun h => h.elim (fun h => h7 (.inl (by omega))) (fun h => by rw [h8] at h; cases h))]
                have hS : opnS S (x, y, z) L (hx, hy) = ⟨S.A.set j (1, g), gset S.E (j : Int) ⟨(x, (j : Int), g), (S.R.length : Int) + 1, (hx, hy)⟩, S.R ++ [⟨(x, y, z), 1, 0, 0, 0, L⟩]⟩ := by
                  unfold opnS addS
                  rw [if_pos h0]
                  simp only [h8]
                have hD : opnD S (x, y, z) L (hx, hy) = (x, (j : Int), g) := by
                  unfold opnD addD
                  rw [if_pos h0]
                  simp only [h8]
                rw [hS, hD, h0]
                exact topen_ok b n S.A S.E S.R x y z hx hy L hz0 hz1 hm h1 h3 hob (haso_not h5) (has_not h6) (by omega) j g h8 (free_len h8)
      · exact bad 2 (by unfold opnE; rw [if_neg (by omega), if_pos h4]) (by omega) (topen_arg b n S.A S.E S.R x y z hx hy L hz0 hz1 hm h1 h3 (obj_not h4))
    · rw [h3] at h2
      exact bad 16 (by unfold opnE; rw [if_pos (by omega), h2]) (by omega) (topen_tag b n S.A S.E S.R x y z hx hy L hz0 hz1 hm h1 (by omega))
theorem tdup_w (b n : Nat) (S : Ts) (x y z hx hy : Int) (hz0 : 0 ≤ z) (hz1 : z ≤ 4294967295) : HT Tryz.prog 10 [Value.pointer (some ⟨b, 0, none⟩), Value.agg #[Value.int IntKind.i64 x, Value.int IntKind.i64 y, Value.int IntKind.u32 z], Value.agg #[Value.int IntKind.i64 hx, Value.int IntKind.u32 hy]] [TW b n S] (fun v K => v = Value.tuple #[Value.agg #[Value.int IntKind.i64 ((dupD S (x, y, z) (hx, hy)).1), Value.int IntKind.i64 ((dupD S (x, y, z) (hx, hy)).2.1), Value.int IntKind.u32 ((dupD S (x, y, z) (hx, hy)).2.2)], Value.int IntKind.i64 ((dupE S (x, y, z) (hx, hy)))] ∧ K = [TW b n (dupS S (x, y, z) (hx, hy))]) := by
  refine ht_wi (fun W => ?_) (fun W => wf_dup W _ _)
  have bad : ∀ e : Int, dupE S (x, y, z) (hx, hy) = e → e ≠ 0 → HT Tryz.prog 10 [Value.pointer (some ⟨b, 0, none⟩), Value.agg #[Value.int IntKind.i64 x, Value.int IntKind.i64 y, Value.int IntKind.u32 z], Value.agg #[Value.int IntKind.i64 hx, Value.int IntKind.u32 hy]] [Tab b n S.A S.E S.R] (fun v K => v = Value.tuple #[Value.agg #[Value.int .i64 0, Value.int .i64 0, Value.int .u32 0], Value.int .i64 e] ∧ K = [Tab b n S.A S.E S.R]) → HT Tryz.prog 10 [Value.pointer (some ⟨b, 0, none⟩), Value.agg #[Value.int IntKind.i64 x, Value.int IntKind.i64 y, Value.int IntKind.u32 z], Value.agg #[Value.int IntKind.i64 hx, Value.int IntKind.u32 hy]] [Tab b n S.A S.E S.R] (fun v K => v = Value.tuple #[Value.agg #[Value.int IntKind.i64 ((dupD S (x, y, z) (hx, hy)).1), Value.int IntKind.i64 ((dupD S (x, y, z) (hx, hy)).2.1), Value.int IntKind.u32 ((dupD S (x, y, z) (hx, hy)).2.2)], Value.int IntKind.i64 ((dupE S (x, y, z) (hx, hy)))] ∧ K = [Tab b n (dupS S (x, y, z) (hx, hy)).A (dupS S (x, y, z) (hx, hy)).E (dupS S (x, y, z) (hx, hy)).R]) := fun e h1 h2 h3 => by
    rw [(dup_bad h1 h2).1, (dup_bad h1 h2).2, h1]
    exact h3
  by_cases h4 : objH (hx, hy)
  · have hob : 0 ≤ hx ∧ hx ≤ 255 ∧ 1 ≤ hy := h4
    rcases fnd_cases S (x, y, z) with ⟨hg, h1, _⟩ | ⟨hg, hn, h1, _⟩ | ⟨hg, e, he, hd, h1, h2⟩
    · exact bad 2 (by unfold dupE; rw [if_neg (not_not_intro h4), if_pos (by omega), h1]) (by omega) (tdup_bad b n S.A S.E S.R x y z hx hy hob hz0 hz1 hg)
    · refine bad 7 (by unfold dupE; rw [if_neg (not_not_intro h4), if_pos (by omega), h1]) (by omega) ?_
      cases he : gget S.E y with
      | none => exact tdup_none b n S.A S.E S.R x y z hx hy hob hz0 hz1 hg he
      | some e => exact tdup_diff b n S.A S.E S.R x y z hx hy hob e hz0 hz1 hg he (ky3n (hn e he))
    · by_cases h6 : hasH S.E (hx, hy)
      · exact bad 6 (by unfold dupE; rw [if_neg (not_not_intro h4), if_neg (by omega), if_pos h6]) (by omega) (tdup_have b n S.A S.E S.R x y z hx hy hob e hz0 hz1 hg he (ky3 hd) h6)
      · obtain ⟨_, _, ⟨q, r, h7, h8, h9, _⟩, _⟩ := W.ent _ e he
        cases h10 : freeS S.A with
        | none => exact bad 4 (by unfold dupE; rw [if_neg (not_not_intro h4), if_neg (by omega), if_neg h6, if_pos h10]) (by omega) (tdup_full b n S.A S.E S.R x y z hx hy hob e hz0 hz1 hg he (ky3 hd) (has_not h6) q r h7 h8 (freeS_none.1 h10))
        | some p =>
          obtain ⟨j, g⟩ := p
          have h0 : dupE S (x, y, z) (hx, hy) = 0 := by unfold dupE; rw [if_neg (not_not_intro h4), if_neg (by omega), if_neg h6, if_neg (by rw [h10]; exact fun h => by cases h)]
          have hk : r.out.1 = x := h9.trans (congrArg Prod.fst hd)
          have hS : dupS S (x, y, z) (hx, hy) = ⟨S.A.set j (1, g), gset S.E (j : Int) ⟨(r.out.1, (j : Int), g), e.num, (hx, hy)⟩, S.R⟩ := by
            unfold dupS addS
            rw [if_pos h0, h2, hk]
            simp only [h10]
          have hD : dupD S (x, y, z) (hx, hy) = (r.out.1, (j : Int), g) := by
            unfold dupD addD
            rw [if_pos h0, hk]
            simp only [h10]
          rw [hS, hD, h0]
          exact tdup_ok b n S.A S.E S.R x y z hx hy hob e hz0 hz1 hg he (ky3 hd) (has_not h6) q r h7 h8 j g h10 (free_len h10)
  · exact bad 2 (by unfold dupE; rw [if_pos h4]) (by omega) (tdup_arg b n S.A S.E S.R x y z hx hy (obj_not h4))
theorem cls_bad {S : Ts} {d : Ky} {e : Int} (h0 : fndE S d = e) (he : e ≠ 0) : clsS S d = S ∧ clsL S d = false := by
  unfold clsS clsL
  rw [if_neg (by omega), decide_eq_false (fun h => by omega)]
  exact ⟨rfl, rfl⟩
theorem cls_ok {S : Ts} {d : Ky} (h0 : fndE S d = 0) : clsS S d = dropS S d ∧ clsL S d = decide ((descs (dropS S d).E (fndX S d).num).length = 0) := by
  unfold clsS clsL
  rw [if_pos h0]
  exact ⟨rfl, by rw [decide_eq_decide]; exact ⟨fun h => h.2, fun h => ⟨h0, h⟩⟩⟩
theorem tclose_w (b n : Nat) (S : Ts) (x y z : Int) (hz0 : 0 ≤ z) (hz1 : z ≤ 4294967295) : HT Tryz.prog 12 [Value.pointer (some ⟨b, 0, none⟩), Value.agg #[Value.int IntKind.i64 x, Value.int IntKind.i64 y, Value.int IntKind.u32 z]] [TW b n S] (fun v K => v = Value.tuple #[Value.int IntKind.i64 ((fndX S (x, y, z)).num), Value.bool (clsL S (x, y, z)), Value.int IntKind.i64 ((fndE S (x, y, z)))] ∧ K = [TW b n (clsS S (x, y, z))]) := by
  refine ht_wi (fun W => ?_) (fun W => wf_cls W _)
  rcases fnd_cases S (x, y, z) with ⟨hg, h1, h2⟩ | ⟨hg, hn, h1, h2⟩ | ⟨hg, e, he, hd, h1, h2⟩
  · rw [(cls_bad h1 (by omega)).1, (cls_bad h1 (by omega)).2, h1, h2]
    exact tclose_bad b n S.A S.E S.R x y z hz0 hz1 hg
  · rw [(cls_bad h1 (by omega)).1, (cls_bad h1 (by omega)).2, h1, h2]
    cases he : gget S.E y with
    | none => exact tclose_none b n S.A S.E S.R x y z hz0 hz1 hg he
    | some e => exact tclose_diff b n S.A S.E S.R x y z e hz0 hz1 hg he (ky3n (hn e he))
  · obtain ⟨q, h3, _, h4⟩ := wf_slot W he
    have h3' : y = (q : Int) := h3
    have hq : y.toNat = q := by omega
    obtain ⟨_, _, ⟨q2, r, h7, h8, _⟩, _⟩ := W.ent _ e he
    have hl := (List.getElem?_eq_some_iff.1 h7).1
    rw [hd] at h4
    rw [(cls_ok h1).1, (cls_ok h1).2, h1, h2]
    unfold dropS
    simp only [hq]
    exact tclose_ok b n S.A S.E S.R x y z e hz0 hz1 hg he (ky3 hd) q (1, z) h4 ⟨h3', rfl, rfl⟩ ⟨by omega, by omega⟩
theorem tnum_w (b n : Nat) (S : Ts) (x y z : Int) (hz0 : 0 ≤ z) (hz1 : z ≤ 4294967295) : HT Tryz.prog 25 [Value.pointer (some ⟨b, 0, none⟩), Value.agg #[Value.int IntKind.i64 x, Value.int IntKind.i64 y, Value.int IntKind.u32 z]] [TW b n S] (fun v K => v = Value.tuple #[Value.int IntKind.i64 ((fndX S (x, y, z)).num), Value.int IntKind.i64 ((fndE S (x, y, z)))] ∧ K = [TW b n S]) := by
  refine ht_wi (fun W => ?_) (fun W => W)
  rcases fnd_cases S (x, y, z) with ⟨hg, h1, h2⟩ | ⟨hg, hn, h1, h2⟩ | ⟨hg, e, he, hd, h1, h2⟩
  · rw [h1, h2]
    exact tnum_bad b n S.A S.E S.R x y z hz0 hz1 hg
  · rw [h1, h2]
    cases he : gget S.E y with
    | none => exact tnum_none b n S.A S.E S.R x y z hz0 hz1 hg he
    | some e => exact tnum_diff b n S.A S.E S.R x y z e hz0 hz1 hg he (ky3n (hn e he))
  · rw [h1, h2]
    exact tnum_ok b n S.A S.E S.R x y z e hz0 hz1 hg he (ky3 hd)
theorem thnd_w (b n : Nat) (S : Ts) (x y z : Int) (hz0 : 0 ≤ z) (hz1 : z ≤ 4294967295) : HT Tryz.prog 57 [Value.pointer (some ⟨b, 0, none⟩), Value.agg #[Value.int IntKind.i64 x, Value.int IntKind.i64 y, Value.int IntKind.u32 z]] [TW b n S] (fun v K => v = Value.tuple #[Value.agg #[Value.int IntKind.i64 ((fndX S (x, y, z)).h.1), Value.int IntKind.u32 ((fndX S (x, y, z)).h.2)], Value.int IntKind.i64 ((fndE S (x, y, z)))] ∧ K = [TW b n S]) := by
  refine ht_wi (fun W => ?_) (fun W => W)
  rcases fnd_cases S (x, y, z) with ⟨hg, h1, h2⟩ | ⟨hg, hn, h1, h2⟩ | ⟨hg, e, he, hd, h1, h2⟩
  · rw [h1, h2]
    exact thnd_bad b n S.A S.E S.R x y z hz0 hz1 hg
  · rw [h1, h2]
    cases he : gget S.E y with
    | none => exact thnd_none b n S.A S.E S.R x y z hz0 hz1 hg he
    | some e => exact thnd_diff b n S.A S.E S.R x y z e hz0 hz1 hg he (ky3n (hn e he))
  · rw [h1, h2]
    exact thnd_ok b n S.A S.E S.R x y z e hz0 hz1 hg he (ky3 hd)
theorem tat_w (b n : Nat) (S : Ts) (vn : Int) : HT Tryz.prog 59 [Value.pointer (some ⟨b, 0, none⟩), Value.int IntKind.i64 vn] [TW b n S] (fun v K => v = Value.tuple #[Value.agg #[Value.int IntKind.i64 (((atX S vn).d).1), Value.int IntKind.i64 (((atX S vn).d).2.1), Value.int IntKind.u32 (((atX S vn).d).2.2)], Value.bool ((gget S.E vn).isSome)] ∧ K = [TW b n S]) := by
  refine ht_wi (fun W => ?_) (fun W => W)
  unfold atX
  cases he : gget S.E vn with
  | none => exact tat_none b n S.A S.E S.R vn he
  | some e => exact tat_ok b n S.A S.E S.R vn e he
theorem tget_w (b n : Nat) (S : Ts) (vn : Int) : HT Tryz.prog 49 [Value.pointer (some ⟨b, 0, none⟩), Value.int IntKind.i64 vn] [TW b n S] (fun v K => v = Value.tuple #[Value.agg #[Value.int IntKind.i64 ((getR S vn).out.1), Value.int IntKind.i64 ((getR S vn).out.2.1), Value.int IntKind.u32 ((getR S vn).out.2.2), Value.int IntKind.i64 ((getR S vn).st), Value.int IntKind.i64 ((getR S vn).why), Value.int IntKind.i64 ((getR S vn).tr), Value.int IntKind.i64 ((getR S vn).nx), Value.string (St ((getR S vn).tag))], Value.int IntKind.i64 ((nE S vn))] ∧ K = [TW b n S]) := by
  refine ht_wi (fun W => ?_) (fun W => W)
  unfold nE
  by_cases h : 1 ≤ vn ∧ vn ≤ (S.R.length : Int)
  · rw [if_pos h]
    exact tget_ok b n S.A S.E S.R vn (vn - 1).toNat (getR S vn) (getR_at h) (by omega)
  · rw [if_neg h, getR_no h]
    exact tget_no b n S.A S.E S.R vn (by omega)
theorem tlen_w (b n : Nat) (S : Ts) : HT Tryz.prog 26 [Value.pointer (some ⟨b, 0, none⟩)] [TW b n S] (fun v K => v = Value.int IntKind.i64 (((S.R.length : Nat) : Int)) ∧ K = [TW b n S]) := by
  exact ht_wi (fun W => tlen_ht b n S.A S.E S.R) (fun W => W)
theorem troom_w (b n : Nat) (S : Ts) : HT Tryz.prog 62 [Value.pointer (some ⟨b, 0, none⟩)] [TW b n S] (fun v K => v = Value.int IntKind.i64 ((((inS 0 S.A 0).length : Nat) : Int)) ∧ K = [TW b n S]) := by
  exact ht_wi (fun W => troom_ht b n S.A S.E S.R) (fun W => W)
theorem tdescs_w (b n : Nat) (S : Ts) (vn : Int) : HT Tryz.prog 46 [Value.pointer (some ⟨b, 0, none⟩), Value.int IntKind.i64 vn] [TW b n S] (fun v K => ∃ (p : Option Addr) (c : Nat), v = Value.tuple #[Value.slice p (((descs S.E vn).length)) c, Value.int IntKind.i64 ((nE S vn))] ∧ K = [TW b n S, Sl 25 3 p (((descs S.E vn).length)) c (fl eO (descs S.E vn))]) := by
  refine HT.wi fun W => ?_
  unfold nE
  by_cases h : 1 ≤ vn ∧ vn ≤ (S.R.length : Int)
  · rw [if_pos h]
    exact (tdescs_ok b n S.A S.E S.R vn h).post fun v K hP => by
      obtain ⟨p, c, h1, h2⟩ := hP
      exact ⟨_, ⟨p, c, h1, rfl⟩, fun g w F hs => by rw [h2] at hs; exact wi_in W hs⟩
  · rw [if_neg h, descs_nil W h]
    exact (tdescs_no b n S.A S.E S.R vn (by omega)).post fun v K hP => ⟨_, ⟨none, 0, hP.1, rfl⟩, fun g w F hs => by
      rw [hP.2] at hs
      exact wi_in W (sat_sw (sl_nil 25 3 hs))⟩
theorem tdrop_w (b n : Nat) (S : Ts) (x y z : Int) (hz0 : 0 ≤ z) (hz1 : z ≤ 4294967295) (e : Ety) (he : gget S.E y = some e) (hd : e.d = (x, y, z)) : HT Tryz.prog 45 [Value.pointer (some ⟨b, 0, none⟩), Value.agg #[Value.int IntKind.i64 x, Value.int IntKind.i64 y, Value.int IntKind.u32 z]] [TW b n S] (fun v K => v = Value.tuple #[] ∧ K = [TW b n (dropS S (x, y, z))]) := by
  refine ht_wi (fun W => ?_) (fun W => wf_drop W he hd)
  obtain ⟨q, h3, _, h4⟩ := wf_slot W he
  have hq : y.toNat = q := by omega
  rw [hd] at h4
  unfold dropS
  simp only [hq]
  exact tdrop_ht b n S.A S.E S.R x y z hz0 hz1 q (1, z) h4 ⟨h3, rfl, rfl⟩
theorem tnew_w (n : Nat) (gn : Int) (hn : 1 ≤ n ∧ n ≤ 256) (hg : 1 ≤ gn ∧ gn ≤ 4294967295) : HT Tryz.prog 6 [Value.int IntKind.i64 (((n : Nat) : Int)), Value.int IntKind.u32 gn] [] (fun v K => ∃ b : Nat, v = Value.tuple #[Value.pointer (some ⟨b, 0, none⟩), Value.int .i64 0] ∧ K = [TW b n ⟨List.replicate n (0, gn), [], []⟩]) :=
  (tnew_ok n gn hn hg).post fun v K hP => by
    obtain ⟨b, h1, h2⟩ := hP
    exact ⟨_, ⟨b, h1, rfl⟩, fun g w F hs => by rw [h2] at hs; exact wi_in (wf_new hn hg) hs⟩

end Go.Proofs.YtjjpmehiolejgaaGreat

/- Walks, printed by my generator z5.py. -/
namespace Go.Proofs.YtjjpmehiolejgaaGreat
def eE (e : Ety) : List Value := [.int .i64 e.d.1, .int .i64 e.d.2.1, .int .u32 e.d.2.2, .int .i64 e.num, .int .i64 e.h.1, .int .u32 e.h.2]
theorem eE_ok : Enc 6 eE := ⟨fun _ => rfl, fun x v hv => by simp [eE] at hv; rcases hv with rfl | rfl | rfl | rfl | rfl | rfl <;> rfl⟩
/-- The document's table: its slots, the entries by their slots, the resources. -/
def Zr (b n : Nat) (A : List Sl2) (X : List Ety) (R : List Rs) : Assn := fun h => ∃ x : Nat × Option Addr × Nat × Option Addr × Nat, (X.length ≤ 256 ∧ R.length ≤ 2000) ∧
  star [Cl b [.pointer (some ⟨x.1, 0, none⟩), .slice x.2.1 X.length x.2.2.1, .slice x.2.2.2.1 R.length x.2.2.2.2] 78, Zs x.1 n A, Sl 93 6 x.2.1 X.length x.2.2.1 (fl eE X), Sl 54 8 x.2.2.2.1 R.length x.2.2.2.2 (fl eRs R)] h
section
variable {g w : World} {L : List Assn} {b n : Nat} {A : List Sl2} {X : List Ety} {R : List Rs}
theorem zr_open (h : sat g w (Zr b n A X R :: L)) : ∃ s p c q d, (X.length ≤ 256 ∧ R.length ≤ 2000) ∧ sat g w (Cl b [.pointer (some ⟨s, 0, none⟩), .slice p X.length c, .slice q R.length d] 78 :: Zs s n A :: Sl 93 6 p X.length c (fl eE X) :: Sl 54 8 q R.length d (fl eRs R) :: L) := by
  obtain ⟨⟨s, p, c, q, d⟩, h1, h2⟩ := sat_open (X := Nat × Option Addr × Nat × Option Addr × Nat) (p := fun _ => X.length ≤ 256 ∧ R.length ≤ 2000) (B := fun x => star [Cl b [.pointer (some ⟨x.1, 0, none⟩), .slice x.2.1 X.length x.2.2.1, .slice x.2.2.2.1 R.length x.2.2.2.2] 78, Zs x.1 n A, Sl 93 6 x.2.1 X.length x.2.2.1 (fl eE X), Sl 54 8 x.2.2.2.1 R.length x.2.2.2.2 (fl eRs R)]) h (fun k hk => hk)
  exact ⟨s, p, c, q, d, h1, sat_unstar h2⟩
theorem zr_close {s c d k m : Nat} {p q : Option Addr} (hb : X.length ≤ 256 ∧ R.length ≤ 2000) (hk : k = X.length) (hm : m = R.length) (h : sat g w (Cl b [.pointer (some ⟨s, 0, none⟩), .slice p k c, .slice q m d] 78 :: Zs s n A :: Sl 93 6 p k c (fl eE X) :: Sl 54 8 q m d (fl eRs R) :: L)) : sat g w (Zr b n A X R :: L) := by
  subst hk hm
  exact sat_imp (sat_star (K := [Cl b [.pointer (some ⟨s, 0, none⟩), .slice p X.length c, .slice q R.length d] 78, Zs s n A, Sl 93 6 p X.length c (fl eE X), Sl 54 8 q R.length d (fl eRs R)]) h) fun k hk => ⟨(s, p, c, q, d), hb, hk⟩
end
theorem any_step {α : Type} {l : List α} {f : α → Bool} {k : Nat} {x : α} (hb : (l.take k).any f = false) (hx : l[k]? = some x) (hn : f x = false) : (l.take (k + 1)).any f = false := by
  rw [List.take_add_one, hx, List.any_append, hb]
  simp [hn]
theorem any_hit {α : Type} {l : List α} {f : α → Bool} {k : Nat} {x : α} (hx : l[k]? = some x) (hf : f x = true) : l.any f = true := List.any_eq_true.2 ⟨x, List.mem_of_getElem? hx, hf⟩
theorem any_end {α : Type} {l : List α} {f : α → Bool} {k : Nat} (hb : (l.take k).any f = false) (hk : l.length ≤ k) : l.any f = false := by
  rw [List.take_of_length_le hk] at hb
  exact hb
theorem ky_eq {d : Ky} {a b c : Int} (h : d.1 = a ∧ d.2.1 = b ∧ d.2.2 = c) : d = (a, b, c) := by
  obtain ⟨x, y, z⟩ := d
  obtain ⟨h1, h2, h3⟩ := h
  simp only at h1 h2 h3
  subst h1 h2 h3
  rfl
theorem ky_of {d : Ky} {a b c : Int} (h : d = (a, b, c)) : d.1 = a ∧ d.2.1 = b ∧ d.2.2 = c := by
  subst h
  exact ⟨rfl, rfl, rfl⟩
theorem hd_eq {d : Int × Int} {a b : Int} (h : d.1 = a ∧ d.2 = b) : d = (a, b) := by
  obtain ⟨x, y⟩ := d
  obtain ⟨h1, h2⟩ := h
  simp only at h1 h2
  subst h1 h2
  rfl
def hasX (X : List Ety) (h : Int × Int) : Bool := X.any fun e => decide (e.h = h)
def hasP (R : List Rs) (o : Ky) : Bool := R.any fun r => decide (r.out = o)
theorem qz5e25_eql_t {n : Nat} {l : Fr} {o : Oper} {x y : Operand} (a0 : Int) (a1 : Int) (a2 : Int) (c0 : Int) (c1 : Int) (c2 : Int) (ho : o.op = .binOp .eql 25 x y 25) (hx : fe n l x = .agg #[.int .i64 a0, .int .i64 a1, .int .u32 a2]) (hy : fe n l y = .agg #[.int .i64 c0, .int .i64 c1, .int .u32 c2]) (h : a0 = c0 ∧ a1 = c1 ∧ a2 = c2) (w : World) : (execOp (fe n l) o).run Tryz.prog w = .ok (.value (.bool true)) w := by
  obtain ⟨rfl, rfl, rfl⟩ := h
  simp [execOp, ho, hx, hy, go_sem]
theorem qz5e25_eql_f {n : Nat} {l : Fr} {o : Oper} {x y : Operand} (a0 : Int) (a1 : Int) (a2 : Int) (c0 : Int) (c1 : Int) (c2 : Int) (ho : o.op = .binOp .eql 25 x y 25) (hx : fe n l x = .agg #[.int .i64 a0, .int .i64 a1, .int .u32 a2]) (hy : fe n l y = .agg #[.int .i64 c0, .int .i64 c1, .int .u32 c2]) (h : ¬ (a0 = c0 ∧ a1 = c1 ∧ a2 = c2)) (w : World) : (execOp (fe n l) o).run Tryz.prog w = .ok (.value (.bool false)) w := by
  by_cases h0 : a0 = c0
  · skip
    by_cases h1 : a1 = c1
    · skip
      by_cases h2 : a2 = c2
      · exact absurd ⟨h0, h1, h2⟩ h
      · simp [execOp, ho, hx, hy, go_sem, h0, h1, h2]
    · simp [execOp, ho, hx, hy, go_sem, h0, h1]
  · simp [execOp, ho, hx, hy, go_sem, h0]
theorem qz5e38_eql_t {n : Nat} {l : Fr} {o : Oper} {x y : Operand} (a0 : Int) (a1 : Int) (c0 : Int) (c1 : Int) (ho : o.op = .binOp .eql 38 x y 38) (hx : fe n l x = .agg #[.int .i64 a0, .int .u32 a1]) (hy : fe n l y = .agg #[.int .i64 c0, .int .u32 c1]) (h : a0 = c0 ∧ a1 = c1) (w : World) : (execOp (fe n l) o).run Tryz.prog w = .ok (.value (.bool true)) w := by
  obtain ⟨rfl, rfl⟩ := h
  simp [execOp, ho, hx, hy, go_sem]
theorem qz5e38_eql_f {n : Nat} {l : Fr} {o : Oper} {x y : Operand} (a0 : Int) (a1 : Int) (c0 : Int) (c1 : Int) (ho : o.op = .binOp .eql 38 x y 38) (hx : fe n l x = .agg #[.int .i64 a0, .int .u32 a1]) (hy : fe n l y = .agg #[.int .i64 c0, .int .u32 c1]) (h : ¬ (a0 = c0 ∧ a1 = c1)) (w : World) : (execOp (fe n l) o).run Tryz.prog w = .ok (.value (.bool false)) w := by
  by_cases h0 : a0 = c0
  · skip
    by_cases h1 : a1 = c1
    · exact absurd ⟨h0, h1⟩ h
    · simp [execOp, ho, hx, hy, go_sem, h0, h1]
  · simp [execOp, ho, hx, hy, go_sem, h0]
set_option maxHeartbeats 4000000 in
theorem rvalid_nil  : HT Tryz.prog 37 [Value.pointer none] [] (fun v K => v = Value.bool false ∧ K = []) := by
 refine hiS Tryz.func37 Tryz.ntmps37 fun g w0 R h0 => go [] ?_
 exact en (.bool false) [] ⟨_, _, rfl, ⟨rfl, rfl⟩, h0⟩

set_option maxHeartbeats 4000000 in
theorem rvalid_cl (b s : Nat) (p : Option Addr) (k c : Nat) (q : Option Addr) (m d : Nat) : HT Tryz.prog 37 [Value.pointer (some ⟨b, 0, none⟩)] [Cl b [Value.pointer (some ⟨s, 0, none⟩), Value.slice p k c, Value.slice q m d] 78] (fun v K => v = Value.bool true ∧ K = [Cl b [Value.pointer (some ⟨s, 0, none⟩), Value.slice p k c, Value.slice q m d] 78]) := by
 refine hiS Tryz.func37 Tryz.ntmps37 fun g w0 R h0 => go [rd 1 6 0 0 1 h0] ?_
 exact en (.bool true) [] ⟨_, _, rfl, ⟨rfl, rfl⟩, h0⟩

set_option maxHeartbeats 4000000 in
theorem zobj_t (u0 u1 : Int) (h : 0 ≤ u0 ∧ u0 ≤ 255 ∧ 1 ≤ u1) : HT Tryz.prog 39 [Value.agg #[Value.int IntKind.i64 u0, Value.int IntKind.u32 u1]] [] (fun v K => v = Value.bool true ∧ K = []) := by
 refine hiS Tryz.func39 Tryz.ntmps39 fun g w0 R h0 => go [] <| nP 38 [iV u0, uV u1] h0 (fun r10 w11 h12 => ?_)
 refine go [rd 1 1 0 0 1 h12, .v 1 2 (oT (u0 ≥ 0)), rd 1 5 0 0 1 h12, .v 1 6 (oT (u0 < 256)), rd 1 10 0 1 1 h12, .v 1 11 (nT u1 0)] ?_
 exact en (.bool true) [] ⟨_, _, rfl, ⟨rfl, rfl⟩, (tk1 (sf1 h12))⟩

set_option maxHeartbeats 4000000 in
theorem zobj_f (u0 u1 : Int) (hz : 0 ≤ u1) (h : ¬ (0 ≤ u0 ∧ u0 ≤ 255 ∧ 1 ≤ u1)) : HT Tryz.prog 39 [Value.agg #[Value.int IntKind.i64 u0, Value.int IntKind.u32 u1]] [] (fun v K => v = Value.bool false ∧ K = []) := by
 refine hiS Tryz.func39 Tryz.ntmps39 fun g w0 R h0 => go [] <| nP 38 [iV u0, uV u1] h0 (fun r10 w11 h12 => ?_)
 refine go [rd 1 1 0 0 1 h12, .s 1 2] ?_
 by_cases c13 : u0 ≥ 0
 ·
  refine go [.v 1 2 (oT (u0 ≥ 0)), rd 1 5 0 0 1 h12, .s 1 6] ?_
  by_cases c14 : u0 < 256
  ·
   refine go [.v 1 6 (oT (u0 < 256)), rd 1 10 0 1 1 h12, .v 1 11 (nF u1 0)] ?_
   exact en (.bool false) [] ⟨_, _, rfl, ⟨rfl, rfl⟩, (tk1 (sf1 h12))⟩
  refine go [.v 1 6 (oF (u0 < 256))] ?_
  exact en (.bool false) [] ⟨_, _, rfl, ⟨rfl, rfl⟩, (tk1 (sf1 h12))⟩
 refine go [.v 1 2 (oF (u0 ≥ 0))] ?_
 exact en (.bool false) [] ⟨_, _, rfl, ⟨rfl, rfl⟩, (tk1 (sf1 h12))⟩

set_option maxHeartbeats 4000000 in
theorem zhas_ht (b n : Nat) (A : List Sl2) (X : List Ety) (Q : List Rs) (u0 u1 : Int) : HT Tryz.prog 40 [Value.pointer (some ⟨b, 0, none⟩), Value.agg #[Value.int IntKind.i64 u0, Value.int IntKind.u32 u1]] [Zr b n A X Q] (fun v K => v = Value.bool (hasX X (u0, u1)) ∧ K = [Zr b n A X Q]) := by
 refine hiS Tryz.func40 Tryz.ntmps40 fun g w0 R h0 => go [] <| nP 38 [iV u0, uV u1] h0 (fun r10 w11 h12 => ?_)
 refine go [] ?_
 obtain ⟨s14, p15, c16, p17, c18, hq19, h20⟩ := zr_open (tk3 (sf2 (sf1 (sf2 h12))))
 have hb21 := hq19.1
 have hb22 := hq19.2
 refine lpS (fun mz_ a w => ∃ k : Nat, ∃ lr : Fr, mz_ = X.length - k ∧ (k ≤ X.length) ∧ ((X.take k).any (fun e => decide (e.h = (u0, u1))) = false) ∧ a = mk 25 (([(0, pV b), (3, pV r10), (5, iV (k : Int))] : Fr) ++ lr) ∧ sat g w [Cl b [pV s14, .slice p15 X.length c16, .slice p17 Q.length c18] 78, Zs s14 n A, Sl 93 6 p15 X.length c16 (fl eE X), Sl 54 8 p17 Q.length c18 (fl eRs Q), Cl r10 [iV u0, uV u1] 38, R]) (X.length - 0) ⟨0, _, rfl, (by omega), rfl, (lvF [.k 0 (pV b), .k 3 (pV r10), .o 5 (oJ .i64 0 (0 : Int))]), h20⟩ ?_
 rintro m24 a25 w26 ⟨k, lr23, rfl, hk_, hb_, rfl, h27⟩
 refine ga <| go [rd 2 4 0 1 1 h27, .s 2 6] ?_
 by_cases c28 : (k : Int) < ((X.length : Nat) : Int)
 ·
  refine go [.v 2 6 (oT ((k : Int) < ((X.length : Nat) : Int)))] <| dw (fls [0, 1, 2, 3, 4, 5, 6, 7, 8, 9] Tr.nil) h27 fun w29 h30 => ?_
  obtain ⟨b31, hp32⟩ := sl_ptr0 (j := 2) h30 rfl (by omega)
  refine go [rd 4 3 0 1 1 h30, .s 4 5] <| lw (.pointer (some ⟨b31, k * 6, none⟩)) (fun _ => law_indexSlP (x := (Operand.tmp 18)) (i := (Operand.tmp 19)) (p := p15) (b := b31) (off := 0) (z := (k : Int)) (len := X.length) (cap := c16) (by kernel_rfl) Tryz.underlying75 6 (by kernel_rfl) k (by kernel_rfl) hp32 (by kernel_rfl) (by omega) (by omega) (k * 6) (by omega) _) ?_
  obtain ⟨x33, hx34⟩ : ∃ x, X[k]? = some x := ⟨_, List.getElem?_eq_getElem (by omega)⟩
  refine go [.r 4 7 b31 (k * 6 + 4) [iV x33.h.1, uV x33.h.2] ⟨gv_cell (j := 2) h30 rfl (gv_sl _ _ _) hp32 (fl_get eE_ok (j := 4) (v := iV x33.h.1) hx34 rfl) (k * 6 + 4) (by omega), gv_cell (j := 2) h30 rfl (gv_sl _ _ _) hp32 (fl_get eE_ok (j := 5) (v := uV x33.h.2) hx34 rfl) (k * 6 + 5) (by omega), trivial⟩, rd 4 8 4 0 2 h30, .s 4 9] ?_
  by_cases c35 : x33.h.1 = u0
  ·
   by_cases c36 : x33.h.2 = u1
   ·
    refine lw (.bool true) (fun _ => qz5e38_eql_t (x := (Operand.tmp 22)) (y := (Operand.tmp 23)) x33.h.1 x33.h.2 u0 u1 (by kernel_rfl) (by kernel_rfl) (by kernel_rfl) ⟨(by omega), (by omega)⟩ _) <| go [] <| up <| go [] ?_
    have h37 : sat g w29 [Zr b n A X Q, Cl r10 [iV u0, uV u1] 38, R] := zr_close (by first | omega | (simp only [List.length_append, List.length_take, List.length_drop, List.length_cons, List.length_nil]; omega)) (by first | rfl | (simp only [List.length_append, List.length_take, List.length_drop, List.length_cons, List.length_nil]; omega) | simp only [List.length_append, List.length_take, List.length_drop, List.length_cons, List.length_nil]) (by first | rfl | (simp only [List.length_append, List.length_take, List.length_drop, List.length_cons, List.length_nil]; omega) | simp only [List.length_append, List.length_take, List.length_drop, List.length_cons, List.length_nil]) h30
    exact en (.bool true) [] ⟨_, _, rfl, ⟨by rw [show hasX X (u0, u1) = true from any_hit hx34 (decide_eq_true (hd_eq (by omega)))], rfl⟩, (tk2 (sf1 (sf2 h37)))⟩
   refine lw (.bool false) (fun _ => qz5e38_eql_f (x := (Operand.tmp 22)) (y := (Operand.tmp 23)) x33.h.1 x33.h.2 u0 u1 (by kernel_rfl) (by kernel_rfl) (by kernel_rfl) (by omega) _) <| go [.v 3 1 (oIr ((k : Int) + 1))] ?_
   refine enL ?_
   change ∃ n', n' < _ ∧ _
   refine ⟨(X.length - (k + 1)), by omega, (k + 1), _, rfl, (by omega), (any_step hb_ hx34 (decide_eq_false fun he_ => by have h1_ := congrArg Prod.fst he_; have h2_ := congrArg Prod.snd he_; simp only at h1_ h2_; omega)), (lvF [.k 0 (pV b), .k 3 (pV r10), .o 5 (oJ .i64 ((k : Int) + 1) ((((k + 1) : Nat) : Int)))]), h30⟩
  refine lw (.bool false) (fun _ => qz5e38_eql_f (x := (Operand.tmp 22)) (y := (Operand.tmp 23)) x33.h.1 x33.h.2 u0 u1 (by kernel_rfl) (by kernel_rfl) (by kernel_rfl) (by omega) _) <| go [.v 3 1 (oIr ((k : Int) + 1))] ?_
  refine enL ?_
  change ∃ n', n' < _ ∧ _
  refine ⟨(X.length - (k + 1)), by omega, (k + 1), _, rfl, (by omega), (any_step hb_ hx34 (decide_eq_false fun he_ => by have h1_ := congrArg Prod.fst he_; have h2_ := congrArg Prod.snd he_; simp only at h1_ h2_; omega)), (lvF [.k 0 (pV b), .k 3 (pV r10), .o 5 (oJ .i64 ((k : Int) + 1) ((((k + 1) : Nat) : Int)))]), h30⟩
 refine go [.v 2 6 (oF ((k : Int) < ((X.length : Nat) : Int)))] <| up <| go [] ?_
 have h39 : sat g w26 [Zr b n A X Q, Cl r10 [iV u0, uV u1] 38, R] := zr_close (by first | omega | (simp only [List.length_append, List.length_take, List.length_drop, List.length_cons, List.length_nil]; omega)) (by first | rfl | (simp only [List.length_append, List.length_take, List.length_drop, List.length_cons, List.length_nil]; omega) | simp only [List.length_append, List.length_take, List.length_drop, List.length_cons, List.length_nil]) (by first | rfl | (simp only [List.length_append, List.length_take, List.length_drop, List.length_cons, List.length_nil]; omega) | simp only [List.length_append, List.length_take, List.length_drop, List.length_cons, List.length_nil]) h27
 exact en (.bool false) [] ⟨_, _, rfl, ⟨by rw [show hasX X (u0, u1) = false from any_end hb_ (by omega)], rfl⟩, (tk2 (sf1 (sf2 h39)))⟩

set_option maxHeartbeats 4000000 in
theorem zfind_nil (d0 d1 d2 : Int) : HT Tryz.prog 44 [Value.pointer none, Value.agg #[Value.int IntKind.i64 d0, Value.int IntKind.i64 d1, Value.int IntKind.u32 d2]] [] (fun v K => v = Value.tuple #[Value.int IntKind.i64 0, Value.int IntKind.i64 1] ∧ K = []) := by
 refine hiS Tryz.func44 Tryz.ntmps44 fun g w0 R h0 => go [] <| nP 25 [iV d0, iV d1, uV d2] h0 (fun r10 w11 h12 => ?_)
 refine go [] <| cl0 Tryz.call37 (rvalid_nil) h12 fun w13 h14 => go [] ?_
 exact en (.tuple #[iV 0, iV 1]) [] ⟨_, _, rfl, ⟨rfl, rfl⟩, (tk1 (sf1 h14))⟩

set_option maxHeartbeats 4000000 in
theorem zfind_bad (b n : Nat) (A : List Sl2) (X : List Ety) (Q : List Rs) (d0 d1 d2 : Int) (hz : 0 ≤ d2) (h : ¬ (1 ≤ d0 ∧ d0 ≤ 3 ∧ 0 ≤ d1 ∧ d1 ≤ 255 ∧ 1 ≤ d2)) : HT Tryz.prog 44 [Value.pointer (some ⟨b, 0, none⟩), Value.agg #[Value.int IntKind.i64 d0, Value.int IntKind.i64 d1, Value.int IntKind.u32 d2]] [Zr b n A X Q] (fun v K => v = Value.tuple #[Value.int IntKind.i64 0, Value.int IntKind.i64 2] ∧ K = [Zr b n A X Q]) := by
 refine hiS Tryz.func44 Tryz.ntmps44 fun g w0 R h0 => go [] <| nP 25 [iV d0, iV d1, uV d2] h0 (fun r10 w11 h12 => ?_)
 obtain ⟨s14, p15, c16, p17, c18, hq19, h20⟩ := zr_open (tk3 (sf2 (sf1 (sf2 h12))))
 have hb21 := hq19.1
 have hb22 := hq19.2
 refine go [] <| cl1 Tryz.call37 (rvalid_cl b s14 p15 X.length c16 p17 Q.length c18) h20 fun w23 h24 => go [rd 3 0 4 0 3 h24] <| cl0 Tryz.call77 (zdsc_no d0 d1 d2 (by omega) (by omega)) h24 fun w25 h26 => go [] ?_
 have h27 : sat g w25 [Zr b n A X Q, Cl r10 [iV d0, iV d1, uV d2] 25, R] := zr_close (by first | omega | (simp only [List.length_append, List.length_take, List.length_drop, List.length_cons, List.length_nil]; omega)) (by first | rfl | (simp only [List.length_append, List.length_take, List.length_drop, List.length_cons, List.length_nil]; omega) | simp only [List.length_append, List.length_take, List.length_drop, List.length_cons, List.length_nil]) (by first | rfl | (simp only [List.length_append, List.length_take, List.length_drop, List.length_cons, List.length_nil]; omega) | simp only [List.length_append, List.length_take, List.length_drop, List.length_cons, List.length_nil]) h26
 exact en (.tuple #[iV 0, iV 2]) [] ⟨_, _, rfl, ⟨rfl, rfl⟩, (tk2 (sf1 (sf2 h27)))⟩

set_option maxHeartbeats 4000000 in
theorem zfind_ht (b n : Nat) (A : List Sl2) (X : List Ety) (Q : List Rs) (d0 d1 d2 : Int) (h : 1 ≤ d0 ∧ d0 ≤ 3 ∧ 0 ≤ d1 ∧ d1 ≤ 255 ∧ 1 ≤ d2) : HT Tryz.prog 44 [Value.pointer (some ⟨b, 0, none⟩), Value.agg #[Value.int IntKind.i64 d0, Value.int IntKind.i64 d1, Value.int IntKind.u32 d2]] [Zr b n A X Q] (fun v K => (∃ (i : Nat) (e : Ety), X[i]? = some e ∧ e.d = (d0, d1, d2) ∧ v = Value.tuple #[Value.int IntKind.i64 (((i : Nat) : Int)), Value.int IntKind.i64 0] ∧ K = [Zr b n A X Q]) ∨ ((X.any fun e => decide (e.d = (d0, d1, d2))) = false ∧ v = Value.tuple #[Value.int IntKind.i64 0, Value.int IntKind.i64 7] ∧ K = [Zr b n A X Q])) := by
 refine hiS Tryz.func44 Tryz.ntmps44 fun g w0 R h0 => go [] <| nP 25 [iV d0, iV d1, uV d2] h0 (fun r10 w11 h12 => ?_)
 obtain ⟨s14, p15, c16, p17, c18, hq19, h20⟩ := zr_open (tk3 (sf2 (sf1 (sf2 h12))))
 have hb21 := hq19.1
 have hb22 := hq19.2
 refine go [] <| cl1 Tryz.call37 (rvalid_cl b s14 p15 X.length c16 p17 Q.length c18) h20 fun w23 h24 => go [rd 3 0 4 0 3 h24] <| cl0 Tryz.call77 (zdsc_ok d0 d1 d2 (by omega) (by omega)) h24 fun w25 h26 => go [] ?_
 refine lpS (fun mz_ a w => ∃ k : Nat, ∃ lr : Fr, mz_ = X.length - k ∧ (k ≤ X.length) ∧ ((X.take k).any (fun e => decide (e.d = (d0, d1, d2))) = false) ∧ a = mk 33 (([(0, pV b), (3, pV r10), (6, iV (k : Int))] : Fr) ++ lr) ∧ sat g w [Cl b [pV s14, .slice p15 X.length c16, .slice p17 Q.length c18] 78, Zs s14 n A, Sl 93 6 p15 X.length c16 (fl eE X), Sl 54 8 p17 Q.length c18 (fl eRs Q), Cl r10 [iV d0, iV d1, uV d2] 25, R]) (X.length - 0) ⟨0, _, rfl, (by omega), rfl, (lvF [.k 0 (pV b), .k 3 (pV r10), .o 6 (oJ .i64 0 (0 : Int))]), h26⟩ ?_
 rintro m28 a29 w30 ⟨k, lr27, rfl, hk_, hb_, rfl, h31⟩
 refine ga <| go [rd 6 4 0 1 1 h31, .s 6 6] ?_
 by_cases c32 : (k : Int) < ((X.length : Nat) : Int)
 ·
  refine go [.v 6 6 (oT ((k : Int) < ((X.length : Nat) : Int)))] <| dw (fls [0, 1, 2, 3, 4, 5, 6, 7, 8, 9] Tr.nil) h31 fun w33 h34 => ?_
  obtain ⟨b35, hp36⟩ := sl_ptr0 (j := 2) h34 rfl (by omega)
  refine go [rd 8 3 0 1 1 h34, .s 8 5] <| lw (.pointer (some ⟨b35, k * 6, none⟩)) (fun _ => law_indexSlP (x := (Operand.tmp 25)) (i := (Operand.tmp 26)) (p := p15) (b := b35) (off := 0) (z := (k : Int)) (len := X.length) (cap := c16) (by kernel_rfl) Tryz.underlying75 6 (by kernel_rfl) k (by kernel_rfl) hp36 (by kernel_rfl) (by omega) (by omega) (k * 6) (by omega) _) ?_
  obtain ⟨x37, hx38⟩ : ∃ x, X[k]? = some x := ⟨_, List.getElem?_eq_getElem (by omega)⟩
  refine go [.r 8 7 b35 (k * 6) [iV x37.d.1, iV x37.d.2.1, uV x37.d.2.2] ⟨gv_cell (j := 2) h34 rfl (gv_sl _ _ _) hp36 (fl_get eE_ok (j := 0) (v := iV x37.d.1) hx38 rfl) (k * 6) (by omega), gv_cell (j := 2) h34 rfl (gv_sl _ _ _) hp36 (fl_get eE_ok (j := 1) (v := iV x37.d.2.1) hx38 rfl) (k * 6 + 1) (by omega), gv_cell (j := 2) h34 rfl (gv_sl _ _ _) hp36 (fl_get eE_ok (j := 2) (v := uV x37.d.2.2) hx38 rfl) (k * 6 + 2) (by omega), trivial⟩, rd 8 8 4 0 3 h34, .s 8 9] ?_
  by_cases c39 : x37.d.1 = d0
  ·
   by_cases c40 : x37.d.2.1 = d1
   ·
    by_cases c41 : x37.d.2.2 = d2
    ·
     refine lw (.bool true) (fun _ => qz5e25_eql_t (x := (Operand.tmp 29)) (y := (Operand.tmp 30)) x37.d.1 x37.d.2.1 x37.d.2.2 d0 d1 d2 (by kernel_rfl) (by kernel_rfl) (by kernel_rfl) ⟨(by omega), (by omega), (by omega)⟩ _) <| go [] <| up <| go [] ?_
     have h42 : sat g w33 [Zr b n A X Q, Cl r10 [iV d0, iV d1, uV d2] 25, R] := zr_close (by first | omega | (simp only [List.length_append, List.length_take, List.length_drop, List.length_cons, List.length_nil]; omega)) (by first | rfl | (simp only [List.length_append, List.length_take, List.length_drop, List.length_cons, List.length_nil]; omega) | simp only [List.length_append, List.length_take, List.length_drop, List.length_cons, List.length_nil]) (by first | rfl | (simp only [List.length_append, List.length_take, List.length_drop, List.length_cons, List.length_nil]; omega) | simp only [List.length_append, List.length_take, List.length_drop, List.length_cons, List.length_nil]) h34
     exact en (.tuple #[iV (k : Int), iV 0]) [] ⟨_, _, rfl, .inl ⟨k, x37, hx38, ky_eq (by omega), rfl, rfl⟩, (tk2 (sf1 (sf2 h42)))⟩
    refine lw (.bool false) (fun _ => qz5e25_eql_f (x := (Operand.tmp 29)) (y := (Operand.tmp 30)) x37.d.1 x37.d.2.1 x37.d.2.2 d0 d1 d2 (by kernel_rfl) (by kernel_rfl) (by kernel_rfl) (by omega) _) <| go [.v 7 1 (oIr ((k : Int) + 1))] ?_
    refine enL ?_
    change ∃ n', n' < _ ∧ _
    refine ⟨(X.length - (k + 1)), by omega, (k + 1), _, rfl, (by omega), (any_step hb_ hx38 (decide_eq_false fun he_ => by have h_ := ky_of he_; omega)), (lvF [.k 0 (pV b), .k 3 (pV r10), .o 6 (oJ .i64 ((k : Int) + 1) ((((k + 1) : Nat) : Int)))]), h34⟩
   refine lw (.bool false) (fun _ => qz5e25_eql_f (x := (Operand.tmp 29)) (y := (Operand.tmp 30)) x37.d.1 x37.d.2.1 x37.d.2.2 d0 d1 d2 (by kernel_rfl) (by kernel_rfl) (by kernel_rfl) (by omega) _) <| go [.v 7 1 (oIr ((k : Int) + 1))] ?_
   refine enL ?_
   change ∃ n', n' < _ ∧ _
   refine ⟨(X.length - (k + 1)), by omega, (k + 1), _, rfl, (by omega), (any_step hb_ hx38 (decide_eq_false fun he_ => by have h_ := ky_of he_; omega)), (lvF [.k 0 (pV b), .k 3 (pV r10), .o 6 (oJ .i64 ((k : Int) + 1) ((((k + 1) : Nat) : Int)))]), h34⟩
  refine lw (.bool false) (fun _ => qz5e25_eql_f (x := (Operand.tmp 29)) (y := (Operand.tmp 30)) x37.d.1 x37.d.2.1 x37.d.2.2 d0 d1 d2 (by kernel_rfl) (by kernel_rfl) (by kernel_rfl) (by omega) _) <| go [.v 7 1 (oIr ((k : Int) + 1))] ?_
  refine enL ?_
  change ∃ n', n' < _ ∧ _
  refine ⟨(X.length - (k + 1)), by omega, (k + 1), _, rfl, (by omega), (any_step hb_ hx38 (decide_eq_false fun he_ => by have h_ := ky_of he_; omega)), (lvF [.k 0 (pV b), .k 3 (pV r10), .o 6 (oJ .i64 ((k : Int) + 1) ((((k + 1) : Nat) : Int)))]), h34⟩
 refine go [.v 6 6 (oF ((k : Int) < ((X.length : Nat) : Int)))] <| up <| go [] ?_
 have h44 : sat g w30 [Zr b n A X Q, Cl r10 [iV d0, iV d1, uV d2] 25, R] := zr_close (by first | omega | (simp only [List.length_append, List.length_take, List.length_drop, List.length_cons, List.length_nil]; omega)) (by first | rfl | (simp only [List.length_append, List.length_take, List.length_drop, List.length_cons, List.length_nil]; omega) | simp only [List.length_append, List.length_take, List.length_drop, List.length_cons, List.length_nil]) (by first | rfl | (simp only [List.length_append, List.length_take, List.length_drop, List.length_cons, List.length_nil]; omega) | simp only [List.length_append, List.length_take, List.length_drop, List.length_cons, List.length_nil]) h31
 exact en (.tuple #[iV 0, iV 7]) [] ⟨_, _, rfl, .inr ⟨any_end hb_ (by omega), rfl, rfl⟩, (tk2 (sf1 (sf2 h44)))⟩

end Go.Proofs.YtjjpmehiolejgaaGreat
