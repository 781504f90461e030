/- Walks, printed by my generator gen20.py. -/
import Derived.Test.YtjjpmehiolejgaaBundle24
import Derived.Test.YtjjpmehiolejgaaWfm
import Derived.Test.YtjjpmehiolejgaaBundle23
namespace Go.Proofs.Ytjjpmehiolejgaa
/-- A table, with all that is true of it. -/
def TW (b n : Nat) (S : Ts) : Assn := Wi (Wf n S) (Tab b n S.A S.E S.R)
theorem opn_bad {S : Ts} {o : Ky} {L : List UInt8} {h : Int × Int} {e : Int} (h0 : opnE S o L h = e) (he : e ≠ 0) : opnS S o L h = S ∧ opnD S o L h = (0, 0, 0) := by
  unfold opnS opnD
  rw [if_neg (by omega), if_neg (by omega)]
  exact ⟨rfl, rfl⟩
theorem dup_bad {S : Ts} {d : Ky} {h : Int × Int} {e : Int} (h0 : dupE S d h = e) (he : e ≠ 0) : dupS S d h = S ∧ dupD S d h = (0, 0, 0) := by
  unfold dupS dupD
  rw [if_neg (by omega), if_neg (by omega)]
  exact ⟨rfl, rfl⟩
theorem has_not {E : Tm} {h : Int × Int} (hh : ¬ hasH E h) : ∀ e ∈ allE E, e.h ≠ h := fun e h1 h2 => hh ⟨e, h1, h2⟩
theorem haso_not {R : List Rs} {o : Ky} (hh : ¬ hasO R o) : ∀ r ∈ R, r.out ≠ o := fun e h1 h2 => hh ⟨e, h1, h2⟩
theorem obj_not {hx hy : Int} (h : ¬ objH (hx, hy)) : hx < 0 ∨ 255 < hx ∨ hy ≤ 0 := by
  unfold objH at h
  simp only at h
  omega
theorem ky3 {p : Ky} {x y z : Int} (h : p = (x, y, z)) : p.1 = x ∧ p.2.1 = y ∧ p.2.2 = z := by subst h; exact ⟨rfl, rfl, rfl⟩
theorem ky3n {p : Ky} {x y z : Int} (h : p ≠ (x, y, z)) : ¬ (p.1 = x ∧ p.2.1 = y ∧ p.2.2 = z) := fun h2 => h (Prod.ext h2.1 (Prod.ext h2.2.1 h2.2.2))
theorem free_len {A : List Sl2} {j : Nat} {g : Int} (h : freeS A = some (j, g)) : 1 ≤ (inS 0 A 0).length := by
  have := (List.getElem?_eq_some_iff.1 h).1
  omega
theorem topen_w (b n : Nat) (S : Ts) (x y z hx hy : Int) (L : List UInt8) (hz0 : 0 ≤ z) (hz1 : z ≤ 4294967295) (hm : L.length ≤ 1099511627776) : HT Try.prog 12 [Value.pointer (some ⟨b, 0, none⟩), Value.agg #[Value.int IntKind.i64 x, Value.int IntKind.i64 y, Value.int IntKind.u32 z], Value.string (St L), Value.agg #[Value.int IntKind.i64 hx, Value.int IntKind.u32 hy]] [TW b n S] (fun v K => v = Value.tuple #[Value.agg #[Value.int IntKind.i64 ((opnD S (x, y, z) L (hx, hy)).1), Value.int IntKind.i64 ((opnD S (x, y, z) L (hx, hy)).2.1), Value.int IntKind.u32 ((opnD S (x, y, z) L (hx, hy)).2.2)], Value.int IntKind.i64 ((opnE S (x, y, z) L (hx, hy)))] ∧ K = [TW b n (opnS S (x, y, z) L (hx, hy))]) := by
  refine ht_wi (fun W => ?_) (fun W => wf_opn W hz1 _ _)
  have bad : ∀ e : Int, opnE S (x, y, z) L (hx, hy) = e → e ≠ 0 → HT Try.prog 12 [Value.pointer (some ⟨b, 0, none⟩), Value.agg #[Value.int IntKind.i64 x, Value.int IntKind.i64 y, Value.int IntKind.u32 z], Value.string (St L), Value.agg #[Value.int IntKind.i64 hx, Value.int IntKind.u32 hy]] [Tab b n S.A S.E S.R] (fun v K => v = Value.tuple #[Value.agg #[Value.int .i64 0, Value.int .i64 0, Value.int .u32 0], Value.int .i64 e] ∧ K = [Tab b n S.A S.E S.R]) → HT Try.prog 12 [Value.pointer (some ⟨b, 0, none⟩), Value.agg #[Value.int IntKind.i64 x, Value.int IntKind.i64 y, Value.int IntKind.u32 z], Value.string (St L), Value.agg #[Value.int IntKind.i64 hx, Value.int IntKind.u32 hy]] [Tab b n S.A S.E S.R] (fun v K => v = Value.tuple #[Value.agg #[Value.int IntKind.i64 ((opnD S (x, y, z) L (hx, hy)).1), Value.int IntKind.i64 ((opnD S (x, y, z) L (hx, hy)).2.1), Value.int IntKind.u32 ((opnD S (x, y, z) L (hx, hy)).2.2)], Value.int IntKind.i64 ((opnE S (x, y, z) L (hx, hy)))] ∧ K = [Tab b n (opnS S (x, y, z) L (hx, hy)).A (opnS S (x, y, z) L (hx, hy)).E (opnS S (x, y, z) L (hx, hy)).R]) := fun e h1 h2 h3 => by
    rw [(opn_bad h1 h2).1, (opn_bad h1 h2).2, h1]
    exact h3
  rcases newE_cases (x, y, z) L with ⟨h1, h2⟩ | ⟨h1, h2⟩
  · exact bad 2 (by unfold opnE; rw [if_pos (by omega), h2]) (by omega) (topen_out b n S.A S.E S.R x y z hx hy L hz0 hz1 hm h1)
  · rcases tagE_or L with h3 | h3
    · rw [h3] at h2
      by_cases h4 : objH (hx, hy)
      · have hob : 0 ≤ hx ∧ hx ≤ 255 ∧ 1 ≤ hy := h4
        by_cases h5 : hasO S.R (x, y, z)
        · exact bad 6 (by unfold opnE; rw [if_neg (by omega), if_neg (not_not_intro h4), if_pos (.inl h5)]) (by omega) (topen_out2 b n S.A S.E S.R x y z hx hy L hz0 hz1 hm h1 h3 hob h5)
        · by_cases h6 : hasH S.E (hx, hy)
          · exact bad 6 (by unfold opnE; rw [if_neg (by omega), if_neg (not_not_intro h4), if_pos (.inr h6)]) (by omega) (topen_have b n S.A S.E S.R x y z hx hy L hz0 hz1 hm h1 h3 hob (haso_not h5) h6)
          · have h56 : ¬ (hasO S.R (x, y, z) ∨ hasH S.E (hx, hy)) := fun h => h.elim h5 h6
            by_cases h7 : S.R.length = 2000 ∨ (inS 0 S.A 0).length = 0
            · exact bad 4 (by unfold opnE; rw [if_neg (by omega), if_neg (not_not_intro h4), if_neg h56, if_pos (h7.imp (fun h => by omega) (fun h => freeS_none.2 h))]) (by omega) (topen_full b n S.A S.E S.R x y z hx hy L hz0 hz1 hm h1 h3 hob (haso_not h5) (has_not h6) h7)
            · have hl := W.rl
              cases h8 : freeS S.A with
              | none => exact absurd (.inr (freeS_none.1 h8)) h7
              | some p =>
                obtain ⟨j, g⟩ := p
                have h0 : opnE S (x, y, z) L (hx, hy) = 0 := by unfold opnE; rw [if_neg (by omega), if_neg (not_not_intro h4), if_neg h56, if_neg (fun h => h.elim (fun h => h7 (.inl (by omega))) (fun h => by rw [h8] at h; cases h))]
                have hS : opnS S (x, y, z) L (hx, hy) = ⟨S.A.set j (1, g), gset S.E (j : Int) ⟨(x, (j : Int), g), (S.R.length : Int) + 1, (hx, hy)⟩, S.R ++ [⟨(x, y, z), 1, 0, 0, 0, L⟩]⟩ := by
                  unfold opnS addS
                  rw [if_pos h0]
                  simp only [h8]
                have hD : opnD S (x, y, z) L (hx, hy) = (x, (j : Int), g) := by
                  unfold opnD addD
                  rw [if_pos h0]
                  simp only [h8]
                rw [hS, hD, h0]
                exact topen_ok b n S.A S.E S.R x y z hx hy L hz0 hz1 hm h1 h3 hob (haso_not h5) (has_not h6) (by omega) j g h8 (free_len h8)
      · exact bad 2 (by unfold opnE; rw [if_neg (by omega), if_pos h4]) (by omega) (topen_arg b n S.A S.E S.R x y z hx hy L hz0 hz1 hm h1 h3 (obj_not h4))
    · rw [h3] at h2
      exact bad 16 (by unfold opnE; rw [if_pos (by omega), h2]) (by omega) (topen_tag b n S.A S.E S.R x y z hx hy L hz0 hz1 hm h1 (by omega))
theorem tdup_w (b n : Nat) (S : Ts) (x y z hx hy : Int) (hz0 : 0 ≤ z) (hz1 : z ≤ 4294967295) : HT Try.prog 14 [Value.pointer (some ⟨b, 0, none⟩), Value.agg #[Value.int IntKind.i64 x, Value.int IntKind.i64 y, Value.int IntKind.u32 z], Value.agg #[Value.int IntKind.i64 hx, Value.int IntKind.u32 hy]] [TW b n S] (fun v K => v = Value.tuple #[Value.agg #[Value.int IntKind.i64 ((dupD S (x, y, z) (hx, hy)).1), Value.int IntKind.i64 ((dupD S (x, y, z) (hx, hy)).2.1), Value.int IntKind.u32 ((dupD S (x, y, z) (hx, hy)).2.2)], Value.int IntKind.i64 ((dupE S (x, y, z) (hx, hy)))] ∧ K = [TW b n (dupS S (x, y, z) (hx, hy))]) := by
  refine ht_wi (fun W => ?_) (fun W => wf_dup W _ _)
  have bad : ∀ e : Int, dupE S (x, y, z) (hx, hy) = e → e ≠ 0 → HT Try.prog 14 [Value.pointer (some ⟨b, 0, none⟩), Value.agg #[Value.int IntKind.i64 x, Value.int IntKind.i64 y, Value.int IntKind.u32 z], Value.agg #[Value.int IntKind.i64 hx, Value.int IntKind.u32 hy]] [Tab b n S.A S.E S.R] (fun v K => v = Value.tuple #[Value.agg #[Value.int .i64 0, Value.int .i64 0, Value.int .u32 0], Value.int .i64 e] ∧ K = [Tab b n S.A S.E S.R]) → HT Try.prog 14 [Value.pointer (some ⟨b, 0, none⟩), Value.agg #[Value.int IntKind.i64 x, Value.int IntKind.i64 y, Value.int IntKind.u32 z], Value.agg #[Value.int IntKind.i64 hx, Value.int IntKind.u32 hy]] [Tab b n S.A S.E S.R] (fun v K => v = Value.tuple #[Value.agg #[Value.int IntKind.i64 ((dupD S (x, y, z) (hx, hy)).1), Value.int IntKind.i64 ((dupD S (x, y, z) (hx, hy)).2.1), Value.int IntKind.u32 ((dupD S (x, y, z) (hx, hy)).2.2)], Value.int IntKind.i64 ((dupE S (x, y, z) (hx, hy)))] ∧ K = [Tab b n (dupS S (x, y, z) (hx, hy)).A (dupS S (x, y, z) (hx, hy)).E (dupS S (x, y, z) (hx, hy)).R]) := fun e h1 h2 h3 => by
    rw [(dup_bad h1 h2).1, (dup_bad h1 h2).2, h1]
    exact h3
  by_cases h4 : objH (hx, hy)
  · have hob : 0 ≤ hx ∧ hx ≤ 255 ∧ 1 ≤ hy := h4
    rcases fnd_cases S (x, y, z) with ⟨hg, h1, _⟩ | ⟨hg, hn, h1, _⟩ | ⟨hg, e, he, hd, h1, h2⟩
    · exact bad 2 (by unfold dupE; rw [if_neg (not_not_intro h4), if_pos (by omega), h1]) (by omega) (tdup_bad b n S.A S.E S.R x y z hx hy hob hz0 hz1 hg)
    · refine bad 7 (by unfold dupE; rw [if_neg (not_not_intro h4), if_pos (by omega), h1]) (by omega) ?_
      cases he : gget S.E y with
      | none => exact tdup_none b n S.A S.E S.R x y z hx hy hob hz0 hz1 hg he
      | some e => exact tdup_diff b n S.A S.E S.R x y z hx hy hob e hz0 hz1 hg he (ky3n (hn e he))
    · by_cases h6 : hasH S.E (hx, hy)
      · exact bad 6 (by unfold dupE; rw [if_neg (not_not_intro h4), if_neg (by omega), if_pos h6]) (by omega) (tdup_have b n S.A S.E S.R x y z hx hy hob e hz0 hz1 hg he (ky3 hd) h6)
      · obtain ⟨_, _, ⟨q, r, h7, h8, h9, _⟩, _⟩ := W.ent _ e he
        cases h10 : freeS S.A with
        | none => exact bad 4 (by unfold dupE; rw [if_neg (not_not_intro h4), if_neg (by omega), if_neg h6, if_pos h10]) (by omega) (tdup_full b n S.A S.E S.R x y z hx hy hob e hz0 hz1 hg he (ky3 hd) (has_not h6) q r h7 h8 (freeS_none.1 h10))
        | some p =>
          obtain ⟨j, g⟩ := p
          have h0 : dupE S (x, y, z) (hx, hy) = 0 := by unfold dupE; rw [if_neg (not_not_intro h4), if_neg (by omega), if_neg h6, if_neg (by rw [h10]; exact fun h => by cases h)]
          have hk : r.out.1 = x := h9.trans (congrArg Prod.fst hd)
          have hS : dupS S (x, y, z) (hx, hy) = ⟨S.A.set j (1, g), gset S.E (j : Int) ⟨(r.out.1, (j : Int), g), e.num, (hx, hy)⟩, S.R⟩ := by
            unfold dupS addS
            rw [if_pos h0, h2, hk]
            simp only [h10]
          have hD : dupD S (x, y, z) (hx, hy) = (r.out.1, (j : Int), g) := by
            unfold dupD addD
            rw [if_pos h0, hk]
            simp only [h10]
          rw [hS, hD, h0]
          exact tdup_ok b n S.A S.E S.R x y z hx hy hob e hz0 hz1 hg he (ky3 hd) (has_not h6) q r h7 h8 j g h10 (free_len h10)
  · exact bad 2 (by unfold dupE; rw [if_pos h4]) (by omega) (tdup_arg b n S.A S.E S.R x y z hx hy (obj_not h4))
theorem cls_bad {S : Ts} {d : Ky} {e : Int} (h0 : fndE S d = e) (he : e ≠ 0) : clsS S d = S ∧ clsL S d = false := by
  unfold clsS clsL
  rw [if_neg (by omega), decide_eq_false (fun h => by omega)]
  exact ⟨rfl, rfl⟩
theorem cls_ok {S : Ts} {d : Ky} (h0 : fndE S d = 0) : clsS S d = dropS S d ∧ clsL S d = decide ((descs (dropS S d).E (fndX S d).num).length = 0) := by
  unfold clsS clsL
  rw [if_pos h0]
  exact ⟨rfl, by rw [decide_eq_decide]; exact ⟨fun h => h.2, fun h => ⟨h0, h⟩⟩⟩
theorem tclose_w (b n : Nat) (S : Ts) (x y z : Int) (hz0 : 0 ≤ z) (hz1 : z ≤ 4294967295) : HT Try.prog 15 [Value.pointer (some ⟨b, 0, none⟩), Value.agg #[Value.int IntKind.i64 x, Value.int IntKind.i64 y, Value.int IntKind.u32 z]] [TW b n S] (fun v K => v = Value.tuple #[Value.int IntKind.i64 ((fndX S (x, y, z)).num), Value.bool (clsL S (x, y, z)), Value.int IntKind.i64 ((fndE S (x, y, z)))] ∧ K = [TW b n (clsS S (x, y, z))]) := by
  refine ht_wi (fun W => ?_) (fun W => wf_cls W _)
  rcases fnd_cases S (x, y, z) with ⟨hg, h1, h2⟩ | ⟨hg, hn, h1, h2⟩ | ⟨hg, e, he, hd, h1, h2⟩
  · rw [(cls_bad h1 (by omega)).1, (cls_bad h1 (by omega)).2, h1, h2]
    exact tclose_bad b n S.A S.E S.R x y z hz0 hz1 hg
  · rw [(cls_bad h1 (by omega)).1, (cls_bad h1 (by omega)).2, h1, h2]
    cases he : gget S.E y with
    | none => exact tclose_none b n S.A S.E S.R x y z hz0 hz1 hg he
    | some e => exact tclose_diff b n S.A S.E S.R x y z e hz0 hz1 hg he (ky3n (hn e he))
  · obtain ⟨q, h3, _, h4⟩ := wf_slot W he
    have h3' : y = (q : Int) := h3
    have hq : y.toNat = q := by omega
    obtain ⟨_, _, ⟨q2, r, h7, h8, _⟩, _⟩ := W.ent _ e he
    have hl := (List.getElem?_eq_some_iff.1 h7).1
    rw [hd] at h4
    rw [(cls_ok h1).1, (cls_ok h1).2, h1, h2]
    unfold dropS
    simp only [hq]
    exact tclose_ok b n S.A S.E S.R x y z e hz0 hz1 hg he (ky3 hd) q (1, z) h4 ⟨h3', rfl, rfl⟩ ⟨by omega, by omega⟩
theorem tnum_w (b n : Nat) (S : Ts) (x y z : Int) (hz0 : 0 ≤ z) (hz1 : z ≤ 4294967295) : HT Try.prog 25 [Value.pointer (some ⟨b, 0, none⟩), Value.agg #[Value.int IntKind.i64 x, Value.int IntKind.i64 y, Value.int IntKind.u32 z]] [TW b n S] (fun v K => v = Value.tuple #[Value.int IntKind.i64 ((fndX S (x, y, z)).num), Value.int IntKind.i64 ((fndE S (x, y, z)))] ∧ K = [TW b n S]) := by
  refine ht_wi (fun W => ?_) (fun W => W)
  rcases fnd_cases S (x, y, z) with ⟨hg, h1, h2⟩ | ⟨hg, hn, h1, h2⟩ | ⟨hg, e, he, hd, h1, h2⟩
  · rw [h1, h2]
    exact tnum_bad b n S.A S.E S.R x y z hz0 hz1 hg
  · rw [h1, h2]
    cases he : gget S.E y with
    | none => exact tnum_none b n S.A S.E S.R x y z hz0 hz1 hg he
    | some e => exact tnum_diff b n S.A S.E S.R x y z e hz0 hz1 hg he (ky3n (hn e he))
  · rw [h1, h2]
    exact tnum_ok b n S.A S.E S.R x y z e hz0 hz1 hg he (ky3 hd)
theorem thnd_w (b n : Nat) (S : Ts) (x y z : Int) (hz0 : 0 ≤ z) (hz1 : z ≤ 4294967295) : HT Try.prog 26 [Value.pointer (some ⟨b, 0, none⟩), Value.agg #[Value.int IntKind.i64 x, Value.int IntKind.i64 y, Value.int IntKind.u32 z]] [TW b n S] (fun v K => v = Value.tuple #[Value.agg #[Value.int IntKind.i64 ((fndX S (x, y, z)).h.1), Value.int IntKind.u32 ((fndX S (x, y, z)).h.2)], Value.int IntKind.i64 ((fndE S (x, y, z)))] ∧ K = [TW b n S]) := by
  refine ht_wi (fun W => ?_) (fun W => W)
  rcases fnd_cases S (x, y, z) with ⟨hg, h1, h2⟩ | ⟨hg, hn, h1, h2⟩ | ⟨hg, e, he, hd, h1, h2⟩
  · rw [h1, h2]
    exact thnd_bad b n S.A S.E S.R x y z hz0 hz1 hg
  · rw [h1, h2]
    cases he : gget S.E y with
    | none => exact thnd_none b n S.A S.E S.R x y z hz0 hz1 hg he
    | some e => exact thnd_diff b n S.A S.E S.R x y z e hz0 hz1 hg he (ky3n (hn e he))
  · rw [h1, h2]
    exact thnd_ok b n S.A S.E S.R x y z e hz0 hz1 hg he (ky3 hd)
theorem tat_w (b n : Nat) (S : Ts) (vn : Int) : HT Try.prog 34 [Value.pointer (some ⟨b, 0, none⟩), Value.int IntKind.i64 vn] [TW b n S] (fun v K => v = Value.tuple #[Value.agg #[Value.int IntKind.i64 (((atX S vn).d).1), Value.int IntKind.i64 (((atX S vn).d).2.1), Value.int IntKind.u32 (((atX S vn).d).2.2)], Value.bool ((gget S.E vn).isSome)] ∧ K = [TW b n S]) := by
  refine ht_wi (fun W => ?_) (fun W => W)
  unfold atX
  cases he : gget S.E vn with
  | none => exact tat_none b n S.A S.E S.R vn he
  | some e => exact tat_ok b n S.A S.E S.R vn e he
theorem tget_w (b n : Nat) (S : Ts) (vn : Int) : HT Try.prog 20 [Value.pointer (some ⟨b, 0, none⟩), Value.int IntKind.i64 vn] [TW b n S] (fun v K => v = Value.tuple #[Value.agg #[Value.int IntKind.i64 ((getR S vn).out.1), Value.int IntKind.i64 ((getR S vn).out.2.1), Value.int IntKind.u32 ((getR S vn).out.2.2), Value.int IntKind.i64 ((getR S vn).st), Value.int IntKind.i64 ((getR S vn).why), Value.int IntKind.i64 ((getR S vn).tr), Value.int IntKind.i64 ((getR S vn).nx), Value.string (St ((getR S vn).tag))], Value.int IntKind.i64 ((nE S vn))] ∧ K = [TW b n S]) := by
  refine ht_wi (fun W => ?_) (fun W => W)
  unfold nE
  by_cases h : 1 ≤ vn ∧ vn ≤ (S.R.length : Int)
  · rw [if_pos h]
    exact tget_ok b n S.A S.E S.R vn (vn - 1).toNat (getR S vn) (getR_at h) (by omega)
  · rw [if_neg h, getR_no h]
    exact tget_no b n S.A S.E S.R vn (by omega)
theorem tlen_w (b n : Nat) (S : Ts) : HT Try.prog 22 [Value.pointer (some ⟨b, 0, none⟩)] [TW b n S] (fun v K => v = Value.int IntKind.i64 (((S.R.length : Nat) : Int)) ∧ K = [TW b n S]) := by
  exact ht_wi (fun W => tlen_ht b n S.A S.E S.R) (fun W => W)
theorem troom_w (b n : Nat) (S : Ts) : HT Try.prog 29 [Value.pointer (some ⟨b, 0, none⟩)] [TW b n S] (fun v K => v = Value.int IntKind.i64 ((((inS 0 S.A 0).length : Nat) : Int)) ∧ K = [TW b n S]) := by
  exact ht_wi (fun W => troom_ht b n S.A S.E S.R) (fun W => W)
theorem tdescs_w (b n : Nat) (S : Ts) (vn : Int) : HT Try.prog 21 [Value.pointer (some ⟨b, 0, none⟩), Value.int IntKind.i64 vn] [TW b n S] (fun v K => ∃ (p : Option Addr) (c : Nat), v = Value.tuple #[Value.slice p (((descs S.E vn).length)) c, Value.int IntKind.i64 ((nE S vn))] ∧ K = [TW b n S, Sl 28 3 p (((descs S.E vn).length)) c (fl eO (descs S.E vn))]) := by
  refine HT.wi fun W => ?_
  unfold nE
  by_cases h : 1 ≤ vn ∧ vn ≤ (S.R.length : Int)
  · rw [if_pos h]
    exact (tdescs_ok b n S.A S.E S.R vn h).post fun v K hP => by
      obtain ⟨p, c, h1, h2⟩ := hP
      exact ⟨_, ⟨p, c, h1, rfl⟩, fun g w F hs => by rw [h2] at hs; exact wi_in W hs⟩
  · rw [if_neg h, descs_nil W h]
    exact (tdescs_no b n S.A S.E S.R vn (by omega)).post fun v K hP => ⟨_, ⟨none, 0, hP.1, rfl⟩, fun g w F hs => by
      rw [hP.2] at hs
      exact wi_in W (sat_sw (sl_nil 28 3 hs))⟩
theorem tdrop_w (b n : Nat) (S : Ts) (x y z : Int) (hz0 : 0 ≤ z) (hz1 : z ≤ 4294967295) (e : Ety) (he : gget S.E y = some e) (hd : e.d = (x, y, z)) : HT Try.prog 45 [Value.pointer (some ⟨b, 0, none⟩), Value.agg #[Value.int IntKind.i64 x, Value.int IntKind.i64 y, Value.int IntKind.u32 z]] [TW b n S] (fun v K => v = Value.tuple #[] ∧ K = [TW b n (dropS S (x, y, z))]) := by
  refine ht_wi (fun W => ?_) (fun W => wf_drop W he hd)
  obtain ⟨q, h3, _, h4⟩ := wf_slot W he
  have hq : y.toNat = q := by omega
  rw [hd] at h4
  unfold dropS
  simp only [hq]
  exact tdrop_ht b n S.A S.E S.R x y z hz0 hz1 q (1, z) h4 ⟨h3, rfl, rfl⟩
theorem tnew_w (n : Nat) (gn : Int) (hn : 1 ≤ n ∧ n ≤ 256) (hg : 1 ≤ gn ∧ gn ≤ 4294967295) : HT Try.prog 11 [Value.int IntKind.i64 (((n : Nat) : Int)), Value.int IntKind.u32 gn] [] (fun v K => ∃ b : Nat, v = Value.tuple #[Value.pointer (some ⟨b, 0, none⟩), Value.int .i64 0] ∧ K = [TW b n ⟨List.replicate n (0, gn), [], []⟩]) :=
  (tnew_ok n gn hn hg).post fun v K hP => by
    obtain ⟨b, h1, h2⟩ := hP
    exact ⟨_, ⟨b, h1, rfl⟩, fun g w F hs => by rw [h2] at hs; exact wi_in (wf_new hn hg) hs⟩

end Go.Proofs.Ytjjpmehiolejgaa

/- Walks, printed by my generator gen21.py. -/
namespace Go.Proofs.Ytjjpmehiolejgaa
theorem seq32_neq_t {n : Nat} {l : Fr} {o : Oper} {x y : Operand} (a0 : Int) (a1 : Int) (a2 : Int) (c0 : Int) (c1 : Int) (c2 : Int) (ho : o.op = .binOp .neq 32 x y 32) (hx : fe n l x = .agg #[.int .i64 a0, .int .i64 a1, .int .u32 a2]) (hy : fe n l y = .agg #[.int .i64 c0, .int .i64 c1, .int .u32 c2]) (h : a0 = c0 ∧ a1 = c1 ∧ a2 = c2) (w : World) : (execOp (fe n l) o).run Try.prog w = .ok (.value (.bool false)) w := by
  obtain ⟨rfl, rfl, rfl⟩ := h
  simp [execOp, ho, hx, hy, go_sem]
theorem seq32_neq_f {n : Nat} {l : Fr} {o : Oper} {x y : Operand} (a0 : Int) (a1 : Int) (a2 : Int) (c0 : Int) (c1 : Int) (c2 : Int) (ho : o.op = .binOp .neq 32 x y 32) (hx : fe n l x = .agg #[.int .i64 a0, .int .i64 a1, .int .u32 a2]) (hy : fe n l y = .agg #[.int .i64 c0, .int .i64 c1, .int .u32 c2]) (h : ¬ (a0 = c0 ∧ a1 = c1 ∧ a2 = c2)) (w : World) : (execOp (fe n l) o).run Try.prog w = .ok (.value (.bool true)) w := by
  by_cases h0 : a0 = c0
  · skip
    by_cases h1 : a1 = c1
    · skip
      by_cases h2 : a2 = c2
      · exact absurd ⟨h0, h1, h2⟩ h
      · simp [execOp, ho, hx, hy, go_sem, h0, h1, h2]
    · simp [execOp, ho, hx, hy, go_sem, h0, h1]
  · simp [execOp, ho, hx, hy, go_sem, h0]
set_option maxHeartbeats 4000000 in
theorem tset_out (b n : Nat) (A : List Sl2) (E : Tm) (RL : List Rs) (vn x y z st why tr nx : Int) (L : List UInt8) (hz0 : 0 ≤ z) (hz1 : z ≤ 4294967295) (hm : L.length ≤ 1099511627776) (q : Nat) (r : Rs) (hr : RL[q]? = some r) (hv : vn = (q : Int) + 1) (he : resE x y z st why tr nx L = 0) (ho : ¬ (x = r.out.1 ∧ y = r.out.2.1 ∧ z = r.out.2.2)) : HT Try.prog 17 [Value.pointer (some ⟨b, 0, none⟩), Value.int IntKind.i64 vn, Value.agg #[Value.int IntKind.i64 x, Value.int IntKind.i64 y, Value.int IntKind.u32 z, Value.int IntKind.i64 st, Value.int IntKind.i64 why, Value.int IntKind.i64 tr, Value.int IntKind.i64 nx, Value.string (St L)]] [Tab b n A E RL] (fun v K => v = Value.int IntKind.i64 2 ∧ K = [Tab b n A E RL]) := by
 have hq_ := (List.getElem?_eq_some_iff.1 hr).1
 refine hi_in 62 ([(0, pV b), (1, iV vn), (2, .agg #[iV x, iV y, uV z, iV st, iV why, iV tr, iV nx, .string (St L)])] : Fr) Try.func17 (by kernel_rfl) Try.ntmps17 rfl rfl ?_
 intro g w0 R h0
 refine ySq ?_
 refine yPl [0, 1] ?_
 refine yA ?_
 refine yNp 5 42 [iV x, iV y, uV z, iV st, iV why, iV tr, iV nx, .string (St L)] h0 fun r1 w2 h3 => ?_
 refine yB0 [] [1] [(6, iV 0)] (.mk ?_)
 refine yK [(0, pV b), (1, iV vn), (5, pV r1)] fun lr4 => ?_
 refine ySq ?_
 refine yPl [0, 1, 2, 3, 4, 5, 6, 7, 8] ?_
 refine yB0 [2, 3, 4, 5, 6, 7, 8] [0, 1] [(13, iV vn), (12, pV b)] ?_
 have h5 := tk3 (sf2 (sf1 (sf2 h3)))
 refine yA ?_
 refine yCl 14 Try.call20 (tget_ok b n A E RL vn q r hr (by omega)) h5 ?_
 rintro v K w6 (⟨rfl, rfl⟩) h7
 refine ⟨_, rfl, ?_⟩
 have h8 := ap1 h7
 refine yB0 [6, 7, 8] [3, 4, 5] [(16, iV 0), (15, .agg #[iV r.out.1, iV r.out.2.1, uV r.out.2.2, iV r.st, iV r.why, iV r.tr, iV r.nx, .string (St r.tag)]), (11, .tuple #[.agg #[iV r.out.1, iV r.out.2.1, uV r.out.2.2, iV r.st, iV r.why, iV r.tr, iV r.nx, .string (St r.tag)], iV 0])] ?_
 refine yA ?_
 refine yNp 7 42 [iV 0, iV 0, uV 0, iV 0, iV 0, iV 0, iV 0, .string (St [])] h8 fun r9 w10 h11 => ?_
 refine yA ?_
 refine yS [(0, iV r.out.1), (1, iV r.out.2.1), (2, uV r.out.2.2), (3, iV r.st), (4, iV r.why), (5, iV r.tr), (6, iV r.nx), (7, .string (St r.tag))] [iV r.out.1, iV r.out.2.1, uV r.out.2.2, iV r.st, iV r.why, iV r.tr, iV r.nx, .string (St r.tag)] h11 fun w12 h13 => ?_
 refine yB0 [] [8] [(8, iV 0)] (.mk ?_)
 refine yK [(0, pV b), (1, iV vn), (5, pV r1), (7, pV r9), (8, iV 0)] fun lr14 => ?_
 refine ySq ?_
 refine ySq ?_
 refine yPl [0, 1] ?_
 refine yB0 [] [0, 1] [(18, .bool false), (17, iV 0)] (.mk ?_)
 refine yK [(0, pV b), (1, iV vn), (5, pV r1), (7, pV r9), (8, iV 0), (18, .bool false)] fun lr15 => ?_
 refine yCf ?_
 refine ySk ?_
 refine ySq ?_
 refine ySq ?_
 refine yPl [0, 1, 2] ?_
 refine yBb [1, 2] [(20, .agg #[iV x, iV y, uV z, iV st, iV why, iV tr, iV nx, .string (St L)])] [e2 0 [iV x, iV y, uV z, iV st, iV why, iV tr, iV nx, .string (St L)]] [(0, ⟨r1, 0, none⟩, iV x), (0, ⟨r1, 1, none⟩, iV y), (0, ⟨r1, 2, none⟩, uV z), (0, ⟨r1, 3, none⟩, iV st), (0, ⟨r1, 4, none⟩, iV why), (0, ⟨r1, 5, none⟩, iV tr), (0, ⟨r1, 6, none⟩, iV nx), (0, ⟨r1, 7, none⟩, .string (St L))] [] trivial (kC (sat_cell h13 2 rfl rfl) (kC (sat_cell h13 2 rfl rfl) (kC (sat_cell h13 2 rfl rfl) (kC (sat_cell h13 2 rfl rfl) (kC (sat_cell h13 2 rfl rfl) (kC (sat_cell h13 2 rfl rfl) (kC (sat_cell h13 2 rfl rfl) (kC (sat_cell h13 2 rfl rfl) nC)))))))) ?_
 refine yA ?_
 refine yCl 21 Try.call23 (rchk_ht x y z st why tr nx L (by omega) (by omega) (by omega)) h13 ?_
 rintro v K w16 (⟨rfl, rfl⟩) h17
 refine ⟨_, rfl, ?_⟩
 have h18 := ap0 h17
 refine yB0 [] [2] [(9, iV ((resE x y z st why tr nx L)))] (.mk ?_)
 refine yK [(0, pV b), (1, iV vn), (5, pV r1), (7, pV r9), (9, iV ((resE x y z st why tr nx L)))] fun lr19 => ?_
 refine ySq ?_
 refine yPl [0, 1] ?_
 refine yBb [] [(23, .bool false), (22, iV ((resE x y z st why tr nx L)))] [e0 0, e1 1 (.bool false)] [] [(.bool (((resE x y z st why tr nx L)) != 0), .bool false)] ⟨(ov_nf (by omega)), trivial⟩ nC (.mk ?_)
 refine yK [(0, pV b), (1, iV vn), (5, pV r1), (7, pV r9), (9, iV ((resE x y z st why tr nx L))), (23, .bool false)] fun lr20 => ?_
 refine yCf ?_
 refine ySk ?_
 refine ySq ?_
 refine yPl [0, 1, 2, 3, 4, 5, 6, 7] ?_
 refine yB0 [2, 3, 4, 5, 6, 7] [0, 1] [(27, iV vn), (26, pV b)] ?_
 have h23 := tk4 (sf3 (sf2 (sf3 (sf3 h18))))
 refine yA ?_
 refine yCl 28 Try.call21 (tdescs_ok b n A E RL vn (by omega)) h23 ?_
 rintro v K w24 (⟨p21, c22, rfl, rfl⟩) h25
 refine ⟨_, rfl, ?_⟩
 have h26 := ap2 h25
 refine yB0 [] [3, 4, 5, 6, 7] [(8, iV 0), (10, .slice p21 (((descs E vn).length)) c22), (30, iV 0), (29, .slice p21 (((descs E vn).length)) c22), (25, .tuple #[.slice p21 (((descs E vn).length)) c22, iV 0])] (.mk ?_)
 refine yK [(0, pV b), (1, iV vn), (5, pV r1), (7, pV r9), (8, iV 0), (10, .slice p21 (((descs E vn).length)) c22)] fun lr27 => ?_
 refine ySq ?_
 refine yBk 0 ?_
 refine ySq ?_
 refine yPl [0, 1, 2, 3, 4, 5, 6, 7, 8, 9, 10, 11, 12] ?_
 refine yBb [4, 5, 6, 7, 8, 9, 10, 11, 12] [(35, .agg #[iV r.out.1, iV r.out.2.1, uV r.out.2.2]), (34, pV r9), (33, .agg #[iV x, iV y, uV z]), (32, pV r1)] [e0 0, e2 1 [iV x, iV y, uV z], e0 2, e2 3 [iV r.out.1, iV r.out.2.1, uV r.out.2.2]] [(3, ⟨r9, 0, none⟩, iV r.out.1), (3, ⟨r9, 1, none⟩, iV r.out.2.1), (3, ⟨r9, 2, none⟩, uV r.out.2.2), (1, ⟨r1, 0, none⟩, iV x), (1, ⟨r1, 1, none⟩, iV y), (1, ⟨r1, 2, none⟩, uV z)] [] trivial (kC (sat_cell h26 2 rfl rfl) (kC (sat_cell h26 2 rfl rfl) (kC (sat_cell h26 2 rfl rfl) (kC (sat_cell h26 3 rfl rfl) (kC (sat_cell h26 3 rfl rfl) (kC (sat_cell h26 3 rfl rfl) nC)))))) ?_
 by_cases c28 : x = r.out.1
 ·
  by_cases c29 : y = r.out.2.1
  ·
   refine plain_law (i := 4) 36 (.bool true) (by kernel_rfl) (seq32_neq_f (o := opA (RA Try.f17 [1, 1, 1, 1, 1, 0, 0, 0]) 4) (x := (Operand.tmp 33)) (y := (Operand.tmp 35)) x y z r.out.1 r.out.2.1 r.out.2.2 (by kernel_rfl) (by kernel_rfl) (by kernel_rfl) (by omega) _) ?_
   refine yB0 [] [5, 6, 7, 8, 9, 10, 11, 12] [(31, .bool true), (43, .bool true), (42, undef), (41, undef), (40, undef), (39, undef), (38, undef), (37, .bool true)] (.mk ?_)
   refine yK [(0, pV b), (1, iV vn), (5, pV r1), (8, iV 0), (10, .slice p21 (((descs E vn).length)) c22), (31, .bool true)] fun lr30 => ?_
   refine yCt ?_
   refine ySq ?_
   refine yPl [0] ?_
   refine yB0 [] [0] [(6, iV 2)] (.mk ?_)
   refine yK [(6, iV 2)] fun lr31 => ?_
   refine yRt ?_
   repeat (first | simp only [Exit.inBlock] | simp only [Exit.then])
   have h32 := tk2 (sf1 (sf4 h26))
   refine hi_out [] (iV 2) [] (by kernel_rfl) (by intro q hq; cases hq) ?_
   exact ⟨iV 2, [Tab b n A E RL], rfl, ⟨rfl, rfl⟩, h32⟩
  ·
   refine plain_law (i := 4) 36 (.bool true) (by kernel_rfl) (seq32_neq_f (o := opA (RA Try.f17 [1, 1, 1, 1, 1, 0, 0, 0]) 4) (x := (Operand.tmp 33)) (y := (Operand.tmp 35)) x y z r.out.1 r.out.2.1 r.out.2.2 (by kernel_rfl) (by kernel_rfl) (by kernel_rfl) (by omega) _) ?_
   refine yB0 [] [5, 6, 7, 8, 9, 10, 11, 12] [(31, .bool true), (43, .bool true), (42, undef), (41, undef), (40, undef), (39, undef), (38, undef), (37, .bool true)] (.mk ?_)
   refine yK [(0, pV b), (1, iV vn), (5, pV r1), (8, iV 0), (10, .slice p21 (((descs E vn).length)) c22), (31, .bool true)] fun lr33 => ?_
   refine yCt ?_
   refine ySq ?_
   refine yPl [0] ?_
   refine yB0 [] [0] [(6, iV 2)] (.mk ?_)
   refine yK [(6, iV 2)] fun lr34 => ?_
   refine yRt ?_
   repeat (first | simp only [Exit.inBlock] | simp only [Exit.then])
   have h35 := tk2 (sf1 (sf4 h26))
   refine hi_out [] (iV 2) [] (by kernel_rfl) (by intro q hq; cases hq) ?_
   exact ⟨iV 2, [Tab b n A E RL], rfl, ⟨rfl, rfl⟩, h35⟩
 ·
  refine plain_law (i := 4) 36 (.bool true) (by kernel_rfl) (seq32_neq_f (o := opA (RA Try.f17 [1, 1, 1, 1, 1, 0, 0, 0]) 4) (x := (Operand.tmp 33)) (y := (Operand.tmp 35)) x y z r.out.1 r.out.2.1 r.out.2.2 (by kernel_rfl) (by kernel_rfl) (by kernel_rfl) (by omega) _) ?_
  refine yB0 [] [5, 6, 7, 8, 9, 10, 11, 12] [(31, .bool true), (43, .bool true), (42, undef), (41, undef), (40, undef), (39, undef), (38, undef), (37, .bool true)] (.mk ?_)
  refine yK [(0, pV b), (1, iV vn), (5, pV r1), (8, iV 0), (10, .slice p21 (((descs E vn).length)) c22), (31, .bool true)] fun lr36 => ?_
  refine yCt ?_
  refine ySq ?_
  refine yPl [0] ?_
  refine yB0 [] [0] [(6, iV 2)] (.mk ?_)
  refine yK [(6, iV 2)] fun lr37 => ?_
  refine yRt ?_
  repeat (first | simp only [Exit.inBlock] | simp only [Exit.then])
  have h38 := tk2 (sf1 (sf4 h26))
  refine hi_out [] (iV 2) [] (by kernel_rfl) (by intro q hq; cases hq) ?_
  exact ⟨iV 2, [Tab b n A E RL], rfl, ⟨rfl, rfl⟩, h38⟩

set_option maxHeartbeats 4000000 in
theorem tset_tag (b n : Nat) (A : List Sl2) (E : Tm) (RL : List Rs) (vn x y z st why tr nx : Int) (L : List UInt8) (hz0 : 0 ≤ z) (hz1 : z ≤ 4294967295) (hm : L.length ≤ 1099511627776) (q : Nat) (r : Rs) (hr : RL[q]? = some r) (hv : vn = (q : Int) + 1) (he : resE x y z st why tr nx L = 0) (ho : x = r.out.1 ∧ y = r.out.2.1 ∧ z = r.out.2.2) (ht : ¬ L = r.tag) : HT Try.prog 17 [Value.pointer (some ⟨b, 0, none⟩), Value.int IntKind.i64 vn, Value.agg #[Value.int IntKind.i64 x, Value.int IntKind.i64 y, Value.int IntKind.u32 z, Value.int IntKind.i64 st, Value.int IntKind.i64 why, Value.int IntKind.i64 tr, Value.int IntKind.i64 nx, Value.string (St L)]] [Tab b n A E RL] (fun v K => v = Value.int IntKind.i64 2 ∧ K = [Tab b n A E RL]) := by
 have hq_ := (List.getElem?_eq_some_iff.1 hr).1
 refine hi_in 62 ([(0, pV b), (1, iV vn), (2, .agg #[iV x, iV y, uV z, iV st, iV why, iV tr, iV nx, .string (St L)])] : Fr) Try.func17 (by kernel_rfl) Try.ntmps17 rfl rfl ?_
 intro g w0 R h0
 refine ySq ?_
 refine yPl [0, 1] ?_
 refine yA ?_
 refine yNp 5 42 [iV x, iV y, uV z, iV st, iV why, iV tr, iV nx, .string (St L)] h0 fun r1 w2 h3 => ?_
 refine yB0 [] [1] [(6, iV 0)] (.mk ?_)
 refine yK [(0, pV b), (1, iV vn), (5, pV r1)] fun lr4 => ?_
 refine ySq ?_
 refine yPl [0, 1, 2, 3, 4, 5, 6, 7, 8] ?_
 refine yB0 [2, 3, 4, 5, 6, 7, 8] [0, 1] [(13, iV vn), (12, pV b)] ?_
 have h5 := tk3 (sf2 (sf1 (sf2 h3)))
 refine yA ?_
 refine yCl 14 Try.call20 (tget_ok b n A E RL vn q r hr (by omega)) h5 ?_
 rintro v K w6 (⟨rfl, rfl⟩) h7
 refine ⟨_, rfl, ?_⟩
 have h8 := ap1 h7
 refine yB0 [6, 7, 8] [3, 4, 5] [(16, iV 0), (15, .agg #[iV r.out.1, iV r.out.2.1, uV r.out.2.2, iV r.st, iV r.why, iV r.tr, iV r.nx, .string (St r.tag)]), (11, .tuple #[.agg #[iV r.out.1, iV r.out.2.1, uV r.out.2.2, iV r.st, iV r.why, iV r.tr, iV r.nx, .string (St r.tag)], iV 0])] ?_
 refine yA ?_
 refine yNp 7 42 [iV 0, iV 0, uV 0, iV 0, iV 0, iV 0, iV 0, .string (St [])] h8 fun r9 w10 h11 => ?_
 refine yA ?_
 refine yS [(0, iV r.out.1), (1, iV r.out.2.1), (2, uV r.out.2.2), (3, iV r.st), (4, iV r.why), (5, iV r.tr), (6, iV r.nx), (7, .string (St r.tag))] [iV r.out.1, iV r.out.2.1, uV r.out.2.2, iV r.st, iV r.why, iV r.tr, iV r.nx, .string (St r.tag)] h11 fun w12 h13 => ?_
 refine yB0 [] [8] [(8, iV 0)] (.mk ?_)
 refine yK [(0, pV b), (1, iV vn), (5, pV r1), (7, pV r9), (8, iV 0)] fun lr14 => ?_
 refine ySq ?_
 refine ySq ?_
 refine yPl [0, 1] ?_
 refine yB0 [] [0, 1] [(18, .bool false), (17, iV 0)] (.mk ?_)
 refine yK [(0, pV b), (1, iV vn), (5, pV r1), (7, pV r9), (8, iV 0), (18, .bool false)] fun lr15 => ?_
 refine yCf ?_
 refine ySk ?_
 refine ySq ?_
 refine ySq ?_
 refine yPl [0, 1, 2] ?_
 refine yBb [1, 2] [(20, .agg #[iV x, iV y, uV z, iV st, iV why, iV tr, iV nx, .string (St L)])] [e2 0 [iV x, iV y, uV z, iV st, iV why, iV tr, iV nx, .string (St L)]] [(0, ⟨r1, 0, none⟩, iV x), (0, ⟨r1, 1, none⟩, iV y), (0, ⟨r1, 2, none⟩, uV z), (0, ⟨r1, 3, none⟩, iV st), (0, ⟨r1, 4, none⟩, iV why), (0, ⟨r1, 5, none⟩, iV tr), (0, ⟨r1, 6, none⟩, iV nx), (0, ⟨r1, 7, none⟩, .string (St L))] [] trivial (kC (sat_cell h13 2 rfl rfl) (kC (sat_cell h13 2 rfl rfl) (kC (sat_cell h13 2 rfl rfl) (kC (sat_cell h13 2 rfl rfl) (kC (sat_cell h13 2 rfl rfl) (kC (sat_cell h13 2 rfl rfl) (kC (sat_cell h13 2 rfl rfl) (kC (sat_cell h13 2 rfl rfl) nC)))))))) ?_
 refine yA ?_
 refine yCl 21 Try.call23 (rchk_ht x y z st why tr nx L (by omega) (by omega) (by omega)) h13 ?_
 rintro v K w16 (⟨rfl, rfl⟩) h17
 refine ⟨_, rfl, ?_⟩
 have h18 := ap0 h17
 refine yB0 [] [2] [(9, iV ((resE x y z st why tr nx L)))] (.mk ?_)
 refine yK [(0, pV b), (1, iV vn), (5, pV r1), (7, pV r9), (9, iV ((resE x y z st why tr nx L)))] fun lr19 => ?_
 refine ySq ?_
 refine yPl [0, 1] ?_
 refine yBb [] [(23, .bool false), (22, iV ((resE x y z st why tr nx L)))] [e0 0, e1 1 (.bool false)] [] [(.bool (((resE x y z st why tr nx L)) != 0), .bool false)] ⟨(ov_nf (by omega)), trivial⟩ nC (.mk ?_)
 refine yK [(0, pV b), (1, iV vn), (5, pV r1), (7, pV r9), (9, iV ((resE x y z st why tr nx L))), (23, .bool false)] fun lr20 => ?_
 refine yCf ?_
 refine ySk ?_
 refine ySq ?_
 refine yPl [0, 1, 2, 3, 4, 5, 6, 7] ?_
 refine yB0 [2, 3, 4, 5, 6, 7] [0, 1] [(27, iV vn), (26, pV b)] ?_
 have h23 := tk4 (sf3 (sf2 (sf3 (sf3 h18))))
 refine yA ?_
 refine yCl 28 Try.call21 (tdescs_ok b n A E RL vn (by omega)) h23 ?_
 rintro v K w24 (⟨p21, c22, rfl, rfl⟩) h25
 refine ⟨_, rfl, ?_⟩
 have h26 := ap2 h25
 refine yB0 [] [3, 4, 5, 6, 7] [(8, iV 0), (10, .slice p21 (((descs E vn).length)) c22), (30, iV 0), (29, .slice p21 (((descs E vn).length)) c22), (25, .tuple #[.slice p21 (((descs E vn).length)) c22, iV 0])] (.mk ?_)
 refine yK [(0, pV b), (1, iV vn), (5, pV r1), (7, pV r9), (8, iV 0), (10, .slice p21 (((descs E vn).length)) c22)] fun lr27 => ?_
 refine ySq ?_
 refine yBk 0 ?_
 refine ySq ?_
 refine yPl [0, 1, 2, 3, 4, 5, 6, 7, 8, 9, 10, 11, 12] ?_
 refine yBb [4, 5, 6, 7, 8, 9, 10, 11, 12] [(35, .agg #[iV r.out.1, iV r.out.2.1, uV r.out.2.2]), (34, pV r9), (33, .agg #[iV x, iV y, uV z]), (32, pV r1)] [e0 0, e2 1 [iV x, iV y, uV z], e0 2, e2 3 [iV r.out.1, iV r.out.2.1, uV r.out.2.2]] [(3, ⟨r9, 0, none⟩, iV r.out.1), (3, ⟨r9, 1, none⟩, iV r.out.2.1), (3, ⟨r9, 2, none⟩, uV r.out.2.2), (1, ⟨r1, 0, none⟩, iV x), (1, ⟨r1, 1, none⟩, iV y), (1, ⟨r1, 2, none⟩, uV z)] [] trivial (kC (sat_cell h26 2 rfl rfl) (kC (sat_cell h26 2 rfl rfl) (kC (sat_cell h26 2 rfl rfl) (kC (sat_cell h26 3 rfl rfl) (kC (sat_cell h26 3 rfl rfl) (kC (sat_cell h26 3 rfl rfl) nC)))))) ?_
 refine plain_law (i := 4) 36 (.bool false) (by kernel_rfl) (seq32_neq_t (o := opA (RA Try.f17 [1, 1, 1, 1, 1, 0, 0, 0]) 4) (x := (Operand.tmp 33)) (y := (Operand.tmp 35)) x y z r.out.1 r.out.2.1 r.out.2.2 (by kernel_rfl) (by kernel_rfl) (by kernel_rfl) ⟨(by omega), (by omega), (by omega)⟩ _) ?_
 refine yBb [10, 11, 12] [(41, .string (St r.tag)), (40, .pointer (some ⟨r9, 7, none⟩)), (39, .string (St L)), (38, .pointer (some ⟨r1, 7, none⟩)), (37, .bool false)] [e0 5, e0 6, e2 7 [.string (St L)], e0 8, e2 9 [.string (St r.tag)]] [(9, ⟨r9, 7, none⟩, .string (St r.tag)), (7, ⟨r1, 7, none⟩, .string (St L))] [] trivial (kC (sat_cell h26 2 rfl rfl) (kC (sat_cell h26 3 rfl rfl) nC)) ?_
 refine plain_law (i := 10) 42 (.bool true) (by kernel_rfl) (law_neStr (t := 9) (o := opA (RA Try.f17 [1, 1, 1, 1, 1, 0, 0, 0]) 10) (x := (Operand.tmp 39)) (y := (Operand.tmp 41)) (a := L) (b := r.tag) (by kernel_rfl) (by kernel_rfl) (by kernel_rfl) true ((decide_eq_false ht).trans rfl) _) ?_
 refine yB0 [] [11, 12] [(31, .bool true), (43, .bool true)] (.mk ?_)
 refine yK [(0, pV b), (1, iV vn), (5, pV r1), (8, iV 0), (10, .slice p21 (((descs E vn).length)) c22), (31, .bool true)] fun lr28 => ?_
 refine yCt ?_
 refine ySq ?_
 refine yPl [0] ?_
 refine yB0 [] [0] [(6, iV 2)] (.mk ?_)
 refine yK [(6, iV 2)] fun lr29 => ?_
 refine yRt ?_
 repeat (first | simp only [Exit.inBlock] | simp only [Exit.then])
 have h30 := tk2 (sf1 (sf4 h26))
 refine hi_out [] (iV 2) [] (by kernel_rfl) (by intro q hq; cases hq) ?_
 exact ⟨iV 2, [Tab b n A E RL], rfl, ⟨rfl, rfl⟩, h30⟩

set_option maxHeartbeats 4000000 in
theorem tset_state (b n : Nat) (A : List Sl2) (E : Tm) (RL : List Rs) (vn x y z st why tr nx : Int) (L : List UInt8) (hz0 : 0 ≤ z) (hz1 : z ≤ 4294967295) (hm : L.length ≤ 1099511627776) (q : Nat) (r : Rs) (hr : RL[q]? = some r) (hv : vn = (q : Int) + 1) (he : resE x y z st why tr nx L = 0) (ho : x = r.out.1 ∧ y = r.out.2.1 ∧ z = r.out.2.2) (ht : L = r.tag) (hs : st ≠ 1) (hd : 0 < (descs E vn).length) : HT Try.prog 17 [Value.pointer (some ⟨b, 0, none⟩), Value.int IntKind.i64 vn, Value.agg #[Value.int IntKind.i64 x, Value.int IntKind.i64 y, Value.int IntKind.u32 z, Value.int IntKind.i64 st, Value.int IntKind.i64 why, Value.int IntKind.i64 tr, Value.int IntKind.i64 nx, Value.string (St L)]] [Tab b n A E RL] (fun v K => v = Value.int IntKind.i64 8 ∧ K = [Tab b n A E RL]) := by
 have hq_ := (List.getElem?_eq_some_iff.1 hr).1
 refine hi_in 62 ([(0, pV b), (1, iV vn), (2, .agg #[iV x, iV y, uV z, iV st, iV why, iV tr, iV nx, .string (St L)])] : Fr) Try.func17 (by kernel_rfl) Try.ntmps17 rfl rfl ?_
 intro g w0 R h0
 refine ySq ?_
 refine yPl [0, 1] ?_
 refine yA ?_
 refine yNp 5 42 [iV x, iV y, uV z, iV st, iV why, iV tr, iV nx, .string (St L)] h0 fun r1 w2 h3 => ?_
 refine yB0 [] [1] [(6, iV 0)] (.mk ?_)
 refine yK [(0, pV b), (1, iV vn), (5, pV r1)] fun lr4 => ?_
 refine ySq ?_
 refine yPl [0, 1, 2, 3, 4, 5, 6, 7, 8] ?_
 refine yB0 [2, 3, 4, 5, 6, 7, 8] [0, 1] [(13, iV vn), (12, pV b)] ?_
 have h5 := tk3 (sf2 (sf1 (sf2 h3)))
 refine yA ?_
 refine yCl 14 Try.call20 (tget_ok b n A E RL vn q r hr (by omega)) h5 ?_
 rintro v K w6 (⟨rfl, rfl⟩) h7
 refine ⟨_, rfl, ?_⟩
 have h8 := ap1 h7
 refine yB0 [6, 7, 8] [3, 4, 5] [(16, iV 0), (15, .agg #[iV r.out.1, iV r.out.2.1, uV r.out.2.2, iV r.st, iV r.why, iV r.tr, iV r.nx, .string (St r.tag)]), (11, .tuple #[.agg #[iV r.out.1, iV r.out.2.1, uV r.out.2.2, iV r.st, iV r.why, iV r.tr, iV r.nx, .string (St r.tag)], iV 0])] ?_
 refine yA ?_
 refine yNp 7 42 [iV 0, iV 0, uV 0, iV 0, iV 0, iV 0, iV 0, .string (St [])] h8 fun r9 w10 h11 => ?_
 refine yA ?_
 refine yS [(0, iV r.out.1), (1, iV r.out.2.1), (2, uV r.out.2.2), (3, iV r.st), (4, iV r.why), (5, iV r.tr), (6, iV r.nx), (7, .string (St r.tag))] [iV r.out.1, iV r.out.2.1, uV r.out.2.2, iV r.st, iV r.why, iV r.tr, iV r.nx, .string (St r.tag)] h11 fun w12 h13 => ?_
 refine yB0 [] [8] [(8, iV 0)] (.mk ?_)
 refine yK [(0, pV b), (1, iV vn), (5, pV r1), (7, pV r9), (8, iV 0)] fun lr14 => ?_
 refine ySq ?_
 refine ySq ?_
 refine yPl [0, 1] ?_
 refine yB0 [] [0, 1] [(18, .bool false), (17, iV 0)] (.mk ?_)
 refine yK [(0, pV b), (1, iV vn), (5, pV r1), (7, pV r9), (8, iV 0), (18, .bool false)] fun lr15 => ?_
 refine yCf ?_
 refine ySk ?_
 refine ySq ?_
 refine ySq ?_
 refine yPl [0, 1, 2] ?_
 refine yBb [1, 2] [(20, .agg #[iV x, iV y, uV z, iV st, iV why, iV tr, iV nx, .string (St L)])] [e2 0 [iV x, iV y, uV z, iV st, iV why, iV tr, iV nx, .string (St L)]] [(0, ⟨r1, 0, none⟩, iV x), (0, ⟨r1, 1, none⟩, iV y), (0, ⟨r1, 2, none⟩, uV z), (0, ⟨r1, 3, none⟩, iV st), (0, ⟨r1, 4, none⟩, iV why), (0, ⟨r1, 5, none⟩, iV tr), (0, ⟨r1, 6, none⟩, iV nx), (0, ⟨r1, 7, none⟩, .string (St L))] [] trivial (kC (sat_cell h13 2 rfl rfl) (kC (sat_cell h13 2 rfl rfl) (kC (sat_cell h13 2 rfl rfl) (kC (sat_cell h13 2 rfl rfl) (kC (sat_cell h13 2 rfl rfl) (kC (sat_cell h13 2 rfl rfl) (kC (sat_cell h13 2 rfl rfl) (kC (sat_cell h13 2 rfl rfl) nC)))))))) ?_
 refine yA ?_
 refine yCl 21 Try.call23 (rchk_ht x y z st why tr nx L (by omega) (by omega) (by omega)) h13 ?_
 rintro v K w16 (⟨rfl, rfl⟩) h17
 refine ⟨_, rfl, ?_⟩
 have h18 := ap0 h17
 refine yB0 [] [2] [(9, iV ((resE x y z st why tr nx L)))] (.mk ?_)
 refine yK [(0, pV b), (1, iV vn), (5, pV r1), (7, pV r9), (9, iV ((resE x y z st why tr nx L)))] fun lr19 => ?_
 refine ySq ?_
 refine yPl [0, 1] ?_
 refine yBb [] [(23, .bool false), (22, iV ((resE x y z st why tr nx L)))] [e0 0, e1 1 (.bool false)] [] [(.bool (((resE x y z st why tr nx L)) != 0), .bool false)] ⟨(ov_nf (by omega)), trivial⟩ nC (.mk ?_)
 refine yK [(0, pV b), (1, iV vn), (5, pV r1), (7, pV r9), (9, iV ((resE x y z st why tr nx L))), (23, .bool false)] fun lr20 => ?_
 refine yCf ?_
 refine ySk ?_
 refine ySq ?_
 refine yPl [0, 1, 2, 3, 4, 5, 6, 7] ?_
 refine yB0 [2, 3, 4, 5, 6, 7] [0, 1] [(27, iV vn), (26, pV b)] ?_
 have h23 := tk4 (sf3 (sf2 (sf3 (sf3 h18))))
 refine yA ?_
 refine yCl 28 Try.call21 (tdescs_ok b n A E RL vn (by omega)) h23 ?_
 rintro v K w24 (⟨p21, c22, rfl, rfl⟩) h25
 refine ⟨_, rfl, ?_⟩
 have h26 := ap2 h25
 refine yB0 [] [3, 4, 5, 6, 7] [(8, iV 0), (10, .slice p21 (((descs E vn).length)) c22), (30, iV 0), (29, .slice p21 (((descs E vn).length)) c22), (25, .tuple #[.slice p21 (((descs E vn).length)) c22, iV 0])] (.mk ?_)
 refine yK [(0, pV b), (1, iV vn), (5, pV r1), (7, pV r9), (8, iV 0), (10, .slice p21 (((descs E vn).length)) c22)] fun lr27 => ?_
 refine ySq ?_
 refine yBk 0 ?_
 refine ySq ?_
 refine yPl [0, 1, 2, 3, 4, 5, 6, 7, 8, 9, 10, 11, 12] ?_
 refine yBb [4, 5, 6, 7, 8, 9, 10, 11, 12] [(35, .agg #[iV r.out.1, iV r.out.2.1, uV r.out.2.2]), (34, pV r9), (33, .agg #[iV x, iV y, uV z]), (32, pV r1)] [e0 0, e2 1 [iV x, iV y, uV z], e0 2, e2 3 [iV r.out.1, iV r.out.2.1, uV r.out.2.2]] [(3, ⟨r9, 0, none⟩, iV r.out.1), (3, ⟨r9, 1, none⟩, iV r.out.2.1), (3, ⟨r9, 2, none⟩, uV r.out.2.2), (1, ⟨r1, 0, none⟩, iV x), (1, ⟨r1, 1, none⟩, iV y), (1, ⟨r1, 2, none⟩, uV z)] [] trivial (kC (sat_cell h26 2 rfl rfl) (kC (sat_cell h26 2 rfl rfl) (kC (sat_cell h26 2 rfl rfl) (kC (sat_cell h26 3 rfl rfl) (kC (sat_cell h26 3 rfl rfl) (kC (sat_cell h26 3 rfl rfl) nC)))))) ?_
 refine plain_law (i := 4) 36 (.bool false) (by kernel_rfl) (seq32_neq_t (o := opA (RA Try.f17 [1, 1, 1, 1, 1, 0, 0, 0]) 4) (x := (Operand.tmp 33)) (y := (Operand.tmp 35)) x y z r.out.1 r.out.2.1 r.out.2.2 (by kernel_rfl) (by kernel_rfl) (by kernel_rfl) ⟨(by omega), (by omega), (by omega)⟩ _) ?_
 refine yBb [10, 11, 12] [(41, .string (St r.tag)), (40, .pointer (some ⟨r9, 7, none⟩)), (39, .string (St L)), (38, .pointer (some ⟨r1, 7, none⟩)), (37, .bool false)] [e0 5, e0 6, e2 7 [.string (St L)], e0 8, e2 9 [.string (St r.tag)]] [(9, ⟨r9, 7, none⟩, .string (St r.tag)), (7, ⟨r1, 7, none⟩, .string (St L))] [] trivial (kC (sat_cell h26 2 rfl rfl) (kC (sat_cell h26 3 rfl rfl) nC)) ?_
 refine plain_law (i := 10) 42 (.bool false) (by kernel_rfl) (law_neStr (t := 9) (o := opA (RA Try.f17 [1, 1, 1, 1, 1, 0, 0, 0]) 10) (x := (Operand.tmp 39)) (y := (Operand.tmp 41)) (a := L) (b := r.tag) (by kernel_rfl) (by kernel_rfl) (by kernel_rfl) false (decide_eq_true ht) _) ?_
 refine yB0 [] [11, 12] [(31, .bool false), (43, .bool false)] (.mk ?_)
 refine yK [(0, pV b), (1, iV vn), (5, pV r1), (8, iV 0), (10, .slice p21 (((descs E vn).length)) c22), (31, .bool false)] fun lr28 => ?_
 refine yCf ?_
 refine ySq ?_
 refine yPl [0, 1, 2, 3, 4, 5, 6, 7, 8] ?_
 refine yBb [] [(44, .bool true), (52, .bool true), (51, .bool true), (50, iV ((((descs E vn).length : Nat) : Int))), (49, .slice p21 (((descs E vn).length)) c22), (48, .bool true), (47, .bool true), (46, iV st), (45, .pointer (some ⟨r1, 3, none⟩))] [e0 0, e2 1 [iV st], e1 2 (.bool true), e0 3, e0 4, e0 5, e1 6 (.bool true), e0 7, e0 8] [(1, ⟨r1, 3, none⟩, iV st)] [(.bool (st != 1), .bool true), (.bool (decide ((((descs E vn).length : Nat) : Int) > 0)), .bool true)] ⟨(ov_nt (by omega)), (ov_t (by omega)), trivial⟩ (kC (sat_cell h26 3 rfl rfl) nC) (.mk ?_)
 refine yK [(0, pV b), (1, iV vn), (5, pV r1), (8, iV 0), (44, .bool true)] fun lr29 => ?_
 refine yCt ?_
 refine ySq ?_
 refine yPl [0] ?_
 refine yB0 [] [0] [(6, iV 8)] (.mk ?_)
 refine yK [(6, iV 8)] fun lr30 => ?_
 refine yRt ?_
 repeat (first | simp only [Exit.inBlock] | simp only [Exit.then])
 have h31 := tk2 (sf1 (sf4 h26))
 refine hi_out [] (iV 8) [] (by kernel_rfl) (by intro q hq; cases hq) ?_
 exact ⟨iV 8, [Tab b n A E RL], rfl, ⟨rfl, rfl⟩, h31⟩

set_option maxHeartbeats 4000000 in
theorem tset_ok1 (b n : Nat) (A : List Sl2) (E : Tm) (RL : List Rs) (vn x y z st why tr nx : Int) (L : List UInt8) (hz0 : 0 ≤ z) (hz1 : z ≤ 4294967295) (hm : L.length ≤ 1099511627776) (q : Nat) (r : Rs) (hr : RL[q]? = some r) (hv : vn = (q : Int) + 1) (he : resE x y z st why tr nx L = 0) (ho : x = r.out.1 ∧ y = r.out.2.1 ∧ z = r.out.2.2) (ht : L = r.tag) (hs : st = 1) : HT Try.prog 17 [Value.pointer (some ⟨b, 0, none⟩), Value.int IntKind.i64 vn, Value.agg #[Value.int IntKind.i64 x, Value.int IntKind.i64 y, Value.int IntKind.u32 z, Value.int IntKind.i64 st, Value.int IntKind.i64 why, Value.int IntKind.i64 tr, Value.int IntKind.i64 nx, Value.string (St L)]] [Tab b n A E RL] (fun v K => v = Value.int IntKind.i64 0 ∧ K = [Tab b n A E (RL.set q ⟨(x, y, z), st, why, tr, nx, L⟩)]) := by
 have hq_ := (List.getElem?_eq_some_iff.1 hr).1
 refine hi_in 62 ([(0, pV b), (1, iV vn), (2, .agg #[iV x, iV y, uV z, iV st, iV why, iV tr, iV nx, .string (St L)])] : Fr) Try.func17 (by kernel_rfl) Try.ntmps17 rfl rfl ?_
 intro g w0 R h0
 refine ySq ?_
 refine yPl [0, 1] ?_
 refine yA ?_
 refine yNp 5 42 [iV x, iV y, uV z, iV st, iV why, iV tr, iV nx, .string (St L)] h0 fun r1 w2 h3 => ?_
 refine yB0 [] [1] [(6, iV 0)] (.mk ?_)
 refine yK [(0, pV b), (1, iV vn), (5, pV r1)] fun lr4 => ?_
 refine ySq ?_
 refine yPl [0, 1, 2, 3, 4, 5, 6, 7, 8] ?_
 refine yB0 [2, 3, 4, 5, 6, 7, 8] [0, 1] [(13, iV vn), (12, pV b)] ?_
 have h5 := tk3 (sf2 (sf1 (sf2 h3)))
 refine yA ?_
 refine yCl 14 Try.call20 (tget_ok b n A E RL vn q r hr (by omega)) h5 ?_
 rintro v K w6 (⟨rfl, rfl⟩) h7
 refine ⟨_, rfl, ?_⟩
 have h8 := ap1 h7
 refine yB0 [6, 7, 8] [3, 4, 5] [(16, iV 0), (15, .agg #[iV r.out.1, iV r.out.2.1, uV r.out.2.2, iV r.st, iV r.why, iV r.tr, iV r.nx, .string (St r.tag)]), (11, .tuple #[.agg #[iV r.out.1, iV r.out.2.1, uV r.out.2.2, iV r.st, iV r.why, iV r.tr, iV r.nx, .string (St r.tag)], iV 0])] ?_
 refine yA ?_
 refine yNp 7 42 [iV 0, iV 0, uV 0, iV 0, iV 0, iV 0, iV 0, .string (St [])] h8 fun r9 w10 h11 => ?_
 refine yA ?_
 refine yS [(0, iV r.out.1), (1, iV r.out.2.1), (2, uV r.out.2.2), (3, iV r.st), (4, iV r.why), (5, iV r.tr), (6, iV r.nx), (7, .string (St r.tag))] [iV r.out.1, iV r.out.2.1, uV r.out.2.2, iV r.st, iV r.why, iV r.tr, iV r.nx, .string (St r.tag)] h11 fun w12 h13 => ?_
 refine yB0 [] [8] [(8, iV 0)] (.mk ?_)
 refine yK [(0, pV b), (1, iV vn), (5, pV r1), (7, pV r9), (8, iV 0)] fun lr14 => ?_
 refine ySq ?_
 refine ySq ?_
 refine yPl [0, 1] ?_
 refine yB0 [] [0, 1] [(18, .bool false), (17, iV 0)] (.mk ?_)
 refine yK [(0, pV b), (1, iV vn), (5, pV r1), (7, pV r9), (8, iV 0), (18, .bool false)] fun lr15 => ?_
 refine yCf ?_
 refine ySk ?_
 refine ySq ?_
 refine ySq ?_
 refine yPl [0, 1, 2] ?_
 refine yBb [1, 2] [(20, .agg #[iV x, iV y, uV z, iV st, iV why, iV tr, iV nx, .string (St L)])] [e2 0 [iV x, iV y, uV z, iV st, iV why, iV tr, iV nx, .string (St L)]] [(0, ⟨r1, 0, none⟩, iV x), (0, ⟨r1, 1, none⟩, iV y), (0, ⟨r1, 2, none⟩, uV z), (0, ⟨r1, 3, none⟩, iV st), (0, ⟨r1, 4, none⟩, iV why), (0, ⟨r1, 5, none⟩, iV tr), (0, ⟨r1, 6, none⟩, iV nx), (0, ⟨r1, 7, none⟩, .string (St L))] [] trivial (kC (sat_cell h13 2 rfl rfl) (kC (sat_cell h13 2 rfl rfl) (kC (sat_cell h13 2 rfl rfl) (kC (sat_cell h13 2 rfl rfl) (kC (sat_cell h13 2 rfl rfl) (kC (sat_cell h13 2 rfl rfl) (kC (sat_cell h13 2 rfl rfl) (kC (sat_cell h13 2 rfl rfl) nC)))))))) ?_
 refine yA ?_
 refine yCl 21 Try.call23 (rchk_ht x y z st why tr nx L (by omega) (by omega) (by omega)) h13 ?_
 rintro v K w16 (⟨rfl, rfl⟩) h17
 refine ⟨_, rfl, ?_⟩
 have h18 := ap0 h17
 refine yB0 [] [2] [(9, iV ((resE x y z st why tr nx L)))] (.mk ?_)
 refine yK [(0, pV b), (1, iV vn), (5, pV r1), (7, pV r9), (9, iV ((resE x y z st why tr nx L)))] fun lr19 => ?_
 refine ySq ?_
 refine yPl [0, 1] ?_
 refine yBb [] [(23, .bool false), (22, iV ((resE x y z st why tr nx L)))] [e0 0, e1 1 (.bool false)] [] [(.bool (((resE x y z st why tr nx L)) != 0), .bool false)] ⟨(ov_nf (by omega)), trivial⟩ nC (.mk ?_)
 refine yK [(0, pV b), (1, iV vn), (5, pV r1), (7, pV r9), (9, iV ((resE x y z st why tr nx L))), (23, .bool false)] fun lr20 => ?_
 refine yCf ?_
 refine ySk ?_
 refine ySq ?_
 refine yPl [0, 1, 2, 3, 4, 5, 6, 7] ?_
 refine yB0 [2, 3, 4, 5, 6, 7] [0, 1] [(27, iV vn), (26, pV b)] ?_
 have h23 := tk4 (sf3 (sf2 (sf3 (sf3 h18))))
 refine yA ?_
 refine yCl 28 Try.call21 (tdescs_ok b n A E RL vn (by omega)) h23 ?_
 rintro v K w24 (⟨p21, c22, rfl, rfl⟩) h25
 refine ⟨_, rfl, ?_⟩
 have h26 := ap2 h25
 refine yB0 [] [3, 4, 5, 6, 7] [(8, iV 0), (10, .slice p21 (((descs E vn).length)) c22), (30, iV 0), (29, .slice p21 (((descs E vn).length)) c22), (25, .tuple #[.slice p21 (((descs E vn).length)) c22, iV 0])] (.mk ?_)
 refine yK [(0, pV b), (1, iV vn), (5, pV r1), (7, pV r9), (8, iV 0), (10, .slice p21 (((descs E vn).length)) c22)] fun lr27 => ?_
 refine ySq ?_
 refine yBk 0 ?_
 refine ySq ?_
 refine yPl [0, 1, 2, 3, 4, 5, 6, 7, 8, 9, 10, 11, 12] ?_
 refine yBb [4, 5, 6, 7, 8, 9, 10, 11, 12] [(35, .agg #[iV r.out.1, iV r.out.2.1, uV r.out.2.2]), (34, pV r9), (33, .agg #[iV x, iV y, uV z]), (32, pV r1)] [e0 0, e2 1 [iV x, iV y, uV z], e0 2, e2 3 [iV r.out.1, iV r.out.2.1, uV r.out.2.2]] [(3, ⟨r9, 0, none⟩, iV r.out.1), (3, ⟨r9, 1, none⟩, iV r.out.2.1), (3, ⟨r9, 2, none⟩, uV r.out.2.2), (1, ⟨r1, 0, none⟩, iV x), (1, ⟨r1, 1, none⟩, iV y), (1, ⟨r1, 2, none⟩, uV z)] [] trivial (kC (sat_cell h26 2 rfl rfl) (kC (sat_cell h26 2 rfl rfl) (kC (sat_cell h26 2 rfl rfl) (kC (sat_cell h26 3 rfl rfl) (kC (sat_cell h26 3 rfl rfl) (kC (sat_cell h26 3 rfl rfl) nC)))))) ?_
 refine plain_law (i := 4) 36 (.bool false) (by kernel_rfl) (seq32_neq_t (o := opA (RA Try.f17 [1, 1, 1, 1, 1, 0, 0, 0]) 4) (x := (Operand.tmp 33)) (y := (Operand.tmp 35)) x y z r.out.1 r.out.2.1 r.out.2.2 (by kernel_rfl) (by kernel_rfl) (by kernel_rfl) ⟨(by omega), (by omega), (by omega)⟩ _) ?_
 refine yBb [10, 11, 12] [(41, .string (St r.tag)), (40, .pointer (some ⟨r9, 7, none⟩)), (39, .string (St L)), (38, .pointer (some ⟨r1, 7, none⟩)), (37, .bool false)] [e0 5, e0 6, e2 7 [.string (St L)], e0 8, e2 9 [.string (St r.tag)]] [(9, ⟨r9, 7, none⟩, .string (St r.tag)), (7, ⟨r1, 7, none⟩, .string (St L))] [] trivial (kC (sat_cell h26 2 rfl rfl) (kC (sat_cell h26 3 rfl rfl) nC)) ?_
 refine plain_law (i := 10) 42 (.bool false) (by kernel_rfl) (law_neStr (t := 9) (o := opA (RA Try.f17 [1, 1, 1, 1, 1, 0, 0, 0]) 10) (x := (Operand.tmp 39)) (y := (Operand.tmp 41)) (a := L) (b := r.tag) (by kernel_rfl) (by kernel_rfl) (by kernel_rfl) false (decide_eq_true ht) _) ?_
 refine yB0 [] [11, 12] [(31, .bool false), (43, .bool false)] (.mk ?_)
 refine yK [(0, pV b), (1, iV vn), (5, pV r1), (8, iV 0), (10, .slice p21 (((descs E vn).length)) c22), (31, .bool false)] fun lr28 => ?_
 refine yCf ?_
 refine ySq ?_
 refine yPl [0, 1, 2, 3, 4, 5, 6, 7, 8] ?_
 refine yBb [] [(44, .bool false), (52, .bool false), (51, undef), (50, undef), (49, undef), (48, .bool false), (47, .bool false), (46, iV st), (45, .pointer (some ⟨r1, 3, none⟩))] [e0 0, e2 1 [iV st], e1 2 (.bool false), e0 3, e0 4, e0 5, e0 6, e0 7, e0 8] [(1, ⟨r1, 3, none⟩, iV st)] [(.bool (st != 1), .bool false)] ⟨(ov_nf (by omega)), trivial⟩ (kC (sat_cell h26 3 rfl rfl) nC) (.mk ?_)
 refine yK [(0, pV b), (1, iV vn), (5, pV r1), (8, iV 0), (44, .bool false)] fun lr29 => ?_
 refine yCf ?_
 refine ySk ?_
 refine ySq ?_
 refine gi_drw (id := 12) (ops := RA Try.f17 [1, 1, 1, 1, 1, 1, 0]) (Tr.fl 0 (Tr.fl 1 (Tr.fl 2 (Tr.fl 3 (Tr.fl 4 (Tr.fl 5 (Tr.fl 6 (Tr.fl 7 (Tr.an 8 Tr.nil))))))))) (by kernel_rfl) (by kernel_rfl) (by kernel_rfl) (by kernel_rfl) (by kernel_rfl) (fun _ _ d _ _ h => by cases d <;> exact h) h26 ?_
 intro w30 h31
 obtain ⟨s32, m33, p34, c35, E36, hM37, h38⟩ := tab_open h31
 have hRl_ := hM37.2
 obtain ⟨b39, hp40⟩ := sl_ptr0 (j := 3) h38 rfl (by omega)
 refine yD _ [(59, .agg #[iV x, iV y, uV z, iV st, iV why, iV tr, iV nx, .string (St L)]), (58, iV (vn - 1)), (57, iV vn), (56, .slice p34 RL.length c35), (55, .pointer (some ⟨b, 2, none⟩)), (54, pV b), (53, pV b)] [e0 0, e0 1, e0 2, e2 3 [.slice p34 RL.length c35], e0 4, e1 5 (iV (vn - 1)), e2 6 [iV x, iV y, uV z, iV st, iV why, iV tr, iV nx, .string (St L)]] [(6, ⟨r1, 0, none⟩, iV x), (6, ⟨r1, 1, none⟩, iV y), (6, ⟨r1, 2, none⟩, uV z), (6, ⟨r1, 3, none⟩, iV st), (6, ⟨r1, 4, none⟩, iV why), (6, ⟨r1, 5, none⟩, iV tr), (6, ⟨r1, 6, none⟩, iV nx), (6, ⟨r1, 7, none⟩, .string (St L)), (3, ⟨b, 2, none⟩, .slice p34 RL.length c35)] [(iV (IntKind.wrap .i64 (vn - 1)), iV (vn - 1))] ⟨(ov_i64 (by omega) (by omega) (by omega)), trivial⟩ (kC (sat_cell h38 6 rfl rfl) (kC (sat_cell h38 6 rfl rfl) (kC (sat_cell h38 6 rfl rfl) (kC (sat_cell h38 6 rfl rfl) (kC (sat_cell h38 6 rfl rfl) (kC (sat_cell h38 6 rfl rfl) (kC (sat_cell h38 6 rfl rfl) (kC (sat_cell h38 6 rfl rfl) (kC (sat_cell h38 0 rfl rfl) nC))))))))) ?_
 refine draw_law (i := 7) 60 (.pointer (some ⟨b39, q * 8, none⟩)) [] (by kernel_rfl) (fun _ _ => law_indexSlP (o := opA (RA Try.f17 [1, 1, 1, 1, 1, 1, 0]) 7) (x := (Operand.tmp 56)) (i := (Operand.tmp 58)) (p := p34) (b := b39) (off := 0) (z := (vn - 1)) (len := RL.length) (cap := c35) (by kernel_rfl) Try.underlying74 8 (by kernel_rfl) q (by kernel_rfl) hp40 (by kernel_rfl) (by omega) (by omega) (q * 8) (by omega) _) (by intro q hq; cases hq) ?_
 have h41 := tk8 (sf7 (sf6 (sf6 (sf6 (sf7 (sf7 (sf7 (sf7 h38))))))))
 refine draw_act (i := 8) [] (by kernel_rfl) (by kernel_rfl) ?_
 have hl44 := fl_n eRs_ok (by decide) h41
 refine an_storeSl (b := b39) [(q * 8, iV x), (q * 8 + 1, iV y), (q * 8 + 2, uV z), (q * 8 + 3, iV st), (q * 8 + 4, iV why), (q * 8 + 5, iV tr), (q * 8 + 6, iV nx), (q * 8 + 7, .string (St L))] (cs' := (fl eRs (RL.set q ⟨(x, y, z), st, why, tr, nx, L⟩))) (by kernel_rfl) (by kernel_rfl) hp40 (allq ⟨⟨by omega, rfl⟩, ⟨by omega, rfl⟩, ⟨by omega, rfl⟩, ⟨by omega, rfl⟩, ⟨by omega, rfl⟩, ⟨by omega, rfl⟩, ⟨by omega, rfl⟩, ⟨by omega, rfl⟩, trivial⟩) (by omega) (fl_upd eRs_ok (i := q) (x := r) (y := ⟨(x, y, z), st, why, tr, nx, L⟩) hr [(0, iV x), (1, iV y), (2, uV z), (3, iV st), (4, iV why), (5, iV tr), (6, iV nx), (7, .string (St L))] rfl rfl rfl) h41 ?_
 intro w42 h43
 refine ⟨(AllC_nil _), ?_⟩
 refine yK [(8, iV 0)] fun lr45 => ?_
 refine ySq ?_
 refine yPl [0, 1] ?_
 refine yB0 [] [0, 1] [(6, iV 0), (61, iV 0)] (.mk ?_)
 refine yK [(6, iV 0)] fun lr46 => ?_
 refine yRt ?_
 repeat (first | simp only [Exit.inBlock] | simp only [Exit.then])
 have h47 := tk8 (sf7 (sf7 (sf7 (sf4 (sf7 (sf7 (sf7 (sf7 h43))))))))
 have h48 : sat g w42 [Tab b n A E (RL.set q ⟨(x, y, z), st, why, tr, nx, L⟩), Sl 28 3 p21 (((descs E vn).length)) c22 (fl eO (descs E vn)), Cl r9 [iV r.out.1, iV r.out.2.1, uV r.out.2.2, iV r.st, iV r.why, iV r.tr, iV r.nx, .string (St r.tag)] 42, Cl r1 [iV x, iV y, uV z, iV st, iV why, iV tr, iV nx, .string (St L)] 42, R] := tab_close hM37.1 (by simp only [List.length_append, List.length_set, List.length_cons, List.length_nil]; omega) (by simp only [List.length_append, List.length_set, List.length_cons, List.length_nil]) h47
 have h49 := tk2 (sf1 (sf4 h48))
 refine hi_out [] (iV 0) [] (by kernel_rfl) (by intro q hq; cases hq) ?_
 exact ⟨iV 0, [Tab b n A E (RL.set q ⟨(x, y, z), st, why, tr, nx, L⟩)], rfl, ⟨rfl, rfl⟩, h49⟩

set_option maxHeartbeats 4000000 in
theorem tset_ok2 (b n : Nat) (A : List Sl2) (E : Tm) (RL : List Rs) (vn x y z st why tr nx : Int) (L : List UInt8) (hz0 : 0 ≤ z) (hz1 : z ≤ 4294967295) (hm : L.length ≤ 1099511627776) (q : Nat) (r : Rs) (hr : RL[q]? = some r) (hv : vn = (q : Int) + 1) (he : resE x y z st why tr nx L = 0) (ho : x = r.out.1 ∧ y = r.out.2.1 ∧ z = r.out.2.2) (ht : L = r.tag) (hd : (descs E vn).length = 0) : HT Try.prog 17 [Value.pointer (some ⟨b, 0, none⟩), Value.int IntKind.i64 vn, Value.agg #[Value.int IntKind.i64 x, Value.int IntKind.i64 y, Value.int IntKind.u32 z, Value.int IntKind.i64 st, Value.int IntKind.i64 why, Value.int IntKind.i64 tr, Value.int IntKind.i64 nx, Value.string (St L)]] [Tab b n A E RL] (fun v K => v = Value.int IntKind.i64 0 ∧ K = [Tab b n A E (RL.set q ⟨(x, y, z), st, why, tr, nx, L⟩)]) := by
 have hq_ := (List.getElem?_eq_some_iff.1 hr).1
 refine hi_in 62 ([(0, pV b), (1, iV vn), (2, .agg #[iV x, iV y, uV z, iV st, iV why, iV tr, iV nx, .string (St L)])] : Fr) Try.func17 (by kernel_rfl) Try.ntmps17 rfl rfl ?_
 intro g w0 R h0
 refine ySq ?_
 refine yPl [0, 1] ?_
 refine yA ?_
 refine yNp 5 42 [iV x, iV y, uV z, iV st, iV why, iV tr, iV nx, .string (St L)] h0 fun r1 w2 h3 => ?_
 refine yB0 [] [1] [(6, iV 0)] (.mk ?_)
 refine yK [(0, pV b), (1, iV vn), (5, pV r1)] fun lr4 => ?_
 refine ySq ?_
 refine yPl [0, 1, 2, 3, 4, 5, 6, 7, 8] ?_
 refine yB0 [2, 3, 4, 5, 6, 7, 8] [0, 1] [(13, iV vn), (12, pV b)] ?_
 have h5 := tk3 (sf2 (sf1 (sf2 h3)))
 refine yA ?_
 refine yCl 14 Try.call20 (tget_ok b n A E RL vn q r hr (by omega)) h5 ?_
 rintro v K w6 (⟨rfl, rfl⟩) h7
 refine ⟨_, rfl, ?_⟩
 have h8 := ap1 h7
 refine yB0 [6, 7, 8] [3, 4, 5] [(16, iV 0), (15, .agg #[iV r.out.1, iV r.out.2.1, uV r.out.2.2, iV r.st, iV r.why, iV r.tr, iV r.nx, .string (St r.tag)]), (11, .tuple #[.agg #[iV r.out.1, iV r.out.2.1, uV r.out.2.2, iV r.st, iV r.why, iV r.tr, iV r.nx, .string (St r.tag)], iV 0])] ?_
 refine yA ?_
 refine yNp 7 42 [iV 0, iV 0, uV 0, iV 0, iV 0, iV 0, iV 0, .string (St [])] h8 fun r9 w10 h11 => ?_
 refine yA ?_
 refine yS [(0, iV r.out.1), (1, iV r.out.2.1), (2, uV r.out.2.2), (3, iV r.st), (4, iV r.why), (5, iV r.tr), (6, iV r.nx), (7, .string (St r.tag))] [iV r.out.1, iV r.out.2.1, uV r.out.2.2, iV r.st, iV r.why, iV r.tr, iV r.nx, .string (St r.tag)] h11 fun w12 h13 => ?_
 refine yB0 [] [8] [(8, iV 0)] (.mk ?_)
 refine yK [(0, pV b), (1, iV vn), (5, pV r1), (7, pV r9), (8, iV 0)] fun lr14 => ?_
 refine ySq ?_
 refine ySq ?_
 refine yPl [0, 1] ?_
 refine yB0 [] [0, 1] [(18, .bool false), (17, iV 0)] (.mk ?_)
 refine yK [(0, pV b), (1, iV vn), (5, pV r1), (7, pV r9), (8, iV 0), (18, .bool false)] fun lr15 => ?_
 refine yCf ?_
 refine ySk ?_
 refine ySq ?_
 refine ySq ?_
 refine yPl [0, 1, 2] ?_
 refine yBb [1, 2] [(20, .agg #[iV x, iV y, uV z, iV st, iV why, iV tr, iV nx, .string (St L)])] [e2 0 [iV x, iV y, uV z, iV st, iV why, iV tr, iV nx, .string (St L)]] [(0, ⟨r1, 0, none⟩, iV x), (0, ⟨r1, 1, none⟩, iV y), (0, ⟨r1, 2, none⟩, uV z), (0, ⟨r1, 3, none⟩, iV st), (0, ⟨r1, 4, none⟩, iV why), (0, ⟨r1, 5, none⟩, iV tr), (0, ⟨r1, 6, none⟩, iV nx), (0, ⟨r1, 7, none⟩, .string (St L))] [] trivial (kC (sat_cell h13 2 rfl rfl) (kC (sat_cell h13 2 rfl rfl) (kC (sat_cell h13 2 rfl rfl) (kC (sat_cell h13 2 rfl rfl) (kC (sat_cell h13 2 rfl rfl) (kC (sat_cell h13 2 rfl rfl) (kC (sat_cell h13 2 rfl rfl) (kC (sat_cell h13 2 rfl rfl) nC)))))))) ?_
 refine yA ?_
 refine yCl 21 Try.call23 (rchk_ht x y z st why tr nx L (by omega) (by omega) (by omega)) h13 ?_
 rintro v K w16 (⟨rfl, rfl⟩) h17
 refine ⟨_, rfl, ?_⟩
 have h18 := ap0 h17
 refine yB0 [] [2] [(9, iV ((resE x y z st why tr nx L)))] (.mk ?_)
 refine yK [(0, pV b), (1, iV vn), (5, pV r1), (7, pV r9), (9, iV ((resE x y z st why tr nx L)))] fun lr19 => ?_
 refine ySq ?_
 refine yPl [0, 1] ?_
 refine yBb [] [(23, .bool false), (22, iV ((resE x y z st why tr nx L)))] [e0 0, e1 1 (.bool false)] [] [(.bool (((resE x y z st why tr nx L)) != 0), .bool false)] ⟨(ov_nf (by omega)), trivial⟩ nC (.mk ?_)
 refine yK [(0, pV b), (1, iV vn), (5, pV r1), (7, pV r9), (9, iV ((resE x y z st why tr nx L))), (23, .bool false)] fun lr20 => ?_
 refine yCf ?_
 refine ySk ?_
 refine ySq ?_
 refine yPl [0, 1, 2, 3, 4, 5, 6, 7] ?_
 refine yB0 [2, 3, 4, 5, 6, 7] [0, 1] [(27, iV vn), (26, pV b)] ?_
 have h23 := tk4 (sf3 (sf2 (sf3 (sf3 h18))))
 refine yA ?_
 refine yCl 28 Try.call21 (tdescs_ok b n A E RL vn (by omega)) h23 ?_
 rintro v K w24 (⟨p21, c22, rfl, rfl⟩) h25
 refine ⟨_, rfl, ?_⟩
 have h26 := ap2 h25
 refine yB0 [] [3, 4, 5, 6, 7] [(8, iV 0), (10, .slice p21 (((descs E vn).length)) c22), (30, iV 0), (29, .slice p21 (((descs E vn).length)) c22), (25, .tuple #[.slice p21 (((descs E vn).length)) c22, iV 0])] (.mk ?_)
 refine yK [(0, pV b), (1, iV vn), (5, pV r1), (7, pV r9), (8, iV 0), (10, .slice p21 (((descs E vn).length)) c22)] fun lr27 => ?_
 refine ySq ?_
 refine yBk 0 ?_
 refine ySq ?_
 refine yPl [0, 1, 2, 3, 4, 5, 6, 7, 8, 9, 10, 11, 12] ?_
 refine yBb [4, 5, 6, 7, 8, 9, 10, 11, 12] [(35, .agg #[iV r.out.1, iV r.out.2.1, uV r.out.2.2]), (34, pV r9), (33, .agg #[iV x, iV y, uV z]), (32, pV r1)] [e0 0, e2 1 [iV x, iV y, uV z], e0 2, e2 3 [iV r.out.1, iV r.out.2.1, uV r.out.2.2]] [(3, ⟨r9, 0, none⟩, iV r.out.1), (3, ⟨r9, 1, none⟩, iV r.out.2.1), (3, ⟨r9, 2, none⟩, uV r.out.2.2), (1, ⟨r1, 0, none⟩, iV x), (1, ⟨r1, 1, none⟩, iV y), (1, ⟨r1, 2, none⟩, uV z)] [] trivial (kC (sat_cell h26 2 rfl rfl) (kC (sat_cell h26 2 rfl rfl) (kC (sat_cell h26 2 rfl rfl) (kC (sat_cell h26 3 rfl rfl) (kC (sat_cell h26 3 rfl rfl) (kC (sat_cell h26 3 rfl rfl) nC)))))) ?_
 refine plain_law (i := 4) 36 (.bool false) (by kernel_rfl) (seq32_neq_t (o := opA (RA Try.f17 [1, 1, 1, 1, 1, 0, 0, 0]) 4) (x := (Operand.tmp 33)) (y := (Operand.tmp 35)) x y z r.out.1 r.out.2.1 r.out.2.2 (by kernel_rfl) (by kernel_rfl) (by kernel_rfl) ⟨(by omega), (by omega), (by omega)⟩ _) ?_
 refine yBb [10, 11, 12] [(41, .string (St r.tag)), (40, .pointer (some ⟨r9, 7, none⟩)), (39, .string (St L)), (38, .pointer (some ⟨r1, 7, none⟩)), (37, .bool false)] [e0 5, e0 6, e2 7 [.string (St L)], e0 8, e2 9 [.string (St r.tag)]] [(9, ⟨r9, 7, none⟩, .string (St r.tag)), (7, ⟨r1, 7, none⟩, .string (St L))] [] trivial (kC (sat_cell h26 2 rfl rfl) (kC (sat_cell h26 3 rfl rfl) nC)) ?_
 refine plain_law (i := 10) 42 (.bool false) (by kernel_rfl) (law_neStr (t := 9) (o := opA (RA Try.f17 [1, 1, 1, 1, 1, 0, 0, 0]) 10) (x := (Operand.tmp 39)) (y := (Operand.tmp 41)) (a := L) (b := r.tag) (by kernel_rfl) (by kernel_rfl) (by kernel_rfl) false (decide_eq_true ht) _) ?_
 refine yB0 [] [11, 12] [(31, .bool false), (43, .bool false)] (.mk ?_)
 refine yK [(0, pV b), (1, iV vn), (5, pV r1), (8, iV 0), (10, .slice p21 (((descs E vn).length)) c22), (31, .bool false)] fun lr28 => ?_
 refine yCf ?_
 refine ySq ?_
 refine yPl [0, 1, 2, 3, 4, 5, 6, 7, 8] ?_
 refine yBb [2, 3, 4, 5, 6, 7, 8] [(46, iV st), (45, .pointer (some ⟨r1, 3, none⟩))] [e0 0, e2 1 [iV st]] [(1, ⟨r1, 3, none⟩, iV st)] [] trivial (kC (sat_cell h26 3 rfl rfl) nC) ?_
 by_cases c29 : st = 1
 ·
  refine yBb [] [(44, .bool false), (52, .bool false), (51, undef), (50, undef), (49, undef), (48, .bool false), (47, .bool false)] [e1 2 (.bool false), e0 3, e0 4, e0 5, e0 6, e0 7, e0 8] [] [(.bool (st != 1), .bool false)] ⟨(ov_nf (by omega)), trivial⟩ nC (.mk ?_)
  refine yK [(0, pV b), (1, iV vn), (5, pV r1), (8, iV 0), (44, .bool false)] fun lr30 => ?_
  refine yCf ?_
  refine ySk ?_
  refine ySq ?_
  refine gi_drw (id := 12) (ops := RA Try.f17 [1, 1, 1, 1, 1, 1, 0]) (Tr.fl 0 (Tr.fl 1 (Tr.fl 2 (Tr.fl 3 (Tr.fl 4 (Tr.fl 5 (Tr.fl 6 (Tr.fl 7 (Tr.an 8 Tr.nil))))))))) (by kernel_rfl) (by kernel_rfl) (by kernel_rfl) (by kernel_rfl) (by kernel_rfl) (fun _ _ d _ _ h => by cases d <;> exact h) h26 ?_
  intro w31 h32
  obtain ⟨s33, m34, p35, c36, E37, hM38, h39⟩ := tab_open h32
  have hRl_ := hM38.2
  obtain ⟨b40, hp41⟩ := sl_ptr0 (j := 3) h39 rfl (by omega)
  refine yD _ [(59, .agg #[iV x, iV y, uV z, iV st, iV why, iV tr, iV nx, .string (St L)]), (58, iV (vn - 1)), (57, iV vn), (56, .slice p35 RL.length c36), (55, .pointer (some ⟨b, 2, none⟩)), (54, pV b), (53, pV b)] [e0 0, e0 1, e0 2, e2 3 [.slice p35 RL.length c36], e0 4, e1 5 (iV (vn - 1)), e2 6 [iV x, iV y, uV z, iV st, iV why, iV tr, iV nx, .string (St L)]] [(6, ⟨r1, 0, none⟩, iV x), (6, ⟨r1, 1, none⟩, iV y), (6, ⟨r1, 2, none⟩, uV z), (6, ⟨r1, 3, none⟩, iV st), (6, ⟨r1, 4, none⟩, iV why), (6, ⟨r1, 5, none⟩, iV tr), (6, ⟨r1, 6, none⟩, iV nx), (6, ⟨r1, 7, none⟩, .string (St L)), (3, ⟨b, 2, none⟩, .slice p35 RL.length c36)] [(iV (IntKind.wrap .i64 (vn - 1)), iV (vn - 1))] ⟨(ov_i64 (by omega) (by omega) (by omega)), trivial⟩ (kC (sat_cell h39 6 rfl rfl) (kC (sat_cell h39 6 rfl rfl) (kC (sat_cell h39 6 rfl rfl) (kC (sat_cell h39 6 rfl rfl) (kC (sat_cell h39 6 rfl rfl) (kC (sat_cell h39 6 rfl rfl) (kC (sat_cell h39 6 rfl rfl) (kC (sat_cell h39 6 rfl rfl) (kC (sat_cell h39 0 rfl rfl) nC))))))))) ?_
  refine draw_law (i := 7) 60 (.pointer (some ⟨b40, q * 8, none⟩)) [] (by kernel_rfl) (fun _ _ => law_indexSlP (o := opA (RA Try.f17 [1, 1, 1, 1, 1, 1, 0]) 7) (x := (Operand.tmp 56)) (i := (Operand.tmp 58)) (p := p35) (b := b40) (off := 0) (z := (vn - 1)) (len := RL.length) (cap := c36) (by kernel_rfl) Try.underlying74 8 (by kernel_rfl) q (by kernel_rfl) hp41 (by kernel_rfl) (by omega) (by omega) (q * 8) (by omega) _) (by intro q hq; cases hq) ?_
  have h42 := tk8 (sf7 (sf6 (sf6 (sf6 (sf7 (sf7 (sf7 (sf7 h39))))))))
  refine draw_act (i := 8) [] (by kernel_rfl) (by kernel_rfl) ?_
  have hl45 := fl_n eRs_ok (by decide) h42
  refine an_storeSl (b := b40) [(q * 8, iV x), (q * 8 + 1, iV y), (q * 8 + 2, uV z), (q * 8 + 3, iV st), (q * 8 + 4, iV why), (q * 8 + 5, iV tr), (q * 8 + 6, iV nx), (q * 8 + 7, .string (St L))] (cs' := (fl eRs (RL.set q ⟨(x, y, z), st, why, tr, nx, L⟩))) (by kernel_rfl) (by kernel_rfl) hp41 (allq ⟨⟨by omega, rfl⟩, ⟨by omega, rfl⟩, ⟨by omega, rfl⟩, ⟨by omega, rfl⟩, ⟨by omega, rfl⟩, ⟨by omega, rfl⟩, ⟨by omega, rfl⟩, ⟨by omega, rfl⟩, trivial⟩) (by omega) (fl_upd eRs_ok (i := q) (x := r) (y := ⟨(x, y, z), st, why, tr, nx, L⟩) hr [(0, iV x), (1, iV y), (2, uV z), (3, iV st), (4, iV why), (5, iV tr), (6, iV nx), (7, .string (St L))] rfl rfl rfl) h42 ?_
  intro w43 h44
  refine ⟨(AllC_nil _), ?_⟩
  refine yK [(8, iV 0)] fun lr46 => ?_
  refine ySq ?_
  refine yPl [0, 1] ?_
  refine yB0 [] [0, 1] [(6, iV 0), (61, iV 0)] (.mk ?_)
  refine yK [(6, iV 0)] fun lr47 => ?_
  refine yRt ?_
  repeat (first | simp only [Exit.inBlock] | simp only [Exit.then])
  have h48 := tk8 (sf7 (sf7 (sf7 (sf4 (sf7 (sf7 (sf7 (sf7 h44))))))))
  have h49 : sat g w43 [Tab b n A E (RL.set q ⟨(x, y, z), st, why, tr, nx, L⟩), Sl 28 3 p21 (((descs E vn).length)) c22 (fl eO (descs E vn)), Cl r9 [iV r.out.1, iV r.out.2.1, uV r.out.2.2, iV r.st, iV r.why, iV r.tr, iV r.nx, .string (St r.tag)] 42, Cl r1 [iV x, iV y, uV z, iV st, iV why, iV tr, iV nx, .string (St L)] 42, R] := tab_close hM38.1 (by simp only [List.length_append, List.length_set, List.length_cons, List.length_nil]; omega) (by simp only [List.length_append, List.length_set, List.length_cons, List.length_nil]) h48
  have h50 := tk2 (sf1 (sf4 h49))
  refine hi_out [] (iV 0) [] (by kernel_rfl) (by intro q hq; cases hq) ?_
  exact ⟨iV 0, [Tab b n A E (RL.set q ⟨(x, y, z), st, why, tr, nx, L⟩)], rfl, ⟨rfl, rfl⟩, h50⟩
 ·
  refine yBb [] [(44, .bool false), (52, .bool false), (51, .bool false), (50, iV ((((descs E vn).length : Nat) : Int))), (49, .slice p21 (((descs E vn).length)) c22), (48, .bool true), (47, .bool true)] [e1 2 (.bool true), e0 3, e0 4, e0 5, e1 6 (.bool false), e0 7, e0 8] [] [(.bool (st != 1), .bool true), (.bool (decide ((((descs E vn).length : Nat) : Int) > 0)), .bool false)] ⟨(ov_nt (by omega)), (ov_f (by omega)), trivial⟩ nC (.mk ?_)
  refine yK [(0, pV b), (1, iV vn), (5, pV r1), (8, iV 0), (44, .bool false)] fun lr51 => ?_
  refine yCf ?_
  refine ySk ?_
  refine ySq ?_
  refine gi_drw (id := 12) (ops := RA Try.f17 [1, 1, 1, 1, 1, 1, 0]) (Tr.fl 0 (Tr.fl 1 (Tr.fl 2 (Tr.fl 3 (Tr.fl 4 (Tr.fl 5 (Tr.fl 6 (Tr.fl 7 (Tr.an 8 Tr.nil))))))))) (by kernel_rfl) (by kernel_rfl) (by kernel_rfl) (by kernel_rfl) (by kernel_rfl) (fun _ _ d _ _ h => by cases d <;> exact h) h26 ?_
  intro w52 h53
  obtain ⟨s54, m55, p56, c57, E58, hM59, h60⟩ := tab_open h53
  have hRl_ := hM59.2
  obtain ⟨b61, hp62⟩ := sl_ptr0 (j := 3) h60 rfl (by omega)
  refine yD _ [(59, .agg #[iV x, iV y, uV z, iV st, iV why, iV tr, iV nx, .string (St L)]), (58, iV (vn - 1)), (57, iV vn), (56, .slice p56 RL.length c57), (55, .pointer (some ⟨b, 2, none⟩)), (54, pV b), (53, pV b)] [e0 0, e0 1, e0 2, e2 3 [.slice p56 RL.length c57], e0 4, e1 5 (iV (vn - 1)), e2 6 [iV x, iV y, uV z, iV st, iV why, iV tr, iV nx, .string (St L)]] [(6, ⟨r1, 0, none⟩, iV x), (6, ⟨r1, 1, none⟩, iV y), (6, ⟨r1, 2, none⟩, uV z), (6, ⟨r1, 3, none⟩, iV st), (6, ⟨r1, 4, none⟩, iV why), (6, ⟨r1, 5, none⟩, iV tr), (6, ⟨r1, 6, none⟩, iV nx), (6, ⟨r1, 7, none⟩, .string (St L)), (3, ⟨b, 2, none⟩, .slice p56 RL.length c57)] [(iV (IntKind.wrap .i64 (vn - 1)), iV (vn - 1))] ⟨(ov_i64 (by omega) (by omega) (by omega)), trivial⟩ (kC (sat_cell h60 6 rfl rfl) (kC (sat_cell h60 6 rfl rfl) (kC (sat_cell h60 6 rfl rfl) (kC (sat_cell h60 6 rfl rfl) (kC (sat_cell h60 6 rfl rfl) (kC (sat_cell h60 6 rfl rfl) (kC (sat_cell h60 6 rfl rfl) (kC (sat_cell h60 6 rfl rfl) (kC (sat_cell h60 0 rfl rfl) nC))))))))) ?_
  refine draw_law (i := 7) 60 (.pointer (some ⟨b61, q * 8, none⟩)) [] (by kernel_rfl) (fun _ _ => law_indexSlP (o := opA (RA Try.f17 [1, 1, 1, 1, 1, 1, 0]) 7) (x := (Operand.tmp 56)) (i := (Operand.tmp 58)) (p := p56) (b := b61) (off := 0) (z := (vn - 1)) (len := RL.length) (cap := c57) (by kernel_rfl) Try.underlying74 8 (by kernel_rfl) q (by kernel_rfl) hp62 (by kernel_rfl) (by omega) (by omega) (q * 8) (by omega) _) (by intro q hq; cases hq) ?_
  have h63 := tk8 (sf7 (sf6 (sf6 (sf6 (sf7 (sf7 (sf7 (sf7 h60))))))))
  refine draw_act (i := 8) [] (by kernel_rfl) (by kernel_rfl) ?_
  have hl66 := fl_n eRs_ok (by decide) h63
  refine an_storeSl (b := b61) [(q * 8, iV x), (q * 8 + 1, iV y), (q * 8 + 2, uV z), (q * 8 + 3, iV st), (q * 8 + 4, iV why), (q * 8 + 5, iV tr), (q * 8 + 6, iV nx), (q * 8 + 7, .string (St L))] (cs' := (fl eRs (RL.set q ⟨(x, y, z), st, why, tr, nx, L⟩))) (by kernel_rfl) (by kernel_rfl) hp62 (allq ⟨⟨by omega, rfl⟩, ⟨by omega, rfl⟩, ⟨by omega, rfl⟩, ⟨by omega, rfl⟩, ⟨by omega, rfl⟩, ⟨by omega, rfl⟩, ⟨by omega, rfl⟩, ⟨by omega, rfl⟩, trivial⟩) (by omega) (fl_upd eRs_ok (i := q) (x := r) (y := ⟨(x, y, z), st, why, tr, nx, L⟩) hr [(0, iV x), (1, iV y), (2, uV z), (3, iV st), (4, iV why), (5, iV tr), (6, iV nx), (7, .string (St L))] rfl rfl rfl) h63 ?_
  intro w64 h65
  refine ⟨(AllC_nil _), ?_⟩
  refine yK [(8, iV 0)] fun lr67 => ?_
  refine ySq ?_
  refine yPl [0, 1] ?_
  refine yB0 [] [0, 1] [(6, iV 0), (61, iV 0)] (.mk ?_)
  refine yK [(6, iV 0)] fun lr68 => ?_
  refine yRt ?_
  repeat (first | simp only [Exit.inBlock] | simp only [Exit.then])
  have h69 := tk8 (sf7 (sf7 (sf7 (sf4 (sf7 (sf7 (sf7 (sf7 h65))))))))
  have h70 : sat g w64 [Tab b n A E (RL.set q ⟨(x, y, z), st, why, tr, nx, L⟩), Sl 28 3 p21 (((descs E vn).length)) c22 (fl eO (descs E vn)), Cl r9 [iV r.out.1, iV r.out.2.1, uV r.out.2.2, iV r.st, iV r.why, iV r.tr, iV r.nx, .string (St r.tag)] 42, Cl r1 [iV x, iV y, uV z, iV st, iV why, iV tr, iV nx, .string (St L)] 42, R] := tab_close hM59.1 (by simp only [List.length_append, List.length_set, List.length_cons, List.length_nil]; omega) (by simp only [List.length_append, List.length_set, List.length_cons, List.length_nil]) h69
  have h71 := tk2 (sf1 (sf4 h70))
  refine hi_out [] (iV 0) [] (by kernel_rfl) (by intro q hq; cases hq) ?_
  exact ⟨iV 0, [Tab b n A E (RL.set q ⟨(x, y, z), st, why, tr, nx, L⟩)], rfl, ⟨rfl, rfl⟩, h71⟩

end Go.Proofs.Ytjjpmehiolejgaa
