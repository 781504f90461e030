/- Walks, printed by my generator gen25.py. -/
import Derived.Test.YtjjpmehiolejgaaF22
namespace Go.Proofs.Ytjjpmehiolejgaa
theorem tset_w (b n : Nat) (S : Ts) (vn x y z st why tr nx : Int) (L : List UInt8) (hz0 : 0 ≤ z) (hz1 : z ≤ 4294967295) (hm : L.length ≤ 1099511627776) : HT Try.prog 17 [Value.pointer (some ⟨b, 0, none⟩), Value.int IntKind.i64 vn, Value.agg #[Value.int IntKind.i64 x, Value.int IntKind.i64 y, Value.int IntKind.u32 z, Value.int IntKind.i64 st, Value.int IntKind.i64 why, Value.int IntKind.i64 tr, Value.int IntKind.i64 nx, Value.string (St L)]] [TW b n S] (fun v K => v = Value.int .i64 (setE S vn ⟨(x, y, z), st, why, tr, nx, L⟩) ∧ K = [TW b n (setS S vn ⟨(x, y, z), st, why, tr, nx, L⟩)]) := by
  refine ht_wi (fun W => ?_) (fun W => wf_set W _ _)
  have bad : ∀ e : Int, setE S vn ⟨(x, y, z), st, why, tr, nx, L⟩ = e → e ≠ 0 → HT Try.prog 17 [Value.pointer (some ⟨b, 0, none⟩), Value.int IntKind.i64 vn, Value.agg #[Value.int IntKind.i64 x, Value.int IntKind.i64 y, Value.int IntKind.u32 z, Value.int IntKind.i64 st, Value.int IntKind.i64 why, Value.int IntKind.i64 tr, Value.int IntKind.i64 nx, Value.string (St L)]] [Tab b n S.A S.E S.R] (fun v K => v = Value.int .i64 e ∧ K = [Tab b n S.A S.E S.R]) → HT Try.prog 17 [Value.pointer (some ⟨b, 0, none⟩), Value.int IntKind.i64 vn, Value.agg #[Value.int IntKind.i64 x, Value.int IntKind.i64 y, Value.int IntKind.u32 z, Value.int IntKind.i64 st, Value.int IntKind.i64 why, Value.int IntKind.i64 tr, Value.int IntKind.i64 nx, Value.string (St L)]] [Tab b n S.A S.E S.R] (fun v K => v = Value.int .i64 (setE S vn ⟨(x, y, z), st, why, tr, nx, L⟩) ∧ K = [Tab b n (setS S vn ⟨(x, y, z), st, why, tr, nx, L⟩).A (setS S vn ⟨(x, y, z), st, why, tr, nx, L⟩).E (setS S vn ⟨(x, y, z), st, why, tr, nx, L⟩).R]) := fun e h1 h2 h3 => by
    rw [set_bad h1 h2, h1]
    exact h3
  by_cases hv : 1 ≤ vn ∧ vn ≤ (S.R.length : Int)
  · have hn0 : nE S vn = 0 := if_pos hv
    have hg := getR_at hv
    have hq : vn = ((vn - 1).toNat : Int) + 1 := by omega
    have hres : resR ⟨(x, y, z), st, why, tr, nx, L⟩ = resE x y z st why tr nx L := rfl
    by_cases hr : resE x y z st why tr nx L = 0
    · by_cases ho : ((x, y, z) : Ky) = (getR S vn).out
      · have ho3 : x = (getR S vn).out.1 ∧ y = (getR S vn).out.2.1 ∧ z = (getR S vn).out.2.2 := by rw [← ho]; exact ⟨rfl, rfl, rfl⟩
        by_cases ht : L = (getR S vn).tag
        · have hnn : ¬ ((⟨(x, y, z), st, why, tr, nx, L⟩ : Rs).out ≠ (getR S vn).out ∨ (⟨(x, y, z), st, why, tr, nx, L⟩ : Rs).tag ≠ (getR S vn).tag) := fun h => h.elim (fun h => h ho) (fun h => h ht)
          by_cases hs : st = 1
          · have h0 : setE S vn ⟨(x, y, z), st, why, tr, nx, L⟩ = 0 := by unfold setE; rw [if_neg (by omega), if_neg (by omega), if_neg hnn, if_neg (fun h => h.1 hs)]
            have hS : setS S vn ⟨(x, y, z), st, why, tr, nx, L⟩ = ⟨S.A, S.E, S.R.set (vn - 1).toNat ⟨(x, y, z), st, why, tr, nx, L⟩⟩ := by unfold setS; rw [if_pos h0]
            rw [h0, hS]
            exact tset_ok1 b n S.A S.E S.R vn x y z st why tr nx L hz0 hz1 hm _ _ hg hq hr ho3 ht hs
          · by_cases hd : 0 < (descs S.E vn).length
            · exact bad 8 (by unfold setE; rw [if_neg (by omega), if_neg (by omega), if_neg hnn, if_pos ⟨hs, hd⟩]) (by omega) (tset_state b n S.A S.E S.R vn x y z st why tr nx L hz0 hz1 hm _ _ hg hq hr ho3 ht hs hd)
            · have h0 : setE S vn ⟨(x, y, z), st, why, tr, nx, L⟩ = 0 := by unfold setE; rw [if_neg (by omega), if_neg (by omega), if_neg hnn, if_neg (fun h => hd h.2)]
              have hS : setS S vn ⟨(x, y, z), st, why, tr, nx, L⟩ = ⟨S.A, S.E, S.R.set (vn - 1).toNat ⟨(x, y, z), st, why, tr, nx, L⟩⟩ := by unfold setS; rw [if_pos h0]
              rw [h0, hS]
              exact tset_ok2 b n S.A S.E S.R vn x y z st why tr nx L hz0 hz1 hm _ _ hg hq hr ho3 ht (by omega)
        · exact bad 2 (by unfold setE; rw [if_neg (by omega), if_neg (by omega), if_pos (.inr ht)]) (by omega) (tset_tag b n S.A S.E S.R vn x y z st why tr nx L hz0 hz1 hm _ _ hg hq hr ho3 ht)
      · exact bad 2 (by unfold setE; rw [if_neg (by omega), if_neg (by omega), if_pos (.inl ho)]) (by omega) (tset_out b n S.A S.E S.R vn x y z st why tr nx L hz0 hz1 hm _ _ hg hq hr (fun h => ho (Prod.ext h.1 (Prod.ext h.2.1 h.2.2))))
    · have h1 : setE S vn ⟨(x, y, z), st, why, tr, nx, L⟩ = resE x y z st why tr nx L := by unfold setE; rw [if_neg (by omega), if_pos (by omega), hres]
      exact bad _ h1 hr (tset_chk b n S.A S.E S.R vn x y z st why tr nx L hz0 hz1 hm _ _ hg hq hr)
  · have h1 : nE S vn = 3 := if_neg hv
    exact bad 3 (by unfold setE; rw [if_pos (by omega)]) (by omega) (tset_no b n S.A S.E S.R vn x y z st why tr nx L (by omega))
theorem tcopy_w (b n : Nat) (S : Ts) : HT Try.prog 30 [Value.pointer (some ⟨b, 0, none⟩)] [TW b n S] (fun v K => ∃ b2 : Nat, v = Value.pointer (some ⟨b2, 0, none⟩) ∧ K = [TW b n S, TW b2 n S]) :=
  HT.wi fun W => (tcopy_ht b n S.A S.E S.R).post fun v K hP => by
    obtain ⟨b2, h1, h2⟩ := hP
    exact ⟨_, ⟨b2, h1, rfl⟩, fun g w F hs => by rw [h2] at hs; exact wi_in W (sat_sw (wi_in W (sat_sw hs)))⟩
end Go.Proofs.Ytjjpmehiolejgaa
