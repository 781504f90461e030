/- Walks, printed by my generator P:../tab/gen20.py. -/
import Derived.Test.YtehlamblpekmkaaGreatDoorBundle25
import Derived.Test.YtehlamblpekmkaaGreatDoorWfm
namespace Go.Proofs.YtehlamblpekmkaaGreatDoor
set_option maxHeartbeats 4000000
def TW (b n : Nat) (S : Ts) : Assn := Wi (Wf n S) (Tab b n S.A S.E S.R)
theorem opn_bad {S : Ts} {o : Ky} {L : List UInt8} {h : Int × Int} {e : Int} (h0 : topE S o L h = e) (he : e ≠ 0) : opnS S o L h = S ∧ opnD S o L h = (0, 0, 0) := by
  unfold opnS opnD
  rw [if_neg (by omega), if_neg (by omega)]
  exact ⟨rfl, rfl⟩
theorem has_not {E : Tm} {h : Int × Int} (hh : ¬ hasH E h) : ∀ e ∈ allE E, e.h ≠ h := fun e h1 h2 => hh ⟨e, h1, h2⟩
theorem haso_not {R : List Rs} {o : Ky} (hh : ¬ hasO R o) : ∀ r ∈ R, r.out ≠ o := fun e h1 h2 => hh ⟨e, h1, h2⟩
theorem obj_not {hx hy : Int} (h : ¬ objH (hx, hy)) : hx < 0 ∨ 255 < hx ∨ hy ≤ 0 := by
  unfold objH at h
  simp only at h
  omega
theorem free_len {A : List Sl2} {j : Nat} {g : Int} (h : freeS A = some (j, g)) : 1 ≤ (inS 0 A 0).length := by
  have := (List.getElem?_eq_some_iff.1 h).1
  omega
theorem topen_w (b n : Nat) (S : Ts) (x y z hx hy : Int) (L : List UInt8) (hz0 : 0 ≤ z) (hz1 : z ≤ 4294967295) (hm : L.length ≤ 1099511627776) : HT Tryz.prog 69 [Value.pointer (some ⟨b, 0, none⟩), Value.agg #[Value.int IntKind.i64 x, Value.int IntKind.i64 y, Value.int IntKind.u32 z], Value.string (St L), Value.agg #[Value.int IntKind.i64 hx, Value.int IntKind.u32 hy]] [TW b n S] (fun v K => v = Value.tuple #[Value.agg #[Value.int IntKind.i64 ((opnD S (x, y, z) L (hx, hy)).1), Value.int IntKind.i64 ((opnD S (x, y, z) L (hx, hy)).2.1), Value.int IntKind.u32 ((opnD S (x, y, z) L (hx, hy)).2.2)], Value.int IntKind.i64 ((topE S (x, y, z) L (hx, hy)))] ∧ K = [TW b n (opnS S (x, y, z) L (hx, hy))]) := by
  refine ht_wi (fun W => ?_) (fun W => wf_opn W hz1 _ _)
  have bad : ∀ e : Int, topE S (x, y, z) L (hx, hy) = e → e ≠ 0 → HT Tryz.prog 69 [Value.pointer (some ⟨b, 0, none⟩), Value.agg #[Value.int IntKind.i64 x, Value.int IntKind.i64 y, Value.int IntKind.u32 z], Value.string (St L), Value.agg #[Value.int IntKind.i64 hx, Value.int IntKind.u32 hy]] [Tab b n S.A S.E S.R] (fun v K => v = Value.tuple #[Value.agg #[Value.int .i64 0, Value.int .i64 0, Value.int .u32 0], Value.int .i64 e] ∧ K = [Tab b n S.A S.E S.R]) → HT Tryz.prog 69 [Value.pointer (some ⟨b, 0, none⟩), Value.agg #[Value.int IntKind.i64 x, Value.int IntKind.i64 y, Value.int IntKind.u32 z], Value.string (St L), Value.agg #[Value.int IntKind.i64 hx, Value.int IntKind.u32 hy]] [Tab b n S.A S.E S.R] (fun v K => v = Value.tuple #[Value.agg #[Value.int IntKind.i64 ((opnD S (x, y, z) L (hx, hy)).1), Value.int IntKind.i64 ((opnD S (x, y, z) L (hx, hy)).2.1), Value.int IntKind.u32 ((opnD S (x, y, z) L (hx, hy)).2.2)], Value.int IntKind.i64 ((topE S (x, y, z) L (hx, hy)))] ∧ K = [Tab b n (opnS S (x, y, z) L (hx, hy)).A (opnS S (x, y, z) L (hx, hy)).E (opnS S (x, y, z) L (hx, hy)).R]) := fun e h1 h2 h3 => by
    rw [(opn_bad h1 h2).1, (opn_bad h1 h2).2, h1]
    exact h3
  rcases newE_cases (x, y, z) L with ⟨h1, h2⟩ | ⟨h1, h2⟩
  · exact bad 2 (by unfold topE; rw [if_pos (by omega), h2]) (by omega) (topen_out b n S.A S.E S.R x y z hx hy L hz0 hz1 hm h1)
  · rcases tagE_or L with h3 | h3
    · rw [h3] at h2
      by_cases h4 : objH (hx, hy)
      · have hob : 0 ≤ hx ∧ hx ≤ 255 ∧ 1 ≤ hy := h4
        by_cases h5 : hasO S.R (x, y, z)
        · exact bad 6 (by unfold topE; rw [if_neg (by omega), if_neg (not_not_intro h4), if_pos (.inl h5)]) (by omega) (topen_out2 b n S.A S.E S.R x y z hx hy L hz0 hz1 hm h1 h3 hob h5)
        · by_cases h6 : hasH S.E (hx, hy)
          · exact bad 6 (by unfold topE; rw [if_neg (by omega), if_neg (not_not_intro h4), if_pos (.inr h6)]) (by omega) (topen_have b n S.A S.E S.R x y z hx hy L hz0 hz1 hm h1 h3 hob (haso_not h5) h6)
          · have h56 : ¬ (hasO S.R (x, y, z) ∨ hasH S.E (hx, hy)) := fun h => h.elim h5 h6
            by_cases h7 : S.R.length = 2000 ∨ (inS 0 S.A 0).length = 0
            · exact bad 4 (by unfold topE; rw [if_neg (by omega), if_neg (not_not_intro h4), if_neg h56, if_pos (h7.imp (fun h => by omega) (fun h => freeS_none.2 h))]) (by omega) (topen_full b n S.A S.E S.R x y z hx hy L hz0 hz1 hm h1 h3 hob (haso_not h5) (has_not h6) h7)
            · have hl := W.rl
              cases h8 : freeS S.A with
              | none => exact absurd (.inr (freeS_none.1 h8)) h7
              | some p =>
                obtain ⟨j, g⟩ := p
                have h0 : topE S (x, y, z) L (hx, hy) = 0 := by unfold topE; rw [if_neg (by omega), if_neg (not_not_intro h4), if_neg h56, if_neg (fun h => h.elim (fun h => h7 (.inl (by omega))) (fun h => by rw [h8] at h; cases h))]
                have hS : opnS S (x, y, z) L (hx, hy) = ⟨S.A.set j (1, g), gset S.E (j : Int) ⟨(x, (j : Int), g), (S.R.length : Int) + 1, (hx, hy)⟩, S.R ++ [⟨(x, y, z), 1, 0, 0, 0, L⟩]⟩ := by
                  unfold opnS addS
                  rw [if_pos h0]
                  simp only [h8]
                have hD : opnD S (x, y, z) L (hx, hy) = (x, (j : Int), g) := by
                  unfold opnD addD
                  rw [if_pos h0]
                  simp only [h8]
                rw [hS, hD, h0]
                exact topen_ok b n S.A S.E S.R x y z hx hy L hz0 hz1 hm h1 h3 hob (haso_not h5) (has_not h6) (by omega) j g h8 (free_len h8)
      · exact bad 2 (by unfold topE; rw [if_neg (by omega), if_pos h4]) (by omega) (topen_arg b n S.A S.E S.R x y z hx hy L hz0 hz1 hm h1 h3 (obj_not h4))
    · rw [h3] at h2
      exact bad 16 (by unfold topE; rw [if_pos (by omega), h2]) (by omega) (topen_tag b n S.A S.E S.R x y z hx hy L hz0 hz1 hm h1 (by omega))
theorem tget_w (b n : Nat) (S : Ts) (vn : Int) : HT Tryz.prog 45 [Value.pointer (some ⟨b, 0, none⟩), Value.int IntKind.i64 vn] [TW b n S] (fun v K => v = Value.tuple #[Value.agg #[Value.int IntKind.i64 ((getR S vn).out.1), Value.int IntKind.i64 ((getR S vn).out.2.1), Value.int IntKind.u32 ((getR S vn).out.2.2), Value.int IntKind.i64 ((getR S vn).st), Value.int IntKind.i64 ((getR S vn).why), Value.int IntKind.i64 ((getR S vn).tr), Value.int IntKind.i64 ((getR S vn).nx), Value.string (St ((getR S vn).tag))], Value.int IntKind.i64 ((nE S vn))] ∧ K = [TW b n S]) := by
  refine ht_wi (fun W => ?_) (fun W => W)
  unfold nE
  by_cases h : 1 ≤ vn ∧ vn ≤ (S.R.length : Int)
  · rw [if_pos h]
    exact tget_ok b n S.A S.E S.R vn (vn - 1).toNat (getR S vn) (getR_at h) (by omega)
  · rw [if_neg h, getR_no h]
    exact tget_no b n S.A S.E S.R vn (by omega)
theorem tlen_w (b n : Nat) (S : Ts) : HT Tryz.prog 64 [Value.pointer (some ⟨b, 0, none⟩)] [TW b n S] (fun v K => v = Value.int IntKind.i64 (((S.R.length : Nat) : Int)) ∧ K = [TW b n S]) := by
  exact ht_wi (fun W => tlen_ht b n S.A S.E S.R) (fun W => W)
theorem tdescs_w (b n : Nat) (S : Ts) (vn : Int) : HT Tryz.prog 123 [Value.pointer (some ⟨b, 0, none⟩), Value.int IntKind.i64 vn] [TW b n S] (fun v K => ∃ (p : Option Addr) (c : Nat), v = Value.tuple #[Value.slice p (((descs S.E vn).length)) c, Value.int IntKind.i64 ((nE S vn))] ∧ K = [TW b n S, Sl 144 3 p (((descs S.E vn).length)) c (fl eO (descs S.E vn))]) := by
  refine HT.wi fun W => ?_
  unfold nE
  by_cases h : 1 ≤ vn ∧ vn ≤ (S.R.length : Int)
  · rw [if_pos h]
    exact (tdescs_ok b n S.A S.E S.R vn h).post fun v K hP => by
      obtain ⟨p, c, h1, h2⟩ := hP
      exact ⟨_, ⟨p, c, h1, rfl⟩, fun g w F hs => by rw [h2] at hs; exact wi_in W hs⟩
  · rw [if_neg h, descs_nil W h]
    exact (tdescs_no b n S.A S.E S.R vn (by omega)).post fun v K hP => ⟨_, ⟨none, 0, hP.1, rfl⟩, fun g w F hs => by
      rw [hP.2] at hs
      exact wi_in W (sat_sw (sl_nil 144 3 hs))⟩
theorem tdrop_w (b n : Nat) (S : Ts) (x y z : Int) (hz0 : 0 ≤ z) (hz1 : z ≤ 4294967295) (e : Ety) (he : gget S.E y = some e) (hd : e.d = (x, y, z)) : HT Tryz.prog 124 [Value.pointer (some ⟨b, 0, none⟩), Value.agg #[Value.int IntKind.i64 x, Value.int IntKind.i64 y, Value.int IntKind.u32 z]] [TW b n S] (fun v K => v = Value.tuple #[] ∧ K = [TW b n (dropS S (x, y, z))]) := by
  refine ht_wi (fun W => ?_) (fun W => wf_drop W he hd)
  obtain ⟨q, h3, _, h4⟩ := wf_slot W he
  have hq : y.toNat = q := by omega
  rw [hd] at h4
  unfold dropS
  simp only [hq]
  exact tdrop_ht b n S.A S.E S.R x y z hz0 hz1 q (1, z) h4 ⟨h3, rfl, rfl⟩
theorem tnew_w (n : Nat) (gn : Int) (hn : 1 ≤ n ∧ n ≤ 256) (hg : 1 ≤ gn ∧ gn ≤ 4294967295) : HT Tryz.prog 41 [Value.int IntKind.i64 (((n : Nat) : Int)), Value.int IntKind.u32 gn] [] (fun v K => ∃ b : Nat, v = Value.tuple #[Value.pointer (some ⟨b, 0, none⟩), Value.int .i64 0] ∧ K = [TW b n ⟨List.replicate n (0, gn), [], []⟩]) :=
  (tnew_ok n gn hn hg).post fun v K hP => by
    obtain ⟨b, h1, h2⟩ := hP
    exact ⟨_, ⟨b, h1, rfl⟩, fun g w F hs => by rw [h2] at hs; exact wi_in (wf_new hn hg) hs⟩

end Go.Proofs.YtehlamblpekmkaaGreatDoor

/- Walks, printed by my generator P:../tab/gen21.py. -/
namespace Go.Proofs.YtehlamblpekmkaaGreatDoor
set_option maxHeartbeats 4000000
theorem seq72_neq_t {n : Nat} {l : Fr} {o : Oper} {x y : Operand} (a0 : Int) (a1 : Int) (a2 : Int) (c0 : Int) (c1 : Int) (c2 : Int) (ho : o.op = .binOp .neq 72 x y 72) (hx : fe n l x = .agg #[.int .i64 a0, .int .i64 a1, .int .u32 a2]) (hy : fe n l y = .agg #[.int .i64 c0, .int .i64 c1, .int .u32 c2]) (h : a0 = c0 ∧ a1 = c1 ∧ a2 = c2) (w : World) : (execOp (fe n l) o).run Tryz.prog w = .ok (.value (.bool false)) w := by
  obtain ⟨rfl, rfl, rfl⟩ := h
  simp [execOp, ho, hx, hy, go_sem]
theorem seq72_neq_f {n : Nat} {l : Fr} {o : Oper} {x y : Operand} (a0 : Int) (a1 : Int) (a2 : Int) (c0 : Int) (c1 : Int) (c2 : Int) (ho : o.op = .binOp .neq 72 x y 72) (hx : fe n l x = .agg #[.int .i64 a0, .int .i64 a1, .int .u32 a2]) (hy : fe n l y = .agg #[.int .i64 c0, .int .i64 c1, .int .u32 c2]) (h : ¬ (a0 = c0 ∧ a1 = c1 ∧ a2 = c2)) (w : World) : (execOp (fe n l) o).run Tryz.prog w = .ok (.value (.bool true)) w := by
  by_cases h0 : a0 = c0
  · skip
    by_cases h1 : a1 = c1
    · skip
      by_cases h2 : a2 = c2
      · exact absurd ⟨h0, h1, h2⟩ h
      · simp [execOp, ho, hx, hy, go_sem, h0, h1, h2]
    · simp [execOp, ho, hx, hy, go_sem, h0, h1]
  · simp [execOp, ho, hx, hy, go_sem, h0]
theorem tset_out (b n : Nat) (A : List Sl2) (E : Tm) (RL : List Rs) (vn x y z st why tr nx : Int) (L : List UInt8) (hz0 : 0 ≤ z) (hz1 : z ≤ 4294967295) (hm : L.length ≤ 1099511627776) (q : Nat) (r : Rs) (hr : RL[q]? = some r) (hv : vn = (q : Int) + 1) (he : resE x y z st why tr nx L = 0) (ho : ¬ (x = r.out.1 ∧ y = r.out.2.1 ∧ z = r.out.2.2)) : HT Tryz.prog 54 [pV b, iV vn, .agg #[iV x, iV y, uV z, iV st, iV why, iV tr, iV nx, .string (St L)]] [Tab b n A E RL] (fun v K => v = iV 2 ∧ K = [Tab b n A E RL]) := by
 have hq_ := (List.getElem?_eq_some_iff.1 hr).1
 refine hiS Tryz.func54 Tryz.ntmps54 fun g w0 R h0 => go [] <| nP 82 [iV x, iV y, uV z, iV st, iV why, iV tr, iV nx, .string (St L)] h0 (fun _ _ h12 => ?_)
 have h13 := tk3 (sf2 (sf1 (sf2 h12)))
 refine go [] <| cl1 Tryz.call45 (tget_ok b n A E RL vn q r hr (by omega)) h13 fun _ h15 => go [] <| nP 82 [iV 0, iV 0, uV 0, iV 0, iV 0, iV 0, iV 0, .string (St [])] h15 (fun _ _ h18 => ?_)
 refine sP [(0, iV r.out.1), (1, iV r.out.2.1), (2, uV r.out.2.2), (3, iV r.st), (4, iV r.why), (5, iV r.tr), (6, iV r.nx), (7, .string (St r.tag))] [iV r.out.1, iV r.out.2.1, uV r.out.2.2, iV r.st, iV r.why, iV r.tr, iV r.nx, .string (St r.tag)] h18 fun _ h20 => go [rd 4 0 2 0 8 h20] <| cl0 Tryz.call125 (rchk_ht x y z st why tr nx L (by omega) (by omega) (by omega)) h20 fun _ h22 => ?_
 have h25 := tk4 (sf3 (sf2 (sf3 (sf3 h22))))
 refine go [.v 5 1 (qnF ((resE x y z st why tr nx L)) 0)] <| cP Tryz.call123 (tdescs_ok b n A E RL vn (by omega)) h25 ?_
 rintro v K _ (⟨p23, c24, rfl, rfl⟩) h27
 have h28 := ap2 h27
 refine go [rd 8 1 3 0 3 h28, rd 8 3 2 0 3 h28, .s 8 4] ?_
 by_cases c29 : x = r.out.1
 ·
  by_cases c30 : y = r.out.2.1
  ·
   refine lwP (.bool true) (seq72_neq_f (x := (Operand.tmp 33)) (y := (Operand.tmp 35)) x y z r.out.1 r.out.2.1 r.out.2.2 (by kernel_rfl) (by kernel_rfl) (by kernel_rfl) (by omega) _) <| go [] ?_
   exact en (iV 2) [] ⟨_, _, rfl, ⟨rfl, rfl⟩, (tk2 (sf1 (sf4 h28)))⟩
  refine lwP (.bool true) (seq72_neq_f (x := (Operand.tmp 33)) (y := (Operand.tmp 35)) x y z r.out.1 r.out.2.1 r.out.2.2 (by kernel_rfl) (by kernel_rfl) (by kernel_rfl) (by omega) _) <| go [] ?_
  exact en (iV 2) [] ⟨_, _, rfl, ⟨rfl, rfl⟩, (tk2 (sf1 (sf4 h28)))⟩
 refine lwP (.bool true) (seq72_neq_f (x := (Operand.tmp 33)) (y := (Operand.tmp 35)) x y z r.out.1 r.out.2.1 r.out.2.2 (by kernel_rfl) (by kernel_rfl) (by kernel_rfl) (by omega) _) <| go [] ?_
 exact en (iV 2) [] ⟨_, _, rfl, ⟨rfl, rfl⟩, (tk2 (sf1 (sf4 h28)))⟩

theorem tset_tag (b n : Nat) (A : List Sl2) (E : Tm) (RL : List Rs) (vn x y z st why tr nx : Int) (L : List UInt8) (hz0 : 0 ≤ z) (hz1 : z ≤ 4294967295) (hm : L.length ≤ 1099511627776) (q : Nat) (r : Rs) (hr : RL[q]? = some r) (hv : vn = (q : Int) + 1) (he : resE x y z st why tr nx L = 0) (ho : x = r.out.1 ∧ y = r.out.2.1 ∧ z = r.out.2.2) (ht : ¬ L = r.tag) : HT Tryz.prog 54 [pV b, iV vn, .agg #[iV x, iV y, uV z, iV st, iV why, iV tr, iV nx, .string (St L)]] [Tab b n A E RL] (fun v K => v = iV 2 ∧ K = [Tab b n A E RL]) := by
 have hq_ := (List.getElem?_eq_some_iff.1 hr).1
 refine hiS Tryz.func54 Tryz.ntmps54 fun g w0 R h0 => go [] <| nP 82 [iV x, iV y, uV z, iV st, iV why, iV tr, iV nx, .string (St L)] h0 (fun _ _ h12 => ?_)
 have h13 := tk3 (sf2 (sf1 (sf2 h12)))
 refine go [] <| cl1 Tryz.call45 (tget_ok b n A E RL vn q r hr (by omega)) h13 fun _ h15 => go [] <| nP 82 [iV 0, iV 0, uV 0, iV 0, iV 0, iV 0, iV 0, .string (St [])] h15 (fun _ _ h18 => ?_)
 refine sP [(0, iV r.out.1), (1, iV r.out.2.1), (2, uV r.out.2.2), (3, iV r.st), (4, iV r.why), (5, iV r.tr), (6, iV r.nx), (7, .string (St r.tag))] [iV r.out.1, iV r.out.2.1, uV r.out.2.2, iV r.st, iV r.why, iV r.tr, iV r.nx, .string (St r.tag)] h18 fun _ h20 => go [rd 4 0 2 0 8 h20] <| cl0 Tryz.call125 (rchk_ht x y z st why tr nx L (by omega) (by omega) (by omega)) h20 fun _ h22 => ?_
 have h25 := tk4 (sf3 (sf2 (sf3 (sf3 h22))))
 refine go [.v 5 1 (qnF ((resE x y z st why tr nx L)) 0)] <| cP Tryz.call123 (tdescs_ok b n A E RL vn (by omega)) h25 ?_
 rintro v K _ (⟨p23, c24, rfl, rfl⟩) h27
 have h28 := ap2 h27
 refine go [rd 8 1 3 0 3 h28, rd 8 3 2 0 3 h28, .s 8 4] <| lwP (.bool false) (seq72_neq_t (x := (Operand.tmp 33)) (y := (Operand.tmp 35)) x y z r.out.1 r.out.2.1 r.out.2.2 (by kernel_rfl) (by kernel_rfl) (by kernel_rfl) ⟨(by omega), (by omega), (by omega)⟩ _) <| go [rd 8 7 3 7 1 h28, rd 8 9 2 7 1 h28, .s 8 10] <| lwP (.bool true) (law_neStr (t := 9) (x := (Operand.tmp 39)) (y := (Operand.tmp 41)) (a := L) (b := r.tag) (by kernel_rfl) (by kernel_rfl) (by kernel_rfl) true ((decide_eq_false ht).trans rfl) _) <| go [] ?_
 exact en (iV 2) [] ⟨_, _, rfl, ⟨rfl, rfl⟩, (tk2 (sf1 (sf4 h28)))⟩

theorem tset_state (b n : Nat) (A : List Sl2) (E : Tm) (RL : List Rs) (vn x y z st why tr nx : Int) (L : List UInt8) (hz0 : 0 ≤ z) (hz1 : z ≤ 4294967295) (hm : L.length ≤ 1099511627776) (q : Nat) (r : Rs) (hr : RL[q]? = some r) (hv : vn = (q : Int) + 1) (he : resE x y z st why tr nx L = 0) (ho : x = r.out.1 ∧ y = r.out.2.1 ∧ z = r.out.2.2) (ht : L = r.tag) (hs : st ≠ 1) (hd : 0 < (descs E vn).length) : HT Tryz.prog 54 [pV b, iV vn, .agg #[iV x, iV y, uV z, iV st, iV why, iV tr, iV nx, .string (St L)]] [Tab b n A E RL] (fun v K => v = iV 8 ∧ K = [Tab b n A E RL]) := by
 have hq_ := (List.getElem?_eq_some_iff.1 hr).1
 refine hiS Tryz.func54 Tryz.ntmps54 fun g w0 R h0 => go [] <| nP 82 [iV x, iV y, uV z, iV st, iV why, iV tr, iV nx, .string (St L)] h0 (fun _ _ h12 => ?_)
 have h13 := tk3 (sf2 (sf1 (sf2 h12)))
 refine go [] <| cl1 Tryz.call45 (tget_ok b n A E RL vn q r hr (by omega)) h13 fun _ h15 => go [] <| nP 82 [iV 0, iV 0, uV 0, iV 0, iV 0, iV 0, iV 0, .string (St [])] h15 (fun _ _ h18 => ?_)
 refine sP [(0, iV r.out.1), (1, iV r.out.2.1), (2, uV r.out.2.2), (3, iV r.st), (4, iV r.why), (5, iV r.tr), (6, iV r.nx), (7, .string (St r.tag))] [iV r.out.1, iV r.out.2.1, uV r.out.2.2, iV r.st, iV r.why, iV r.tr, iV r.nx, .string (St r.tag)] h18 fun _ h20 => go [rd 4 0 2 0 8 h20] <| cl0 Tryz.call125 (rchk_ht x y z st why tr nx L (by omega) (by omega) (by omega)) h20 fun _ h22 => ?_
 have h25 := tk4 (sf3 (sf2 (sf3 (sf3 h22))))
 refine go [.v 5 1 (qnF ((resE x y z st why tr nx L)) 0)] <| cP Tryz.call123 (tdescs_ok b n A E RL vn (by omega)) h25 ?_
 rintro v K _ (⟨p23, c24, rfl, rfl⟩) h27
 have h28 := ap2 h27
 refine go [rd 8 1 3 0 3 h28, rd 8 3 2 0 3 h28, .s 8 4] <| lwP (.bool false) (seq72_neq_t (x := (Operand.tmp 33)) (y := (Operand.tmp 35)) x y z r.out.1 r.out.2.1 r.out.2.2 (by kernel_rfl) (by kernel_rfl) (by kernel_rfl) ⟨(by omega), (by omega), (by omega)⟩ _) <| go [rd 8 7 3 7 1 h28, rd 8 9 2 7 1 h28, .s 8 10] <| lwP (.bool false) (law_neStr (t := 9) (x := (Operand.tmp 39)) (y := (Operand.tmp 41)) (a := L) (b := r.tag) (by kernel_rfl) (by kernel_rfl) (by kernel_rfl) false (decide_eq_true ht) _) <| go [rd 10 1 3 3 1 h28, .v 10 2 (qnT st 1), .v 10 6 (oT ((((descs E vn).length : Nat) : Int) > 0))] ?_
 exact en (iV 8) [] ⟨_, _, rfl, ⟨rfl, rfl⟩, (tk2 (sf1 (sf4 h28)))⟩

theorem tset_ok1 (b n : Nat) (A : List Sl2) (E : Tm) (RL : List Rs) (vn x y z st why tr nx : Int) (L : List UInt8) (hz0 : 0 ≤ z) (hz1 : z ≤ 4294967295) (hm : L.length ≤ 1099511627776) (q : Nat) (r : Rs) (hr : RL[q]? = some r) (hv : vn = (q : Int) + 1) (he : resE x y z st why tr nx L = 0) (ho : x = r.out.1 ∧ y = r.out.2.1 ∧ z = r.out.2.2) (ht : L = r.tag) (hs : st = 1) : HT Tryz.prog 54 [pV b, iV vn, .agg #[iV x, iV y, uV z, iV st, iV why, iV tr, iV nx, .string (St L)]] [Tab b n A E RL] (fun v K => v = iV 0 ∧ K = [Tab b n A E (RL.set q ⟨(x, y, z), st, why, tr, nx, L⟩)]) := by
 have hq_ := (List.getElem?_eq_some_iff.1 hr).1
 refine hiS Tryz.func54 Tryz.ntmps54 fun g w0 R h0 => go [] <| nP 82 [iV x, iV y, uV z, iV st, iV why, iV tr, iV nx, .string (St L)] h0 (fun r10 _ h12 => ?_)
 have h13 := tk3 (sf2 (sf1 (sf2 h12)))
 refine go [] <| cl1 Tryz.call45 (tget_ok b n A E RL vn q r hr (by omega)) h13 fun _ h15 => go [] <| nP 82 [iV 0, iV 0, uV 0, iV 0, iV 0, iV 0, iV 0, .string (St [])] h15 (fun r16 _ h18 => ?_)
 refine sP [(0, iV r.out.1), (1, iV r.out.2.1), (2, uV r.out.2.2), (3, iV r.st), (4, iV r.why), (5, iV r.tr), (6, iV r.nx), (7, .string (St r.tag))] [iV r.out.1, iV r.out.2.1, uV r.out.2.2, iV r.st, iV r.why, iV r.tr, iV r.nx, .string (St r.tag)] h18 fun _ h20 => go [rd 4 0 2 0 8 h20] <| cl0 Tryz.call125 (rchk_ht x y z st why tr nx L (by omega) (by omega) (by omega)) h20 fun _ h22 => ?_
 have h25 := tk4 (sf3 (sf2 (sf3 (sf3 h22))))
 refine go [.v 5 1 (qnF ((resE x y z st why tr nx L)) 0)] <| cP Tryz.call123 (tdescs_ok b n A E RL vn (by omega)) h25 ?_
 rintro v K _ (⟨p23, c24, rfl, rfl⟩) h27
 have h28 := ap2 h27
 refine go [rd 8 1 3 0 3 h28, rd 8 3 2 0 3 h28, .s 8 4] <| lwP (.bool false) (seq72_neq_t (x := (Operand.tmp 33)) (y := (Operand.tmp 35)) x y z r.out.1 r.out.2.1 r.out.2.2 (by kernel_rfl) (by kernel_rfl) (by kernel_rfl) ⟨(by omega), (by omega), (by omega)⟩ _) <| go [rd 8 7 3 7 1 h28, rd 8 9 2 7 1 h28, .s 8 10] <| lwP (.bool false) (law_neStr (t := 9) (x := (Operand.tmp 39)) (y := (Operand.tmp 41)) (a := L) (b := r.tag) (by kernel_rfl) (by kernel_rfl) (by kernel_rfl) false (decide_eq_true ht) _) <| go [rd 10 1 3 3 1 h28, .v 10 2 (qnF st 1)] <| dw (fls [0, 1, 2, 3, 4, 5, 6, 7] (Tr.an 8 Tr.nil)) h28 fun _ h30 => ?_
 obtain ⟨s31, m32, p33, c34, E35, hM36, h37⟩ := tab_open h30
 have hRl_ := hM36.2
 obtain ⟨b38, hp39⟩ := sl_ptr0 (j := 3) h37 rfl (by omega)
 refine go [rd 12 3 0 2 1 h37, .v 12 5 (oIr (vn - 1)), rd 12 6 6 0 8 h37, .s 12 7] <| lw (.pointer (some ⟨b38, q * 8, none⟩)) (fun _ => law_indexSlP (x := (Operand.tmp 56)) (i := (Operand.tmp 58)) (p := p33) (b := b38) (off := 0) (z := (vn - 1)) (len := RL.length) (cap := c34) (by kernel_rfl) Tryz.underlying33 8 (by kernel_rfl) q (by kernel_rfl) hp39 (by kernel_rfl) (by omega) (by omega) (q * 8) (by omega) _) ?_
 have h40 := tk8 (sf7 (sf6 (sf6 (sf6 (sf7 (sf7 (sf7 (sf7 h37))))))))
 refine actG ?_
 have hl43 := fl_n eRs_ok (by decide) h40
 refine an_storeSl (b := b38) [(q * 8, iV x), (q * 8 + 1, iV y), (q * 8 + 2, uV z), (q * 8 + 3, iV st), (q * 8 + 4, iV why), (q * 8 + 5, iV tr), (q * 8 + 6, iV nx), (q * 8 + 7, .string (St L))] (cs' := (fl eRs (RL.set q ⟨(x, y, z), st, why, tr, nx, L⟩))) (by kernel_rfl) (by kernel_rfl) hp39 (allq ⟨⟨by omega, rfl⟩, ⟨by omega, rfl⟩, ⟨by omega, rfl⟩, ⟨by omega, rfl⟩, ⟨by omega, rfl⟩, ⟨by omega, rfl⟩, ⟨by omega, rfl⟩, ⟨by omega, rfl⟩, trivial⟩) (by omega) (fl_upd eRs_ok (i := q) (x := r) (y := ⟨(x, y, z), st, why, tr, nx, L⟩) hr [(0, iV x), (1, iV y), (2, uV z), (3, iV st), (4, iV why), (5, iV tr), (6, iV nx), (7, .string (St L))] rfl rfl rfl) h40 ?_
 intro w41 h42
 refine ⟨kd [], nxN ?_⟩
 refine go [] ?_
 have h45 : sat g w41 [Tab b n A E (RL.set q ⟨(x, y, z), st, why, tr, nx, L⟩), Sl 144 3 p23 (((descs E vn).length)) c24 (fl eO (descs E vn)), Cl r16 [iV r.out.1, iV r.out.2.1, uV r.out.2.2, iV r.st, iV r.why, iV r.tr, iV r.nx, .string (St r.tag)] 82, Cl r10 [iV x, iV y, uV z, iV st, iV why, iV tr, iV nx, .string (St L)] 82, R] := tab_close hM36.1 (by simp only [List.length_append, List.length_set, List.length_cons, List.length_nil]; omega) (by simp only [List.length_append, List.length_set, List.length_cons, List.length_nil]) (tk8 (sf7 (sf7 (sf7 (sf4 (sf7 (sf7 (sf7 (sf7 h42)))))))))
 exact en (iV 0) [] ⟨_, _, rfl, ⟨rfl, rfl⟩, (tk2 (sf1 (sf4 h45)))⟩

theorem tset_ok2 (b n : Nat) (A : List Sl2) (E : Tm) (RL : List Rs) (vn x y z st why tr nx : Int) (L : List UInt8) (hz0 : 0 ≤ z) (hz1 : z ≤ 4294967295) (hm : L.length ≤ 1099511627776) (q : Nat) (r : Rs) (hr : RL[q]? = some r) (hv : vn = (q : Int) + 1) (he : resE x y z st why tr nx L = 0) (ho : x = r.out.1 ∧ y = r.out.2.1 ∧ z = r.out.2.2) (ht : L = r.tag) (hd : (descs E vn).length = 0) : HT Tryz.prog 54 [pV b, iV vn, .agg #[iV x, iV y, uV z, iV st, iV why, iV tr, iV nx, .string (St L)]] [Tab b n A E RL] (fun v K => v = iV 0 ∧ K = [Tab b n A E (RL.set q ⟨(x, y, z), st, why, tr, nx, L⟩)]) := by
 have hq_ := (List.getElem?_eq_some_iff.1 hr).1
 refine hiS Tryz.func54 Tryz.ntmps54 fun g w0 R h0 => go [] <| nP 82 [iV x, iV y, uV z, iV st, iV why, iV tr, iV nx, .string (St L)] h0 (fun r10 _ h12 => ?_)
 have h13 := tk3 (sf2 (sf1 (sf2 h12)))
 refine go [] <| cl1 Tryz.call45 (tget_ok b n A E RL vn q r hr (by omega)) h13 fun _ h15 => go [] <| nP 82 [iV 0, iV 0, uV 0, iV 0, iV 0, iV 0, iV 0, .string (St [])] h15 (fun r16 _ h18 => ?_)
 refine sP [(0, iV r.out.1), (1, iV r.out.2.1), (2, uV r.out.2.2), (3, iV r.st), (4, iV r.why), (5, iV r.tr), (6, iV r.nx), (7, .string (St r.tag))] [iV r.out.1, iV r.out.2.1, uV r.out.2.2, iV r.st, iV r.why, iV r.tr, iV r.nx, .string (St r.tag)] h18 fun _ h20 => go [rd 4 0 2 0 8 h20] <| cl0 Tryz.call125 (rchk_ht x y z st why tr nx L (by omega) (by omega) (by omega)) h20 fun _ h22 => ?_
 have h25 := tk4 (sf3 (sf2 (sf3 (sf3 h22))))
 refine go [.v 5 1 (qnF ((resE x y z st why tr nx L)) 0)] <| cP Tryz.call123 (tdescs_ok b n A E RL vn (by omega)) h25 ?_
 rintro v K _ (⟨p23, c24, rfl, rfl⟩) h27
 have h28 := ap2 h27
 refine go [rd 8 1 3 0 3 h28, rd 8 3 2 0 3 h28, .s 8 4] <| lwP (.bool false) (seq72_neq_t (x := (Operand.tmp 33)) (y := (Operand.tmp 35)) x y z r.out.1 r.out.2.1 r.out.2.2 (by kernel_rfl) (by kernel_rfl) (by kernel_rfl) ⟨(by omega), (by omega), (by omega)⟩ _) <| go [rd 8 7 3 7 1 h28, rd 8 9 2 7 1 h28, .s 8 10] <| lwP (.bool false) (law_neStr (t := 9) (x := (Operand.tmp 39)) (y := (Operand.tmp 41)) (a := L) (b := r.tag) (by kernel_rfl) (by kernel_rfl) (by kernel_rfl) false (decide_eq_true ht) _) <| go [rd 10 1 3 3 1 h28, .s 10 2] ?_
 by_cases c29 : st = 1
 ·
  refine go [.v 10 2 (qnF st 1)] <| dw (fls [0, 1, 2, 3, 4, 5, 6, 7] (Tr.an 8 Tr.nil)) h28 fun _ h31 => ?_
  obtain ⟨s32, m33, p34, c35, E36, hM37, h38⟩ := tab_open h31
  have hRl_ := hM37.2
  obtain ⟨b39, hp40⟩ := sl_ptr0 (j := 3) h38 rfl (by omega)
  refine go [rd 12 3 0 2 1 h38, .v 12 5 (oIr (vn - 1)), rd 12 6 6 0 8 h38, .s 12 7] <| lw (.pointer (some ⟨b39, q * 8, none⟩)) (fun _ => law_indexSlP (x := (Operand.tmp 56)) (i := (Operand.tmp 58)) (p := p34) (b := b39) (off := 0) (z := (vn - 1)) (len := RL.length) (cap := c35) (by kernel_rfl) Tryz.underlying33 8 (by kernel_rfl) q (by kernel_rfl) hp40 (by kernel_rfl) (by omega) (by omega) (q * 8) (by omega) _) ?_
  have h41 := tk8 (sf7 (sf6 (sf6 (sf6 (sf7 (sf7 (sf7 (sf7 h38))))))))
  refine actG ?_
  have hl44 := fl_n eRs_ok (by decide) h41
  refine an_storeSl (b := b39) [(q * 8, iV x), (q * 8 + 1, iV y), (q * 8 + 2, uV z), (q * 8 + 3, iV st), (q * 8 + 4, iV why), (q * 8 + 5, iV tr), (q * 8 + 6, iV nx), (q * 8 + 7, .string (St L))] (cs' := (fl eRs (RL.set q ⟨(x, y, z), st, why, tr, nx, L⟩))) (by kernel_rfl) (by kernel_rfl) hp40 (allq ⟨⟨by omega, rfl⟩, ⟨by omega, rfl⟩, ⟨by omega, rfl⟩, ⟨by omega, rfl⟩, ⟨by omega, rfl⟩, ⟨by omega, rfl⟩, ⟨by omega, rfl⟩, ⟨by omega, rfl⟩, trivial⟩) (by omega) (fl_upd eRs_ok (i := q) (x := r) (y := ⟨(x, y, z), st, why, tr, nx, L⟩) hr [(0, iV x), (1, iV y), (2, uV z), (3, iV st), (4, iV why), (5, iV tr), (6, iV nx), (7, .string (St L))] rfl rfl rfl) h41 ?_
  intro w42 h43
  refine ⟨kd [], nxN ?_⟩
  refine go [] ?_
  have h46 : sat g w42 [Tab b n A E (RL.set q ⟨(x, y, z), st, why, tr, nx, L⟩), Sl 144 3 p23 (((descs E vn).length)) c24 (fl eO (descs E vn)), Cl r16 [iV r.out.1, iV r.out.2.1, uV r.out.2.2, iV r.st, iV r.why, iV r.tr, iV r.nx, .string (St r.tag)] 82, Cl r10 [iV x, iV y, uV z, iV st, iV why, iV tr, iV nx, .string (St L)] 82, R] := tab_close hM37.1 (by simp only [List.length_append, List.length_set, List.length_cons, List.length_nil]; omega) (by simp only [List.length_append, List.length_set, List.length_cons, List.length_nil]) (tk8 (sf7 (sf7 (sf7 (sf4 (sf7 (sf7 (sf7 (sf7 h43)))))))))
  exact en (iV 0) [] ⟨_, _, rfl, ⟨rfl, rfl⟩, (tk2 (sf1 (sf4 h46)))⟩
 refine go [.v 10 2 (qnT st 1), .v 10 6 (oF ((((descs E vn).length : Nat) : Int) > 0))] <| dw (fls [0, 1, 2, 3, 4, 5, 6, 7] (Tr.an 8 Tr.nil)) h28 fun _ h49 => ?_
 obtain ⟨s50, m51, p52, c53, E54, hM55, h56⟩ := tab_open h49
 have hRl_ := hM55.2
 obtain ⟨b57, hp58⟩ := sl_ptr0 (j := 3) h56 rfl (by omega)
 refine go [rd 12 3 0 2 1 h56, .v 12 5 (oIr (vn - 1)), rd 12 6 6 0 8 h56, .s 12 7] <| lw (.pointer (some ⟨b57, q * 8, none⟩)) (fun _ => law_indexSlP (x := (Operand.tmp 56)) (i := (Operand.tmp 58)) (p := p52) (b := b57) (off := 0) (z := (vn - 1)) (len := RL.length) (cap := c53) (by kernel_rfl) Tryz.underlying33 8 (by kernel_rfl) q (by kernel_rfl) hp58 (by kernel_rfl) (by omega) (by omega) (q * 8) (by omega) _) ?_
 have h59 := tk8 (sf7 (sf6 (sf6 (sf6 (sf7 (sf7 (sf7 (sf7 h56))))))))
 refine actG ?_
 have hl62 := fl_n eRs_ok (by decide) h59
 refine an_storeSl (b := b57) [(q * 8, iV x), (q * 8 + 1, iV y), (q * 8 + 2, uV z), (q * 8 + 3, iV st), (q * 8 + 4, iV why), (q * 8 + 5, iV tr), (q * 8 + 6, iV nx), (q * 8 + 7, .string (St L))] (cs' := (fl eRs (RL.set q ⟨(x, y, z), st, why, tr, nx, L⟩))) (by kernel_rfl) (by kernel_rfl) hp58 (allq ⟨⟨by omega, rfl⟩, ⟨by omega, rfl⟩, ⟨by omega, rfl⟩, ⟨by omega, rfl⟩, ⟨by omega, rfl⟩, ⟨by omega, rfl⟩, ⟨by omega, rfl⟩, ⟨by omega, rfl⟩, trivial⟩) (by omega) (fl_upd eRs_ok (i := q) (x := r) (y := ⟨(x, y, z), st, why, tr, nx, L⟩) hr [(0, iV x), (1, iV y), (2, uV z), (3, iV st), (4, iV why), (5, iV tr), (6, iV nx), (7, .string (St L))] rfl rfl rfl) h59 ?_
 intro w60 h61
 refine ⟨kd [], nxN ?_⟩
 refine go [] ?_
 have h64 : sat g w60 [Tab b n A E (RL.set q ⟨(x, y, z), st, why, tr, nx, L⟩), Sl 144 3 p23 (((descs E vn).length)) c24 (fl eO (descs E vn)), Cl r16 [iV r.out.1, iV r.out.2.1, uV r.out.2.2, iV r.st, iV r.why, iV r.tr, iV r.nx, .string (St r.tag)] 82, Cl r10 [iV x, iV y, uV z, iV st, iV why, iV tr, iV nx, .string (St L)] 82, R] := tab_close hM55.1 (by simp only [List.length_append, List.length_set, List.length_cons, List.length_nil]; omega) (by simp only [List.length_append, List.length_set, List.length_cons, List.length_nil]) (tk8 (sf7 (sf7 (sf7 (sf4 (sf7 (sf7 (sf7 (sf7 h61)))))))))
 exact en (iV 0) [] ⟨_, _, rfl, ⟨rfl, rfl⟩, (tk2 (sf1 (sf4 h64)))⟩

end Go.Proofs.YtehlamblpekmkaaGreatDoor
