/- Walks, printed by my generator z14.py. -/
import Derived.Test.YtjjpmehiolejgaaGreatBundle37
namespace Go.Proofs.YtjjpmehiolejgaaGreat
theorem qz14e25_neq_t {n : Nat} {l : Fr} {o : Oper} {x y : Operand} (a0 : Int) (a1 : Int) (a2 : Int) (c0 : Int) (c1 : Int) (c2 : Int) (ho : o.op = .binOp .neq 25 x y 25) (hx : fe n l x = .agg #[.int .i64 a0, .int .i64 a1, .int .u32 a2]) (hy : fe n l y = .agg #[.int .i64 c0, .int .i64 c1, .int .u32 c2]) (h : a0 = c0 ∧ a1 = c1 ∧ a2 = c2) (w : World) : (execOp (fe n l) o).run Tryz.prog w = .ok (.value (.bool false)) w := by
  obtain ⟨rfl, rfl, rfl⟩ := h
  simp [execOp, ho, hx, hy, go_sem]
set_option maxHeartbeats 4000000 in
theorem zeqd_ht (p p3 : Option Addr) (c c3 : Nat) (D : List Ky) (hl : D.length ≤ 100000) : HT Tryz.prog 16 [Value.slice p D.length c, Value.slice p3 D.length c3] [Sl 25 3 p D.length c (fl eO D), Sl 25 3 p3 D.length c3 (fl eO D)] (fun v K => v = Value.bool true ∧ K = [Sl 25 3 p D.length c (fl eO D), Sl 25 3 p3 D.length c3 (fl eO D)]) := by
 refine hiS Tryz.func16 Tryz.ntmps16 fun g w0 R h0 => go [.v 1 4 (nF (((D.length : Nat) : Int)) (((D.length : Nat) : Int)))] ?_
 refine lpS (fun mz_ a w => ∃ k : Nat, ∃ lr : Fr, mz_ = D.length - k ∧ (k ≤ D.length) ∧ a = mk 26 (([(0, .slice p D.length c), (1, .slice p3 D.length c3), (5, iV (k : Int))] : Fr) ++ lr) ∧ sat g w [Sl 25 3 p D.length c (fl eO D), Sl 25 3 p3 D.length c3 (fl eO D), R]) (D.length - 0) ⟨0, _, rfl, (by omega), (lvF [.k 0 (.slice p D.length c), .k 1 (.slice p3 D.length c3), .o 5 (oJ .i64 0 (0 : Int))]), h0⟩ ?_
 rintro m11 a12 w13 ⟨k, lr10, rfl, hk_, rfl, h14⟩
 refine ga <| go [.s 4 3] ?_
 by_cases c15 : (k : Int) < ((D.length : Nat) : Int)
 ·
  refine go [.v 4 3 (oT ((k : Int) < ((D.length : Nat) : Int)))] <| dw (fls [0, 1, 2, 3, 4, 5, 6, 7, 8] Tr.nil) h14 fun w16 h17 => ?_
  obtain ⟨b18, hp19⟩ := sl_ptr0 (j := 0) h17 rfl (by omega)
  refine go [.s 6 2] <| lw (.pointer (some ⟨b18, k * 3, none⟩)) (fun _ => law_indexSlP (x := (Operand.tmp 17)) (i := (Operand.tmp 18)) (p := p) (b := b18) (off := 0) (z := (k : Int)) (len := D.length) (cap := c) (by kernel_rfl) Tryz.underlying48 3 (by kernel_rfl) k (by kernel_rfl) hp19 (by kernel_rfl) (by omega) (by omega) (k * 3) (by omega) _) ?_
  obtain ⟨x20, hx21⟩ : ∃ x, D[k]? = some x := ⟨_, List.getElem?_eq_getElem (by omega)⟩
  obtain ⟨b22, hp23⟩ := sl_ptr0 (j := 1) h17 rfl (by omega)
  refine go [.r 6 3 b18 (k * 3) [iV x20.1, iV x20.2.1, uV x20.2.2] ⟨gv_cell (j := 0) h17 rfl (gv_sl _ _ _) hp19 (fl_get eO_ok (j := 0) (v := iV x20.1) hx21 rfl) (k * 3) (by omega), gv_cell (j := 0) h17 rfl (gv_sl _ _ _) hp19 (fl_get eO_ok (j := 1) (v := iV x20.2.1) hx21 rfl) (k * 3 + 1) (by omega), gv_cell (j := 0) h17 rfl (gv_sl _ _ _) hp19 (fl_get eO_ok (j := 2) (v := uV x20.2.2) hx21 rfl) (k * 3 + 2) (by omega), trivial⟩, .s 6 6] <| lw (.pointer (some ⟨b22, k * 3, none⟩)) (fun _ => law_indexSlP (x := (Operand.tmp 21)) (i := (Operand.tmp 22)) (p := p3) (b := b22) (off := 0) (z := (k : Int)) (len := D.length) (cap := c3) (by kernel_rfl) Tryz.underlying48 3 (by kernel_rfl) k (by kernel_rfl) hp23 (by kernel_rfl) (by omega) (by omega) (k * 3) (by omega) _) <| go [.r 6 7 b22 (k * 3) [iV x20.1, iV x20.2.1, uV x20.2.2] ⟨gv_cell (j := 1) h17 rfl (gv_sl _ _ _) hp23 (fl_get eO_ok (j := 0) (v := iV x20.1) hx21 rfl) (k * 3) (by omega), gv_cell (j := 1) h17 rfl (gv_sl _ _ _) hp23 (fl_get eO_ok (j := 1) (v := iV x20.2.1) hx21 rfl) (k * 3 + 1) (by omega), gv_cell (j := 1) h17 rfl (gv_sl _ _ _) hp23 (fl_get eO_ok (j := 2) (v := uV x20.2.2) hx21 rfl) (k * 3 + 2) (by omega), trivial⟩, .s 6 8] <| lw (.bool false) (fun _ => qz14e25_neq_t (x := (Operand.tmp 20)) (y := (Operand.tmp 24)) x20.1 x20.2.1 x20.2.2 x20.1 x20.2.1 x20.2.2 (by kernel_rfl) (by kernel_rfl) (by kernel_rfl) ⟨rfl, rfl, rfl⟩ _) <| go [.v 5 1 (oIr ((k : Int) + 1))] ?_
  refine enL ?_
  change ∃ n', n' < _ ∧ _
  refine ⟨(D.length - (k + 1)), by omega, (k + 1), _, rfl, (by omega), (lvF [.k 0 (.slice p D.length c), .k 1 (.slice p3 D.length c3), .o 5 (oJ .i64 ((k : Int) + 1) ((((k + 1) : Nat) : Int)))]), h17⟩
 refine go [.v 4 3 (oF ((k : Int) < ((D.length : Nat) : Int)))] <| up <| go [] ?_
 exact en (.bool true) [] ⟨_, _, rfl, ⟨rfl, rfl⟩, h14⟩

set_option maxHeartbeats 4000000 in
theorem zeqi_ht (p p3 : Option Addr) (c c3 : Nat) (D : List Int) (hl : D.length ≤ 100000) : HT Tryz.prog 64 [Value.slice p D.length c, Value.slice p3 D.length c3] [Sl 3 1 p D.length c (fl eI D), Sl 3 1 p3 D.length c3 (fl eI D)] (fun v K => v = Value.bool true ∧ K = [Sl 3 1 p D.length c (fl eI D), Sl 3 1 p3 D.length c3 (fl eI D)]) := by
 refine hiS Tryz.func64 Tryz.ntmps64 fun g w0 R h0 => go [.v 1 4 (nF (((D.length : Nat) : Int)) (((D.length : Nat) : Int)))] ?_
 refine lpS (fun mz_ a w => ∃ k : Nat, ∃ lr : Fr, mz_ = D.length - k ∧ (k ≤ D.length) ∧ a = mk 26 (([(0, .slice p D.length c), (1, .slice p3 D.length c3), (5, iV (k : Int))] : Fr) ++ lr) ∧ sat g w [Sl 3 1 p D.length c (fl eI D), Sl 3 1 p3 D.length c3 (fl eI D), R]) (D.length - 0) ⟨0, _, rfl, (by omega), (lvF [.k 0 (.slice p D.length c), .k 1 (.slice p3 D.length c3), .o 5 (oJ .i64 0 (0 : Int))]), h0⟩ ?_
 rintro m11 a12 w13 ⟨k, lr10, rfl, hk_, rfl, h14⟩
 refine ga <| go [.s 4 3] ?_
 by_cases c15 : (k : Int) < ((D.length : Nat) : Int)
 ·
  refine go [.v 4 3 (oT ((k : Int) < ((D.length : Nat) : Int)))] <| dw (fls [0, 1, 2, 3, 4, 5, 6, 7, 8] Tr.nil) h14 fun w16 h17 => ?_
  obtain ⟨b18, hp19⟩ := sl_ptr0 (j := 0) h17 rfl (by omega)
  refine go [.s 6 2] <| lw (.pointer (some ⟨b18, k, none⟩)) (fun _ => law_indexSlP (x := (Operand.tmp 17)) (i := (Operand.tmp 18)) (p := p) (b := b18) (off := 0) (z := (k : Int)) (len := D.length) (cap := c) (by kernel_rfl) Tryz.underlying108 1 (by kernel_rfl) k (by kernel_rfl) hp19 (by kernel_rfl) (by omega) (by omega) k (by omega) _) ?_
  obtain ⟨x20, hx21⟩ : ∃ x, D[k]? = some x := ⟨_, List.getElem?_eq_getElem (by omega)⟩
  obtain ⟨b22, hp23⟩ := sl_ptr0 (j := 1) h17 rfl (by omega)
  refine go [.r 6 3 b18 k [iV x20] ⟨gv_cell (j := 0) h17 rfl (gv_sl _ _ _) hp19 (fl_get eI_ok (j := 0) (v := iV x20) hx21 rfl) k (by omega), trivial⟩, .s 6 6] <| lw (.pointer (some ⟨b22, k, none⟩)) (fun _ => law_indexSlP (x := (Operand.tmp 21)) (i := (Operand.tmp 22)) (p := p3) (b := b22) (off := 0) (z := (k : Int)) (len := D.length) (cap := c3) (by kernel_rfl) Tryz.underlying108 1 (by kernel_rfl) k (by kernel_rfl) hp23 (by kernel_rfl) (by omega) (by omega) k (by omega) _) <| go [.r 6 7 b22 k [iV x20] ⟨gv_cell (j := 1) h17 rfl (gv_sl _ _ _) hp23 (fl_get eI_ok (j := 0) (v := iV x20) hx21 rfl) k (by omega), trivial⟩, .v 6 8 (nF x20 x20), .v 5 1 (oIr ((k : Int) + 1))] ?_
  refine enL ?_
  change ∃ n', n' < _ ∧ _
  refine ⟨(D.length - (k + 1)), by omega, (k + 1), _, rfl, (by omega), (lvF [.k 0 (.slice p D.length c), .k 1 (.slice p3 D.length c3), .o 5 (oJ .i64 ((k : Int) + 1) ((((k + 1) : Nat) : Int)))]), h17⟩
 refine go [.v 4 3 (oF ((k : Int) < ((D.length : Nat) : Int)))] <| up <| go [] ?_
 exact en (.bool true) [] ⟨_, _, rfl, ⟨rfl, rfl⟩, h14⟩

end Go.Proofs.YtjjpmehiolejgaaGreat

/- Walks, printed by my generator ../tab/gen25.py. -/
namespace Go.Proofs.YtjjpmehiolejgaaGreat
theorem tset_w (b n : Nat) (S : Ts) (vn x y z st why tr nx : Int) (L : List UInt8) (hz0 : 0 ≤ z) (hz1 : z ≤ 4294967295) (hm : L.length ≤ 1099511627776) : HT Tryz.prog 17 [Value.pointer (some ⟨b, 0, none⟩), Value.int IntKind.i64 vn, Value.agg #[Value.int IntKind.i64 x, Value.int IntKind.i64 y, Value.int IntKind.u32 z, Value.int IntKind.i64 st, Value.int IntKind.i64 why, Value.int IntKind.i64 tr, Value.int IntKind.i64 nx, Value.string (St L)]] [TW b n S] (fun v K => v = Value.int .i64 (setE S vn ⟨(x, y, z), st, why, tr, nx, L⟩) ∧ K = [TW b n (setS S vn ⟨(x, y, z), st, why, tr, nx, L⟩)]) := by
  refine ht_wi (fun W => ?_) (fun W => wf_set W _ _)
  have bad : ∀ e : Int, setE S vn ⟨(x, y, z), st, why, tr, nx, L⟩ = e → e ≠ 0 → HT Tryz.prog 17 [Value.pointer (some ⟨b, 0, none⟩), Value.int IntKind.i64 vn, Value.agg #[Value.int IntKind.i64 x, Value.int IntKind.i64 y, Value.int IntKind.u32 z, Value.int IntKind.i64 st, Value.int IntKind.i64 why, Value.int IntKind.i64 tr, Value.int IntKind.i64 nx, Value.string (St L)]] [Tab b n S.A S.E S.R] (fun v K => v = Value.int .i64 e ∧ K = [Tab b n S.A S.E S.R]) → HT Tryz.prog 17 [Value.pointer (some ⟨b, 0, none⟩), Value.int IntKind.i64 vn, Value.agg #[Value.int IntKind.i64 x, Value.int IntKind.i64 y, Value.int IntKind.u32 z, Value.int IntKind.i64 st, Value.int IntKind.i64 why, Value.int IntKind.i64 tr, Value.int IntKind.i64 nx, Value.string (St L)]] [Tab b n S.A S.E S.R] (fun v K => v = Value.int .i64 (setE S vn ⟨(x, y, z), st, why, tr, nx, L⟩) ∧ K = [Tab b n (setS S vn ⟨(x, y, z), st, why, tr, nx, L⟩).A (setS S vn ⟨(x, y, z), st, why, tr, nx, L⟩).E (setS S vn ⟨(x, y, z), st, why, tr, nx, L⟩).R]) := fun e h1 h2 h3 => by
    rw [set_bad h1 h2, h1]
    exact h3
  by_cases hv : 1 ≤ vn ∧ vn ≤ (S.R.length : Int)
  · have hn0 : nE S vn = 0 := if_pos hv
    have hg := getR_at hv
    have hq : vn = ((vn - 1).toNat : Int) + 1 := by omega
    have hres : resR ⟨(x, y, z), st, why, tr, nx, L⟩ = resE x y z st why tr nx L := rfl
    by_cases hr : resE x y z st why tr nx L = 0
    · by_cases ho : ((x, y, z) : Ky) = (getR S vn).out
      · have ho3 : x = (getR S vn).out.1 ∧ y = (getR S vn).out.2.1 ∧ z = (getR S vn).out.2.2 := by rw [← ho]; exact ⟨rfl, rfl, rfl⟩
        by_cases ht : L = (getR S vn).tag
        · have hnn : ¬ ((⟨(x, y, z), st, why, tr, nx, L⟩ : Rs).out ≠ (getR S vn).out ∨ (⟨(x, y, z), st, why, tr, nx, L⟩ : Rs).tag ≠ (getR S vn).tag) := fun h => h.elim (fun h => h ho) (fun h => h ht)
          by_cases hs : st = 1
          · have h0 : setE S vn ⟨(x, y, z), st, why, tr, nx, L⟩ = 0 := by unfold setE; rw [if_neg (by omega), if_neg (by omega), if_neg hnn, if_neg (fun h => h.1 hs)]
            have hS : setS S vn ⟨(x, y, z), st, why, tr, nx, L⟩ = ⟨S.A, S.E, S.R.set (vn - 1).toNat ⟨(x, y, z), st, why, tr, nx, L⟩⟩ := by unfold setS; rw [if_pos h0]
            rw [h0, hS]
            exact tset_ok1 b n S.A S.E S.R vn x y z st why tr nx L hz0 hz1 hm _ _ hg hq hr ho3 ht hs
          · by_cases hd : 0 < (descs S.E vn).length
            · exact bad 8 (by unfold setE; rw [if_neg (by omega), if_neg (by omega), if_neg hnn, if_pos ⟨hs, hd⟩]) (by omega) (tset_state b n S.A S.E S.R vn x y z st why tr nx L hz0 hz1 hm _ _ hg hq hr ho3 ht hs hd)
            · have h0 : setE S vn ⟨(x, y, z), st, why, tr, nx, L⟩ = 0 := by unfold setE; rw [if_neg (by omega), if_neg (by omega), if_neg hnn, if_neg (fun h => hd h.2)]
              have hS : setS S vn ⟨(x, y, z), st, why, tr, nx, L⟩ = ⟨S.A, S.E, S.R.set (vn - 1).toNat ⟨(x, y, z), st, why, tr, nx, L⟩⟩ := by unfold setS; rw [if_pos h0]
              rw [h0, hS]
              exact tset_ok2 b n S.A S.E S.R vn x y z st why tr nx L hz0 hz1 hm _ _ hg hq hr ho3 ht (by omega)
        · exact bad 2 (by unfold setE; rw [if_neg (by omega), if_neg (by omega), if_pos (.inr ht)]) (by omega) (tset_tag b n S.A S.E S.R vn x y z st why tr nx L hz0 hz1 hm _ _ hg hq hr ho3 ht)
      · exact bad 2 (by unfold setE; rw [if_neg (by omega), if_neg (by omega), if_pos (.inl ho)]) (by omega) (tset_out b n S.A S.E S.R vn x y z st why tr nx L hz0 hz1 hm _ _ hg hq hr (fun h => ho (Prod.ext h.1 (Prod.ext h.2.1 h.2.2))))
    · have h1 : setE S vn ⟨(x, y, z), st, why, tr, nx, L⟩ = resE x y z st why tr nx L := by unfold setE; rw [if_neg (by omega), if_pos (by omega), hres]
      exact bad _ h1 hr (tset_chk b n S.A S.E S.R vn x y z st why tr nx L hz0 hz1 hm _ _ hg hq hr)
  · have h1 : nE S vn = 3 := if_neg hv
    exact bad 3 (by unfold setE; rw [if_pos (by omega)]) (by omega) (tset_no b n S.A S.E S.R vn x y z st why tr nx L (by omega))
theorem tnums_w (b n : Nat) (S : Ts) (vn : Int) : HT Tryz.prog 65 [Value.pointer (some ⟨b, 0, none⟩), Value.int IntKind.i64 vn] [TW b n S] (fun v K => ∃ (p : Option Addr) (c : Nat), v = Value.slice p (((nums S.R vn).length)) c ∧ K = [TW b n S, Sl 3 1 p (((nums S.R vn).length)) c (fl eI (nums S.R vn))]) :=
  HT.wi fun W => (tnums_ht b n S.A S.E S.R vn).post fun v K hP => by
    obtain ⟨p, c, h1, h2⟩ := hP
    exact ⟨_, ⟨p, c, h1, rfl⟩, fun g w F hs => by rw [h2] at hs; exact wi_in W hs⟩
theorem tcopy_w (b n : Nat) (S : Ts) : HT Tryz.prog 20 [Value.pointer (some ⟨b, 0, none⟩)] [TW b n S] (fun v K => ∃ b2 : Nat, v = Value.pointer (some ⟨b2, 0, none⟩) ∧ K = [TW b n S, TW b2 n S]) :=
  HT.wi fun W => (tcopy_ht b n S.A S.E S.R).post fun v K hP => by
    obtain ⟨b2, h1, h2⟩ := hP
    exact ⟨_, ⟨b2, h1, rfl⟩, fun g w F hs => by rw [h2] at hs; exact wi_in W (sat_sw (wi_in W (sat_sw hs)))⟩
end Go.Proofs.YtjjpmehiolejgaaGreat

/- Walks, printed by my generator z15.py. -/
namespace Go.Proofs.YtjjpmehiolejgaaGreat
theorem qz15e25_neq_t {n : Nat} {l : Fr} {o : Oper} {x y : Operand} (a0 : Int) (a1 : Int) (a2 : Int) (c0 : Int) (c1 : Int) (c2 : Int) (ho : o.op = .binOp .neq 25 x y 25) (hx : fe n l x = .agg #[.int .i64 a0, .int .i64 a1, .int .u32 a2]) (hy : fe n l y = .agg #[.int .i64 c0, .int .i64 c1, .int .u32 c2]) (h : a0 = c0 ∧ a1 = c1 ∧ a2 = c2) (w : World) : (execOp (fe n l) o).run Tryz.prog w = .ok (.value (.bool false)) w := by
  obtain ⟨rfl, rfl, rfl⟩ := h
  simp [execOp, ho, hx, hy, go_sem]
theorem qz15e38_neq_t {n : Nat} {l : Fr} {o : Oper} {x y : Operand} (a0 : Int) (a1 : Int) (c0 : Int) (c1 : Int) (ho : o.op = .binOp .neq 38 x y 38) (hx : fe n l x = .agg #[.int .i64 a0, .int .u32 a1]) (hy : fe n l y = .agg #[.int .i64 c0, .int .u32 c1]) (h : a0 = c0 ∧ a1 = c1) (w : World) : (execOp (fe n l) o).run Tryz.prog w = .ok (.value (.bool false)) w := by
  obtain ⟨rfl, rfl⟩ := h
  simp [execOp, ho, hx, hy, go_sem]
theorem qz15e54_neq_t {n : Nat} {l : Fr} {o : Oper} {x y : Operand} (a0 : Int) (a1 : Int) (a2 : Int) (a3 : Int) (a4 : Int) (a5 : Int) (a6 : Int) (a7 : List UInt8) (c0 : Int) (c1 : Int) (c2 : Int) (c3 : Int) (c4 : Int) (c5 : Int) (c6 : Int) (c7 : List UInt8) (ho : o.op = .binOp .neq 54 x y 54) (hx : fe n l x = .agg #[.int .i64 a0, .int .i64 a1, .int .u32 a2, .int .i64 a3, .int .i64 a4, .int .i64 a5, .int .i64 a6, .string (St a7)]) (hy : fe n l y = .agg #[.int .i64 c0, .int .i64 c1, .int .u32 c2, .int .i64 c3, .int .i64 c4, .int .i64 c5, .int .i64 c6, .string (St c7)]) (h : a0 = c0 ∧ a1 = c1 ∧ a2 = c2 ∧ a3 = c3 ∧ a4 = c4 ∧ a5 = c5 ∧ a6 = c6 ∧ a7 = c7) (w : World) : (execOp (fe n l) o).run Tryz.prog w = .ok (.value (.bool false)) w := by
  obtain ⟨rfl, rfl, rfl, rfl, rfl, rfl, rfl, rfl⟩ := h
  simp [execOp, ho, hx, hy, go_sem]
set_option maxHeartbeats 4000000 in
theorem ref_ht (x y z st why tr nx : Int) (L : List UInt8) : HT Tryz.prog 19 [Value.agg #[Value.int IntKind.i64 x, Value.int IntKind.i64 y, Value.int IntKind.u32 z, Value.int IntKind.i64 st, Value.int IntKind.i64 why, Value.int IntKind.i64 tr, Value.int IntKind.i64 nx, Value.string (St L)]] [] (fun v K => v = Value.agg #[Value.int IntKind.i64 x, Value.int IntKind.i64 y, Value.int IntKind.u32 z, Value.int IntKind.i64 st, Value.int IntKind.i64 why, Value.int IntKind.i64 tr, Value.int IntKind.i64 nx, Value.string (St L)] ∧ K = []) := by
 refine hiS Tryz.func19 Tryz.ntmps19 fun g w0 R h0 => go [] <| nP 40 [iV x, iV y, uV z, iV st, iV why, iV tr, iV nx, .string (St L)] h0 (fun r10 w11 h12 => ?_)
 refine nP 54 [iV 0, iV 0, uV 0, iV 0, iV 0, iV 0, iV 0, .string (St [])] h12 (fun r13 w14 h15 => ?_)
 refine go [rd 1 1 1 0 3 h15, rd 1 3 1 3 1 h15, rd 1 5 1 4 1 h15, rd 1 7 1 5 1 h15, rd 1 9 1 6 1 h15, rd 1 11 1 7 1 h15] <| sP [(0, iV x), (1, iV y), (2, uV z), (3, iV st), (4, iV why), (5, iV tr), (6, iV nx), (7, .string (St L))] [iV x, iV y, uV z, iV st, iV why, iV tr, iV nx, .string (St L)] h15 fun w16 h17 => go [] ?_
 exact en (.agg #[iV x, iV y, uV z, iV st, iV why, iV tr, iV nx, .string (St L)]) [rd 0 0 0 0 8 h17] ⟨_, _, rfl, ⟨rfl, rfl⟩, (tk1 (sf2 h17))⟩

theorem nums_le {n : Nat} {S : Ts} (W : Wf n S) (st : Int) : (nums S.R st).length ≤ 2000 := by
  have h1 := W.rl
  have h2 : (nums S.R st).length ≤ S.R.length := by
    unfold nums numsT
    rw [List.length_map]
    exact Nat.le_trans (List.length_filter_le _ _) (by rw [List.length_range]; exact Nat.le_refl _)
  omega
set_option maxHeartbeats 4000000 in
theorem alike_ht (t r n : Nat) (S : Ts) (d0 d1 d2 vn : Int) (hz : 0 ≤ d2) (hz1 : d2 ≤ 4294967295) : HT Tryz.prog 22 [Value.pointer (some ⟨t, 0, none⟩), Value.pointer (some ⟨r, 0, none⟩), Value.agg #[Value.int IntKind.i64 d0, Value.int IntKind.i64 d1, Value.int IntKind.u32 d2], Value.int IntKind.i64 vn] [TW t n S, Zr r n S.A (allE S.E) S.R] (fun v K => v = Value.bool true ∧ K = [TW t n S, Zr r n S.A (allE S.E) S.R]) := by
 refine hiS Tryz.func22 Tryz.ntmps22 fun g w0 R h0 => go [] <| nP 25 [iV d0, iV d1, uV d2] h0 (fun r10 w11 h12 => ?_)
 have h13 := tk4 (sf3 (sf2 (sf3 (sf3 h12))))
 refine go [rd 1 1 0 0 3 h12] <| cl1 Tryz.call25 (tnum_w t n S d0 d1 d2 (by omega) (by omega)) h13 fun w14 h15 => ?_
 have hW16 := (wi_out h15).1
 have h17 := tk4 (sf3 (sf2 (sf2 (sf3 h15))))
 refine go [rd 2 1 1 0 3 h15] <| cl1 Tryz.call56 (znf_ht r n S hW16 d0 d1 d2 (by omega)) h17 fun w18 h19 => ?_
 have h20 := tk4 (sf3 (sf2 (sf3 (sf3 h19))))
 refine go [rd 3 1 2 0 3 h19] <| cl1 Tryz.call57 (thnd_w t n S d0 d1 d2 (by omega) (by omega)) h20 fun w21 h22 => go [] <| nP 38 [iV 0, uV 0] h22 (fun r23 w24 h25 => ?_)
 refine sP [(0, iV ((fndX S (d0, d1, d2)).h.1)), (1, uV ((fndX S (d0, d1, d2)).h.2))] [iV ((fndX S (d0, d1, d2)).h.1), uV ((fndX S (d0, d1, d2)).h.2)] h25 fun w26 h27 => ?_
 have h28 := tk5 (sf4 (sf3 (sf3 (sf4 (sf4 h27)))))
 refine go [rd 4 1 3 0 3 h27] <| cl1 Tryz.call58 (zhd_ht r n S hW16 d0 d1 d2 (by omega)) h28 fun w29 h30 => go [] <| nP 38 [iV 0, uV 0] h30 (fun r31 w32 h33 => ?_)
 refine sP [(0, iV ((fndX S (d0, d1, d2)).h.1)), (1, uV ((fndX S (d0, d1, d2)).h.2))] [iV ((fndX S (d0, d1, d2)).h.1), uV ((fndX S (d0, d1, d2)).h.2)] h33 fun w34 h35 => ?_
 have h36 := tk6 (sf5 (sf4 (sf4 (sf4 (sf5 (sf5 h35))))))
 refine go [rd 5 2 4 1 1 h35] <| cl1 Tryz.call59 (tat_w t n S d1) h36 fun w37 h38 => go [] <| nP 25 [iV 0, iV 0, uV 0] h38 (fun r39 w40 h41 => ?_)
 refine sP [(0, iV (((atX S d1).d).1)), (1, iV (((atX S d1).d).2.1)), (2, uV (((atX S d1).d).2.2))] [iV (((atX S d1).d).1), iV (((atX S d1).d).2.1), uV (((atX S d1).d).2.2)] h41 fun w42 h43 => ?_
 have h44 := tk7 (sf6 (sf5 (sf5 (sf5 (sf6 (sf6 (sf6 h43)))))))
 refine go [rd 6 2 5 1 1 h43] <| cl1 Tryz.call60 (zat_ht r n S hW16 d1) h44 fun w45 h46 => go [] <| nP 25 [iV 0, iV 0, uV 0] h46 (fun r47 w48 h49 => ?_)
 refine sP [(0, iV (((atX S d1).d).1)), (1, iV (((atX S d1).d).2.1)), (2, uV (((atX S d1).d).2.2))] [iV (((atX S d1).d).1), iV (((atX S d1).d).2.1), uV (((atX S d1).d).2.2)] h49 fun w50 h51 => ?_
 have h52 := tk8 (sf7 (sf6 (sf6 (sf6 (sf7 (sf7 (sf7 (sf7 h51))))))))
 refine go [] <| cl1 Tryz.call49 (tget_w t n S vn) h52 fun w53 h54 => go [] <| nP 40 [iV 0, iV 0, uV 0, iV 0, iV 0, iV 0, iV 0, .string (St [])] h54 (fun r55 w56 h57 => ?_)
 refine sP [(0, iV ((getR S vn).out.1)), (1, iV ((getR S vn).out.2.1)), (2, uV ((getR S vn).out.2.2)), (3, iV ((getR S vn).st)), (4, iV ((getR S vn).why)), (5, iV ((getR S vn).tr)), (6, iV ((getR S vn).nx)), (7, .string (St ((getR S vn).tag)))] [iV ((getR S vn).out.1), iV ((getR S vn).out.2.1), uV ((getR S vn).out.2.2), iV ((getR S vn).st), iV ((getR S vn).why), iV ((getR S vn).tr), iV ((getR S vn).nx), .string (St ((getR S vn).tag))] h57 fun w58 h59 => ?_
 have h60 := tk9 (sf8 (sf7 (sf7 (sf7 (sf8 (sf8 (sf8 (sf8 (sf8 h59)))))))))
 refine go [] <| cl1 Tryz.call51 (zget_ht r n S vn) h60 fun w61 h62 => go [] <| nP 54 [iV 0, iV 0, uV 0, iV 0, iV 0, iV 0, iV 0, .string (St [])] h62 (fun r63 w64 h65 => ?_)
 refine sP [(0, iV ((getR S vn).out.1)), (1, iV ((getR S vn).out.2.1)), (2, uV ((getR S vn).out.2.2)), (3, iV ((getR S vn).st)), (4, iV ((getR S vn).why)), (5, iV ((getR S vn).tr)), (6, iV ((getR S vn).nx)), (7, .string (St ((getR S vn).tag)))] [iV ((getR S vn).out.1), iV ((getR S vn).out.2.1), uV ((getR S vn).out.2.2), iV ((getR S vn).st), iV ((getR S vn).why), iV ((getR S vn).tr), iV ((getR S vn).nx), .string (St ((getR S vn).tag))] h65 fun w66 h67 => ?_
 have h70 := tk10 (sf9 (sf8 (sf8 (sf8 (sf9 (sf9 (sf9 (sf9 (sf9 (sf9 h67))))))))))
 refine go [] <| cP Tryz.call46 (tdescs_w t n S vn) h70 ?_
 rintro v K w71 (⟨p68, c69, rfl, rfl⟩) h72
 have h76 := tk11 (sf10 (sf9 (sf9 (sf9 (sf10 (sf10 (sf10 (sf10 (sf10 (sf10 (sf10 (ap2 h72))))))))))))
 refine go [] <| cP Tryz.call48 (zdsc_ht r n S hW16 vn) h76 ?_
 rintro v K w77 (⟨p74, c75, rfl, rfl⟩) h78
 have h79 := ap2 h78
 refine go [] <| dw (fls [0, 1, 2, 3, 4, 5, 6, 7, 8, 9, 10, 11, 12, 13, 14, 15, 16, 17, 18, 19, 20, 21, 22, 23, 24, 25, 26, 27, 28, 29, 31] (Tr.an 30 (fls [32, 33, 34, 35, 36, 37, 38, 39, 40, 41] (Tr.an 42 (fls [43, 44, 45, 46, 47, 48, 49, 50, 51, 53] (Tr.an 52 (Tr.an 54 (fls [55, 56, 57, 58, 60] (Tr.an 59 (Tr.an 61 (fls [62, 63] Tr.nil))))))))))) h79 fun w80 h81 => go [.v 11 2 (nF ((fndX S (d0, d1, d2)).num) ((fndX S (d0, d1, d2)).num)), .v 11 6 (nF ((fndE S (d0, d1, d2))) ((fndE S (d0, d1, d2)))), rd 11 9 9 0 2 h81, rd 11 10 8 0 2 h81, .s 11 11] <| lw (.bool false) (fun _ => qz15e38_neq_t (x := (Operand.tmp 101)) (y := (Operand.tmp 102)) ((fndX S (d0, d1, d2)).h.1) ((fndX S (d0, d1, d2)).h.2) ((fndX S (d0, d1, d2)).h.1) ((fndX S (d0, d1, d2)).h.2) (by kernel_rfl) (by kernel_rfl) (by kernel_rfl) ⟨rfl, rfl⟩ _) <| go [.v 11 16 (nF ((fndE S (d0, d1, d2))) ((fndE S (d0, d1, d2)))), rd 11 19 7 0 3 h81, rd 11 20 6 0 3 h81, .s 11 21] <| lw (.bool false) (fun _ => qz15e25_neq_t (x := (Operand.tmp 111)) (y := (Operand.tmp 112)) (((atX S d1).d).1) (((atX S d1).d).2.1) (((atX S d1).d).2.2) (((atX S d1).d).1) (((atX S d1).d).2.1) (((atX S d1).d).2.2) (by kernel_rfl) (by kernel_rfl) (by kernel_rfl) ⟨rfl, rfl, rfl⟩ _) <| go [.v 11 26 (⟨.bool ((gget S.E d1).isSome != (gget S.E d1).isSome), .bool false, (ov_b (by simp))⟩), rd 11 29 5 0 8 h81, rd 11 31 4 0 8 h81] ?_
 refine cd0 Tryz.call19 (ref_ht ((getR S vn).out.1) ((getR S vn).out.2.1) ((getR S vn).out.2.2) ((getR S vn).st) ((getR S vn).why) ((getR S vn).tr) ((getR S vn).nx) ((getR S vn).tag)) h81 fun w82 h83 => ⟨kd [rd 0 31 4 0 8 h83], ?_⟩
 refine lw (.bool false) (fun _ => qz15e54_neq_t (x := (Operand.tmp 122)) (y := (Operand.tmp 123)) ((getR S vn).out.1) ((getR S vn).out.2.1) ((getR S vn).out.2.2) ((getR S vn).st) ((getR S vn).why) ((getR S vn).tr) ((getR S vn).nx) ((getR S vn).tag) ((getR S vn).out.1) ((getR S vn).out.2.1) ((getR S vn).out.2.2) ((getR S vn).st) ((getR S vn).why) ((getR S vn).tr) ((getR S vn).nx) ((getR S vn).tag) (by kernel_rfl) (by kernel_rfl) (by kernel_rfl) ⟨rfl, rfl, rfl, rfl, rfl, rfl, rfl, rfl⟩ _) ?_
 have hb84 := descs_len S.E vn
 have h85 := tk12 (sf11 (sf10 (sf9 (sf10 (sf11 (sf11 (sf11 (sf11 (sf11 (sf11 (sf11 (sf11 h83))))))))))))
 refine go [.v 11 37 (nF ((nE S vn)) ((nE S vn)))] <| cd2 Tryz.call16 (zeqd_ht p68 p74 c69 c75 (descs S.E vn) (by omega)) h85 fun w86 h87 => ⟨kd [], ?_⟩
 have h88 := tk12 (sf11 (sf10 (sf10 (sf10 (sf11 (sf11 (sf11 (sf11 (sf11 (sf11 (sf11 (sf11 h87))))))))))))
 refine go [.v 11 48 (nF ((nE S vn)) ((nE S vn)))] <| cd1 Tryz.call26 (tlen_w t n S) h88 fun w89 h90 => ⟨kd [], ?_⟩
 refine cd1 Tryz.call61 (zlen_ht r n S) (tk12 (sf11 (sf10 (sf10 (sf10 (sf11 (sf11 (sf11 (sf11 (sf11 (sf11 (sf11 (sf11 h90))))))))))))) fun w92 h93 => ⟨kd [], ?_⟩
 have h94 := tk12 (sf11 (sf10 (sf11 (sf11 (sf11 (sf11 (sf11 (sf11 (sf11 (sf11 (sf11 (sf11 h93))))))))))))
 refine go [.v 11 55 (nF (((S.R.length : Nat) : Int)) (((S.R.length : Nat) : Int)))] <| cd1 Tryz.call62 (troom_w t n S) h94 fun w95 h96 => ⟨kd [], ?_⟩
 refine cd1 Tryz.call63 (zroom_ht r n S) (tk12 (sf11 (sf10 (sf11 (sf11 (sf11 (sf11 (sf11 (sf11 (sf11 (sf11 (sf11 (sf11 h96))))))))))))) fun w98 h99 => ⟨kd [], ?_⟩
 refine go [.v 11 62 (nF ((((inS 0 S.A 0).length : Nat) : Int)) ((((inS 0 S.A 0).length : Nat) : Int)))] <| unS 6 ?_
 have h102 := tk12 (sf11 (sf10 (sf11 (sf11 (sf11 (sf11 (sf11 (sf11 (sf11 (sf11 (sf11 (sf11 h99))))))))))))
 refine go [] <| cP Tryz.call65 (tnums_w t n S 0) h102 ?_
 rintro v K w103 (⟨p100, c101, rfl, rfl⟩) h104
 have h108 := tk13 (sf12 (sf11 (sf11 (sf12 (sf12 (sf12 (sf12 (sf12 (sf12 (sf12 (sf12 (sf12 (sf12 (ap2 h104))))))))))))))
 refine go [] <| cP Tryz.call66 (znums_ht r n S 0) h108 ?_
 rintro v K w109 (⟨p106, c107, rfl, rfl⟩) h110
 have h111 := ap2 h110
 have hb112 := nums_le hW16 (0)
 refine cl2 Tryz.call64 (zeqi_ht p100 p106 c101 c107 (nums S.R 0) (by omega)) (tk14 (sf13 (sf12 (sf11 (sf12 (sf13 (sf13 (sf13 (sf13 (sf13 (sf13 (sf13 (sf13 (sf13 (sf13 h111))))))))))))))) fun w114 h115 => go [] <| unN ?_
 have h118 := tk14 (sf13 (sf12 (sf12 (sf12 (sf13 (sf13 (sf13 (sf13 (sf13 (sf13 (sf13 (sf13 (sf13 (sf13 h115))))))))))))))
 refine go [] <| cP Tryz.call65 (tnums_w t n S 1) h118 ?_
 rintro v K w119 (⟨p116, c117, rfl, rfl⟩) h120
 have h124 := tk15 (sf14 (sf13 (sf13 (sf13 (sf13 (sf14 (sf14 (sf14 (sf14 (sf14 (sf14 (sf14 (sf14 (sf14 (sf14 (ap2 h120))))))))))))))))
 refine go [] <| cP Tryz.call66 (znums_ht r n S 1) h124 ?_
 rintro v K w125 (⟨p122, c123, rfl, rfl⟩) h126
 have h127 := ap2 h126
 have hb128 := nums_le hW16 (1)
 refine cl2 Tryz.call64 (zeqi_ht p116 p122 c117 c123 (nums S.R 1) (by omega)) (tk16 (sf15 (sf14 (sf13 (sf14 (sf15 (sf15 (sf15 (sf15 (sf15 (sf15 (sf15 (sf15 (sf15 (sf15 (sf15 (sf15 h127))))))))))))))))) fun w130 h131 => go [] <| unN ?_
 have h134 := tk16 (sf15 (sf14 (sf14 (sf14 (sf15 (sf15 (sf15 (sf15 (sf15 (sf15 (sf15 (sf15 (sf15 (sf15 (sf15 (sf15 h131))))))))))))))))
 refine go [] <| cP Tryz.call65 (tnums_w t n S 2) h134 ?_
 rintro v K w135 (⟨p132, c133, rfl, rfl⟩) h136
 have h140 := tk17 (sf16 (sf15 (sf15 (sf15 (sf15 (sf16 (sf16 (sf16 (sf16 (sf16 (sf16 (sf16 (sf16 (sf16 (sf16 (sf16 (sf16 (ap2 h136))))))))))))))))))
 refine go [] <| cP Tryz.call66 (znums_ht r n S 2) h140 ?_
 rintro v K w141 (⟨p138, c139, rfl, rfl⟩) h142
 have h143 := ap2 h142
 have hb144 := nums_le hW16 (2)
 refine cl2 Tryz.call64 (zeqi_ht p132 p138 c133 c139 (nums S.R 2) (by omega)) (tk18 (sf17 (sf16 (sf15 (sf16 (sf17 (sf17 (sf17 (sf17 (sf17 (sf17 (sf17 (sf17 (sf17 (sf17 (sf17 (sf17 (sf17 (sf17 h143))))))))))))))))))) fun w146 h147 => go [] <| unN ?_
 have h150 := tk18 (sf17 (sf16 (sf16 (sf16 (sf17 (sf17 (sf17 (sf17 (sf17 (sf17 (sf17 (sf17 (sf17 (sf17 (sf17 (sf17 (sf17 (sf17 h147))))))))))))))))))
 refine go [] <| cP Tryz.call65 (tnums_w t n S 3) h150 ?_
 rintro v K w151 (⟨p148, c149, rfl, rfl⟩) h152
 have h156 := tk19 (sf18 (sf17 (sf17 (sf17 (sf17 (sf18 (sf18 (sf18 (sf18 (sf18 (sf18 (sf18 (sf18 (sf18 (sf18 (sf18 (sf18 (sf18 (sf18 (ap2 h152))))))))))))))))))))
 refine go [] <| cP Tryz.call66 (znums_ht r n S 3) h156 ?_
 rintro v K w157 (⟨p154, c155, rfl, rfl⟩) h158
 have h159 := ap2 h158
 have hb160 := nums_le hW16 (3)
 refine cl2 Tryz.call64 (zeqi_ht p148 p154 c149 c155 (nums S.R 3) (by omega)) (tk20 (sf19 (sf18 (sf17 (sf18 (sf19 (sf19 (sf19 (sf19 (sf19 (sf19 (sf19 (sf19 (sf19 (sf19 (sf19 (sf19 (sf19 (sf19 (sf19 (sf19 h159))))))))))))))))))))) fun w162 h163 => go [] <| unN ?_
 have h166 := tk20 (sf19 (sf18 (sf18 (sf18 (sf19 (sf19 (sf19 (sf19 (sf19 (sf19 (sf19 (sf19 (sf19 (sf19 (sf19 (sf19 (sf19 (sf19 (sf19 (sf19 h163))))))))))))))))))))
 refine go [] <| cP Tryz.call65 (tnums_w t n S 4) h166 ?_
 rintro v K w167 (⟨p164, c165, rfl, rfl⟩) h168
 have h172 := tk21 (sf20 (sf19 (sf19 (sf19 (sf19 (sf20 (sf20 (sf20 (sf20 (sf20 (sf20 (sf20 (sf20 (sf20 (sf20 (sf20 (sf20 (sf20 (sf20 (sf20 (sf20 (ap2 h168))))))))))))))))))))))
 refine go [] <| cP Tryz.call66 (znums_ht r n S 4) h172 ?_
 rintro v K w173 (⟨p170, c171, rfl, rfl⟩) h174
 have h175 := ap2 h174
 have hb176 := nums_le hW16 (4)
 refine cl2 Tryz.call64 (zeqi_ht p164 p170 c165 c171 (nums S.R 4) (by omega)) (tk22 (sf21 (sf20 (sf19 (sf20 (sf21 (sf21 (sf21 (sf21 (sf21 (sf21 (sf21 (sf21 (sf21 (sf21 (sf21 (sf21 (sf21 (sf21 (sf21 (sf21 (sf21 (sf21 h175))))))))))))))))))))))) fun w178 h179 => go [] <| unN ?_
 have h182 := tk22 (sf21 (sf20 (sf20 (sf20 (sf21 (sf21 (sf21 (sf21 (sf21 (sf21 (sf21 (sf21 (sf21 (sf21 (sf21 (sf21 (sf21 (sf21 (sf21 (sf21 (sf21 (sf21 h179))))))))))))))))))))))
 refine go [] <| cP Tryz.call65 (tnums_w t n S 5) h182 ?_
 rintro v K w183 (⟨p180, c181, rfl, rfl⟩) h184
 have h188 := tk23 (sf22 (sf21 (sf21 (sf21 (sf21 (sf22 (sf22 (sf22 (sf22 (sf22 (sf22 (sf22 (sf22 (sf22 (sf22 (sf22 (sf22 (sf22 (sf22 (sf22 (sf22 (sf22 (sf22 (ap2 h184))))))))))))))))))))))))
 refine go [] <| cP Tryz.call66 (znums_ht r n S 5) h188 ?_
 rintro v K w189 (⟨p186, c187, rfl, rfl⟩) h190
 have h191 := ap2 h190
 have hb192 := nums_le hW16 (5)
 refine cl2 Tryz.call64 (zeqi_ht p180 p186 c181 c187 (nums S.R 5) (by omega)) (tk24 (sf23 (sf22 (sf21 (sf22 (sf23 (sf23 (sf23 (sf23 (sf23 (sf23 (sf23 (sf23 (sf23 (sf23 (sf23 (sf23 (sf23 (sf23 (sf23 (sf23 (sf23 (sf23 (sf23 (sf23 h191))))))))))))))))))))))))) fun w194 h195 => go [] <| unN <| go [] <| up <| go [] ?_
 exact en (.bool true) [] ⟨_, _, rfl, ⟨rfl, rfl⟩, (tk3 (sf2 (sf2 (sf23 (tk24 (sf23 (sf22 (sf21 (sf21 (sf23 (sf23 (sf23 (sf23 (sf23 (sf23 (sf23 (sf23 (sf23 (sf23 (sf23 (sf23 (sf23 (sf23 (sf23 (sf23 (sf23 (sf23 (sf23 (sf23 h195)))))))))))))))))))))))))))))⟩

end Go.Proofs.YtjjpmehiolejgaaGreat

/- Walks, printed by my generator z16.py. -/
namespace Go.Proofs.YtjjpmehiolejgaaGreat
theorem qz16e25_neq_t {n : Nat} {l : Fr} {o : Oper} {x y : Operand} (a0 : Int) (a1 : Int) (a2 : Int) (c0 : Int) (c1 : Int) (c2 : Int) (ho : o.op = .binOp .neq 25 x y 25) (hx : fe n l x = .agg #[.int .i64 a0, .int .i64 a1, .int .u32 a2]) (hy : fe n l y = .agg #[.int .i64 c0, .int .i64 c1, .int .u32 c2]) (h : a0 = c0 ∧ a1 = c1 ∧ a2 = c2) (w : World) : (execOp (fe n l) o).run Tryz.prog w = .ok (.value (.bool false)) w := by
  obtain ⟨rfl, rfl, rfl⟩ := h
  simp [execOp, ho, hx, hy, go_sem]
theorem qz16e38_neq_t {n : Nat} {l : Fr} {o : Oper} {x y : Operand} (a0 : Int) (a1 : Int) (c0 : Int) (c1 : Int) (ho : o.op = .binOp .neq 38 x y 38) (hx : fe n l x = .agg #[.int .i64 a0, .int .u32 a1]) (hy : fe n l y = .agg #[.int .i64 c0, .int .u32 c1]) (h : a0 = c0 ∧ a1 = c1) (w : World) : (execOp (fe n l) o).run Tryz.prog w = .ok (.value (.bool false)) w := by
  obtain ⟨rfl, rfl⟩ := h
  simp [execOp, ho, hx, hy, go_sem]
theorem qz16e54_neq_t {n : Nat} {l : Fr} {o : Oper} {x y : Operand} (a0 : Int) (a1 : Int) (a2 : Int) (a3 : Int) (a4 : Int) (a5 : Int) (a6 : Int) (a7 : List UInt8) (c0 : Int) (c1 : Int) (c2 : Int) (c3 : Int) (c4 : Int) (c5 : Int) (c6 : Int) (c7 : List UInt8) (ho : o.op = .binOp .neq 54 x y 54) (hx : fe n l x = .agg #[.int .i64 a0, .int .i64 a1, .int .u32 a2, .int .i64 a3, .int .i64 a4, .int .i64 a5, .int .i64 a6, .string (St a7)]) (hy : fe n l y = .agg #[.int .i64 c0, .int .i64 c1, .int .u32 c2, .int .i64 c3, .int .i64 c4, .int .i64 c5, .int .i64 c6, .string (St c7)]) (h : a0 = c0 ∧ a1 = c1 ∧ a2 = c2 ∧ a3 = c3 ∧ a4 = c4 ∧ a5 = c5 ∧ a6 = c6 ∧ a7 = c7) (w : World) : (execOp (fe n l) o).run Tryz.prog w = .ok (.value (.bool false)) w := by
  obtain ⟨rfl, rfl, rfl, rfl, rfl, rfl, rfl, rfl⟩ := h
  simp [execOp, ho, hx, hy, go_sem]
set_option maxHeartbeats 4000000 in
theorem zeqd_nil  : HT Tryz.prog 16 [Value.slice none 0 0, Value.slice none 0 0] [] (fun v K => v = Value.bool true ∧ K = []) := by
 refine hiS Tryz.func16 Tryz.ntmps16 fun g w0 R h0 => go [] <| unS 0 <| go [] <| up <| go [] ?_
 exact en (.bool true) [] ⟨_, _, rfl, ⟨rfl, rfl⟩, h0⟩

set_option maxHeartbeats 4000000 in
theorem zeqi_nil  : HT Tryz.prog 64 [Value.slice none 0 0, Value.slice none 0 0] [] (fun v K => v = Value.bool true ∧ K = []) := by
 refine hiS Tryz.func64 Tryz.ntmps64 fun g w0 R h0 => go [] <| unS 0 <| go [] <| up <| go [] ?_
 exact en (.bool true) [] ⟨_, _, rfl, ⟨rfl, rfl⟩, h0⟩

set_option maxHeartbeats 4000000 in
theorem alike_nil (d0 d1 d2 vn : Int) : HT Tryz.prog 22 [Value.pointer none, Value.pointer none, Value.agg #[Value.int IntKind.i64 d0, Value.int IntKind.i64 d1, Value.int IntKind.u32 d2], Value.int IntKind.i64 vn] [] (fun v K => v = Value.bool true ∧ K = []) := by
 refine hiS Tryz.func22 Tryz.ntmps22 fun g w0 R h0 => go [] <| nP 25 [iV d0, iV d1, uV d2] h0 (fun r10 w11 h12 => ?_)
 refine go [rd 1 1 0 0 3 h12] <| cl0 Tryz.call25 (tnum_n d0 d1 d2) h12 fun w13 h14 => go [rd 2 1 0 0 3 h14] <| cl0 Tryz.call56 (znf_nil d0 d1 d2) h14 fun w15 h16 => go [rd 3 1 0 0 3 h16] <| cl0 Tryz.call57 (thnd_n d0 d1 d2) h16 fun w17 h18 => go [] <| nP 38 [iV 0, uV 0] h18 (fun r19 w20 h21 => ?_)
 refine sP [(0, iV 0), (1, uV 0)] [iV 0, uV 0] h21 fun w22 h23 => go [rd 4 1 1 0 3 h23] <| cl0 Tryz.call58 (zhd_nil d0 d1 d2) h23 fun w24 h25 => go [] <| nP 38 [iV 0, uV 0] h25 (fun r26 w27 h28 => ?_)
 refine sP [(0, iV 0), (1, uV 0)] [iV 0, uV 0] h28 fun w29 h30 => go [rd 5 2 2 1 1 h30] <| cl0 Tryz.call59 (tat_n d1) h30 fun w31 h32 => go [] <| nP 25 [iV 0, iV 0, uV 0] h32 (fun r33 w34 h35 => ?_)
 refine sP [(0, iV 0), (1, iV 0), (2, uV 0)] [iV 0, iV 0, uV 0] h35 fun w36 h37 => go [rd 6 2 3 1 1 h37] <| cl0 Tryz.call60 (zat_nil d1) h37 fun w38 h39 => go [] <| nP 25 [iV 0, iV 0, uV 0] h39 (fun r40 w41 h42 => ?_)
 refine sP [(0, iV 0), (1, iV 0), (2, uV 0)] [iV 0, iV 0, uV 0] h42 fun w43 h44 => go [] <| cl0 Tryz.call49 (tget_n vn) h44 fun w45 h46 => go [] <| nP 40 [iV 0, iV 0, uV 0, iV 0, iV 0, iV 0, iV 0, .string (St [])] h46 (fun r47 w48 h49 => ?_)
 refine sP [(0, iV 0), (1, iV 0), (2, uV 0), (3, iV 0), (4, iV 0), (5, iV 0), (6, iV 0), (7, .string (St []))] [iV 0, iV 0, uV 0, iV 0, iV 0, iV 0, iV 0, .string (St [])] h49 fun w50 h51 => go [] <| cl0 Tryz.call51 (zget_nil vn) h51 fun w52 h53 => go [] <| nP 54 [iV 0, iV 0, uV 0, iV 0, iV 0, iV 0, iV 0, .string (St [])] h53 (fun r54 w55 h56 => ?_)
 refine sP [(0, iV 0), (1, iV 0), (2, uV 0), (3, iV 0), (4, iV 0), (5, iV 0), (6, iV 0), (7, .string (St []))] [iV 0, iV 0, uV 0, iV 0, iV 0, iV 0, iV 0, .string (St [])] h56 fun w57 h58 => go [] <| cl0 Tryz.call46 (tdescs_n vn) h58 fun w59 h60 => go [] <| cl0 Tryz.call48 (zdsc_nil vn) h60 fun w61 h62 => go [] <| dw (fls [0, 1, 2, 3, 4, 5, 6, 7, 8, 9, 10, 11, 12, 13, 14, 15, 16, 17, 18, 19, 20, 21, 22, 23, 24, 25, 26, 27, 28, 29, 31] (Tr.an 30 (fls [32, 33, 34, 35, 36, 37, 38, 39, 40, 41] (Tr.an 42 (fls [43, 44, 45, 46, 47, 48, 49, 50, 51, 53] (Tr.an 52 (Tr.an 54 (fls [55, 56, 57, 58, 60] (Tr.an 59 (Tr.an 61 (fls [62, 63] Tr.nil))))))))))) h62 fun w63 h64 => go [rd 11 9 5 0 2 h64, rd 11 10 4 0 2 h64, .s 11 11] <| lw (.bool false) (fun _ => qz16e38_neq_t (x := (Operand.tmp 101)) (y := (Operand.tmp 102)) 0 0 0 0 (by kernel_rfl) (by kernel_rfl) (by kernel_rfl) ⟨rfl, rfl⟩ _) <| go [rd 11 19 3 0 3 h64, rd 11 20 2 0 3 h64, .s 11 21] <| lw (.bool false) (fun _ => qz16e25_neq_t (x := (Operand.tmp 111)) (y := (Operand.tmp 112)) 0 0 0 0 0 0 (by kernel_rfl) (by kernel_rfl) (by kernel_rfl) ⟨rfl, rfl, rfl⟩ _) <| go [.s 11 26] <| lw (.bool false) (fun _ => law_neBool (t := 4) (x := (Operand.tmp 116)) (y := (Operand.tmp 117)) false false false (by kernel_rfl) Tryz.underlying4 (by kernel_rfl) (by kernel_rfl) rfl _) ?_
 refine go [rd 11 29 1 0 8 h64, rd 11 31 0 0 8 h64] <| cd0 Tryz.call19 (ref_ht 0 0 0 0 0 0 0 []) h64 fun w65 h66 => ⟨kd [rd 0 31 0 0 8 h66], ?_⟩
 refine lw (.bool false) (fun _ => qz16e54_neq_t (x := (Operand.tmp 122)) (y := (Operand.tmp 123)) 0 0 0 0 0 0 0 [] 0 0 0 0 0 0 0 [] (by kernel_rfl) (by kernel_rfl) (by kernel_rfl) ⟨rfl, rfl, rfl, rfl, rfl, rfl, rfl, rfl⟩ _) <| go [] <| cd0 Tryz.call16 (zeqd_nil) h66 fun w67 h68 => ⟨kd [], ?_⟩
 refine go [] <| cd0 Tryz.call26 (tlen_n) h68 fun w69 h70 => ⟨kd [], ?_⟩
 refine cd0 Tryz.call61 (zlen_nil ) h70 fun w71 h72 => ⟨kd [], ?_⟩
 refine go [] <| cd0 Tryz.call62 (troom_n) h72 fun w73 h74 => ⟨kd [], ?_⟩
 refine cd0 Tryz.call63 (zroom_nil ) h74 fun w75 h76 => ⟨kd [], ?_⟩
 refine go [] <| unS 6 <| go [] <| cl0 Tryz.call65 (tnums_n 0) h76 fun w77 h78 => go [] <| cl0 Tryz.call66 (znums_nil 0) h78 fun w79 h80 => cl0 Tryz.call64 (zeqi_nil) h80 fun w81 h82 => go [] <| unN <| go [] <| cl0 Tryz.call65 (tnums_n 1) h82 fun w83 h84 => go [] <| cl0 Tryz.call66 (znums_nil 1) h84 fun w85 h86 => ?_
 refine cl0 Tryz.call64 (zeqi_nil) h86 fun w87 h88 => go [] <| unN <| go [] <| cl0 Tryz.call65 (tnums_n 2) h88 fun w89 h90 => go [] <| cl0 Tryz.call66 (znums_nil 2) h90 fun w91 h92 => cl0 Tryz.call64 (zeqi_nil) h92 fun w93 h94 => go [] <| unN <| go [] <| cl0 Tryz.call65 (tnums_n 3) h94 fun w95 h96 => go [] ?_
 refine cl0 Tryz.call66 (znums_nil 3) h96 fun w97 h98 => cl0 Tryz.call64 (zeqi_nil) h98 fun w99 h100 => go [] <| unN <| go [] <| cl0 Tryz.call65 (tnums_n 4) h100 fun w101 h102 => go [] <| cl0 Tryz.call66 (znums_nil 4) h102 fun w103 h104 => cl0 Tryz.call64 (zeqi_nil) h104 fun w105 h106 => go [] <| unN <| go [] <| cl0 Tryz.call65 (tnums_n 5) h106 fun w107 h108 => ?_
 refine go [] <| cl0 Tryz.call66 (znums_nil 5) h108 fun w109 h110 => cl0 Tryz.call64 (zeqi_nil) h110 fun w111 h112 => go [] <| unN <| go [] <| up <| go [] ?_
 exact en (.bool true) [] ⟨_, _, rfl, ⟨rfl, rfl⟩, (tk1 (sf7 h112))⟩

end Go.Proofs.YtjjpmehiolejgaaGreat
