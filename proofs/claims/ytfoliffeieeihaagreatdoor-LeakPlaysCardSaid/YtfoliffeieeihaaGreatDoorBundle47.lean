/- Walks, printed by my generator z10.py. -/
import Derived.Test.YtfoliffeieeihaaGreatDoorBundle42
import Derived.Test.YtfoliffeieeihaaGreatDoorLzP
import Derived.Test.YtfoliffeieeihaaGreatDoorFrm
import Derived.Test.YtfoliffeieeihaaGreatDoorBundle35
import Derived.Test.YtfoliffeieeihaaGreatDoorLkF
namespace Go.Proofs.YtfoliffeieeihaaGreatDoor
theorem qd10e31_neq_t {n : Nat} {l : Fr} {o : Oper} {x y : Operand} (a0 : Int) (a1 : Int) (a2 : Int) (c0 : Int) (c1 : Int) (c2 : Int) (ho : o.op = .binOp .neq 31 x y 31) (hx : fe n l x = .agg #[.int .i64 a0, .int .i64 a1, .int .u32 a2]) (hy : fe n l y = .agg #[.int .i64 c0, .int .i64 c1, .int .u32 c2]) (h : a0 = c0 ∧ a1 = c1 ∧ a2 = c2) (w : World) : (execOp (fe n l) o).run Tryz.prog w = .ok (.value (.bool false)) w := by
  obtain ⟨rfl, rfl, rfl⟩ := h
  simp [execOp, ho, hx, hy, go_sem]
theorem drok_ht (L : List UInt8) (h : tagE L = 0) : HT Tryz.prog 57 [.string (St L)] [] fun v K => ∃ (l : List Nat) (p : Option Addr) (c : Nat), rnD L L.length 0 = some l ∧ v = Value.tuple #[Value.slice p l.length c, Value.bool true] ∧ K = [Sl 3 1 p l.length c (fl eN l)] := by
  intro g w F hs
  refine (runes_ht L (by have := tag96 h; omega) g w F hs).mono ?_
  rintro e w' ⟨v, K, rfl, (⟨l, p, c, h1, rfl, rfl⟩ | ⟨h1, _, _⟩), h2⟩
  · exact ⟨_, _, rfl, ⟨l, p, c, h1, rfl, rfl⟩, h2⟩
  · exact absurd (dt_none h1) (by omega)

set_option maxHeartbeats 4000000 in
theorem dord_ht (a b_ : List UInt8) (ha : tagE a = 0) (hb : tagE b_ = 0) : HT Tryz.prog 52 [.string (St a), .string (St b_)] [] (fun v K => v = iV (ordT a b_) ∧ K = []) := by
 have ha96_ := tag96 ha; have hb96_ := tag96 hb
 refine hiS Tryz.func52 Tryz.ntmps52 fun g w0 R h0 => go [] <| cl0 Tryz.call35 (dtag_ht a (by omega)) h0 fun _ h11 => go [.v 1 2 (qeT ((tagE a)) 0)] <| cl0 Tryz.call35 (dtag_ht b_ (by omega)) h11 fun _ h13 => go [.v 2 2 (qeT ((tagE b_)) 0)] <| cP Tryz.call57 (drok_ht a (by omega)) h13 ?_
 rintro v K _ (⟨l14, p15, c16, hr17, rfl, rfl⟩) h19
 have h20 := ap1 h19
 obtain ⟨hn21, hn22⟩ := sl_le h20
 refine go [] <| cP Tryz.call57 (drok_ht b_ (by omega)) h20 ?_
 rintro v K _ (⟨l23, p24, c25, hr26, rfl, rfl⟩) h28
 have h29 := ap1 h28
 obtain ⟨hn30, hn31⟩ := sl_le h29
 refine go [] ?_
 refine lpS (fun mz_ a w => ∃ i : Nat, ∃ lr : Fr, mz_ = l14.length - i ∧ (i ≤ l14.length) ∧ (i ≤ l23.length) ∧ (l14.take i = l23.take i) ∧ a = mk 76 (([(7, .slice p15 l14.length c16), (9, .slice p24 l23.length c25), (11, iV (i : Int))] : Fr) ++ lr) ∧ sat g w [Sl 3 1 p15 l14.length c16 (fl eN l14), Sl 3 1 p24 l23.length c25 (fl eN l23), R]) (l14.length - 0) ⟨0, _, rfl, (Nat.zero_le _), (Nat.zero_le _), rfl, (lvF [.k 7 (.slice p15 l14.length c16), .k 9 (.slice p24 l23.length c25), .o 11 (oJ .i64 0 (0 : Int))]), (tk3 (sf2 (sf1 (sf2 h29))))⟩ ?_
 rintro m34 a35 w36 ⟨i, lr33, rfl, hi_, hj_, hp_, rfl, h37⟩
 refine ga <| go [.s 12 3] ?_
 by_cases c38 : (i : Int) < ((l14.length : Nat) : Int)
 ·
  refine go [.v 12 3 (oT ((i : Int) < ((l14.length : Nat) : Int))), .s 12 8] ?_
  by_cases c39 : (i : Int) < ((l23.length : Nat) : Int)
  ·
   refine go [.v 12 8 (oT ((i : Int) < ((l23.length : Nat) : Int)))] <| dw (fls [0, 1, 2, 3, 4, 5, 6, 7, 8] Tr.nil) h37 fun _ h41 => ?_
   obtain ⟨b42, hp43⟩ := sl_ptr0 (j := 0) h41 rfl (by omega)
   refine go [.s 14 2] <| lw (.pointer (some ⟨b42, i, none⟩)) (fun _ => law_indexSlP (x := (Operand.tmp 48)) (i := (Operand.tmp 49)) (p := p15) (b := b42) (off := 0) (z := (i : Int)) (len := l14.length) (cap := c16) (by kernel_rfl) Tryz.underlying95 1 (by kernel_rfl) i (by kernel_rfl) hp43 (by kernel_rfl) (by omega) (by omega) i (by omega) _) ?_
   obtain ⟨x44, hx45⟩ : ∃ x, l14[i]? = some x := ⟨_, List.getElem?_eq_getElem (by omega)⟩
   obtain ⟨b46, hp47⟩ := sl_ptr0 (j := 1) h41 rfl (by omega)
   refine go [.r 14 3 b42 i [iV (x44 : Int)] ⟨gv_cell (j := 0) h41 rfl (gv_sl _ _ _) hp43 (fl_get eN_ok (j := 0) (v := iV (x44 : Int)) hx45 rfl) i (by omega), trivial⟩, .s 14 6] <| lw (.pointer (some ⟨b46, i, none⟩)) (fun _ => law_indexSlP (x := (Operand.tmp 52)) (i := (Operand.tmp 53)) (p := p24) (b := b46) (off := 0) (z := (i : Int)) (len := l23.length) (cap := c25) (by kernel_rfl) Tryz.underlying95 1 (by kernel_rfl) i (by kernel_rfl) hp47 (by kernel_rfl) (by omega) (by omega) i (by omega) _) ?_
   obtain ⟨x48, hx49⟩ : ∃ x, l23[i]? = some x := ⟨_, List.getElem?_eq_getElem (by omega)⟩
   refine go [.r 14 7 b46 i [iV (x48 : Int)] ⟨gv_cell (j := 1) h41 rfl (gv_sl _ _ _) hp47 (fl_get eN_ok (j := 0) (v := iV (x48 : Int)) hx49 rfl) i (by omega), trivial⟩, .s 14 8] ?_
   by_cases c50 : (x44 : Int) < (x48 : Int)
   ·
    refine go [.v 14 8 (oT ((x44 : Int) < (x48 : Int)))] <| up <| go [] ?_
    exact en (iV (-1)) [] ⟨_, _, rfl, ⟨by rw [dz_lt ha hb hr17 hr26 hx45 hx49 hp_ (by omega)], rfl⟩, (tk1 (sf2 h41))⟩
   refine go [.v 14 8 (oF ((x44 : Int) < (x48 : Int)))] <| dw (fls [0, 1, 2, 3, 4, 5, 6, 7, 8] Tr.nil) h41 fun _ h53 => go [.s 16 2] <| lw (.pointer (some ⟨b42, i, none⟩)) (fun _ => law_indexSlP (x := (Operand.tmp 57)) (i := (Operand.tmp 58)) (p := p15) (b := b42) (off := 0) (z := (i : Int)) (len := l14.length) (cap := c16) (by kernel_rfl) Tryz.underlying95 1 (by kernel_rfl) i (by kernel_rfl) hp43 (by kernel_rfl) (by omega) (by omega) i (by omega) _) <| go [.r 16 3 b42 i [iV (x44 : Int)] ⟨gv_cell (j := 0) h53 rfl (gv_sl _ _ _) hp43 (fl_get eN_ok (j := 0) (v := iV (x44 : Int)) hx45 rfl) i (by omega), trivial⟩, .s 16 6] <| lw (.pointer (some ⟨b46, i, none⟩)) (fun _ => law_indexSlP (x := (Operand.tmp 61)) (i := (Operand.tmp 62)) (p := p24) (b := b46) (off := 0) (z := (i : Int)) (len := l23.length) (cap := c25) (by kernel_rfl) Tryz.underlying95 1 (by kernel_rfl) i (by kernel_rfl) hp47 (by kernel_rfl) (by omega) (by omega) i (by omega) _) <| go [.r 16 7 b46 i [iV (x48 : Int)] ⟨gv_cell (j := 1) h53 rfl (gv_sl _ _ _) hp47 (fl_get eN_ok (j := 0) (v := iV (x48 : Int)) hx49 rfl) i (by omega), trivial⟩, .s 16 8] ?_
   by_cases c54 : (x44 : Int) > (x48 : Int)
   ·
    refine go [.v 16 8 (oT ((x44 : Int) > (x48 : Int)))] <| up <| go [] ?_
    exact en (iV 1) [] ⟨_, _, rfl, ⟨by rw [dz_gt ha hb hr17 hr26 hx45 hx49 hp_ (by omega)], rfl⟩, (tk1 (sf2 h53))⟩
   refine go [.v 16 8 (oF ((x44 : Int) > (x48 : Int))), .v 13 1 (oIr ((i : Int) + 1))] ?_
   refine enL ?_
   change ∃ n', n' < _ ∧ _
   refine ⟨(l14.length - (i + 1)), by omega, (i + 1), _, rfl, (by omega), (by omega), (tk_same (x := x44) hx45 ((show x48 = x44 from by omega) ▸ hx49) hp_), (lvF [.k 7 (.slice p15 l14.length c16), .k 9 (.slice p24 l23.length c25), .o 11 (oJ .i64 ((i : Int) + 1) ((((i + 1) : Nat) : Int)))]), h53⟩
  refine go [.v 12 8 (oF ((i : Int) < ((l23.length : Nat) : Int)))] <| up <| go [.v 18 4 (oF (((l14.length : Nat) : Int) < ((l23.length : Nat) : Int))), .v 20 4 (oT (((l14.length : Nat) : Int) > ((l23.length : Nat) : Int)))] ?_
  exact en (iV 1) [] ⟨_, _, rfl, ⟨by rw [dz_pg ha hb hr17 hr26 (i := i) (by omega) (by omega) hp_], rfl⟩, (tk1 (sf2 h37))⟩
 refine go [.v 12 3 (oF ((i : Int) < ((l14.length : Nat) : Int)))] <| up <| go [.s 18 4] ?_
 by_cases c57 : ((l14.length : Nat) : Int) < ((l23.length : Nat) : Int)
 ·
  refine go [.v 18 4 (oT (((l14.length : Nat) : Int) < ((l23.length : Nat) : Int)))] ?_
  exact en (iV (-1)) [] ⟨_, _, rfl, ⟨by rw [dz_pl ha hb hr17 hr26 (i := i) (by omega) (by omega) hp_], rfl⟩, (tk1 (sf2 h37))⟩
 refine go [.v 18 4 (oF (((l14.length : Nat) : Int) < ((l23.length : Nat) : Int))), .v 20 4 (oF (((l14.length : Nat) : Int) > ((l23.length : Nat) : Int)))] ?_
 exact en (iV 0) [] ⟨_, _, rfl, ⟨by rw [dz_eq ha hb hr17 hr26 (i := i) (by omega) (by omega) hp_], rfl⟩, (tk1 (sf2 h37))⟩

theorem dt_tag {S : Rp} (hw : Rw S) {i j : Nat} {T : List (List UInt8)} {q : List UInt8} (h : Dt (lks S) i T) (hq : T[j]? = some q) : tagE q = 0 := by
  obtain ⟨x, hx, rfl⟩ := (h.mem q).1 (List.mem_of_getElem? hq)
  exact (lks_good hw (List.mem_of_mem_take hx)).1
theorem lo_step {T : List (List UInt8)} {k : Nat} {y t : List UInt8} (h : ∀ (j : Nat) q, j < k → T[j]? = some q → q < t) (hy : T[k]? = some y) (hl : y < t) : ∀ (j : Nat) q, j < k + 1 → T[j]? = some q → q < t := fun j q hj hq => by
  rcases Nat.lt_or_ge j k with h1 | h1
  · exact h j q h1 hq
  · obtain rfl : j = k := by omega
    rw [hy] at hq
    rw [← Option.some.inj hq]
    exact hl

set_option maxHeartbeats 4000000 in
theorem dtags_ht (b : Nat) (S : Rp) : HT Tryz.prog 26 [pV b] [Drp b S] (fun v K => ∃ (T : List (List UInt8)) (p : Option Addr) (c : Nat), Tg S T ∧ v = .slice p T.length c ∧ K = [Sl 9 1 p T.length c (fl eW T), Drp b S]) := by
 refine hiS Tryz.func26 Tryz.ntmps26 fun g w0 R h0 => go [] <| cP Tryz.call17 (dall_ht b S) h0 ?_
 rintro v K w13 (⟨p10, cap11, hl12, rfl, rfl⟩) h14
 have h15 := ap2 h14
 obtain ⟨hn16, hn17⟩ := sl_le h15
 refine go [] ?_
 have h18 : sat g w13 [Sl 9 1 none 0 0 (fl eW []), Sl 75 6 p10 (((lks S).length)) cap11 (fl eLk (lks S)), Drp b S, R] := sl_nil 9 1 h15
 have hW_ := dr_w (j := 2) h18 rfl
 refine lpS (fun mz_ a w => ∃ i : Nat, ∃ X_ : List (List UInt8), ∃ p2 : Option Addr, ∃ m2 : Nat, ∃ c2 : Nat, ∃ lr : Fr, mz_ = (lks S).length - i ∧ (i ≤ (lks S).length) ∧ (Dt (lks S) i X_) ∧ (X_.length = m2) ∧ a = mk 67 (([(3, .slice p2 m2 c2), (4, .slice p10 (((lks S).length)) cap11), (5, iV (i : Int))] : Fr) ++ lr) ∧ sat g w [Sl 9 1 p2 m2 c2 (fl eW X_), Sl 75 6 p10 (((lks S).length)) cap11 (fl eLk (lks S)), Drp b S, R]) ((lks S).length - 0) ⟨0, [], none, 0, 0, _, rfl, (Nat.zero_le _), (dt_0 _), rfl, (lvF [.k 3 (.slice none 0 0), .k 4 (.slice p10 (((lks S).length)) cap11), .o 5 (oJ .i64 0 (0 : Int))]), h18⟩ ?_
 rintro m20 a21 w22 ⟨i, X_, p2, m2, c2, lr19, rfl, hi_, hD_, hl_, rfl, h23⟩
 refine ga ?_
 have hDl_ := hD_.le
 have hDl2_ : m2 ≤ i := by omega
 obtain ⟨hcn_, hcm_⟩ := sl_le h23
 refine go [.s 4 3] ?_
 by_cases c24 : (i : Int) < (((lks S).length : Nat) : Int)
 ·
  refine go [.v 4 3 (oT ((i : Int) < (((lks S).length : Nat) : Int)))] ?_
  obtain ⟨x25, hx26⟩ : ∃ x, (lks S)[i]? = some x := ⟨_, List.getElem?_eq_getElem (by omega)⟩
  refine lpS (fun mz_ a w => ∃ k : Nat, ∃ lr : Fr, mz_ = m2 - k ∧ (k ≤ m2) ∧ (∀ (j : Nat) q, j < k → X_[j]? = some q → q < x25.tag) ∧ a = mk 67 (([(3, .slice p2 m2 c2), (4, .slice p10 (((lks S).length)) cap11), (5, iV (i : Int)), (6, iV (k : Int))] : Fr) ++ lr) ∧ sat g w [Sl 9 1 p2 m2 c2 (fl eW X_), Sl 75 6 p10 (((lks S).length)) cap11 (fl eLk (lks S)), Drp b S, R]) (m2 - 0) ⟨0, _, rfl, (Nat.zero_le _), (fun j q h_ => absurd h_ (Nat.not_lt_zero _)), (lvF [.k 3 (.slice p2 m2 c2), .k 4 (.slice p10 (((lks S).length)) cap11), .k 5 (iV (i : Int)), .o 6 (oJ .i64 0 (0 : Int))]), h23⟩ ?_
  rintro m28 a29 w30 ⟨k, lr27, rfl, hk_, hlo_, rfl, h31⟩
  refine ga <| go [] <| dw (fls [0, 1, 2, 3, 4, 5, 6, 7, 8, 9, 10, 11, 12, 13] (Tr.an 14 (fls [15, 16] Tr.nil))) h31 fun _ h33 => go [.s 7 3] ?_
  by_cases c34 : (k : Int) < (m2 : Int)
  ·
   obtain ⟨b35, hp36⟩ := sl_ptr0 (j := 0) h33 rfl (by omega)
   refine go [.v 7 3 (oT ((k : Int) < (m2 : Int))), .s 7 7] <| lw (.pointer (some ⟨b35, k, none⟩)) (fun _ => law_indexSlP (x := (Operand.tmp 20)) (i := (Operand.tmp 21)) (p := p2) (b := b35) (off := 0) (z := (k : Int)) (len := m2) (cap := c2) (by kernel_rfl) Tryz.underlying49 1 (by kernel_rfl) k (by kernel_rfl) hp36 (by kernel_rfl) (by omega) (by omega) k (by omega) _) ?_
   obtain ⟨x37, hx38⟩ : ∃ x, X_[k]? = some x := ⟨_, List.getElem?_eq_getElem (by rw [hl_]; omega)⟩
   obtain ⟨b39, hp40⟩ := sl_ptr0 (j := 1) h33 rfl (by omega)
   refine go [.r 7 8 b35 k [.string (St x37)] ⟨gv_cell (j := 0) h33 rfl (gv_sl _ _ _) hp36 (fl_get eW_ok (j := 0) (v := .string (St x37)) hx38 rfl) k (by omega), trivial⟩, .s 7 11] <| lw (.pointer (some ⟨b39, i * 6, none⟩)) (fun _ => law_indexSlP (x := (Operand.tmp 24)) (i := (Operand.tmp 25)) (p := p10) (b := b39) (off := 0) (z := (i : Int)) (len := (((lks S).length))) (cap := cap11) (by kernel_rfl) Tryz.underlying42 6 (by kernel_rfl) i (by kernel_rfl) hp40 (by kernel_rfl) (by omega) (by omega) (i * 6) (by omega) _) <| go [.r 7 13 b39 (i * 6) [.string (St x25.tag)] ⟨gv_cell (j := 1) h33 rfl (gv_sl _ _ _) hp40 (fl_get eLk_ok (j := 0) (v := .string (St x25.tag)) hx26 rfl) (i * 6) (by omega), trivial⟩] <| cw0 Tryz.call52 (dord_ht x37 x25.tag (dt_tag hW_ hD_ hx38) (lks_good hW_ (List.mem_of_getElem? hx26)).1) h33 fun _ h42 => ⟨kd [], ?_⟩
   by_cases c43 : (ordT x37 x25.tag) < 0
   ·
    refine go [.v 7 15 (oT ((ordT x37 x25.tag) < 0)), .v 8 1 (oIr ((k : Int) + 1))] ?_
    refine enL ?_
    change ∃ n', n' < _ ∧ _
    refine ⟨(m2 - (k + 1)), by omega, (k + 1), _, rfl, (by omega), (lo_step hlo_ hx38 ((ordT_lt (dt_tag hW_ hD_ hx38) (lks_good hW_ (List.mem_of_getElem? hx26)).1).1 (by omega))), (lvF [.k 3 (.slice p2 m2 c2), .k 4 (.slice p10 (((lks S).length)) cap11), .k 5 (iV (i : Int)), .o 6 (oJ .i64 ((k : Int) + 1) ((((k + 1) : Nat) : Int)))]), h42⟩
   refine go [.v 7 15 (oF ((ordT x37 x25.tag) < 0))] <| up <| go [] <| dw (fls [0, 1, 2, 3, 4, 5, 6, 7, 8, 9, 10, 11, 12, 13, 14, 15] Tr.nil) h42 fun _ h45 => go [.v 9 3 (qeF (k : Int) (m2 : Int)), .s 9 7] <| lw (.pointer (some ⟨b35, k, none⟩)) (fun _ => law_indexSlP (x := (Operand.tmp 39)) (i := (Operand.tmp 40)) (p := p2) (b := b35) (off := 0) (z := (k : Int)) (len := m2) (cap := c2) (by kernel_rfl) Tryz.underlying49 1 (by kernel_rfl) k (by kernel_rfl) hp36 (by kernel_rfl) (by omega) (by omega) k (by omega) _) <| go [.r 9 8 b35 k [.string (St x37)] ⟨gv_cell (j := 0) h45 rfl (gv_sl _ _ _) hp36 (fl_get eW_ok (j := 0) (v := .string (St x37)) hx38 rfl) k (by omega), trivial⟩, .s 9 11] <| lw (.pointer (some ⟨b39, i * 6, none⟩)) (fun _ => law_indexSlP (x := (Operand.tmp 43)) (i := (Operand.tmp 44)) (p := p10) (b := b39) (off := 0) (z := (i : Int)) (len := (((lks S).length))) (cap := cap11) (by kernel_rfl) Tryz.underlying42 6 (by kernel_rfl) i (by kernel_rfl) hp40 (by kernel_rfl) (by omega) (by omega) (i * 6) (by omega) _) <| go [.r 9 13 b39 (i * 6) [.string (St x25.tag)] ⟨gv_cell (j := 1) h45 rfl (gv_sl _ _ _) hp40 (fl_get eLk_ok (j := 0) (v := .string (St x25.tag)) hx26 rfl) (i * 6) (by omega), trivial⟩, .s 9 14] ?_
   by_cases cs46 : x37 = (x25.tag : List UInt8)
   ·
    refine lw (.bool false) (fun _ => law_neStr (t := 9) (x := (Operand.tmp 42)) (y := (Operand.tmp 47)) (a := x37) (b := x25.tag) (by kernel_rfl) (by kernel_rfl) (by kernel_rfl) false (decide_eq_true cs46) _) <| go [.v 5 1 (oIr ((i : Int) + 1))] ?_
    refine enL ?_
    change ∃ n', n' < _ ∧ _
    refine ⟨((lks S).length - (i + 1)), by omega, (i + 1), X_, p2, m2, c2, _, rfl, (by omega), (dt_old hD_ hx26 hx38 cs46), hl_, (lvF [.k 3 (.slice p2 m2 c2), .k 4 (.slice p10 (((lks S).length)) cap11), .o 5 (oJ .i64 ((i : Int) + 1) ((((i + 1) : Nat) : Int)))]), h45⟩
   refine lw (.bool true) (fun _ => law_neStr (t := 9) (x := (Operand.tmp 42)) (y := (Operand.tmp 47)) (a := x37) (b := x25.tag) (by kernel_rfl) (by kernel_rfl) (by kernel_rfl) true ((decide_eq_false cs46).trans rfl) _) <| go [] <| dw (fls [1, 2, 3, 5, 6, 7, 8, 9, 12, 13, 14] (Tr.an2 0 (Tr.an2 4 (Tr.an 10 (Tr.an 11 (Tr.an 15 (Tr.fl 16 Tr.nil)))) 10 (Tr.an 4 (Tr.an 11 (Tr.an 15 (Tr.fl 16 Tr.nil))))) 10 (Tr.an 0 (Tr.an 4 (Tr.an 11 (Tr.an 15 (Tr.fl 16 Tr.nil))))))) h45 fun _ h48 => go [.s 10 3] <| lw (.slice p2 k c2) (fun _ => law_sliceTo (x := (Operand.tmp 51)) (y := (Operand.tmp 52)) (p := p2) (m := m2) (c := c2) (z := (k : Int)) (by kernel_rfl) Tryz.underlying49 (by kernel_rfl) (by kernel_rfl) (by kernel_rfl) k (by omega) (by omega) _) <| go [.s 10 7] <| lw (.pointer (some ⟨b39, i * 6, none⟩)) (fun _ => law_indexSlP (x := (Operand.tmp 55)) (i := (Operand.tmp 56)) (p := p10) (b := b39) (off := 0) (z := (i : Int)) (len := (((lks S).length))) (cap := cap11) (by kernel_rfl) Tryz.underlying42 6 (by kernel_rfl) i (by kernel_rfl) hp40 (by kernel_rfl) (by omega) (by omega) (i * 6) (by omega) _) ?_
   obtain ⟨q49, hq50⟩ : ∃ q : Option Addr, q = if c2 = k then p2 else p2.map (fun a : Addr => a.add (k * 1)) := ⟨_, rfl⟩
   refine go [.r 10 9 b39 (i * 6) [.string (St x25.tag)] ⟨gv_cell (j := 1) h48 rfl (gv_sl _ _ _) hp40 (fl_get eLk_ok (j := 0) (v := .string (St x25.tag)) hx26 rfl) (i * 6) (by omega), trivial⟩, .s 10 14] <| lw (.slice q49 (m2 - k) (c2 - k)) (fun _ => law_sliceFrom (x := (Operand.tmp 62)) (y := (Operand.tmp 63)) (p := p2) (m := m2) (c := c2) (sz := 1) (z := (k : Int)) (by kernel_rfl) Tryz.underlying49 (by kernel_rfl) (by kernel_rfl) (by kernel_rfl) k (by omega) (by omega) hq50 _) ?_
   refine br2 ?_ ?_
   ·
    refine nG (fun q_ => .slice (some ⟨q_, 0, none⟩) 0 0) 9 [] h48 (fun r51 w52 h53 => ⟨kd [.r 0 9 b39 (i * 6) [.string (St x25.tag)] ⟨gv_cell (j := 2) h53 rfl (gv_sl _ _ _) hp40 (fl_get eLk_ok (j := 0) (v := .string (St x25.tag)) hx26 rfl) (i * 6) (by omega), trivial⟩], ?_⟩)
    refine br2 ?_ ?_
    ·
     have h54 : sat g w52 [Sl 9 1 (some ⟨r51, 0, none⟩) 0 0 (fl eW []), Sl 9 1 p2 m2 c2 (fl eW X_), Sl 75 6 p10 (((lks S).length)) cap11 (fl eLk (lks S)), Drp b S, R] := sl_of_cl h53 rfl (by omega)
     refine actG ?_
     refine an_append_gv (d := 54) (sz := 1) (s := (Operand.tmp 50)) (x := (Operand.tmp 53)) (z := .string (St [])) (p := (some ⟨r51, 0, none⟩)) (p2 := p2) (m := 0) (c := 0) (k := k) (c2 := c2) (by_ := 16) (by kernel_rfl) (by kernel_rfl) rfl Tryz.underlying49 (by kernel_rfl) rfl (by decide) (by kernel_rfl) (by kernel_rfl) h54 1 rfl (fl eW (X_.take k)) (gv_list eW_ok (gv_sl _ _ _) (by omega)) (by rw [fl_len eW_ok, show ((X_.take k)).length = k from (by rw [List.length_take, hl_]; omega)]) (fl_one eW_ok _) (by omega) (by omega) k (by omega) ?_
     intro p55 cap56 w57 h58
     have h59 : sat g w57 [Sl 9 1 p55 k cap56 (fl eW (X_.take k)), Sl 9 1 p2 m2 c2 (fl eW X_), Sl 75 6 p10 (((lks S).length)) cap11 (fl eLk (lks S)), Drp b S, R] := sat_imp h58 (fun _ hh => by exact hh)
     obtain ⟨hn60, hn61⟩ := sl_le h59
     refine ⟨kd [.r 0 9 b39 (i * 6) [.string (St x25.tag)] ⟨gv_cell (j := 2) h59 rfl (gv_sl _ _ _) hp40 (fl_get eLk_ok (j := 0) (v := .string (St x25.tag)) hx26 rfl) (i * 6) (by omega), trivial⟩], nxG ?_⟩
     refine nG (fun q_ => .slice (some ⟨q_, 0, none⟩) 1 1) 9 [.string (St x25.tag)] h59 (fun r62 _ h64 => ⟨kd [], ?_⟩)
     have h65 := tk6 (sf5 (sf4 (sf5 (sf5 (sf5 (sf5 h64))))))
     refine actG ?_
     refine an_append (d := 61) (sz := 1) (s := (Operand.tmp 54)) (x := (Operand.tmp 60)) (z := .string (St [])) (p := p55) (m := k) (c := cap56) (k := 1) (c2 := 1) (a := ⟨r62, 0, none⟩) (by_ := 16) (by kernel_rfl) (by kernel_rfl) rfl Tryz.underlying49 (by kernel_rfl) rfl (by decide) (by kernel_rfl) (by kernel_rfl) h65 (fl eW [x25.tag]) rfl (fun j u hj => by rw [add_off]; exact sat_cell h65 1 rfl (by rw [Nat.zero_add]; exact hj)) (fl_one eW_ok _) (by omega) (by omega) (k + 1) (by omega) ?_
     intro p66 cap67 w68 h69
     have h70 : sat g w68 [Sl 9 1 p66 (k + 1) cap67 (fl eW ((X_.take k) ++ [x25.tag])), Cl r62 [.string (St x25.tag)] 9, Sl 9 1 p2 m2 c2 (fl eW X_), Sl 75 6 p10 (((lks S).length)) cap11 (fl eLk (lks S)), Drp b S, R] := sat_imp h69 (fun _ hh => by rw [fl_app]; exact hh)
     obtain ⟨hn71, hn72⟩ := sl_le h70
     refine ⟨kd [], nxG ?_⟩
     refine actG ?_
     refine an_append_gv (d := 65) (sz := 1) (s := (Operand.tmp 61)) (x := (Operand.tmp 64)) (z := .string (St [])) (p := p66) (p2 := q49) (m := (k + 1)) (c := cap67) (k := (m2 - k)) (c2 := (c2 - k)) (by_ := 16) (by kernel_rfl) (by kernel_rfl) rfl Tryz.underlying49 (by kernel_rfl) rfl (by decide) (by kernel_rfl) (by kernel_rfl) h70 2 rfl (fl eW (X_.drop k)) (gv_from eW_ok (gv_sl _ _ _) hl_ (by omega) (by omega) hq50) (by rw [fl_len eW_ok, show ((X_.drop k)).length = m2 - k from (by rw [List.length_drop, hl_])]) (fl_one eW_ok _) (by omega) (by omega) (m2 + 1) (by omega) ?_
     intro p73 cap74 w75 h76
     have h77 : sat g w75 [Sl 9 1 p73 (m2 + 1) cap74 (fl eW (((X_.take k) ++ [x25.tag]) ++ (X_.drop k))), Cl r62 [.string (St x25.tag)] 9, Sl 9 1 p2 m2 c2 (fl eW X_), Sl 75 6 p10 (((lks S).length)) cap11 (fl eLk (lks S)), Drp b S, R] := sat_imp h76 (fun _ hh => by rw [fl_app]; exact hh)
     obtain ⟨hn78, hn79⟩ := sl_le h77
     refine ⟨kd [], nxG ?_⟩
     refine go [.v 5 1 (oIr ((i : Int) + 1))] ?_
     refine enL ?_
     have hl80 := fl_n eW_ok (by decide) h77
     have h82 := tk4 (tk6 (sf5 (sf5 (sf5 (sf5 (sf2 (sf2 h77)))))))
     change ∃ n', n' < _ ∧ _
     refine ⟨((lks S).length - (i + 1)), by omega, (i + 1), (((X_.take k) ++ [x25.tag]) ++ (X_.drop k)), p73, m2 + 1, cap74, _, rfl, (by omega), (dt_new hD_ hx26 hlo_ (.inr ⟨x37, hx38, not_lt_ne (fun q_ => absurd ((ordT_lt (dt_tag hW_ hD_ hx38) (lks_good hW_ (List.mem_of_getElem? hx26)).1).2 q_) (by omega)) cs46⟩)), (hl80.trans (by omega)), (lvF [.k 3 (.slice p73 (m2 + 1) cap74), .k 4 (.slice p10 (((lks S).length)) cap11), .o 5 (oJ .i64 ((i : Int) + 1) ((((i + 1) : Nat) : Int)))]), h82⟩
    refine nG (fun q_ => .slice (some ⟨q_, 0, none⟩) 1 1) 9 [.string (St x25.tag)] h53 (fun r83 w84 h85 => ⟨kd [], ?_⟩)
    have h87 : sat g w84 [Sl 9 1 (some ⟨r51, 0, none⟩) 0 0 (fl eW []), Cl r83 [.string (St x25.tag)] 9, Sl 9 1 p2 m2 c2 (fl eW X_), Sl 75 6 p10 (((lks S).length)) cap11 (fl eLk (lks S)), Drp b S, R] := sl_of_cl (tk6 (sf5 (sf4 (sf5 (sf5 (sf5 (sf5 h85))))))) rfl (by omega)
    refine actG ?_
    refine an_append_gv (d := 54) (sz := 1) (s := (Operand.tmp 50)) (x := (Operand.tmp 53)) (z := .string (St [])) (p := (some ⟨r51, 0, none⟩)) (p2 := p2) (m := 0) (c := 0) (k := k) (c2 := c2) (by_ := 16) (by kernel_rfl) (by kernel_rfl) rfl Tryz.underlying49 (by kernel_rfl) rfl (by decide) (by kernel_rfl) (by kernel_rfl) h87 2 rfl (fl eW (X_.take k)) (gv_list eW_ok (gv_sl _ _ _) (by omega)) (by rw [fl_len eW_ok, show ((X_.take k)).length = k from (by rw [List.length_take, hl_]; omega)]) (fl_one eW_ok _) (by omega) (by omega) k (by omega) ?_
    intro p88 cap89 w90 h91
    have h92 : sat g w90 [Sl 9 1 p88 k cap89 (fl eW (X_.take k)), Cl r83 [.string (St x25.tag)] 9, Sl 9 1 p2 m2 c2 (fl eW X_), Sl 75 6 p10 (((lks S).length)) cap11 (fl eLk (lks S)), Drp b S, R] := sat_imp h91 (fun _ hh => by exact hh)
    obtain ⟨hn93, hn94⟩ := sl_le h92
    refine ⟨kd [], nxG ?_⟩
    refine actG ?_
    refine an_append (d := 61) (sz := 1) (s := (Operand.tmp 54)) (x := (Operand.tmp 60)) (z := .string (St [])) (p := p88) (m := k) (c := cap89) (k := 1) (c2 := 1) (a := ⟨r83, 0, none⟩) (by_ := 16) (by kernel_rfl) (by kernel_rfl) rfl Tryz.underlying49 (by kernel_rfl) rfl (by decide) (by kernel_rfl) (by kernel_rfl) h92 (fl eW [x25.tag]) rfl (fun j u hj => by rw [add_off]; exact sat_cell h92 1 rfl (by rw [Nat.zero_add]; exact hj)) (fl_one eW_ok _) (by omega) (by omega) (k + 1) (by omega) ?_
    intro p95 cap96 w97 h98
    have h99 : sat g w97 [Sl 9 1 p95 (k + 1) cap96 (fl eW ((X_.take k) ++ [x25.tag])), Cl r83 [.string (St x25.tag)] 9, Sl 9 1 p2 m2 c2 (fl eW X_), Sl 75 6 p10 (((lks S).length)) cap11 (fl eLk (lks S)), Drp b S, R] := sat_imp h98 (fun _ hh => by rw [fl_app]; exact hh)
    obtain ⟨hn100, hn101⟩ := sl_le h99
    refine ⟨kd [], nxG ?_⟩
    refine actG ?_
    refine an_append_gv (d := 65) (sz := 1) (s := (Operand.tmp 61)) (x := (Operand.tmp 64)) (z := .string (St [])) (p := p95) (p2 := q49) (m := (k + 1)) (c := cap96) (k := (m2 - k)) (c2 := (c2 - k)) (by_ := 16) (by kernel_rfl) (by kernel_rfl) rfl Tryz.underlying49 (by kernel_rfl) rfl (by decide) (by kernel_rfl) (by kernel_rfl) h99 2 rfl (fl eW (X_.drop k)) (gv_from eW_ok (gv_sl _ _ _) hl_ (by omega) (by omega) hq50) (by rw [fl_len eW_ok, show ((X_.drop k)).length = m2 - k from (by rw [List.length_drop, hl_])]) (fl_one eW_ok _) (by omega) (by omega) (m2 + 1) (by omega) ?_
    intro p102 cap103 w104 h105
    have h106 : sat g w104 [Sl 9 1 p102 (m2 + 1) cap103 (fl eW (((X_.take k) ++ [x25.tag]) ++ (X_.drop k))), Cl r83 [.string (St x25.tag)] 9, Sl 9 1 p2 m2 c2 (fl eW X_), Sl 75 6 p10 (((lks S).length)) cap11 (fl eLk (lks S)), Drp b S, R] := sat_imp h105 (fun _ hh => by rw [fl_app]; exact hh)
    obtain ⟨hn107, hn108⟩ := sl_le h106
    refine ⟨kd [], nxG ?_⟩
    refine go [.v 5 1 (oIr ((i : Int) + 1))] ?_
    refine enL ?_
    have hl109 := fl_n eW_ok (by decide) h106
    have h111 := tk4 (tk6 (sf5 (sf5 (sf5 (sf5 (sf2 (sf2 h106)))))))
    change ∃ n', n' < _ ∧ _
    refine ⟨((lks S).length - (i + 1)), by omega, (i + 1), (((X_.take k) ++ [x25.tag]) ++ (X_.drop k)), p102, m2 + 1, cap103, _, rfl, (by omega), (dt_new hD_ hx26 hlo_ (.inr ⟨x37, hx38, not_lt_ne (fun q_ => absurd ((ordT_lt (dt_tag hW_ hD_ hx38) (lks_good hW_ (List.mem_of_getElem? hx26)).1).2 q_) (by omega)) cs46⟩)), (hl109.trans (by omega)), (lvF [.k 3 (.slice p102 (m2 + 1) cap103), .k 4 (.slice p10 (((lks S).length)) cap11), .o 5 (oJ .i64 ((i : Int) + 1) ((((i + 1) : Nat) : Int)))]), h111⟩
   refine nG (fun q_ => .slice (some ⟨q_, 0, none⟩) 1 1) 9 [.string (St x25.tag)] h48 (fun r112 _ h114 => ⟨kd [], ?_⟩)
   refine nG (fun q_ => .slice (some ⟨q_, 0, none⟩) 0 0) 9 [] h114 (fun r115 w116 h117 => ⟨kd [], ?_⟩)
   have h118 : sat g w116 [Sl 9 1 (some ⟨r115, 0, none⟩) 0 0 (fl eW []), Cl r112 [.string (St x25.tag)] 9, Sl 9 1 p2 m2 c2 (fl eW X_), Sl 75 6 p10 (((lks S).length)) cap11 (fl eLk (lks S)), Drp b S, R] := sl_of_cl h117 rfl (by omega)
   refine actG ?_
   refine an_append_gv (d := 54) (sz := 1) (s := (Operand.tmp 50)) (x := (Operand.tmp 53)) (z := .string (St [])) (p := (some ⟨r115, 0, none⟩)) (p2 := p2) (m := 0) (c := 0) (k := k) (c2 := c2) (by_ := 16) (by kernel_rfl) (by kernel_rfl) rfl Tryz.underlying49 (by kernel_rfl) rfl (by decide) (by kernel_rfl) (by kernel_rfl) h118 2 rfl (fl eW (X_.take k)) (gv_list eW_ok (gv_sl _ _ _) (by omega)) (by rw [fl_len eW_ok, show ((X_.take k)).length = k from (by rw [List.length_take, hl_]; omega)]) (fl_one eW_ok _) (by omega) (by omega) k (by omega) ?_
   intro p119 cap120 w121 h122
   have h123 : sat g w121 [Sl 9 1 p119 k cap120 (fl eW (X_.take k)), Cl r112 [.string (St x25.tag)] 9, Sl 9 1 p2 m2 c2 (fl eW X_), Sl 75 6 p10 (((lks S).length)) cap11 (fl eLk (lks S)), Drp b S, R] := sat_imp h122 (fun _ hh => by exact hh)
   obtain ⟨hn124, hn125⟩ := sl_le h123
   refine ⟨kd [], nxG ?_⟩
   refine actG ?_
   refine an_append (d := 61) (sz := 1) (s := (Operand.tmp 54)) (x := (Operand.tmp 60)) (z := .string (St [])) (p := p119) (m := k) (c := cap120) (k := 1) (c2 := 1) (a := ⟨r112, 0, none⟩) (by_ := 16) (by kernel_rfl) (by kernel_rfl) rfl Tryz.underlying49 (by kernel_rfl) rfl (by decide) (by kernel_rfl) (by kernel_rfl) h123 (fl eW [x25.tag]) rfl (fun j u hj => by rw [add_off]; exact sat_cell h123 1 rfl (by rw [Nat.zero_add]; exact hj)) (fl_one eW_ok _) (by omega) (by omega) (k + 1) (by omega) ?_
   intro p126 cap127 w128 h129
   have h130 : sat g w128 [Sl 9 1 p126 (k + 1) cap127 (fl eW ((X_.take k) ++ [x25.tag])), Cl r112 [.string (St x25.tag)] 9, Sl 9 1 p2 m2 c2 (fl eW X_), Sl 75 6 p10 (((lks S).length)) cap11 (fl eLk (lks S)), Drp b S, R] := sat_imp h129 (fun _ hh => by rw [fl_app]; exact hh)
   obtain ⟨hn131, hn132⟩ := sl_le h130
   refine ⟨kd [], nxG ?_⟩
   refine actG ?_
   refine an_append_gv (d := 65) (sz := 1) (s := (Operand.tmp 61)) (x := (Operand.tmp 64)) (z := .string (St [])) (p := p126) (p2 := q49) (m := (k + 1)) (c := cap127) (k := (m2 - k)) (c2 := (c2 - k)) (by_ := 16) (by kernel_rfl) (by kernel_rfl) rfl Tryz.underlying49 (by kernel_rfl) rfl (by decide) (by kernel_rfl) (by kernel_rfl) h130 2 rfl (fl eW (X_.drop k)) (gv_from eW_ok (gv_sl _ _ _) hl_ (by omega) (by omega) hq50) (by rw [fl_len eW_ok, show ((X_.drop k)).length = m2 - k from (by rw [List.length_drop, hl_])]) (fl_one eW_ok _) (by omega) (by omega) (m2 + 1) (by omega) ?_
   intro p133 cap134 w135 h136
   have h137 : sat g w135 [Sl 9 1 p133 (m2 + 1) cap134 (fl eW (((X_.take k) ++ [x25.tag]) ++ (X_.drop k))), Cl r112 [.string (St x25.tag)] 9, Sl 9 1 p2 m2 c2 (fl eW X_), Sl 75 6 p10 (((lks S).length)) cap11 (fl eLk (lks S)), Drp b S, R] := sat_imp h136 (fun _ hh => by rw [fl_app]; exact hh)
   obtain ⟨hn138, hn139⟩ := sl_le h137
   refine ⟨kd [], nxG ?_⟩
   refine go [.v 5 1 (oIr ((i : Int) + 1))] ?_
   refine enL ?_
   have hl140 := fl_n eW_ok (by decide) h137
   have h142 := tk4 (tk6 (sf5 (sf5 (sf5 (sf5 (sf2 (sf2 h137)))))))
   change ∃ n', n' < _ ∧ _
   refine ⟨((lks S).length - (i + 1)), by omega, (i + 1), (((X_.take k) ++ [x25.tag]) ++ (X_.drop k)), p133, m2 + 1, cap134, _, rfl, (by omega), (dt_new hD_ hx26 hlo_ (.inr ⟨x37, hx38, not_lt_ne (fun q_ => absurd ((ordT_lt (dt_tag hW_ hD_ hx38) (lks_good hW_ (List.mem_of_getElem? hx26)).1).2 q_) (by omega)) cs46⟩)), (hl140.trans (by omega)), (lvF [.k 3 (.slice p133 (m2 + 1) cap134), .k 4 (.slice p10 (((lks S).length)) cap11), .o 5 (oJ .i64 ((i : Int) + 1) ((((i + 1) : Nat) : Int)))]), h142⟩
  refine go [.v 7 3 (oF ((k : Int) < (m2 : Int)))] <| dsk [] <| go [] <| up <| go [] <| dw (fls [0, 1, 2, 3, 4, 5, 6, 7, 8, 9, 10, 11, 12, 13, 14, 15] Tr.nil) h33 fun _ h144 => go [.v 9 3 (qeT (k : Int) (m2 : Int))] <| dw (fls [1, 2, 3, 5, 6, 7, 8, 9, 12, 13, 14] (Tr.an2 0 (Tr.an2 4 (Tr.an 10 (Tr.an 11 (Tr.an 15 (Tr.fl 16 Tr.nil)))) 10 (Tr.an 4 (Tr.an 11 (Tr.an 15 (Tr.fl 16 Tr.nil))))) 10 (Tr.an 0 (Tr.an 4 (Tr.an 11 (Tr.an 15 (Tr.fl 16 Tr.nil))))))) h144 fun _ h146 => go [.s 10 3] <| lw (.slice p2 k c2) (fun _ => law_sliceTo (x := (Operand.tmp 51)) (y := (Operand.tmp 52)) (p := p2) (m := m2) (c := c2) (z := (k : Int)) (by kernel_rfl) Tryz.underlying49 (by kernel_rfl) (by kernel_rfl) (by kernel_rfl) k (by omega) (by omega) _) ?_
  obtain ⟨b147, hp148⟩ := sl_ptr0 (j := 1) h146 rfl (by omega)
  refine go [.s 10 7] <| lw (.pointer (some ⟨b147, i * 6, none⟩)) (fun _ => law_indexSlP (x := (Operand.tmp 55)) (i := (Operand.tmp 56)) (p := p10) (b := b147) (off := 0) (z := (i : Int)) (len := (((lks S).length))) (cap := cap11) (by kernel_rfl) Tryz.underlying42 6 (by kernel_rfl) i (by kernel_rfl) hp148 (by kernel_rfl) (by omega) (by omega) (i * 6) (by omega) _) ?_
  obtain ⟨q149, hq150⟩ : ∃ q : Option Addr, q = if c2 = k then p2 else p2.map (fun a : Addr => a.add (k * 1)) := ⟨_, rfl⟩
  refine go [.r 10 9 b147 (i * 6) [.string (St x25.tag)] ⟨gv_cell (j := 1) h146 rfl (gv_sl _ _ _) hp148 (fl_get eLk_ok (j := 0) (v := .string (St x25.tag)) hx26 rfl) (i * 6) (by omega), trivial⟩, .s 10 14] <| lw (.slice q149 (m2 - k) (c2 - k)) (fun _ => law_sliceFrom (x := (Operand.tmp 62)) (y := (Operand.tmp 63)) (p := p2) (m := m2) (c := c2) (sz := 1) (z := (k : Int)) (by kernel_rfl) Tryz.underlying49 (by kernel_rfl) (by kernel_rfl) (by kernel_rfl) k (by omega) (by omega) hq150 _) ?_
  refine br2 ?_ ?_
  ·
   refine nG (fun q_ => .slice (some ⟨q_, 0, none⟩) 0 0) 9 [] h146 (fun r151 w152 h153 => ⟨kd [.r 0 9 b147 (i * 6) [.string (St x25.tag)] ⟨gv_cell (j := 2) h153 rfl (gv_sl _ _ _) hp148 (fl_get eLk_ok (j := 0) (v := .string (St x25.tag)) hx26 rfl) (i * 6) (by omega), trivial⟩], ?_⟩)
   refine br2 ?_ ?_
   ·
    have h154 : sat g w152 [Sl 9 1 (some ⟨r151, 0, none⟩) 0 0 (fl eW []), Sl 9 1 p2 m2 c2 (fl eW X_), Sl 75 6 p10 (((lks S).length)) cap11 (fl eLk (lks S)), Drp b S, R] := sl_of_cl h153 rfl (by omega)
    refine actG ?_
    refine an_append_gv (d := 54) (sz := 1) (s := (Operand.tmp 50)) (x := (Operand.tmp 53)) (z := .string (St [])) (p := (some ⟨r151, 0, none⟩)) (p2 := p2) (m := 0) (c := 0) (k := k) (c2 := c2) (by_ := 16) (by kernel_rfl) (by kernel_rfl) rfl Tryz.underlying49 (by kernel_rfl) rfl (by decide) (by kernel_rfl) (by kernel_rfl) h154 1 rfl (fl eW (X_.take k)) (gv_list eW_ok (gv_sl _ _ _) (by omega)) (by rw [fl_len eW_ok, show ((X_.take k)).length = k from (by rw [List.length_take, hl_]; omega)]) (fl_one eW_ok _) (by omega) (by omega) k (by omega) ?_
    intro p155 cap156 w157 h158
    have h159 : sat g w157 [Sl 9 1 p155 k cap156 (fl eW (X_.take k)), Sl 9 1 p2 m2 c2 (fl eW X_), Sl 75 6 p10 (((lks S).length)) cap11 (fl eLk (lks S)), Drp b S, R] := sat_imp h158 (fun _ hh => by exact hh)
    obtain ⟨hn160, hn161⟩ := sl_le h159
    refine ⟨kd [.r 0 9 b147 (i * 6) [.string (St x25.tag)] ⟨gv_cell (j := 2) h159 rfl (gv_sl _ _ _) hp148 (fl_get eLk_ok (j := 0) (v := .string (St x25.tag)) hx26 rfl) (i * 6) (by omega), trivial⟩], nxG ?_⟩
    refine nG (fun q_ => .slice (some ⟨q_, 0, none⟩) 1 1) 9 [.string (St x25.tag)] h159 (fun r162 _ h164 => ⟨kd [], ?_⟩)
    have h165 := tk6 (sf5 (sf4 (sf5 (sf5 (sf5 (sf5 h164))))))
    refine actG ?_
    refine an_append (d := 61) (sz := 1) (s := (Operand.tmp 54)) (x := (Operand.tmp 60)) (z := .string (St [])) (p := p155) (m := k) (c := cap156) (k := 1) (c2 := 1) (a := ⟨r162, 0, none⟩) (by_ := 16) (by kernel_rfl) (by kernel_rfl) rfl Tryz.underlying49 (by kernel_rfl) rfl (by decide) (by kernel_rfl) (by kernel_rfl) h165 (fl eW [x25.tag]) rfl (fun j u hj => by rw [add_off]; exact sat_cell h165 1 rfl (by rw [Nat.zero_add]; exact hj)) (fl_one eW_ok _) (by omega) (by omega) (k + 1) (by omega) ?_
    intro p166 cap167 w168 h169
    have h170 : sat g w168 [Sl 9 1 p166 (k + 1) cap167 (fl eW ((X_.take k) ++ [x25.tag])), Cl r162 [.string (St x25.tag)] 9, Sl 9 1 p2 m2 c2 (fl eW X_), Sl 75 6 p10 (((lks S).length)) cap11 (fl eLk (lks S)), Drp b S, R] := sat_imp h169 (fun _ hh => by rw [fl_app]; exact hh)
    obtain ⟨hn171, hn172⟩ := sl_le h170
    refine ⟨kd [], nxG ?_⟩
    refine actG ?_
    refine an_append_gv (d := 65) (sz := 1) (s := (Operand.tmp 61)) (x := (Operand.tmp 64)) (z := .string (St [])) (p := p166) (p2 := q149) (m := (k + 1)) (c := cap167) (k := (m2 - k)) (c2 := (c2 - k)) (by_ := 16) (by kernel_rfl) (by kernel_rfl) rfl Tryz.underlying49 (by kernel_rfl) rfl (by decide) (by kernel_rfl) (by kernel_rfl) h170 2 rfl (fl eW (X_.drop k)) (gv_from eW_ok (gv_sl _ _ _) hl_ (by omega) (by omega) hq150) (by rw [fl_len eW_ok, show ((X_.drop k)).length = m2 - k from (by rw [List.length_drop, hl_])]) (fl_one eW_ok _) (by omega) (by omega) (m2 + 1) (by omega) ?_
    intro p173 cap174 w175 h176
    have h177 : sat g w175 [Sl 9 1 p173 (m2 + 1) cap174 (fl eW (((X_.take k) ++ [x25.tag]) ++ (X_.drop k))), Cl r162 [.string (St x25.tag)] 9, Sl 9 1 p2 m2 c2 (fl eW X_), Sl 75 6 p10 (((lks S).length)) cap11 (fl eLk (lks S)), Drp b S, R] := sat_imp h176 (fun _ hh => by rw [fl_app]; exact hh)
    obtain ⟨hn178, hn179⟩ := sl_le h177
    refine ⟨kd [], nxG ?_⟩
    refine go [.v 5 1 (oIr ((i : Int) + 1))] ?_
    refine enL ?_
    have hl180 := fl_n eW_ok (by decide) h177
    have h182 := tk4 (tk6 (sf5 (sf5 (sf5 (sf5 (sf2 (sf2 h177)))))))
    change ∃ n', n' < _ ∧ _
    refine ⟨((lks S).length - (i + 1)), by omega, (i + 1), (((X_.take k) ++ [x25.tag]) ++ (X_.drop k)), p173, m2 + 1, cap174, _, rfl, (by omega), (dt_new hD_ hx26 hlo_ (.inl (by omega))), (hl180.trans (by omega)), (lvF [.k 3 (.slice p173 (m2 + 1) cap174), .k 4 (.slice p10 (((lks S).length)) cap11), .o 5 (oJ .i64 ((i : Int) + 1) ((((i + 1) : Nat) : Int)))]), h182⟩
   refine nG (fun q_ => .slice (some ⟨q_, 0, none⟩) 1 1) 9 [.string (St x25.tag)] h153 (fun r183 w184 h185 => ⟨kd [], ?_⟩)
   have h187 : sat g w184 [Sl 9 1 (some ⟨r151, 0, none⟩) 0 0 (fl eW []), Cl r183 [.string (St x25.tag)] 9, Sl 9 1 p2 m2 c2 (fl eW X_), Sl 75 6 p10 (((lks S).length)) cap11 (fl eLk (lks S)), Drp b S, R] := sl_of_cl (tk6 (sf5 (sf4 (sf5 (sf5 (sf5 (sf5 h185))))))) rfl (by omega)
   refine actG ?_
   refine an_append_gv (d := 54) (sz := 1) (s := (Operand.tmp 50)) (x := (Operand.tmp 53)) (z := .string (St [])) (p := (some ⟨r151, 0, none⟩)) (p2 := p2) (m := 0) (c := 0) (k := k) (c2 := c2) (by_ := 16) (by kernel_rfl) (by kernel_rfl) rfl Tryz.underlying49 (by kernel_rfl) rfl (by decide) (by kernel_rfl) (by kernel_rfl) h187 2 rfl (fl eW (X_.take k)) (gv_list eW_ok (gv_sl _ _ _) (by omega)) (by rw [fl_len eW_ok, show ((X_.take k)).length = k from (by rw [List.length_take, hl_]; omega)]) (fl_one eW_ok _) (by omega) (by omega) k (by omega) ?_
   intro p188 cap189 w190 h191
   have h192 : sat g w190 [Sl 9 1 p188 k cap189 (fl eW (X_.take k)), Cl r183 [.string (St x25.tag)] 9, Sl 9 1 p2 m2 c2 (fl eW X_), Sl 75 6 p10 (((lks S).length)) cap11 (fl eLk (lks S)), Drp b S, R] := sat_imp h191 (fun _ hh => by exact hh)
   obtain ⟨hn193, hn194⟩ := sl_le h192
   refine ⟨kd [], nxG ?_⟩
   refine actG ?_
   refine an_append (d := 61) (sz := 1) (s := (Operand.tmp 54)) (x := (Operand.tmp 60)) (z := .string (St [])) (p := p188) (m := k) (c := cap189) (k := 1) (c2 := 1) (a := ⟨r183, 0, none⟩) (by_ := 16) (by kernel_rfl) (by kernel_rfl) rfl Tryz.underlying49 (by kernel_rfl) rfl (by decide) (by kernel_rfl) (by kernel_rfl) h192 (fl eW [x25.tag]) rfl (fun j u hj => by rw [add_off]; exact sat_cell h192 1 rfl (by rw [Nat.zero_add]; exact hj)) (fl_one eW_ok _) (by omega) (by omega) (k + 1) (by omega) ?_
   intro p195 cap196 w197 h198
   have h199 : sat g w197 [Sl 9 1 p195 (k + 1) cap196 (fl eW ((X_.take k) ++ [x25.tag])), Cl r183 [.string (St x25.tag)] 9, Sl 9 1 p2 m2 c2 (fl eW X_), Sl 75 6 p10 (((lks S).length)) cap11 (fl eLk (lks S)), Drp b S, R] := sat_imp h198 (fun _ hh => by rw [fl_app]; exact hh)
   obtain ⟨hn200, hn201⟩ := sl_le h199
   refine ⟨kd [], nxG ?_⟩
   refine actG ?_
   refine an_append_gv (d := 65) (sz := 1) (s := (Operand.tmp 61)) (x := (Operand.tmp 64)) (z := .string (St [])) (p := p195) (p2 := q149) (m := (k + 1)) (c := cap196) (k := (m2 - k)) (c2 := (c2 - k)) (by_ := 16) (by kernel_rfl) (by kernel_rfl) rfl Tryz.underlying49 (by kernel_rfl) rfl (by decide) (by kernel_rfl) (by kernel_rfl) h199 2 rfl (fl eW (X_.drop k)) (gv_from eW_ok (gv_sl _ _ _) hl_ (by omega) (by omega) hq150) (by rw [fl_len eW_ok, show ((X_.drop k)).length = m2 - k from (by rw [List.length_drop, hl_])]) (fl_one eW_ok _) (by omega) (by omega) (m2 + 1) (by omega) ?_
   intro p202 cap203 w204 h205
   have h206 : sat g w204 [Sl 9 1 p202 (m2 + 1) cap203 (fl eW (((X_.take k) ++ [x25.tag]) ++ (X_.drop k))), Cl r183 [.string (St x25.tag)] 9, Sl 9 1 p2 m2 c2 (fl eW X_), Sl 75 6 p10 (((lks S).length)) cap11 (fl eLk (lks S)), Drp b S, R] := sat_imp h205 (fun _ hh => by rw [fl_app]; exact hh)
   obtain ⟨hn207, hn208⟩ := sl_le h206
   refine ⟨kd [], nxG ?_⟩
   refine go [.v 5 1 (oIr ((i : Int) + 1))] ?_
   refine enL ?_
   have hl209 := fl_n eW_ok (by decide) h206
   have h211 := tk4 (tk6 (sf5 (sf5 (sf5 (sf5 (sf2 (sf2 h206)))))))
   change ∃ n', n' < _ ∧ _
   refine ⟨((lks S).length - (i + 1)), by omega, (i + 1), (((X_.take k) ++ [x25.tag]) ++ (X_.drop k)), p202, m2 + 1, cap203, _, rfl, (by omega), (dt_new hD_ hx26 hlo_ (.inl (by omega))), (hl209.trans (by omega)), (lvF [.k 3 (.slice p202 (m2 + 1) cap203), .k 4 (.slice p10 (((lks S).length)) cap11), .o 5 (oJ .i64 ((i : Int) + 1) ((((i + 1) : Nat) : Int)))]), h211⟩
  refine nG (fun q_ => .slice (some ⟨q_, 0, none⟩) 1 1) 9 [.string (St x25.tag)] h146 (fun r212 _ h214 => ⟨kd [], ?_⟩)
  refine nG (fun q_ => .slice (some ⟨q_, 0, none⟩) 0 0) 9 [] h214 (fun r215 w216 h217 => ⟨kd [], ?_⟩)
  have h218 : sat g w216 [Sl 9 1 (some ⟨r215, 0, none⟩) 0 0 (fl eW []), Cl r212 [.string (St x25.tag)] 9, Sl 9 1 p2 m2 c2 (fl eW X_), Sl 75 6 p10 (((lks S).length)) cap11 (fl eLk (lks S)), Drp b S, R] := sl_of_cl h217 rfl (by omega)
  refine actG ?_
  refine an_append_gv (d := 54) (sz := 1) (s := (Operand.tmp 50)) (x := (Operand.tmp 53)) (z := .string (St [])) (p := (some ⟨r215, 0, none⟩)) (p2 := p2) (m := 0) (c := 0) (k := k) (c2 := c2) (by_ := 16) (by kernel_rfl) (by kernel_rfl) rfl Tryz.underlying49 (by kernel_rfl) rfl (by decide) (by kernel_rfl) (by kernel_rfl) h218 2 rfl (fl eW (X_.take k)) (gv_list eW_ok (gv_sl _ _ _) (by omega)) (by rw [fl_len eW_ok, show ((X_.take k)).length = k from (by rw [List.length_take, hl_]; omega)]) (fl_one eW_ok _) (by omega) (by omega) k (by omega) ?_
  intro p219 cap220 w221 h222
  have h223 : sat g w221 [Sl 9 1 p219 k cap220 (fl eW (X_.take k)), Cl r212 [.string (St x25.tag)] 9, Sl 9 1 p2 m2 c2 (fl eW X_), Sl 75 6 p10 (((lks S).length)) cap11 (fl eLk (lks S)), Drp b S, R] := sat_imp h222 (fun _ hh => by exact hh)
  obtain ⟨hn224, hn225⟩ := sl_le h223
  refine ⟨kd [], nxG ?_⟩
  refine actG ?_
  refine an_append (d := 61) (sz := 1) (s := (Operand.tmp 54)) (x := (Operand.tmp 60)) (z := .string (St [])) (p := p219) (m := k) (c := cap220) (k := 1) (c2 := 1) (a := ⟨r212, 0, none⟩) (by_ := 16) (by kernel_rfl) (by kernel_rfl) rfl Tryz.underlying49 (by kernel_rfl) rfl (by decide) (by kernel_rfl) (by kernel_rfl) h223 (fl eW [x25.tag]) rfl (fun j u hj => by rw [add_off]; exact sat_cell h223 1 rfl (by rw [Nat.zero_add]; exact hj)) (fl_one eW_ok _) (by omega) (by omega) (k + 1) (by omega) ?_
  intro p226 cap227 w228 h229
  have h230 : sat g w228 [Sl 9 1 p226 (k + 1) cap227 (fl eW ((X_.take k) ++ [x25.tag])), Cl r212 [.string (St x25.tag)] 9, Sl 9 1 p2 m2 c2 (fl eW X_), Sl 75 6 p10 (((lks S).length)) cap11 (fl eLk (lks S)), Drp b S, R] := sat_imp h229 (fun _ hh => by rw [fl_app]; exact hh)
  obtain ⟨hn231, hn232⟩ := sl_le h230
  refine ⟨kd [], nxG ?_⟩
  refine actG ?_
  refine an_append_gv (d := 65) (sz := 1) (s := (Operand.tmp 61)) (x := (Operand.tmp 64)) (z := .string (St [])) (p := p226) (p2 := q149) (m := (k + 1)) (c := cap227) (k := (m2 - k)) (c2 := (c2 - k)) (by_ := 16) (by kernel_rfl) (by kernel_rfl) rfl Tryz.underlying49 (by kernel_rfl) rfl (by decide) (by kernel_rfl) (by kernel_rfl) h230 2 rfl (fl eW (X_.drop k)) (gv_from eW_ok (gv_sl _ _ _) hl_ (by omega) (by omega) hq150) (by rw [fl_len eW_ok, show ((X_.drop k)).length = m2 - k from (by rw [List.length_drop, hl_])]) (fl_one eW_ok _) (by omega) (by omega) (m2 + 1) (by omega) ?_
  intro p233 cap234 w235 h236
  have h237 : sat g w235 [Sl 9 1 p233 (m2 + 1) cap234 (fl eW (((X_.take k) ++ [x25.tag]) ++ (X_.drop k))), Cl r212 [.string (St x25.tag)] 9, Sl 9 1 p2 m2 c2 (fl eW X_), Sl 75 6 p10 (((lks S).length)) cap11 (fl eLk (lks S)), Drp b S, R] := sat_imp h236 (fun _ hh => by rw [fl_app]; exact hh)
  obtain ⟨hn238, hn239⟩ := sl_le h237
  refine ⟨kd [], nxG ?_⟩
  refine go [.v 5 1 (oIr ((i : Int) + 1))] ?_
  refine enL ?_
  have hl240 := fl_n eW_ok (by decide) h237
  have h242 := tk4 (tk6 (sf5 (sf5 (sf5 (sf5 (sf2 (sf2 h237)))))))
  change ∃ n', n' < _ ∧ _
  refine ⟨((lks S).length - (i + 1)), by omega, (i + 1), (((X_.take k) ++ [x25.tag]) ++ (X_.drop k)), p233, m2 + 1, cap234, _, rfl, (by omega), (dt_new hD_ hx26 hlo_ (.inl (by omega))), (hl240.trans (by omega)), (lvF [.k 3 (.slice p233 (m2 + 1) cap234), .k 4 (.slice p10 (((lks S).length)) cap11), .o 5 (oJ .i64 ((i : Int) + 1) ((((i + 1) : Nat) : Int)))]), h242⟩
 refine go [.v 4 3 (oF ((i : Int) < (((lks S).length : Nat) : Int)))] <| up <| go [] ?_
 have hT_ := dt_end hD_ (by omega)
 have h243 : sat g w22 [Sl 9 1 p2 X_.length c2 (fl eW X_), Sl 75 6 p10 (((lks S).length)) cap11 (fl eLk (lks S)), Drp b S, R] := sat_imp h23 (fun _ hh_ => by rw [hl_]; exact hh_)
 exact en (.slice p2 m2 c2) [] ⟨_, [Sl 9 1 p2 X_.length c2 (fl eW X_), Drp b S], rfl, ⟨X_, p2, c2, hT_, by rw [hl_], (rfl)⟩, (tk3 (sf2 (sf2 (sf3 (tk4 (sf3 (sf3 (sf2 (sf3 h243)))))))))⟩

set_option maxHeartbeats 4000000 in
theorem dtxs_ht (p1 p2 : Option Addr) (c1 c2 : Nat) (T : List (List UInt8)) (hm : T.length ≤ 4294967296) : HT Tryz.prog 24 [.slice p1 T.length c1, .slice p2 T.length c2] [Sl 9 1 p1 T.length c1 (fl eW T), Sl 9 1 p2 T.length c2 (fl eW T)] (fun v K => v = .bool true ∧ K = [Sl 9 1 p1 T.length c1 (fl eW T), Sl 9 1 p2 T.length c2 (fl eW T)]) := by
 refine hiS Tryz.func24 Tryz.ntmps24 fun g w0 R h0 => go [.v 1 4 (qnF (((T.length : Nat) : Int)) (((T.length : Nat) : Int)))] ?_
 refine lpS (fun mz_ a w => ∃ i : Nat, ∃ lr : Fr, mz_ = T.length - i ∧ (i ≤ T.length) ∧ a = mk 26 (([(0, .slice p1 T.length c1), (1, .slice p2 T.length c2), (5, iV (i : Int))] : Fr) ++ lr) ∧ sat g w [Sl 9 1 p1 T.length c1 (fl eW T), Sl 9 1 p2 T.length c2 (fl eW T), R]) (T.length - 0) ⟨0, _, rfl, (Nat.zero_le _), (lvF [.k 0 (.slice p1 T.length c1), .k 1 (.slice p2 T.length c2), .o 5 (oJ .i64 0 (0 : Int))]), h0⟩ ?_
 rintro m11 a12 w13 ⟨i, lr10, rfl, hi_, rfl, h14⟩
 refine ga <| go [.s 4 3] ?_
 by_cases c15 : (i : Int) < ((T.length : Nat) : Int)
 ·
  refine go [.v 4 3 (oT ((i : Int) < ((T.length : Nat) : Int)))] <| dw (fls [0, 1, 2, 3, 4, 5, 6, 7, 8] Tr.nil) h14 fun _ h17 => ?_
  obtain ⟨b18, hp19⟩ := sl_ptr0 (j := 0) h17 rfl (by omega)
  refine go [.s 6 2] <| lw (.pointer (some ⟨b18, i, none⟩)) (fun _ => law_indexSlP (x := (Operand.tmp 17)) (i := (Operand.tmp 18)) (p := p1) (b := b18) (off := 0) (z := (i : Int)) (len := T.length) (cap := c1) (by kernel_rfl) Tryz.underlying49 1 (by kernel_rfl) i (by kernel_rfl) hp19 (by kernel_rfl) (by omega) (by omega) i (by omega) _) ?_
  obtain ⟨x20, hx21⟩ : ∃ x, T[i]? = some x := ⟨_, List.getElem?_eq_getElem (by omega)⟩
  obtain ⟨b22, hp23⟩ := sl_ptr0 (j := 1) h17 rfl (by omega)
  refine go [.r 6 3 b18 i [.string (St x20)] ⟨gv_cell (j := 0) h17 rfl (gv_sl _ _ _) hp19 (fl_get eW_ok (j := 0) (v := .string (St x20)) hx21 rfl) i (by omega), trivial⟩, .s 6 6] <| lw (.pointer (some ⟨b22, i, none⟩)) (fun _ => law_indexSlP (x := (Operand.tmp 21)) (i := (Operand.tmp 22)) (p := p2) (b := b22) (off := 0) (z := (i : Int)) (len := T.length) (cap := c2) (by kernel_rfl) Tryz.underlying49 1 (by kernel_rfl) i (by kernel_rfl) hp23 (by kernel_rfl) (by omega) (by omega) i (by omega) _) <| go [.r 6 7 b22 i [.string (St x20)] ⟨gv_cell (j := 1) h17 rfl (gv_sl _ _ _) hp23 (fl_get eW_ok (j := 0) (v := .string (St x20)) hx21 rfl) i (by omega), trivial⟩, .s 6 8] <| lw (.bool false) (fun _ => law_neStr (t := 9) (x := (Operand.tmp 20)) (y := (Operand.tmp 24)) (a := x20) (b := x20) (by kernel_rfl) (by kernel_rfl) (by kernel_rfl) false (decide_eq_true rfl) _) <| go [.v 5 1 (oIr ((i : Int) + 1))] ?_
  refine enL ?_
  change ∃ n', n' < _ ∧ _
  refine ⟨(T.length - (i + 1)), by omega, (i + 1), _, rfl, (by omega), (lvF [.k 0 (.slice p1 T.length c1), .k 1 (.slice p2 T.length c2), .o 5 (oJ .i64 ((i : Int) + 1) ((((i + 1) : Nat) : Int)))]), h17⟩
 refine go [.v 4 3 (oF ((i : Int) < ((T.length : Nat) : Int)))] <| up <| go [] ?_
 exact en (.bool true) [] ⟨_, _, rfl, ⟨rfl, rfl⟩, h14⟩

set_option maxHeartbeats 4000000 in
theorem lsame_ht (p1 p2 : Option Addr) (c1 c2 : Nat) (L : List Lk) (hm : L.length ≤ 4294967296) : HT Tryz.prog 15 [.slice p1 L.length c1, .slice p2 L.length c2] [Sl 61 6 p1 L.length c1 (fl eLk L), Sl 75 6 p2 L.length c2 (fl eLk L)] (fun v K => v = .bool true ∧ K = [Sl 61 6 p1 L.length c1 (fl eLk L), Sl 75 6 p2 L.length c2 (fl eLk L)]) := by
 refine hiS Tryz.func15 Tryz.ntmps15 fun g w0 R h0 => go [.v 1 4 (qnF (((L.length : Nat) : Int)) (((L.length : Nat) : Int)))] ?_
 refine lpS (fun mz_ a w => ∃ i : Nat, ∃ lr : Fr, mz_ = L.length - i ∧ (i ≤ L.length) ∧ a = mk 67 (([(0, .slice p1 L.length c1), (1, .slice p2 L.length c2), (5, iV (i : Int))] : Fr) ++ lr) ∧ sat g w [Sl 61 6 p1 L.length c1 (fl eLk L), Sl 75 6 p2 L.length c2 (fl eLk L), R]) (L.length - 0) ⟨0, _, rfl, (Nat.zero_le _), (lvF [.k 0 (.slice p1 L.length c1), .k 1 (.slice p2 L.length c2), .o 5 (oJ .i64 0 (0 : Int))]), h0⟩ ?_
 rintro m11 a12 w13 ⟨i, lr10, rfl, hi_, rfl, h14⟩
 refine ga <| go [.s 4 3] ?_
 by_cases c15 : (i : Int) < ((L.length : Nat) : Int)
 ·
  refine go [.v 4 3 (oT ((i : Int) < ((L.length : Nat) : Int)))] <| dw (fls [0, 1, 2, 3, 4, 5, 6, 7, 8, 9, 10, 11, 12, 13, 14, 15, 16, 17, 18, 19, 20, 21, 22, 23, 24, 25, 26, 27, 28, 29, 30, 31, 32, 33, 34, 35, 36, 37, 38, 39, 40, 41, 42, 43, 44, 45, 46, 47, 48, 49] Tr.nil) h14 fun _ h17 => ?_
  obtain ⟨b18, hp19⟩ := sl_ptr0 (j := 0) h17 rfl (by omega)
  refine go [.s 6 2] <| lw (.pointer (some ⟨b18, i * 6, none⟩)) (fun _ => law_indexSlP (x := (Operand.tmp 17)) (i := (Operand.tmp 18)) (p := p1) (b := b18) (off := 0) (z := (i : Int)) (len := L.length) (cap := c1) (by kernel_rfl) Tryz.underlying40 6 (by kernel_rfl) i (by kernel_rfl) hp19 (by kernel_rfl) (by omega) (by omega) (i * 6) (by omega) _) ?_
  obtain ⟨x20, hx21⟩ : ∃ x, L[i]? = some x := ⟨_, List.getElem?_eq_getElem (by omega)⟩
  obtain ⟨b22, hp23⟩ := sl_ptr0 (j := 1) h17 rfl (by omega)
  refine go [.r 6 4 b18 (i * 6) [.string (St x20.tag)] ⟨gv_cell (j := 0) h17 rfl (gv_sl _ _ _) hp19 (fl_get eLk_ok (j := 0) (v := .string (St x20.tag)) hx21 rfl) (i * 6) (by omega), trivial⟩, .s 6 7] <| lw (.pointer (some ⟨b22, i * 6, none⟩)) (fun _ => law_indexSlP (x := (Operand.tmp 22)) (i := (Operand.tmp 23)) (p := p2) (b := b22) (off := 0) (z := (i : Int)) (len := L.length) (cap := c2) (by kernel_rfl) Tryz.underlying42 6 (by kernel_rfl) i (by kernel_rfl) hp23 (by kernel_rfl) (by omega) (by omega) (i * 6) (by omega) _) <| go [.r 6 9 b22 (i * 6) [.string (St x20.tag)] ⟨gv_cell (j := 1) h17 rfl (gv_sl _ _ _) hp23 (fl_get eLk_ok (j := 0) (v := .string (St x20.tag)) hx21 rfl) (i * 6) (by omega), trivial⟩, .s 6 10] <| lw (.bool false) (fun _ => law_neStr (t := 9) (x := (Operand.tmp 21)) (y := (Operand.tmp 26)) (a := x20.tag) (b := x20.tag) (by kernel_rfl) (by kernel_rfl) (by kernel_rfl) false (decide_eq_true rfl) _) <| go [.s 6 14] <| lw (.pointer (some ⟨b18, i * 6, none⟩)) (fun _ => law_indexSlP (x := (Operand.tmp 29)) (i := (Operand.tmp 30)) (p := p1) (b := b18) (off := 0) (z := (i : Int)) (len := L.length) (cap := c1) (by kernel_rfl) Tryz.underlying40 6 (by kernel_rfl) i (by kernel_rfl) hp19 (by kernel_rfl) (by omega) (by omega) (i * 6) (by omega) _) <| go [.r 6 16 b18 (i * 6 + 1) [iV x20.out.1, iV x20.out.2.1, uV x20.out.2.2] ⟨gv_cell (j := 0) h17 rfl (gv_sl _ _ _) hp19 (fl_get eLk_ok (j := 1) (v := iV x20.out.1) hx21 rfl) (i * 6 + 1) (by omega), gv_cell (j := 0) h17 rfl (gv_sl _ _ _) hp19 (fl_get eLk_ok (j := 2) (v := iV x20.out.2.1) hx21 rfl) (i * 6 + 2) (by omega), gv_cell (j := 0) h17 rfl (gv_sl _ _ _) hp19 (fl_get eLk_ok (j := 3) (v := uV x20.out.2.2) hx21 rfl) (i * 6 + 3) (by omega), trivial⟩, .s 6 19] <| lw (.pointer (some ⟨b22, i * 6, none⟩)) (fun _ => law_indexSlP (x := (Operand.tmp 34)) (i := (Operand.tmp 35)) (p := p2) (b := b22) (off := 0) (z := (i : Int)) (len := L.length) (cap := c2) (by kernel_rfl) Tryz.underlying42 6 (by kernel_rfl) i (by kernel_rfl) hp23 (by kernel_rfl) (by omega) (by omega) (i * 6) (by omega) _) <| go [.r 6 21 b22 (i * 6 + 1) [iV x20.out.1, iV x20.out.2.1, uV x20.out.2.2] ⟨gv_cell (j := 1) h17 rfl (gv_sl _ _ _) hp23 (fl_get eLk_ok (j := 1) (v := iV x20.out.1) hx21 rfl) (i * 6 + 1) (by omega), gv_cell (j := 1) h17 rfl (gv_sl _ _ _) hp23 (fl_get eLk_ok (j := 2) (v := iV x20.out.2.1) hx21 rfl) (i * 6 + 2) (by omega), gv_cell (j := 1) h17 rfl (gv_sl _ _ _) hp23 (fl_get eLk_ok (j := 3) (v := uV x20.out.2.2) hx21 rfl) (i * 6 + 3) (by omega), trivial⟩, .s 6 22] <| lw (.bool false) (fun _ => qd10e31_neq_t (x := (Operand.tmp 33)) (y := (Operand.tmp 38)) x20.out.1 x20.out.2.1 x20.out.2.2 x20.out.1 x20.out.2.1 x20.out.2.2 (by kernel_rfl) (by kernel_rfl) (by kernel_rfl) ⟨rfl, rfl, rfl⟩ _) <| go [.s 6 27] <| lw (.pointer (some ⟨b18, i * 6, none⟩)) (fun _ => law_indexSlP (x := (Operand.tmp 42)) (i := (Operand.tmp 43)) (p := p1) (b := b18) (off := 0) (z := (i : Int)) (len := L.length) (cap := c1) (by kernel_rfl) Tryz.underlying40 6 (by kernel_rfl) i (by kernel_rfl) hp19 (by kernel_rfl) (by omega) (by omega) (i * 6) (by omega) _) <| go [.r 6 29 b18 (i * 6 + 4) [iV x20.at_] ⟨gv_cell (j := 0) h17 rfl (gv_sl _ _ _) hp19 (fl_get eLk_ok (j := 4) (v := iV x20.at_) hx21 rfl) (i * 6 + 4) (by omega), trivial⟩, .s 6 32] ?_
  refine lw (.pointer (some ⟨b22, i * 6, none⟩)) (fun _ => law_indexSlP (x := (Operand.tmp 47)) (i := (Operand.tmp 48)) (p := p2) (b := b22) (off := 0) (z := (i : Int)) (len := L.length) (cap := c2) (by kernel_rfl) Tryz.underlying42 6 (by kernel_rfl) i (by kernel_rfl) hp23 (by kernel_rfl) (by omega) (by omega) (i * 6) (by omega) _) <| go [.r 6 34 b22 (i * 6 + 4) [iV x20.at_] ⟨gv_cell (j := 1) h17 rfl (gv_sl _ _ _) hp23 (fl_get eLk_ok (j := 4) (v := iV x20.at_) hx21 rfl) (i * 6 + 4) (by omega), trivial⟩, .v 6 35 (qnF x20.at_ x20.at_), .s 6 40] <| lw (.pointer (some ⟨b18, i * 6, none⟩)) (fun _ => law_indexSlP (x := (Operand.tmp 55)) (i := (Operand.tmp 56)) (p := p1) (b := b18) (off := 0) (z := (i : Int)) (len := L.length) (cap := c1) (by kernel_rfl) Tryz.underlying40 6 (by kernel_rfl) i (by kernel_rfl) hp19 (by kernel_rfl) (by omega) (by omega) (i * 6) (by omega) _) <| go [.r 6 42 b18 (i * 6 + 5) [iV x20.st] ⟨gv_cell (j := 0) h17 rfl (gv_sl _ _ _) hp19 (fl_get eLk_ok (j := 5) (v := iV x20.st) hx21 rfl) (i * 6 + 5) (by omega), trivial⟩, .s 6 45] <| lw (.pointer (some ⟨b22, i * 6, none⟩)) (fun _ => law_indexSlP (x := (Operand.tmp 60)) (i := (Operand.tmp 61)) (p := p2) (b := b22) (off := 0) (z := (i : Int)) (len := L.length) (cap := c2) (by kernel_rfl) Tryz.underlying42 6 (by kernel_rfl) i (by kernel_rfl) hp23 (by kernel_rfl) (by omega) (by omega) (i * 6) (by omega) _) <| go [.r 6 47 b22 (i * 6 + 5) [iV x20.st] ⟨gv_cell (j := 1) h17 rfl (gv_sl _ _ _) hp23 (fl_get eLk_ok (j := 5) (v := iV x20.st) hx21 rfl) (i * 6 + 5) (by omega), trivial⟩, .v 6 48 (qnF x20.st x20.st), .v 5 1 (oIr ((i : Int) + 1))] ?_
  refine enL ?_
  change ∃ n', n' < _ ∧ _
  refine ⟨(L.length - (i + 1)), by omega, (i + 1), _, rfl, (by omega), (lvF [.k 0 (.slice p1 L.length c1), .k 1 (.slice p2 L.length c2), .o 5 (oJ .i64 ((i : Int) + 1) ((((i + 1) : Nat) : Int)))]), h17⟩
 refine go [.v 4 3 (oF ((i : Int) < ((L.length : Nat) : Int)))] <| up <| go [] ?_
 exact en (.bool true) [] ⟨_, _, rfl, ⟨rfl, rfl⟩, h14⟩

end Go.Proofs.YtfoliffeieeihaaGreatDoor

/- Walks, printed by my generator ../leak/l20.py. -/
namespace Go.Proofs.YtfoliffeieeihaaGreatDoor
end Go.Proofs.YtfoliffeieeihaaGreatDoor
