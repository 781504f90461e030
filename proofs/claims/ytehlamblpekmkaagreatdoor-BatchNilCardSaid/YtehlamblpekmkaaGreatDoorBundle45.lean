/- Walks, printed by my generator q9.py. -/
import Derived.Test.YtehlamblpekmkaaGreatDoorBundle43
import Derived.Test.YtehlamblpekmkaaGreatDoorMod
namespace Go.Proofs.YtehlamblpekmkaaGreatDoor
set_option maxHeartbeats 4000000 in
theorem begin_ht  : HT Tryz.prog 10 [] [] (fun v K => ∃ b wb : Nat, v = .tuple #[.agg #[pV b, pV wb], .bool true] ∧ K = [TW b 64 ts0, Wd wb (wnew 1)]) := by
 refine hiS Tryz.func10 Tryz.ntmps10 fun g w0 R h0 => go [] <| nP 28 [.pointer none, .pointer none] h0 (fun _ _ h12 => ?_)
 refine go [] <| cP Tryz.call41 (tnew_w 64 1 (by omega) (by omega)) h12 ?_
 rintro v K _ (⟨b13, rfl, rfl⟩) h15
 have h16 := ap1 h15
 refine go [] <| cP Tryz.call42 (wnew_ht 1 (by omega)) h16 ?_
 rintro v K _ (⟨b17, rfl, rfl⟩) h19
 have h21 := tk4 (sf3 (sf2 (sf2 (sf3 (ap1 h19)))))
 refine go [] <| sP [(0, pV b13), (1, pV b17)] [pV b13, pV b17] h21 fun _ h23 => go [] ?_
 exact en (.tuple #[.agg #[pV b13, pV b17], .bool true]) [rd 0 0 0 0 2 h23] ⟨_, _, rfl, ⟨b13, b17, rfl, rfl⟩, (tk3 (sf2 (sf2 (sf3 (tk4 (sf3 (sf2 (sf1 (sf3 h23)))))))))⟩

set_option maxHeartbeats 4000000 in
theorem what_0 (n : Int) (hn : 0 ≤ n ∧ n ≤ 65535) (h : n % 3 = 0) : HT Tryz.prog 67 [.int .u16 n] [] (fun v K => v = .tuple #[iV 1, iV ((whX n))] ∧ K = []) := by
 refine hiS Tryz.func67 Tryz.ntmps67 fun g w0 R h0 => go [] <| nP 222 [iV 0, iV 0, iV 0] h0 (fun r10 _ h12 => ?_)
 refine sP [(0, iV 1), (1, iV 2), (2, iV 3)] [iV 1, iV 2, iV 3] h12 fun _ h14 => go [.s 2 1] <| lwP (.int .u16 0) (law_rem (t := 78) (x := (Operand.tmp 6)) (y := (Operand.const (.int .u16 3))) (by kernel_rfl) n 3 (by kernel_rfl) (by kernel_rfl) (by omega) (0) ((rem_ex (by omega)).trans h) _) <| lwP (pV r10) (law_indexArrK (x := (Operand.tmp 4)) (i := (Operand.tmp 7)) (b := r10) (off := 0) (z := 0) (by kernel_rfl) Tryz.underlying222 1 (by kernel_rfl) 0 (by kernel_rfl) (by kernel_rfl) (by omega) (by omega) 0 (by omega) _) ?_
 have hb15 := quo_bd (a := n) (b := 3) (by omega) (by omega)
 refine go [rd 2 3 0 0 1 h14, .s 2 5] <| lwP (.int .u16 ((n / 3))) (law_quo (t := 78) (x := (Operand.tmp 10)) (y := (Operand.const (.int .u16 3))) (by kernel_rfl) n 3 (by kernel_rfl) (by kernel_rfl) (by omega) ((n / 3)) (quo_u16 (by omega) (by omega) (by omega)) _) ?_
 have hb16 := rem_bd (a := (n / 3)) (b := 200) (by omega) (by omega)
 refine go [.v 2 6 (oIr ((n / 3))), .s 2 7] <| lwP (iV (((n / 3)) % 200)) (law_rem (t := 3) (x := (Operand.tmp 12)) (y := (Operand.const (iV 200))) (by kernel_rfl) ((n / 3)) 200 (by kernel_rfl) (by kernel_rfl) (by omega) (((n / 3)) % 200) (rem_ex (by omega)) _) <| go [.v 2 8 (oI (1 + (((n / 3)) % 200)) (((n / 3)) % 200 + 1))] ?_
 exact en (.tuple #[iV 1, iV (((n / 3)) % 200 + 1)]) [] ⟨_, _, rfl, ⟨rfl, rfl⟩, (tk1 (sf1 h14))⟩

set_option maxHeartbeats 4000000 in
theorem what_1 (n : Int) (hn : 0 ≤ n ∧ n ≤ 65535) (h : n % 3 = 1) : HT Tryz.prog 67 [.int .u16 n] [] (fun v K => v = .tuple #[iV 2, iV ((whX n))] ∧ K = []) := by
 refine hiS Tryz.func67 Tryz.ntmps67 fun g w0 R h0 => go [] <| nP 222 [iV 0, iV 0, iV 0] h0 (fun r10 _ h12 => ?_)
 refine sP [(0, iV 1), (1, iV 2), (2, iV 3)] [iV 1, iV 2, iV 3] h12 fun _ h14 => go [.s 2 1] <| lwP (.int .u16 1) (law_rem (t := 78) (x := (Operand.tmp 6)) (y := (Operand.const (.int .u16 3))) (by kernel_rfl) n 3 (by kernel_rfl) (by kernel_rfl) (by omega) (1) ((rem_ex (by omega)).trans h) _) <| lwP (.pointer (some ⟨r10, 1, none⟩)) (law_indexArrK (x := (Operand.tmp 4)) (i := (Operand.tmp 7)) (b := r10) (off := 0) (z := 1) (by kernel_rfl) Tryz.underlying222 1 (by kernel_rfl) 1 (by kernel_rfl) (by kernel_rfl) (by omega) (by omega) 1 (by omega) _) ?_
 have hb15 := quo_bd (a := n) (b := 3) (by omega) (by omega)
 refine go [rd 2 3 0 1 1 h14, .s 2 5] <| lwP (.int .u16 ((n / 3))) (law_quo (t := 78) (x := (Operand.tmp 10)) (y := (Operand.const (.int .u16 3))) (by kernel_rfl) n 3 (by kernel_rfl) (by kernel_rfl) (by omega) ((n / 3)) (quo_u16 (by omega) (by omega) (by omega)) _) ?_
 have hb16 := rem_bd (a := (n / 3)) (b := 200) (by omega) (by omega)
 refine go [.v 2 6 (oIr ((n / 3))), .s 2 7] <| lwP (iV (((n / 3)) % 200)) (law_rem (t := 3) (x := (Operand.tmp 12)) (y := (Operand.const (iV 200))) (by kernel_rfl) ((n / 3)) 200 (by kernel_rfl) (by kernel_rfl) (by omega) (((n / 3)) % 200) (rem_ex (by omega)) _) <| go [.v 2 8 (oI (1 + (((n / 3)) % 200)) (((n / 3)) % 200 + 1))] ?_
 exact en (.tuple #[iV 2, iV (((n / 3)) % 200 + 1)]) [] ⟨_, _, rfl, ⟨rfl, rfl⟩, (tk1 (sf1 h14))⟩

set_option maxHeartbeats 4000000 in
theorem what_2 (n : Int) (hn : 0 ≤ n ∧ n ≤ 65535) (h : n % 3 = 2) : HT Tryz.prog 67 [.int .u16 n] [] (fun v K => v = .tuple #[iV 3, iV ((whX n))] ∧ K = []) := by
 refine hiS Tryz.func67 Tryz.ntmps67 fun g w0 R h0 => go [] <| nP 222 [iV 0, iV 0, iV 0] h0 (fun r10 _ h12 => ?_)
 refine sP [(0, iV 1), (1, iV 2), (2, iV 3)] [iV 1, iV 2, iV 3] h12 fun _ h14 => go [.s 2 1] <| lwP (.int .u16 2) (law_rem (t := 78) (x := (Operand.tmp 6)) (y := (Operand.const (.int .u16 3))) (by kernel_rfl) n 3 (by kernel_rfl) (by kernel_rfl) (by omega) (2) ((rem_ex (by omega)).trans h) _) <| lwP (.pointer (some ⟨r10, 2, none⟩)) (law_indexArrK (x := (Operand.tmp 4)) (i := (Operand.tmp 7)) (b := r10) (off := 0) (z := 2) (by kernel_rfl) Tryz.underlying222 1 (by kernel_rfl) 2 (by kernel_rfl) (by kernel_rfl) (by omega) (by omega) 2 (by omega) _) ?_
 have hb15 := quo_bd (a := n) (b := 3) (by omega) (by omega)
 refine go [rd 2 3 0 2 1 h14, .s 2 5] <| lwP (.int .u16 ((n / 3))) (law_quo (t := 78) (x := (Operand.tmp 10)) (y := (Operand.const (.int .u16 3))) (by kernel_rfl) n 3 (by kernel_rfl) (by kernel_rfl) (by omega) ((n / 3)) (quo_u16 (by omega) (by omega) (by omega)) _) ?_
 have hb16 := rem_bd (a := (n / 3)) (b := 200) (by omega) (by omega)
 refine go [.v 2 6 (oIr ((n / 3))), .s 2 7] <| lwP (iV (((n / 3)) % 200)) (law_rem (t := 3) (x := (Operand.tmp 12)) (y := (Operand.const (iV 200))) (by kernel_rfl) ((n / 3)) 200 (by kernel_rfl) (by kernel_rfl) (by omega) (((n / 3)) % 200) (rem_ex (by omega)) _) <| go [.v 2 8 (oI (1 + (((n / 3)) % 200)) (((n / 3)) % 200 + 1))] ?_
 exact en (.tuple #[iV 3, iV (((n / 3)) % 200 + 1)]) [] ⟨_, _, rfl, ⟨rfl, rfl⟩, (tk1 (sf1 h14))⟩

theorem what_ht (n : Int) (hn : 0 ≤ n ∧ n ≤ 65535) : HT Tryz.prog 67 [Value.int IntKind.u16 n] [] (fun v K => v = Value.tuple #[Value.int IntKind.i64 ((whK n)), Value.int IntKind.i64 ((whX n))] ∧ K = []) := by
  unfold whK
  have h3 : n % 3 = 0 ∨ n % 3 = 1 ∨ n % 3 = 2 := by omega
  rcases h3 with h | h | h
  · rw [h]; exact what_0 n hn h
  · rw [h]; exact what_1 n hn h
  · rw [h]; exact what_2 n hn h

set_option maxHeartbeats 4000000 in
theorem open_ht (b wb : Nat) (S : Ts) (W : Wst) (n at_ : Int) (hn : 0 ≤ n ∧ n ≤ 65535) (ha : 0 ≤ at_ ∧ at_ ≤ 1000) : HT Tryz.prog 26 [.agg #[pV b, pV wb], .int .u16 n, iV at_] [TW b 64 S, Wd wb W] (fun v K => v = .tuple #[] ∧ K = [TW b 64 ((opnP (S, W) n at_).1), Wd wb ((opnP (S, W) n at_).2)]) := by
 refine hiS Tryz.func26 Tryz.ntmps26 fun g w0 R h0 => ?_
 have hk10 := tw_ok (j := 0) h0 rfl; have hk10a := hk10.rl
 have hk11 := wd_ok (j := 1) h0 rfl; have hk11a := hk11.nl; have hk11b := hk11.nh
 refine go [] <| nP 28 [pV b, pV wb] h0 (fun r12 _ h14 => ?_)
 refine go [] <| cl0 Tryz.call67 (what_ht n (by omega)) h14 fun _ h16 => ?_
 have hq17 := acqO_bd (wd_ok (j := 2) h16 rfl) ((whK n)) ((whX n)); have hq17a := hq17.1; have hq17b := hq17.2
 have h18 := tk4 (sf3 (sf2 (sf2 (sf3 h16))))
 refine go [rd 2 1 0 1 1 h16] <| cl1 Tryz.call68 (wacq_ht wb W ((whK n)) ((whX n))) h18 fun _ h20 => go [] <| nP 72 [iV 0, iV 0, uV 0] h20 (fun r21 _ h23 => ?_)
 refine sP [(0, iV ((acqO W ((whK n)) ((whX n))).1)), (1, iV ((acqO W ((whK n)) ((whX n))).2.1)), (2, uV ((acqO W ((whK n)) ((whX n))).2.2))] [iV ((acqO W ((whK n)) ((whX n))).1), iV ((acqO W ((whK n)) ((whX n))).2.1), uV ((acqO W ((whK n)) ((whX n))).2.2)] h23 fun w24 h25 => go [.s 3 1] ?_
 by_cases c26 : (acqE W ((whK n)) ((whX n))) = 0
 ·
  have hb27 := rem_bd (a := at_) (b := 256) (by omega) (by omega)
  refine go [.v 3 1 (qeT ((acqE W ((whK n)) ((whX n)))) 0), rd 4 1 2 0 1 h25, rd 4 2 0 0 3 h25, .s 4 4] <| lwP (iV ((at_ % 256))) (law_rem (t := 3) (x := (Operand.tmp 28)) (y := (Operand.const (iV 256))) (by kernel_rfl) at_ 256 (by kernel_rfl) (by kernel_rfl) (by omega) ((at_ % 256)) (rem_ex (by omega)) _) ?_
  have hb28 := quo_bd (a := at_) (b := 256) (by omega) (by omega)
  refine go [.s 4 6] <| lwP (iV ((at_ / 256))) (law_quo (t := 3) (x := (Operand.tmp 30)) (y := (Operand.const (iV 256))) (by kernel_rfl) at_ 256 (by kernel_rfl) (by kernel_rfl) (by omega) ((at_ / 256)) (quo_i64 (by omega) (by omega) (by omega)) _) ?_
  have h29 := tk5 (sf4 (sf3 (sf3 (sf3 (sf4 h25)))))
  refine go [.v 4 7 (oUr ((at_ / 256))), .v 4 8 (oU (1 + ((at_ / 256))) ((at_ / 256) + 1))] <| cl1 Tryz.call69 (topen_w b 64 S ((acqO W ((whK n)) ((whX n))).1) ((acqO W ((whK n)) ((whX n))).2.1) ((acqO W ((whK n)) ((whX n))).2.2) ((at_ % 256)) ((at_ / 256) + 1) [116] (by omega) (by omega) (by simp only [List.length_cons, List.length_nil]; omega)) h29 fun w30 h31 => ?_
  refine go [] ?_
  have h32 : sat g w30 [TW b 64 ((opnP (S, W) n at_).1), Cl r21 [iV ((acqO W ((whK n)) ((whX n))).1), iV ((acqO W ((whK n)) ((whX n))).2.1), uV ((acqO W ((whK n)) ((whX n))).2.2)] 72, Wd wb (acqS W ((whK n)) ((whX n))), Cl r12 [pV b, pV wb] 28, R] := sat_imp h31 (fun _ hh_ => by rw [show (opnS S ((acqO W ((whK n)) ((whX n))).1, (acqO W ((whK n)) ((whX n))).2.1, (acqO W ((whK n)) ((whX n))).2.2) [116] ((at_ % 256), (at_ / 256) + 1)) = ((opnP (S, W) n at_).1) from (by unfold opnP; rw [if_pos (by omega)])] at hh_; exact hh_)
  have h34 : sat g w30 [Wd wb ((opnP (S, W) n at_).2), TW b 64 ((opnP (S, W) n at_).1), Cl r21 [iV ((acqO W ((whK n)) ((whX n))).1), iV ((acqO W ((whK n)) ((whX n))).2.1), uV ((acqO W ((whK n)) ((whX n))).2.2)] 72, Cl r12 [pV b, pV wb] 28, R] := sat_imp (tk5 (sf4 (sf3 (sf3 (sf4 (sf4 h32)))))) (fun _ hh_ => by rw [show (acqS W ((whK n)) ((whX n))) = ((opnP (S, W) n at_).2) from rfl] at hh_; exact hh_)
  exact en (.tuple #[]) [] ⟨_, _, rfl, ⟨rfl, rfl⟩, (tk3 (sf2 (sf2 (sf4 (tk5 (sf4 (sf3 (sf4 (sf4 (sf4 h34))))))))))⟩
 refine go [.v 3 1 (qeF ((acqE W ((whK n)) ((whX n)))) 0)] ?_
 have h38 : sat g w24 [TW b 64 ((opnP (S, W) n at_).1), Cl r21 [iV ((acqO W ((whK n)) ((whX n))).1), iV ((acqO W ((whK n)) ((whX n))).2.1), uV ((acqO W ((whK n)) ((whX n))).2.2)] 72, Wd wb (acqS W ((whK n)) ((whX n))), Cl r12 [pV b, pV wb] 28, R] := sat_imp (tk5 (sf4 (sf3 (sf3 (sf3 (sf4 h25)))))) (fun _ hh_ => by rw [show S = ((opnP (S, W) n at_).1) from (by unfold opnP; rw [if_neg (by omega)])] at hh_; exact hh_)
 have h40 : sat g w24 [Wd wb ((opnP (S, W) n at_).2), TW b 64 ((opnP (S, W) n at_).1), Cl r21 [iV ((acqO W ((whK n)) ((whX n))).1), iV ((acqO W ((whK n)) ((whX n))).2.1), uV ((acqO W ((whK n)) ((whX n))).2.2)] 72, Cl r12 [pV b, pV wb] 28, R] := sat_imp (tk5 (sf4 (sf3 (sf3 (sf4 (sf4 h38)))))) (fun _ hh_ => by rw [show (acqS W ((whK n)) ((whX n))) = ((opnP (S, W) n at_).2) from rfl] at hh_; exact hh_)
 exact en (.tuple #[]) [] ⟨_, _, rfl, ⟨rfl, rfl⟩, (tk3 (sf2 (sf2 (sf4 (tk5 (sf4 (sf3 (sf4 (sf4 (sf4 h40))))))))))⟩

end Go.Proofs.YtehlamblpekmkaaGreatDoor

/- Walks, printed by my generator q10.py. -/
namespace Go.Proofs.YtehlamblpekmkaaGreatDoor
structure MdC where
  pd : Option Addr
  cd : Nat
  pw : Option Addr
  cw : Nat
  pi : Option Addr
  ci : Nat
  pt : Option Addr
  ct : Nat
  pl : Option Addr
  cl : Nat
  m : Md
section
variable {g w : World} {L : List Assn} {cs : List MdC} {x : MdC}
end
end Go.Proofs.YtehlamblpekmkaaGreatDoor

/- Walks, printed by my generator q11.py. -/
namespace Go.Proofs.YtehlamblpekmkaaGreatDoor
end Go.Proofs.YtehlamblpekmkaaGreatDoor

/-
  The chapter's example, written out. No program in sight.
-/
namespace Go.Proofs.YtehlamblpekmkaaGreatDoor
def wk1 : Pw := (ts0, aswS (wnew 1) [111, 111, 111, 108, 108, 108, 108])
def wkO1 : Pw := opnP (wk1.1, wk1.2) 0 0
def wkO2 : Pw := opnP (wkO1.1, wkO1.2) 0 1
def wkO3 : Pw := opnP (wkO2.1, wkO2.2) 0 2
def wk3 : Pw := (wkO3.1, tckS wkO3.2 5)
def clo1 (X : Pw) (i : Int) : Pw := (setS (expS X.1 i) i (cloR (getR X.1 i) 1 5), X.2)
def wkC1 : Pw := clo1 wk3 1
def wkC2 : Pw := clo1 wkC1 2
def wkC3 : Pw := clo1 wkC2 3
def wk5 : Pw := rnS (⟨2, 10, 25⟩ : Cf) (wkC3.1, wkC3.2)
def wk6 : Pw := rnS (⟨2, 10, 25⟩ : Cf) (wk5.1, wk5.2)
def runOkB (c : Cf) (now : Int) (X : Pw) (l : List Int) : Bool := (List.range l.length).all fun i =>
  decide (nE (stB c now X l i).1 (l.getD i 0) = 0) && decide ((getR (stB c now X l i).1 (l.getD i 0)).st = 2) && decide (relE (stB c now X l i).2 (getR (stB c now X l i).1 (l.getD i 0)).out (getR (stB c now X l i).1 (l.getD i 0)).why = 0)
theorem runOkB_ok {c : Cf} {now : Int} {X : Pw} {l : List Int} (h : runOkB c now X l = true) : RunOk c now X l := by
  intro i n hn
  unfold runOkB at h
  rw [List.all_eq_true] at h
  have h1 := h i (List.mem_range.2 (List.getElem?_eq_some_iff.1 hn).1)
  rw [show l.getD i 0 = n by rw [List.getD_eq_getElem?_getD, hn]; rfl] at h1
  simp only [Bool.and_eq_true, decide_eq_true_eq] at h1
  exact ⟨h1.1.1, h1.1.2, h1.2⟩
theorem wk_a : aswE (wnew 1) [111, 111, 111, 108, 108, 108, 108] = 0 := by kernel_rfl
theorem wk_t : tckE wkO3.2 5 = 0 := by kernel_rfl
theorem wk_l3 : wk3.1.R.length = 3 := by kernel_rfl
theorem wk_l4 : wkC1.1.R.length = 3 := by kernel_rfl
theorem wk_l5 : wkC2.1.R.length = 3 := by kernel_rfl
theorem wk_s1 : (getR wk3.1 1).st = 1 := by kernel_rfl
theorem wk_s2 : (getR wkC1.1 2).st = 1 := by kernel_rfl
theorem wk_s3 : (getR wkC2.1 3).st = 1 := by kernel_rfl
theorem wk_r5 : RunOk (⟨2, 10, 25⟩ : Cf) wkC3.2.now (wkC3.1, wkC3.2) (dueB wkC3.1 wkC3.2.now 2) := runOkB_ok (by kernel_rfl)
theorem wk_r6 : RunOk (⟨2, 10, 25⟩ : Cf) wk5.2.now (wk5.1, wk5.2) (dueB wk5.1 wk5.2.now 2) := runOkB_ok (by kernel_rfl)
theorem wk_n5 : (rnL (⟨2, 10, 25⟩ : Cf) (wkC3.1, wkC3.2)).length = 2 := by kernel_rfl
theorem wk_n6 : (rnL (⟨2, 10, 25⟩ : Cf) (wk5.1, wk5.2)).length = 1 := by kernel_rfl
theorem wk_5 : (rnL (⟨2, 10, 25⟩ : Cf) (wkC3.1, wkC3.2))[1]? = some ⟨5, (1, 1, 1), 1, 2⟩ := by kernel_rfl
theorem wk_6 : ∃ x, (rnL (⟨2, 10, 25⟩ : Cf) (wk5.1, wk5.2))[0]? = some x ∧ x.out.2.1 = 2 := ⟨⟨5, (1, 2, 1), 1, 2⟩, by kernel_rfl, rfl⟩
theorem wk_w : ((srtB wk6.1)[0]?.map (nxR wk6.1)).getD 0 = 15 ∧ decide (0 < (srtB wk6.1).length) = true ∧ (nums wk6.1.R 2).length = 3 := ⟨by kernel_rfl, by kernel_rfl, by kernel_rfl⟩
end Go.Proofs.YtehlamblpekmkaaGreatDoor

/- Walks, printed by my generator q12.py. -/
namespace Go.Proofs.YtehlamblpekmkaaGreatDoor
theorem q12e74_eql_t {n : Nat} {l : Fr} {o : Oper} {x y : Operand} (a0 : Int) (a1 : Int) (a2 : Int) (a3 : Int) (a4 : Int) (a5 : Int) (c0 : Int) (c1 : Int) (c2 : Int) (c3 : Int) (c4 : Int) (c5 : Int) (ho : o.op = .binOp .eql 74 x y 74) (hx : fe n l x = .agg #[.int .i64 a0, .int .i64 a1, .int .i64 a2, .int .u32 a3, .int .i64 a4, .int .i64 a5]) (hy : fe n l y = .agg #[.int .i64 c0, .int .i64 c1, .int .i64 c2, .int .u32 c3, .int .i64 c4, .int .i64 c5]) (h : a0 = c0 ∧ a1 = c1 ∧ a2 = c2 ∧ a3 = c3 ∧ a4 = c4 ∧ a5 = c5) (w : World) : (execOp (fe n l) o).run Tryz.prog w = .ok (.value (.bool true)) w := by
  obtain ⟨rfl, rfl, rfl, rfl, rfl, rfl⟩ := h
  simp [execOp, ho, hx, hy, go_sem]
set_option maxHeartbeats 4000000 in
theorem works_gen (wo : World) (hg : Lett wo) (X1 O1 O2 O3 X3 C1 C2 C3 X5 X6 : Pw) (e1 : X1 = (ts0, aswS (wnew 1) [111, 111, 111, 108, 108, 108, 108])) (eO1 : O1 = opnP (X1.1, X1.2) 0 0) (eO2 : O2 = opnP (O1.1, O1.2) 0 1) (eO3 : O3 = opnP (O2.1, O2.2) 0 2) (eX3 : X3 = (O3.1, tckS O3.2 5)) (eC1 : C1 = (setS (expS X3.1 1) 1 (cloR (getR X3.1 1) 1 5), X3.2)) (eC2 : C2 = (setS (expS C1.1 2) 2 (cloR (getR C1.1 2) 1 5), C1.2)) (eC3 : C3 = (setS (expS C2.1 3) 3 (cloR (getR C2.1 3) 1 5), C2.2)) (eX5 : X5 = rnS (⟨2, 10, 25⟩ : Cf) (C3.1, C3.2)) (eX6 : X6 = rnS (⟨2, 10, 25⟩ : Cf) (X5.1, X5.2)) (ht : tckE O3.2 5 = 0) (hl1 : X3.1.R.length = 3) (hl2 : C1.1.R.length = 3) (hl3 : C2.1.R.length = 3) (hs1 : (getR X3.1 1).st = 1) (hs2 : (getR C1.1 2).st = 1) (hs3 : (getR C2.1 3).st = 1) (hr5 : RunOk (⟨2, 10, 25⟩ : Cf) C3.2.now (C3.1, C3.2) (dueB C3.1 C3.2.now 2)) (hr6 : RunOk (⟨2, 10, 25⟩ : Cf) X5.2.now (X5.1, X5.2) (dueB X5.1 X5.2.now 2)) (hn5 : (rnL (⟨2, 10, 25⟩ : Cf) (C3.1, C3.2)).length = 2) (hn6 : (rnL (⟨2, 10, 25⟩ : Cf) (X5.1, X5.2)).length = 1) (h5 : (rnL (⟨2, 10, 25⟩ : Cf) (C3.1, C3.2))[1]? = some ⟨5, (1, 1, 1), 1, 2⟩) (h6 : ∃ x, (rnL (⟨2, 10, 25⟩ : Cf) (X5.1, X5.2))[0]? = some x ∧ x.out.2.1 = 2) (hw : ((srtB X6.1)[0]?.map (nxR X6.1)).getD 0 = 15 ∧ decide (0 < (srtB X6.1).length) = true ∧ (nums X6.1.R 2).length = 3) : HT Tryz.prog 16 [] [Old wo] (fun v K => v = .bool true ∧ K = [Old wo]) := by
 refine hiS Tryz.func16 Tryz.ntmps16 fun g w0 R h0 => go [] <| cP Tryz.call10 (begin_ht) h0 ?_
 rintro v K _ (⟨b10, b11, rfl, rfl⟩) h13
 have h14 := ap2 h13
 refine go [] <| nP 28 [.pointer none, .pointer none] h14 (fun r15 _ h17 => ?_)
 refine sP [(0, pV b10), (1, pV b11)] [pV b10, pV b11] h17 fun _ h19 => ?_
 have h20 := tk5 (sf4 (sf4 (sf2 (sf2 (sf4 h19)))))
 refine go [rd 2 4 0 1 1 h19] <| cl2 Tryz.call32 ((by have h_ := wansw_ht wo hg b11 (wnew 1) [111, 111, 111, 108, 108, 108, 108] (by decide); rw [wk_a] at h_; exact h_)) h20 fun w21 h22 => ?_
 have h24 : sat g w21 [TW b10 64 X1.1, Wd b11 (aswS (wnew 1) [111, 111, 111, 108, 108, 108, 108]), Old wo, Cl r15 [pV b10, pV b11] 28, R] := sat_imp (tk5 (sf4 (sf3 (sf3 (sf3 (sf4 h22)))))) (fun _ hh_ => by rw [e1]; exact hh_)
 have h26 : sat g w21 [Wd b11 X1.2, TW b10 64 X1.1, Old wo, Cl r15 [pV b10, pV b11] 28, R] := sat_imp (tk5 (sf4 (sf3 (sf4 (sf4 (sf4 h24)))))) (fun _ hh_ => by rw [e1]; exact hh_)
 refine go [] <| unS 3 ?_
 have h27 := tk5 (sf4 (sf3 (sf4 (sf4 (sf4 h26)))))
 refine go [rd 7 0 3 0 2 h26] <| cl2 Tryz.call26 (open_ht b10 b11 X1.1 X1.2 0 0 (by omega) (by omega)) h27 fun w28 h29 => ?_
 have h30 : sat g w28 [TW b10 64 O1.1, Wd b11 ((opnP (X1.1, X1.2) 0 0).2), Old wo, Cl r15 [pV b10, pV b11] 28, R] := sat_imp h29 (fun _ hh_ => by rw [eO1]; exact hh_)
 have h32 : sat g w28 [Wd b11 O1.2, TW b10 64 O1.1, Old wo, Cl r15 [pV b10, pV b11] 28, R] := sat_imp (tk5 (sf4 (sf3 (sf4 (sf4 (sf4 h30)))))) (fun _ hh_ => by rw [eO1]; exact hh_)
 refine go [] <| unN ?_
 have h33 := tk5 (sf4 (sf3 (sf4 (sf4 (sf4 h32)))))
 refine go [rd 7 0 3 0 2 h32] <| cl2 Tryz.call26 (open_ht b10 b11 O1.1 O1.2 0 1 (by omega) (by omega)) h33 fun w34 h35 => ?_
 have h36 : sat g w34 [TW b10 64 O2.1, Wd b11 ((opnP (O1.1, O1.2) 0 1).2), Old wo, Cl r15 [pV b10, pV b11] 28, R] := sat_imp h35 (fun _ hh_ => by rw [eO2]; exact hh_)
 have h38 : sat g w34 [Wd b11 O2.2, TW b10 64 O2.1, Old wo, Cl r15 [pV b10, pV b11] 28, R] := sat_imp (tk5 (sf4 (sf3 (sf4 (sf4 (sf4 h36)))))) (fun _ hh_ => by rw [eO2]; exact hh_)
 refine go [] <| unN ?_
 have h39 := tk5 (sf4 (sf3 (sf4 (sf4 (sf4 h38)))))
 refine go [rd 7 0 3 0 2 h38] <| cl2 Tryz.call26 (open_ht b10 b11 O2.1 O2.2 0 2 (by omega) (by omega)) h39 fun w40 h41 => ?_
 have h42 : sat g w40 [TW b10 64 O3.1, Wd b11 ((opnP (O2.1, O2.2) 0 2).2), Old wo, Cl r15 [pV b10, pV b11] 28, R] := sat_imp h41 (fun _ hh_ => by rw [eO3]; exact hh_)
 have h44 : sat g w40 [Wd b11 O3.2, TW b10 64 O3.1, Old wo, Cl r15 [pV b10, pV b11] 28, R] := sat_imp (tk5 (sf4 (sf3 (sf4 (sf4 (sf4 h42)))))) (fun _ hh_ => by rw [eO3]; exact hh_)
 refine go [] <| unN <| go [] <| up <| go [rd 8 1 3 1 1 h44] <| cl1 Tryz.call30 ((by have h_ := wtick_ht b11 O3.2 5; rw [ht] at h_; exact h_)) h44 fun w45 h46 => ?_
 have h48 : sat g w45 [TW b10 64 X3.1, Wd b11 (tckS O3.2 5), Old wo, Cl r15 [pV b10, pV b11] 28, R] := sat_imp (tk5 (sf4 (sf3 (sf4 (sf4 (sf4 h46)))))) (fun _ hh_ => by rw [eX3]; exact hh_)
 have h50 : sat g w45 [Wd b11 X3.2, TW b10 64 X3.1, Old wo, Cl r15 [pV b10, pV b11] 28, R] := sat_imp (tk5 (sf4 (sf3 (sf4 (sf4 (sf4 h48)))))) (fun _ hh_ => by rw [eX3]; exact hh_)
 refine go [] <| unS 3 ?_
 have hg51n : nE X3.1 1 = 0 := if_pos ⟨by omega, by omega⟩; have hg51 : resR (getR X3.1 1) = 0 ∧ 0 ≤ (getR X3.1 1).out.2.2 ∧ (getR X3.1 1).out.2.2 ≤ 4294967295 ∧ (getR X3.1 1).tag.length ≤ 96 := wf_get (tw_ok (j := 1) h50 rfl) hg51n; have hg51a := hg51.2.1; have hg51b := hg51.2.2.1; have hg51c := hg51.2.2.2
 have h52 := tk5 (sf4 (sf3 (sf4 (sf4 (sf4 h50)))))
 refine go [rd 13 1 3 0 1 h50] <| cl1 Tryz.call45 ((by have h_ := tget_w b10 64 X3.1 1; rw [hg51n] at h_; exact h_)) h52 fun _ h54 => ?_
 refine go [] <| nP 82 [iV 0, iV 0, uV 0, iV 0, iV 0, iV 0, iV 0, .string (St [])] h54 (fun r55 _ h57 => ?_)
 refine sP [(0, iV ((getR X3.1 1).out.1)), (1, iV ((getR X3.1 1).out.2.1)), (2, uV ((getR X3.1 1).out.2.2)), (3, iV ((getR X3.1 1).st)), (4, iV ((getR X3.1 1).why)), (5, iV ((getR X3.1 1).tr)), (6, iV ((getR X3.1 1).nx)), (7, .string (St ((getR X3.1 1).tag)))] [iV ((getR X3.1 1).out.1), iV ((getR X3.1 1).out.2.1), uV ((getR X3.1 1).out.2.2), iV ((getR X3.1 1).st), iV ((getR X3.1 1).why), iV ((getR X3.1 1).tr), iV ((getR X3.1 1).nx), .string (St ((getR X3.1 1).tag))] h57 fun _ h59 => go [rd 14 0 0 0 8 h59] <| cl0 Tryz.call52 (rclo_ok (getR X3.1 1) hg51.1 (by omega) (by omega) 1 5 (by omega) (by omega) (by omega)) h59 fun _ h61 => go [] <| nP 82 [iV 0, iV 0, uV 0, iV 0, iV 0, iV 0, iV 0, .string (St [])] h61 (fun r62 _ h64 => ?_)
 refine sP [(0, iV ((getR X3.1 1).out.1)), (1, iV ((getR X3.1 1).out.2.1)), (2, uV ((getR X3.1 1).out.2.2)), (3, iV 2), (4, iV 1), (5, iV ((getR X3.1 1).tr)), (6, iV 5), (7, .string (St ((getR X3.1 1).tag)))] [iV ((getR X3.1 1).out.1), iV ((getR X3.1 1).out.2.1), uV ((getR X3.1 1).out.2.2), iV 2, iV 1, iV ((getR X3.1 1).tr), iV 5, .string (St ((getR X3.1 1).tag))] h64 fun _ h66 => ?_
 have h69 := tk7 (sf6 (sf5 (sf5 (sf6 (sf6 (sf6 (sf6 h66)))))))
 refine go [rd 17 1 5 0 1 h66] <| cP Tryz.call53 (texp_w b10 64 X3.1 1) h69 ?_
 rintro v K _ (⟨p67, c68, rfl, rfl⟩) h71
 have h72 := ap2 h71
 refine go [rd 18 1 6 0 1 h72, rd 18 3 2 0 8 h72] <| cl1 Tryz.call54 (tset_w b10 64 (expS X3.1 1) 1 ((getR X3.1 1).out.1) ((getR X3.1 1).out.2.1) ((getR X3.1 1).out.2.2) 2 1 ((getR X3.1 1).tr) 5 ((getR X3.1 1).tag) (by omega) (by omega) (by omega)) h72 fun w73 h74 => ?_
 have h75 : sat g w73 [TW b10 64 C1.1, Sl 144 3 p67 (((descs X3.1.E 1).length)) c68 (fl eO (descs X3.1.E 1)), Cl r62 [iV ((getR X3.1 1).out.1), iV ((getR X3.1 1).out.2.1), uV ((getR X3.1 1).out.2.2), iV 2, iV 1, iV ((getR X3.1 1).tr), iV 5, .string (St ((getR X3.1 1).tag))] 82, Cl r55 [iV ((getR X3.1 1).out.1), iV ((getR X3.1 1).out.2.1), uV ((getR X3.1 1).out.2.2), iV ((getR X3.1 1).st), iV ((getR X3.1 1).why), iV ((getR X3.1 1).tr), iV ((getR X3.1 1).nx), .string (St ((getR X3.1 1).tag))] 82, Wd b11 X3.2, Old wo, Cl r15 [pV b10, pV b11] 28, R] := sat_imp h74 (fun _ hh_ => by rw [eC1]; exact hh_)
 have h77 : sat g w73 [Wd b11 C1.2, TW b10 64 C1.1, Sl 144 3 p67 (((descs X3.1.E 1).length)) c68 (fl eO (descs X3.1.E 1)), Cl r62 [iV ((getR X3.1 1).out.1), iV ((getR X3.1 1).out.2.1), uV ((getR X3.1 1).out.2.2), iV 2, iV 1, iV ((getR X3.1 1).tr), iV 5, .string (St ((getR X3.1 1).tag))] 82, Cl r55 [iV ((getR X3.1 1).out.1), iV ((getR X3.1 1).out.2.1), uV ((getR X3.1 1).out.2.2), iV ((getR X3.1 1).st), iV ((getR X3.1 1).why), iV ((getR X3.1 1).tr), iV ((getR X3.1 1).nx), .string (St ((getR X3.1 1).tag))] 82, Old wo, Cl r15 [pV b10, pV b11] 28, R] := sat_imp (tk8 (sf7 (sf6 (sf6 (sf6 (sf6 (sf7 (sf7 (sf7 h75))))))))) (fun _ hh_ => by rw [eC1]; exact hh_)
 refine go [] <| unN ?_
 have hg78n : nE C1.1 2 = 0 := if_pos ⟨by omega, by omega⟩; have hg78 : resR (getR C1.1 2) = 0 ∧ 0 ≤ (getR C1.1 2).out.2.2 ∧ (getR C1.1 2).out.2.2 ≤ 4294967295 ∧ (getR C1.1 2).tag.length ≤ 96 := wf_get (tw_ok (j := 1) h77 rfl) hg78n; have hg78a := hg78.2.1; have hg78b := hg78.2.2.1; have hg78c := hg78.2.2.2
 have h79 := tk8 (sf7 (sf6 (sf7 (sf7 (sf7 (sf7 (sf7 (sf7 h77))))))))
 refine go [rd 13 1 6 0 1 h77] <| cl1 Tryz.call45 ((by have h_ := tget_w b10 64 C1.1 2; rw [hg78n] at h_; exact h_)) h79 fun _ h81 => ?_
 refine go [] <| nP 82 [iV 0, iV 0, uV 0, iV 0, iV 0, iV 0, iV 0, .string (St [])] h81 (fun r82 _ h84 => ?_)
 refine sP [(0, iV ((getR C1.1 2).out.1)), (1, iV ((getR C1.1 2).out.2.1)), (2, uV ((getR C1.1 2).out.2.2)), (3, iV ((getR C1.1 2).st)), (4, iV ((getR C1.1 2).why)), (5, iV ((getR C1.1 2).tr)), (6, iV ((getR C1.1 2).nx)), (7, .string (St ((getR C1.1 2).tag)))] [iV ((getR C1.1 2).out.1), iV ((getR C1.1 2).out.2.1), uV ((getR C1.1 2).out.2.2), iV ((getR C1.1 2).st), iV ((getR C1.1 2).why), iV ((getR C1.1 2).tr), iV ((getR C1.1 2).nx), .string (St ((getR C1.1 2).tag))] h84 fun _ h86 => go [rd 14 0 0 0 8 h86] <| cl0 Tryz.call52 (rclo_ok (getR C1.1 2) hg78.1 (by omega) (by omega) 1 5 (by omega) (by omega) (by omega)) h86 fun _ h88 => go [] <| nP 82 [iV 0, iV 0, uV 0, iV 0, iV 0, iV 0, iV 0, .string (St [])] h88 (fun r89 _ h91 => ?_)
 refine sP [(0, iV ((getR C1.1 2).out.1)), (1, iV ((getR C1.1 2).out.2.1)), (2, uV ((getR C1.1 2).out.2.2)), (3, iV 2), (4, iV 1), (5, iV ((getR C1.1 2).tr)), (6, iV 5), (7, .string (St ((getR C1.1 2).tag)))] [iV ((getR C1.1 2).out.1), iV ((getR C1.1 2).out.2.1), uV ((getR C1.1 2).out.2.2), iV 2, iV 1, iV ((getR C1.1 2).tr), iV 5, .string (St ((getR C1.1 2).tag))] h91 fun _ h93 => ?_
 have h96 := tk10 (sf9 (sf8 (sf8 (sf9 (sf9 (sf9 (sf9 (sf9 (sf9 (sf9 h93))))))))))
 refine go [rd 17 1 8 0 1 h93] <| cP Tryz.call53 (texp_w b10 64 C1.1 2) h96 ?_
 rintro v K _ (⟨p94, c95, rfl, rfl⟩) h98
 have h99 := ap2 h98
 refine go [rd 18 1 9 0 1 h99, rd 18 3 2 0 8 h99] <| cl1 Tryz.call54 (tset_w b10 64 (expS C1.1 2) 2 ((getR C1.1 2).out.1) ((getR C1.1 2).out.2.1) ((getR C1.1 2).out.2.2) 2 1 ((getR C1.1 2).tr) 5 ((getR C1.1 2).tag) (by omega) (by omega) (by omega)) h99 fun w100 h101 => ?_
 have h102 : sat g w100 [TW b10 64 C2.1, Sl 144 3 p94 (((descs C1.1.E 2).length)) c95 (fl eO (descs C1.1.E 2)), Cl r89 [iV ((getR C1.1 2).out.1), iV ((getR C1.1 2).out.2.1), uV ((getR C1.1 2).out.2.2), iV 2, iV 1, iV ((getR C1.1 2).tr), iV 5, .string (St ((getR C1.1 2).tag))] 82, Cl r82 [iV ((getR C1.1 2).out.1), iV ((getR C1.1 2).out.2.1), uV ((getR C1.1 2).out.2.2), iV ((getR C1.1 2).st), iV ((getR C1.1 2).why), iV ((getR C1.1 2).tr), iV ((getR C1.1 2).nx), .string (St ((getR C1.1 2).tag))] 82, Wd b11 C1.2, Sl 144 3 p67 (((descs X3.1.E 1).length)) c68 (fl eO (descs X3.1.E 1)), Cl r62 [iV ((getR X3.1 1).out.1), iV ((getR X3.1 1).out.2.1), uV ((getR X3.1 1).out.2.2), iV 2, iV 1, iV ((getR X3.1 1).tr), iV 5, .string (St ((getR X3.1 1).tag))] 82, Cl r55 [iV ((getR X3.1 1).out.1), iV ((getR X3.1 1).out.2.1), uV ((getR X3.1 1).out.2.2), iV ((getR X3.1 1).st), iV ((getR X3.1 1).why), iV ((getR X3.1 1).tr), iV ((getR X3.1 1).nx), .string (St ((getR X3.1 1).tag))] 82, Old wo, Cl r15 [pV b10, pV b11] 28, R] := sat_imp h101 (fun _ hh_ => by rw [eC2]; exact hh_)
 have h104 : sat g w100 [Wd b11 C2.2, TW b10 64 C2.1, Sl 144 3 p94 (((descs C1.1.E 2).length)) c95 (fl eO (descs C1.1.E 2)), Cl r89 [iV ((getR C1.1 2).out.1), iV ((getR C1.1 2).out.2.1), uV ((getR C1.1 2).out.2.2), iV 2, iV 1, iV ((getR C1.1 2).tr), iV 5, .string (St ((getR C1.1 2).tag))] 82, Cl r82 [iV ((getR C1.1 2).out.1), iV ((getR C1.1 2).out.2.1), uV ((getR C1.1 2).out.2.2), iV ((getR C1.1 2).st), iV ((getR C1.1 2).why), iV ((getR C1.1 2).tr), iV ((getR C1.1 2).nx), .string (St ((getR C1.1 2).tag))] 82, Sl 144 3 p67 (((descs X3.1.E 1).length)) c68 (fl eO (descs X3.1.E 1)), Cl r62 [iV ((getR X3.1 1).out.1), iV ((getR X3.1 1).out.2.1), uV ((getR X3.1 1).out.2.2), iV 2, iV 1, iV ((getR X3.1 1).tr), iV 5, .string (St ((getR X3.1 1).tag))] 82, Cl r55 [iV ((getR X3.1 1).out.1), iV ((getR X3.1 1).out.2.1), uV ((getR X3.1 1).out.2.2), iV ((getR X3.1 1).st), iV ((getR X3.1 1).why), iV ((getR X3.1 1).tr), iV ((getR X3.1 1).nx), .string (St ((getR X3.1 1).tag))] 82, Old wo, Cl r15 [pV b10, pV b11] 28, R] := sat_imp (tk11 (sf10 (sf9 (sf9 (sf9 (sf9 (sf10 (sf10 (sf10 (sf10 (sf10 (sf10 h102)))))))))))) (fun _ hh_ => by rw [eC2]; exact hh_)
 refine go [] <| unN ?_
 have hg105n : nE C2.1 3 = 0 := if_pos ⟨by omega, by omega⟩; have hg105 : resR (getR C2.1 3) = 0 ∧ 0 ≤ (getR C2.1 3).out.2.2 ∧ (getR C2.1 3).out.2.2 ≤ 4294967295 ∧ (getR C2.1 3).tag.length ≤ 96 := wf_get (tw_ok (j := 1) h104 rfl) hg105n; have hg105a := hg105.2.1; have hg105b := hg105.2.2.1; have hg105c := hg105.2.2.2
 have h106 := tk11 (sf10 (sf9 (sf10 (sf10 (sf10 (sf10 (sf10 (sf10 (sf10 (sf10 (sf10 h104)))))))))))
 refine go [rd 13 1 9 0 1 h104] <| cl1 Tryz.call45 ((by have h_ := tget_w b10 64 C2.1 3; rw [hg105n] at h_; exact h_)) h106 fun _ h108 => ?_
 refine go [] <| nP 82 [iV 0, iV 0, uV 0, iV 0, iV 0, iV 0, iV 0, .string (St [])] h108 (fun r109 _ h111 => ?_)
 refine sP [(0, iV ((getR C2.1 3).out.1)), (1, iV ((getR C2.1 3).out.2.1)), (2, uV ((getR C2.1 3).out.2.2)), (3, iV ((getR C2.1 3).st)), (4, iV ((getR C2.1 3).why)), (5, iV ((getR C2.1 3).tr)), (6, iV ((getR C2.1 3).nx)), (7, .string (St ((getR C2.1 3).tag)))] [iV ((getR C2.1 3).out.1), iV ((getR C2.1 3).out.2.1), uV ((getR C2.1 3).out.2.2), iV ((getR C2.1 3).st), iV ((getR C2.1 3).why), iV ((getR C2.1 3).tr), iV ((getR C2.1 3).nx), .string (St ((getR C2.1 3).tag))] h111 fun _ h113 => go [rd 14 0 0 0 8 h113] <| cl0 Tryz.call52 (rclo_ok (getR C2.1 3) hg105.1 (by omega) (by omega) 1 5 (by omega) (by omega) (by omega)) h113 fun _ h115 => go [] <| nP 82 [iV 0, iV 0, uV 0, iV 0, iV 0, iV 0, iV 0, .string (St [])] h115 (fun r116 _ h118 => ?_)
 refine sP [(0, iV ((getR C2.1 3).out.1)), (1, iV ((getR C2.1 3).out.2.1)), (2, uV ((getR C2.1 3).out.2.2)), (3, iV 2), (4, iV 1), (5, iV ((getR C2.1 3).tr)), (6, iV 5), (7, .string (St ((getR C2.1 3).tag)))] [iV ((getR C2.1 3).out.1), iV ((getR C2.1 3).out.2.1), uV ((getR C2.1 3).out.2.2), iV 2, iV 1, iV ((getR C2.1 3).tr), iV 5, .string (St ((getR C2.1 3).tag))] h118 fun _ h120 => ?_
 have h123 := tk13 (sf12 (sf11 (sf11 (sf12 (sf12 (sf12 (sf12 (sf12 (sf12 (sf12 (sf12 (sf12 (sf12 h120)))))))))))))
 refine go [rd 17 1 11 0 1 h120] <| cP Tryz.call53 (texp_w b10 64 C2.1 3) h123 ?_
 rintro v K _ (⟨p121, c122, rfl, rfl⟩) h125
 have h126 := ap2 h125
 refine go [rd 18 1 12 0 1 h126, rd 18 3 2 0 8 h126] <| cl1 Tryz.call54 (tset_w b10 64 (expS C2.1 3) 3 ((getR C2.1 3).out.1) ((getR C2.1 3).out.2.1) ((getR C2.1 3).out.2.2) 2 1 ((getR C2.1 3).tr) 5 ((getR C2.1 3).tag) (by omega) (by omega) (by omega)) h126 fun w127 h128 => ?_
 have h129 : sat g w127 [TW b10 64 C3.1, Sl 144 3 p121 (((descs C2.1.E 3).length)) c122 (fl eO (descs C2.1.E 3)), Cl r116 [iV ((getR C2.1 3).out.1), iV ((getR C2.1 3).out.2.1), uV ((getR C2.1 3).out.2.2), iV 2, iV 1, iV ((getR C2.1 3).tr), iV 5, .string (St ((getR C2.1 3).tag))] 82, Cl r109 [iV ((getR C2.1 3).out.1), iV ((getR C2.1 3).out.2.1), uV ((getR C2.1 3).out.2.2), iV ((getR C2.1 3).st), iV ((getR C2.1 3).why), iV ((getR C2.1 3).tr), iV ((getR C2.1 3).nx), .string (St ((getR C2.1 3).tag))] 82, Wd b11 C2.2, Sl 144 3 p94 (((descs C1.1.E 2).length)) c95 (fl eO (descs C1.1.E 2)), Cl r89 [iV ((getR C1.1 2).out.1), iV ((getR C1.1 2).out.2.1), uV ((getR C1.1 2).out.2.2), iV 2, iV 1, iV ((getR C1.1 2).tr), iV 5, .string (St ((getR C1.1 2).tag))] 82, Cl r82 [iV ((getR C1.1 2).out.1), iV ((getR C1.1 2).out.2.1), uV ((getR C1.1 2).out.2.2), iV ((getR C1.1 2).st), iV ((getR C1.1 2).why), iV ((getR C1.1 2).tr), iV ((getR C1.1 2).nx), .string (St ((getR C1.1 2).tag))] 82, Sl 144 3 p67 (((descs X3.1.E 1).length)) c68 (fl eO (descs X3.1.E 1)), Cl r62 [iV ((getR X3.1 1).out.1), iV ((getR X3.1 1).out.2.1), uV ((getR X3.1 1).out.2.2), iV 2, iV 1, iV ((getR X3.1 1).tr), iV 5, .string (St ((getR X3.1 1).tag))] 82, Cl r55 [iV ((getR X3.1 1).out.1), iV ((getR X3.1 1).out.2.1), uV ((getR X3.1 1).out.2.2), iV ((getR X3.1 1).st), iV ((getR X3.1 1).why), iV ((getR X3.1 1).tr), iV ((getR X3.1 1).nx), .string (St ((getR X3.1 1).tag))] 82, Old wo, Cl r15 [pV b10, pV b11] 28, R] := sat_imp h128 (fun _ hh_ => by rw [eC3]; exact hh_)
 have h131 : sat g w127 [Wd b11 C3.2, TW b10 64 C3.1, Sl 144 3 p121 (((descs C2.1.E 3).length)) c122 (fl eO (descs C2.1.E 3)), Cl r116 [iV ((getR C2.1 3).out.1), iV ((getR C2.1 3).out.2.1), uV ((getR C2.1 3).out.2.2), iV 2, iV 1, iV ((getR C2.1 3).tr), iV 5, .string (St ((getR C2.1 3).tag))] 82, Cl r109 [iV ((getR C2.1 3).out.1), iV ((getR C2.1 3).out.2.1), uV ((getR C2.1 3).out.2.2), iV ((getR C2.1 3).st), iV ((getR C2.1 3).why), iV ((getR C2.1 3).tr), iV ((getR C2.1 3).nx), .string (St ((getR C2.1 3).tag))] 82, Sl 144 3 p94 (((descs C1.1.E 2).length)) c95 (fl eO (descs C1.1.E 2)), Cl r89 [iV ((getR C1.1 2).out.1), iV ((getR C1.1 2).out.2.1), uV ((getR C1.1 2).out.2.2), iV 2, iV 1, iV ((getR C1.1 2).tr), iV 5, .string (St ((getR C1.1 2).tag))] 82, Cl r82 [iV ((getR C1.1 2).out.1), iV ((getR C1.1 2).out.2.1), uV ((getR C1.1 2).out.2.2), iV ((getR C1.1 2).st), iV ((getR C1.1 2).why), iV ((getR C1.1 2).tr), iV ((getR C1.1 2).nx), .string (St ((getR C1.1 2).tag))] 82, Sl 144 3 p67 (((descs X3.1.E 1).length)) c68 (fl eO (descs X3.1.E 1)), Cl r62 [iV ((getR X3.1 1).out.1), iV ((getR X3.1 1).out.2.1), uV ((getR X3.1 1).out.2.2), iV 2, iV 1, iV ((getR X3.1 1).tr), iV 5, .string (St ((getR X3.1 1).tag))] 82, Cl r55 [iV ((getR X3.1 1).out.1), iV ((getR X3.1 1).out.2.1), uV ((getR X3.1 1).out.2.2), iV ((getR X3.1 1).st), iV ((getR X3.1 1).why), iV ((getR X3.1 1).tr), iV ((getR X3.1 1).nx), .string (St ((getR X3.1 1).tag))] 82, Old wo, Cl r15 [pV b10, pV b11] 28, R] := sat_imp (tk14 (sf13 (sf12 (sf12 (sf12 (sf12 (sf13 (sf13 (sf13 (sf13 (sf13 (sf13 (sf13 (sf13 (sf13 h129))))))))))))))) (fun _ hh_ => by rw [eC3]; exact hh_)
 refine go [] <| unN <| go [] <| up <| go [] <| nP 24 [iV 0, iV 0, iV 0, iV 0, iV 0, iV 0, iV 0, iV 0, iV 0, uV 0] h131 (fun r132 _ h134 => ?_)
 refine sP [(0, iV 0), (1, iV 0), (2, iV 0), (3, iV 0), (4, iV 0), (5, iV 0), (6, iV 2), (7, iV 10), (8, iV 25), (9, uV 0)] [iV 0, iV 0, iV 0, iV 0, iV 0, iV 0, iV 2, iV 10, iV 25, uV 0] h134 fun _ h136 => ?_
 have h139 := tk15 (sf14 (sf13 (sf12 (sf14 (sf14 (sf14 (sf14 (sf14 (sf14 (sf14 (sf14 (sf14 (sf14 (sf14 (sf14 h136)))))))))))))))
 refine go [rd 20 1 13 0 1 h136, rd 20 3 13 1 1 h136, rd 20 4 0 0 10 h136] <| cP Tryz.call12 ((by have h_ := run_w b10 64 b11 C3.1 C3.2 0 0 0 0 0 0 2 10 25 0 (fun _ => hr5); rw [show cfgE (⟨2, 10, 25⟩ : Cf) = 0 from by kernel_rfl, hn5] at h_; exact h_)) h139 ?_
 rintro v K w140 (⟨p137, c138, rfl, rfl⟩) h141
 have h143 : sat g w140 [TW b10 64 X5.1, Wd b11 ((rnS (⟨2, 10, 25⟩ : Cf) (C3.1, C3.2)).2), Sl 74 6 p137 2 c138 (fl eAt (rnL (⟨2, 10, 25⟩ : Cf) (C3.1, C3.2))), Cl r132 [iV 0, iV 0, iV 0, iV 0, iV 0, iV 0, iV 2, iV 10, iV 25, uV 0] 24, Sl 144 3 p121 (((descs C2.1.E 3).length)) c122 (fl eO (descs C2.1.E 3)), Cl r116 [iV ((getR C2.1 3).out.1), iV ((getR C2.1 3).out.2.1), uV ((getR C2.1 3).out.2.2), iV 2, iV 1, iV ((getR C2.1 3).tr), iV 5, .string (St ((getR C2.1 3).tag))] 82, Cl r109 [iV ((getR C2.1 3).out.1), iV ((getR C2.1 3).out.2.1), uV ((getR C2.1 3).out.2.2), iV ((getR C2.1 3).st), iV ((getR C2.1 3).why), iV ((getR C2.1 3).tr), iV ((getR C2.1 3).nx), .string (St ((getR C2.1 3).tag))] 82, Sl 144 3 p94 (((descs C1.1.E 2).length)) c95 (fl eO (descs C1.1.E 2)), Cl r89 [iV ((getR C1.1 2).out.1), iV ((getR C1.1 2).out.2.1), uV ((getR C1.1 2).out.2.2), iV 2, iV 1, iV ((getR C1.1 2).tr), iV 5, .string (St ((getR C1.1 2).tag))] 82, Cl r82 [iV ((getR C1.1 2).out.1), iV ((getR C1.1 2).out.2.1), uV ((getR C1.1 2).out.2.2), iV ((getR C1.1 2).st), iV ((getR C1.1 2).why), iV ((getR C1.1 2).tr), iV ((getR C1.1 2).nx), .string (St ((getR C1.1 2).tag))] 82, Sl 144 3 p67 (((descs X3.1.E 1).length)) c68 (fl eO (descs X3.1.E 1)), Cl r62 [iV ((getR X3.1 1).out.1), iV ((getR X3.1 1).out.2.1), uV ((getR X3.1 1).out.2.2), iV 2, iV 1, iV ((getR X3.1 1).tr), iV 5, .string (St ((getR X3.1 1).tag))] 82, Cl r55 [iV ((getR X3.1 1).out.1), iV ((getR X3.1 1).out.2.1), uV ((getR X3.1 1).out.2.2), iV ((getR X3.1 1).st), iV ((getR X3.1 1).why), iV ((getR X3.1 1).tr), iV ((getR X3.1 1).nx), .string (St ((getR X3.1 1).tag))] 82, Old wo, Cl r15 [pV b10, pV b11] 28, R] := sat_imp (ap3 h141) (fun _ hh_ => by rw [eX5]; exact hh_)
 have h145 : sat g w140 [Wd b11 X5.2, TW b10 64 X5.1, Sl 74 6 p137 2 c138 (fl eAt (rnL (⟨2, 10, 25⟩ : Cf) (C3.1, C3.2))), Cl r132 [iV 0, iV 0, iV 0, iV 0, iV 0, iV 0, iV 2, iV 10, iV 25, uV 0] 24, Sl 144 3 p121 (((descs C2.1.E 3).length)) c122 (fl eO (descs C2.1.E 3)), Cl r116 [iV ((getR C2.1 3).out.1), iV ((getR C2.1 3).out.2.1), uV ((getR C2.1 3).out.2.2), iV 2, iV 1, iV ((getR C2.1 3).tr), iV 5, .string (St ((getR C2.1 3).tag))] 82, Cl r109 [iV ((getR C2.1 3).out.1), iV ((getR C2.1 3).out.2.1), uV ((getR C2.1 3).out.2.2), iV ((getR C2.1 3).st), iV ((getR C2.1 3).why), iV ((getR C2.1 3).tr), iV ((getR C2.1 3).nx), .string (St ((getR C2.1 3).tag))] 82, Sl 144 3 p94 (((descs C1.1.E 2).length)) c95 (fl eO (descs C1.1.E 2)), Cl r89 [iV ((getR C1.1 2).out.1), iV ((getR C1.1 2).out.2.1), uV ((getR C1.1 2).out.2.2), iV 2, iV 1, iV ((getR C1.1 2).tr), iV 5, .string (St ((getR C1.1 2).tag))] 82, Cl r82 [iV ((getR C1.1 2).out.1), iV ((getR C1.1 2).out.2.1), uV ((getR C1.1 2).out.2.2), iV ((getR C1.1 2).st), iV ((getR C1.1 2).why), iV ((getR C1.1 2).tr), iV ((getR C1.1 2).nx), .string (St ((getR C1.1 2).tag))] 82, Sl 144 3 p67 (((descs X3.1.E 1).length)) c68 (fl eO (descs X3.1.E 1)), Cl r62 [iV ((getR X3.1 1).out.1), iV ((getR X3.1 1).out.2.1), uV ((getR X3.1 1).out.2.2), iV 2, iV 1, iV ((getR X3.1 1).tr), iV 5, .string (St ((getR X3.1 1).tag))] 82, Cl r55 [iV ((getR X3.1 1).out.1), iV ((getR X3.1 1).out.2.1), uV ((getR X3.1 1).out.2.2), iV ((getR X3.1 1).st), iV ((getR X3.1 1).why), iV ((getR X3.1 1).tr), iV ((getR X3.1 1).nx), .string (St ((getR X3.1 1).tag))] 82, Old wo, Cl r15 [pV b10, pV b11] 28, R] := sat_imp (tk16 (sf15 (sf14 (sf15 (sf15 (sf15 (sf15 (sf15 (sf15 (sf15 (sf15 (sf15 (sf15 (sf15 (sf15 (sf15 (sf15 h143))))))))))))))))) (fun _ hh_ => by rw [eX5]; exact hh_)
 have h148 := tk16 (sf15 (sf14 (sf15 (sf15 (sf15 (sf15 (sf15 (sf15 (sf15 (sf15 (sf15 (sf15 (sf15 (sf15 (sf15 (sf15 h145))))))))))))))))
 refine go [rd 21 1 14 0 1 h145, rd 21 3 14 1 1 h145, rd 21 4 3 0 10 h145] <| cP Tryz.call12 ((by have h_ := run_w b10 64 b11 X5.1 X5.2 0 0 0 0 0 0 2 10 25 0 (fun _ => hr6); rw [show cfgE (⟨2, 10, 25⟩ : Cf) = 0 from by kernel_rfl, hn6] at h_; exact h_)) h148 ?_
 rintro v K w149 (⟨p146, c147, rfl, rfl⟩) h150
 have h152 : sat g w149 [TW b10 64 X6.1, Wd b11 ((rnS (⟨2, 10, 25⟩ : Cf) (X5.1, X5.2)).2), Sl 74 6 p146 1 c147 (fl eAt (rnL (⟨2, 10, 25⟩ : Cf) (X5.1, X5.2))), Sl 74 6 p137 2 c138 (fl eAt (rnL (⟨2, 10, 25⟩ : Cf) (C3.1, C3.2))), Cl r132 [iV 0, iV 0, iV 0, iV 0, iV 0, iV 0, iV 2, iV 10, iV 25, uV 0] 24, Sl 144 3 p121 (((descs C2.1.E 3).length)) c122 (fl eO (descs C2.1.E 3)), Cl r116 [iV ((getR C2.1 3).out.1), iV ((getR C2.1 3).out.2.1), uV ((getR C2.1 3).out.2.2), iV 2, iV 1, iV ((getR C2.1 3).tr), iV 5, .string (St ((getR C2.1 3).tag))] 82, Cl r109 [iV ((getR C2.1 3).out.1), iV ((getR C2.1 3).out.2.1), uV ((getR C2.1 3).out.2.2), iV ((getR C2.1 3).st), iV ((getR C2.1 3).why), iV ((getR C2.1 3).tr), iV ((getR C2.1 3).nx), .string (St ((getR C2.1 3).tag))] 82, Sl 144 3 p94 (((descs C1.1.E 2).length)) c95 (fl eO (descs C1.1.E 2)), Cl r89 [iV ((getR C1.1 2).out.1), iV ((getR C1.1 2).out.2.1), uV ((getR C1.1 2).out.2.2), iV 2, iV 1, iV ((getR C1.1 2).tr), iV 5, .string (St ((getR C1.1 2).tag))] 82, Cl r82 [iV ((getR C1.1 2).out.1), iV ((getR C1.1 2).out.2.1), uV ((getR C1.1 2).out.2.2), iV ((getR C1.1 2).st), iV ((getR C1.1 2).why), iV ((getR C1.1 2).tr), iV ((getR C1.1 2).nx), .string (St ((getR C1.1 2).tag))] 82, Sl 144 3 p67 (((descs X3.1.E 1).length)) c68 (fl eO (descs X3.1.E 1)), Cl r62 [iV ((getR X3.1 1).out.1), iV ((getR X3.1 1).out.2.1), uV ((getR X3.1 1).out.2.2), iV 2, iV 1, iV ((getR X3.1 1).tr), iV 5, .string (St ((getR X3.1 1).tag))] 82, Cl r55 [iV ((getR X3.1 1).out.1), iV ((getR X3.1 1).out.2.1), uV ((getR X3.1 1).out.2.2), iV ((getR X3.1 1).st), iV ((getR X3.1 1).why), iV ((getR X3.1 1).tr), iV ((getR X3.1 1).nx), .string (St ((getR X3.1 1).tag))] 82, Old wo, Cl r15 [pV b10, pV b11] 28, R] := sat_imp (ap3 h150) (fun _ hh_ => by rw [eX6]; exact hh_)
 have h154 : sat g w149 [Wd b11 X6.2, TW b10 64 X6.1, Sl 74 6 p146 1 c147 (fl eAt (rnL (⟨2, 10, 25⟩ : Cf) (X5.1, X5.2))), Sl 74 6 p137 2 c138 (fl eAt (rnL (⟨2, 10, 25⟩ : Cf) (C3.1, C3.2))), Cl r132 [iV 0, iV 0, iV 0, iV 0, iV 0, iV 0, iV 2, iV 10, iV 25, uV 0] 24, Sl 144 3 p121 (((descs C2.1.E 3).length)) c122 (fl eO (descs C2.1.E 3)), Cl r116 [iV ((getR C2.1 3).out.1), iV ((getR C2.1 3).out.2.1), uV ((getR C2.1 3).out.2.2), iV 2, iV 1, iV ((getR C2.1 3).tr), iV 5, .string (St ((getR C2.1 3).tag))] 82, Cl r109 [iV ((getR C2.1 3).out.1), iV ((getR C2.1 3).out.2.1), uV ((getR C2.1 3).out.2.2), iV ((getR C2.1 3).st), iV ((getR C2.1 3).why), iV ((getR C2.1 3).tr), iV ((getR C2.1 3).nx), .string (St ((getR C2.1 3).tag))] 82, Sl 144 3 p94 (((descs C1.1.E 2).length)) c95 (fl eO (descs C1.1.E 2)), Cl r89 [iV ((getR C1.1 2).out.1), iV ((getR C1.1 2).out.2.1), uV ((getR C1.1 2).out.2.2), iV 2, iV 1, iV ((getR C1.1 2).tr), iV 5, .string (St ((getR C1.1 2).tag))] 82, Cl r82 [iV ((getR C1.1 2).out.1), iV ((getR C1.1 2).out.2.1), uV ((getR C1.1 2).out.2.2), iV ((getR C1.1 2).st), iV ((getR C1.1 2).why), iV ((getR C1.1 2).tr), iV ((getR C1.1 2).nx), .string (St ((getR C1.1 2).tag))] 82, Sl 144 3 p67 (((descs X3.1.E 1).length)) c68 (fl eO (descs X3.1.E 1)), Cl r62 [iV ((getR X3.1 1).out.1), iV ((getR X3.1 1).out.2.1), uV ((getR X3.1 1).out.2.2), iV 2, iV 1, iV ((getR X3.1 1).tr), iV 5, .string (St ((getR X3.1 1).tag))] 82, Cl r55 [iV ((getR X3.1 1).out.1), iV ((getR X3.1 1).out.2.1), uV ((getR X3.1 1).out.2.2), iV ((getR X3.1 1).st), iV ((getR X3.1 1).why), iV ((getR X3.1 1).tr), iV ((getR X3.1 1).nx), .string (St ((getR X3.1 1).tag))] 82, Old wo, Cl r15 [pV b10, pV b11] 28, R] := sat_imp (tk17 (sf16 (sf15 (sf16 (sf16 (sf16 (sf16 (sf16 (sf16 (sf16 (sf16 (sf16 (sf16 (sf16 (sf16 (sf16 (sf16 (sf16 h152)))))))))))))))))) (fun _ hh_ => by rw [eX6]; exact hh_)
 have h155 := tk17 (sf16 (sf15 (sf16 (sf16 (sf16 (sf16 (sf16 (sf16 (sf16 (sf16 (sf16 (sf16 (sf16 (sf16 (sf16 (sf16 (sf16 h154)))))))))))))))))
 refine go [rd 22 1 15 0 1 h154] <| cl1 Tryz.call13 ((by have h_ := wake_w b10 64 X6.1; rw [hw.1, hw.2.1] at h_; exact h_)) h155 fun _ h157 => ?_
 refine go [rd 23 1 15 0 1 h157] <| cl1 Tryz.call14 ((by have h_ := left_w b10 64 X6.1; rw [hw.2.2] at h_; exact h_)) h157 fun _ h159 => ?_
 obtain ⟨b160, hp161⟩ := sl_ptr0 (j := 3) h159 rfl (by omega)
 refine go [.v 24 16 (oJ .i64 (2 : Int) 2), .v 24 21 (oJ .i64 (1 : Int) 1), .s 26 1] <| lwP (.pointer (some ⟨b160, 6, none⟩)) (law_indexSlP (x := (Operand.tmp 141)) (i := (Operand.const (iV 1))) (p := p137) (b := b160) (off := 0) (z := 1) (len := 2) (cap := c138) (by kernel_rfl) Tryz.underlying41 6 (by kernel_rfl) 1 (by kernel_rfl) hp161 (by kernel_rfl) (by omega) (by omega) 6 (by omega) _) ?_
 obtain ⟨x162, hx163⟩ : ∃ x, (rnL (⟨2, 10, 25⟩ : Cf) (C3.1, C3.2))[1]? = some x := ⟨_, List.getElem?_eq_getElem (by rw [hn5]; omega)⟩
 have he164 := Option.some.inj (hx163.symm.trans h5); have he164a : x162.at_ = 5 := by rw [he164]
 have he164b : x162.out.1 = 1 ∧ x162.out.2.1 = 1 ∧ x162.out.2.2 = 1 ∧ x162.why = 1 ∧ x162.ans = 2 := by rw [he164]; exact ⟨rfl, rfl, rfl, rfl, rfl⟩
 refine go [.r 26 2 b160 6 [iV x162.at_, iV x162.out.1, iV x162.out.2.1, uV x162.out.2.2, iV x162.why, iV x162.ans] ⟨gv_cell (j := 3) h159 rfl (gv_sl _ _ _) hp161 (fl_get eAt_ok (j := 0) (v := iV x162.at_) hx163 rfl) 6 (by omega), gv_cell (j := 3) h159 rfl (gv_sl _ _ _) hp161 (fl_get eAt_ok (j := 1) (v := iV x162.out.1) hx163 rfl) 7 (by omega), gv_cell (j := 3) h159 rfl (gv_sl _ _ _) hp161 (fl_get eAt_ok (j := 2) (v := iV x162.out.2.1) hx163 rfl) 8 (by omega), gv_cell (j := 3) h159 rfl (gv_sl _ _ _) hp161 (fl_get eAt_ok (j := 3) (v := uV x162.out.2.2) hx163 rfl) 9 (by omega), gv_cell (j := 3) h159 rfl (gv_sl _ _ _) hp161 (fl_get eAt_ok (j := 4) (v := iV x162.why) hx163 rfl) 10 (by omega), gv_cell (j := 3) h159 rfl (gv_sl _ _ _) hp161 (fl_get eAt_ok (j := 5) (v := iV x162.ans) hx163 rfl) 11 (by omega), trivial⟩, .s 26 5] <| lwP (.bool true) (q12e74_eql_t (x := (Operand.tmp 143)) (y := (Operand.tmp 145)) x162.at_ x162.out.1 x162.out.2.1 x162.out.2.2 x162.why x162.ans 5 1 1 1 1 2 (by kernel_rfl) (by kernel_rfl) (by kernel_rfl) ⟨(by omega), (by omega), (by omega), (by omega), (by omega), (by omega)⟩ _) ?_
 obtain ⟨b165, hp166⟩ := sl_ptr0 (j := 2) h159 rfl (by omega)
 refine go [.s 26 8] <| lwP (pV b165) (law_indexSlP (x := (Operand.tmp 148)) (i := (Operand.const (iV 0))) (p := p146) (b := b165) (off := 0) (z := 0) (len := 1) (cap := c147) (by kernel_rfl) Tryz.underlying41 6 (by kernel_rfl) 0 (by kernel_rfl) hp166 (by kernel_rfl) (by omega) (by omega) 0 (by omega) _) ?_
 obtain ⟨x167, hx168⟩ : ∃ x, (rnL (⟨2, 10, 25⟩ : Cf) (X5.1, X5.2))[0]? = some x := ⟨_, List.getElem?_eq_getElem (by rw [hn6]; omega)⟩
 have he169 : x167.out.2.1 = 2 := by obtain ⟨y_, h1_, h2_⟩ := h6; rw [Option.some.inj (hx168.symm.trans h1_)]; exact h2_
 refine go [.r 26 11 b165 2 [iV x167.out.2.1] ⟨gv_cell (j := 2) h159 rfl (gv_sl _ _ _) hp166 (fl_get eAt_ok (j := 2) (v := iV x167.out.2.1) hx168 rfl) 2 (by omega), trivial⟩, .v 26 12 (qeT x167.out.2.1 2)] ?_
 exact en (.bool true) [] ⟨_, _, rfl, ⟨rfl, rfl⟩, (tk2 (sf1 (sf16 (tk17 (sf16 (sf15 (sf15 (sf15 (sf15 (sf15 (sf15 (sf15 (sf15 (sf15 (sf15 (sf15 (sf15 (sf15 (sf15 (sf16 (sf16 h159)))))))))))))))))))))⟩

theorem works_ht (wo : World) (hg : Lett wo) : HT Tryz.prog 16 [] [Old wo] (fun v K => v = Value.bool true ∧ K = [Old wo]) := works_gen wo hg wk1 wkO1 wkO2 wkO3 wk3 wkC1 wkC2 wkC3 wk5 wk6 rfl rfl rfl rfl rfl rfl rfl rfl rfl rfl wk_t wk_l3 wk_l4 wk_l5 wk_s1 wk_s2 wk_s3 wk_r5 wk_r6 wk_n5 wk_n6 wk_5 wk_6 wk_w

end Go.Proofs.YtehlamblpekmkaaGreatDoor

/- Walks, printed by my generator q13.py. -/
namespace Go.Proofs.YtehlamblpekmkaaGreatDoor
set_option maxHeartbeats 4000000 in
theorem nil_law (wo : World) (hg : Lett wo) (x0 x1 x2 x3 x4 x5 bt ba cp x9 : Int) (t mo : Int) : HT Tryz.prog 3 [.agg #[iV x0, iV x1, iV x2, iV x3, iV x4, iV x5, iV bt, iV ba, iV cp, uV x9], iV t, iV mo] [Old wo] (fun v K => v = .bool true ∧ K = [Old wo]) := by
 refine hiS Tryz.func3 Tryz.ntmps3 fun g w0 R h0 => go [] <| nP 24 [iV x0, iV x1, iV x2, iV x3, iV x4, iV x5, iV bt, iV ba, iV cp, uV x9] h0 (fun _ _ h12 => ?_)
 refine go [] <| cP Tryz.call10 (begin_ht) h12 ?_
 rintro v K _ (⟨b13, b14, rfl, rfl⟩) h16
 have h17 := ap2 h16
 refine go [] <| nP 28 [.pointer none, .pointer none] h17 (fun _ _ h20 => ?_)
 refine sP [(0, pV b13), (1, pV b14)] [pV b13, pV b14] h20 fun _ h22 => go [] <| nP 35 [.pointer none, .map none, .slice none 0 0] h22 (fun r23 _ h25 => ?_)
 refine nG (fun q_ => .slice (some ⟨q_, 0, none⟩) 2 2) 25 [.pointer none, pV r23] h25 (fun r26 _ h28 => ⟨kd [], ?_⟩)
 refine go [.v 6 4 (oJ .i64 (2 : Int) 2)] <| unS 2 <| go [.s 8 0] <| lwP (pV r26) (law_indexSl (x := (Operand.tmp 37)) (i := (Operand.tmp 39)) (b := r26) (off := 0) (z := 0) (len := 2) (cap := 2) (by kernel_rfl) Tryz.underlying36 1 (by kernel_rfl) 0 (by kernel_rfl) (by kernel_rfl) (by omega) (by omega) 0 (by omega) _) <| go [rd 8 1 0 0 1 h28] <| cl0 Tryz.call11 (due_n t mo) h28 fun _ h30 => go [rd 10 2 2 1 1 h30, rd 10 3 5 0 10 h30] <| cl0 Tryz.call12 (run_n b14 x0 x1 x2 x3 x4 x5 bt ba cp x9) h30 fun _ h32 => go [] <| cl0 Tryz.call13 (wake_n) h32 fun _ h34 => go [] <| cl0 Tryz.call14 (left_n) h34 fun _ h36 => go [] ?_
 refine cl0 Tryz.call15 (settled_n) h36 fun _ h38 => go [] <| unN <| go [.s 8 0] <| lwP (.pointer (some ⟨r26, 1, none⟩)) (law_indexSl (x := (Operand.tmp 37)) (i := (Operand.tmp 39)) (b := r26) (off := 0) (z := 1) (len := 2) (cap := 2) (by kernel_rfl) Tryz.underlying36 1 (by kernel_rfl) 1 (by kernel_rfl) (by kernel_rfl) (by omega) (by omega) 1 (by omega) _) ?_
 have h39 := tk8 (sf7 (sf6 (sf7 (sf7 (sf7 (sf7 (sf7 (sf7 h38))))))))
 refine go [rd 8 1 0 1 1 h38] <| cl1 Tryz.call11 (due_z r23 t mo) h39 fun _ h41 => go [rd 10 2 2 1 1 h41, rd 10 3 5 0 10 h41] <| cl1 Tryz.call12 (run_z r23 b14 x0 x1 x2 x3 x4 x5 bt ba cp x9) h41 fun _ h43 => go [] <| cl1 Tryz.call13 (wake_z r23) h43 fun _ h45 => go [] <| cl1 Tryz.call14 (left_z r23) h45 fun _ h47 => go [] <| cl1 Tryz.call15 (settled_z r23) h47 fun _ h49 => go [] <| unN <| go [] ?_
 refine up <| go [] <| nP 56 [Value.nilIface, Value.nilIface, Value.nilIface, Value.nilIface, .pointer none, .pointer none, iV 0] h49 (fun r50 _ h52 => ?_)
 refine nG (fun q_ => .slice (some ⟨q_, 0, none⟩) 2 2) 26 [.pointer none, pV r50] h52 (fun r53 _ h55 => ⟨kd [], ?_⟩)
 refine go [.v 17 4 (oJ .i64 (2 : Int) 2)] <| unS 2 <| go [.s 19 0] <| lwP (pV r53) (law_indexSl (x := (Operand.tmp 120)) (i := (Operand.tmp 122)) (b := r53) (off := 0) (z := 0) (len := 2) (cap := 2) (by kernel_rfl) Tryz.underlying57 1 (by kernel_rfl) 0 (by kernel_rfl) (by kernel_rfl) (by omega) (by omega) 0 (by omega) _) ?_
 have h56 := tk10 (sf9 (sf8 (sf8 (sf8 (sf8 (sf8 (sf9 (sf9 (sf9 (sf9 h55))))))))))
 refine go [rd 19 1 0 0 1 h55, rd 20 1 4 0 1 h55, rd 20 3 7 0 10 h55] <| cl1 Tryz.call12 (run_wn b13 64 ts0 x0 x1 x2 x3 x4 x5 bt ba cp x9) h56 fun _ h58 => go [] <| unN <| go [.s 19 0] <| lwP (.pointer (some ⟨r53, 1, none⟩)) (law_indexSl (x := (Operand.tmp 120)) (i := (Operand.tmp 122)) (b := r53) (off := 0) (z := 1) (len := 2) (cap := 2) (by kernel_rfl) Tryz.underlying57 1 (by kernel_rfl) 1 (by kernel_rfl) (by kernel_rfl) (by omega) (by omega) 1 (by omega) _) ?_
 have h59 := tk10 (sf9 (sf9 (sf8 (sf9 (sf9 (sf9 (sf9 (sf9 (sf9 (sf9 h58))))))))))
 refine go [rd 19 1 1 1 1 h58, rd 20 1 5 0 1 h58, rd 20 3 7 0 10 h58] <| cl2 Tryz.call12 (run_wz b13 64 r50 ts0 x0 x1 x2 x3 x4 x5 bt ba cp x9) h59 fun _ h61 => go [] <| unN <| go [] <| up ?_
 have h62 := tk10 (sf9 (sf8 (sf8 (sf8 (sf8 (sf8 (sf8 (sf8 (sf8 (sf9 h61))))))))))
 refine go [] <| cl1 Tryz.call16 (works_ht wo hg) h62 fun _ h64 => go [] ?_
 exact en (.bool true) [] ⟨_, _, rfl, ⟨rfl, rfl⟩, (tk2 (sf1 (sf9 h64)))⟩

end Go.Proofs.YtehlamblpekmkaaGreatDoor
