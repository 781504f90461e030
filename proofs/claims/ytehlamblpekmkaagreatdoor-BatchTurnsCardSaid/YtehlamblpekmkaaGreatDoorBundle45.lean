/- Walks, printed by my generator q9.py. -/
import Derived.Test.YtehlamblpekmkaaGreatDoorBundle43
import Derived.Test.YtehlamblpekmkaaGreatDoorMod
import Derived.Test.YtehlamblpekmkaaGreatDoorBundle29
namespace Go.Proofs.YtehlamblpekmkaaGreatDoor
set_option maxHeartbeats 4000000
theorem begin_ht  : HT Tryz.prog 10 [] [] (fun v K => ∃ b wb : Nat, v = .tuple #[.agg #[pV b, pV wb], .bool true] ∧ K = [TW b 64 ts0, Wd wb (wnew 1)]) := by
 refine hiS Tryz.func10 Tryz.ntmps10 fun g w0 R h0 => go [] <| nP 28 [.pointer none, .pointer none] h0 (fun _ _ h12 => ?_)
 refine go [] <| cP Tryz.call41 (tnew_w 64 1 (by omega) (by omega)) h12 ?_
 rintro v K _ (⟨b13, rfl, rfl⟩) h15
 have h16 := ap1 h15
 refine go [] <| cP Tryz.call42 (wnew_ht 1 (by omega)) h16 ?_
 rintro v K _ (⟨b17, rfl, rfl⟩) h19
 have h21 := tk4 (sf3 (sf2 (sf2 (sf3 (ap1 h19)))))
 refine go [] <| sP [(0, pV b13), (1, pV b17)] [pV b13, pV b17] h21 fun _ h23 => go [] ?_
 exact en (.tuple #[.agg #[pV b13, pV b17], .bool true]) [rd 0 0 0 0 2 h23] ⟨_, _, rfl, ⟨b13, b17, rfl, rfl⟩, (tk3 (sf2 (sf2 (sf3 (tk4 (sf3 (sf2 (sf1 (sf3 h23)))))))))⟩

theorem what_0 (n : Int) (hn : 0 ≤ n ∧ n ≤ 65535) (h : n % 3 = 0) : HT Tryz.prog 67 [.int .u16 n] [] (fun v K => v = .tuple #[iV 1, iV ((whX n))] ∧ K = []) := by
 refine hiS Tryz.func67 Tryz.ntmps67 fun g w0 R h0 => go [] <| nP 222 [iV 0, iV 0, iV 0] h0 (fun r10 _ h12 => ?_)
 refine sP [(0, iV 1), (1, iV 2), (2, iV 3)] [iV 1, iV 2, iV 3] h12 fun _ h14 => go [.s 2 1] <| lwP (.int .u16 0) (law_rem (t := 78) (x := (Operand.tmp 6)) (y := (Operand.const (.int .u16 3))) (by kernel_rfl) n 3 (by kernel_rfl) (by kernel_rfl) (by omega) (0) ((rem_ex (by omega)).trans h) _) <| lwP (pV r10) (law_indexArrK (x := (Operand.tmp 4)) (i := (Operand.tmp 7)) (b := r10) (off := 0) (z := 0) (by kernel_rfl) Tryz.underlying222 1 (by kernel_rfl) 0 (by kernel_rfl) (by kernel_rfl) (by omega) (by omega) 0 (by omega) _) ?_
 have hb15 := quo_bd (a := n) (b := 3) (by omega) (by omega)
 refine go [rd 2 3 0 0 1 h14, .s 2 5] <| lwP (.int .u16 ((n / 3))) (law_quo (t := 78) (x := (Operand.tmp 10)) (y := (Operand.const (.int .u16 3))) (by kernel_rfl) n 3 (by kernel_rfl) (by kernel_rfl) (by omega) ((n / 3)) (quo_u16 (by omega) (by omega) (by omega)) _) ?_
 have hb16 := rem_bd (a := (n / 3)) (b := 200) (by omega) (by omega)
 refine go [.v 2 6 (oIr ((n / 3))), .s 2 7] <| lwP (iV (((n / 3)) % 200)) (law_rem (t := 3) (x := (Operand.tmp 12)) (y := (Operand.const (iV 200))) (by kernel_rfl) ((n / 3)) 200 (by kernel_rfl) (by kernel_rfl) (by omega) (((n / 3)) % 200) (rem_ex (by omega)) _) <| go [.v 2 8 (oI (1 + (((n / 3)) % 200)) (((n / 3)) % 200 + 1))] ?_
 exact en (.tuple #[iV 1, iV (((n / 3)) % 200 + 1)]) [] ⟨_, _, rfl, ⟨rfl, rfl⟩, (tk1 (sf1 h14))⟩

theorem what_1 (n : Int) (hn : 0 ≤ n ∧ n ≤ 65535) (h : n % 3 = 1) : HT Tryz.prog 67 [.int .u16 n] [] (fun v K => v = .tuple #[iV 2, iV ((whX n))] ∧ K = []) := by
 refine hiS Tryz.func67 Tryz.ntmps67 fun g w0 R h0 => go [] <| nP 222 [iV 0, iV 0, iV 0] h0 (fun r10 _ h12 => ?_)
 refine sP [(0, iV 1), (1, iV 2), (2, iV 3)] [iV 1, iV 2, iV 3] h12 fun _ h14 => go [.s 2 1] <| lwP (.int .u16 1) (law_rem (t := 78) (x := (Operand.tmp 6)) (y := (Operand.const (.int .u16 3))) (by kernel_rfl) n 3 (by kernel_rfl) (by kernel_rfl) (by omega) (1) ((rem_ex (by omega)).trans h) _) <| lwP (.pointer (some ⟨r10, 1, none⟩)) (law_indexArrK (x := (Operand.tmp 4)) (i := (Operand.tmp 7)) (b := r10) (off := 0) (z := 1) (by kernel_rfl) Tryz.underlying222 1 (by kernel_rfl) 1 (by kernel_rfl) (by kernel_rfl) (by omega) (by omega) 1 (by omega) _) ?_
 have hb15 := quo_bd (a := n) (b := 3) (by omega) (by omega)
 refine go [rd 2 3 0 1 1 h14, .s 2 5] <| lwP (.int .u16 ((n / 3))) (law_quo (t := 78) (x := (Operand.tmp 10)) (y := (Operand.const (.int .u16 3))) (by kernel_rfl) n 3 (by kernel_rfl) (by kernel_rfl) (by omega) ((n / 3)) (quo_u16 (by omega) (by omega) (by omega)) _) ?_
 have hb16 := rem_bd (a := (n / 3)) (b := 200) (by omega) (by omega)
 refine go [.v 2 6 (oIr ((n / 3))), .s 2 7] <| lwP (iV (((n / 3)) % 200)) (law_rem (t := 3) (x := (Operand.tmp 12)) (y := (Operand.const (iV 200))) (by kernel_rfl) ((n / 3)) 200 (by kernel_rfl) (by kernel_rfl) (by omega) (((n / 3)) % 200) (rem_ex (by omega)) _) <| go [.v 2 8 (oI (1 + (((n / 3)) % 200)) (((n / 3)) % 200 + 1))] ?_
 exact en (.tuple #[iV 2, iV (((n / 3)) % 200 + 1)]) [] ⟨_, _, rfl, ⟨rfl, rfl⟩, (tk1 (sf1 h14))⟩

theorem what_2 (n : Int) (hn : 0 ≤ n ∧ n ≤ 65535) (h : n % 3 = 2) : HT Tryz.prog 67 [.int .u16 n] [] (fun v K => v = .tuple #[iV 3, iV ((whX n))] ∧ K = []) := by
 refine hiS Tryz.func67 Tryz.ntmps67 fun g w0 R h0 => go [] <| nP 222 [iV 0, iV 0, iV 0] h0 (fun r10 _ h12 => ?_)
 refine sP [(0, iV 1), (1, iV 2), (2, iV 3)] [iV 1, iV 2, iV 3] h12 fun _ h14 => go [.s 2 1] <| lwP (.int .u16 2) (law_rem (t := 78) (x := (Operand.tmp 6)) (y := (Operand.const (.int .u16 3))) (by kernel_rfl) n 3 (by kernel_rfl) (by kernel_rfl) (by omega) (2) ((rem_ex (by omega)).trans h) _) <| lwP (.pointer (some ⟨r10, 2, none⟩)) (law_indexArrK (x := (Operand.tmp 4)) (i := (Operand.tmp 7)) (b := r10) (off := 0) (z := 2) (by kernel_rfl) Tryz.underlying222 1 (by kernel_rfl) 2 (by kernel_rfl) (by kernel_rfl) (by omega) (by omega) 2 (by omega) _) ?_
 have hb15 := quo_bd (a := n) (b := 3) (by omega) (by omega)
 refine go [rd 2 3 0 2 1 h14, .s 2 5] <| lwP (.int .u16 ((n / 3))) (law_quo (t := 78) (x := (Operand.tmp 10)) (y := (Operand.const (.int .u16 3))) (by kernel_rfl) n 3 (by kernel_rfl) (by kernel_rfl) (by omega) ((n / 3)) (quo_u16 (by omega) (by omega) (by omega)) _) ?_
 have hb16 := rem_bd (a := (n / 3)) (b := 200) (by omega) (by omega)
 refine go [.v 2 6 (oIr ((n / 3))), .s 2 7] <| lwP (iV (((n / 3)) % 200)) (law_rem (t := 3) (x := (Operand.tmp 12)) (y := (Operand.const (iV 200))) (by kernel_rfl) ((n / 3)) 200 (by kernel_rfl) (by kernel_rfl) (by omega) (((n / 3)) % 200) (rem_ex (by omega)) _) <| go [.v 2 8 (oI (1 + (((n / 3)) % 200)) (((n / 3)) % 200 + 1))] ?_
 exact en (.tuple #[iV 3, iV (((n / 3)) % 200 + 1)]) [] ⟨_, _, rfl, ⟨rfl, rfl⟩, (tk1 (sf1 h14))⟩

theorem what_ht (n : Int) (hn : 0 ≤ n ∧ n ≤ 65535) : HT Tryz.prog 67 [Value.int IntKind.u16 n] [] (fun v K => v = Value.tuple #[Value.int IntKind.i64 ((whK n)), Value.int IntKind.i64 ((whX n))] ∧ K = []) := by
  unfold whK
  have h3 : n % 3 = 0 ∨ n % 3 = 1 ∨ n % 3 = 2 := by omega
  rcases h3 with h | h | h
  · rw [h]; exact what_0 n hn h
  · rw [h]; exact what_1 n hn h
  · rw [h]; exact what_2 n hn h

abbrev z9x1 := fun r21 (W : Wst) (n : Int) => Cl r21 [iV ((acqO W ((whK n)) ((whX n))).1), iV ((acqO W ((whK n)) ((whX n))).2.1), uV ((acqO W ((whK n)) ((whX n))).2.2)] 72
theorem open_ht (b wb : Nat) (S : Ts) (W : Wst) (n at_ : Int) (hn : 0 ≤ n ∧ n ≤ 65535) (ha : 0 ≤ at_ ∧ at_ ≤ 1000) : HT Tryz.prog 26 [.agg #[pV b, pV wb], .int .u16 n, iV at_] [TW b 64 S, Wd wb W] (fun v K => v = .tuple #[] ∧ K = [TW b 64 ((opnP (S, W) n at_).1), Wd wb ((opnP (S, W) n at_).2)]) := by
 refine hiS Tryz.func26 Tryz.ntmps26 fun g w0 R h0 => ?_
 have hk10 := tw_ok (j := 0) h0 rfl; have hk10a := hk10.rl
 have hk11 := wd_ok (j := 1) h0 rfl; have hk11a := hk11.nl; have hk11b := hk11.nh
 refine go [] <| nP 28 [pV b, pV wb] h0 (fun r12 _ h14 => ?_)
 refine go [] <| cl0 Tryz.call67 (what_ht n (by omega)) h14 fun _ h16 => ?_
 have hq17 := acqO_bd (wd_ok (j := 2) h16 rfl) ((whK n)) ((whX n)); have hq17a := hq17.1; have hq17b := hq17.2
 have h18 := tk4 (sf3 (sf2 (sf2 (sf3 h16))))
 refine go [rd 2 1 0 1 1 h16] <| cl1 Tryz.call68 (wacq_ht wb W ((whK n)) ((whX n))) h18 fun _ h20 => go [] <| nP 72 [iV 0, iV 0, uV 0] h20 (fun r21 _ h23 => ?_)
 refine sP [(0, iV ((acqO W ((whK n)) ((whX n))).1)), (1, iV ((acqO W ((whK n)) ((whX n))).2.1)), (2, uV ((acqO W ((whK n)) ((whX n))).2.2))] [iV ((acqO W ((whK n)) ((whX n))).1), iV ((acqO W ((whK n)) ((whX n))).2.1), uV ((acqO W ((whK n)) ((whX n))).2.2)] h23 fun w24 h25 => go [.s 3 1] ?_
 by_cases c26 : (acqE W ((whK n)) ((whX n))) = 0
 ·
  have hb27 := rem_bd (a := at_) (b := 256) (by omega) (by omega)
  refine go [.v 3 1 (qeT ((acqE W ((whK n)) ((whX n)))) 0), rd 4 1 2 0 1 h25, rd 4 2 0 0 3 h25, .s 4 4] <| lwP (iV ((at_ % 256))) (law_rem (t := 3) (x := (Operand.tmp 28)) (y := (Operand.const (iV 256))) (by kernel_rfl) at_ 256 (by kernel_rfl) (by kernel_rfl) (by omega) ((at_ % 256)) (rem_ex (by omega)) _) ?_
  have hb28 := quo_bd (a := at_) (b := 256) (by omega) (by omega)
  refine go [.s 4 6] <| lwP (iV ((at_ / 256))) (law_quo (t := 3) (x := (Operand.tmp 30)) (y := (Operand.const (iV 256))) (by kernel_rfl) at_ 256 (by kernel_rfl) (by kernel_rfl) (by omega) ((at_ / 256)) (quo_i64 (by omega) (by omega) (by omega)) _) ?_
  have h29 := tk5 (sf4 (sf3 (sf3 (sf3 (sf4 h25)))))
  refine go [.v 4 7 (oUr ((at_ / 256))), .v 4 8 (oU (1 + ((at_ / 256))) ((at_ / 256) + 1))] <| cl1 Tryz.call69 (topen_w b 64 S ((acqO W ((whK n)) ((whX n))).1) ((acqO W ((whK n)) ((whX n))).2.1) ((acqO W ((whK n)) ((whX n))).2.2) ((at_ % 256)) ((at_ / 256) + 1) [116] (by omega) (by omega) (by simp only [List.length_cons, List.length_nil]; omega)) h29 fun w30 h31 => ?_
  refine go [] ?_
  have h32 : sat g w30 [TW b 64 ((opnP (S, W) n at_).1), z9x1 r21 W n, Wd wb (acqS W ((whK n)) ((whX n))), Cl r12 [pV b, pV wb] 28, R] := sat_imp h31 (fun _ hh_ => by rw [show (opnS S ((acqO W ((whK n)) ((whX n))).1, (acqO W ((whK n)) ((whX n))).2.1, (acqO W ((whK n)) ((whX n))).2.2) [116] ((at_ % 256), (at_ / 256) + 1)) = ((opnP (S, W) n at_).1) from (by unfold opnP; rw [if_pos (by omega)])] at hh_; exact hh_)
  have h34 : sat g w30 [Wd wb ((opnP (S, W) n at_).2), TW b 64 ((opnP (S, W) n at_).1), z9x1 r21 W n, Cl r12 [pV b, pV wb] 28, R] := sat_imp (tk5 (sf4 (sf3 (sf3 (sf4 (sf4 h32)))))) (fun _ hh_ => by rw [show (acqS W ((whK n)) ((whX n))) = ((opnP (S, W) n at_).2) from rfl] at hh_; exact hh_)
  exact en (.tuple #[]) [] ⟨_, _, rfl, ⟨rfl, rfl⟩, (tk3 (sf2 (sf2 (sf4 (tk5 (sf4 (sf3 (sf4 (sf4 (sf4 h34))))))))))⟩
 refine go [.v 3 1 (qeF ((acqE W ((whK n)) ((whX n)))) 0)] ?_
 have h38 : sat g w24 [TW b 64 ((opnP (S, W) n at_).1), z9x1 r21 W n, Wd wb (acqS W ((whK n)) ((whX n))), Cl r12 [pV b, pV wb] 28, R] := sat_imp (tk5 (sf4 (sf3 (sf3 (sf3 (sf4 h25)))))) (fun _ hh_ => by rw [show S = ((opnP (S, W) n at_).1) from (by unfold opnP; rw [if_neg (by omega)])] at hh_; exact hh_)
 have h40 : sat g w24 [Wd wb ((opnP (S, W) n at_).2), TW b 64 ((opnP (S, W) n at_).1), z9x1 r21 W n, Cl r12 [pV b, pV wb] 28, R] := sat_imp (tk5 (sf4 (sf3 (sf3 (sf4 (sf4 h38)))))) (fun _ hh_ => by rw [show (acqS W ((whK n)) ((whX n))) = ((opnP (S, W) n at_).2) from rfl] at hh_; exact hh_)
 exact en (.tuple #[]) [] ⟨_, _, rfl, ⟨rfl, rfl⟩, (tk3 (sf2 (sf2 (sf4 (tk5 (sf4 (sf3 (sf4 (sf4 (sf4 h40))))))))))⟩

abbrev z9x2 := fun r30 (S : Ts) (n : Int) => Cl r30 [iV ((getR S ((n % (((S.R.length : Nat) : Int))) + 1)).out.1), iV ((getR S ((n % (((S.R.length : Nat) : Int))) + 1)).out.2.1), uV ((getR S ((n % (((S.R.length : Nat) : Int))) + 1)).out.2.2), iV ((getR S ((n % (((S.R.length : Nat) : Int))) + 1)).st), iV ((getR S ((n % (((S.R.length : Nat) : Int))) + 1)).why), iV ((getR S ((n % (((S.R.length : Nat) : Int))) + 1)).tr), iV ((getR S ((n % (((S.R.length : Nat) : Int))) + 1)).nx), .string (St ((getR S ((n % (((S.R.length : Nat) : Int))) + 1)).tag))] 82
abbrev z9x3 := fun r107 (S : Ts) (n : Int) (W : Wst) => Cl r107 [iV ((getR S ((n % (((S.R.length : Nat) : Int))) + 1)).out.1), iV ((getR S ((n % (((S.R.length : Nat) : Int))) + 1)).out.2.1), uV ((getR S ((n % (((S.R.length : Nat) : Int))) + 1)).out.2.2), iV 2, iV (((n / 7)) % 3 + 1), iV ((getR S ((n % (((S.R.length : Nat) : Int))) + 1)).tr), iV W.now, .string (St ((getR S ((n % (((S.R.length : Nat) : Int))) + 1)).tag))] 82
abbrev z9x4 := fun r45 (S : Ts) (n : Int) (W : Wst) => Cl r45 [iV ((getR S ((n % (((S.R.length : Nat) : Int))) + 1)).out.1), iV ((getR S ((n % (((S.R.length : Nat) : Int))) + 1)).out.2.1), uV ((getR S ((n % (((S.R.length : Nat) : Int))) + 1)).out.2.2), iV 2, iV (((n / 7)) % 3 + 1), iV ((getR S ((n % (((S.R.length : Nat) : Int))) + 1)).tr), iV W.now, .string (St ((getR S ((n % (((S.R.length : Nat) : Int))) + 1)).tag))] 82
abbrev z9x5 := fun r76 (S : Ts) (n : Int) (W : Wst) => Cl r76 [iV ((getR S ((n % (((S.R.length : Nat) : Int))) + 1)).out.1), iV ((getR S ((n % (((S.R.length : Nat) : Int))) + 1)).out.2.1), uV ((getR S ((n % (((S.R.length : Nat) : Int))) + 1)).out.2.2), iV 2, iV (((n / 7)) % 3 + 1), iV ((getR S ((n % (((S.R.length : Nat) : Int))) + 1)).tr), iV W.now, .string (St ((getR S ((n % (((S.R.length : Nat) : Int))) + 1)).tag))] 82
theorem shut_ht (b wb : Nat) (S : Ts) (W : Wst) (n : Int) (hn : 0 ≤ n ∧ n ≤ 65535) : HT Tryz.prog 28 [.agg #[pV b, pV wb], .int .u16 n] [TW b 64 S, Wd wb W] (fun v K => v = .tuple #[] ∧ K = [TW b 64 ((shuP (S, W) n).1), Wd wb ((shuP (S, W) n).2)]) := by
 refine hiS Tryz.func28 Tryz.ntmps28 fun g w0 R h0 => ?_
 have hk10 := tw_ok (j := 0) h0 rfl; have hk10a := hk10.rl
 have hk11 := wd_ok (j := 1) h0 rfl; have hk11a := hk11.nl; have hk11b := hk11.nh
 refine go [] <| nP 28 [pV b, pV wb] h0 (fun r12 _ h14 => ?_)
 have h15 := tk4 (sf3 (sf2 (sf3 (sf3 h14))))
 refine go [rd 1 1 0 0 1 h14] <| cl1 Tryz.call64 (tlen_w b 64 S) h15 fun w16 h17 => ?_
 by_cases c18 : ((S.R.length : Nat) : Int) = 0
 ·
  refine go [.v 1 3 (qeT (((S.R.length : Nat) : Int)) 0)] ?_
  have h19 : sat g w16 [TW b 64 ((shuP (S, W) n).1), Cl r12 [pV b, pV wb] 28, Wd wb W, R] := sat_imp h17 (fun _ hh_ => by rw [show S = ((shuP (S, W) n).1) from (by unfold shuP shK; simp only []; rw [if_pos (by omega)])] at hh_; exact hh_)
  have h21 : sat g w16 [Wd wb ((shuP (S, W) n).2), TW b 64 ((shuP (S, W) n).1), Cl r12 [pV b, pV wb] 28, R] := sat_imp (tk4 (sf3 (sf2 (sf2 (sf3 h19))))) (fun _ hh_ => by rw [show W = ((shuP (S, W) n).2) from rfl] at hh_; exact hh_)
  exact en (.tuple #[]) [] ⟨_, _, rfl, ⟨rfl, rfl⟩, (tk3 (sf2 (sf2 (sf3 (tk4 (sf3 (sf2 (sf3 (sf3 h21)))))))))⟩
 refine go [.v 1 3 (qeF (((S.R.length : Nat) : Int)) 0), .v 2 1 (oIr n), rd 2 3 1 0 1 h17] <| cl1 Tryz.call64 (tlen_w b 64 S) h17 fun _ h25 => ?_
 have hb26 := rem_bd (a := n) (b := ((S.R.length : Nat) : Int)) (by omega) (by omega)
 refine lwP (iV ((n % (((S.R.length : Nat) : Int))))) (law_rem (t := 3) (x := (Operand.tmp 14)) (y := (Operand.tmp 17)) (by kernel_rfl) n (((S.R.length : Nat) : Int)) (by kernel_rfl) (by kernel_rfl) (by omega) ((n % (((S.R.length : Nat) : Int)))) (rem_ex (by omega)) _) ?_
 have hg27n : nE S ((n % (((S.R.length : Nat) : Int))) + 1) = 0 := if_pos ⟨by omega, by omega⟩; have hg27 : resR (getR S ((n % (((S.R.length : Nat) : Int))) + 1)) = 0 ∧ 0 ≤ (getR S ((n % (((S.R.length : Nat) : Int))) + 1)).out.2.2 ∧ (getR S ((n % (((S.R.length : Nat) : Int))) + 1)).out.2.2 ≤ 4294967295 ∧ (getR S ((n % (((S.R.length : Nat) : Int))) + 1)).tag.length ≤ 96 := wf_get (tw_ok (j := 0) h25 rfl) hg27n; have hg27a := hg27.2.1; have hg27b := hg27.2.2.1; have hg27c := hg27.2.2.2
 refine go [.v 2 6 (oI (1 + ((n % (((S.R.length : Nat) : Int))))) ((n % (((S.R.length : Nat) : Int))) + 1)), rd 3 1 1 0 1 h25] <| cl1 Tryz.call45 ((by have h_ := tget_w b 64 S ((n % (((S.R.length : Nat) : Int))) + 1); rw [hg27n] at h_; exact h_)) h25 fun _ h29 => ?_
 refine go [] <| nP 82 [iV 0, iV 0, uV 0, iV 0, iV 0, iV 0, iV 0, .string (St [])] h29 (fun r30 _ h32 => ?_)
 refine sP [(0, iV ((getR S ((n % (((S.R.length : Nat) : Int))) + 1)).out.1)), (1, iV ((getR S ((n % (((S.R.length : Nat) : Int))) + 1)).out.2.1)), (2, uV ((getR S ((n % (((S.R.length : Nat) : Int))) + 1)).out.2.2)), (3, iV ((getR S ((n % (((S.R.length : Nat) : Int))) + 1)).st)), (4, iV ((getR S ((n % (((S.R.length : Nat) : Int))) + 1)).why)), (5, iV ((getR S ((n % (((S.R.length : Nat) : Int))) + 1)).tr)), (6, iV ((getR S ((n % (((S.R.length : Nat) : Int))) + 1)).nx)), (7, .string (St ((getR S ((n % (((S.R.length : Nat) : Int))) + 1)).tag)))] [iV ((getR S ((n % (((S.R.length : Nat) : Int))) + 1)).out.1), iV ((getR S ((n % (((S.R.length : Nat) : Int))) + 1)).out.2.1), uV ((getR S ((n % (((S.R.length : Nat) : Int))) + 1)).out.2.2), iV ((getR S ((n % (((S.R.length : Nat) : Int))) + 1)).st), iV ((getR S ((n % (((S.R.length : Nat) : Int))) + 1)).why), iV ((getR S ((n % (((S.R.length : Nat) : Int))) + 1)).tr), iV ((getR S ((n % (((S.R.length : Nat) : Int))) + 1)).nx), .string (St ((getR S ((n % (((S.R.length : Nat) : Int))) + 1)).tag))] h32 fun _ h34 => go [] <| dw (fls [0, 1, 2, 3, 4, 5, 6, 7] (Tr.an2 8 (Tr.an2 9 (fls [10, 11, 12] (Tr.an 13 (Tr.an 14 (Tr.fl 15 Tr.nil)))) 13 (Tr.an 9 (fls [10, 11, 12] (Tr.an 14 (Tr.fl 15 Tr.nil))))) 13 (Tr.an 8 (Tr.an 9 (fls [10, 11, 12] (Tr.an 14 (Tr.fl 15 Tr.nil))))))) h34 fun _ h36 => ?_
 have hb37 := quo_bd (a := n) (b := 7) (by omega) (by omega)
 refine go [rd 4 0 0 0 8 h36, .s 4 2] <| lw (.int .u16 ((n / 7))) (fun _ => law_quo (t := 78) (x := (Operand.tmp 29)) (y := (Operand.const (.int .u16 7))) (by kernel_rfl) n 7 (by kernel_rfl) (by kernel_rfl) (by omega) ((n / 7)) (quo_u16 (by omega) (by omega) (by omega)) _) ?_
 have hb38 := rem_bd (a := (n / 7)) (b := 3) (by omega) (by omega)
 refine go [.v 4 3 (oIr ((n / 7))), .s 4 4] <| lw (iV (((n / 7)) % 3)) (fun _ => law_rem (t := 3) (x := (Operand.tmp 31)) (y := (Operand.const (iV 3))) (by kernel_rfl) ((n / 7)) 3 (by kernel_rfl) (by kernel_rfl) (by omega) (((n / 7)) % 3) (rem_ex (by omega)) _) <| go [.v 4 5 (oI (1 + (((n / 7)) % 3)) (((n / 7)) % 3 + 1)), rd 4 7 2 1 1 h36] ?_
 refine br2 ?_ ?_
 ·
  refine cw1 Tryz.call38 (wnow_ht wb W) (tk5 (sf4 (sf3 (sf3 (sf3 (sf4 h36)))))) fun _ h41 => ⟨kd [rd 0 0 1 0 8 h41], ?_⟩
  refine br2 ?_ ?_
  ·
   by_cases c42 : (getR S ((n % (((S.R.length : Nat) : Int))) + 1)).st = 1
   ·
    refine cw0 Tryz.call52 (rclo_ok (getR S ((n % (((S.R.length : Nat) : Int))) + 1)) hg27.1 (by omega) (by omega) (((n / 7)) % 3 + 1) W.now (by omega) (by omega) (by omega)) h41 fun _ h44 => ⟨kd [], ?_⟩
    refine go [] <| nG (fun q_ => pV q_) 82 [iV 0, iV 0, uV 0, iV 0, iV 0, iV 0, iV 0, .string (St [])] h44 (fun r45 _ h47 => ⟨kd [], ?_⟩)
    refine sG [(0, iV ((getR S ((n % (((S.R.length : Nat) : Int))) + 1)).out.1)), (1, iV ((getR S ((n % (((S.R.length : Nat) : Int))) + 1)).out.2.1)), (2, uV ((getR S ((n % (((S.R.length : Nat) : Int))) + 1)).out.2.2)), (3, iV 2), (4, iV (((n / 7)) % 3 + 1)), (5, iV ((getR S ((n % (((S.R.length : Nat) : Int))) + 1)).tr)), (6, iV W.now), (7, .string (St ((getR S ((n % (((S.R.length : Nat) : Int))) + 1)).tag)))] [iV ((getR S ((n % (((S.R.length : Nat) : Int))) + 1)).out.1), iV ((getR S ((n % (((S.R.length : Nat) : Int))) + 1)).out.2.1), uV ((getR S ((n % (((S.R.length : Nat) : Int))) + 1)).out.2.2), iV 2, iV (((n / 7)) % 3 + 1), iV ((getR S ((n % (((S.R.length : Nat) : Int))) + 1)).tr), iV W.now, .string (St ((getR S ((n % (((S.R.length : Nat) : Int))) + 1)).tag))] h47 fun _ h49 => ⟨kd [], ?_⟩
    have h52 := tk6 (sf5 (sf4 (sf4 (sf4 (sf5 (sf5 h49))))))
    refine go [rd 6 1 4 0 1 h49] <| cP Tryz.call53 (texp_w b 64 S ((n % (((S.R.length : Nat) : Int))) + 1)) h52 ?_
    rintro v K _ (⟨p50, c51, rfl, rfl⟩) h54
    have h55 := ap2 h54
    refine go [rd 7 1 5 0 1 h55, rd 7 3 2 0 8 h55] <| cl1 Tryz.call54 (tset_w b 64 (expS S ((n % (((S.R.length : Nat) : Int))) + 1)) ((n % (((S.R.length : Nat) : Int))) + 1) ((getR S ((n % (((S.R.length : Nat) : Int))) + 1)).out.1) ((getR S ((n % (((S.R.length : Nat) : Int))) + 1)).out.2.1) ((getR S ((n % (((S.R.length : Nat) : Int))) + 1)).out.2.2) 2 (((n / 7)) % 3 + 1) ((getR S ((n % (((S.R.length : Nat) : Int))) + 1)).tr) W.now ((getR S ((n % (((S.R.length : Nat) : Int))) + 1)).tag) (by omega) (by omega) (by omega)) h55 fun w56 h57 => go [] ?_
    have h58 : sat g w56 [TW b 64 ((shuP (S, W) n).1), Sl 144 3 p50 (((descs S.E ((n % (((S.R.length : Nat) : Int))) + 1)).length)) c51 (fl eO (descs S.E ((n % (((S.R.length : Nat) : Int))) + 1))), z9x4 r45 S n W, Wd wb W, z9x2 r30 S n, Cl r12 [pV b, pV wb] 28, R] := sat_imp h57 (fun _ hh_ => by rw [show (setS (expS S ((n % (((S.R.length : Nat) : Int))) + 1)) ((n % (((S.R.length : Nat) : Int))) + 1) ⟨((getR S ((n % (((S.R.length : Nat) : Int))) + 1)).out.1, (getR S ((n % (((S.R.length : Nat) : Int))) + 1)).out.2.1, (getR S ((n % (((S.R.length : Nat) : Int))) + 1)).out.2.2), 2, ((n / 7)) % 3 + 1, (getR S ((n % (((S.R.length : Nat) : Int))) + 1)).tr, W.now, (getR S ((n % (((S.R.length : Nat) : Int))) + 1)).tag⟩) = ((shuP (S, W) n).1) from (by unfold shuP shK; simp only []; rw [if_neg (by omega), if_pos (by omega)]; rfl)] at hh_; exact hh_)
    have h60 : sat g w56 [Wd wb ((shuP (S, W) n).2), TW b 64 ((shuP (S, W) n).1), Sl 144 3 p50 (((descs S.E ((n % (((S.R.length : Nat) : Int))) + 1)).length)) c51 (fl eO (descs S.E ((n % (((S.R.length : Nat) : Int))) + 1))), z9x4 r45 S n W, z9x2 r30 S n, Cl r12 [pV b, pV wb] 28, R] := sat_imp (tk7 (sf6 (sf5 (sf5 (sf5 (sf6 (sf6 (sf6 h58)))))))) (fun _ hh_ => by rw [show W = ((shuP (S, W) n).2) from rfl] at hh_; exact hh_)
    exact en (.tuple #[]) [] ⟨_, _, rfl, ⟨rfl, rfl⟩, (tk3 (sf2 (sf2 (sf6 (tk7 (sf6 (sf5 (sf6 (sf6 (sf6 (sf6 (sf6 h60))))))))))))⟩
   refine cw0 Tryz.call52 (rclo_no (getR S ((n % (((S.R.length : Nat) : Int))) + 1)) hg27.1 (by omega) (by omega) (((n / 7)) % 3 + 1) W.now (by omega) (by omega) (by omega)) h41 fun _ h64 => ⟨kd [], ?_⟩
   refine go [] <| nG (fun q_ => pV q_) 82 [iV 0, iV 0, uV 0, iV 0, iV 0, iV 0, iV 0, .string (St [])] h64 (fun r65 _ h67 => ⟨kd [], ?_⟩)
   refine sG [(0, iV 0), (1, iV 0), (2, uV 0), (3, iV 0), (4, iV 0), (5, iV 0), (6, iV 0), (7, .string (St []))] [iV 0, iV 0, uV 0, iV 0, iV 0, iV 0, iV 0, .string (St [])] h67 fun w68 h69 => ⟨kd [], ?_⟩
   refine go [] ?_
   have h71 : sat g w68 [TW b 64 ((shuP (S, W) n).1), Cl r65 [iV 0, iV 0, uV 0, iV 0, iV 0, iV 0, iV 0, .string (St [])] 82, Wd wb W, z9x2 r30 S n, Cl r12 [pV b, pV wb] 28, R] := sat_imp (tk6 (sf5 (sf4 (sf4 (sf4 (sf5 (sf5 h69))))))) (fun _ hh_ => by rw [show S = ((shuP (S, W) n).1) from (by unfold shuP shK; simp only []; rw [if_neg (by omega), if_neg (by omega)])] at hh_; exact hh_)
   have h73 : sat g w68 [Wd wb ((shuP (S, W) n).2), TW b 64 ((shuP (S, W) n).1), Cl r65 [iV 0, iV 0, uV 0, iV 0, iV 0, iV 0, iV 0, .string (St [])] 82, z9x2 r30 S n, Cl r12 [pV b, pV wb] 28, R] := sat_imp (tk6 (sf5 (sf4 (sf4 (sf5 (sf5 (sf5 h71))))))) (fun _ hh_ => by rw [show W = ((shuP (S, W) n).2) from rfl] at hh_; exact hh_)
   exact en (.tuple #[]) [] ⟨_, _, rfl, ⟨rfl, rfl⟩, (tk3 (sf2 (sf2 (sf5 (tk6 (sf5 (sf4 (sf5 (sf5 (sf5 (sf5 h73)))))))))))⟩
  refine nG (fun q_ => pV q_) 82 [iV 0, iV 0, uV 0, iV 0, iV 0, iV 0, iV 0, .string (St [])] h41 (fun r76 _ h78 => ⟨kd [rd 0 0 2 0 8 h78], ?_⟩)
  by_cases c79 : (getR S ((n % (((S.R.length : Nat) : Int))) + 1)).st = 1
  ·
   refine cw0 Tryz.call52 (rclo_ok (getR S ((n % (((S.R.length : Nat) : Int))) + 1)) hg27.1 (by omega) (by omega) (((n / 7)) % 3 + 1) W.now (by omega) (by omega) (by omega)) h78 fun _ h81 => ⟨kd [], ?_⟩
   refine go [] <| sG [(0, iV ((getR S ((n % (((S.R.length : Nat) : Int))) + 1)).out.1)), (1, iV ((getR S ((n % (((S.R.length : Nat) : Int))) + 1)).out.2.1)), (2, uV ((getR S ((n % (((S.R.length : Nat) : Int))) + 1)).out.2.2)), (3, iV 2), (4, iV (((n / 7)) % 3 + 1)), (5, iV ((getR S ((n % (((S.R.length : Nat) : Int))) + 1)).tr)), (6, iV W.now), (7, .string (St ((getR S ((n % (((S.R.length : Nat) : Int))) + 1)).tag)))] [iV ((getR S ((n % (((S.R.length : Nat) : Int))) + 1)).out.1), iV ((getR S ((n % (((S.R.length : Nat) : Int))) + 1)).out.2.1), uV ((getR S ((n % (((S.R.length : Nat) : Int))) + 1)).out.2.2), iV 2, iV (((n / 7)) % 3 + 1), iV ((getR S ((n % (((S.R.length : Nat) : Int))) + 1)).tr), iV W.now, .string (St ((getR S ((n % (((S.R.length : Nat) : Int))) + 1)).tag))] h81 fun _ h83 => ⟨kd [], ?_⟩
   have h86 := tk6 (sf5 (sf4 (sf4 (sf4 (sf5 (sf5 h83))))))
   refine go [rd 6 1 4 0 1 h83] <| cP Tryz.call53 (texp_w b 64 S ((n % (((S.R.length : Nat) : Int))) + 1)) h86 ?_
   rintro v K _ (⟨p84, c85, rfl, rfl⟩) h88
   have h89 := ap2 h88
   refine go [rd 7 1 5 0 1 h89, rd 7 3 2 0 8 h89] <| cl1 Tryz.call54 (tset_w b 64 (expS S ((n % (((S.R.length : Nat) : Int))) + 1)) ((n % (((S.R.length : Nat) : Int))) + 1) ((getR S ((n % (((S.R.length : Nat) : Int))) + 1)).out.1) ((getR S ((n % (((S.R.length : Nat) : Int))) + 1)).out.2.1) ((getR S ((n % (((S.R.length : Nat) : Int))) + 1)).out.2.2) 2 (((n / 7)) % 3 + 1) ((getR S ((n % (((S.R.length : Nat) : Int))) + 1)).tr) W.now ((getR S ((n % (((S.R.length : Nat) : Int))) + 1)).tag) (by omega) (by omega) (by omega)) h89 fun w90 h91 => go [] ?_
   have h92 : sat g w90 [TW b 64 ((shuP (S, W) n).1), Sl 144 3 p84 (((descs S.E ((n % (((S.R.length : Nat) : Int))) + 1)).length)) c85 (fl eO (descs S.E ((n % (((S.R.length : Nat) : Int))) + 1))), z9x5 r76 S n W, Wd wb W, z9x2 r30 S n, Cl r12 [pV b, pV wb] 28, R] := sat_imp h91 (fun _ hh_ => by rw [show (setS (expS S ((n % (((S.R.length : Nat) : Int))) + 1)) ((n % (((S.R.length : Nat) : Int))) + 1) ⟨((getR S ((n % (((S.R.length : Nat) : Int))) + 1)).out.1, (getR S ((n % (((S.R.length : Nat) : Int))) + 1)).out.2.1, (getR S ((n % (((S.R.length : Nat) : Int))) + 1)).out.2.2), 2, ((n / 7)) % 3 + 1, (getR S ((n % (((S.R.length : Nat) : Int))) + 1)).tr, W.now, (getR S ((n % (((S.R.length : Nat) : Int))) + 1)).tag⟩) = ((shuP (S, W) n).1) from (by unfold shuP shK; simp only []; rw [if_neg (by omega), if_pos (by omega)]; rfl)] at hh_; exact hh_)
   have h94 : sat g w90 [Wd wb ((shuP (S, W) n).2), TW b 64 ((shuP (S, W) n).1), Sl 144 3 p84 (((descs S.E ((n % (((S.R.length : Nat) : Int))) + 1)).length)) c85 (fl eO (descs S.E ((n % (((S.R.length : Nat) : Int))) + 1))), z9x5 r76 S n W, z9x2 r30 S n, Cl r12 [pV b, pV wb] 28, R] := sat_imp (tk7 (sf6 (sf5 (sf5 (sf5 (sf6 (sf6 (sf6 h92)))))))) (fun _ hh_ => by rw [show W = ((shuP (S, W) n).2) from rfl] at hh_; exact hh_)
   exact en (.tuple #[]) [] ⟨_, _, rfl, ⟨rfl, rfl⟩, (tk3 (sf2 (sf2 (sf6 (tk7 (sf6 (sf5 (sf6 (sf6 (sf6 (sf6 (sf6 h94))))))))))))⟩
  refine cw0 Tryz.call52 (rclo_no (getR S ((n % (((S.R.length : Nat) : Int))) + 1)) hg27.1 (by omega) (by omega) (((n / 7)) % 3 + 1) W.now (by omega) (by omega) (by omega)) h78 fun _ h98 => ⟨kd [], ?_⟩
  refine go [] <| sG [(0, iV 0), (1, iV 0), (2, uV 0), (3, iV 0), (4, iV 0), (5, iV 0), (6, iV 0), (7, .string (St []))] [iV 0, iV 0, uV 0, iV 0, iV 0, iV 0, iV 0, .string (St [])] h98 fun w99 h100 => ⟨kd [], ?_⟩
  refine go [] ?_
  have h102 : sat g w99 [TW b 64 ((shuP (S, W) n).1), Cl r76 [iV 0, iV 0, uV 0, iV 0, iV 0, iV 0, iV 0, .string (St [])] 82, Wd wb W, z9x2 r30 S n, Cl r12 [pV b, pV wb] 28, R] := sat_imp (tk6 (sf5 (sf4 (sf4 (sf4 (sf5 (sf5 h100))))))) (fun _ hh_ => by rw [show S = ((shuP (S, W) n).1) from (by unfold shuP shK; simp only []; rw [if_neg (by omega), if_neg (by omega)])] at hh_; exact hh_)
  have h104 : sat g w99 [Wd wb ((shuP (S, W) n).2), TW b 64 ((shuP (S, W) n).1), Cl r76 [iV 0, iV 0, uV 0, iV 0, iV 0, iV 0, iV 0, .string (St [])] 82, z9x2 r30 S n, Cl r12 [pV b, pV wb] 28, R] := sat_imp (tk6 (sf5 (sf4 (sf4 (sf5 (sf5 (sf5 h102))))))) (fun _ hh_ => by rw [show W = ((shuP (S, W) n).2) from rfl] at hh_; exact hh_)
  exact en (.tuple #[]) [] ⟨_, _, rfl, ⟨rfl, rfl⟩, (tk3 (sf2 (sf2 (sf5 (tk6 (sf5 (sf4 (sf5 (sf5 (sf5 (sf5 h104)))))))))))⟩
 refine nG (fun q_ => pV q_) 82 [iV 0, iV 0, uV 0, iV 0, iV 0, iV 0, iV 0, .string (St [])] h36 (fun r107 _ h109 => ⟨kd [rd 0 7 3 1 1 h109, rd 0 0 1 0 8 h109], ?_⟩)
 refine cw1 Tryz.call38 (wnow_ht wb W) (tk6 (sf5 (sf4 (sf4 (sf4 (sf4 (sf5 h109))))))) fun _ h112 => ⟨kd [rd 0 0 2 0 8 h112], ?_⟩
 by_cases c113 : (getR S ((n % (((S.R.length : Nat) : Int))) + 1)).st = 1
 ·
  refine cw0 Tryz.call52 (rclo_ok (getR S ((n % (((S.R.length : Nat) : Int))) + 1)) hg27.1 (by omega) (by omega) (((n / 7)) % 3 + 1) W.now (by omega) (by omega) (by omega)) h112 fun _ h115 => ⟨kd [], ?_⟩
  have h116 := tk6 (sf5 (sf4 (sf5 (sf5 (sf5 (sf5 h115))))))
  refine go [] <| sG [(0, iV ((getR S ((n % (((S.R.length : Nat) : Int))) + 1)).out.1)), (1, iV ((getR S ((n % (((S.R.length : Nat) : Int))) + 1)).out.2.1)), (2, uV ((getR S ((n % (((S.R.length : Nat) : Int))) + 1)).out.2.2)), (3, iV 2), (4, iV (((n / 7)) % 3 + 1)), (5, iV ((getR S ((n % (((S.R.length : Nat) : Int))) + 1)).tr)), (6, iV W.now), (7, .string (St ((getR S ((n % (((S.R.length : Nat) : Int))) + 1)).tag)))] [iV ((getR S ((n % (((S.R.length : Nat) : Int))) + 1)).out.1), iV ((getR S ((n % (((S.R.length : Nat) : Int))) + 1)).out.2.1), uV ((getR S ((n % (((S.R.length : Nat) : Int))) + 1)).out.2.2), iV 2, iV (((n / 7)) % 3 + 1), iV ((getR S ((n % (((S.R.length : Nat) : Int))) + 1)).tr), iV W.now, .string (St ((getR S ((n % (((S.R.length : Nat) : Int))) + 1)).tag))] h116 fun _ h118 => ⟨kd [], ?_⟩
  have h121 := tk6 (sf5 (sf4 (sf4 (sf4 (sf5 (sf5 h118))))))
  refine go [rd 6 1 4 0 1 h118] <| cP Tryz.call53 (texp_w b 64 S ((n % (((S.R.length : Nat) : Int))) + 1)) h121 ?_
  rintro v K _ (⟨p119, c120, rfl, rfl⟩) h123
  have h124 := ap2 h123
  refine go [rd 7 1 5 0 1 h124, rd 7 3 2 0 8 h124] <| cl1 Tryz.call54 (tset_w b 64 (expS S ((n % (((S.R.length : Nat) : Int))) + 1)) ((n % (((S.R.length : Nat) : Int))) + 1) ((getR S ((n % (((S.R.length : Nat) : Int))) + 1)).out.1) ((getR S ((n % (((S.R.length : Nat) : Int))) + 1)).out.2.1) ((getR S ((n % (((S.R.length : Nat) : Int))) + 1)).out.2.2) 2 (((n / 7)) % 3 + 1) ((getR S ((n % (((S.R.length : Nat) : Int))) + 1)).tr) W.now ((getR S ((n % (((S.R.length : Nat) : Int))) + 1)).tag) (by omega) (by omega) (by omega)) h124 fun w125 h126 => go [] ?_
  have h127 : sat g w125 [TW b 64 ((shuP (S, W) n).1), Sl 144 3 p119 (((descs S.E ((n % (((S.R.length : Nat) : Int))) + 1)).length)) c120 (fl eO (descs S.E ((n % (((S.R.length : Nat) : Int))) + 1))), z9x3 r107 S n W, Wd wb W, z9x2 r30 S n, Cl r12 [pV b, pV wb] 28, R] := sat_imp h126 (fun _ hh_ => by rw [show (setS (expS S ((n % (((S.R.length : Nat) : Int))) + 1)) ((n % (((S.R.length : Nat) : Int))) + 1) ⟨((getR S ((n % (((S.R.length : Nat) : Int))) + 1)).out.1, (getR S ((n % (((S.R.length : Nat) : Int))) + 1)).out.2.1, (getR S ((n % (((S.R.length : Nat) : Int))) + 1)).out.2.2), 2, ((n / 7)) % 3 + 1, (getR S ((n % (((S.R.length : Nat) : Int))) + 1)).tr, W.now, (getR S ((n % (((S.R.length : Nat) : Int))) + 1)).tag⟩) = ((shuP (S, W) n).1) from (by unfold shuP shK; simp only []; rw [if_neg (by omega), if_pos (by omega)]; rfl)] at hh_; exact hh_)
  have h129 : sat g w125 [Wd wb ((shuP (S, W) n).2), TW b 64 ((shuP (S, W) n).1), Sl 144 3 p119 (((descs S.E ((n % (((S.R.length : Nat) : Int))) + 1)).length)) c120 (fl eO (descs S.E ((n % (((S.R.length : Nat) : Int))) + 1))), z9x3 r107 S n W, z9x2 r30 S n, Cl r12 [pV b, pV wb] 28, R] := sat_imp (tk7 (sf6 (sf5 (sf5 (sf5 (sf6 (sf6 (sf6 h127)))))))) (fun _ hh_ => by rw [show W = ((shuP (S, W) n).2) from rfl] at hh_; exact hh_)
  exact en (.tuple #[]) [] ⟨_, _, rfl, ⟨rfl, rfl⟩, (tk3 (sf2 (sf2 (sf6 (tk7 (sf6 (sf5 (sf6 (sf6 (sf6 (sf6 (sf6 h129))))))))))))⟩
 refine cw0 Tryz.call52 (rclo_no (getR S ((n % (((S.R.length : Nat) : Int))) + 1)) hg27.1 (by omega) (by omega) (((n / 7)) % 3 + 1) W.now (by omega) (by omega) (by omega)) h112 fun _ h133 => ⟨kd [], ?_⟩
 have h134 := tk6 (sf5 (sf4 (sf5 (sf5 (sf5 (sf5 h133))))))
 refine go [] <| sG [(0, iV 0), (1, iV 0), (2, uV 0), (3, iV 0), (4, iV 0), (5, iV 0), (6, iV 0), (7, .string (St []))] [iV 0, iV 0, uV 0, iV 0, iV 0, iV 0, iV 0, .string (St [])] h134 fun w135 h136 => ⟨kd [], ?_⟩
 refine go [] ?_
 have h138 : sat g w135 [TW b 64 ((shuP (S, W) n).1), Cl r107 [iV 0, iV 0, uV 0, iV 0, iV 0, iV 0, iV 0, .string (St [])] 82, Wd wb W, z9x2 r30 S n, Cl r12 [pV b, pV wb] 28, R] := sat_imp (tk6 (sf5 (sf4 (sf4 (sf4 (sf5 (sf5 h136))))))) (fun _ hh_ => by rw [show S = ((shuP (S, W) n).1) from (by unfold shuP shK; simp only []; rw [if_neg (by omega), if_neg (by omega)])] at hh_; exact hh_)
 have h140 : sat g w135 [Wd wb ((shuP (S, W) n).2), TW b 64 ((shuP (S, W) n).1), Cl r107 [iV 0, iV 0, uV 0, iV 0, iV 0, iV 0, iV 0, .string (St [])] 82, z9x2 r30 S n, Cl r12 [pV b, pV wb] 28, R] := sat_imp (tk6 (sf5 (sf4 (sf4 (sf5 (sf5 (sf5 h138))))))) (fun _ hh_ => by rw [show W = ((shuP (S, W) n).2) from rfl] at hh_; exact hh_)
 exact en (.tuple #[]) [] ⟨_, _, rfl, ⟨rfl, rfl⟩, (tk3 (sf2 (sf2 (sf5 (tk6 (sf5 (sf4 (sf5 (sf5 (sf5 (sf5 h140)))))))))))⟩

theorem answers_ht (n : Int) (hn : 0 ≤ n ∧ n ≤ 65535) : HT Tryz.prog 33 [.int .u16 n] [] (fun v K => v = .string (St (ansW n)) ∧ K = []) := by
 refine hiS Tryz.func33 Tryz.ntmps33 fun g w0 R h0 => go [] ?_
 have h10 : sat g w0 [Sl 5 1 none 0 0 (fl eB []), R] := sl_nil 5 1 h0
 refine lpS (fun mz_ a w => ∃ i : Nat, ∃ p : Option Addr, ∃ k : Nat, ∃ c : Nat, ∃ acc : List UInt8, ∃ f : Nat, ∃ nn : Int, ∃ lr : Fr, mz_ = 8 - i ∧ (i + f = 8) ∧ (k = i) ∧ (0 ≤ nn ∧ nn ≤ 65535) ∧ (ansW n = acc ++ ansF f (i : Int) nn) ∧ a = mk 25 (([(0, .int .u16 nn), (3, .slice p k c), (4, iV (i : Int))] : Fr) ++ lr) ∧ sat g w [Sl 5 1 p k c (fl eB acc), R]) ((8 - 0)) ⟨0, none, 0, 0, [], 8, n, _, rfl, (by omega), (by omega), (by omega), rfl, (lvF [.k 0 (.int .u16 n), .k 3 (.slice none 0 0), .o 4 (oJ .i64 0 (0 : Int))]), h10⟩ ?_
 rintro m12 a13 w14 ⟨i, p, k, c, acc, f, nn, lr11, rfl, hif_, hk_, hnn_, hL_, rfl, h15⟩
 refine ga ?_
 have hb16 := rem_bd (a := nn) (b := 7) (by omega) (by omega)
 refine go [.s 3 2] <| lwP (.int .u16 ((nn % 7))) (law_rem (t := 78) (x := (Operand.tmp 6)) (y := (Operand.const (.int .u16 7))) (by kernel_rfl) nn 7 (by kernel_rfl) (by kernel_rfl) (by omega) ((nn % 7)) (rem_ex (by omega)) _) <| go [.v 3 3 (oIr ((nn % 7))), .s 3 4] ?_
 by_cases c17 : (i : Int) < (nn % 7)
 ·
  have hb18 := quo_bd (a := nn) (b := 7) (by omega) (by omega)
  refine go [.v 3 4 (oT ((i : Int) < (nn % 7))), .s 5 2] <| lwP (.int .u16 ((nn / 7))) (law_quo (t := 78) (x := (Operand.tmp 13)) (y := (Operand.const (.int .u16 7))) (by kernel_rfl) nn 7 (by kernel_rfl) (by kernel_rfl) (by omega) ((nn / 7)) (quo_u16 (by omega) (by omega) (by omega)) _) ?_
  have hb19 := rem_bd (a := (nn / 7)) (b := 5) (by omega) (by omega)
  refine go [.v 5 3 (oIr ((nn / 7))), .s 5 4] <| lwP (iV (((nn / 7)) % 5)) (law_rem (t := 3) (x := (Operand.tmp 15)) (y := (Operand.const (iV 5))) (by kernel_rfl) ((nn / 7)) 5 (by kernel_rfl) (by kernel_rfl) (by omega) (((nn / 7)) % 5) (rem_ex (by omega)) _) ?_
  obtain ⟨kk20, hk21⟩ : ∃ z_ : Nat, ((nn / 7)) % 5 = (z_ : Int) := ⟨(((nn / 7)) % 5).toNat, by omega⟩
  obtain ⟨x22, hx23⟩ : ∃ x, ([111, 108, 108, 108, 102] : List UInt8)[kk20]? = some x := ⟨_, List.getElem?_eq_getElem (by simp only [List.length_cons, List.length_nil]; omega)⟩
  have hb24 := u8_lt x22
  refine lwP (yV (((x22.toNat : Nat) : Int))) (law_idxStr (x := (Operand.const (.string (St [111, 108, 108, 108, 102])))) (i := (Operand.tmp 16)) (k := .i64) (s := [111, 108, 108, 108, 102]) (z := (((nn / 7)) % 5)) (b := x22) (by kernel_rfl) Tryz.underlying9 (by kernel_rfl) (by kernel_rfl) kk20 (by omega) hx23 _) <| nG (fun q_ => .slice (some ⟨q_, 0, none⟩) 1 1) 5 [yV (((x22.toNat : Nat) : Int))] h15 (fun r25 _ h27 => ⟨kd [], ?_⟩)
  have h28 := tk3 (sf2 (sf1 (sf2 h27)))
  refine actG ?_
  refine an_append (d := 19) (sz := 1) (s := (Operand.tmp 12)) (x := (Operand.tmp 18)) (z := yV 0) (p := p) (m := k) (c := c) (k := 1) (c2 := 1) (a := ⟨r25, 0, none⟩) (by_ := 1) (by kernel_rfl) (by kernel_rfl) rfl Tryz.underlying161 (by kernel_rfl) rfl (by decide) (by kernel_rfl) (by kernel_rfl) h28 (fl eB [x22]) rfl (fun j u hj => by rw [add_off]; exact sat_cell h28 1 rfl (by rw [Nat.zero_add]; exact hj)) (fl_one eB_ok _) (by omega) (by omega) (k + 1) (by omega) ?_
  intro p29 cap30 w31 h32
  have h33 : sat g w31 [Sl 5 1 p29 (k + 1) cap30 (fl eB (acc ++ [x22])), Cl r25 [yV (((x22.toNat : Nat) : Int))] 5, R] := sat_imp h32 (fun _ hh => by rw [fl_app]; exact hh)
  obtain ⟨hn34, hn35⟩ := sl_le h33
  refine nxA ?_
  have hb36 := quo_bd (a := nn) (b := 2) (by omega) (by omega)
  refine go [.s 6 1] <| lwP (.int .u16 ((nn / 2))) (law_quo (t := 78) (x := (Operand.tmp 20)) (y := (Operand.const (.int .u16 2))) (by kernel_rfl) nn 2 (by kernel_rfl) (by kernel_rfl) (by omega) ((nn / 2)) (quo_u16 (by omega) (by omega) (by omega)) _) <| go [.v 6 2 (⟨.int .u16 (IntKind.wrap .u16 (((nn / 2)) + 3)), .int .u16 ((nn / 2) + 3), (ov_u16 (by omega) (by omega) (by omega))⟩), .v 4 1 (oIr ((i : Int) + 1))] ?_
  refine enL ?_
  have h38 := tk2 (tk3 (sf2 (sf2 (sf1 h33))))
  change ∃ n', n' < _ ∧ _
  refine ⟨(8 - (i + 1)), by omega, (i + 1), p29, (k + 1), cap30, (acc ++ [x22]), (f - 1), (nn / 2) + 3, _, rfl, (by omega), (by omega), (by omega), (ansF_go (L0 := ansW n) (by rw [show f - 1 + 1 = f from by omega]; exact hL_) (by omega) (by rw [show (nn / 7 % 5).toNat = kk20 from by omega]; exact hx23)), (lvF [.k 0 (.int .u16 ((nn / 2) + 3)), .k 3 (.slice p29 (k + 1) cap30), .o 4 (oJ .i64 ((i : Int) + 1) ((((i + 1) : Nat) : Int)))]), h38⟩
 refine go [.v 3 4 (oF ((i : Int) < (nn % 7)))] <| up ?_
 have hl39 := fl_n eB_ok (by decide) h15
 refine go [.s 7 1] <| lwP (.string (St acc)) (law_bts (x := (Operand.tmp 23)) (p := p) (m := k) (c := c) (by kernel_rfl) Tryz.underlying161 Tryz.underlying5 Tryz.underlying9 (by kernel_rfl) 0 h15 rfl (gv_sl _ _ _) hl39) <| go [] ?_
 have he_ := ansF_end hL_ (by omega)
 exact en (.string (St acc)) [] ⟨_, _, rfl, ⟨by rw [he_], rfl⟩, (tk1 (sf1 h15))⟩

end Go.Proofs.YtehlamblpekmkaaGreatDoor

/- Walks, printed by my generator q10.py. -/
namespace Go.Proofs.YtehlamblpekmkaaGreatDoor
set_option maxHeartbeats 4000000
structure MdC where
  pd : Option Addr
  cd : Nat
  pw : Option Addr
  cw : Nat
  pi : Option Addr
  ci : Nat
  pt : Option Addr
  ct : Nat
  pl : Option Addr
  cl : Nat
  m : Md
def eMd (q : Cf) (x : MdC) : List Value := [.int .i64 x.m.now, .slice x.pd x.m.due.length x.cd, .slice x.pw x.m.was.length x.cw, .slice x.pi x.m.is.length x.ci, .slice x.pt x.m.tr.length x.ct, .int .i64 (x.m.inl.length : Int), .slice x.pl x.m.inl.length x.cl, .int .i64 0, .int .i64 0, .int .i64 0, .int .i64 0, .int .i64 0, .int .i64 0, .int .i64 q.bt, .int .i64 q.ba, .int .i64 q.cp, .int .u32 0]
theorem eMd_ok (q : Cf) : Enc 17 (eMd q) := ⟨fun _ => rfl, fun x v hv => by simp [eMd] at hv; rcases hv with rfl | rfl | rfl | rfl | rfl | rfl | rfl | rfl | rfl | rfl | rfl | rfl <;> rfl⟩
def rowM (x : MdC) : List Assn := [Sl 3 1 x.pd x.m.due.length x.cd (fl eI x.m.due), Sl 82 8 x.pw x.m.was.length x.cw (fl eRs x.m.was), Sl 82 8 x.pi x.m.is.length x.ci (fl eRs x.m.is), Sl 74 6 x.pt x.m.tr.length x.ct (fl eAt x.m.tr), Sl 74 6 x.pl x.m.inl.length x.cl (fl eAt x.m.inl)]
def RwsM (cs : List MdC) : Assn := star (cs.flatMap rowM)
section
variable {g w : World} {L : List Assn} {cs : List MdC} {x : MdC}
theorem rwM_nil (h : sat g w L) : sat g w (RwsM [] :: L) := sat_star (K := []) h
theorem rwM_add (h : sat g w (rowM x ++ (RwsM cs :: L))) : sat g w (RwsM (cs ++ [x]) :: L) := by
  have h1 : sat g w (cs.flatMap rowM ++ (L ++ rowM x)) := sat_unstar (sat_rot (A := rowM x) (B := RwsM cs :: L) h)
  refine sat_star (sat_perm h1 ?_)
  rw [List.flatMap_append, List.flatMap_singleton, List.append_assoc]
  exact List.Perm.append_left _ List.perm_append_comm
theorem pickM {α : Type} : ∀ {L : List α} {i : Nat} {q : α}, L[i]? = some q → L.Perm (q :: L.eraseIdx i)
  | [], _, _, h => by simp at h
  | a :: L, 0, q, h => by
    rw [List.getElem?_cons_zero] at h
    obtain rfl := Option.some.inj h
    exact List.Perm.refl _
  | a :: L, i + 1, q, h => by
    rw [List.getElem?_cons_succ] at h
    exact ((pickM h).cons a).trans (List.Perm.swap q a _)
theorem rwM_perm {i : Nat} (hx : cs[i]? = some x) : (cs.flatMap rowM ++ L).Perm ((cs.eraseIdx i).flatMap rowM ++ (L ++ rowM x)) := by
  have h1 := (pickM hx).flatMap_right rowM
  rw [List.flatMap_cons] at h1
  refine (List.Perm.append_right _ h1).trans ((List.Perm.append_right _ List.perm_append_comm).trans ?_)
  rw [List.append_assoc]
  exact List.Perm.append_left _ List.perm_append_comm
theorem rwM_take {i : Nat} (hx : cs[i]? = some x) (h : sat g w (RwsM cs :: L)) : sat g w (rowM x ++ (RwsM (cs.eraseIdx i) :: L)) :=
  sat_rot (A := RwsM (cs.eraseIdx i) :: L) (B := rowM x) (sat_star (sat_perm (sat_unstar h) (rwM_perm hx)))
theorem rwM_put {i : Nat} (hx : cs[i]? = some x) (h : sat g w (rowM x ++ (RwsM (cs.eraseIdx i) :: L))) : sat g w (RwsM cs :: L) :=
  sat_star (sat_perm (sat_unstar (sat_rot (A := rowM x) (B := RwsM (cs.eraseIdx i) :: L) h)) (rwM_perm hx).symm)
end
theorem takeR_go {S : Ts} {i : Nat} (h : i < S.R.length) : S.R.take i ++ [getR S ((i : Int) + 1)] = S.R.take (i + 1) := takeB_go (by
  have h1 := getR_at (S := S) (v := (i : Int) + 1) ⟨by omega, by omega⟩
  rwa [show ((i : Int) + 1 - 1).toNat = i by omega] at h1)
theorem config_ht (s b_ m_ : Int) (hs : 0 ≤ s ∧ s ≤ 255) (hb : 0 ≤ b_ ∧ b_ ≤ 255) (hm : 0 ≤ m_ ∧ m_ ≤ 255) : HT Tryz.prog 18 [yV s, yV b_, yV m_] [] (fun v K => v = .agg #[iV 0, iV 0, iV 0, iV 0, iV 0, iV 0, iV ((cfgZ s b_ m_).bt), iV ((cfgZ s b_ m_).ba), iV ((cfgZ s b_ m_).cp), uV 0] ∧ K = []) := by
 refine hiS Tryz.func18 Tryz.ntmps18 fun g w0 R h0 => go [] <| nP 24 [iV 0, iV 0, iV 0, iV 0, iV 0, iV 0, iV 0, iV 0, iV 0, uV 0] h0 (fun _ _ h12 => ?_)
 have hb13 := rem_bd (a := s) (b := 64) (by omega) (by omega)
 refine go [.s 1 1] <| lwP (yV ((s % 64))) (law_rem (t := 5) (x := (Operand.tmp 7)) (y := (Operand.const (yV 64))) (by kernel_rfl) s 64 (by kernel_rfl) (by kernel_rfl) (by omega) ((s % 64)) (rem_ex (by omega)) _) <| go [.v 1 2 (oIr ((s % 64))), .v 1 3 (oI (1 + ((s % 64))) ((s % 64) + 1)), .v 1 5 (oIr b_), .v 1 6 (oI (1 + b_) (b_ + 1)), .v 1 8 (oIr b_), .v 1 9 (oI (1 + b_) (b_ + 1)), .v 1 11 (oIr m_), .v 1 12 (oI (m_ * 4) (4 * m_)), .v 1 13 (oI ((b_ + 1) + (4 * m_)) (b_ + 4 * m_ + 1))] <| sP [(0, iV 0), (1, iV 0), (2, iV 0), (3, iV 0), (4, iV 0), (5, iV 0), (6, iV ((s % 64) + 1)), (7, iV (b_ + 1)), (8, iV (b_ + 4 * m_ + 1)), (9, uV 0)] [iV 0, iV 0, iV 0, iV 0, iV 0, iV 0, iV ((s % 64) + 1), iV (b_ + 1), iV (b_ + 4 * m_ + 1), uV 0] h12 fun _ h15 => go [] ?_
 exact en (.agg #[iV 0, iV 0, iV 0, iV 0, iV 0, iV 0, iV ((s % 64) + 1), iV (b_ + 1), iV (b_ + 4 * m_ + 1), uV 0]) [rd 0 0 0 0 10 h15] ⟨_, _, rfl, ⟨rfl, rfl⟩, (tk1 (sf1 h15))⟩

theorem all_ht (b wb n : Nat) (S : Ts) : HT Tryz.prog 24 [.agg #[pV b, pV wb]] [TW b n S] (fun v K => ∃ (p : Option Addr) (c : Nat), v = .tuple #[.slice p S.R.length c, .bool true] ∧ K = [TW b n S, Sl 82 8 p S.R.length c (fl eRs S.R)]) := by
 refine hiS Tryz.func24 Tryz.ntmps24 fun g w0 R h0 => ?_
 have hk10 := tw_ok (j := 0) h0 rfl; have hk10a := hk10.rl
 refine go [] <| nP 28 [pV b, pV wb] h0 (fun r11 w12 h13 => ?_)
 refine go [] ?_
 have h14 : sat g w12 [Sl 82 8 none 0 0 (fl eRs []), Cl r11 [pV b, pV wb] 28, TW b n S, R] := sl_nil 82 8 h13
 have h15 : sat g w12 [Sl 82 8 none 0 0 (fl eRs (S.R.take 0)), Cl r11 [pV b, pV wb] 28, TW b n S, R] := sat_imp h14 (fun _ hh_ => by rw [show ([] : List Rs) = (S.R.take 0) from (by simp)] at hh_; exact hh_)
 refine lpS (fun mz_ a w => ∃ i : Nat, ∃ p : Option Addr, ∃ c : Nat, ∃ lr : Fr, mz_ = S.R.length - i ∧ (i ≤ S.R.length) ∧ a = mk 29 (([(1, pV r11), (4, .slice p i c), (5, iV ((i : Int) + 1))] : Fr) ++ lr) ∧ sat g w [Sl 82 8 p i c (fl eRs (S.R.take i)), TW b n S, Cl r11 [pV b, pV wb] 28, R]) (S.R.length - 0) ⟨0, none, 0, _, rfl, (Nat.zero_le _), (lvF [.k 1 (pV r11), .k 4 (.slice none 0 0), .o 5 (oJ .i64 1 ((0 : Int) + 1))]), (tk4 (sf3 (sf3 (sf2 (sf3 h15)))))⟩ ?_
 rintro m18 a19 w20 ⟨i, p, c, lr17, rfl, hi_, rfl, h21⟩
 refine ga ?_
 have h22 := tk4 (sf3 (sf2 (sf3 (sf3 h21))))
 refine go [rd 3 2 2 0 1 h21] <| cl1 Tryz.call64 (tlen_w b n S) h22 fun w23 h24 => ?_
 by_cases c25 : (i : Int) + 1 ≤ ((S.R.length : Nat) : Int)
 ·
  have hg26n : nE S ((i : Int) + 1) = 0 := if_pos ⟨by omega, by omega⟩; have hg26 : resR (getR S ((i : Int) + 1)) = 0 ∧ 0 ≤ (getR S ((i : Int) + 1)).out.2.2 ∧ (getR S ((i : Int) + 1)).out.2.2 ≤ 4294967295 ∧ (getR S ((i : Int) + 1)).tag.length ≤ 96 := wf_get (tw_ok (j := 0) h24 rfl) hg26n; have hg26a := hg26.2.1; have hg26b := hg26.2.2.1; have hg26c := hg26.2.2.2
  refine go [.v 3 4 (oT ((i : Int) + 1 ≤ ((S.R.length : Nat) : Int))), rd 5 1 2 0 1 h24] <| cl1 Tryz.call45 ((by have h_ := tget_w b n S ((i : Int) + 1); rw [hg26n] at h_; exact h_)) h24 fun _ h28 => ?_
  refine go [] <| nP 82 [iV 0, iV 0, uV 0, iV 0, iV 0, iV 0, iV 0, .string (St [])] h28 (fun r29 _ h31 => ?_)
  refine sP [(0, iV ((getR S ((i : Int) + 1)).out.1)), (1, iV ((getR S ((i : Int) + 1)).out.2.1)), (2, uV ((getR S ((i : Int) + 1)).out.2.2)), (3, iV ((getR S ((i : Int) + 1)).st)), (4, iV ((getR S ((i : Int) + 1)).why)), (5, iV ((getR S ((i : Int) + 1)).tr)), (6, iV ((getR S ((i : Int) + 1)).nx)), (7, .string (St ((getR S ((i : Int) + 1)).tag)))] [iV ((getR S ((i : Int) + 1)).out.1), iV ((getR S ((i : Int) + 1)).out.2.1), uV ((getR S ((i : Int) + 1)).out.2.2), iV ((getR S ((i : Int) + 1)).st), iV ((getR S ((i : Int) + 1)).why), iV ((getR S ((i : Int) + 1)).tr), iV ((getR S ((i : Int) + 1)).nx), .string (St ((getR S ((i : Int) + 1)).tag))] h31 fun _ h33 => go [rd 8 1 0 0 8 h33] <| nG (fun q_ => .slice (some ⟨q_, 0, none⟩) 1 1) 82 [iV ((getR S ((i : Int) + 1)).out.1), iV ((getR S ((i : Int) + 1)).out.2.1), uV ((getR S ((i : Int) + 1)).out.2.2), iV ((getR S ((i : Int) + 1)).st), iV ((getR S ((i : Int) + 1)).why), iV ((getR S ((i : Int) + 1)).tr), iV ((getR S ((i : Int) + 1)).nx), .string (St ((getR S ((i : Int) + 1)).tag))] h33 (fun r34 _ h36 => ⟨kd [], ?_⟩)
  have h37 := tk6 (sf5 (sf4 (sf4 (sf4 (sf5 (sf5 h36))))))
  refine actG ?_
  refine an_append (d := 27) (sz := 8) (s := (Operand.tmp 24)) (x := (Operand.tmp 26)) (z := .agg #[iV 0, iV 0, uV 0, iV 0, iV 0, iV 0, iV 0, .string (St [])]) (p := p) (m := i) (c := c) (k := 1) (c2 := 1) (a := ⟨r34, 0, none⟩) (by_ := 72) (by kernel_rfl) (by kernel_rfl) rfl Tryz.underlying33 (by kernel_rfl) rfl (by decide) (by kernel_rfl) (by kernel_rfl) h37 (fl eRs [(⟨((getR S ((i : Int) + 1)).out.1, (getR S ((i : Int) + 1)).out.2.1, (getR S ((i : Int) + 1)).out.2.2), (getR S ((i : Int) + 1)).st, (getR S ((i : Int) + 1)).why, (getR S ((i : Int) + 1)).tr, (getR S ((i : Int) + 1)).nx, (getR S ((i : Int) + 1)).tag⟩ : Rs)]) rfl (fun j u hj => by rw [add_off]; exact sat_cell h37 1 rfl (by rw [Nat.zero_add]; exact hj)) (fl_one eRs_ok _) (by omega) (by omega) (i + 1) (by omega) ?_
  intro p38 cap39 w40 h41
  have h42 : sat g w40 [Sl 82 8 p38 (i + 1) cap39 (fl eRs ((S.R.take i) ++ [(⟨((getR S ((i : Int) + 1)).out.1, (getR S ((i : Int) + 1)).out.2.1, (getR S ((i : Int) + 1)).out.2.2), (getR S ((i : Int) + 1)).st, (getR S ((i : Int) + 1)).why, (getR S ((i : Int) + 1)).tr, (getR S ((i : Int) + 1)).nx, (getR S ((i : Int) + 1)).tag⟩ : Rs)])), Cl r34 [iV ((getR S ((i : Int) + 1)).out.1), iV ((getR S ((i : Int) + 1)).out.2.1), uV ((getR S ((i : Int) + 1)).out.2.2), iV ((getR S ((i : Int) + 1)).st), iV ((getR S ((i : Int) + 1)).why), iV ((getR S ((i : Int) + 1)).tr), iV ((getR S ((i : Int) + 1)).nx), .string (St ((getR S ((i : Int) + 1)).tag))] 82, Cl r29 [iV ((getR S ((i : Int) + 1)).out.1), iV ((getR S ((i : Int) + 1)).out.2.1), uV ((getR S ((i : Int) + 1)).out.2.2), iV ((getR S ((i : Int) + 1)).st), iV ((getR S ((i : Int) + 1)).why), iV ((getR S ((i : Int) + 1)).tr), iV ((getR S ((i : Int) + 1)).nx), .string (St ((getR S ((i : Int) + 1)).tag))] 82, TW b n S, Cl r11 [pV b, pV wb] 28, R] := sat_imp h41 (fun _ hh => by rw [fl_app]; exact hh)
  obtain ⟨hn43, hn44⟩ := sl_le h42
  refine nxA <| go [.v 4 1 (oI (((i : Int) + 1) + 1) ((i : Int) + 2))] ?_
  refine enL ?_
  have h45 : sat g w40 [Sl 82 8 p38 (i + 1) cap39 (fl eRs (S.R.take (i + 1))), Cl r34 [iV ((getR S ((i : Int) + 1)).out.1), iV ((getR S ((i : Int) + 1)).out.2.1), uV ((getR S ((i : Int) + 1)).out.2.2), iV ((getR S ((i : Int) + 1)).st), iV ((getR S ((i : Int) + 1)).why), iV ((getR S ((i : Int) + 1)).tr), iV ((getR S ((i : Int) + 1)).nx), .string (St ((getR S ((i : Int) + 1)).tag))] 82, Cl r29 [iV ((getR S ((i : Int) + 1)).out.1), iV ((getR S ((i : Int) + 1)).out.2.1), uV ((getR S ((i : Int) + 1)).out.2.2), iV ((getR S ((i : Int) + 1)).st), iV ((getR S ((i : Int) + 1)).why), iV ((getR S ((i : Int) + 1)).tr), iV ((getR S ((i : Int) + 1)).nx), .string (St ((getR S ((i : Int) + 1)).tag))] 82, TW b n S, Cl r11 [pV b, pV wb] 28, R] := sat_imp h42 (fun _ hh_ => by rw [show (((S.R.take i) ++ [(⟨((getR S ((i : Int) + 1)).out.1, (getR S ((i : Int) + 1)).out.2.1, (getR S ((i : Int) + 1)).out.2.2), (getR S ((i : Int) + 1)).st, (getR S ((i : Int) + 1)).why, (getR S ((i : Int) + 1)).tr, (getR S ((i : Int) + 1)).nx, (getR S ((i : Int) + 1)).tag⟩ : Rs)]) : List Rs) = (S.R.take (i + 1)) from takeR_go (by omega)] at hh_; exact hh_)
  have h47 := tk4 (tk6 (sf5 (sf5 (sf5 (sf5 (sf2 (sf2 h45)))))))
  change ∃ n', n' < _ ∧ _
  refine ⟨(S.R.length - (i + 1)), by omega, (i + 1), p38, cap39, _, rfl, (by omega), (lvF [.k 1 (pV r11), .k 4 (.slice p38 (i + 1) cap39), .o 5 (oJ .i64 ((i : Int) + 2) ((((i + 1) : Nat) : Int) + 1))]), h47⟩
 refine go [.v 3 4 (oF ((i : Int) + 1 ≤ ((S.R.length : Nat) : Int)))] <| up <| go [] ?_
 have h49 : sat g w23 [Sl 82 8 p i c (fl eRs S.R), TW b n S, Cl r11 [pV b, pV wb] 28, R] := sat_imp (tk4 (sf3 (sf2 (sf3 (sf3 h24))))) (fun _ hh_ => by rw [show ((S.R.take i) : List Rs) = S.R from (List.take_of_length_le (by omega))] at hh_; exact hh_)
 have h50 : sat g w23 [Sl 82 8 p S.R.length c (fl eRs S.R), TW b n S, Cl r11 [pV b, pV wb] 28, R] := sat_imp h49 (fun _ hh_ => by rw [show S.R.length = i from by omega]; exact hh_)
 exact en (.tuple #[.slice p i c, .bool true]) [] ⟨_, _, rfl, ⟨p, c, by rw [show S.R.length = i from by omega], rfl⟩, (tk3 (sf2 (sf2 (sf3 (tk4 (sf3 (sf2 (sf3 (sf3 h50)))))))))⟩

end Go.Proofs.YtehlamblpekmkaaGreatDoor

/- Walks, printed by my generator q11.py. -/
namespace Go.Proofs.YtehlamblpekmkaaGreatDoor
set_option maxHeartbeats 4000000
theorem cfg_bt {q : Cf} (h : cfgE q = 0) : 1 ≤ q.bt ∧ q.bt ≤ 64 := by
  unfold cfgE at h
  split at h
  · cases h
  · omega
theorem lrun_ht (b wb : Nat) (S : Ts) (W : Wst) (q : Cf) (hc : cfgE q = 0) (hrun : RunOk q W.now (S, W) (dueB S W.now q.bt)) : HT Tryz.prog 55 [.agg #[pV b, pV wb], .agg #[iV 0, iV 0, iV 0, iV 0, iV 0, iV 0, iV q.bt, iV q.ba, iV q.cp, uV 0]] [TW b 64 S, Wd wb W] (fun v K => ∃ x : MdC, x.m = mdB q (S, W) ∧ v = .tuple #[.agg (eMd q x).toArray, .bool true] ∧ K = TW b 64 (rnS q (S, W)).1 :: Wd wb (rnS q (S, W)).2 :: rowM x) := by
 refine hiS Tryz.func55 Tryz.ntmps55 fun g w0 R h0 => ?_
 have hbt_ : 1 ≤ q.bt ∧ q.bt ≤ 64 := cfg_bt hc
 have hk10 := tw_ok (j := 0) h0 rfl; have hk10a := hk10.rl
 have hk11 := wd_ok (j := 1) h0 rfl; have hk11a := hk11.nl; have hk11b := hk11.nh
 refine go [] <| nP 28 [pV b, pV wb] h0 (fun _ _ h14 => ?_)
 refine nP 24 [iV 0, iV 0, iV 0, iV 0, iV 0, iV 0, iV q.bt, iV q.ba, iV q.cp, uV 0] h14 (fun _ _ h17 => ?_)
 refine nP 67 [iV 0, .slice none 0 0, .slice none 0 0, .slice none 0 0, .slice none 0 0, iV 0, .slice none 0 0, iV 0, iV 0, iV 0, iV 0, iV 0, iV 0, iV 0, iV 0, iV 0, uV 0] h17 (fun _ _ h20 => ?_)
 refine go [] <| dw (fls [0, 1, 3] (Tr.an2 2 (Tr.fl 4 (Tr.an 5 (Tr.an 6 Tr.nil))) 5 (Tr.an 2 (Tr.fl 4 (Tr.an 6 Tr.nil))))) h20 fun _ h22 => go [rd 1 1 2 1 1 h22, rd 1 3 1 0 10 h22] ?_
 refine br2 ?_ ?_
 ·
  refine cw1 Tryz.call38 (wnow_ht wb W) (tk6 (sf5 (sf4 (sf4 (sf4 (sf4 (sf5 h22))))))) fun _ h25 => ⟨kd [rd 0 3 2 0 10 h25], ?_⟩
  refine go [] <| nG (fun q_ => pV q_) 67 [iV 0, .slice none 0 0, .slice none 0 0, .slice none 0 0, .slice none 0 0, iV 0, .slice none 0 0, iV 0, iV 0, iV 0, iV 0, iV 0, iV 0, iV 0, iV 0, iV 0, uV 0] h25 (fun _ _ h28 => ⟨kd [rd 0 3 3 0 10 h28], ?_⟩)
  refine sG [(0, iV W.now), (1, .slice none 0 0), (2, .slice none 0 0), (3, .slice none 0 0), (4, .slice none 0 0), (5, iV 0), (6, .slice none 0 0), (7, iV 0), (8, iV 0), (9, iV 0), (10, iV 0), (11, iV 0), (12, iV 0), (13, iV q.bt), (14, iV q.ba), (15, iV q.cp), (16, uV 0)] [iV W.now, .slice none 0 0, .slice none 0 0, .slice none 0 0, .slice none 0 0, iV 0, .slice none 0 0, iV 0, iV 0, iV 0, iV 0, iV 0, iV 0, iV q.bt, iV q.ba, iV q.cp, uV 0] h28 fun _ h30 => ⟨kd [], ?_⟩
  have h33 := tk7 (sf6 (sf5 (sf5 (sf5 (sf5 (sf5 (sf6 h30)))))))
  refine go [rd 2 1 4 0 1 h30, rd 2 3 0 0 1 h30] <| cP Tryz.call11 (due_w b 64 S W.now 2000 (by omega)) h33 ?_
  rintro v K _ (⟨p31, c32, rfl, rfl⟩) h35
  have h36 := ap2 h35
  refine go [rd 3 0 6 0 2 h36] <| cP Tryz.call24 (all_ht b wb 64 S) h36 ?_
  rintro v K _ (⟨p37, c38, rfl, rfl⟩) h40
  have h41 := ap2 h40
  have h44 := tk9 (sf8 (sf8 (sf7 (sf7 (sf7 (sf8 (sf8 (sf8 (sf8 h41)))))))))
  refine go [rd 4 1 7 0 1 h41, rd 4 3 7 1 1 h41, rd 4 4 6 0 10 h41] <| cP Tryz.call12 ((by have h_ := run_w b 64 wb S W 0 0 0 0 0 0 q.bt q.ba q.cp 0 (fun _ => hrun); rw [show cfgE (⟨q.bt, q.ba, q.cp⟩ : Cf) = 0 from hc] at h_; exact h_)) h44 ?_
  rintro v K _ (⟨p42, c43, rfl, rfl⟩) h46
  have h47 := ap3 h46
  refine go [rd 5 0 8 0 2 h47] <| cP Tryz.call24 (all_ht b wb 64 ((rnS (⟨q.bt, q.ba, q.cp⟩ : Cf) (S, W)).1)) h47 ?_
  rintro v K _ (⟨p48, c49, rfl, rfl⟩) h51
  have h53 := tk11 (sf10 (sf9 (sf9 (sf9 (sf9 (sf9 (sf9 (sf10 (sf10 (sf10 (sf10 (ap2 h51))))))))))))
  refine go [] <| sP [(1, .slice p31 (((dueB S W.now 2000).length)) c32)] [iV W.now, .slice p31 (((dueB S W.now 2000).length)) c32, .slice none 0 0, .slice none 0 0, .slice none 0 0, iV 0, .slice none 0 0, iV 0, iV 0, iV 0, iV 0, iV 0, iV 0, iV q.bt, iV q.ba, iV q.cp, uV 0] h53 fun _ h55 => go [] <| sP [(2, .slice p37 S.R.length c38)] [iV W.now, .slice p31 (((dueB S W.now 2000).length)) c32, .slice p37 S.R.length c38, .slice none 0 0, .slice none 0 0, iV 0, .slice none 0 0, iV 0, iV 0, iV 0, iV 0, iV 0, iV 0, iV q.bt, iV q.ba, iV q.cp, uV 0] h55 fun _ h57 => go [] <| sP [(3, .slice p48 ((((rnS (⟨q.bt, q.ba, q.cp⟩ : Cf) (S, W)).1).R.length)) c49)] [iV W.now, .slice p31 (((dueB S W.now 2000).length)) c32, .slice p37 S.R.length c38, .slice p48 ((((rnS (⟨q.bt, q.ba, q.cp⟩ : Cf) (S, W)).1).R.length)) c49, .slice none 0 0, iV 0, .slice none 0 0, iV 0, iV 0, iV 0, iV 0, iV 0, iV 0, iV q.bt, iV q.ba, iV q.cp, uV 0] h57 fun _ h59 => go [] <| sP [(4, .slice p42 (((rnL (⟨q.bt, q.ba, q.cp⟩ : Cf) (S, W)).length)) c43)] [iV W.now, .slice p31 (((dueB S W.now 2000).length)) c32, .slice p37 S.R.length c38, .slice p48 ((((rnS (⟨q.bt, q.ba, q.cp⟩ : Cf) (S, W)).1).R.length)) c49, .slice p42 (((rnL (⟨q.bt, q.ba, q.cp⟩ : Cf) (S, W)).length)) c43, iV 0, .slice none 0 0, iV 0, iV 0, iV 0, iV 0, iV 0, iV 0, iV q.bt, iV q.ba, iV q.cp, uV 0] h59 fun _ h61 => ?_
  have h63 := tk11 (sf10 (sf9 (sf9 (sf9 (sf10 (sf10 (sf10 (sf10 (sf10 (sf10 (sf10 h61)))))))))))
  refine go [rd 7 1 9 1 1 h61] <| cP Tryz.call20 (wledg_ht wb ((rnS (⟨q.bt, q.ba, q.cp⟩ : Cf) (S, W)).2)) h63 ?_
  rintro v K _ (⟨b62, rfl, rfl⟩) h65
  refine cP Tryz.call21 (lgall_ht b62 (((rnS (⟨q.bt, q.ba, q.cp⟩ : Cf) (S, W)).2).T)) (tk12 (sf11 (sf10 (sf11 (sf11 (sf11 (sf11 (sf11 (sf11 (sf11 (sf11 (sf11 (sf11 (ap2 h65)))))))))))))) ?_
  rintro v K _ (⟨p67, c68, rfl, rfl⟩) h71
  have h73 := tk13 (sf12 (sf11 (sf11 (sf11 (sf12 (sf12 (sf12 (sf12 (sf12 (sf12 (sf12 (sf12 (sf12 (ap2 h71))))))))))))))
  refine go [] <| sP [(6, .slice p67 (((((rnS (⟨q.bt, q.ba, q.cp⟩ : Cf) (S, W)).2).T).length)) c68)] [iV W.now, .slice p31 (((dueB S W.now 2000).length)) c32, .slice p37 S.R.length c38, .slice p48 ((((rnS (⟨q.bt, q.ba, q.cp⟩ : Cf) (S, W)).1).R.length)) c49, .slice p42 (((rnL (⟨q.bt, q.ba, q.cp⟩ : Cf) (S, W)).length)) c43, iV 0, .slice p67 (((((rnS (⟨q.bt, q.ba, q.cp⟩ : Cf) (S, W)).2).T).length)) c68, iV 0, iV 0, iV 0, iV 0, iV 0, iV 0, iV q.bt, iV q.ba, iV q.cp, uV 0] h73 fun _ h75 => go [rd 8 1 0 6 1 h75] <| sP [(5, iV ((((((rnS (⟨q.bt, q.ba, q.cp⟩ : Cf) (S, W)).2).T).length : Nat) : Int)))] [iV W.now, .slice p31 (((dueB S W.now 2000).length)) c32, .slice p37 S.R.length c38, .slice p48 ((((rnS (⟨q.bt, q.ba, q.cp⟩ : Cf) (S, W)).1).R.length)) c49, .slice p42 (((rnL (⟨q.bt, q.ba, q.cp⟩ : Cf) (S, W)).length)) c43, iV ((((((rnS (⟨q.bt, q.ba, q.cp⟩ : Cf) (S, W)).2).T).length : Nat) : Int)), .slice p67 (((((rnS (⟨q.bt, q.ba, q.cp⟩ : Cf) (S, W)).2).T).length)) c68, iV 0, iV 0, iV 0, iV 0, iV 0, iV 0, iV q.bt, iV q.ba, iV q.cp, uV 0] h75 fun _ h77 => ?_
  have h78 := tk13 (sf12 (sf11 (sf11 (sf11 (sf11 (sf11 (sf11 (sf11 (sf11 (sf11 (sf12 (sf12 (sf12 h77)))))))))))))
  refine go [rd 9 0 0 0 17 h77] <| sP [(0, iV W.now), (1, .slice p31 (((dueB S W.now 2000).length)) c32), (2, .slice p37 S.R.length c38), (3, .slice p48 ((((rnS (⟨q.bt, q.ba, q.cp⟩ : Cf) (S, W)).1).R.length)) c49), (4, .slice p42 (((rnL (⟨q.bt, q.ba, q.cp⟩ : Cf) (S, W)).length)) c43), (5, iV ((((((rnS (⟨q.bt, q.ba, q.cp⟩ : Cf) (S, W)).2).T).length : Nat) : Int))), (6, .slice p67 (((((rnS (⟨q.bt, q.ba, q.cp⟩ : Cf) (S, W)).2).T).length)) c68), (7, iV 0), (8, iV 0), (9, iV 0), (10, iV 0), (11, iV 0), (12, iV 0), (13, iV q.bt), (14, iV q.ba), (15, iV q.cp), (16, uV 0)] [iV W.now, .slice p31 (((dueB S W.now 2000).length)) c32, .slice p37 S.R.length c38, .slice p48 ((((rnS (⟨q.bt, q.ba, q.cp⟩ : Cf) (S, W)).1).R.length)) c49, .slice p42 (((rnL (⟨q.bt, q.ba, q.cp⟩ : Cf) (S, W)).length)) c43, iV ((((((rnS (⟨q.bt, q.ba, q.cp⟩ : Cf) (S, W)).2).T).length : Nat) : Int)), .slice p67 (((((rnS (⟨q.bt, q.ba, q.cp⟩ : Cf) (S, W)).2).T).length)) c68, iV 0, iV 0, iV 0, iV 0, iV 0, iV 0, iV q.bt, iV q.ba, iV q.cp, uV 0] h78 fun _ h80 => go [] ?_
  exact en (.tuple #[.agg #[iV W.now, .slice p31 (((dueB S W.now 2000).length)) c32, .slice p37 S.R.length c38, .slice p48 ((((rnS (⟨q.bt, q.ba, q.cp⟩ : Cf) (S, W)).1).R.length)) c49, .slice p42 (((rnL (⟨q.bt, q.ba, q.cp⟩ : Cf) (S, W)).length)) c43, iV ((((((rnS (⟨q.bt, q.ba, q.cp⟩ : Cf) (S, W)).2).T).length : Nat) : Int)), .slice p67 (((((rnS (⟨q.bt, q.ba, q.cp⟩ : Cf) (S, W)).2).T).length)) c68, iV 0, iV 0, iV 0, iV 0, iV 0, iV 0, iV q.bt, iV q.ba, iV q.cp, uV 0], .bool true]) [rd 0 0 0 0 17 h80] ⟨_, _, rfl, ⟨⟨p31, c32, p37, c38, p48, c49, p42, c43, p67, c68, mdB q (S, W)⟩, rfl, rfl, rfl⟩, (tk8 (sf7 (sf7 (sf7 (sf7 (sf7 (sf7 (sf7 (sf12 (tk13 (sf12 (sf11 (sf12 (sf11 (sf10 (sf10 (sf6 (sf5 (sf5 (sf6 (sf12 (sf12 (sf12 h80)))))))))))))))))))))))⟩
 refine nG (fun q_ => pV q_) 67 [iV 0, .slice none 0 0, .slice none 0 0, .slice none 0 0, .slice none 0 0, iV 0, .slice none 0 0, iV 0, iV 0, iV 0, iV 0, iV 0, iV 0, iV 0, iV 0, iV 0, uV 0] h22 (fun _ _ h85 => ⟨kd [rd 0 3 2 0 10 h85, rd 0 1 3 1 1 h85], ?_⟩)
 refine cw1 Tryz.call38 (wnow_ht wb W) (tk7 (sf6 (sf5 (sf5 (sf5 (sf5 (sf5 (sf6 h85)))))))) fun _ h88 => ⟨kd [rd 0 3 3 0 10 h88], ?_⟩
 have h89 := tk7 (sf6 (sf5 (sf6 (sf6 (sf6 (sf6 (sf6 h88)))))))
 refine go [] <| sG [(0, iV W.now), (1, .slice none 0 0), (2, .slice none 0 0), (3, .slice none 0 0), (4, .slice none 0 0), (5, iV 0), (6, .slice none 0 0), (7, iV 0), (8, iV 0), (9, iV 0), (10, iV 0), (11, iV 0), (12, iV 0), (13, iV q.bt), (14, iV q.ba), (15, iV q.cp), (16, uV 0)] [iV W.now, .slice none 0 0, .slice none 0 0, .slice none 0 0, .slice none 0 0, iV 0, .slice none 0 0, iV 0, iV 0, iV 0, iV 0, iV 0, iV 0, iV q.bt, iV q.ba, iV q.cp, uV 0] h89 fun _ h91 => ⟨kd [], ?_⟩
 have h94 := tk7 (sf6 (sf5 (sf5 (sf5 (sf5 (sf5 (sf6 h91)))))))
 refine go [rd 2 1 4 0 1 h91, rd 2 3 0 0 1 h91] <| cP Tryz.call11 (due_w b 64 S W.now 2000 (by omega)) h94 ?_
 rintro v K _ (⟨p92, c93, rfl, rfl⟩) h96
 have h97 := ap2 h96
 refine go [rd 3 0 6 0 2 h97] <| cP Tryz.call24 (all_ht b wb 64 S) h97 ?_
 rintro v K _ (⟨p98, c99, rfl, rfl⟩) h101
 have h102 := ap2 h101
 have h105 := tk9 (sf8 (sf8 (sf7 (sf7 (sf7 (sf8 (sf8 (sf8 (sf8 h102)))))))))
 refine go [rd 4 1 7 0 1 h102, rd 4 3 7 1 1 h102, rd 4 4 6 0 10 h102] <| cP Tryz.call12 ((by have h_ := run_w b 64 wb S W 0 0 0 0 0 0 q.bt q.ba q.cp 0 (fun _ => hrun); rw [show cfgE (⟨q.bt, q.ba, q.cp⟩ : Cf) = 0 from hc] at h_; exact h_)) h105 ?_
 rintro v K _ (⟨p103, c104, rfl, rfl⟩) h107
 have h108 := ap3 h107
 refine go [rd 5 0 8 0 2 h108] <| cP Tryz.call24 (all_ht b wb 64 ((rnS (⟨q.bt, q.ba, q.cp⟩ : Cf) (S, W)).1)) h108 ?_
 rintro v K _ (⟨p109, c110, rfl, rfl⟩) h112
 have h114 := tk11 (sf10 (sf9 (sf9 (sf9 (sf9 (sf9 (sf9 (sf10 (sf10 (sf10 (sf10 (ap2 h112))))))))))))
 refine go [] <| sP [(1, .slice p92 (((dueB S W.now 2000).length)) c93)] [iV W.now, .slice p92 (((dueB S W.now 2000).length)) c93, .slice none 0 0, .slice none 0 0, .slice none 0 0, iV 0, .slice none 0 0, iV 0, iV 0, iV 0, iV 0, iV 0, iV 0, iV q.bt, iV q.ba, iV q.cp, uV 0] h114 fun _ h116 => go [] <| sP [(2, .slice p98 S.R.length c99)] [iV W.now, .slice p92 (((dueB S W.now 2000).length)) c93, .slice p98 S.R.length c99, .slice none 0 0, .slice none 0 0, iV 0, .slice none 0 0, iV 0, iV 0, iV 0, iV 0, iV 0, iV 0, iV q.bt, iV q.ba, iV q.cp, uV 0] h116 fun _ h118 => go [] <| sP [(3, .slice p109 ((((rnS (⟨q.bt, q.ba, q.cp⟩ : Cf) (S, W)).1).R.length)) c110)] [iV W.now, .slice p92 (((dueB S W.now 2000).length)) c93, .slice p98 S.R.length c99, .slice p109 ((((rnS (⟨q.bt, q.ba, q.cp⟩ : Cf) (S, W)).1).R.length)) c110, .slice none 0 0, iV 0, .slice none 0 0, iV 0, iV 0, iV 0, iV 0, iV 0, iV 0, iV q.bt, iV q.ba, iV q.cp, uV 0] h118 fun _ h120 => go [] <| sP [(4, .slice p103 (((rnL (⟨q.bt, q.ba, q.cp⟩ : Cf) (S, W)).length)) c104)] [iV W.now, .slice p92 (((dueB S W.now 2000).length)) c93, .slice p98 S.R.length c99, .slice p109 ((((rnS (⟨q.bt, q.ba, q.cp⟩ : Cf) (S, W)).1).R.length)) c110, .slice p103 (((rnL (⟨q.bt, q.ba, q.cp⟩ : Cf) (S, W)).length)) c104, iV 0, .slice none 0 0, iV 0, iV 0, iV 0, iV 0, iV 0, iV 0, iV q.bt, iV q.ba, iV q.cp, uV 0] h120 fun _ h122 => ?_
 have h124 := tk11 (sf10 (sf9 (sf9 (sf9 (sf10 (sf10 (sf10 (sf10 (sf10 (sf10 (sf10 h122)))))))))))
 refine go [rd 7 1 9 1 1 h122] <| cP Tryz.call20 (wledg_ht wb ((rnS (⟨q.bt, q.ba, q.cp⟩ : Cf) (S, W)).2)) h124 ?_
 rintro v K _ (⟨b123, rfl, rfl⟩) h126
 refine cP Tryz.call21 (lgall_ht b123 (((rnS (⟨q.bt, q.ba, q.cp⟩ : Cf) (S, W)).2).T)) (tk12 (sf11 (sf10 (sf11 (sf11 (sf11 (sf11 (sf11 (sf11 (sf11 (sf11 (sf11 (sf11 (ap2 h126)))))))))))))) ?_
 rintro v K _ (⟨p128, c129, rfl, rfl⟩) h132
 have h134 := tk13 (sf12 (sf11 (sf11 (sf11 (sf12 (sf12 (sf12 (sf12 (sf12 (sf12 (sf12 (sf12 (sf12 (ap2 h132))))))))))))))
 refine go [] <| sP [(6, .slice p128 (((((rnS (⟨q.bt, q.ba, q.cp⟩ : Cf) (S, W)).2).T).length)) c129)] [iV W.now, .slice p92 (((dueB S W.now 2000).length)) c93, .slice p98 S.R.length c99, .slice p109 ((((rnS (⟨q.bt, q.ba, q.cp⟩ : Cf) (S, W)).1).R.length)) c110, .slice p103 (((rnL (⟨q.bt, q.ba, q.cp⟩ : Cf) (S, W)).length)) c104, iV 0, .slice p128 (((((rnS (⟨q.bt, q.ba, q.cp⟩ : Cf) (S, W)).2).T).length)) c129, iV 0, iV 0, iV 0, iV 0, iV 0, iV 0, iV q.bt, iV q.ba, iV q.cp, uV 0] h134 fun _ h136 => go [rd 8 1 0 6 1 h136] <| sP [(5, iV ((((((rnS (⟨q.bt, q.ba, q.cp⟩ : Cf) (S, W)).2).T).length : Nat) : Int)))] [iV W.now, .slice p92 (((dueB S W.now 2000).length)) c93, .slice p98 S.R.length c99, .slice p109 ((((rnS (⟨q.bt, q.ba, q.cp⟩ : Cf) (S, W)).1).R.length)) c110, .slice p103 (((rnL (⟨q.bt, q.ba, q.cp⟩ : Cf) (S, W)).length)) c104, iV ((((((rnS (⟨q.bt, q.ba, q.cp⟩ : Cf) (S, W)).2).T).length : Nat) : Int)), .slice p128 (((((rnS (⟨q.bt, q.ba, q.cp⟩ : Cf) (S, W)).2).T).length)) c129, iV 0, iV 0, iV 0, iV 0, iV 0, iV 0, iV q.bt, iV q.ba, iV q.cp, uV 0] h136 fun _ h138 => ?_
 have h139 := tk13 (sf12 (sf11 (sf11 (sf11 (sf11 (sf11 (sf11 (sf11 (sf11 (sf11 (sf12 (sf12 (sf12 h138)))))))))))))
 refine go [rd 9 0 0 0 17 h138] <| sP [(0, iV W.now), (1, .slice p92 (((dueB S W.now 2000).length)) c93), (2, .slice p98 S.R.length c99), (3, .slice p109 ((((rnS (⟨q.bt, q.ba, q.cp⟩ : Cf) (S, W)).1).R.length)) c110), (4, .slice p103 (((rnL (⟨q.bt, q.ba, q.cp⟩ : Cf) (S, W)).length)) c104), (5, iV ((((((rnS (⟨q.bt, q.ba, q.cp⟩ : Cf) (S, W)).2).T).length : Nat) : Int))), (6, .slice p128 (((((rnS (⟨q.bt, q.ba, q.cp⟩ : Cf) (S, W)).2).T).length)) c129), (7, iV 0), (8, iV 0), (9, iV 0), (10, iV 0), (11, iV 0), (12, iV 0), (13, iV q.bt), (14, iV q.ba), (15, iV q.cp), (16, uV 0)] [iV W.now, .slice p92 (((dueB S W.now 2000).length)) c93, .slice p98 S.R.length c99, .slice p109 ((((rnS (⟨q.bt, q.ba, q.cp⟩ : Cf) (S, W)).1).R.length)) c110, .slice p103 (((rnL (⟨q.bt, q.ba, q.cp⟩ : Cf) (S, W)).length)) c104, iV ((((((rnS (⟨q.bt, q.ba, q.cp⟩ : Cf) (S, W)).2).T).length : Nat) : Int)), .slice p128 (((((rnS (⟨q.bt, q.ba, q.cp⟩ : Cf) (S, W)).2).T).length)) c129, iV 0, iV 0, iV 0, iV 0, iV 0, iV 0, iV q.bt, iV q.ba, iV q.cp, uV 0] h139 fun _ h141 => go [] ?_
 exact en (.tuple #[.agg #[iV W.now, .slice p92 (((dueB S W.now 2000).length)) c93, .slice p98 S.R.length c99, .slice p109 ((((rnS (⟨q.bt, q.ba, q.cp⟩ : Cf) (S, W)).1).R.length)) c110, .slice p103 (((rnL (⟨q.bt, q.ba, q.cp⟩ : Cf) (S, W)).length)) c104, iV ((((((rnS (⟨q.bt, q.ba, q.cp⟩ : Cf) (S, W)).2).T).length : Nat) : Int)), .slice p128 (((((rnS (⟨q.bt, q.ba, q.cp⟩ : Cf) (S, W)).2).T).length)) c129, iV 0, iV 0, iV 0, iV 0, iV 0, iV 0, iV q.bt, iV q.ba, iV q.cp, uV 0], .bool true]) [rd 0 0 0 0 17 h141] ⟨_, _, rfl, ⟨⟨p92, c93, p98, c99, p109, c110, p103, c104, p128, c129, mdB q (S, W)⟩, rfl, rfl, rfl⟩, (tk8 (sf7 (sf7 (sf7 (sf7 (sf7 (sf7 (sf7 (sf12 (tk13 (sf12 (sf11 (sf12 (sf11 (sf10 (sf10 (sf6 (sf5 (sf5 (sf6 (sf12 (sf12 (sf12 h141)))))))))))))))))))))))⟩

abbrev z11x1 := fun r10 (q : Cf) => Cl r10 [iV 0, iV 0, iV 0, iV 0, iV 0, iV 0, iV q.bt, iV q.ba, iV q.cp, uV 0] 24
abbrev z11x2 := fun r13 => Cl r13 [.pointer none, .pointer none] 28
abbrev z11x3 := fun (p : Option Addr) k (c : Nat) (q : Cf) (cs : List MdC) => Sl 67 17 p k c (fl (eMd q) cs)
abbrev z11x4 := fun r21 b16 b17 => Cl r21 [pV b16, pV b17] 28
theorem played_ht (wo : World) (hg : Lett wo) (p0 : Option Addr) (n0 c0 : Nat) (T0 : List Tn) (hr0 : Rd wo p0 n0 (fl eTn T0)) (hT0 : T0.length = n0) (hO0 : ∀ x ∈ T0, TnOk x) (q : Cf) (hc : cfgE q = 0) (hok : PlOk q T0) (hn : n0 ≤ 150) : HT Tryz.prog 17 [.slice p0 n0 c0, .agg #[iV 0, iV 0, iV 0, iV 0, iV 0, iV 0, iV q.bt, iV q.ba, iV q.cp, uV 0]] [Old wo] (fun v K => ∃ (b wb : Nat) (p : Option Addr) (c : Nat) (cs : List MdC), cs.map (·.m) = mdsP q T0 n0 ∧ v = .tuple #[.agg #[pV b, pV wb], .slice p cs.length c, .bool true] ∧ K = [TW b 64 ((plP q T0 n0).1), Wd wb ((plP q T0 n0).2), Sl 67 17 p cs.length c (fl (eMd q) cs), RwsM cs, Old wo]) := by
 refine hiS Tryz.func17 Tryz.ntmps17 fun g w0 R h0 => go [] <| nP 24 [iV 0, iV 0, iV 0, iV 0, iV 0, iV 0, iV q.bt, iV q.ba, iV q.cp, uV 0] h0 (fun r10 _ h12 => ?_)
 refine nP 28 [.pointer none, .pointer none] h12 (fun r13 _ h15 => ?_)
 refine go [] <| cP Tryz.call10 (begin_ht) h15 ?_
 rintro v K _ (⟨b16, b17, rfl, rfl⟩) h19
 have h20 := ap2 h19
 refine go [] <| nP 28 [.pointer none, .pointer none] h20 (fun r21 _ h23 => ?_)
 refine sP [(0, pV b16), (1, pV b17)] [pV b16, pV b17] h23 fun w24 h25 => go [] ?_
 have h26 : sat g w24 [Sl 67 17 none 0 0 (fl (eMd q) []), z11x4 r21 b16 b17, TW b16 64 ts0, Wd b17 (wnew 1), z11x2 r13, z11x1 r10 q, Old wo, R] := sl_nil 67 17 h25
 have h27 : sat g w24 [RwsM [], Sl 67 17 none 0 0 (fl (eMd q) []), z11x4 r21 b16 b17, TW b16 64 ts0, Wd b17 (wnew 1), z11x2 r13, z11x1 r10 q, Old wo, R] := rwM_nil h26
 refine lpS (fun mz_ a w => ∃ i : Nat, ∃ Y : Pw, ∃ p : Option Addr, ∃ k : Nat, ∃ c : Nat, ∃ cs : List MdC, ∃ lr : Fr, mz_ = n0 - i ∧ (plP q T0 i = Y) ∧ (cs.map (·.m) = mdsP q T0 i) ∧ (i ≤ n0) ∧ (k ≤ i) ∧ a = mk 81 (([(0, .slice p0 n0 c0), (3, pV r10), (4, pV r13), (7, pV r21), (8, .bool true), (9, .slice p k c), (10, iV (i : Int))] : Fr) ++ lr) ∧ sat g w [z11x1 r10 q, z11x2 r13, z11x4 r21 b16 b17, TW b16 64 Y.1, Wd b17 Y.2, Old wo, z11x3 p k c q cs, RwsM cs, R]) (n0 - 0) ⟨0, (ts0, wnew 1), none, 0, 0, [], _, rfl, rfl, rfl, (Nat.zero_le _), (Nat.le_refl _), (lvF [.k 0 (.slice p0 n0 c0), .k 3 (pV r10), .k 4 (pV r13), .k 7 (pV r21), .k 8 (.bool true), .k 9 (.slice none 0 0), .o 10 (oJ .i64 0 (0 : Int))]), (tk9 (sf8 (sf7 (sf6 (sf6 (sf6 (sf8 (sf2 (sf1 (sf8 h27))))))))))⟩ ?_
 rintro m30 a31 w32 ⟨i, Y, p, k, c, cs, lr29, rfl, hY_, hcs_, hi_, hki_, rfl, h33⟩
 refine ga <| go [.s 4 3] ?_
 by_cases c34 : (i : Int) < (n0 : Int)
 ·
  obtain ⟨b35, off37, hp36⟩ := gv_ptr (j := 5) h33 rfl (gv_old hr0) (by omega)
  refine go [.v 4 3 (oT ((i : Int) < (n0 : Int))), .s 6 2] <| lwP (.pointer (some ⟨b35, off37 + i * 2, none⟩)) (law_indexSlP (x := (Operand.tmp 27)) (i := (Operand.tmp 28)) (p := p0) (b := b35) (off := off37) (z := (i : Int)) (len := n0) (cap := c0) (by kernel_rfl) Tryz.underlying60 2 (by kernel_rfl) i (by kernel_rfl) hp36 (by kernel_rfl) (by omega) (by omega) (off37 + i * 2) (by omega) _) ?_
  obtain ⟨x38, hx39⟩ : ∃ x, T0[i]? = some x := ⟨_, List.getElem?_eq_getElem (by rw [hT0]; omega)⟩
  have ho40 := hO0 _ (List.mem_of_getElem? hx39); have ho40a := ho40.1; have ho40b := ho40.2
  refine go [.r 6 4 b35 (off37 + i * 2 + 1) [.int .u16 x38.n] ⟨gv_cell (j := 5) h33 rfl (gv_old hr0) hp36 (fl_get eTn_ok (j := 1) (v := .int .u16 x38.n) hx39 rfl) (off37 + i * 2 + 1) (by omega), trivial⟩, .s 7 2] <| lwP (.pointer (some ⟨b35, off37 + i * 2, none⟩)) (law_indexSlP (x := (Operand.tmp 32)) (i := (Operand.tmp 33)) (p := p0) (b := b35) (off := off37) (z := (i : Int)) (len := n0) (cap := c0) (by kernel_rfl) Tryz.underlying60 2 (by kernel_rfl) i (by kernel_rfl) hp36 (by kernel_rfl) (by omega) (by omega) (off37 + i * 2) (by omega) _) ?_
  have hb41 := rem_bd (a := x38.k) (b := 8) (by omega) (by omega)
  refine go [.r 7 4 b35 (off37 + i * 2) [yV x38.k] ⟨gv_cell (j := 5) h33 rfl (gv_old hr0) hp36 (fl_get eTn_ok (j := 0) (v := yV x38.k) hx39 rfl) (off37 + i * 2) (by omega), trivial⟩, .s 7 5] <| lwP (yV ((x38.k % 8))) (law_rem (t := 5) (x := (Operand.tmp 36)) (y := (Operand.const (yV 8))) (by kernel_rfl) x38.k 8 (by kernel_rfl) (by kernel_rfl) (by omega) ((x38.k % 8)) (rem_ex (by omega)) _) <| go [.s 11 0] ?_
  by_cases c42 : (x38.k % 8) = 0
  ·
   have h43 := tk9 (sf8 (sf8 (sf6 (sf6 (sf6 (sf8 (sf8 (sf8 (sf8 h33)))))))))
   refine go [.v 11 0 (qeT ((x38.k % 8)) 0), rd 13 0 2 0 2 h33] <| cl2 Tryz.call26 (open_ht b16 b17 Y.1 Y.2 x38.n (i : Int) (by omega) (by omega)) h43 fun w44 h45 => go [.v 5 1 (oIr ((i : Int) + 1))] ?_
   refine enL ?_
   have hs46 : plP q T0 (i + 1) = ((opnP (Y.1, Y.2) x38.n (i : Int)).1, (opnP (Y.1, Y.2) x38.n (i : Int)).2) := (plP_go hx39).trans (by rw [hY_]; exact step_opn (by omega))
   have h47 : sat g w44 [TW b16 64 ((plP q T0 (i + 1)).1), Wd b17 ((opnP (Y.1, Y.2) x38.n (i : Int)).2), z11x1 r10 q, z11x2 r13, z11x4 r21 b16 b17, Old wo, z11x3 p k c q cs, RwsM cs, R] := sat_imp h45 (fun _ hh_ => by rw [hs46]; exact hh_)
   have h49 : sat g w44 [Wd b17 ((plP q T0 (i + 1)).2), TW b16 64 ((plP q T0 (i + 1)).1), z11x1 r10 q, z11x2 r13, z11x4 r21 b16 b17, Old wo, z11x3 p k c q cs, RwsM cs, R] := sat_imp (tk9 (sf8 (sf7 (sf8 (sf8 (sf8 (sf8 (sf8 (sf8 (sf8 h47)))))))))) (fun _ hh_ => by rw [hs46]; exact hh_)
   have h50 := tk9 (sf8 (sf8 (sf8 (sf5 (sf4 (sf8 (sf8 (sf8 (sf8 h49)))))))))
   change ∃ n', n' < _ ∧ _
   refine ⟨(n0 - (i + 1)), by omega, (i + 1), (plP q T0 (i + 1)), p, k, c, cs, _, rfl, rfl, (hcs_.trans (mds_no hx39 (show ¬ isRun x38 by unfold isRun; omega)).symm), (by omega), (by omega), (lvF [.k 0 (.slice p0 n0 c0), .k 3 (pV r10), .k 4 (pV r13), .k 7 (pV r21), .k 8 (.bool true), .k 9 (.slice p k c), .o 10 (oJ .i64 ((i : Int) + 1) ((((i + 1) : Nat) : Int)))]), h50⟩
  refine go [.v 11 0 (qeF ((x38.k % 8)) 0), .s 12 0] ?_
  by_cases c51 : (x38.k % 8) = 1
  ·
   have h52 := tk9 (sf8 (sf8 (sf6 (sf6 (sf6 (sf8 (sf8 (sf8 (sf8 h33)))))))))
   refine go [.v 12 0 (qeT ((x38.k % 8)) 1), rd 13 0 2 0 2 h33] <| cl2 Tryz.call26 (open_ht b16 b17 Y.1 Y.2 x38.n (i : Int) (by omega) (by omega)) h52 fun w53 h54 => go [.v 5 1 (oIr ((i : Int) + 1))] ?_
   refine enL ?_
   have hs55 : plP q T0 (i + 1) = ((opnP (Y.1, Y.2) x38.n (i : Int)).1, (opnP (Y.1, Y.2) x38.n (i : Int)).2) := (plP_go hx39).trans (by rw [hY_]; exact step_opn (by omega))
   have h56 : sat g w53 [TW b16 64 ((plP q T0 (i + 1)).1), Wd b17 ((opnP (Y.1, Y.2) x38.n (i : Int)).2), z11x1 r10 q, z11x2 r13, z11x4 r21 b16 b17, Old wo, z11x3 p k c q cs, RwsM cs, R] := sat_imp h54 (fun _ hh_ => by rw [hs55]; exact hh_)
   have h58 : sat g w53 [Wd b17 ((plP q T0 (i + 1)).2), TW b16 64 ((plP q T0 (i + 1)).1), z11x1 r10 q, z11x2 r13, z11x4 r21 b16 b17, Old wo, z11x3 p k c q cs, RwsM cs, R] := sat_imp (tk9 (sf8 (sf7 (sf8 (sf8 (sf8 (sf8 (sf8 (sf8 (sf8 h56)))))))))) (fun _ hh_ => by rw [hs55]; exact hh_)
   have h59 := tk9 (sf8 (sf8 (sf8 (sf5 (sf4 (sf8 (sf8 (sf8 (sf8 h58)))))))))
   change ∃ n', n' < _ ∧ _
   refine ⟨(n0 - (i + 1)), by omega, (i + 1), (plP q T0 (i + 1)), p, k, c, cs, _, rfl, rfl, (hcs_.trans (mds_no hx39 (show ¬ isRun x38 by unfold isRun; omega)).symm), (by omega), (by omega), (lvF [.k 0 (.slice p0 n0 c0), .k 3 (pV r10), .k 4 (pV r13), .k 7 (pV r21), .k 8 (.bool true), .k 9 (.slice p k c), .o 10 (oJ .i64 ((i : Int) + 1) ((((i + 1) : Nat) : Int)))]), h59⟩
  refine go [.v 12 0 (qeF ((x38.k % 8)) 1), .s 14 0] ?_
  by_cases c60 : (x38.k % 8) = 2
  ·
   have h61 := tk9 (sf8 (sf8 (sf6 (sf6 (sf6 (sf8 (sf8 (sf8 (sf8 h33)))))))))
   refine go [.v 14 0 (qeT ((x38.k % 8)) 2), rd 16 0 2 0 2 h33] <| cl2 Tryz.call28 (shut_ht b16 b17 Y.1 Y.2 x38.n (by omega)) h61 fun w62 h63 => go [.v 5 1 (oIr ((i : Int) + 1))] ?_
   refine enL ?_
   have hs64 : plP q T0 (i + 1) = ((shuP (Y.1, Y.2) x38.n).1, (shuP (Y.1, Y.2) x38.n).2) := (plP_go hx39).trans (by rw [hY_]; exact step_shu (by omega))
   have h65 : sat g w62 [TW b16 64 ((plP q T0 (i + 1)).1), Wd b17 ((shuP (Y.1, Y.2) x38.n).2), z11x1 r10 q, z11x2 r13, z11x4 r21 b16 b17, Old wo, z11x3 p k c q cs, RwsM cs, R] := sat_imp h63 (fun _ hh_ => by rw [hs64]; exact hh_)
   have h67 : sat g w62 [Wd b17 ((plP q T0 (i + 1)).2), TW b16 64 ((plP q T0 (i + 1)).1), z11x1 r10 q, z11x2 r13, z11x4 r21 b16 b17, Old wo, z11x3 p k c q cs, RwsM cs, R] := sat_imp (tk9 (sf8 (sf7 (sf8 (sf8 (sf8 (sf8 (sf8 (sf8 (sf8 h65)))))))))) (fun _ hh_ => by rw [hs64]; exact hh_)
   have h68 := tk9 (sf8 (sf8 (sf8 (sf5 (sf4 (sf8 (sf8 (sf8 (sf8 h67)))))))))
   change ∃ n', n' < _ ∧ _
   refine ⟨(n0 - (i + 1)), by omega, (i + 1), (plP q T0 (i + 1)), p, k, c, cs, _, rfl, rfl, (hcs_.trans (mds_no hx39 (show ¬ isRun x38 by unfold isRun; omega)).symm), (by omega), (by omega), (lvF [.k 0 (.slice p0 n0 c0), .k 3 (pV r10), .k 4 (pV r13), .k 7 (pV r21), .k 8 (.bool true), .k 9 (.slice p k c), .o 10 (oJ .i64 ((i : Int) + 1) ((((i + 1) : Nat) : Int)))]), h68⟩
  refine go [.v 14 0 (qeF ((x38.k % 8)) 2), .s 15 0] ?_
  by_cases c69 : (x38.k % 8) = 3
  ·
   have h70 := tk9 (sf8 (sf8 (sf6 (sf6 (sf6 (sf8 (sf8 (sf8 (sf8 h33)))))))))
   refine go [.v 15 0 (qeT ((x38.k % 8)) 3), rd 16 0 2 0 2 h33] <| cl2 Tryz.call28 (shut_ht b16 b17 Y.1 Y.2 x38.n (by omega)) h70 fun w71 h72 => go [.v 5 1 (oIr ((i : Int) + 1))] ?_
   refine enL ?_
   have hs73 : plP q T0 (i + 1) = ((shuP (Y.1, Y.2) x38.n).1, (shuP (Y.1, Y.2) x38.n).2) := (plP_go hx39).trans (by rw [hY_]; exact step_shu (by omega))
   have h74 : sat g w71 [TW b16 64 ((plP q T0 (i + 1)).1), Wd b17 ((shuP (Y.1, Y.2) x38.n).2), z11x1 r10 q, z11x2 r13, z11x4 r21 b16 b17, Old wo, z11x3 p k c q cs, RwsM cs, R] := sat_imp h72 (fun _ hh_ => by rw [hs73]; exact hh_)
   have h76 : sat g w71 [Wd b17 ((plP q T0 (i + 1)).2), TW b16 64 ((plP q T0 (i + 1)).1), z11x1 r10 q, z11x2 r13, z11x4 r21 b16 b17, Old wo, z11x3 p k c q cs, RwsM cs, R] := sat_imp (tk9 (sf8 (sf7 (sf8 (sf8 (sf8 (sf8 (sf8 (sf8 (sf8 h74)))))))))) (fun _ hh_ => by rw [hs73]; exact hh_)
   have h77 := tk9 (sf8 (sf8 (sf8 (sf5 (sf4 (sf8 (sf8 (sf8 (sf8 h76)))))))))
   change ∃ n', n' < _ ∧ _
   refine ⟨(n0 - (i + 1)), by omega, (i + 1), (plP q T0 (i + 1)), p, k, c, cs, _, rfl, rfl, (hcs_.trans (mds_no hx39 (show ¬ isRun x38 by unfold isRun; omega)).symm), (by omega), (by omega), (lvF [.k 0 (.slice p0 n0 c0), .k 3 (pV r10), .k 4 (pV r13), .k 7 (pV r21), .k 8 (.bool true), .k 9 (.slice p k c), .o 10 (oJ .i64 ((i : Int) + 1) ((((i + 1) : Nat) : Int)))]), h77⟩
  refine go [.v 15 0 (qeF ((x38.k % 8)) 3), .s 17 0] ?_
  by_cases c78 : (x38.k % 8) = 4
  ·
   have hb79 := rem_bd (a := x38.n) (b := 300) (by omega) (by omega)
   refine go [.v 17 0 (qeT ((x38.k % 8)) 4), rd 18 1 2 1 1 h33, .s 18 3] <| lwP (.int .u16 ((x38.n % 300))) (law_rem (t := 78) (x := (Operand.tmp 66)) (y := (Operand.const (.int .u16 300))) (by kernel_rfl) x38.n 300 (by kernel_rfl) (by kernel_rfl) (by omega) ((x38.n % 300)) (rem_ex (by omega)) _) ?_
   have h80 := tk9 (sf8 (sf7 (sf7 (sf7 (sf7 (sf8 (sf8 (sf8 (sf8 h33)))))))))
   refine go [.v 18 4 (oIr ((x38.n % 300))), .v 18 5 (oI (1 + ((x38.n % 300))) ((x38.n % 300) + 1))] <| cl1 Tryz.call30 (wtick_ht b17 Y.2 ((x38.n % 300) + 1)) h80 fun w81 h82 => go [.v 5 1 (oIr ((i : Int) + 1))] ?_
   refine enL ?_
   have hs83 : plP q T0 (i + 1) = (Y.1, tckS Y.2 ((x38.n % 300) + 1)) := (plP_go hx39).trans (by rw [hY_]; exact step_tck (by omega))
   have h85 : sat g w81 [TW b16 64 ((plP q T0 (i + 1)).1), Wd b17 (tckS Y.2 ((x38.n % 300) + 1)), z11x1 r10 q, z11x2 r13, z11x4 r21 b16 b17, Old wo, z11x3 p k c q cs, RwsM cs, R] := sat_imp (tk9 (sf8 (sf7 (sf7 (sf7 (sf7 (sf8 (sf8 (sf8 (sf8 h82)))))))))) (fun _ hh_ => by rw [hs83]; exact hh_)
   have h87 : sat g w81 [Wd b17 ((plP q T0 (i + 1)).2), TW b16 64 ((plP q T0 (i + 1)).1), z11x1 r10 q, z11x2 r13, z11x4 r21 b16 b17, Old wo, z11x3 p k c q cs, RwsM cs, R] := sat_imp (tk9 (sf8 (sf7 (sf8 (sf8 (sf8 (sf8 (sf8 (sf8 (sf8 h85)))))))))) (fun _ hh_ => by rw [hs83]; exact hh_)
   have h88 := tk9 (sf8 (sf8 (sf8 (sf5 (sf4 (sf8 (sf8 (sf8 (sf8 h87)))))))))
   change ∃ n', n' < _ ∧ _
   refine ⟨(n0 - (i + 1)), by omega, (i + 1), (plP q T0 (i + 1)), p, k, c, cs, _, rfl, rfl, (hcs_.trans (mds_no hx39 (show ¬ isRun x38 by unfold isRun; omega)).symm), (by omega), (by omega), (lvF [.k 0 (.slice p0 n0 c0), .k 3 (pV r10), .k 4 (pV r13), .k 7 (pV r21), .k 8 (.bool true), .k 9 (.slice p k c), .o 10 (oJ .i64 ((i : Int) + 1) ((((i + 1) : Nat) : Int)))]), h88⟩
  refine go [.v 17 0 (qeF ((x38.k % 8)) 4), .s 19 0] ?_
  by_cases c89 : (x38.k % 8) = 5
  ·
   refine go [.v 19 0 (qeT ((x38.k % 8)) 5)] <| dw (fls [0, 1, 2] (Tr.an 3 (Tr.an 4 Tr.nil))) h33 fun _ h91 => go [rd 20 1 2 1 1 h91] <| cw0 Tryz.call33 (answers_ht x38.n (by omega)) h91 fun _ h93 => ⟨kd [rd 0 1 2 1 1 h93], ?_⟩
   refine cw2 Tryz.call32 (wansw_ht wo hg b17 Y.2 (ansW x38.n) (by have := ansW_len x38.n; omega)) (tk9 (sf8 (sf8 (sf6 (sf6 (sf6 (sf6 (sf8 (sf8 (sf8 h93)))))))))) fun w95 h96 => ⟨kd [], ?_⟩
   refine go [.v 5 1 (oIr ((i : Int) + 1))] ?_
   refine enL ?_
   have hs97 : plP q T0 (i + 1) = (Y.1, aswS Y.2 (ansW x38.n)) := (plP_go hx39).trans (by rw [hY_]; exact step_asw (by omega))
   have h99 : sat g w95 [TW b16 64 ((plP q T0 (i + 1)).1), Wd b17 (aswS Y.2 (ansW x38.n)), Old wo, z11x1 r10 q, z11x2 r13, z11x4 r21 b16 b17, z11x3 p k c q cs, RwsM cs, R] := sat_imp (tk9 (sf8 (sf7 (sf7 (sf7 (sf7 (sf7 (sf8 (sf8 (sf8 h96)))))))))) (fun _ hh_ => by rw [hs97]; exact hh_)
   have h101 : sat g w95 [Wd b17 ((plP q T0 (i + 1)).2), TW b16 64 ((plP q T0 (i + 1)).1), Old wo, z11x1 r10 q, z11x2 r13, z11x4 r21 b16 b17, z11x3 p k c q cs, RwsM cs, R] := sat_imp (tk9 (sf8 (sf7 (sf8 (sf8 (sf8 (sf8 (sf8 (sf8 (sf8 h99)))))))))) (fun _ hh_ => by rw [hs97]; exact hh_)
   have h102 := tk9 (sf8 (sf8 (sf8 (sf5 (sf4 (sf5 (sf8 (sf8 (sf8 h101)))))))))
   change ∃ n', n' < _ ∧ _
   refine ⟨(n0 - (i + 1)), by omega, (i + 1), (plP q T0 (i + 1)), p, k, c, cs, _, rfl, rfl, (hcs_.trans (mds_no hx39 (show ¬ isRun x38 by unfold isRun; omega)).symm), (by omega), (by omega), (lvF [.k 0 (.slice p0 n0 c0), .k 3 (pV r10), .k 4 (pV r13), .k 7 (pV r21), .k 8 (.bool true), .k 9 (.slice p k c), .o 10 (oJ .i64 ((i : Int) + 1) ((((i + 1) : Nat) : Int)))]), h102⟩
  have hru105 := hok i x38 hx39 (show isRun x38 by unfold isRun; omega); rw [hY_] at hru105
  have h106 := tk9 (sf8 (sf8 (sf6 (sf6 (sf6 (sf8 (sf8 (sf8 (sf8 h33)))))))))
  refine go [.v 19 0 (qeF ((x38.k % 8)) 5), rd 8 0 2 0 2 h33, rd 8 1 0 0 10 h33] <| cP Tryz.call55 (lrun_ht b16 b17 Y.1 Y.2 q hc hru105) h106 ?_
  rintro v K _ (⟨x103, hx104, rfl, rfl⟩) h108
  have h109 := ap7 h108
  refine go [] <| nP 67 [iV 0, .slice none 0 0, .slice none 0 0, .slice none 0 0, .slice none 0 0, iV 0, .slice none 0 0, iV 0, iV 0, iV 0, iV 0, iV 0, iV 0, iV 0, iV 0, iV 0, uV 0] h109 (fun r110 _ h112 => ?_)
  refine sP [(0, iV x103.m.now), (1, .slice x103.pd x103.m.due.length x103.cd), (2, .slice x103.pw x103.m.was.length x103.cw), (3, .slice x103.pi x103.m.is.length x103.ci), (4, .slice x103.pt x103.m.tr.length x103.ct), (5, iV (((x103.m.inl.length : Nat) : Int))), (6, .slice x103.pl x103.m.inl.length x103.cl), (7, iV 0), (8, iV 0), (9, iV 0), (10, iV 0), (11, iV 0), (12, iV 0), (13, iV q.bt), (14, iV q.ba), (15, iV q.cp), (16, uV 0)] [iV x103.m.now, .slice x103.pd x103.m.due.length x103.cd, .slice x103.pw x103.m.was.length x103.cw, .slice x103.pi x103.m.is.length x103.ci, .slice x103.pt x103.m.tr.length x103.ct, iV (((x103.m.inl.length : Nat) : Int)), .slice x103.pl x103.m.inl.length x103.cl, iV 0, iV 0, iV 0, iV 0, iV 0, iV 0, iV q.bt, iV q.ba, iV q.cp, uV 0] h112 fun _ h114 => go [rd 10 1 0 0 17 h114] <| nG (fun q_ => .slice (some ⟨q_, 0, none⟩) 1 1) 67 [iV x103.m.now, .slice x103.pd x103.m.due.length x103.cd, .slice x103.pw x103.m.was.length x103.cw, .slice x103.pi x103.m.is.length x103.ci, .slice x103.pt x103.m.tr.length x103.ct, iV (((x103.m.inl.length : Nat) : Int)), .slice x103.pl x103.m.inl.length x103.cl, iV 0, iV 0, iV 0, iV 0, iV 0, iV 0, iV q.bt, iV q.ba, iV q.cp, uV 0] h114 (fun r115 _ h117 => ⟨kd [], ?_⟩)
  have h118 := tk16 (sf15 (sf14 (sf14 (sf14 (sf14 (sf14 (sf14 (sf14 (sf14 (sf14 (sf14 (sf14 (sf14 (sf14 (sf15 (sf15 h117))))))))))))))))
  refine actG ?_
  refine an_append (d := 48) (sz := 17) (s := (Operand.tmp 45)) (x := (Operand.tmp 47)) (z := .agg #[iV 0, .slice none 0 0, .slice none 0 0, .slice none 0 0, .slice none 0 0, iV 0, .slice none 0 0, iV 0, iV 0, iV 0, iV 0, iV 0, iV 0, iV 0, iV 0, iV 0, uV 0]) (p := p) (m := k) (c := c) (k := 1) (c2 := 1) (a := ⟨r115, 0, none⟩) (by_ := 216) (by kernel_rfl) (by kernel_rfl) rfl Tryz.underlying61 (by kernel_rfl) rfl (by decide) (by kernel_rfl) (by kernel_rfl) h118 (fl (eMd q) [x103]) rfl (fun j u hj => by rw [add_off]; exact sat_cell h118 1 rfl (by rw [Nat.zero_add]; exact hj)) (fl_one (eMd_ok q) _) (by omega) (by omega) (k + 1) (by omega) ?_
  intro p119 cap120 w121 h122
  have h123 : sat g w121 [Sl 67 17 p119 (k + 1) cap120 (fl (eMd q) (cs ++ [x103])), Cl r115 [iV x103.m.now, .slice x103.pd x103.m.due.length x103.cd, .slice x103.pw x103.m.was.length x103.cw, .slice x103.pi x103.m.is.length x103.ci, .slice x103.pt x103.m.tr.length x103.ct, iV (((x103.m.inl.length : Nat) : Int)), .slice x103.pl x103.m.inl.length x103.cl, iV 0, iV 0, iV 0, iV 0, iV 0, iV 0, iV q.bt, iV q.ba, iV q.cp, uV 0] 67, Cl r110 [iV x103.m.now, .slice x103.pd x103.m.due.length x103.cd, .slice x103.pw x103.m.was.length x103.cw, .slice x103.pi x103.m.is.length x103.ci, .slice x103.pt x103.m.tr.length x103.ct, iV (((x103.m.inl.length : Nat) : Int)), .slice x103.pl x103.m.inl.length x103.cl, iV 0, iV 0, iV 0, iV 0, iV 0, iV 0, iV q.bt, iV q.ba, iV q.cp, uV 0] 67, TW b16 64 ((rnS q (Y.1, Y.2)).1), Wd b17 ((rnS q (Y.1, Y.2)).2), Sl 3 1 x103.pd x103.m.due.length x103.cd (fl eI x103.m.due), Sl 82 8 x103.pw x103.m.was.length x103.cw (fl eRs x103.m.was), Sl 82 8 x103.pi x103.m.is.length x103.ci (fl eRs x103.m.is), Sl 74 6 x103.pt x103.m.tr.length x103.ct (fl eAt x103.m.tr), Sl 74 6 x103.pl x103.m.inl.length x103.cl (fl eAt x103.m.inl), z11x1 r10 q, z11x2 r13, z11x4 r21 b16 b17, Old wo, RwsM cs, R] := sat_imp h122 (fun _ hh => by rw [fl_app]; exact hh)
  obtain ⟨hn124, hn125⟩ := sl_le h123
  refine nxA <| go [.v 5 1 (oIr ((i : Int) + 1))] ?_
  refine enL ?_
  have hs126 : plP q T0 (i + 1) = ((rnS q (Y.1, Y.2)).1, (rnS q (Y.1, Y.2)).2) := (plP_go hx39).trans (by rw [hY_]; exact step_run (show isRun x38 by unfold isRun; omega))
  have h128 : sat g w121 [TW b16 64 ((plP q T0 (i + 1)).1), Sl 67 17 p119 (k + 1) cap120 (fl (eMd q) (cs ++ [x103])), Cl r115 [iV x103.m.now, .slice x103.pd x103.m.due.length x103.cd, .slice x103.pw x103.m.was.length x103.cw, .slice x103.pi x103.m.is.length x103.ci, .slice x103.pt x103.m.tr.length x103.ct, iV (((x103.m.inl.length : Nat) : Int)), .slice x103.pl x103.m.inl.length x103.cl, iV 0, iV 0, iV 0, iV 0, iV 0, iV 0, iV q.bt, iV q.ba, iV q.cp, uV 0] 67, Cl r110 [iV x103.m.now, .slice x103.pd x103.m.due.length x103.cd, .slice x103.pw x103.m.was.length x103.cw, .slice x103.pi x103.m.is.length x103.ci, .slice x103.pt x103.m.tr.length x103.ct, iV (((x103.m.inl.length : Nat) : Int)), .slice x103.pl x103.m.inl.length x103.cl, iV 0, iV 0, iV 0, iV 0, iV 0, iV 0, iV q.bt, iV q.ba, iV q.cp, uV 0] 67, Wd b17 ((rnS q (Y.1, Y.2)).2), Sl 3 1 x103.pd x103.m.due.length x103.cd (fl eI x103.m.due), Sl 82 8 x103.pw x103.m.was.length x103.cw (fl eRs x103.m.was), Sl 82 8 x103.pi x103.m.is.length x103.ci (fl eRs x103.m.is), Sl 74 6 x103.pt x103.m.tr.length x103.ct (fl eAt x103.m.tr), Sl 74 6 x103.pl x103.m.inl.length x103.cl (fl eAt x103.m.inl), z11x1 r10 q, z11x2 r13, z11x4 r21 b16 b17, Old wo, RwsM cs, R] := sat_imp (tk16 (sf15 (sf14 (sf14 (sf14 (sf15 (sf15 (sf15 (sf15 (sf15 (sf15 (sf15 (sf15 (sf15 (sf15 (sf15 (sf15 h123))))))))))))))))) (fun _ hh_ => by rw [hs126]; exact hh_)
  have h130 : sat g w121 [Wd b17 ((plP q T0 (i + 1)).2), TW b16 64 ((plP q T0 (i + 1)).1), Sl 67 17 p119 (k + 1) cap120 (fl (eMd q) (cs ++ [x103])), Cl r115 [iV x103.m.now, .slice x103.pd x103.m.due.length x103.cd, .slice x103.pw x103.m.was.length x103.cw, .slice x103.pi x103.m.is.length x103.ci, .slice x103.pt x103.m.tr.length x103.ct, iV (((x103.m.inl.length : Nat) : Int)), .slice x103.pl x103.m.inl.length x103.cl, iV 0, iV 0, iV 0, iV 0, iV 0, iV 0, iV q.bt, iV q.ba, iV q.cp, uV 0] 67, Cl r110 [iV x103.m.now, .slice x103.pd x103.m.due.length x103.cd, .slice x103.pw x103.m.was.length x103.cw, .slice x103.pi x103.m.is.length x103.ci, .slice x103.pt x103.m.tr.length x103.ct, iV (((x103.m.inl.length : Nat) : Int)), .slice x103.pl x103.m.inl.length x103.cl, iV 0, iV 0, iV 0, iV 0, iV 0, iV 0, iV q.bt, iV q.ba, iV q.cp, uV 0] 67, Sl 3 1 x103.pd x103.m.due.length x103.cd (fl eI x103.m.due), Sl 82 8 x103.pw x103.m.was.length x103.cw (fl eRs x103.m.was), Sl 82 8 x103.pi x103.m.is.length x103.ci (fl eRs x103.m.is), Sl 74 6 x103.pt x103.m.tr.length x103.ct (fl eAt x103.m.tr), Sl 74 6 x103.pl x103.m.inl.length x103.cl (fl eAt x103.m.inl), z11x1 r10 q, z11x2 r13, z11x4 r21 b16 b17, Old wo, RwsM cs, R] := sat_imp (tk16 (sf15 (sf14 (sf14 (sf14 (sf14 (sf15 (sf15 (sf15 (sf15 (sf15 (sf15 (sf15 (sf15 (sf15 (sf15 (sf15 h128))))))))))))))))) (fun _ hh_ => by rw [hs126]; exact hh_)
  have h132 : sat g w121 [RwsM (cs ++ [x103]), Wd b17 ((plP q T0 (i + 1)).2), TW b16 64 ((plP q T0 (i + 1)).1), Sl 67 17 p119 (k + 1) cap120 (fl (eMd q) (cs ++ [x103])), Cl r115 [iV x103.m.now, .slice x103.pd x103.m.due.length x103.cd, .slice x103.pw x103.m.was.length x103.cw, .slice x103.pi x103.m.is.length x103.ci, .slice x103.pt x103.m.tr.length x103.ct, iV (((x103.m.inl.length : Nat) : Int)), .slice x103.pl x103.m.inl.length x103.cl, iV 0, iV 0, iV 0, iV 0, iV 0, iV 0, iV q.bt, iV q.ba, iV q.cp, uV 0] 67, Cl r110 [iV x103.m.now, .slice x103.pd x103.m.due.length x103.cd, .slice x103.pw x103.m.was.length x103.cw, .slice x103.pi x103.m.is.length x103.ci, .slice x103.pt x103.m.tr.length x103.ct, iV (((x103.m.inl.length : Nat) : Int)), .slice x103.pl x103.m.inl.length x103.cl, iV 0, iV 0, iV 0, iV 0, iV 0, iV 0, iV q.bt, iV q.ba, iV q.cp, uV 0] 67, z11x1 r10 q, z11x2 r13, z11x4 r21 b16 b17, Old wo, R] := rwM_add (tk16 (sf15 (sf15 (sf15 (sf15 (sf15 (sf15 (sf9 (sf9 (sf9 (sf9 (sf9 (sf14 (sf14 (sf14 (sf14 (sf15 h130)))))))))))))))))
  have h134 := tk9 (tk11 (sf10 (sf10 (sf10 (sf7 (sf6 (sf10 (sf6 (sf3 (sf10 (sf5 (sf5 h132))))))))))))
  change ∃ n', n' < _ ∧ _
  refine ⟨(n0 - (i + 1)), by omega, (i + 1), (plP q T0 (i + 1)), p119, (k + 1), cap120, (cs ++ [x103]), _, rfl, rfl, (by rw [List.map_append, hcs_, mds_run hx39 (show isRun x38 by unfold isRun; omega), hY_]; show mdsP q T0 i ++ [x103.m] = _; rw [hx104]), (by omega), (by omega), (lvF [.k 0 (.slice p0 n0 c0), .k 3 (pV r10), .k 4 (pV r13), .k 7 (pV r21), .k 8 (.bool true), .k 9 (.slice p119 (k + 1) cap120), .o 10 (oJ .i64 ((i : Int) + 1) ((((i + 1) : Nat) : Int)))]), h134⟩
 refine go [.v 4 3 (oF ((i : Int) < (n0 : Int)))] <| up ?_
 have h135 := tk9 (sf8 (sf7 (sf8 (sf8 (sf8 (sf8 (sf8 (sf8 (sf8 h33)))))))))
 refine go [rd 21 0 2 0 2 h33] <| sP [(0, pV b16), (1, pV b17)] [pV b16, pV b17] h135 fun w136 h137 => go [] ?_
 have hi2_ : i = n0 := by omega
 have h139 : sat g w136 [TW b16 64 ((plP q T0 n0).1), Cl r13 [pV b16, pV b17] 28, z11x1 r10 q, z11x4 r21 b16 b17, Wd b17 Y.2, Old wo, z11x3 p k c q cs, RwsM cs, R] := sat_imp (tk9 (sf8 (sf7 (sf7 (sf7 (sf8 (sf8 (sf8 (sf8 (sf8 h137)))))))))) (fun _ hh_ => by rw [← hi2_, hY_]; exact hh_)
 have h141 : sat g w136 [Wd b17 ((plP q T0 n0).2), TW b16 64 ((plP q T0 n0).1), Cl r13 [pV b16, pV b17] 28, z11x1 r10 q, z11x4 r21 b16 b17, Old wo, z11x3 p k c q cs, RwsM cs, R] := sat_imp (tk9 (sf8 (sf7 (sf7 (sf7 (sf7 (sf8 (sf8 (sf8 (sf8 h139)))))))))) (fun _ hh_ => by rw [← hi2_, hY_]; exact hh_)
 have h142 := tk9 (sf8 (sf7 (sf7 (sf7 (sf7 (sf7 (sf7 (sf8 (sf8 h141)))))))))
 have hl143 := fl_n (eMd_ok q) (by decide) h142
 have h144 : sat g w136 [Sl 67 17 p cs.length c (fl (eMd q) cs), Wd b17 ((plP q T0 n0).2), TW b16 64 ((plP q T0 n0).1), Cl r13 [pV b16, pV b17] 28, z11x1 r10 q, z11x4 r21 b16 b17, Old wo, RwsM cs, R] := sat_imp h142 (fun _ hh_ => by rw [hl143]; exact hh_)
 exact en (.tuple #[.agg #[pV b16, pV b17], .slice p k c, .bool true]) [rd 0 0 0 0 2 h137] ⟨_, _, rfl, ⟨b16, b17, p, c, cs, by rw [← hi2_]; exact hcs_, by rw [hl143], rfl⟩, (tk6 (sf5 (sf5 (sf5 (sf5 (sf5 (sf8 (tk9 (sf8 (sf7 (sf6 (sf8 (sf7 (sf6 (sf6 (sf6 (sf8 h144)))))))))))))))))⟩

end Go.Proofs.YtehlamblpekmkaaGreatDoor

/-
  The chapter's example, written out. No program in sight.
-/
namespace Go.Proofs.YtehlamblpekmkaaGreatDoor
set_option maxHeartbeats 4000000
def wk1 : Pw := (ts0, aswS (wnew 1) [111, 111, 111, 108, 108, 108, 108])
def wkO1 : Pw := opnP (wk1.1, wk1.2) 0 0
def wkO2 : Pw := opnP (wkO1.1, wkO1.2) 0 1
def wkO3 : Pw := opnP (wkO2.1, wkO2.2) 0 2
def wk3 : Pw := (wkO3.1, tckS wkO3.2 5)
def clo1 (X : Pw) (i : Int) : Pw := (setS (expS X.1 i) i (cloR (getR X.1 i) 1 5), X.2)
def wkC1 : Pw := clo1 wk3 1
def wkC2 : Pw := clo1 wkC1 2
def wkC3 : Pw := clo1 wkC2 3
def wk5 : Pw := rnS (⟨2, 10, 25⟩ : Cf) (wkC3.1, wkC3.2)
def wk6 : Pw := rnS (⟨2, 10, 25⟩ : Cf) (wk5.1, wk5.2)
def runOkB (c : Cf) (now : Int) (X : Pw) (l : List Int) : Bool := (List.range l.length).all fun i =>
  decide (nE (stB c now X l i).1 (l.getD i 0) = 0) && decide ((getR (stB c now X l i).1 (l.getD i 0)).st = 2) && decide (relE (stB c now X l i).2 (getR (stB c now X l i).1 (l.getD i 0)).out (getR (stB c now X l i).1 (l.getD i 0)).why = 0)
theorem runOkB_ok {c : Cf} {now : Int} {X : Pw} {l : List Int} (h : runOkB c now X l = true) : RunOk c now X l := by
  intro i n hn
  unfold runOkB at h
  rw [List.all_eq_true] at h
  have h1 := h i (List.mem_range.2 (List.getElem?_eq_some_iff.1 hn).1)
  rw [show l.getD i 0 = n by rw [List.getD_eq_getElem?_getD, hn]; rfl] at h1
  simp only [Bool.and_eq_true, decide_eq_true_eq] at h1
  exact ⟨h1.1.1, h1.1.2, h1.2⟩
theorem wk_a : aswE (wnew 1) [111, 111, 111, 108, 108, 108, 108] = 0 := by kernel_rfl
theorem wk_t : tckE wkO3.2 5 = 0 := by kernel_rfl
theorem wk_l3 : wk3.1.R.length = 3 := by kernel_rfl
theorem wk_l4 : wkC1.1.R.length = 3 := by kernel_rfl
theorem wk_l5 : wkC2.1.R.length = 3 := by kernel_rfl
theorem wk_s1 : (getR wk3.1 1).st = 1 := by kernel_rfl
theorem wk_s2 : (getR wkC1.1 2).st = 1 := by kernel_rfl
theorem wk_s3 : (getR wkC2.1 3).st = 1 := by kernel_rfl
theorem wk_r5 : RunOk (⟨2, 10, 25⟩ : Cf) wkC3.2.now (wkC3.1, wkC3.2) (dueB wkC3.1 wkC3.2.now 2) := runOkB_ok (by kernel_rfl)
theorem wk_r6 : RunOk (⟨2, 10, 25⟩ : Cf) wk5.2.now (wk5.1, wk5.2) (dueB wk5.1 wk5.2.now 2) := runOkB_ok (by kernel_rfl)
theorem wk_n5 : (rnL (⟨2, 10, 25⟩ : Cf) (wkC3.1, wkC3.2)).length = 2 := by kernel_rfl
theorem wk_n6 : (rnL (⟨2, 10, 25⟩ : Cf) (wk5.1, wk5.2)).length = 1 := by kernel_rfl
theorem wk_5 : (rnL (⟨2, 10, 25⟩ : Cf) (wkC3.1, wkC3.2))[1]? = some ⟨5, (1, 1, 1), 1, 2⟩ := by kernel_rfl
theorem wk_6 : ∃ x, (rnL (⟨2, 10, 25⟩ : Cf) (wk5.1, wk5.2))[0]? = some x ∧ x.out.2.1 = 2 := ⟨⟨5, (1, 2, 1), 1, 2⟩, by kernel_rfl, rfl⟩
theorem wk_w : ((srtB wk6.1)[0]?.map (nxR wk6.1)).getD 0 = 15 ∧ decide (0 < (srtB wk6.1).length) = true ∧ (nums wk6.1.R 2).length = 3 := ⟨by kernel_rfl, by kernel_rfl, by kernel_rfl⟩
end Go.Proofs.YtehlamblpekmkaaGreatDoor

/- Walks, printed by my generator q12.py. -/
namespace Go.Proofs.YtehlamblpekmkaaGreatDoor
set_option maxHeartbeats 4000000
theorem q12e74_eql_t {n : Nat} {l : Fr} {o : Oper} {x y : Operand} (a0 : Int) (a1 : Int) (a2 : Int) (a3 : Int) (a4 : Int) (a5 : Int) (c0 : Int) (c1 : Int) (c2 : Int) (c3 : Int) (c4 : Int) (c5 : Int) (ho : o.op = .binOp .eql 74 x y 74) (hx : fe n l x = .agg #[.int .i64 a0, .int .i64 a1, .int .i64 a2, .int .u32 a3, .int .i64 a4, .int .i64 a5]) (hy : fe n l y = .agg #[.int .i64 c0, .int .i64 c1, .int .i64 c2, .int .u32 c3, .int .i64 c4, .int .i64 c5]) (h : a0 = c0 ∧ a1 = c1 ∧ a2 = c2 ∧ a3 = c3 ∧ a4 = c4 ∧ a5 = c5) (w : World) : (execOp (fe n l) o).run Tryz.prog w = .ok (.value (.bool true)) w := by
  obtain ⟨rfl, rfl, rfl, rfl, rfl, rfl⟩ := h
  simp [execOp, ho, hx, hy, go_sem]
abbrev z12x1 := fun r109 (C2 : Pw) => Cl r109 [iV ((getR C2.1 3).out.1), iV ((getR C2.1 3).out.2.1), uV ((getR C2.1 3).out.2.2), iV ((getR C2.1 3).st), iV ((getR C2.1 3).why), iV ((getR C2.1 3).tr), iV ((getR C2.1 3).nx), .string (St ((getR C2.1 3).tag))] 82
abbrev z12x2 := fun r55 (X3 : Pw) => Cl r55 [iV ((getR X3.1 1).out.1), iV ((getR X3.1 1).out.2.1), uV ((getR X3.1 1).out.2.2), iV ((getR X3.1 1).st), iV ((getR X3.1 1).why), iV ((getR X3.1 1).tr), iV ((getR X3.1 1).nx), .string (St ((getR X3.1 1).tag))] 82
abbrev z12x3 := fun r82 (C1 : Pw) => Cl r82 [iV ((getR C1.1 2).out.1), iV ((getR C1.1 2).out.2.1), uV ((getR C1.1 2).out.2.2), iV ((getR C1.1 2).st), iV ((getR C1.1 2).why), iV ((getR C1.1 2).tr), iV ((getR C1.1 2).nx), .string (St ((getR C1.1 2).tag))] 82
abbrev z12x4 := fun r116 (C2 : Pw) => Cl r116 [iV ((getR C2.1 3).out.1), iV ((getR C2.1 3).out.2.1), uV ((getR C2.1 3).out.2.2), iV 2, iV 1, iV ((getR C2.1 3).tr), iV 5, .string (St ((getR C2.1 3).tag))] 82
abbrev z12x5 := fun r62 (X3 : Pw) => Cl r62 [iV ((getR X3.1 1).out.1), iV ((getR X3.1 1).out.2.1), uV ((getR X3.1 1).out.2.2), iV 2, iV 1, iV ((getR X3.1 1).tr), iV 5, .string (St ((getR X3.1 1).tag))] 82
abbrev z12x6 := fun r89 (C1 : Pw) => Cl r89 [iV ((getR C1.1 2).out.1), iV ((getR C1.1 2).out.2.1), uV ((getR C1.1 2).out.2.2), iV 2, iV 1, iV ((getR C1.1 2).tr), iV 5, .string (St ((getR C1.1 2).tag))] 82
abbrev z12x7 := fun p121 (C2 : Pw) c122 eO => Sl 144 3 p121 (((descs C2.1.E 3).length)) c122 (fl eO (descs C2.1.E 3))
abbrev z12x8 := fun p67 (X3 : Pw) c68 eO => Sl 144 3 p67 (((descs X3.1.E 1).length)) c68 (fl eO (descs X3.1.E 1))
abbrev z12x9 := fun p94 (C1 : Pw) c95 eO => Sl 144 3 p94 (((descs C1.1.E 2).length)) c95 (fl eO (descs C1.1.E 2))
abbrev z12x10 := fun r15 b10 b11 => Cl r15 [pV b10, pV b11] 28
theorem works_gen (wo : World) (hg : Lett wo) (X1 O1 O2 O3 X3 C1 C2 C3 X5 X6 : Pw) (e1 : X1 = (ts0, aswS (wnew 1) [111, 111, 111, 108, 108, 108, 108])) (eO1 : O1 = opnP (X1.1, X1.2) 0 0) (eO2 : O2 = opnP (O1.1, O1.2) 0 1) (eO3 : O3 = opnP (O2.1, O2.2) 0 2) (eX3 : X3 = (O3.1, tckS O3.2 5)) (eC1 : C1 = (setS (expS X3.1 1) 1 (cloR (getR X3.1 1) 1 5), X3.2)) (eC2 : C2 = (setS (expS C1.1 2) 2 (cloR (getR C1.1 2) 1 5), C1.2)) (eC3 : C3 = (setS (expS C2.1 3) 3 (cloR (getR C2.1 3) 1 5), C2.2)) (eX5 : X5 = rnS (⟨2, 10, 25⟩ : Cf) (C3.1, C3.2)) (eX6 : X6 = rnS (⟨2, 10, 25⟩ : Cf) (X5.1, X5.2)) (ht : tckE O3.2 5 = 0) (hl1 : X3.1.R.length = 3) (hl2 : C1.1.R.length = 3) (hl3 : C2.1.R.length = 3) (hs1 : (getR X3.1 1).st = 1) (hs2 : (getR C1.1 2).st = 1) (hs3 : (getR C2.1 3).st = 1) (hr5 : RunOk (⟨2, 10, 25⟩ : Cf) C3.2.now (C3.1, C3.2) (dueB C3.1 C3.2.now 2)) (hr6 : RunOk (⟨2, 10, 25⟩ : Cf) X5.2.now (X5.1, X5.2) (dueB X5.1 X5.2.now 2)) (hn5 : (rnL (⟨2, 10, 25⟩ : Cf) (C3.1, C3.2)).length = 2) (hn6 : (rnL (⟨2, 10, 25⟩ : Cf) (X5.1, X5.2)).length = 1) (h5 : (rnL (⟨2, 10, 25⟩ : Cf) (C3.1, C3.2))[1]? = some ⟨5, (1, 1, 1), 1, 2⟩) (h6 : ∃ x, (rnL (⟨2, 10, 25⟩ : Cf) (X5.1, X5.2))[0]? = some x ∧ x.out.2.1 = 2) (hw : ((srtB X6.1)[0]?.map (nxR X6.1)).getD 0 = 15 ∧ decide (0 < (srtB X6.1).length) = true ∧ (nums X6.1.R 2).length = 3) : HT Tryz.prog 16 [] [Old wo] (fun v K => v = .bool true ∧ K = [Old wo]) := by
 refine hiS Tryz.func16 Tryz.ntmps16 fun g w0 R h0 => go [] <| cP Tryz.call10 (begin_ht) h0 ?_
 rintro v K _ (⟨b10, b11, rfl, rfl⟩) h13
 have h14 := ap2 h13
 refine go [] <| nP 28 [.pointer none, .pointer none] h14 (fun r15 _ h17 => ?_)
 refine sP [(0, pV b10), (1, pV b11)] [pV b10, pV b11] h17 fun _ h19 => ?_
 have h20 := tk5 (sf4 (sf4 (sf2 (sf2 (sf4 h19)))))
 refine go [rd 2 4 0 1 1 h19] <| cl2 Tryz.call32 ((by have h_ := wansw_ht wo hg b11 (wnew 1) [111, 111, 111, 108, 108, 108, 108] (by decide); rw [wk_a] at h_; exact h_)) h20 fun w21 h22 => ?_
 have h24 : sat g w21 [TW b10 64 X1.1, Wd b11 (aswS (wnew 1) [111, 111, 111, 108, 108, 108, 108]), Old wo, z12x10 r15 b10 b11, R] := sat_imp (tk5 (sf4 (sf3 (sf3 (sf3 (sf4 h22)))))) (fun _ hh_ => by rw [e1]; exact hh_)
 have h26 : sat g w21 [Wd b11 X1.2, TW b10 64 X1.1, Old wo, z12x10 r15 b10 b11, R] := sat_imp (tk5 (sf4 (sf3 (sf4 (sf4 (sf4 h24)))))) (fun _ hh_ => by rw [e1]; exact hh_)
 refine go [] <| unS 3 ?_
 have h27 := tk5 (sf4 (sf3 (sf4 (sf4 (sf4 h26)))))
 refine go [rd 7 0 3 0 2 h26] <| cl2 Tryz.call26 (open_ht b10 b11 X1.1 X1.2 0 0 (by omega) (by omega)) h27 fun w28 h29 => ?_
 have h30 : sat g w28 [TW b10 64 O1.1, Wd b11 ((opnP (X1.1, X1.2) 0 0).2), Old wo, z12x10 r15 b10 b11, R] := sat_imp h29 (fun _ hh_ => by rw [eO1]; exact hh_)
 have h32 : sat g w28 [Wd b11 O1.2, TW b10 64 O1.1, Old wo, z12x10 r15 b10 b11, R] := sat_imp (tk5 (sf4 (sf3 (sf4 (sf4 (sf4 h30)))))) (fun _ hh_ => by rw [eO1]; exact hh_)
 refine go [] <| unN ?_
 have h33 := tk5 (sf4 (sf3 (sf4 (sf4 (sf4 h32)))))
 refine go [rd 7 0 3 0 2 h32] <| cl2 Tryz.call26 (open_ht b10 b11 O1.1 O1.2 0 1 (by omega) (by omega)) h33 fun w34 h35 => ?_
 have h36 : sat g w34 [TW b10 64 O2.1, Wd b11 ((opnP (O1.1, O1.2) 0 1).2), Old wo, z12x10 r15 b10 b11, R] := sat_imp h35 (fun _ hh_ => by rw [eO2]; exact hh_)
 have h38 : sat g w34 [Wd b11 O2.2, TW b10 64 O2.1, Old wo, z12x10 r15 b10 b11, R] := sat_imp (tk5 (sf4 (sf3 (sf4 (sf4 (sf4 h36)))))) (fun _ hh_ => by rw [eO2]; exact hh_)
 refine go [] <| unN ?_
 have h39 := tk5 (sf4 (sf3 (sf4 (sf4 (sf4 h38)))))
 refine go [rd 7 0 3 0 2 h38] <| cl2 Tryz.call26 (open_ht b10 b11 O2.1 O2.2 0 2 (by omega) (by omega)) h39 fun w40 h41 => ?_
 have h42 : sat g w40 [TW b10 64 O3.1, Wd b11 ((opnP (O2.1, O2.2) 0 2).2), Old wo, z12x10 r15 b10 b11, R] := sat_imp h41 (fun _ hh_ => by rw [eO3]; exact hh_)
 have h44 : sat g w40 [Wd b11 O3.2, TW b10 64 O3.1, Old wo, z12x10 r15 b10 b11, R] := sat_imp (tk5 (sf4 (sf3 (sf4 (sf4 (sf4 h42)))))) (fun _ hh_ => by rw [eO3]; exact hh_)
 refine go [] <| unN <| go [] <| up <| go [rd 8 1 3 1 1 h44] <| cl1 Tryz.call30 ((by have h_ := wtick_ht b11 O3.2 5; rw [ht] at h_; exact h_)) h44 fun w45 h46 => ?_
 have h48 : sat g w45 [TW b10 64 X3.1, Wd b11 (tckS O3.2 5), Old wo, z12x10 r15 b10 b11, R] := sat_imp (tk5 (sf4 (sf3 (sf4 (sf4 (sf4 h46)))))) (fun _ hh_ => by rw [eX3]; exact hh_)
 have h50 : sat g w45 [Wd b11 X3.2, TW b10 64 X3.1, Old wo, z12x10 r15 b10 b11, R] := sat_imp (tk5 (sf4 (sf3 (sf4 (sf4 (sf4 h48)))))) (fun _ hh_ => by rw [eX3]; exact hh_)
 refine go [] <| unS 3 ?_
 have hg51n : nE X3.1 1 = 0 := if_pos ⟨by omega, by omega⟩; have hg51 : resR (getR X3.1 1) = 0 ∧ 0 ≤ (getR X3.1 1).out.2.2 ∧ (getR X3.1 1).out.2.2 ≤ 4294967295 ∧ (getR X3.1 1).tag.length ≤ 96 := wf_get (tw_ok (j := 1) h50 rfl) hg51n; have hg51a := hg51.2.1; have hg51b := hg51.2.2.1; have hg51c := hg51.2.2.2
 have h52 := tk5 (sf4 (sf3 (sf4 (sf4 (sf4 h50)))))
 refine go [rd 13 1 3 0 1 h50] <| cl1 Tryz.call45 ((by have h_ := tget_w b10 64 X3.1 1; rw [hg51n] at h_; exact h_)) h52 fun _ h54 => ?_
 refine go [] <| nP 82 [iV 0, iV 0, uV 0, iV 0, iV 0, iV 0, iV 0, .string (St [])] h54 (fun r55 _ h57 => ?_)
 refine sP [(0, iV ((getR X3.1 1).out.1)), (1, iV ((getR X3.1 1).out.2.1)), (2, uV ((getR X3.1 1).out.2.2)), (3, iV ((getR X3.1 1).st)), (4, iV ((getR X3.1 1).why)), (5, iV ((getR X3.1 1).tr)), (6, iV ((getR X3.1 1).nx)), (7, .string (St ((getR X3.1 1).tag)))] [iV ((getR X3.1 1).out.1), iV ((getR X3.1 1).out.2.1), uV ((getR X3.1 1).out.2.2), iV ((getR X3.1 1).st), iV ((getR X3.1 1).why), iV ((getR X3.1 1).tr), iV ((getR X3.1 1).nx), .string (St ((getR X3.1 1).tag))] h57 fun _ h59 => go [rd 14 0 0 0 8 h59] <| cl0 Tryz.call52 (rclo_ok (getR X3.1 1) hg51.1 (by omega) (by omega) 1 5 (by omega) (by omega) (by omega)) h59 fun _ h61 => go [] <| nP 82 [iV 0, iV 0, uV 0, iV 0, iV 0, iV 0, iV 0, .string (St [])] h61 (fun r62 _ h64 => ?_)
 refine sP [(0, iV ((getR X3.1 1).out.1)), (1, iV ((getR X3.1 1).out.2.1)), (2, uV ((getR X3.1 1).out.2.2)), (3, iV 2), (4, iV 1), (5, iV ((getR X3.1 1).tr)), (6, iV 5), (7, .string (St ((getR X3.1 1).tag)))] [iV ((getR X3.1 1).out.1), iV ((getR X3.1 1).out.2.1), uV ((getR X3.1 1).out.2.2), iV 2, iV 1, iV ((getR X3.1 1).tr), iV 5, .string (St ((getR X3.1 1).tag))] h64 fun _ h66 => ?_
 have h69 := tk7 (sf6 (sf5 (sf5 (sf6 (sf6 (sf6 (sf6 h66)))))))
 refine go [rd 17 1 5 0 1 h66] <| cP Tryz.call53 (texp_w b10 64 X3.1 1) h69 ?_
 rintro v K _ (⟨p67, c68, rfl, rfl⟩) h71
 have h72 := ap2 h71
 refine go [rd 18 1 6 0 1 h72, rd 18 3 2 0 8 h72] <| cl1 Tryz.call54 (tset_w b10 64 (expS X3.1 1) 1 ((getR X3.1 1).out.1) ((getR X3.1 1).out.2.1) ((getR X3.1 1).out.2.2) 2 1 ((getR X3.1 1).tr) 5 ((getR X3.1 1).tag) (by omega) (by omega) (by omega)) h72 fun w73 h74 => ?_
 have h75 : sat g w73 [TW b10 64 C1.1, z12x8 p67 X3 c68 eO, z12x5 r62 X3, z12x2 r55 X3, Wd b11 X3.2, Old wo, z12x10 r15 b10 b11, R] := sat_imp h74 (fun _ hh_ => by rw [eC1]; exact hh_)
 have h77 : sat g w73 [Wd b11 C1.2, TW b10 64 C1.1, z12x8 p67 X3 c68 eO, z12x5 r62 X3, z12x2 r55 X3, Old wo, z12x10 r15 b10 b11, R] := sat_imp (tk8 (sf7 (sf6 (sf6 (sf6 (sf6 (sf7 (sf7 (sf7 h75))))))))) (fun _ hh_ => by rw [eC1]; exact hh_)
 refine go [] <| unN ?_
 have hg78n : nE C1.1 2 = 0 := if_pos ⟨by omega, by omega⟩; have hg78 : resR (getR C1.1 2) = 0 ∧ 0 ≤ (getR C1.1 2).out.2.2 ∧ (getR C1.1 2).out.2.2 ≤ 4294967295 ∧ (getR C1.1 2).tag.length ≤ 96 := wf_get (tw_ok (j := 1) h77 rfl) hg78n; have hg78a := hg78.2.1; have hg78b := hg78.2.2.1; have hg78c := hg78.2.2.2
 have h79 := tk8 (sf7 (sf6 (sf7 (sf7 (sf7 (sf7 (sf7 (sf7 h77))))))))
 refine go [rd 13 1 6 0 1 h77] <| cl1 Tryz.call45 ((by have h_ := tget_w b10 64 C1.1 2; rw [hg78n] at h_; exact h_)) h79 fun _ h81 => ?_
 refine go [] <| nP 82 [iV 0, iV 0, uV 0, iV 0, iV 0, iV 0, iV 0, .string (St [])] h81 (fun r82 _ h84 => ?_)
 refine sP [(0, iV ((getR C1.1 2).out.1)), (1, iV ((getR C1.1 2).out.2.1)), (2, uV ((getR C1.1 2).out.2.2)), (3, iV ((getR C1.1 2).st)), (4, iV ((getR C1.1 2).why)), (5, iV ((getR C1.1 2).tr)), (6, iV ((getR C1.1 2).nx)), (7, .string (St ((getR C1.1 2).tag)))] [iV ((getR C1.1 2).out.1), iV ((getR C1.1 2).out.2.1), uV ((getR C1.1 2).out.2.2), iV ((getR C1.1 2).st), iV ((getR C1.1 2).why), iV ((getR C1.1 2).tr), iV ((getR C1.1 2).nx), .string (St ((getR C1.1 2).tag))] h84 fun _ h86 => go [rd 14 0 0 0 8 h86] <| cl0 Tryz.call52 (rclo_ok (getR C1.1 2) hg78.1 (by omega) (by omega) 1 5 (by omega) (by omega) (by omega)) h86 fun _ h88 => go [] <| nP 82 [iV 0, iV 0, uV 0, iV 0, iV 0, iV 0, iV 0, .string (St [])] h88 (fun r89 _ h91 => ?_)
 refine sP [(0, iV ((getR C1.1 2).out.1)), (1, iV ((getR C1.1 2).out.2.1)), (2, uV ((getR C1.1 2).out.2.2)), (3, iV 2), (4, iV 1), (5, iV ((getR C1.1 2).tr)), (6, iV 5), (7, .string (St ((getR C1.1 2).tag)))] [iV ((getR C1.1 2).out.1), iV ((getR C1.1 2).out.2.1), uV ((getR C1.1 2).out.2.2), iV 2, iV 1, iV ((getR C1.1 2).tr), iV 5, .string (St ((getR C1.1 2).tag))] h91 fun _ h93 => ?_
 have h96 := tk10 (sf9 (sf8 (sf8 (sf9 (sf9 (sf9 (sf9 (sf9 (sf9 (sf9 h93))))))))))
 refine go [rd 17 1 8 0 1 h93] <| cP Tryz.call53 (texp_w b10 64 C1.1 2) h96 ?_
 rintro v K _ (⟨p94, c95, rfl, rfl⟩) h98
 have h99 := ap2 h98
 refine go [rd 18 1 9 0 1 h99, rd 18 3 2 0 8 h99] <| cl1 Tryz.call54 (tset_w b10 64 (expS C1.1 2) 2 ((getR C1.1 2).out.1) ((getR C1.1 2).out.2.1) ((getR C1.1 2).out.2.2) 2 1 ((getR C1.1 2).tr) 5 ((getR C1.1 2).tag) (by omega) (by omega) (by omega)) h99 fun w100 h101 => ?_
 have h102 : sat g w100 [TW b10 64 C2.1, z12x9 p94 C1 c95 eO, z12x6 r89 C1, z12x3 r82 C1, Wd b11 C1.2, z12x8 p67 X3 c68 eO, z12x5 r62 X3, z12x2 r55 X3, Old wo, z12x10 r15 b10 b11, R] := sat_imp h101 (fun _ hh_ => by rw [eC2]; exact hh_)
 have h104 : sat g w100 [Wd b11 C2.2, TW b10 64 C2.1, z12x9 p94 C1 c95 eO, z12x6 r89 C1, z12x3 r82 C1, z12x8 p67 X3 c68 eO, z12x5 r62 X3, z12x2 r55 X3, Old wo, z12x10 r15 b10 b11, R] := sat_imp (tk11 (sf10 (sf9 (sf9 (sf9 (sf9 (sf10 (sf10 (sf10 (sf10 (sf10 (sf10 h102)))))))))))) (fun _ hh_ => by rw [eC2]; exact hh_)
 refine go [] <| unN ?_
 have hg105n : nE C2.1 3 = 0 := if_pos ⟨by omega, by omega⟩; have hg105 : resR (getR C2.1 3) = 0 ∧ 0 ≤ (getR C2.1 3).out.2.2 ∧ (getR C2.1 3).out.2.2 ≤ 4294967295 ∧ (getR C2.1 3).tag.length ≤ 96 := wf_get (tw_ok (j := 1) h104 rfl) hg105n; have hg105a := hg105.2.1; have hg105b := hg105.2.2.1; have hg105c := hg105.2.2.2
 have h106 := tk11 (sf10 (sf9 (sf10 (sf10 (sf10 (sf10 (sf10 (sf10 (sf10 (sf10 (sf10 h104)))))))))))
 refine go [rd 13 1 9 0 1 h104] <| cl1 Tryz.call45 ((by have h_ := tget_w b10 64 C2.1 3; rw [hg105n] at h_; exact h_)) h106 fun _ h108 => ?_
 refine go [] <| nP 82 [iV 0, iV 0, uV 0, iV 0, iV 0, iV 0, iV 0, .string (St [])] h108 (fun r109 _ h111 => ?_)
 refine sP [(0, iV ((getR C2.1 3).out.1)), (1, iV ((getR C2.1 3).out.2.1)), (2, uV ((getR C2.1 3).out.2.2)), (3, iV ((getR C2.1 3).st)), (4, iV ((getR C2.1 3).why)), (5, iV ((getR C2.1 3).tr)), (6, iV ((getR C2.1 3).nx)), (7, .string (St ((getR C2.1 3).tag)))] [iV ((getR C2.1 3).out.1), iV ((getR C2.1 3).out.2.1), uV ((getR C2.1 3).out.2.2), iV ((getR C2.1 3).st), iV ((getR C2.1 3).why), iV ((getR C2.1 3).tr), iV ((getR C2.1 3).nx), .string (St ((getR C2.1 3).tag))] h111 fun _ h113 => go [rd 14 0 0 0 8 h113] <| cl0 Tryz.call52 (rclo_ok (getR C2.1 3) hg105.1 (by omega) (by omega) 1 5 (by omega) (by omega) (by omega)) h113 fun _ h115 => go [] <| nP 82 [iV 0, iV 0, uV 0, iV 0, iV 0, iV 0, iV 0, .string (St [])] h115 (fun r116 _ h118 => ?_)
 refine sP [(0, iV ((getR C2.1 3).out.1)), (1, iV ((getR C2.1 3).out.2.1)), (2, uV ((getR C2.1 3).out.2.2)), (3, iV 2), (4, iV 1), (5, iV ((getR C2.1 3).tr)), (6, iV 5), (7, .string (St ((getR C2.1 3).tag)))] [iV ((getR C2.1 3).out.1), iV ((getR C2.1 3).out.2.1), uV ((getR C2.1 3).out.2.2), iV 2, iV 1, iV ((getR C2.1 3).tr), iV 5, .string (St ((getR C2.1 3).tag))] h118 fun _ h120 => ?_
 have h123 := tk13 (sf12 (sf11 (sf11 (sf12 (sf12 (sf12 (sf12 (sf12 (sf12 (sf12 (sf12 (sf12 (sf12 h120)))))))))))))
 refine go [rd 17 1 11 0 1 h120] <| cP Tryz.call53 (texp_w b10 64 C2.1 3) h123 ?_
 rintro v K _ (⟨p121, c122, rfl, rfl⟩) h125
 have h126 := ap2 h125
 refine go [rd 18 1 12 0 1 h126, rd 18 3 2 0 8 h126] <| cl1 Tryz.call54 (tset_w b10 64 (expS C2.1 3) 3 ((getR C2.1 3).out.1) ((getR C2.1 3).out.2.1) ((getR C2.1 3).out.2.2) 2 1 ((getR C2.1 3).tr) 5 ((getR C2.1 3).tag) (by omega) (by omega) (by omega)) h126 fun w127 h128 => ?_
 have h129 : sat g w127 [TW b10 64 C3.1, z12x7 p121 C2 c122 eO, z12x4 r116 C2, z12x1 r109 C2, Wd b11 C2.2, z12x9 p94 C1 c95 eO, z12x6 r89 C1, z12x3 r82 C1, z12x8 p67 X3 c68 eO, z12x5 r62 X3, z12x2 r55 X3, Old wo, z12x10 r15 b10 b11, R] := sat_imp h128 (fun _ hh_ => by rw [eC3]; exact hh_)
 have h131 : sat g w127 [Wd b11 C3.2, TW b10 64 C3.1, z12x7 p121 C2 c122 eO, z12x4 r116 C2, z12x1 r109 C2, z12x9 p94 C1 c95 eO, z12x6 r89 C1, z12x3 r82 C1, z12x8 p67 X3 c68 eO, z12x5 r62 X3, z12x2 r55 X3, Old wo, z12x10 r15 b10 b11, R] := sat_imp (tk14 (sf13 (sf12 (sf12 (sf12 (sf12 (sf13 (sf13 (sf13 (sf13 (sf13 (sf13 (sf13 (sf13 (sf13 h129))))))))))))))) (fun _ hh_ => by rw [eC3]; exact hh_)
 refine go [] <| unN <| go [] <| up <| go [] <| nP 24 [iV 0, iV 0, iV 0, iV 0, iV 0, iV 0, iV 0, iV 0, iV 0, uV 0] h131 (fun r132 _ h134 => ?_)
 refine sP [(0, iV 0), (1, iV 0), (2, iV 0), (3, iV 0), (4, iV 0), (5, iV 0), (6, iV 2), (7, iV 10), (8, iV 25), (9, uV 0)] [iV 0, iV 0, iV 0, iV 0, iV 0, iV 0, iV 2, iV 10, iV 25, uV 0] h134 fun _ h136 => ?_
 have h139 := tk15 (sf14 (sf13 (sf12 (sf14 (sf14 (sf14 (sf14 (sf14 (sf14 (sf14 (sf14 (sf14 (sf14 (sf14 (sf14 h136)))))))))))))))
 refine go [rd 20 1 13 0 1 h136, rd 20 3 13 1 1 h136, rd 20 4 0 0 10 h136] <| cP Tryz.call12 ((by have h_ := run_w b10 64 b11 C3.1 C3.2 0 0 0 0 0 0 2 10 25 0 (fun _ => hr5); rw [show cfgE (⟨2, 10, 25⟩ : Cf) = 0 from by kernel_rfl, hn5] at h_; exact h_)) h139 ?_
 rintro v K w140 (⟨p137, c138, rfl, rfl⟩) h141
 have h143 : sat g w140 [TW b10 64 X5.1, Wd b11 ((rnS (⟨2, 10, 25⟩ : Cf) (C3.1, C3.2)).2), Sl 74 6 p137 2 c138 (fl eAt (rnL (⟨2, 10, 25⟩ : Cf) (C3.1, C3.2))), Cl r132 [iV 0, iV 0, iV 0, iV 0, iV 0, iV 0, iV 2, iV 10, iV 25, uV 0] 24, z12x7 p121 C2 c122 eO, z12x4 r116 C2, z12x1 r109 C2, z12x9 p94 C1 c95 eO, z12x6 r89 C1, z12x3 r82 C1, z12x8 p67 X3 c68 eO, z12x5 r62 X3, z12x2 r55 X3, Old wo, z12x10 r15 b10 b11, R] := sat_imp (ap3 h141) (fun _ hh_ => by rw [eX5]; exact hh_)
 have h145 : sat g w140 [Wd b11 X5.2, TW b10 64 X5.1, Sl 74 6 p137 2 c138 (fl eAt (rnL (⟨2, 10, 25⟩ : Cf) (C3.1, C3.2))), Cl r132 [iV 0, iV 0, iV 0, iV 0, iV 0, iV 0, iV 2, iV 10, iV 25, uV 0] 24, z12x7 p121 C2 c122 eO, z12x4 r116 C2, z12x1 r109 C2, z12x9 p94 C1 c95 eO, z12x6 r89 C1, z12x3 r82 C1, z12x8 p67 X3 c68 eO, z12x5 r62 X3, z12x2 r55 X3, Old wo, z12x10 r15 b10 b11, R] := sat_imp (tk16 (sf15 (sf14 (sf15 (sf15 (sf15 (sf15 (sf15 (sf15 (sf15 (sf15 (sf15 (sf15 (sf15 (sf15 (sf15 (sf15 h143))))))))))))))))) (fun _ hh_ => by rw [eX5]; exact hh_)
 have h148 := tk16 (sf15 (sf14 (sf15 (sf15 (sf15 (sf15 (sf15 (sf15 (sf15 (sf15 (sf15 (sf15 (sf15 (sf15 (sf15 (sf15 h145))))))))))))))))
 refine go [rd 21 1 14 0 1 h145, rd 21 3 14 1 1 h145, rd 21 4 3 0 10 h145] <| cP Tryz.call12 ((by have h_ := run_w b10 64 b11 X5.1 X5.2 0 0 0 0 0 0 2 10 25 0 (fun _ => hr6); rw [show cfgE (⟨2, 10, 25⟩ : Cf) = 0 from by kernel_rfl, hn6] at h_; exact h_)) h148 ?_
 rintro v K w149 (⟨p146, c147, rfl, rfl⟩) h150
 have h152 : sat g w149 [TW b10 64 X6.1, Wd b11 ((rnS (⟨2, 10, 25⟩ : Cf) (X5.1, X5.2)).2), Sl 74 6 p146 1 c147 (fl eAt (rnL (⟨2, 10, 25⟩ : Cf) (X5.1, X5.2))), Sl 74 6 p137 2 c138 (fl eAt (rnL (⟨2, 10, 25⟩ : Cf) (C3.1, C3.2))), Cl r132 [iV 0, iV 0, iV 0, iV 0, iV 0, iV 0, iV 2, iV 10, iV 25, uV 0] 24, z12x7 p121 C2 c122 eO, z12x4 r116 C2, z12x1 r109 C2, z12x9 p94 C1 c95 eO, z12x6 r89 C1, z12x3 r82 C1, z12x8 p67 X3 c68 eO, z12x5 r62 X3, z12x2 r55 X3, Old wo, z12x10 r15 b10 b11, R] := sat_imp (ap3 h150) (fun _ hh_ => by rw [eX6]; exact hh_)
 have h154 : sat g w149 [Wd b11 X6.2, TW b10 64 X6.1, Sl 74 6 p146 1 c147 (fl eAt (rnL (⟨2, 10, 25⟩ : Cf) (X5.1, X5.2))), Sl 74 6 p137 2 c138 (fl eAt (rnL (⟨2, 10, 25⟩ : Cf) (C3.1, C3.2))), Cl r132 [iV 0, iV 0, iV 0, iV 0, iV 0, iV 0, iV 2, iV 10, iV 25, uV 0] 24, z12x7 p121 C2 c122 eO, z12x4 r116 C2, z12x1 r109 C2, z12x9 p94 C1 c95 eO, z12x6 r89 C1, z12x3 r82 C1, z12x8 p67 X3 c68 eO, z12x5 r62 X3, z12x2 r55 X3, Old wo, z12x10 r15 b10 b11, R] := sat_imp (tk17 (sf16 (sf15 (sf16 (sf16 (sf16 (sf16 (sf16 (sf16 (sf16 (sf16 (sf16 (sf16 (sf16 (sf16 (sf16 (sf16 (sf16 h152)))))))))))))))))) (fun _ hh_ => by rw [eX6]; exact hh_)
 have h155 := tk17 (sf16 (sf15 (sf16 (sf16 (sf16 (sf16 (sf16 (sf16 (sf16 (sf16 (sf16 (sf16 (sf16 (sf16 (sf16 (sf16 (sf16 h154)))))))))))))))))
 refine go [rd 22 1 15 0 1 h154] <| cl1 Tryz.call13 ((by have h_ := wake_w b10 64 X6.1; rw [hw.1, hw.2.1] at h_; exact h_)) h155 fun _ h157 => ?_
 refine go [rd 23 1 15 0 1 h157] <| cl1 Tryz.call14 ((by have h_ := left_w b10 64 X6.1; rw [hw.2.2] at h_; exact h_)) h157 fun _ h159 => ?_
 obtain ⟨b160, hp161⟩ := sl_ptr0 (j := 3) h159 rfl (by omega)
 refine go [.v 24 16 (oJ .i64 (2 : Int) 2), .v 24 21 (oJ .i64 (1 : Int) 1), .s 26 1] <| lwP (.pointer (some ⟨b160, 6, none⟩)) (law_indexSlP (x := (Operand.tmp 141)) (i := (Operand.const (iV 1))) (p := p137) (b := b160) (off := 0) (z := 1) (len := 2) (cap := c138) (by kernel_rfl) Tryz.underlying41 6 (by kernel_rfl) 1 (by kernel_rfl) hp161 (by kernel_rfl) (by omega) (by omega) 6 (by omega) _) ?_
 obtain ⟨x162, hx163⟩ : ∃ x, (rnL (⟨2, 10, 25⟩ : Cf) (C3.1, C3.2))[1]? = some x := ⟨_, List.getElem?_eq_getElem (by rw [hn5]; omega)⟩
 have he164 := Option.some.inj (hx163.symm.trans h5); have he164a : x162.at_ = 5 := by rw [he164]
 have he164b : x162.out.1 = 1 ∧ x162.out.2.1 = 1 ∧ x162.out.2.2 = 1 ∧ x162.why = 1 ∧ x162.ans = 2 := by rw [he164]; exact ⟨rfl, rfl, rfl, rfl, rfl⟩
 refine go [.r 26 2 b160 6 [iV x162.at_, iV x162.out.1, iV x162.out.2.1, uV x162.out.2.2, iV x162.why, iV x162.ans] ⟨gv_cell (j := 3) h159 rfl (gv_sl _ _ _) hp161 (fl_get eAt_ok (j := 0) (v := iV x162.at_) hx163 rfl) 6 (by omega), gv_cell (j := 3) h159 rfl (gv_sl _ _ _) hp161 (fl_get eAt_ok (j := 1) (v := iV x162.out.1) hx163 rfl) 7 (by omega), gv_cell (j := 3) h159 rfl (gv_sl _ _ _) hp161 (fl_get eAt_ok (j := 2) (v := iV x162.out.2.1) hx163 rfl) 8 (by omega), gv_cell (j := 3) h159 rfl (gv_sl _ _ _) hp161 (fl_get eAt_ok (j := 3) (v := uV x162.out.2.2) hx163 rfl) 9 (by omega), gv_cell (j := 3) h159 rfl (gv_sl _ _ _) hp161 (fl_get eAt_ok (j := 4) (v := iV x162.why) hx163 rfl) 10 (by omega), gv_cell (j := 3) h159 rfl (gv_sl _ _ _) hp161 (fl_get eAt_ok (j := 5) (v := iV x162.ans) hx163 rfl) 11 (by omega), trivial⟩, .s 26 5] <| lwP (.bool true) (q12e74_eql_t (x := (Operand.tmp 143)) (y := (Operand.tmp 145)) x162.at_ x162.out.1 x162.out.2.1 x162.out.2.2 x162.why x162.ans 5 1 1 1 1 2 (by kernel_rfl) (by kernel_rfl) (by kernel_rfl) ⟨(by omega), (by omega), (by omega), (by omega), (by omega), (by omega)⟩ _) ?_
 obtain ⟨b165, hp166⟩ := sl_ptr0 (j := 2) h159 rfl (by omega)
 refine go [.s 26 8] <| lwP (pV b165) (law_indexSlP (x := (Operand.tmp 148)) (i := (Operand.const (iV 0))) (p := p146) (b := b165) (off := 0) (z := 0) (len := 1) (cap := c147) (by kernel_rfl) Tryz.underlying41 6 (by kernel_rfl) 0 (by kernel_rfl) hp166 (by kernel_rfl) (by omega) (by omega) 0 (by omega) _) ?_
 obtain ⟨x167, hx168⟩ : ∃ x, (rnL (⟨2, 10, 25⟩ : Cf) (X5.1, X5.2))[0]? = some x := ⟨_, List.getElem?_eq_getElem (by rw [hn6]; omega)⟩
 have he169 : x167.out.2.1 = 2 := by obtain ⟨y_, h1_, h2_⟩ := h6; rw [Option.some.inj (hx168.symm.trans h1_)]; exact h2_
 refine go [.r 26 11 b165 2 [iV x167.out.2.1] ⟨gv_cell (j := 2) h159 rfl (gv_sl _ _ _) hp166 (fl_get eAt_ok (j := 2) (v := iV x167.out.2.1) hx168 rfl) 2 (by omega), trivial⟩, .v 26 12 (qeT x167.out.2.1 2)] ?_
 exact en (.bool true) [] ⟨_, _, rfl, ⟨rfl, rfl⟩, (tk2 (sf1 (sf16 (tk17 (sf16 (sf15 (sf15 (sf15 (sf15 (sf15 (sf15 (sf15 (sf15 (sf15 (sf15 (sf15 (sf15 (sf15 (sf15 (sf16 (sf16 h159)))))))))))))))))))))⟩

theorem works_ht (wo : World) (hg : Lett wo) : HT Tryz.prog 16 [] [Old wo] (fun v K => v = Value.bool true ∧ K = [Old wo]) := works_gen wo hg wk1 wkO1 wkO2 wkO3 wk3 wkC1 wkC2 wkC3 wk5 wk6 rfl rfl rfl rfl rfl rfl rfl rfl rfl rfl wk_t wk_l3 wk_l4 wk_l5 wk_s1 wk_s2 wk_s3 wk_r5 wk_r6 wk_n5 wk_n6 wk_5 wk_6 wk_w

end Go.Proofs.YtehlamblpekmkaaGreatDoor

/-
  What was released is never there again. No program in sight.
-/
namespace Go.Proofs.YtehlamblpekmkaaGreatDoor
set_option maxHeartbeats 4000000
def Ded (S : Wst) (o : Ky) : Prop := ∃ e g, (As (S.tab o.1))[o.2.1.toNat]? = some (e, g) ∧ (o.2.2 < g ∨ (o.2.2 = g ∧ e = 2))
structure Onc (S : Wst) (G : List Ky) : Prop where
  gd : ∀ o ∈ G, KGood o ∧ (Thr S o ∨ ∃ a ∈ S.T, a.out = o ∧ a.ans = 1)
  tk : ∀ a ∈ S.T, KGood a.out
  td : ∀ a ∈ S.T, a.ans = 1 → Ded S a.out
  pw : ∀ (i k : Nat) (a b : At), k < i → S.T[k]? = some a → S.T[i]? = some b → a.out = b.out → a.ans ≠ 1
  ln : (allS S).length ≤ G.length
section
variable {S S' : Wst} {G : List Ky} {s : Sq} {o o' : Ky} {k a y t : Int}
theorem acq_at {i : Nat} {g : Int} (h : acqE S k a = 0) (hf : fre (S.tab k) = some (i, g)) {k' : Int} (hk : k' = 1 ∨ k' = 2 ∨ k' = 3) (j : Nat) : (As ((acqS S k a).tab k'))[j]? = if k' = k ∧ j = i then some (1, g) else (As (S.tab k'))[j]? := by
  rw [acq_tab h hk]
  by_cases h1 : k' = k
  · subst h1
    rw [if_pos rfl]
    have e : grw (S.tab k') (valO S k' a) = (S.tab k').set i (1, g, valO S k' a) := by unfold grw; rw [hf]
    have hi := (List.getElem?_eq_some_iff.1 (fre_as hf)).1
    rw [e, as_set, List.getElem?_set]
    by_cases h2 : j = i
    · subst h2
      rw [if_pos rfl, if_pos hi, if_pos ⟨rfl, rfl⟩]
    · rw [if_neg (fun q => h2 q.symm), if_neg (fun q => h2 q.2)]
  · rw [if_neg h1, if_neg (fun q => h1 q.1)]
theorem rel_ats (h : relE S o y = 0) {k' : Int} (hk : k' = 1 ∨ k' = 2 ∨ k' = 3) (j : Nat) : (As ((relS S o y).tab k'))[j]? = if relA S o y = 1 ∧ k' = o.1 ∧ j = o.2.1.toNat then some ((shut o.2.2).1, (shut o.2.2).2.1) else (As (S.tab k'))[j]? := by
  rw [rel_tab h hk]
  by_cases h1 : relA S o y = 1 ∧ k' = o.1
  · obtain ⟨h1a, rfl⟩ := h1
    rw [if_pos ⟨h1a, rfl⟩]
    have hi := (List.getElem?_eq_some_iff.1 (rel_zero h).2.2.2.1.2).1
    unfold giv
    rw [as_set, List.getElem?_set]
    by_cases h2 : j = o.2.1.toNat
    · subst h2
      rw [if_pos rfl, if_pos hi, if_pos ⟨h1a, rfl, rfl⟩]
    · rw [if_neg (fun q => h2 q.symm), if_neg (fun q => h2 q.2.2)]
  · rw [if_neg h1, if_neg (fun q => h1 ⟨q.1, q.2.1⟩)]
end
end Go.Proofs.YtehlamblpekmkaaGreatDoor

/-
  What the laws of tables of resources do with them, as plain functions. No program in sight.
-/
namespace Go.Proofs.YtehlamblpekmkaaGreatDoor
set_option maxHeartbeats 4000000
abbrev Mv := Int × Int
theorem exp_R (S : Ts) (v : Int) : (expS S v).R = S.R := drops_R
abbrev Tp := Ts × List Ky
section
variable {p : Tp} {i : Nat} {m : Mv} {d : Ky}
end
end Go.Proofs.YtehlamblpekmkaaGreatDoor

/-
  Tables and worlds that go together, behind turns: every run can be made. No program in sight.
-/
namespace Go.Proofs.YtehlamblpekmkaaGreatDoor
set_option maxHeartbeats 4000000
structure Jv (X : Pw) : Prop where
  wf : Wf 64 X.1
  wk : WOk X.2
  th : ∀ r ∈ X.1.R, r.st = 1 ∨ r.st = 2 → Thr X.2 r.out
section
variable {S : Wst} {o o2 : Ky} {k a y : Int}
theorem thrB_rel (h : relE S o y = 0) (h2 : Thr S o2) (hn : o2 ≠ o) : Thr (relS S o y) o2 := by
  have ht := (rel_zero h).2.2.2.1
  refine ⟨h2.1, ?_⟩
  rw [rel_ats h (kgood_k h2.1) _, if_neg ?_]
  · exact h2.2
  · rintro ⟨_, e1, e2⟩
    have e3 := h2.2
    rw [e1, e2, ht.2] at e3
    simp only [Option.some.injEq, Prod.mk.injEq, true_and] at e3
    have g1 := h2.1.2.2.1
    have g2 := ht.1.2.2.1
    exact hn (Prod.ext e1 (Prod.ext (by omega) e3.symm))
theorem thr_keep (h : relE S o y = 0) (h2 : relA S o y ≠ 1) (h3 : Thr S o2) : Thr (relS S o y) o2 := by
  refine ⟨h3.1, ?_⟩
  rw [rel_ats h (kgood_k h3.1) _, if_neg (fun q => h2 q.1)]
  exact h3.2
theorem thrB_acq (h : Thr S o) : Thr (acqS S k a) o := by
  by_cases he : acqE S k a = 0
  · obtain ⟨i, g, hf, _, _⟩ := acq_nm he
    refine ⟨h.1, ?_⟩
    rw [acq_at he hf (kgood_k h.1) _]
    split
    · rename_i h1
      have e := h.2
      rw [h1.1, h1.2, fre_as hf] at e
      simp at e
    · exact h.2
  · rcases acq_keep he with e | e <;> rw [e]
    · exact h
    · exact h
theorem thr_tck (t : Int) (h : Thr S o) : Thr (tckS S t) o := ⟨h.1, by rw [tck_as]; exact h.2⟩
theorem thr_asw (l : List UInt8) (h : Thr S o) : Thr (aswS S l) o := h
end
theorem opn_R (S : Ts) (o : Ky) (L : List UInt8) (h : Int × Int) : (topE S o L h ≠ 0 ∧ opnS S o L h = S) ∨ (topE S o L h = 0 ∧ (opnS S o L h).R = S.R ++ [⟨o, 1, 0, 0, 0, L⟩]) := by
  by_cases h0 : topE S o L h = 0
  · refine .inr ⟨h0, ?_⟩
    unfold opnS addS
    rw [if_pos h0]
    split <;> rfl
  · refine .inl ⟨h0, ?_⟩
    unfold opnS
    rw [if_neg h0]
theorem set_R (S : Ts) (v : Int) (r : Rs) : (setE S v r ≠ 0 ∧ setS S v r = S) ∨ (setE S v r = 0 ∧ (setS S v r).R = S.R.set (v - 1).toNat r) := by
  by_cases h0 : setE S v r = 0
  · refine .inr ⟨h0, ?_⟩
    unfold setS
    rw [if_pos h0]
  · refine .inl ⟨h0, ?_⟩
    unfold setS
    rw [if_neg h0]
theorem descsB_nil {S : Ts} (W : Wf 64 S) {v : Int} (hs : (getR S v).st ≠ 1) : (descs S.E v).length = 0 := by
  cases h : descs S.E v with
  | nil => rfl
  | cons d D =>
    have hm : d ∈ descs S.E v := by rw [h]; exact List.mem_cons_self
    obtain ⟨e, h1, _, h3⟩ := descs_at W hm
    obtain ⟨_, _, ⟨q, r, h4, h5, _, h6⟩, _⟩ := W.ent _ e h1
    exact absurd (by rw [← h3, h5, getR_some h4]; exact h6) hs
theorem nE_iff {S : Ts} {v : Int} : nE S v = 0 ↔ 1 ≤ v ∧ v ≤ (S.R.length : Int) := by
  unfold nE
  split <;> simp_all
theorem set_ok {S : Ts} {v : Int} {r : Rs} (hn : nE S v = 0) (hr : resR r = 0) (ho : r.out = (getR S v).out) (ht : r.tag = (getR S v).tag) (hd : r.st ≠ 1 → (descs S.E v).length = 0) : setE S v r = 0 ∧ (setS S v r).R = S.R.set (v - 1).toNat r := by
  have h0 : setE S v r = 0 := by
    unfold setE
    rw [if_neg (by omega), if_neg (by omega), if_neg (by rintro (h | h); exact h ho; exact h ht), if_neg (by rintro ⟨h1, h2⟩; have := hd h1; omega)]
  exact ⟨h0, by unfold setS; rw [if_pos h0]⟩
theorem getR_set {S S2 : Ts} {v u : Int} {r : Rs} (hR : S2.R = S.R.set (v - 1).toNat r) (hn : nE S v = 0) (hu : 1 ≤ u) : getR S2 u = if u = v then r else getR S u := by
  have hv := nE_iff.1 hn
  unfold getR
  rw [if_pos hu, hR, List.getElem?_set]
  split
  · rename_i h
    split
    · rw [if_pos (by omega)]; rfl
    · omega
  · rename_i h
    rw [if_neg (fun e => h (by rw [e]))]
theorem triR_ok {r : Rs} {a now wt : Int} (hr : resR r = 0) (h2 : r.st = 2) (ha : 1 ≤ a ∧ a ≤ 3) (hn : 0 ≤ now) (hw : 1 ≤ wt) (h : triE r a now wt = 0) : resR (triR r a now wt) = 0 ∧ (triR r a now wt).st ≠ 1 ∧ ((triR r a now wt).st = 2 → a = 2) := by
  obtain ⟨hp, ht⟩ := res_ok hr
  unfold posP at hp
  unfold triE at h
  unfold triR
  split
  · refine ⟨?_, by show (3 : Int) ≠ 1; decide, fun q => absurd q (by show (3 : Int) ≠ 2; decide)⟩
    show resE r.out.1 r.out.2.1 r.out.2.2 3 r.why r.tr 0 r.tag = 0
    unfold resE
    rw [if_pos (by unfold posP; omega), ht]
  · split
    · refine ⟨?_, by show (4 : Int) ≠ 1; decide, fun q => absurd q (by show (4 : Int) ≠ 2; decide)⟩
      show resE r.out.1 r.out.2.1 r.out.2.2 4 r.why r.tr 0 r.tag = 0
      unfold resE
      rw [if_pos (by unfold posP; omega), ht]
    · have ha2 : a = 2 := by omega
      have h3 : ¬ (a = 2 ∧ (1099511627776 - wt < now ∨ 10000 ≤ r.tr)) := fun q => by rw [if_pos q] at h; cases h
      refine ⟨?_, by show r.st ≠ 1; omega, fun _ => ha2⟩
      show resE r.out.1 r.out.2.1 r.out.2.2 r.st r.why (r.tr + 1) (now + wt) r.tag = 0
      unfold resE
      rw [if_pos (by unfold posP; omega), ht]
def trN (r : Rs) (a now wt : Int) : Rs := if triE r a now wt = 0 then triR r a now wt else r
theorem trN_out (r : Rs) (a now wt : Int) : (trN r a now wt).out = r.out := by
  unfold trN
  split
  · exact triR_out _ _ _ _
  · rfl
theorem triE_1 {r : Rs} {a now wt : Int} (h : a ≠ 2) : triE r a now wt = 0 := if_neg fun q => h q.1
theorem wt_bd {c : Cf} (hb : 1 ≤ c.ba ∧ c.ba ≤ c.cp) (r : Rs) : 1 ≤ wtOf c r ∧ wtOf c r ≤ c.cp := wtN_bd hb _
theorem stp_ok {c : Cf} {now n : Int} {X : Pw} (J : Jv X) (hn : nE X.1 n = 0) (h2 : (getR X.1 n).st = 2) (hT : X.2.T.length < 10000) (hb : 1 ≤ c.ba ∧ c.ba ≤ c.cp) (hnow : now = X.2.now) :
    relE X.2 (getR X.1 n).out (getR X.1 n).why = 0 ∧ (1 ≤ relA X.2 (getR X.1 n).out (getR X.1 n).why ∧ relA X.2 (getR X.1 n).out (getR X.1 n).why ≤ 3) ∧ Jv (stpB c now X n) ∧
      (stpB c now X n).1.R = X.1.R.set (n - 1).toNat (trN (getR X.1 n) (relA X.2 (getR X.1 n).out (getR X.1 n).why) now (wtOf c (getR X.1 n))) := by
  obtain ⟨hr, _⟩ := wf_get J.wf hn
  have hp := (res_ok hr).1
  unfold posP at hp
  have hv := nE_iff.1 hn
  have hm := List.mem_of_getElem? (getR_at hv)
  have hth := J.th _ hm (.inr h2)
  obtain ⟨he, ha1, ha3, _⟩ := rel_y (y := (getR X.1 n).why) J.wk hth (by omega) hT
  have hw := wt_bd hb (getR X.1 n)
  have hnl := J.wk.nl
  refine ⟨he, ⟨ha1, ha3⟩, ?_⟩
  have hR : (stpB c now X n).1.R = X.1.R.set (n - 1).toNat (trN (getR X.1 n) (relA X.2 (getR X.1 n).out (getR X.1 n).why) now (wtOf c (getR X.1 n))) := by
    unfold stpB trN
    by_cases ht : triE (getR X.1 n) (relA X.2 (getR X.1 n).out (getR X.1 n).why) now (wtOf c (getR X.1 n)) = 0
    · rw [if_pos ht, if_pos ht]
      exact (set_ok hn (triR_ok hr h2 ⟨ha1, ha3⟩ (by omega) hw.1 ht).1 (triR_out _ _ _ _) (triR_tag _ _ _ _) (fun _ => descsB_nil J.wf (by omega))).2
    · rw [if_neg ht, if_neg ht, set_self (getR_at hv)]
  refine ⟨⟨?_, wok_rel J.wk _ _, ?_⟩, hR⟩
  · unfold stpB
    split
    · exact wf_set J.wf _ _
    · exact J.wf
  · intro r hr2 hst
    rw [hR] at hr2
    obtain ⟨q, hq⟩ := List.getElem?_of_mem hr2
    rw [List.getElem?_set] at hq
    show Thr (relS X.2 _ _) r.out
    split at hq
    · split at hq
      · obtain rfl := Option.some.inj hq
        rw [trN_out]
        have hA : relA X.2 (getR X.1 n).out (getR X.1 n).why ≠ 1 := fun e => by
          have h4 : (trN (getR X.1 n) (relA X.2 (getR X.1 n).out (getR X.1 n).why) now (wtOf c (getR X.1 n))).st = 3 := by
            unfold trN triR
            rw [if_pos (triE_1 (by omega)), if_pos e]
          omega
        exact thr_keep he hA hth
      · cases hq
    · rename_i hne
      have hr3 := J.th r (List.mem_of_getElem? hq) hst
      refine thrB_rel he hr3 fun (e : r.out = (getR X.1 n).out) => ?_
      have hnd := J.wf.out
      have e1 : (X.1.R.map (·.out))[q]? = some (getR X.1 n).out := by rw [List.getElem?_map, hq]; exact congrArg some e
      have e2 : (X.1.R.map (·.out))[(n - 1).toNat]? = some (getR X.1 n).out := by rw [List.getElem?_map, getR_at hv]; rfl
      have e3 := (List.getElem?_inj (List.getElem?_eq_some_iff.1 e2).1 hnd).1 (e2.trans e1.symm)
      exact hne e3
theorem stp_T {c : Cf} {now n : Int} {X : Pw} (he : relE X.2 (getR X.1 n).out (getR X.1 n).why = 0) : (stpB c now X n).2.T = X.2.T ++ [attB X.2.now X n] ∧ (stpB c now X n).2.now = X.2.now := rel_T he
theorem runOk_nil (c : Cf) (now : Int) (X : Pw) : RunOk c now X [] := fun i n h => by simp at h
theorem stB_cons {c : Cf} {now n : Int} {X : Pw} {l : List Int} (i : Nat) : stB c now X (n :: l) (i + 1) = stB c now (stpB c now X n) l i := by
  unfold stB runB
  rw [List.take_succ_cons, List.foldl_cons]
theorem runOk_cons {c : Cf} {now n : Int} {X : Pw} {l : List Int} (h1 : nE X.1 n = 0 ∧ (getR X.1 n).st = 2 ∧ relE X.2 (getR X.1 n).out (getR X.1 n).why = 0) (h2 : RunOk c now (stpB c now X n) l) : RunOk c now X (n :: l) := by
  intro i m hm
  cases i with
  | zero =>
    rw [List.getElem?_cons_zero] at hm
    obtain rfl := Option.some.inj hm
    exact h1
  | succ i =>
    rw [List.getElem?_cons_succ] at hm
    rw [stB_cons]
    exact h2 i m hm
theorem run_J {c : Cf} {now : Int} (hb : 1 ≤ c.ba ∧ c.ba ≤ c.cp) : ∀ {l : List Int} {X : Pw}, Jv X → now = X.2.now → l.Nodup → (∀ n ∈ l, nE X.1 n = 0 ∧ (getR X.1 n).st = 2) → X.2.T.length + l.length ≤ 10000 →
    RunOk c now X l ∧ Jv (runB c now X l) ∧ (runB c now X l).2.T.length = X.2.T.length + l.length ∧ (runB c now X l).1.R.length = X.1.R.length ∧ (runB c now X l).2.now = now
  | [], X, J, hnow, _, _, _ => ⟨runOk_nil _ _ _, J, rfl, rfl, hnow.symm⟩
  | n :: l, X, J, hnow, hnd, hl, hT => by
    rw [List.length_cons] at hT
    obtain ⟨h1, h2⟩ := hl n List.mem_cons_self
    obtain ⟨he, _, J2, hR⟩ := stp_ok (c := c) J h1 h2 (by omega) hb hnow
    have hT2 := stp_T (c := c) (now := now) he
    rw [List.nodup_cons] at hnd
    have hlen : (stpB c now X n).2.T.length = X.2.T.length + 1 := by rw [hT2.1, List.length_append]; rfl
    have hRl : (stpB c now X n).1.R.length = X.1.R.length := by rw [hR, List.length_set]
    obtain ⟨g1, g2, g3, g4, g5⟩ := run_J hb (l := l) (now := now) J2 (hnow.trans hT2.2.symm) hnd.2 (fun m hm => by
      obtain ⟨h3, h4⟩ := hl m (List.mem_cons_of_mem _ hm)
      have hmn : m ≠ n := fun e => hnd.1 (e ▸ hm)
      have hv := nE_iff.1 h3
      refine ⟨nE_iff.2 (by rw [hRl]; exact hv), ?_⟩
      rw [getR_set hR h1 hv.1, if_neg hmn]
      exact h4) (by rw [hlen]; omega)
    refine ⟨runOk_cons ⟨h1, h2, he⟩ g1, g2, ?_, g4.trans hRl, g5⟩
    show (runB c now (stpB c now X n) l).2.T.length = _
    rw [g3, hlen, List.length_cons]
    omega
theorem cfg_bd {c : Cf} (hc : cfgE c = 0) : 1 ≤ c.bt ∧ c.bt ≤ 64 ∧ 1 ≤ c.ba ∧ c.ba ≤ c.cp ∧ c.cp ≤ 1048576 := by
  have h1 : ¬ (c.bt < 1 ∨ 64 < c.bt ∨ bkE c.ba c.cp ≠ 0) := fun h => by
    unfold cfgE at hc
    rw [if_pos h] at hc
    cases hc
  have h2 : ¬ (c.ba < 1 ∨ c.cp < c.ba ∨ 1048576 < c.cp) := fun h => h1 (.inr (.inr (by
    unfold bkE
    rw [if_pos h]
    decide)))
  exact ⟨Decidable.byContradiction fun h => h1 (.inl (by omega)), Decidable.byContradiction fun h => h1 (.inr (.inl (by omega))), by omega, by omega, by omega⟩
theorem due_run {c : Cf} {X : Pw} (J : Jv X) (hc : cfgE c = 0) (hT : X.2.T.length + 64 ≤ 10000) : RunOk c X.2.now X (dueB X.1 X.2.now c.bt) ∧ Jv (rnS c X) ∧ (rnS c X).2.T.length = X.2.T.length + (dueB X.1 X.2.now c.bt).length ∧ (rnS c X).1.R.length = X.1.R.length ∧ (rnS c X).2.now = X.2.now ∧ (dueB X.1 X.2.now c.bt).length ≤ 64 := by
  have hb := cfg_bd hc
  have hl := due_len X.1 X.2.now (most := c.bt) (by omega)
  obtain ⟨g1, g2, g3, g4, g5⟩ := run_J (c := c) ⟨hb.2.2.1, hb.2.2.2.1⟩ (l := dueB X.1 X.2.now c.bt) J rfl (due_nd _ _ _) (fun n hn => ⟨(mem_due hn).1, (mem_due hn).2.1⟩) (by omega)
  unfold rnS
  rw [if_pos hc]
  exact ⟨g1, g2, g3, g4, g5, by omega⟩
theorem J_zero : Jv (ts0, wnew 1) where
  wf := wf_new (by decide) (by decide)
  wk := wok_new (by decide)
  th r hr := by cases hr
theorem J_opn {X : Pw} (J : Jv X) (n i : Int) : Jv (opnP X n i) := by
  have hO := acqO_bd J.wk (whK n) (whX n)
  refine ⟨?_, wok_acq J.wk _ _, ?_⟩
  · unfold opnP
    simp only
    split
    · exact wf_opn J.wf hO.2 _ _
    · exact J.wf
  · intro r hr hst
    unfold opnP at hr
    simp only at hr
    show Thr (acqS X.2 (whK n) (whX n)) r.out
    split at hr
    · rename_i he
      rcases opn_R X.1 (acqO X.2 (whK n) (whX n)) [116] (i % 256, i / 256 + 1) with ⟨_, h⟩ | ⟨_, h⟩
      · rw [h] at hr
        exact thrB_acq (J.th r hr hst)
      · rw [h] at hr
        rcases List.mem_append.1 hr with hr | hr
        · exact thrB_acq (J.th r hr hst)
        · rw [List.mem_singleton.1 hr]
          exact (acq_thr J.wk he).1
    · exact thrB_acq (J.th r hr hst)
theorem J_shu {X : Pw} (J : Jv X) (n : Int) (hl : 0 ≤ n) : Jv (shuP X n) := by
  refine ⟨?_, J.wk, ?_⟩
  · unfold shuP
    simp only
    split
    · exact J.wf
    · split
      · exact wf_set (wf_exp J.wf _) _ _
      · exact J.wf
  · intro r hr hst
    unfold shuP at hr
    simp only at hr
    show Thr X.2 r.out
    split at hr
    · exact J.th r hr hst
    · rename_i h0
      split at hr
      · rename_i h1
        rcases set_R (expS X.1 (shK X.1 n)) (shK X.1 n) (cloR (getR X.1 (shK X.1 n)) (n / 7 % 3 + 1) X.2.now) with ⟨_, h⟩ | ⟨_, h⟩
        · rw [h, exp_R] at hr
          exact J.th r hr hst
        · rw [h, exp_R] at hr
          rcases List.mem_or_eq_of_mem_set hr with hr | rfl
          · exact J.th r hr hst
          · have h2 := Int.emod_nonneg n (b := (X.1.R.length : Int)) (by omega)
            have h3 := Int.emod_lt_of_pos n (b := (X.1.R.length : Int)) (by omega)
            have hv : 1 ≤ shK X.1 n ∧ shK X.1 n ≤ (X.1.R.length : Int) := by unfold shK; omega
            exact J.th (getR X.1 (shK X.1 n)) (List.mem_of_getElem? (getR_at hv)) (.inl h1)
      · exact J.th r hr hst
structure Iv (k : Nat) (X : Pw) : Prop where
  j : Jv X
  tn : X.2.T.length ≤ 64 * k
  nw : X.2.now ≤ 300 * (k : Int)
  rn : X.1.R.length ≤ k
theorem acq_Tn (S : Wst) (k a : Int) : (acqS S k a).T = S.T ∧ (acqS S k a).now = S.now := acq_T
theorem Iv_step {c : Cf} {X : Pw} {i : Nat} {t : Tn} (hc : cfgE c = 0) (ht : TnOk t) (hi : i < 150) (h : Iv i X) : Iv (i + 1) (stepP c X i t) := by
  have h1 := h.tn
  have h2 := h.nw
  have h3 := h.rn
  by_cases e0 : t.k % 8 = 0 ∨ t.k % 8 = 1
  · rw [step_opn e0]
    have hT := acq_Tn X.2 (whK t.n) (whX t.n)
    refine ⟨J_opn h.j _ _, ?_, ?_, ?_⟩
    · show (acqS X.2 (whK t.n) (whX t.n)).T.length ≤ _
      rw [hT.1]; omega
    · show (acqS X.2 (whK t.n) (whX t.n)).now ≤ _
      rw [hT.2]; omega
    · unfold opnP
      simp only
      split
      · rcases opn_R X.1 (acqO X.2 (whK t.n) (whX t.n)) [116] ((i : Int) % 256, (i : Int) / 256 + 1) with ⟨_, h⟩ | ⟨_, h⟩
        · rw [h]; omega
        · rw [h, List.length_append]; show _ + 1 ≤ _; omega
      · omega
  · by_cases e1 : t.k % 8 = 2 ∨ t.k % 8 = 3
    · rw [step_shu e1]
      refine ⟨J_shu h.j _ ht.2.1, by show X.2.T.length ≤ _; omega, by show X.2.now ≤ _; omega, ?_⟩
      unfold shuP
      simp only
      split
      · omega
      · split
        · rcases set_R (expS X.1 (shK X.1 t.n)) (shK X.1 t.n) (cloR (getR X.1 (shK X.1 t.n)) (t.n / 7 % 3 + 1) X.2.now) with ⟨_, h⟩ | ⟨_, h⟩
          · rw [h, exp_R]; omega
          · rw [h, exp_R, List.length_set]; omega
        · omega
    · by_cases e2 : t.k % 8 = 4
      · rw [step_tck e2]
        refine ⟨⟨h.j.wf, wok_tck h.j.wk _, fun r hr hst => thr_tck _ (h.j.th r hr hst)⟩, by show (tckS X.2 _).T.length ≤ _; rw [tck_T]; omega, ?_, by show X.1.R.length ≤ _; omega⟩
        show (tckS X.2 (t.n % 300 + 1)).now ≤ _
        have := Int.emod_lt_of_pos t.n (b := 300) (by decide)
        unfold tckS
        split
        · show X.2.now + (t.n % 300 + 1) ≤ _; omega
        · omega
      · by_cases e3 : t.k % 8 = 5
        · rw [step_asw e3]
          exact ⟨⟨h.j.wf, wok_asw h.j.wk _, fun r hr hst => thr_asw _ (h.j.th r hr hst)⟩, by show X.2.T.length ≤ _; omega, by show X.2.now ≤ _; omega, by show X.1.R.length ≤ _; omega⟩
        · have hr : isRun t := by
            unfold isRun
            have := Int.emod_nonneg t.k (b := 8) (by decide)
            omega
          rw [step_run hr]
          obtain ⟨_, g2, g3, g4, g5, g6⟩ := due_run h.j hc (by omega)
          exact ⟨g2, by rw [g3]; omega, by rw [g5]; omega, by rw [g4]; omega⟩
theorem Iv_all {c : Cf} {T : List Tn} (hc : cfgE c = 0) (hT : ∀ t ∈ T, TnOk t) : ∀ i, i ≤ 150 → Iv i (plP c T i)
  | 0, _ => ⟨J_zero, Nat.zero_le _, by show (0 : Int) ≤ _; omega, Nat.zero_le _⟩
  | i + 1, hi => by
    have h := Iv_all hc hT i (by omega)
    show Iv (i + 1) (match T[i]? with | some t => stepP c (plP c T i) i t | none => plP c T i)
    split
    · rename_i t ht
      exact Iv_step hc (hT t (List.mem_of_getElem? ht)) (by omega) h
    · exact ⟨h.j, by have := h.tn; omega, by have := h.nw; omega, by have := h.rn; omega⟩
theorem pl_ok {c : Cf} {T : List Tn} (hc : cfgE c = 0) (hT : ∀ t ∈ T, TnOk t) (hn : T.length ≤ 150) : PlOk c T := by
  intro i t ht hr
  have hi := (List.getElem?_eq_some_iff.1 ht).1
  have h := Iv_all hc hT i (by omega)
  exact (due_run h.j hc (by have := h.tn; omega)).1
end Go.Proofs.YtehlamblpekmkaaGreatDoor

/-
  The runs are the ledger. No program in sight.
-/
namespace Go.Proofs.YtehlamblpekmkaaGreatDoor
set_option maxHeartbeats 4000000
theorem ats_cons (c : Cf) (now : Int) (X : Pw) (n : Int) (l : List Int) : atsB c now X (n :: l) = attB now X n :: atsB c now (stpB c now X n) l := by
  unfold atsB
  rw [List.length_cons, List.range_succ_eq_map, List.map_cons, List.map_map]
  congr 1
theorem mds_len (c : Cf) (T : List Tn) : ∀ i, (mdsP c T i).length ≤ i
  | 0 => Nat.le_refl _
  | i + 1 => by
    have := mds_len c T i
    show (match T[i]? with | some t => if isRun t then mdsP c T i ++ [mdB c (plP c T i)] else mdsP c T i | none => mdsP c T i).length ≤ _
    split
    · split
      · rw [List.length_append]; show _ + 1 ≤ _; omega
      · omega
    · omega
end Go.Proofs.YtehlamblpekmkaaGreatDoor

/-
  All that is closing is released at last. No program in sight.
-/
namespace Go.Proofs.YtehlamblpekmkaaGreatDoor
set_option maxHeartbeats 4000000
theorem run_ind {c : Cf} {now : Int} (hb : 1 ≤ c.ba ∧ c.ba ≤ c.cp) (Q : Pw → Nat → Prop)
    (step : ∀ (X : Pw) (n : Int) (k : Nat), Jv X → nE X.1 n = 0 ∧ (getR X.1 n).st = 2 ∧ (getR X.1 n).nx ≤ now → X.2.T.length < 10000 → now = X.2.now → Q X k → Q (stpB c now X n) (k + 1)) :
    ∀ {l : List Int} {X : Pw} {k : Nat}, Jv X → now = X.2.now → l.Nodup → (∀ n ∈ l, nE X.1 n = 0 ∧ (getR X.1 n).st = 2 ∧ (getR X.1 n).nx ≤ now) → X.2.T.length + l.length ≤ 10000 → Q X k → Q (runB c now X l) (k + l.length)
  | [], X, k, _, _, _, _, _, hq => hq
  | n :: l, X, k, J, hnow, hnd, hl, hT, hq => by
    rw [List.length_cons] at hT
    obtain ⟨h1, h2, h3⟩ := hl n List.mem_cons_self
    obtain ⟨he, _, J2, hR⟩ := stp_ok (c := c) J h1 h2 (by omega) hb hnow
    have hT2 := stp_T (c := c) (now := now) he
    rw [List.nodup_cons] at hnd
    have hlen : (stpB c now X n).2.T.length = X.2.T.length + 1 := by rw [hT2.1, List.length_append]; rfl
    have hRl : (stpB c now X n).1.R.length = X.1.R.length := by rw [hR, List.length_set]
    have := run_ind hb Q step (l := l) (k := k + 1) J2 (hnow.trans hT2.2.symm) hnd.2 (fun m hm => by
      obtain ⟨h4, h5, h6⟩ := hl m (List.mem_cons_of_mem _ hm)
      have hmn : m ≠ n := fun e => hnd.1 (e ▸ hm)
      have hv := nE_iff.1 h4
      refine ⟨nE_iff.2 (by rw [hRl]; exact hv), ?_⟩
      rw [getR_set hR h1 hv.1, if_neg hmn]
      exact ⟨h5, h6⟩) (by rw [hlen]; omega) (step X n k J ⟨h1, h2, h3⟩ (by omega) hnow hq)
    rw [show k + 1 + l.length = k + (n :: l).length by rw [List.length_cons]; omega] at this
    exact this
theorem due_ind {c : Cf} {X : Pw} (J : Jv X) (hc : cfgE c = 0) (hT : X.2.T.length + 64 ≤ 10000) (Q : Pw → Nat → Prop)
    (step : ∀ (Y : Pw) (n : Int) (k : Nat), Jv Y → nE Y.1 n = 0 ∧ (getR Y.1 n).st = 2 ∧ (getR Y.1 n).nx ≤ X.2.now → Y.2.T.length < 10000 → X.2.now = Y.2.now → Q Y k → Q (stpB c X.2.now Y n) (k + 1)) (h0 : Q X 0) : Q (rnS c X) (dueB X.1 X.2.now c.bt).length := by
  have hb := cfg_bd hc
  have hl := due_len X.1 X.2.now (most := c.bt) (by omega)
  have := run_ind (c := c) (now := X.2.now) ⟨hb.2.2.1, hb.2.2.2.1⟩ Q step (l := dueB X.1 X.2.now c.bt) J rfl (due_nd _ _ _) (fun n hn => mem_due hn) (by omega) h0
  unfold rnS
  rw [if_pos hc]
  rwa [Nat.zero_add] at this
def phi (X : Pw) : Nat := X.2.q.length + X.1.R.countP fun r => r.st == 2
def NxB (c : Cf) (X : Pw) : Prop := ∀ r ∈ X.1.R, r.st = 2 → r.nx ≤ X.2.now + c.cp
structure Ew (c : Cf) (k : Nat) (X : Pw) : Prop where
  i : Iv k X
  nx : NxB c X
  q : X.2.q.length ≤ 6 * k
structure Ev (c : Cf) (i : Nat) (X : Pw) : Prop where
  j : Jv X
  nx : NxB c X
  nw : X.2.now ≤ 30000 + 1300 * (i : Int)
  tp : X.2.T.length + phi X ≤ 7100
  ph : phi X + i ≤ 700
end Go.Proofs.YtehlamblpekmkaaGreatDoor

/-
  Attempts wait as long as they have to. No program in sight.
-/
namespace Go.Proofs.YtehlamblpekmkaaGreatDoor
set_option maxHeartbeats 4000000
def cntW (T : List At) (o : Ky) : Nat → Nat
  | 0 => 0
  | k + 1 => match T[k]? with
    | some a => if a.out = o then cntW T o k + 1 else cntW T o k
    | none => cntW T o k
def lstW (T : List At) (o : Ky) : Nat → Int
  | 0 => -1
  | k + 1 => match T[k]? with
    | some a => if a.out = o then (k : Int) else lstW T o k
    | none => lstW T o k
section
variable {T : List At} {o : Ky} {k : Nat} {a : At}
theorem cntW_y (h : T[k]? = some a) (he : a.out = o) : cntW T o (k + 1) = cntW T o k + 1 := by
  show (match T[k]? with | some a => if a.out = o then cntW T o k + 1 else cntW T o k | none => cntW T o k) = _
  rw [h]
  exact if_pos he
theorem cntW_n (h : T[k]? = some a) (he : a.out ≠ o) : cntW T o (k + 1) = cntW T o k := by
  show (match T[k]? with | some a => if a.out = o then cntW T o k + 1 else cntW T o k | none => cntW T o k) = _
  rw [h]
  exact if_neg he
theorem lstW_y (h : T[k]? = some a) (he : a.out = o) : lstW T o (k + 1) = (k : Int) := by
  show (match T[k]? with | some a => if a.out = o then (k : Int) else lstW T o k | none => lstW T o k) = _
  rw [h]
  exact if_pos he
theorem lstW_n (h : T[k]? = some a) (he : a.out ≠ o) : lstW T o (k + 1) = lstW T o k := by
  show (match T[k]? with | some a => if a.out = o then (k : Int) else lstW T o k | none => lstW T o k) = _
  rw [h]
  exact if_neg he
theorem cntW_le (T : List At) (o : Ky) : ∀ k, cntW T o k ≤ k
  | 0 => Nat.le_refl _
  | k + 1 => by
    have h := cntW_le T o k
    cases h1 : T[k]? with
    | none =>
      have e2 : cntW T o (k + 1) = cntW T o k := by
        show (match T[k]? with | some a => if a.out = o then cntW T o k + 1 else cntW T o k | none => cntW T o k) = _
        rw [h1]
      omega
    | some a =>
      by_cases he : a.out = o
      · rw [cntW_y h1 he]; omega
      · rw [cntW_n h1 he]; omega
theorem lstW_bd (T : List At) (o : Ky) : ∀ k, (lstW T o k = -1 ∧ cntW T o k = 0) ∨ (0 ≤ lstW T o k ∧ lstW T o k < (k : Int) ∧ 1 ≤ cntW T o k)
  | 0 => .inl ⟨rfl, rfl⟩
  | k + 1 => by
    have h := lstW_bd T o k
    cases h1 : T[k]? with
    | none =>
      have e1 : lstW T o (k + 1) = lstW T o k := by
        show (match T[k]? with | some a => if a.out = o then (k : Int) else lstW T o k | none => lstW T o k) = _
        rw [h1]
      have e2 : cntW T o (k + 1) = cntW T o k := by
        show (match T[k]? with | some a => if a.out = o then cntW T o k + 1 else cntW T o k | none => cntW T o k) = _
        rw [h1]
      rw [e1, e2]
      omega
    | some a =>
      by_cases he : a.out = o
      · rw [lstW_y h1 he, cntW_y h1 he]; omega
      · rw [lstW_n h1 he, cntW_n h1 he]; omega
theorem cntW_app (T2 : List At) : ∀ k, k ≤ T.length → cntW (T ++ T2) o k = cntW T o k ∧ lstW (T ++ T2) o k = lstW T o k
  | 0, _ => ⟨rfl, rfl⟩
  | k + 1, hk => by
    obtain ⟨h1, h2⟩ := cntW_app T2 k (by omega)
    have hg : (T ++ T2)[k]? = T[k]? := List.getElem?_append_left (by omega)
    constructor
    · show (match (T ++ T2)[k]? with | some a => if a.out = o then cntW (T ++ T2) o k + 1 else cntW (T ++ T2) o k | none => cntW (T ++ T2) o k) = _
      rw [hg, h1]
      rfl
    · show (match (T ++ T2)[k]? with | some a => if a.out = o then (k : Int) else lstW (T ++ T2) o k | none => lstW (T ++ T2) o k) = _
      rw [hg, h2]
      rfl
theorem cntW_zero (h : ∀ a ∈ T, a.out ≠ o) : ∀ k, k ≤ T.length → cntW T o k = 0 ∧ lstW T o k = -1
  | 0, _ => ⟨rfl, rfl⟩
  | k + 1, hk => by
    have h1 : T[k]? = some T[k] := List.getElem?_eq_getElem (by omega)
    have h2 := h _ (List.mem_of_getElem? h1)
    rw [cntW_n h1 h2, lstW_n h1 h2]
    exact cntW_zero h k (by omega)
end
def wtW (c : Cf) (tries : Int) : Int := wtB (min tries 64) c.ba c.cp
def GoodA (c : Cf) (T : List At) (i : Nat) (a : At) : Prop :=
  (∀ (k : Nat) (b : At), k < i → T[k]? = some b → b.out = a.out → b.ans = 2) ∧ (∀ (l : Nat) (b : At), lstW T a.out i = (l : Int) → T[l]? = some b → wtW c (cntW T a.out i) ≤ a.at_ - b.at_)
def GoodT (c : Cf) (T : List At) : Prop := ∀ (i : Nat) (a : At), T[i]? = some a → GoodA c T i a
structure Hist (c : Cf) (T : List At) (r : Rs) : Prop where
  al : ∀ b ∈ T, b.out = r.out → b.ans = 2
  ct : (cntW T r.out T.length : Int) = r.tr
  ls : ∀ (l : Nat) (b : At), lstW T r.out T.length = (l : Int) → T[l]? = some b → b.at_ + wtW c r.tr ≤ r.nx
structure Vv (c : Cf) (X : Pw) : Prop where
  gt : GoodT c X.2.T
  ow : ∀ a ∈ X.2.T, ∃ r ∈ X.1.R, r.out = a.out
  lv : ∀ r ∈ X.1.R, r.st = 1 → (∀ a ∈ X.2.T, a.out ≠ r.out) ∧ r.tr = 0
  cl : ∀ r ∈ X.1.R, r.st = 2 → Hist c X.2.T r
theorem good_app {c : Cf} {T : List At} {a : At} (h : GoodT c T) (ha : GoodA c T T.length a) : GoodT c (T ++ [a]) := by
  intro i b hb
  have key : ∀ {j : Nat} {d : At}, j ≤ T.length → GoodA c T j d → GoodA c (T ++ [a]) j d := fun {j d} hj hg => by
    have e := cntW_app (T := T) (o := d.out) [a] j hj
    refine ⟨fun k x hk hx ho => hg.1 k x hk (by rwa [List.getElem?_append_left (by omega)] at hx) ho, fun l x hl hx => ?_⟩
    rw [e.2] at hl
    rw [e.1]
    have hlt : l < T.length := by
      rcases lstW_bd T d.out j with q | q <;> omega
    exact hg.2 l x hl (by rwa [List.getElem?_append_left hlt] at hx)
  rw [List.getElem?_append] at hb
  split at hb
  · rename_i hi
    exact key (by omega) (h i b hb)
  · have hi2 : i = T.length := by
      have := (List.getElem?_eq_some_iff.1 hb).1
      simp at this
      omega
    subst hi2
    rw [Nat.sub_self, List.getElem?_cons_zero] at hb
    obtain rfl := Option.some.inj hb
    exact key (Nat.le_refl _) ha
theorem hist_good {c : Cf} {T : List At} {r : Rs} {now why ans : Int} (h : Hist c T r) (hn : r.nx ≤ now) : GoodA c T T.length ⟨now, r.out, why, ans⟩ := by
  refine ⟨fun k b _ hb ho => h.al b (List.mem_of_getElem? hb) ho, fun l b hl hb => ?_⟩
  have h1 := h.ls l b hl hb
  show wtW c (cntW T r.out T.length) ≤ now - b.at_
  rw [h.ct]
  omega
theorem hist_more {c : Cf} {T : List At} {r : Rs} {now why : Int} (h : Hist c T r) (a : At) (ha : a = ⟨now, r.out, why, 2⟩) : Hist c (T ++ [a]) { r with tr := r.tr + 1, nx := now + wtOf c r } := by
  subst ha
  have hg : (T ++ [(⟨now, r.out, why, 2⟩ : At)])[T.length]? = some ⟨now, r.out, why, 2⟩ := by simp
  have e := cntW_app (T := T) (o := r.out) [⟨now, r.out, why, 2⟩] T.length (Nat.le_refl _)
  have hl : (T ++ [(⟨now, r.out, why, 2⟩ : At)]).length = T.length + 1 := by rw [List.length_append]; rfl
  refine ⟨fun b hb ho => ?_, ?_, fun l b hll hb => ?_⟩
  · rcases List.mem_append.1 hb with hb | hb
    · exact h.al b hb ho
    · rw [List.mem_singleton.1 hb]
  · show (cntW _ r.out _ : Int) = r.tr + 1
    rw [hl, cntW_y hg rfl, e.1]
    have := h.ct
    omega
  · change lstW _ r.out _ = _ at hll
    rw [hl, lstW_y hg rfl] at hll
    have : l = T.length := by omega
    subst this
    rw [hg] at hb
    obtain rfl := Option.some.inj hb
    show now + wtW c (r.tr + 1) ≤ now + wtOf c r
    unfold wtW wtOf
    exact Int.le_refl _
theorem hist_other {c : Cf} {T : List At} {r : Rs} {a : At} (h : Hist c T r) (ho : a.out ≠ r.out) : Hist c (T ++ [a]) r := by
  have hg : (T ++ [a])[T.length]? = some a := by simp
  have e := cntW_app (T := T) (o := r.out) [a] T.length (Nat.le_refl _)
  have hl : (T ++ [a]).length = T.length + 1 := by rw [List.length_append]; rfl
  refine ⟨fun b hb hbo => ?_, ?_, fun l b hll hb => ?_⟩
  · rcases List.mem_append.1 hb with hb | hb
    · exact h.al b hb hbo
    · rw [List.mem_singleton.1 hb] at hbo
      exact absurd hbo ho
  · rw [hl, cntW_n hg ho, e.1]
    exact h.ct
  · rw [hl, lstW_n hg ho, e.2] at hll
    have hlt : l < T.length := by rcases lstW_bd T r.out T.length with q | q <;> omega
    exact h.ls l b hll (by rwa [List.getElem?_append_left hlt] at hb)
theorem out_inj {S : Ts} (W : Wf 64 S) {i j : Nat} {r q : Rs} (h1 : S.R[i]? = some r) (h2 : S.R[j]? = some q) (ho : r.out = q.out) : i = j := by
  have e1 : (S.R.map (·.out))[i]? = some r.out := by rw [List.getElem?_map, h1]; rfl
  have e2 : (S.R.map (·.out))[j]? = some q.out := by rw [List.getElem?_map, h2]; rfl
  exact (List.getElem?_inj (List.getElem?_eq_some_iff.1 e1).1 W.out).1 (e1.trans (by rw [ho]; exact e2.symm))
theorem stp_vv {c : Cf} {now n : Int} {X : Pw} (J : Jv X) (hn : nE X.1 n = 0 ∧ (getR X.1 n).st = 2 ∧ (getR X.1 n).nx ≤ now) (hT : X.2.T.length < 10000) (hb : 1 ≤ c.ba ∧ c.ba ≤ c.cp ∧ c.cp ≤ 1048576) (hnow : now = X.2.now) (hbig : now ≤ 1000000000) (h : Vv c X) : Vv c (stpB c now X n) := by
  obtain ⟨hn, h2, hx⟩ := hn
  obtain ⟨he, ha, J2, hR⟩ := stp_ok (c := c) J hn h2 hT ⟨hb.1, hb.2.1⟩ hnow
  have hT2 := stp_T (c := c) (now := now) he
  have hv := nE_iff.1 hn
  have hg := getR_at hv
  have hm := List.mem_of_getElem? hg
  have hH := h.cl _ hm h2
  have hatt : attB X.2.now X n = ⟨now, (getR X.1 n).out, (getR X.1 n).why, relA X.2 (getR X.1 n).out (getR X.1 n).why⟩ := by rw [← hnow]; rfl
  have htr : (getR X.1 n).tr < 10000 := by
    have h3 := hH.ct
    have h4 := cntW_le X.2.T (getR X.1 n).out X.2.T.length
    omega
  have hw := wt_bd (c := c) ⟨hb.1, hb.2.1⟩ (getR X.1 n)
  have ht : triE (getR X.1 n) (relA X.2 (getR X.1 n).out (getR X.1 n).why) now (wtOf c (getR X.1 n)) = 0 := if_neg (fun q => by omega)
  have hRm : ∀ r ∈ (stpB c now X n).1.R, (r ∈ X.1.R ∧ r.out ≠ (getR X.1 n).out) ∨ r = triR (getR X.1 n) (relA X.2 (getR X.1 n).out (getR X.1 n).why) now (wtOf c (getR X.1 n)) := by
    intro r hr
    rw [hR] at hr
    obtain ⟨q, hq⟩ := List.getElem?_of_mem hr
    rw [List.getElem?_set] at hq
    split at hq
    · split at hq
      · right
        rw [← Option.some.inj hq]
        unfold trN
        rw [if_pos ht]
      · cases hq
    · rename_i hne
      exact .inl ⟨List.mem_of_getElem? hq, fun e => hne (out_inj J.wf hg hq e.symm)⟩
  refine ⟨?_, ?_, ?_, ?_⟩
  · rw [hT2.1, hatt]
    exact good_app h.gt (hist_good hH hx)
  · intro a haT
    rw [hT2.1] at haT
    have keep : ∀ r ∈ X.1.R, ∃ r2 ∈ (stpB c now X n).1.R, r2.out = r.out := fun r hr => by
      obtain ⟨q, hq⟩ := List.getElem?_of_mem hr
      rw [hR]
      by_cases e : (n - 1).toNat = q
      · refine ⟨_, List.mem_of_getElem? (List.getElem?_set_self (by have := (List.getElem?_eq_some_iff.1 hg).1; exact this)), ?_⟩
        rw [trN_out]
        rw [← e] at hq
        rw [hg] at hq
        rw [Option.some.inj hq]
      · exact ⟨r, List.mem_of_getElem? (by rw [List.getElem?_set_ne e]; exact hq), rfl⟩
    rcases List.mem_append.1 haT with haT | haT
    · obtain ⟨r, hr, ho⟩ := h.ow a haT
      obtain ⟨r2, hr2, ho2⟩ := keep r hr
      exact ⟨r2, hr2, ho2.trans ho⟩
    · rw [List.mem_singleton.1 haT]
      exact keep _ hm
  · intro r hr hst
    rcases hRm r hr with ⟨hr, hno⟩ | rfl
    · obtain ⟨h3, h4⟩ := h.lv r hr hst
      refine ⟨fun a haT => ?_, h4⟩
      rw [hT2.1] at haT
      rcases List.mem_append.1 haT with haT | haT
      · exact h3 a haT
      · rw [List.mem_singleton.1 haT]
        exact fun e => hno e.symm
    · exact absurd hst (triR_ok (wf_get J.wf hn).1 h2 ha (by have := J.wk.nl; omega) hw.1 ht).2.1
  · intro r hr hst
    rw [hT2.1, hatt]
    rcases hRm r hr with ⟨hr, hno⟩ | rfl
    · exact hist_other (h.cl r hr hst) (fun e => hno e.symm)
    · have ha2 := (triR_ok (wf_get J.wf hn).1 h2 ha (by have := J.wk.nl; omega) hw.1 ht).2.2 hst
      rw [ha2]
      have e3 : triR (getR X.1 n) 2 now (wtOf c (getR X.1 n)) = { getR X.1 n with tr := (getR X.1 n).tr + 1, nx := now + wtOf c (getR X.1 n) } := by
        unfold triR
        rw [if_neg (by decide), if_neg (by decide)]
      rw [e3]
      exact hist_more hH _ rfl
theorem vv_T {c : Cf} {X : Pw} {S : Ts} {W : Wst} (h : Vv c X) (hT : W.T = X.2.T) (hR : S.R = X.1.R) : Vv c (S, W) :=
  ⟨by rw [show (S, W).2.T = X.2.T from hT]; exact h.gt, fun a ha => by rw [show (S, W).2.T = X.2.T from hT] at ha; rw [show (S, W).1.R = X.1.R from hR]; exact h.ow a ha,
    fun r hr hs => by rw [show (S, W).1.R = X.1.R from hR] at hr; rw [show (S, W).2.T = X.2.T from hT]; exact h.lv r hr hs, fun r hr hs => by rw [show (S, W).1.R = X.1.R from hR] at hr; rw [show (S, W).2.T = X.2.T from hT]; exact h.cl r hr hs⟩
theorem vv_opn {c : Cf} {X : Pw} {S : Ts} {W : Wst} {r0 : Rs} (h : Vv c X) (hT : W.T = X.2.T) (hR : S.R = X.1.R ++ [r0]) (h1 : r0.st = 1) (h0 : r0.tr = 0) (hn : ∀ r ∈ X.1.R, r.out ≠ r0.out) : Vv c (S, W) := by
  have e1 : (S, W).2.T = X.2.T := hT
  have e2 : (S, W).1.R = X.1.R ++ [r0] := hR
  refine ⟨by rw [e1]; exact h.gt, fun a ha => ?_, fun r hr hs => ?_, fun r hr hs => ?_⟩
  · rw [e1] at ha
    obtain ⟨r, hr, ho⟩ := h.ow a ha
    exact ⟨r, by rw [e2]; exact List.mem_append_left _ hr, ho⟩
  · rw [e2] at hr
    rw [e1]
    rcases List.mem_append.1 hr with hr | hr
    · exact h.lv r hr hs
    · rw [List.mem_singleton.1 hr]
      refine ⟨fun a ha e => ?_, h0⟩
      obtain ⟨r2, hr2, ho⟩ := h.ow a ha
      exact hn r2 hr2 (ho.trans e)
  · rw [e2] at hr
    rw [e1]
    rcases List.mem_append.1 hr with hr | hr
    · exact h.cl r hr hs
    · rw [List.mem_singleton.1 hr] at hs
      omega
theorem opn_new {S : Ts} {o : Ky} {L : List UInt8} {h : Int × Int} (h0 : topE S o L h = 0) : ∀ r ∈ S.R, r.out ≠ o := by
  intro r hr e
  unfold topE at h0
  split at h0
  · omega
  · split at h0
    · omega
    · rw [if_pos (.inl ⟨r, hr, e⟩)] at h0
      omega
theorem Vv_step {c : Cf} {X : Pw} {i : Nat} {t : Tn} (hc : cfgE c = 0) (ht : TnOk t) (hi : i < 150) (hI : Iv i X) (h : Vv c X) : Vv c (stepP c X i t) := by
  have hb := cfg_bd hc
  by_cases e0 : t.k % 8 = 0 ∨ t.k % 8 = 1
  · rw [step_opn e0]
    have hT := (acq_Tn X.2 (whK t.n) (whX t.n)).1
    unfold opnP
    split
    · rcases opn_R X.1 (acqO X.2 (whK t.n) (whX t.n)) [116] ((i : Int) % 256, (i : Int) / 256 + 1) with ⟨_, g⟩ | ⟨g0, g⟩
      · rw [g]; exact vv_T h hT rfl
      · exact vv_opn h hT g rfl rfl (opn_new g0)
    · exact vv_T h hT rfl
  · by_cases e1 : t.k % 8 = 2 ∨ t.k % 8 = 3
    · rw [step_shu e1]
      unfold shuP
      split
      · exact vv_T h rfl rfl
      · rename_i hl0
        split
        · rename_i h1
          rcases set_R (expS X.1 (shK X.1 t.n)) (shK X.1 t.n) (cloR (getR X.1 (shK X.1 t.n)) (t.n / 7 % 3 + 1) X.2.now) with ⟨_, g⟩ | ⟨_, g⟩
          · rw [g]; exact vv_T h rfl (exp_R _ _)
          · rw [exp_R] at g
            have hv : 1 ≤ shK X.1 t.n ∧ shK X.1 t.n ≤ (X.1.R.length : Int) := by
              have h2 := Int.emod_nonneg t.n (b := (X.1.R.length : Int)) (by omega)
              have h3 := Int.emod_lt_of_pos t.n (b := (X.1.R.length : Int)) (by omega)
              unfold shK; omega
            have hg := getR_at hv
            have hm := List.mem_of_getElem? hg
            obtain ⟨h3, h4⟩ := h.lv _ hm h1
            refine ⟨h.gt, fun a ha => ?_, fun r hr hs => ?_, fun r hr hs => ?_⟩
            · obtain ⟨r, hr, ho⟩ := h.ow a ha
              obtain ⟨q, hq⟩ := List.getElem?_of_mem hr
              show ∃ r ∈ (setS _ _ _).R, _
              rw [g]
              by_cases e : (shK X.1 t.n - 1).toNat = q
              · refine ⟨_, List.mem_of_getElem? (List.getElem?_set_self (List.getElem?_eq_some_iff.1 hg).1), ?_⟩
                rw [← e, hg] at hq
                rw [← Option.some.inj hq] at ho
                exact ho
              · exact ⟨r, List.mem_of_getElem? (by rw [List.getElem?_set_ne e]; exact hq), ho⟩
            · change r ∈ (setS _ _ _).R at hr
              rw [g] at hr
              rcases List.mem_or_eq_of_mem_set hr with hr | rfl
              · exact h.lv r hr hs
              · exact absurd hs (by show ¬ (2 : Int) = 1; decide)
            · change r ∈ (setS _ _ _).R at hr
              rw [g] at hr
              rcases List.mem_or_eq_of_mem_set hr with hr | rfl
              · exact h.cl r hr hs
              · have hz := cntW_zero (o := (getR X.1 (shK X.1 t.n)).out) h3 X.2.T.length (Nat.le_refl _)
                refine ⟨fun b hb2 ho => absurd ho (h3 b hb2), ?_, fun l b hl _ => ?_⟩
                · show (cntW X.2.T (getR X.1 (shK X.1 t.n)).out X.2.T.length : Int) = (getR X.1 (shK X.1 t.n)).tr
                  rw [hz.1, h4]
                  rfl
                · change lstW X.2.T (getR X.1 (shK X.1 t.n)).out X.2.T.length = _ at hl
                  rw [hz.2] at hl
                  omega
        · exact vv_T h rfl rfl
    · by_cases e2 : t.k % 8 = 4
      · rw [step_tck e2]; exact vv_T h (tck_T _ _) rfl
      · by_cases e3 : t.k % 8 = 5
        · rw [step_asw e3]; exact vv_T h rfl rfl
        · have hr : isRun t := by
            unfold isRun
            have := Int.emod_nonneg t.k (b := 8) (by decide)
            omega
          rw [step_run hr]
          have hN := hI.nw
          exact due_ind hI.j hc (by have := hI.tn; omega) (fun Y _ => Vv c Y) (fun Y n k JY h1 h2 h3 h4 => stp_vv JY h1 h2 ⟨hb.2.2.1, hb.2.2.2.1, hb.2.2.2.2⟩ h3 (by omega) h4) h
theorem Vv_all {c : Cf} {T : List Tn} (hc : cfgE c = 0) (hT : ∀ t ∈ T, TnOk t) : ∀ i, i ≤ 150 → Vv c (plP c T i)
  | 0, _ => ⟨fun i a h => by simp [plP, wnew] at h, fun a h => (by cases h), fun r h => (by cases h), fun r h => (by cases h)⟩
  | i + 1, hi => by
    have h := Vv_all hc hT i (by omega)
    cases ht : T[i]? with
    | some t =>
      rw [plP_go ht]
      exact Vv_step hc (hT t (List.mem_of_getElem? ht)) (by omega) (Iv_all hc hT i (by omega)) h
    | none =>
      have e : plP c T (i + 1) = plP c T i := by
        show (match T[i]? with | some t => stepP c (plP c T i) i t | none => plP c T i) = _
        rw [ht]
      rw [e]
      exact h
end Go.Proofs.YtehlamblpekmkaaGreatDoor

/-
  A run makes one attempt for each of the first resources that are due. No program in sight.
-/
namespace Go.Proofs.YtehlamblpekmkaaGreatDoor
set_option maxHeartbeats 4000000
theorem run_fin {c : Cf} {now : Int} (hb : 1 ≤ c.ba ∧ c.ba ≤ c.cp) : ∀ {l : List Int} {X : Pw}, Jv X → now = X.2.now → l.Nodup → (∀ n ∈ l, nE X.1 n = 0 ∧ (getR X.1 n).st = 2) → X.2.T.length + l.length ≤ 10000 →
    (∀ u, 1 ≤ u → u ∉ l → getR (runB c now X l).1 u = getR X.1 u) ∧ ∀ (j : Nat) (n : Int), l[j]? = some n → ∃ a, (atsB c now X l)[j]? = some ⟨now, (getR X.1 n).out, (getR X.1 n).why, a⟩ ∧ (1 ≤ a ∧ a ≤ 3) ∧ getR (runB c now X l).1 n = trN (getR X.1 n) a now (wtOf c (getR X.1 n))
  | [], X, _, _, _, _, _ => ⟨fun _ _ _ => rfl, fun j n h => by simp at h⟩
  | n :: l, X, J, hnow, hnd, hl, hT => by
    rw [List.length_cons] at hT
    obtain ⟨h1, h2⟩ := hl n List.mem_cons_self
    obtain ⟨he, ha, J2, hR⟩ := stp_ok (c := c) J h1 h2 (by omega) hb hnow
    have hT2 := stp_T (c := c) (now := now) he
    rw [List.nodup_cons] at hnd
    have hlen : (stpB c now X n).2.T.length = X.2.T.length + 1 := by rw [hT2.1, List.length_append]; rfl
    have hRl : (stpB c now X n).1.R.length = X.1.R.length := by rw [hR, List.length_set]
    have hne : ∀ m ∈ l, m ≠ n := fun m hm e => hnd.1 (e ▸ hm)
    have hg : ∀ m, 1 ≤ m → getR (stpB c now X n).1 m = if m = n then _ else getR X.1 m := fun m hm => getR_set hR h1 hm
    obtain ⟨g1, g2⟩ := run_fin hb (now := now) (l := l) J2 (hnow.trans hT2.2.symm) hnd.2 (fun m hm => by
      obtain ⟨h4, h5⟩ := hl m (List.mem_cons_of_mem _ hm)
      have hv := nE_iff.1 h4
      refine ⟨nE_iff.2 (by rw [hRl]; exact hv), ?_⟩
      rw [hg m hv.1, if_neg (hne m hm)]
      exact h5) (by rw [hlen]; omega)
    refine ⟨fun u hu hn => ?_, fun j m hj => ?_⟩
    · rw [List.mem_cons, not_or] at hn
      show getR (runB c now (stpB c now X n) l).1 u = _
      rw [g1 u hu hn.2, hg u hu, if_neg hn.1]
    · rw [ats_cons]
      cases j with
      | zero =>
        rw [List.getElem?_cons_zero] at hj
        obtain rfl := Option.some.inj hj
        refine ⟨_, rfl, ha, ?_⟩
        show getR (runB c now (stpB c now X n) l).1 n = _
        rw [g1 n (nE_iff.1 h1).1 hnd.1, hg n (nE_iff.1 h1).1, if_pos rfl]
      | succ j =>
        rw [List.getElem?_cons_succ] at hj ⊢
        have hm := List.mem_of_getElem? hj
        have hv := nE_iff.1 (hl m (List.mem_cons_of_mem _ hm)).1
        have e := hg m hv.1
        rw [if_neg (hne m hm)] at e
        obtain ⟨a, k1, k2, k3⟩ := g2 j m hj
        rw [e] at k1 k3
        exact ⟨a, k1, k2, k3⟩
def lkA (D : List Int) (T : List At) : Nat → Int → Option Int
  | 0, _ => none
  | i + 1, n => match D[i]?, T[i]? with
    | some d, some a => if n = d then some a.ans else lkA D T i n
    | _, _ => lkA D T i n
theorem lkA_go {D : List Int} {T : List At} {i : Nat} {d n : Int} {a : At} (h1 : D[i]? = some d) (h2 : T[i]? = some a) : lkA D T (i + 1) n = if n = d then some a.ans else lkA D T i n := by
  show (match D[i]?, T[i]? with | some d, some a => if n = d then some a.ans else lkA D T i n | _, _ => lkA D T i n) = _
  rw [h1, h2]
theorem lkA_none {D : List Int} {T : List At} {n : Int} : ∀ {i : Nat}, (∀ j, j < i → D[j]? ≠ some n) → lkA D T i n = none
  | 0, _ => rfl
  | i + 1, h => by
    show (match D[i]?, T[i]? with | some d, some a => if n = d then some a.ans else lkA D T i n | _, _ => lkA D T i n) = _
    split
    · rename_i d a h1 h2
      rw [if_neg (fun e => h i (by omega) (by rw [h1, e]))]
      exact lkA_none fun j hj => h j (by omega)
    · exact lkA_none fun j hj => h j (by omega)
theorem lkA_some {D : List Int} {T : List At} {n : Int} {j : Nat} {a : At} (hd : D.Nodup) (h1 : D[j]? = some n) (h2 : T[j]? = some a) : ∀ {i : Nat}, j < i → i ≤ D.length → i ≤ T.length → lkA D T i n = some a.ans
  | 0, h, _, _ => by omega
  | i + 1, h, hD, hT => by
    have e1 : D[i]? = some D[i] := List.getElem?_eq_getElem (by omega)
    have e2 : T[i]? = some T[i] := List.getElem?_eq_getElem (by omega)
    rw [lkA_go e1 e2]
    by_cases e : i = j
    · subst e
      rw [if_pos (Option.some.inj (h1.symm.trans e1)), Option.some.inj (h2.symm.trans e2)]
    · rw [if_neg (fun q => e ((List.getElem?_inj (by omega) hd).1 (e1.trans (by rw [← q, h1]))))]
      exact lkA_some hd h1 h2 (by omega) (by omega) (by omega)
theorem mem_tw {α : Type} {p : α → Bool} {x : α} : ∀ {L : List α}, L.Pairwise (fun a b => p b = true → p a = true) → x ∈ L → p x = true → x ∈ L.takeWhile p
  | [], _, h, _ => by cases h
  | a :: L, hs, hx, hp => by
    rw [List.pairwise_cons] at hs
    have ha : p a = true := by
      rcases List.mem_cons.1 hx with rfl | hx
      · exact hp
      · exact hs.1 x hx hp
    rw [List.takeWhile_cons, if_pos ha]
    rcases List.mem_cons.1 hx with rfl | hx
    · exact List.mem_cons_self
    · exact List.mem_cons_of_mem _ (mem_tw hs.2 hx hp)
def twB (S : Ts) (now : Int) : List Int := (srtB S).takeWhile fun n => decide (nxR S n ≤ now)
theorem due_tw (S : Ts) (now most : Int) : dueB S now most = (twB S now).take most.toNat := rfl
theorem tw_nd (S : Ts) (now : Int) : (twB S now).Nodup := (srt_nd S).sublist (List.takeWhile_sublist _)
theorem tw_mem2 {S : Ts} {now n : Int} : n ∈ twB S now ↔ nE S n = 0 ∧ (getR S n).st = 2 ∧ (getR S n).nx ≤ now := by
  constructor
  · intro h
    have h1 := mem_srt.1 ((List.takeWhile_sublist _).mem h)
    exact ⟨h1.1, h1.2, of_decide_eq_true (tw_mem (p := fun n => decide (nxR S n ≤ now)) h)⟩
  · rintro ⟨h1, h2, h3⟩
    refine mem_tw ((isrt_le S _).imp fun {a b} hab hb => ?_) (mem_srt.2 ⟨h1, h2⟩) (decide_eq_true h3)
    have h4 := of_decide_eq_true hb
    refine decide_eq_true ?_
    unfold befB at hab
    omega
theorem tw_ord {S : Ts} {now : Int} {i : Nat} {d e : Int} (h1 : (twB S now)[i]? = some d) (h2 : (twB S now)[i + 1]? = some e) : befB S d e := by
  have hp : (twB S now).Pairwise fun a b => ¬ befB S b a := (isrt_le S _).sublist (List.takeWhile_sublist _)
  obtain ⟨l1, e1⟩ := List.getElem?_eq_some_iff.1 h1
  obtain ⟨l2, e2⟩ := List.getElem?_eq_some_iff.1 h2
  have h3 := List.pairwise_iff_getElem.1 hp i (i + 1) l1 l2 (by omega)
  have h4 : d ≠ e := fun q => by
    have := (List.getElem?_inj l1 (tw_nd S now)).1 (h1.trans (by rw [q, h2]))
    omega
  rw [e1, e2] at h3
  unfold befB at h3 ⊢
  omega
theorem tw_len (S : Ts) (now : Int) : (twB S now).length ≤ S.R.length := by
  have h1 : (twB S now).length ≤ (srtB S).length := (List.takeWhile_sublist _).length_le
  have h2 := nums_le S.R 2
  rw [srtB_len] at h1
  omega
structure RightOk (q : Cf) (m : Md) : Prop where
  nw : 0 ≤ m.now ∧ m.now ≤ 1000000
  wl : m.was.length ≤ 2000 ∧ m.is.length = m.was.length ∧ m.due.length ≤ 2000
  tl : m.tr.length ≤ m.due.length ∧ (m.tr.length : Int) ≤ q.bt ∧ (m.tr.length = m.due.length ∨ (m.tr.length : Int) = q.bt)
  rg : ∀ (i : Nat) (d : Int), m.due[i]? = some d → 1 ≤ d ∧ d ≤ (m.was.length : Int)
  dd : ∀ (i : Nat) (d : Int) (r : Rs), m.due[i]? = some d → m.was[(d - 1).toNat]? = some r → r.st = 2 ∧ r.nx ≤ m.now
  od : ∀ (i : Nat) (d e : Int) (r s : Rs), m.due[i]? = some d → m.due[i + 1]? = some e → m.was[(d - 1).toNat]? = some r → m.was[(e - 1).toNat]? = some s → r.nx < s.nx ∨ (r.nx = s.nx ∧ d < e)
  ty : ∀ (i : Nat) (d : Int) (a : At) (r : Rs), m.due[i]? = some d → m.tr[i]? = some a → m.was[(d - 1).toNat]? = some r → a.at_ = m.now ∧ a.out = r.out ∧ a.why = r.why
  fi : ∀ (n : Nat) (r s : Rs), m.was[n]? = some r → m.is[n]? = some s → s.out = r.out ∧ s.tag = r.tag ∧ s.why = r.why ∧
    ((lkA m.due m.tr m.tr.length ((n : Int) + 1)).getD 0 = 1 → s.st = 3 ∧ s.nx = 0 ∧ s.tr = r.tr) ∧
    ((lkA m.due m.tr m.tr.length ((n : Int) + 1)).getD 0 = 3 → s.st = 4 ∧ s.nx = 0 ∧ s.tr = r.tr) ∧
    ((lkA m.due m.tr m.tr.length ((n : Int) + 1)).getD 0 = 2 → s.st = r.st ∧ s.nx = m.now + wtOf q r ∧ s.tr = r.tr + 1 ∧ 0 ≤ r.tr ∧ r.tr ≤ 10000) ∧
    ((lkA m.due m.tr m.tr.length ((n : Int) + 1)).getD 0 ≠ 1 → (lkA m.due m.tr m.tr.length ((n : Int) + 1)).getD 0 ≠ 2 → (lkA m.due m.tr m.tr.length ((n : Int) + 1)).getD 0 ≠ 3 → s.st = r.st ∧ s.nx = r.nx ∧ s.tr = r.tr ∧ (r.st ≤ 1 ∨ 3 ≤ r.st ∨ m.now < r.nx ∨ q.bt ≤ (m.tr.length : Int)))
theorem was_at {S : Ts} {d : Int} {r : Rs} (h1 : nE S d = 0) (h2 : S.R[(d - 1).toNat]? = some r) : r = getR S d := Option.some.inj (h2.symm.trans (getR_at (nE_iff.1 h1)))
theorem trN_tag (r : Rs) (a now wt : Int) : (trN r a now wt).tag = r.tag := by
  unfold trN
  split
  · exact triR_tag _ _ _ _
  · rfl
theorem trN_why (r : Rs) (a now wt : Int) : (trN r a now wt).why = r.why := by
  unfold trN triR
  split
  · split
    · rfl
    · split <;> rfl
  · rfl
theorem right_ok {c : Cf} {X : Pw} {k : Nat} (hc : cfgE c = 0) (hI : Iv k X) (hV : Vv c X) (hk : k < 150) : RightOk c (mdB c X) := by
  have hb := cfg_bd hc
  have hb2 : 1 ≤ c.ba ∧ c.ba ≤ c.cp := ⟨hb.2.2.1, hb.2.2.2.1⟩
  have hnl := hI.j.wk.nl
  have hnw := hI.nw
  have hrn := hI.rn
  have htn := hI.tn
  have htw := tw_len X.1 X.2.now
  have hlD : (dueB X.1 X.2.now 2000).length = (twB X.1 X.2.now).length := by rw [due_tw, List.length_take]; omega
  have hD : dueB X.1 X.2.now 2000 = twB X.1 X.2.now := by rw [due_tw]; exact List.take_of_length_le (by omega)
  have hl : dueB X.1 X.2.now c.bt = (twB X.1 X.2.now).take c.bt.toNat := due_tw _ _ _
  have hll : (dueB X.1 X.2.now c.bt).length = min c.bt.toNat (twB X.1 X.2.now).length := by rw [hl, List.length_take]
  have hmem : ∀ {i : Nat} {d : Int}, (twB X.1 X.2.now)[i]? = some d → nE X.1 d = 0 ∧ (getR X.1 d).st = 2 ∧ (getR X.1 d).nx ≤ X.2.now := fun h => tw_mem2.1 (List.mem_of_getElem? h)
  obtain ⟨f1, f2⟩ := run_fin (c := c) (now := X.2.now) hb2 (l := dueB X.1 X.2.now c.bt) hI.j rfl (due_nd _ _ _) (fun n hn => ⟨(mem_due hn).1, (mem_due hn).2.1⟩) (by rw [hll]; omega)
  have hrS : rnS c X = runB c X.2.now X (dueB X.1 X.2.now c.bt) := by unfold rnS; rw [if_pos hc]
  have hrL : rnL c X = atsB c X.2.now X (dueB X.1 X.2.now c.bt) := by unfold rnL; rw [if_pos hc]
  have hrl : (rnL c X).length = (dueB X.1 X.2.now c.bt).length := by rw [hrL, ats_len]
  have hRl : (rnS c X).1.R.length = X.1.R.length := (due_run hI.j hc (by omega)).2.2.2.1
  have hlj : ∀ {j : Nat}, j < (dueB X.1 X.2.now c.bt).length → (dueB X.1 X.2.now c.bt)[j]? = (twB X.1 X.2.now)[j]? := fun {j} hj => by rw [hl, List.getElem?_take, if_pos (by omega)]
  refine ⟨⟨hnl, by show X.2.now ≤ _; omega⟩, ⟨by show X.1.R.length ≤ _; omega, hRl, by show (dueB X.1 X.2.now 2000).length ≤ _; omega⟩, ?_, ?_, ?_, ?_, ?_, ?_⟩
  · show (rnL c X).length ≤ (dueB X.1 X.2.now 2000).length ∧ ((rnL c X).length : Int) ≤ c.bt ∧ ((rnL c X).length = (dueB X.1 X.2.now 2000).length ∨ ((rnL c X).length : Int) = c.bt)
    rw [hrl, hlD, hll]
    omega
  · intro i d h
    change (dueB X.1 X.2.now 2000)[i]? = some d at h
    rw [hD] at h
    exact nE_iff.1 (hmem h).1
  · intro i d r h hr
    change (dueB X.1 X.2.now 2000)[i]? = some d at h
    rw [hD] at h
    obtain ⟨g1, g2, g3⟩ := hmem h
    rw [was_at g1 hr]
    exact ⟨g2, g3⟩
  · intro i d e r s h1 h2 hr hs
    change (dueB X.1 X.2.now 2000)[i]? = some d at h1
    change (dueB X.1 X.2.now 2000)[i + 1]? = some e at h2
    rw [hD] at h1 h2
    rw [was_at (hmem h1).1 hr, was_at (hmem h2).1 hs]
    exact tw_ord h1 h2
  · intro i d a r h ha hr
    change (dueB X.1 X.2.now 2000)[i]? = some d at h
    change (rnL c X)[i]? = some a at ha
    rw [hD] at h
    have hi := (List.getElem?_eq_some_iff.1 ha).1
    rw [hrl] at hi
    rw [hrL] at ha
    obtain ⟨v, k1, _, _⟩ := f2 i d ((hlj hi).trans h)
    rw [Option.some.inj (ha.symm.trans k1), was_at (hmem h).1 hr]
    exact ⟨rfl, rfl, rfl⟩
  · intro n r s hr hs
    change X.1.R[n]? = some r at hr
    change (rnS c X).1.R[n]? = some s at hs
    have er : r = getR X.1 ((n : Int) + 1) := (getR_some hr).symm
    have es : s = getR (rnS c X).1 ((n : Int) + 1) := (getR_some hs).symm
    have hn0 : nE X.1 ((n : Int) + 1) = 0 := nE_iff.2 (by have := (List.getElem?_eq_some_iff.1 hr).1; omega)
    obtain ⟨v0, hv0⟩ : ∃ v0, lkA (mdB c X).due (mdB c X).tr (mdB c X).tr.length ((n : Int) + 1) = v0 := ⟨_, rfl⟩
    rw [hv0]
    by_cases hm : ((n : Int) + 1) ∈ dueB X.1 X.2.now c.bt
    · obtain ⟨j, hj⟩ := List.getElem?_of_mem hm
      have hjl := (List.getElem?_eq_some_iff.1 hj).1
      obtain ⟨v, k1, k2, k3⟩ := f2 j _ hj
      rw [← hrL] at k1
      rw [← hrS] at k3
      have hlk : lkA (dueB X.1 X.2.now 2000) (rnL c X) (rnL c X).length ((n : Int) + 1) = some v := lkA_some (due_nd _ _ _) (by rw [hD, ← hlj hjl]; exact hj) k1 (by rw [hrl]; exact hjl) (by rw [hrl, hlD, hll]; omega) (Nat.le_refl _)
      have hd := mem_due hm
      have hH := hV.cl _ (List.mem_of_getElem? (getR_at (nE_iff.1 hn0))) hd.2.1
      have hct := hH.ct
      have hcl := cntW_le X.2.T (getR X.1 ((n : Int) + 1)).out X.2.T.length
      have hw := wt_bd (c := c) hb2 (getR X.1 ((n : Int) + 1))
      have ht : triE (getR X.1 ((n : Int) + 1)) v X.2.now (wtOf c (getR X.1 ((n : Int) + 1))) = 0 := if_neg (fun q => by omega)
      obtain rfl : v0 = some v := hv0.symm.trans hlk
      rw [er, es, k3]
      refine ⟨trN_out _ _ _ _, trN_tag _ _ _ _, trN_why _ _ _ _, ?_⟩
      show (v = 1 → _) ∧ (v = 3 → _) ∧ (v = 2 → _) ∧ (v ≠ 1 → v ≠ 2 → v ≠ 3 → _)
      unfold trN
      rw [if_pos ht]
      unfold triR
      refine ⟨fun e => ?_, fun e => ?_, fun e => ?_, fun e1 e2 e3 => by omega⟩
      · rw [if_pos e]; exact ⟨rfl, rfl, rfl⟩
      · rw [if_neg (by omega), if_pos e]; exact ⟨rfl, rfl, rfl⟩
      · rw [if_neg (by omega), if_neg (by omega)]; exact ⟨rfl, rfl, rfl, by omega, by omega⟩
    · have hno : ∀ j, j < (rnL c X).length → (dueB X.1 X.2.now 2000)[j]? ≠ some ((n : Int) + 1) := fun j hj e => by
        rw [hrl] at hj
        rw [hD, ← hlj hj] at e
        exact hm (List.mem_of_getElem? e)
      obtain rfl : v0 = none := hv0.symm.trans (lkA_none hno)
      have e2 : s = r := by rw [es, er, hrS]; exact f1 _ (by omega) hm
      rw [e2]
      refine ⟨rfl, rfl, rfl, fun e => absurd e (by decide), fun e => absurd e (by decide), fun e => absurd e (by decide), fun _ _ _ => ⟨rfl, rfl, rfl, ?_⟩⟩
      show r.st ≤ 1 ∨ 3 ≤ r.st ∨ X.2.now < r.nx ∨ c.bt ≤ ((rnL c X).length : Int)
      by_cases h2 : r.st = 2 ∧ r.nx ≤ X.2.now
      · right; right; right
        have htwm : ((n : Int) + 1) ∈ twB X.1 X.2.now := tw_mem2.2 ⟨hn0, by rw [← er]; exact h2.1, by rw [← er]; exact h2.2⟩
        rw [hrl, hll]
        have : c.bt.toNat < (twB X.1 X.2.now).length := Decidable.byContradiction fun h => hm (by rw [hl, List.take_of_length_le (by omega)]; exact htwm)
        omega
      · omega
theorem mds_right {c : Cf} {T : List Tn} (hc : cfgE c = 0) (hT : ∀ t ∈ T, TnOk t) : ∀ i, i ≤ 150 → ∀ m ∈ mdsP c T i, RightOk c m
  | 0, _, m, h => by cases h
  | i + 1, hi, m, h => by
    have ih := mds_right hc hT i (by omega)
    cases ht : T[i]? with
    | none =>
      have e2 : mdsP c T (i + 1) = mdsP c T i := by
        show (match T[i]? with | some t => if isRun t then mdsP c T i ++ [mdB c (plP c T i)] else mdsP c T i | none => mdsP c T i) = _
        rw [ht]
      rw [e2] at h
      exact ih m h
    | some t =>
      rw [mdsP_go ht] at h
      split at h
      · rcases List.mem_append.1 h with h | h
        · exact ih m h
        · rw [List.mem_singleton.1 h]
          exact right_ok hc (Iv_all hc hT i (by omega)) (Vv_all hc hT i (by omega)) (by omega)
      · exact ih m h
end Go.Proofs.YtehlamblpekmkaaGreatDoor
