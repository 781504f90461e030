/- Walks, printed by my generator q1.py. -/
import Derived.Test.YtehlamblpekmkaaGreatDoorBundle29
import Derived.Test.YtehlamblpekmkaaGreatDoorBundle37
import Derived.Test.YtehlamblpekmkaaGreatDoorBatP
import Derived.Test.YtehlamblpekmkaaGreatDoorRfa
namespace Go.Proofs.YtehlamblpekmkaaGreatDoor
set_option maxHeartbeats 4000000
theorem nan_int (za : Int) : HT Tryz.prog 187 [iV za] [] (fun v K => v = .bool false ∧ K = []) := by
 refine hiS Tryz.func187 Tryz.ntmps187 fun g w0 R h0 => go [.v 1 2 (qnF za za)] ?_
 exact en (.bool false) [] ⟨_, _, rfl, ⟨rfl, rfl⟩, h0⟩

theorem cmp_int (za zb : Int) : HT Tryz.prog 109 [iV za, iV zb] [] (fun v K => v = iV (cmpI za zb) ∧ K = []) := by
 refine hiS Tryz.func109 Tryz.ntmps109 fun g w0 R h0 => go [] <| cl0 Tryz.call187 (nan_int za) h0 fun _ h11 => go [] <| cl0 Tryz.call187 (nan_int zb) h11 fun _ h13 => go [.s 9 2] ?_
 by_cases c14 : za < zb
 ·
  refine go [.v 9 2 (oT (za < zb))] ?_
  exact en (iV (-1)) [] ⟨_, _, rfl, ⟨by unfold cmpI; rw [if_pos (by omega)], rfl⟩, h13⟩
 refine go [.v 9 2 (oF (za < zb)), .s 11 2] ?_
 by_cases c15 : za > zb
 ·
  refine go [.v 11 2 (oT (za > zb))] ?_
  exact en (iV 1) [] ⟨_, _, rfl, ⟨by unfold cmpI; rw [if_neg (by omega), if_pos (by omega)], rfl⟩, h13⟩
 refine go [.v 11 2 (oF (za > zb))] ?_
 exact en (iV 0) [] ⟨_, _, rfl, ⟨by unfold cmpI; rw [if_neg (by omega), if_neg (by omega)], rfl⟩, h13⟩

theorem nan_int64 (za : Int) : HT Tryz.prog 186 [iV za] [] (fun v K => v = .bool false ∧ K = []) := by
 refine hiS Tryz.func186 Tryz.ntmps186 fun g w0 R h0 => go [.v 1 2 (qnF za za)] ?_
 exact en (.bool false) [] ⟨_, _, rfl, ⟨rfl, rfl⟩, h0⟩

theorem cmp_int64 (za zb : Int) : HT Tryz.prog 108 [iV za, iV zb] [] (fun v K => v = iV (cmpI za zb) ∧ K = []) := by
 refine hiS Tryz.func108 Tryz.ntmps108 fun g w0 R h0 => go [] <| cl0 Tryz.call186 (nan_int64 za) h0 fun _ h11 => go [] <| cl0 Tryz.call186 (nan_int64 zb) h11 fun _ h13 => go [.s 9 2] ?_
 by_cases c14 : za < zb
 ·
  refine go [.v 9 2 (oT (za < zb))] ?_
  exact en (iV (-1)) [] ⟨_, _, rfl, ⟨by unfold cmpI; rw [if_pos (by omega)], rfl⟩, h13⟩
 refine go [.v 9 2 (oF (za < zb)), .s 11 2] ?_
 by_cases c15 : za > zb
 ·
  refine go [.v 11 2 (oT (za > zb))] ?_
  exact en (iV 1) [] ⟨_, _, rfl, ⟨by unfold cmpI; rw [if_neg (by omega), if_pos (by omega)], rfl⟩, h13⟩
 refine go [.v 11 2 (oF (za > zb))] ?_
 exact en (iV 0) [] ⟨_, _, rfl, ⟨by unfold cmpI; rw [if_neg (by omega), if_neg (by omega)], rfl⟩, h13⟩

theorem or_ht (r : Nat) (za zb : Int) : HT Tryz.prog 107 [.slice (some ⟨r, 0, none⟩) 2 2] [Cl r [iV za, iV zb] 3] (fun v K => v = iV (if za ≠ 0 then za else zb) ∧ K = [Cl r [iV za, iV zb] 3]) := by
 refine hiS Tryz.func107 Tryz.ntmps107 fun g w0 R h0 => go [.v 2 1 (oJ .i64 (2 : Int) 2)] <| unS 2 <| go [.s 4 0] <| lwP (pV r) (law_indexSl (x := (Operand.tmp 6)) (i := (Operand.tmp 8)) (b := r) (off := 0) (z := 0) (len := 2) (cap := 2) (by kernel_rfl) Tryz.underlying37 1 (by kernel_rfl) 0 (by kernel_rfl) (by kernel_rfl) (by omega) (by omega) 0 (by omega) _) <| go [rd 4 1 0 0 1 h0, .s 5 2] ?_
 by_cases c10 : za = 0
 ·
  refine go [.v 5 2 (qnF za 0)] <| unN <| go [.s 4 0] <| lwP (.pointer (some ⟨r, 1, none⟩)) (law_indexSl (x := (Operand.tmp 6)) (i := (Operand.tmp 8)) (b := r) (off := 0) (z := 1) (len := 2) (cap := 2) (by kernel_rfl) Tryz.underlying37 1 (by kernel_rfl) 1 (by kernel_rfl) (by kernel_rfl) (by omega) (by omega) 1 (by omega) _) <| go [rd 4 1 0 1 1 h0, .s 5 2] ?_
  by_cases c11 : zb = 0
  ·
   refine go [.v 5 2 (qnF zb 0)] <| unN <| go [] <| up <| go [] ?_
   exact en (iV 0) [] ⟨_, _, rfl, ⟨by rw [show (if za ≠ 0 then za else zb) = 0 from by split <;> omega], rfl⟩, h0⟩
  refine go [.v 5 2 (qnT zb 0)] <| up <| go [] ?_
  exact en (iV zb) [] ⟨_, _, rfl, ⟨by rw [show (if za ≠ 0 then za else zb) = zb from by split <;> omega], rfl⟩, h0⟩
 refine go [.v 5 2 (qnT za 0)] <| up <| go [] ?_
 exact en (iV za) [] ⟨_, _, rfl, ⟨by rw [show (if za ≠ 0 then za else zb) = za from by split <;> omega], rfl⟩, h0⟩

theorem ovalid_ht (W : World) (b ts tm tc : Nat) (p : Option Addr) (S : Ts) (q0_ : W.cell? ⟨b, 0, none⟩ = some (.pointer (some ⟨ts, 0, none⟩))) (q1_ : W.cell? ⟨b, 1, none⟩ = some (.map (some tm))) (q2_ : W.cell? ⟨b, 2, none⟩ = some (.slice p S.R.length tc)) (hR : Rd W p S.R.length (fl eRs S.R)) (hrl : S.R.length ≤ 2000) : HT Tryz.prog 121 [pV b] [Old W] (fun v K => v = .bool true ∧ K = [Old W]) := by
 refine hiS Tryz.func121 Tryz.ntmps121 fun g w0 R h0 => go [.r 1 6 b 1 [.map (some tm)] ⟨sat_cellOld h0 0 rfl q1_, trivial⟩] ?_
 exact en (.bool true) [] ⟨_, _, rfl, ⟨rfl, rfl⟩, h0⟩

theorem ocheck_ok (W : World) (b ts tm tc : Nat) (p : Option Addr) (S : Ts) (q0_ : W.cell? ⟨b, 0, none⟩ = some (.pointer (some ⟨ts, 0, none⟩))) (q1_ : W.cell? ⟨b, 1, none⟩ = some (.map (some tm))) (q2_ : W.cell? ⟨b, 2, none⟩ = some (.slice p S.R.length tc)) (hR : Rd W p S.R.length (fl eRs S.R)) (hrl : S.R.length ≤ 2000) (vn : Int) (h : 1 ≤ vn ∧ vn ≤ (S.R.length : Int)) : HT Tryz.prog 110 [pV b, iV vn] [Old W] (fun v K => v = iV 0 ∧ K = [Old W]) := by
 refine hiS Tryz.func110 Tryz.ntmps110 fun g w0 R h0 => go [] <| cl1 Tryz.call121 (ovalid_ht W b ts tm tc p S q0_ q1_ q2_ hR hrl) h0 fun _ h11 => go [.v 3 1 (oF (vn < 1)), .r 3 7 b 2 [.slice p S.R.length tc] ⟨sat_cellOld h11 0 rfl q2_, trivial⟩, .v 3 9 (oF (vn > ((S.R.length : Nat) : Int)))] ?_
 exact en (iV 0) [] ⟨_, _, rfl, ⟨rfl, rfl⟩, h11⟩

theorem ocheck_no (W : World) (b ts tm tc : Nat) (p : Option Addr) (S : Ts) (q0_ : W.cell? ⟨b, 0, none⟩ = some (.pointer (some ⟨ts, 0, none⟩))) (q1_ : W.cell? ⟨b, 1, none⟩ = some (.map (some tm))) (q2_ : W.cell? ⟨b, 2, none⟩ = some (.slice p S.R.length tc)) (hR : Rd W p S.R.length (fl eRs S.R)) (hrl : S.R.length ≤ 2000) (vn : Int) (h : vn < 1 ∨ (S.R.length : Int) < vn) : HT Tryz.prog 110 [pV b, iV vn] [Old W] (fun v K => v = iV 3 ∧ K = [Old W]) := by
 refine hiS Tryz.func110 Tryz.ntmps110 fun g w0 R h0 => go [] <| cl1 Tryz.call121 (ovalid_ht W b ts tm tc p S q0_ q1_ q2_ hR hrl) h0 fun _ h11 => go [.s 3 1] ?_
 by_cases c12 : vn < 1
 ·
  refine go [.v 3 1 (oT (vn < 1))] ?_
  exact en (iV 3) [] ⟨_, _, rfl, ⟨rfl, rfl⟩, h11⟩
 refine go [.v 3 1 (oF (vn < 1)), .r 3 7 b 2 [.slice p S.R.length tc] ⟨sat_cellOld h11 0 rfl q2_, trivial⟩, .v 3 9 (oT (vn > ((S.R.length : Nat) : Int)))] ?_
 exact en (iV 3) [] ⟨_, _, rfl, ⟨rfl, rfl⟩, h11⟩

theorem oget_no (W : World) (b ts tm tc : Nat) (p : Option Addr) (S : Ts) (q0_ : W.cell? ⟨b, 0, none⟩ = some (.pointer (some ⟨ts, 0, none⟩))) (q1_ : W.cell? ⟨b, 1, none⟩ = some (.map (some tm))) (q2_ : W.cell? ⟨b, 2, none⟩ = some (.slice p S.R.length tc)) (hR : Rd W p S.R.length (fl eRs S.R)) (hrl : S.R.length ≤ 2000) (vn : Int) (h : vn < 1 ∨ (S.R.length : Int) < vn) : HT Tryz.prog 45 [pV b, iV vn] [Old W] (fun v K => v = .tuple #[.agg #[iV 0, iV 0, uV 0, iV 0, iV 0, iV 0, iV 0, .string (St [])], iV 3] ∧ K = [Old W]) := by
 refine hiS Tryz.func45 Tryz.ntmps45 fun g w0 R h0 => go [] <| nP 82 [iV 0, iV 0, uV 0, iV 0, iV 0, iV 0, iV 0, .string (St [])] h0 (fun _ _ h12 => ?_)
 have h13 := tk3 (sf2 (sf1 (sf2 h12)))
 refine go [] <| cl1 Tryz.call110 (ocheck_no W b ts tm tc p S q0_ q1_ q2_ hR hrl vn (by omega)) h13 fun _ h15 => ?_
 have h16 := tk3 (sf2 (sf1 (sf2 h15)))
 refine go [] <| sP [(0, iV 0), (1, iV 0), (2, uV 0), (3, iV 0), (4, iV 0), (5, iV 0), (6, iV 0), (7, .string (St []))] [iV 0, iV 0, uV 0, iV 0, iV 0, iV 0, iV 0, .string (St [])] h16 fun _ h18 => go [] ?_
 exact en (.tuple #[.agg #[iV 0, iV 0, uV 0, iV 0, iV 0, iV 0, iV 0, .string (St [])], iV 3]) [rd 0 0 0 0 8 h18] ⟨_, _, rfl, ⟨rfl, rfl⟩, (tk2 (sf1 (sf2 (tk3 (sf2 (sf1 (sf2 h18)))))))⟩

theorem oget_ok (W : World) (b ts tm tc : Nat) (p : Option Addr) (S : Ts) (q0_ : W.cell? ⟨b, 0, none⟩ = some (.pointer (some ⟨ts, 0, none⟩))) (q1_ : W.cell? ⟨b, 1, none⟩ = some (.map (some tm))) (q2_ : W.cell? ⟨b, 2, none⟩ = some (.slice p S.R.length tc)) (hR : Rd W p S.R.length (fl eRs S.R)) (hrl : S.R.length ≤ 2000) (vn : Int) (q : Nat) (r : Rs) (hr : S.R[q]? = some r) (hv : vn = (q : Int) + 1) : HT Tryz.prog 45 [pV b, iV vn] [Old W] (fun v K => v = .tuple #[.agg #[iV r.out.1, iV r.out.2.1, uV r.out.2.2, iV r.st, iV r.why, iV r.tr, iV r.nx, .string (St r.tag)], iV 0] ∧ K = [Old W]) := by
 refine hiS Tryz.func45 Tryz.ntmps45 fun g w0 R h0 => ?_
 have hq_ := (List.getElem?_eq_some_iff.1 hr).1
 refine go [] <| nP 82 [iV 0, iV 0, uV 0, iV 0, iV 0, iV 0, iV 0, .string (St [])] h0 (fun _ _ h12 => ?_)
 have h13 := tk3 (sf2 (sf1 (sf2 h12)))
 refine go [] <| cl1 Tryz.call110 (ocheck_ok W b ts tm tc p S q0_ q1_ q2_ hR hrl vn (by omega)) h13 fun _ h15 => ?_
 obtain ⟨b16, off18, hp17⟩ := gv_ptr (j := 0) h15 rfl (gv_old hR) (by omega)
 refine go [.r 4 3 b 2 [.slice p S.R.length tc] ⟨sat_cellOld h15 0 rfl q2_, trivial⟩, .v 4 5 (oIr (vn - 1)), .s 4 6] <| lwP (.pointer (some ⟨b16, off18 + q * 8, none⟩)) (law_indexSlP (x := (Operand.tmp 17)) (i := (Operand.tmp 19)) (p := p) (b := b16) (off := off18) (z := (vn - 1)) (len := S.R.length) (cap := tc) (by kernel_rfl) Tryz.underlying33 8 (by kernel_rfl) q (by kernel_rfl) hp17 (by kernel_rfl) (by omega) (by omega) (off18 + q * 8) (by omega) _) ?_
 have h19 := tk3 (sf2 (sf1 (sf2 h15)))
 refine go [.r 4 7 b16 (off18 + q * 8) [iV r.out.1, iV r.out.2.1, uV r.out.2.2, iV r.st, iV r.why, iV r.tr, iV r.nx, .string (St r.tag)] ⟨gv_cell (j := 0) h15 rfl (gv_old hR) hp17 (fl_get eRs_ok (j := 0) (v := iV r.out.1) hr rfl) (off18 + q * 8) (by omega), gv_cell (j := 0) h15 rfl (gv_old hR) hp17 (fl_get eRs_ok (j := 1) (v := iV r.out.2.1) hr rfl) (off18 + q * 8 + 1) (by omega), gv_cell (j := 0) h15 rfl (gv_old hR) hp17 (fl_get eRs_ok (j := 2) (v := uV r.out.2.2) hr rfl) (off18 + q * 8 + 2) (by omega), gv_cell (j := 0) h15 rfl (gv_old hR) hp17 (fl_get eRs_ok (j := 3) (v := iV r.st) hr rfl) (off18 + q * 8 + 3) (by omega), gv_cell (j := 0) h15 rfl (gv_old hR) hp17 (fl_get eRs_ok (j := 4) (v := iV r.why) hr rfl) (off18 + q * 8 + 4) (by omega), gv_cell (j := 0) h15 rfl (gv_old hR) hp17 (fl_get eRs_ok (j := 5) (v := iV r.tr) hr rfl) (off18 + q * 8 + 5) (by omega), gv_cell (j := 0) h15 rfl (gv_old hR) hp17 (fl_get eRs_ok (j := 6) (v := iV r.nx) hr rfl) (off18 + q * 8 + 6) (by omega), gv_cell (j := 0) h15 rfl (gv_old hR) hp17 (fl_get eRs_ok (j := 7) (v := .string (St r.tag)) hr rfl) (off18 + q * 8 + 7) (by omega), trivial⟩] <| sP [(0, iV r.out.1), (1, iV r.out.2.1), (2, uV r.out.2.2), (3, iV r.st), (4, iV r.why), (5, iV r.tr), (6, iV r.nx), (7, .string (St r.tag))] [iV r.out.1, iV r.out.2.1, uV r.out.2.2, iV r.st, iV r.why, iV r.tr, iV r.nx, .string (St r.tag)] h19 fun _ h21 => go [] ?_
 exact en (.tuple #[.agg #[iV r.out.1, iV r.out.2.1, uV r.out.2.2, iV r.st, iV r.why, iV r.tr, iV r.nx, .string (St r.tag)], iV 0]) [rd 0 0 0 0 8 h21] ⟨_, _, rfl, ⟨rfl, rfl⟩, (tk2 (sf1 (sf2 (tk3 (sf2 (sf1 (sf2 h21)))))))⟩

theorem oget_ht (W : World) (b ts tm tc : Nat) (p : Option Addr) (S : Ts) (q0_ : W.cell? ⟨b, 0, none⟩ = some (.pointer (some ⟨ts, 0, none⟩))) (q1_ : W.cell? ⟨b, 1, none⟩ = some (.map (some tm))) (q2_ : W.cell? ⟨b, 2, none⟩ = some (.slice p S.R.length tc)) (hR : Rd W p S.R.length (fl eRs S.R)) (hrl : S.R.length ≤ 2000) (vn : Int) : HT Tryz.prog 45 [Value.pointer (some ⟨b, 0, none⟩), Value.int IntKind.i64 vn] [Old W] (fun v K => v = Value.tuple #[Value.agg #[Value.int IntKind.i64 ((getR S vn).out.1), Value.int IntKind.i64 ((getR S vn).out.2.1), Value.int IntKind.u32 ((getR S vn).out.2.2), Value.int IntKind.i64 ((getR S vn).st), Value.int IntKind.i64 ((getR S vn).why), Value.int IntKind.i64 ((getR S vn).tr), Value.int IntKind.i64 ((getR S vn).nx), Value.string (St ((getR S vn).tag))], Value.int IntKind.i64 ((nE S vn))] ∧ K = [Old W]) := by
  unfold nE
  by_cases h : 1 ≤ vn ∧ vn ≤ (S.R.length : Int)
  · rw [if_pos h]
    exact oget_ok W b ts tm tc p S q0_ q1_ q2_ hR hrl vn (vn - 1).toNat (getR S vn) (getR_at h) (by omega)
  · rw [if_neg h, getR_no h]
    exact oget_no W b ts tm tc p S q0_ q1_ q2_ hR hrl vn (by omega)

theorem oclo1_ht (W : World) (b ts tm tc : Nat) (p : Option Addr) (S : Ts) (q0_ : W.cell? ⟨b, 0, none⟩ = some (.pointer (some ⟨ts, 0, none⟩))) (q1_ : W.cell? ⟨b, 1, none⟩ = some (.map (some tm))) (q2_ : W.cell? ⟨b, 2, none⟩ = some (.slice p S.R.length tc)) (hR : Rd W p S.R.length (fl eRs S.R)) (hrl : S.R.length ≤ 2000) (c1 : Nat) (hc1 : W.cell? ⟨c1, 0, none⟩ = some (.pointer (some ⟨b, 0, none⟩))) (vn : Int) : HT Tryz.prog 104 [iV vn, pV c1] [Old W] (fun v K => v = iV ((nxR S vn)) ∧ K = [Old W]) := by
 refine hiS Tryz.func104 Tryz.ntmps104 fun g w0 R h0 => go [.r 1 0 c1 0 [pV b] ⟨sat_cellOld h0 0 rfl hc1, trivial⟩] <| cl1 Tryz.call45 (oget_ht W b ts tm tc p S q0_ q1_ q2_ hR hrl vn) h0 fun _ h11 => go [] <| nP 82 [iV 0, iV 0, uV 0, iV 0, iV 0, iV 0, iV 0, .string (St [])] h11 (fun _ _ h14 => ?_)
 refine sP [(0, iV ((getR S vn).out.1)), (1, iV ((getR S vn).out.2.1)), (2, uV ((getR S vn).out.2.2)), (3, iV ((getR S vn).st)), (4, iV ((getR S vn).why)), (5, iV ((getR S vn).tr)), (6, iV ((getR S vn).nx)), (7, .string (St ((getR S vn).tag)))] [iV ((getR S vn).out.1), iV ((getR S vn).out.2.1), uV ((getR S vn).out.2.2), iV ((getR S vn).st), iV ((getR S vn).why), iV ((getR S vn).tr), iV ((getR S vn).nx), .string (St ((getR S vn).tag))] h14 fun _ h16 => go [rd 2 1 0 6 1 h16] ?_
 exact en (iV ((getR S vn).nx)) [] ⟨_, _, rfl, ⟨rfl, rfl⟩, (tk2 (sf1 (sf2 (tk3 (sf2 (sf1 (sf2 h16)))))))⟩

theorem oclo2_ht (W : World) (b ts tm tc : Nat) (p : Option Addr) (S : Ts) (q0_ : W.cell? ⟨b, 0, none⟩ = some (.pointer (some ⟨ts, 0, none⟩))) (q1_ : W.cell? ⟨b, 1, none⟩ = some (.map (some tm))) (q2_ : W.cell? ⟨b, 2, none⟩ = some (.slice p S.R.length tc)) (hR : Rd W p S.R.length (fl eRs S.R)) (hrl : S.R.length ≤ 2000) (c1 : Nat) (hc1 : W.cell? ⟨c1, 0, none⟩ = some (.pointer (some ⟨b, 0, none⟩))) (c3 : Nat) (hc3 : W.cell? ⟨c3, 0, none⟩ = some (.func (Fn.func 104) #[] #[pV c1])) (za zb : Int) : HT Tryz.prog 106 [iV za, iV zb, pV c3] [Old W] (fun v K => v = iV ((cfB S za zb)) ∧ K = [Old W]) := by
 refine hiS Tryz.func106 Tryz.ntmps106 fun g w0 R h0 => go [] <| dw (fls [0, 1, 3, 4, 7, 8] (Tr.an 2 (Tr.an 5 (Tr.an 6 (Tr.an 9 (Tr.an 10 (Tr.an 11 (Tr.fl 12 Tr.nil)))))))) h0 fun _ h11 => go [.r 1 0 c3 0 [.func (Fn.func 104) #[] #[pV c1]] ⟨sat_cellOld h11 0 rfl hc3, trivial⟩, .r 1 3 c3 0 [.func (Fn.func 104) #[] #[pV c1]] ⟨sat_cellOld h11 0 rfl hc3, trivial⟩] <| cw1 Tryz.call104 (oclo1_ht W b ts tm tc p S q0_ q1_ q2_ hR hrl c1 hc1 za) h11 fun _ h13 => ⟨kd [.r 0 3 c3 0 [.func (Fn.func 104) #[] #[pV c1]] ⟨sat_cellOld h13 0 rfl hc3, trivial⟩], ?_⟩
 refine cw1 Tryz.call104 (oclo1_ht W b ts tm tc p S q0_ q1_ q2_ hR hrl c1 hc1 zb) h13 fun _ h15 => ⟨kd [], ?_⟩
 refine cw0 Tryz.call108 (cmp_int64 ((nxR S za)) ((nxR S zb))) h15 fun _ h17 => ⟨kd [], ?_⟩
 refine cw0 Tryz.call109 (cmp_int za zb) h17 fun _ h19 => ⟨kd [], ?_⟩
 refine nG (fun q_ => .slice (some ⟨q_, 0, none⟩) 2 2) 3 [iV ((cmpI ((nxR S za)) ((nxR S zb)))), iV ((cmpI za zb))] h19 (fun r20 _ h22 => ⟨kd [], ?_⟩)
 refine cw1 Tryz.call107 (or_ht r20 ((cmpI ((nxR S za)) ((nxR S zb)))) ((cmpI za zb))) h22 fun _ h24 => ⟨kd [], ?_⟩
 refine go [] ?_
 exact en (iV ((if (cmpI ((nxR S za)) ((nxR S zb))) ≠ 0 then (cmpI ((nxR S za)) ((nxR S zb))) else (cmpI za zb)))) [] ⟨_, _, rfl, ⟨rfl, rfl⟩, (tk2 (sf1 (sf2 (tk3 (sf2 (sf1 (sf2 h24)))))))⟩

end Go.Proofs.YtehlamblpekmkaaGreatDoor
