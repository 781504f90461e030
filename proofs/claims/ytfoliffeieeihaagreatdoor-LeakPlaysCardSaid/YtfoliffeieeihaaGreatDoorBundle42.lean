/- Walks, printed by my generator z3.py. -/
import Derived.Test.YtfoliffeieeihaaGreatDoorBundle35
import Derived.Test.YtfoliffeieeihaaGreatDoorD2
import Derived.Test.YtfoliffeieeihaaGreatDoorLzP
namespace Go.Proofs.YtfoliffeieeihaaGreatDoor
set_option maxHeartbeats 4000000 in
theorem zout_ok (x y z : Int) (hz0 : 0 ≤ z) (h : 1 ≤ x ∧ x ≤ 3 ∧ 0 ≤ y ∧ y ≤ 63 ∧ 1 ≤ z) : HT Tryz.prog 34 [.agg #[iV x, iV y, uV z]] [] (fun v K => v = iV 0 ∧ K = []) := by
 refine hiS Tryz.func34 Tryz.ntmps34 fun g w0 R h0 => go [] <| nP 31 [iV x, iV y, uV z] h0 (fun _ _ h12 => ?_)
 refine go [rd 1 1 0 0 1 h12, .v 1 2 (oF (x < 1)), rd 1 5 0 0 1 h12, .v 1 6 (oF (x > 3)), rd 1 10 0 1 1 h12, .v 1 11 (oF (y < 0)), rd 1 15 0 1 1 h12, .v 1 16 (oF (y ≥ 64)), rd 1 20 0 2 1 h12, .v 1 21 (qeF z 0)] ?_
 exact en (iV 0) [] ⟨_, _, rfl, ⟨rfl, rfl⟩, (tk1 (sf1 h12))⟩

set_option maxHeartbeats 4000000 in
theorem zout_no (x y z : Int) (hz0 : 0 ≤ z) (h : ¬ (1 ≤ x ∧ x ≤ 3 ∧ 0 ≤ y ∧ y ≤ 63 ∧ 1 ≤ z)) : HT Tryz.prog 34 [.agg #[iV x, iV y, uV z]] [] (fun v K => v = iV 2 ∧ K = []) := by
 refine hiS Tryz.func34 Tryz.ntmps34 fun g w0 R h0 => go [] <| nP 31 [iV x, iV y, uV z] h0 (fun _ _ h12 => ?_)
 refine go [rd 1 1 0 0 1 h12, .s 1 2] ?_
 by_cases c13 : x < 1
 ·
  refine go [.v 1 2 (oT (x < 1))] ?_
  exact en (iV 2) [] ⟨_, _, rfl, ⟨rfl, rfl⟩, (tk1 (sf1 h12))⟩
 refine go [.v 1 2 (oF (x < 1)), rd 1 5 0 0 1 h12, .s 1 6] ?_
 by_cases c15 : x > 3
 ·
  refine go [.v 1 6 (oT (x > 3))] ?_
  exact en (iV 2) [] ⟨_, _, rfl, ⟨rfl, rfl⟩, (tk1 (sf1 h12))⟩
 refine go [.v 1 6 (oF (x > 3)), rd 1 10 0 1 1 h12, .s 1 11] ?_
 by_cases c17 : y < 0
 ·
  refine go [.v 1 11 (oT (y < 0))] ?_
  exact en (iV 2) [] ⟨_, _, rfl, ⟨rfl, rfl⟩, (tk1 (sf1 h12))⟩
 refine go [.v 1 11 (oF (y < 0)), rd 1 15 0 1 1 h12, .s 1 16] ?_
 by_cases c19 : y ≥ 64
 ·
  refine go [.v 1 16 (oT (y ≥ 64))] ?_
  exact en (iV 2) [] ⟨_, _, rfl, ⟨rfl, rfl⟩, (tk1 (sf1 h12))⟩
 refine go [.v 1 16 (oF (y ≥ 64)), rd 1 20 0 2 1 h12, .v 1 21 (qeT z 0)] ?_
 exact en (iV 2) [] ⟨_, _, rfl, ⟨rfl, rfl⟩, (tk1 (sf1 h12))⟩

theorem dout_ht (x y z : Int) (hz0 : 0 ≤ z) (hz1 : z ≤ 4294967295) : HT Tryz.prog 34 [.agg #[iV x, iV y, uV z]] [] (fun v K => v = iV (outE (x, y, z)) ∧ K = []) := by
  by_cases h : outE (x, y, z) = 0
  · rw [h]
    exact zout_ok x y z hz0 (outE_iff.1 h)
  · rw [(outE_or _).resolve_left h]
    exact zout_no x y z hz0 (fun q => h (outE_iff.2 q))

set_option maxHeartbeats 4000000 in
theorem dchk_ht (ta x y z wy an : Int) (hz0 : 0 ≤ z) (hz1 : z ≤ 4294967295) : HT Tryz.prog 38 [.agg #[iV ta, iV x, iV y, uV z, iV wy, iV an]] [] (fun v K => v = iV (attE ⟨ta, (x, y, z), wy, an⟩) ∧ K = []) := by
 refine hiS Tryz.func38 Tryz.ntmps38 fun g w0 R h0 => go [] <| nP 33 [iV ta, iV x, iV y, uV z, iV wy, iV an] h0 (fun _ _ h12 => ?_)
 refine go [rd 1 1 0 0 1 h12, .s 1 2] ?_
 by_cases c13 : ta < 0
 ·
  refine go [.v 1 2 (oT (ta < 0))] ?_
  exact en (iV 2) [] ⟨_, _, rfl, ⟨by unfold attE; rw [if_neg (by simp only [attP]; omega)], rfl⟩, (tk1 (sf1 h12))⟩
 refine go [.v 1 2 (oF (ta < 0)), rd 1 5 0 0 1 h12, .s 1 6] ?_
 by_cases c15 : ta > 1099511627776
 ·
  refine go [.v 1 6 (oT (ta > 1099511627776))] ?_
  exact en (iV 2) [] ⟨_, _, rfl, ⟨by unfold attE; rw [if_neg (by simp only [attP]; omega)], rfl⟩, (tk1 (sf1 h12))⟩
 refine go [.v 1 6 (oF (ta > 1099511627776)), rd 1 10 0 1 3 h12] <| cl0 Tryz.call34 (dout_ht x y z (by omega) (by omega)) h12 fun _ h18 => ?_
 by_cases c19 : (outE (x, y, z)) = 0
 ·
  refine go [.v 1 12 (qnF ((outE (x, y, z))) 0), rd 1 16 0 4 1 h18, .s 1 17] ?_
  by_cases c20 : wy < 1
  ·
   refine go [.v 1 17 (oT (wy < 1))] ?_
   exact en (iV 2) [] ⟨_, _, rfl, ⟨by unfold attE; rw [if_neg (by simp only [attP]; omega)], rfl⟩, (tk1 (sf1 h18))⟩
  refine go [.v 1 17 (oF (wy < 1)), rd 1 21 0 4 1 h18, .s 1 22] ?_
  by_cases c22 : wy > 3
  ·
   refine go [.v 1 22 (oT (wy > 3))] ?_
   exact en (iV 2) [] ⟨_, _, rfl, ⟨by unfold attE; rw [if_neg (by simp only [attP]; omega)], rfl⟩, (tk1 (sf1 h18))⟩
  refine go [.v 1 22 (oF (wy > 3)), rd 1 26 0 5 1 h18, .s 1 27] ?_
  by_cases c24 : an < 1
  ·
   refine go [.v 1 27 (oT (an < 1))] ?_
   exact en (iV 2) [] ⟨_, _, rfl, ⟨by unfold attE; rw [if_neg (by simp only [attP]; omega)], rfl⟩, (tk1 (sf1 h18))⟩
  refine go [.v 1 27 (oF (an < 1)), rd 1 31 0 5 1 h18, .s 1 32] ?_
  by_cases c26 : an > 3
  ·
   refine go [.v 1 32 (oT (an > 3))] ?_
   exact en (iV 2) [] ⟨_, _, rfl, ⟨by unfold attE; rw [if_neg (by simp only [attP]; omega)], rfl⟩, (tk1 (sf1 h18))⟩
  refine go [.v 1 32 (oF (an > 3))] ?_
  exact en (iV 0) [] ⟨_, _, rfl, ⟨by unfold attE; rw [if_pos (by simp only [attP]; omega)], rfl⟩, (tk1 (sf1 h18))⟩
 refine go [.v 1 12 (qnT ((outE (x, y, z))) 0)] ?_
 exact en (iV 2) [] ⟨_, _, rfl, ⟨by unfold attE; rw [if_neg (by simp only [attP]; omega)], rfl⟩, (tk1 (sf1 h18))⟩

end Go.Proofs.YtfoliffeieeihaaGreatDoor

/- Walks, printed by my generator z4.py. -/
namespace Go.Proofs.YtfoliffeieeihaaGreatDoor
/-- The document's report. -/
def Drp (b : Nat) (S : Rp) : Assn := fun h => ∃ x : (Option Addr × Nat) × (Option Addr × Nat) × (Option Addr × Nat), Rw S ∧ star [Cl b [.bool true, .slice x.1.1 S.O.length x.1.2, .slice x.2.1.1 S.O.length x.2.1.2, .slice x.2.2.1 S.A.length x.2.2.2] 66, Sl 31 3 x.1.1 S.O.length x.1.2 (fl eO (S.O.map Prod.fst)), Sl 9 1 x.2.1.1 S.O.length x.2.1.2 (fl eW (S.O.map Prod.snd)), Sl 33 6 x.2.2.1 S.A.length x.2.2.2 (fl eAt S.A)] h
section
variable {g w : World} {L : List Assn} {b : Nat} {S : Rp}
theorem dr_open (h : sat g w (Drp b S :: L)) : ∃ pO cO pT cT pL cL, Rw S ∧ sat g w (Cl b [.bool true, .slice pO S.O.length cO, .slice pT S.O.length cT, .slice pL S.A.length cL] 66 :: Sl 31 3 pO S.O.length cO (fl eO (S.O.map Prod.fst)) :: Sl 9 1 pT S.O.length cT (fl eW (S.O.map Prod.snd)) :: Sl 33 6 pL S.A.length cL (fl eAt S.A) :: L) := by
  obtain ⟨⟨⟨pO, cO⟩, ⟨pT, cT⟩, pL, cL⟩, h1, h2⟩ := sat_open (X := (Option Addr × Nat) × (Option Addr × Nat) × (Option Addr × Nat)) (p := fun _ => Rw S) (B := fun x => star [Cl b [.bool true, .slice x.1.1 S.O.length x.1.2, .slice x.2.1.1 S.O.length x.2.1.2, .slice x.2.2.1 S.A.length x.2.2.2] 66, Sl 31 3 x.1.1 S.O.length x.1.2 (fl eO (S.O.map Prod.fst)), Sl 9 1 x.2.1.1 S.O.length x.2.1.2 (fl eW (S.O.map Prod.snd)), Sl 33 6 x.2.2.1 S.A.length x.2.2.2 (fl eAt S.A)]) h (fun k hk => hk)
  exact ⟨pO, cO, pT, cT, pL, cL, h1, sat_unstar h2⟩
theorem dr_close {O : List Ky} {T : List (List UInt8)} {A : List At} {n m cO cT cL : Nat} {pO pT pL : Option Addr} (hw : Rw S) (h1 : O = S.O.map Prod.fst) (h2 : T = S.O.map Prod.snd) (h3 : A = S.A) (hn : n = S.O.length) (hm : m = S.A.length)
    (h : sat g w (Cl b [.bool true, .slice pO n cO, .slice pT n cT, .slice pL m cL] 66 :: Sl 31 3 pO n cO (fl eO O) :: Sl 9 1 pT n cT (fl eW T) :: Sl 33 6 pL m cL (fl eAt A) :: L)) : sat g w (Drp b S :: L) := by
  subst h1 h2 h3 hn hm
  exact sat_imp (sat_star (K := [Cl b [.bool true, .slice pO S.O.length cO, .slice pT S.O.length cT, .slice pL S.A.length cL] 66, Sl 31 3 pO S.O.length cO (fl eO (S.O.map Prod.fst)), Sl 9 1 pT S.O.length cT (fl eW (S.O.map Prod.snd)), Sl 33 6 pL S.A.length cL (fl eAt S.A)]) h) fun k hk => ⟨((pO, cO), (pT, cT), (pL, cL)), hw, hk⟩
theorem dr_w {j : Nat} (h : sat g w L) (hj : L[j]? = some (Drp b S)) : Rw S := sat_use h hj fun _ ha _ => by
  obtain ⟨x, hp, _⟩ := ha
  exact hp
end
theorem qd4e31_eql_t {n : Nat} {l : Fr} {o : Oper} {x y : Operand} (a0 : Int) (a1 : Int) (a2 : Int) (c0 : Int) (c1 : Int) (c2 : Int) (ho : o.op = .binOp .eql 31 x y 31) (hx : fe n l x = .agg #[.int .i64 a0, .int .i64 a1, .int .u32 a2]) (hy : fe n l y = .agg #[.int .i64 c0, .int .i64 c1, .int .u32 c2]) (h : a0 = c0 ∧ a1 = c1 ∧ a2 = c2) (w : World) : (execOp (fe n l) o).run Tryz.prog w = .ok (.value (.bool true)) w := by
  obtain ⟨rfl, rfl, rfl⟩ := h
  simp [execOp, ho, hx, hy, go_sem]
theorem qd4e31_eql_f {n : Nat} {l : Fr} {o : Oper} {x y : Operand} (a0 : Int) (a1 : Int) (a2 : Int) (c0 : Int) (c1 : Int) (c2 : Int) (ho : o.op = .binOp .eql 31 x y 31) (hx : fe n l x = .agg #[.int .i64 a0, .int .i64 a1, .int .u32 a2]) (hy : fe n l y = .agg #[.int .i64 c0, .int .i64 c1, .int .u32 c2]) (h : ¬ (a0 = c0 ∧ a1 = c1 ∧ a2 = c2)) (w : World) : (execOp (fe n l) o).run Tryz.prog w = .ok (.value (.bool false)) w := by
  by_cases h0 : a0 = c0
  · skip
    by_cases h1 : a1 = c1
    · skip
      by_cases h2 : a2 = c2
      · exact absurd ⟨h0, h1, h2⟩ h
      · simp [execOp, ho, hx, hy, go_sem, h0, h1, h2]
    · simp [execOp, ho, hx, hy, go_sem, h0, h1]
  · simp [execOp, ho, hx, hy, go_sem, h0]
set_option maxHeartbeats 4000000 in
theorem dval_ht (b : Nat) (S : Rp) : HT Tryz.prog 33 [pV b] [Drp b S] (fun v K => v = .bool true ∧ K = [Drp b S]) := by
 refine hiS Tryz.func33 Tryz.ntmps33 fun g w0 R h0 => ?_
 obtain ⟨pO10, cO11, pT12, cT13, pL14, cL15, hW16, h17⟩ := dr_open h0
 have hk18 := hW16.al; have hk18b := hW16.le
 refine go [rd 1 6 0 0 1 h17] ?_
 have h19 : sat g w0 [Drp b S, R] := dr_close hW16 rfl rfl rfl rfl rfl h17
 exact en (.bool true) [] ⟨_, _, rfl, ⟨rfl, rfl⟩, h19⟩

set_option maxHeartbeats 4000000 in
theorem dnew_ht  : HT Tryz.prog 8 [] [] (fun v K => ∃ b : Nat, v = pV b ∧ K = [Drp b ⟨[], []⟩]) := by
 refine hiS Tryz.func8 Tryz.ntmps8 fun g w0 R h0 => go [] <| nP 66 [.bool true, .slice none 0 0, .slice none 0 0, .slice none 0 0] h0 (fun r10 w11 h12 => ?_)
 refine go [] ?_
 have h13 : sat g w11 [Sl 31 3 none 0 0 (fl eO []), Cl r10 [.bool true, .slice none 0 0, .slice none 0 0, .slice none 0 0] 66, R] := sl_nil 31 3 h12
 have h14 : sat g w11 [Sl 9 1 none 0 0 (fl eW []), Sl 31 3 none 0 0 (fl eO []), Cl r10 [.bool true, .slice none 0 0, .slice none 0 0, .slice none 0 0] 66, R] := sl_nil 9 1 h13
 have h15 : sat g w11 [Sl 33 6 none 0 0 (fl eAt []), Sl 9 1 none 0 0 (fl eW []), Sl 31 3 none 0 0 (fl eO []), Cl r10 [.bool true, .slice none 0 0, .slice none 0 0, .slice none 0 0] 66, R] := sl_nil 33 6 h14
 have h17 : sat g w11 [Drp r10 (⟨[], []⟩), R] := dr_close rw_new rfl rfl rfl rfl rfl (tk5 (sf4 (sf3 (sf2 (sf1 (sf4 h15))))))
 exact en (pV r10) [] ⟨_, _, rfl, ⟨r10, rfl, rfl⟩, h17⟩

theorem k3_ (k : Ky) {x y z : Int} (h1 : k.1 = x) (h2 : k.2.1 = y) (h3 : k.2.2 = z) : k = (x, y, z) := Prod.ext h1 (Prod.ext h2 h3)
theorem kn_3 (k : Ky) {x y z : Int} (h : ¬ (k.1 = x ∧ k.2.1 = y ∧ k.2.2 = z)) : ¬ k = (x, y, z) := fun e => h (by rw [e]; exact ⟨rfl, rfl, rfl⟩)
set_option maxHeartbeats 4000000 in
theorem dtagO_ht (b : Nat) (S : Rp) (x y z : Int) : HT Tryz.prog 36 [pV b, .agg #[iV x, iV y, uV z]] [Drp b S] (fun v K => v = .tuple #[.string (St (tagO S (x, y, z))), .bool (gget S.O (x, y, z)).isSome] ∧ K = [Drp b S]) := by
 refine hiS Tryz.func36 Tryz.ntmps36 fun g w0 R h0 => go [] <| nP 31 [iV x, iV y, uV z] h0 (fun r10 _ h12 => ?_)
 refine go [] ?_
 obtain ⟨pO14, cO15, pT16, cT17, pL18, cL19, hW20, h21⟩ := dr_open (tk3 (sf2 (sf1 (sf2 h12))))
 have hk22 := hW20.al; have hk22b := hW20.le
 refine lpS (fun mz_ a w => ∃ i : Nat, ∃ lr : Fr, mz_ = S.O.length - i ∧ (i ≤ S.O.length) ∧ (gget (S.O.take i) (x, y, z) = none) ∧ a = mk 32 (([(0, pV b), (3, pV r10), (6, iV (i : Int))] : Fr) ++ lr) ∧ sat g w [Cl b [.bool true, .slice pO14 S.O.length cO15, .slice pT16 S.O.length cT17, .slice pL18 S.A.length cL19] 66, Sl 31 3 pO14 S.O.length cO15 (fl eO (S.O.map Prod.fst)), Sl 9 1 pT16 S.O.length cT17 (fl eW (S.O.map Prod.snd)), Sl 33 6 pL18 S.A.length cL19 (fl eAt S.A), Cl r10 [iV x, iV y, uV z] 31, R]) (S.O.length - 0) ⟨0, _, rfl, (Nat.zero_le _), rfl, (lvF [.k 0 (pV b), .k 3 (pV r10), .o 6 (oJ .i64 0 (0 : Int))]), h21⟩ ?_
 rintro m24 a25 w26 ⟨i, lr23, rfl, hi_, hg_, rfl, h27⟩
 refine ga <| go [rd 2 4 0 1 1 h27, .s 2 6] ?_
 by_cases c28 : (i : Int) < ((S.O.length : Nat) : Int)
 ·
  refine go [.v 2 6 (oT ((i : Int) < ((S.O.length : Nat) : Int)))] <| dw (fls [0, 1, 2, 3, 4, 5, 6, 7, 8] Tr.nil) h27 fun w29 h30 => ?_
  obtain ⟨b31, hp32⟩ := sl_ptr0 (j := 1) h30 rfl (by omega)
  refine go [rd 4 3 0 1 1 h30, .s 4 5] <| lw (.pointer (some ⟨b31, i * 3, none⟩)) (fun _ => law_indexSlP (x := (Operand.tmp 19)) (i := (Operand.tmp 20)) (p := pO14) (b := b31) (off := 0) (z := (i : Int)) (len := S.O.length) (cap := cO15) (by kernel_rfl) Tryz.underlying52 3 (by kernel_rfl) i (by kernel_rfl) hp32 (by kernel_rfl) (by omega) (by omega) (i * 3) (by omega) _) ?_
  obtain ⟨x33, hx34⟩ : ∃ x, (S.O.map Prod.fst)[i]? = some x := ⟨_, List.getElem?_eq_getElem (by rw [(List.length_map _)]; omega)⟩
  refine go [.r 4 6 b31 (i * 3) [iV x33.1, iV x33.2.1, uV x33.2.2] ⟨gv_cell (j := 1) h30 rfl (gv_sl _ _ _) hp32 (fl_get eO_ok (j := 0) (v := iV x33.1) hx34 rfl) (i * 3) (by omega), gv_cell (j := 1) h30 rfl (gv_sl _ _ _) hp32 (fl_get eO_ok (j := 1) (v := iV x33.2.1) hx34 rfl) (i * 3 + 1) (by omega), gv_cell (j := 1) h30 rfl (gv_sl _ _ _) hp32 (fl_get eO_ok (j := 2) (v := uV x33.2.2) hx34 rfl) (i * 3 + 2) (by omega), trivial⟩, rd 4 7 4 0 3 h30, .s 4 8] ?_
  by_cases c35 : x33.1 = x
  ·
   by_cases c36 : x33.2.1 = y
   ·
    by_cases c37 : x33.2.2 = z
    ·
     refine lw (.bool true) (fun _ => qd4e31_eql_t (x := (Operand.tmp 22)) (y := (Operand.tmp 23)) x33.1 x33.2.1 x33.2.2 x y z (by kernel_rfl) (by kernel_rfl) (by kernel_rfl) ⟨(by omega), (by omega), (by omega)⟩ _) ?_
     obtain ⟨b38, hp39⟩ := sl_ptr0 (j := 2) h30 rfl (by omega)
     refine go [rd 5 3 0 2 1 h30, .s 5 5] <| lwP (.pointer (some ⟨b38, i, none⟩)) (law_indexSlP (x := (Operand.tmp 28)) (i := (Operand.tmp 29)) (p := pT16) (b := b38) (off := 0) (z := (i : Int)) (len := S.O.length) (cap := cT17) (by kernel_rfl) Tryz.underlying49 1 (by kernel_rfl) i (by kernel_rfl) hp39 (by kernel_rfl) (by omega) (by omega) i (by omega) _) ?_
     obtain ⟨x40, hx41⟩ : ∃ x, (S.O.map Prod.snd)[i]? = some x := ⟨_, List.getElem?_eq_getElem (by rw [(List.length_map _)]; omega)⟩
     refine go [.r 5 6 b38 i [.string (St x40)] ⟨gv_cell (j := 2) h30 rfl (gv_sl _ _ _) hp39 (fl_get eW_ok (j := 0) (v := .string (St x40)) hx41 rfl) i (by omega), trivial⟩] <| up <| go [] ?_
     have h42 : sat g w29 [Drp b S, Cl r10 [iV x, iV y, uV z] 31, R] := dr_close hW20 rfl rfl rfl rfl rfl h30
     have hg43 := gg_hit hx34 hx41 (k3_ x33 (by omega) (by omega) (by omega)) hg_
     exact en (.tuple #[.string (St x40), .bool true]) [] ⟨_, _, rfl, ⟨by unfold tagO; rw [hg43]; rfl, rfl⟩, (tk2 (sf1 (sf2 h42)))⟩
    refine lw (.bool false) (fun _ => qd4e31_eql_f (x := (Operand.tmp 22)) (y := (Operand.tmp 23)) x33.1 x33.2.1 x33.2.2 x y z (by kernel_rfl) (by kernel_rfl) (by kernel_rfl) (by omega) _) <| go [.v 3 1 (oIr ((i : Int) + 1))] ?_
    refine enL ?_
    change ∃ n', n' < _ ∧ _
    refine ⟨(S.O.length - (i + 1)), by omega, (i + 1), _, rfl, (by omega), (gg_miss hx34 (kn_3 x33 (by omega)) hg_), (lvF [.k 0 (pV b), .k 3 (pV r10), .o 6 (oJ .i64 ((i : Int) + 1) ((((i + 1) : Nat) : Int)))]), h30⟩
   refine lw (.bool false) (fun _ => qd4e31_eql_f (x := (Operand.tmp 22)) (y := (Operand.tmp 23)) x33.1 x33.2.1 x33.2.2 x y z (by kernel_rfl) (by kernel_rfl) (by kernel_rfl) (by omega) _) <| go [.v 3 1 (oIr ((i : Int) + 1))] ?_
   refine enL ?_
   change ∃ n', n' < _ ∧ _
   refine ⟨(S.O.length - (i + 1)), by omega, (i + 1), _, rfl, (by omega), (gg_miss hx34 (kn_3 x33 (by omega)) hg_), (lvF [.k 0 (pV b), .k 3 (pV r10), .o 6 (oJ .i64 ((i : Int) + 1) ((((i + 1) : Nat) : Int)))]), h30⟩
  refine lw (.bool false) (fun _ => qd4e31_eql_f (x := (Operand.tmp 22)) (y := (Operand.tmp 23)) x33.1 x33.2.1 x33.2.2 x y z (by kernel_rfl) (by kernel_rfl) (by kernel_rfl) (by omega) _) <| go [.v 3 1 (oIr ((i : Int) + 1))] ?_
  refine enL ?_
  change ∃ n', n' < _ ∧ _
  refine ⟨(S.O.length - (i + 1)), by omega, (i + 1), _, rfl, (by omega), (gg_miss hx34 (kn_3 x33 (by omega)) hg_), (lvF [.k 0 (pV b), .k 3 (pV r10), .o 6 (oJ .i64 ((i : Int) + 1) ((((i + 1) : Nat) : Int)))]), h30⟩
 refine go [.v 2 6 (oF ((i : Int) < ((S.O.length : Nat) : Int)))] <| up <| go [] ?_
 have h45 : sat g w26 [Drp b S, Cl r10 [iV x, iV y, uV z] 31, R] := dr_close hW20 rfl rfl rfl rfl rfl h27
 have hg46 := gg_end (show S.O.length ≤ i by omega) hg_
 exact en (.tuple #[.string (St []), .bool false]) [] ⟨_, _, rfl, ⟨by unfold tagO; rw [hg46]; rfl, rfl⟩, (tk2 (sf1 (sf2 h45)))⟩

theorem k3n_ {k : Ky} {x y z : Int} (h : k = (x, y, z)) : k.1 = x ∧ k.2.1 = y ∧ k.2.2 = z := by rw [h]; exact ⟨rfl, rfl, rfl⟩
set_option maxHeartbeats 4000000 in
theorem dst_ht (b : Nat) (S : Rp) (x y z : Int) : HT Tryz.prog 39 [pV b, .agg #[iV x, iV y, uV z]] [Drp b S] (fun v K => v = iV ((stOf S.A (x, y, z))) ∧ K = [Drp b S]) := by
 refine hiS Tryz.func39 Tryz.ntmps39 fun g w0 R h0 => go [] <| nP 31 [iV x, iV y, uV z] h0 (fun r10 _ h12 => ?_)
 refine go [] ?_
 obtain ⟨pO14, cO15, pT16, cT17, pL18, cL19, hW20, h21⟩ := dr_open (tk3 (sf2 (sf1 (sf2 h12))))
 have hk22 := hW20.al; have hk22b := hW20.le
 refine lpS (fun mz_ a w => ∃ i : Nat, ∃ lr : Fr, mz_ = S.A.length - i ∧ (i ≤ S.A.length) ∧ (stOf S.A (x, y, z) = stOf (S.A.drop i) (x, y, z)) ∧ a = mk 57 (([(0, pV b), (3, pV r10), (5, iV (i : Int))] : Fr) ++ lr) ∧ sat g w [Cl b [.bool true, .slice pO14 S.O.length cO15, .slice pT16 S.O.length cT17, .slice pL18 S.A.length cL19] 66, Sl 31 3 pO14 S.O.length cO15 (fl eO (S.O.map Prod.fst)), Sl 9 1 pT16 S.O.length cT17 (fl eW (S.O.map Prod.snd)), Sl 33 6 pL18 S.A.length cL19 (fl eAt S.A), Cl r10 [iV x, iV y, uV z] 31, R]) (S.A.length - 0) ⟨0, _, rfl, (Nat.zero_le _), rfl, (lvF [.k 0 (pV b), .k 3 (pV r10), .o 5 (oJ .i64 0 (0 : Int))]), h21⟩ ?_
 rintro m24 a25 w26 ⟨i, lr23, rfl, hi_, hs_, rfl, h27⟩
 refine ga <| go [rd 2 4 0 3 1 h27, .s 2 6] ?_
 by_cases c28 : (i : Int) < ((S.A.length : Nat) : Int)
 ·
  refine go [.v 2 6 (oT ((i : Int) < ((S.A.length : Nat) : Int)))] <| dw (fls [0, 1, 2, 3, 4, 5, 6, 7, 8, 9, 10, 11, 12, 13, 14, 15, 16, 17, 18, 19, 20] Tr.nil) h27 fun w29 h30 => ?_
  obtain ⟨b31, hp32⟩ := sl_ptr0 (j := 3) h30 rfl (by omega)
  refine go [rd 4 3 0 3 1 h30, .s 4 5] <| lw (.pointer (some ⟨b31, i * 6, none⟩)) (fun _ => law_indexSlP (x := (Operand.tmp 18)) (i := (Operand.tmp 19)) (p := pL18) (b := b31) (off := 0) (z := (i : Int)) (len := S.A.length) (cap := cL19) (by kernel_rfl) Tryz.underlying53 6 (by kernel_rfl) i (by kernel_rfl) hp32 (by kernel_rfl) (by omega) (by omega) (i * 6) (by omega) _) ?_
  obtain ⟨x33, hx34⟩ : ∃ x, S.A[i]? = some x := ⟨_, List.getElem?_eq_getElem (by omega)⟩
  refine go [.r 4 7 b31 (i * 6 + 1) [iV x33.out.1, iV x33.out.2.1, uV x33.out.2.2] ⟨gv_cell (j := 3) h30 rfl (gv_sl _ _ _) hp32 (fl_get eAt_ok (j := 1) (v := iV x33.out.1) hx34 rfl) (i * 6 + 1) (by omega), gv_cell (j := 3) h30 rfl (gv_sl _ _ _) hp32 (fl_get eAt_ok (j := 2) (v := iV x33.out.2.1) hx34 rfl) (i * 6 + 2) (by omega), gv_cell (j := 3) h30 rfl (gv_sl _ _ _) hp32 (fl_get eAt_ok (j := 3) (v := uV x33.out.2.2) hx34 rfl) (i * 6 + 3) (by omega), trivial⟩, rd 4 8 4 0 3 h30, .s 4 9] ?_
  by_cases c35 : x33.out.1 = x
  ·
   by_cases c36 : x33.out.2.1 = y
   ·
    by_cases c37 : x33.out.2.2 = z
    ·
     refine lw (.bool true) (fun _ => qd4e31_eql_t (x := (Operand.tmp 22)) (y := (Operand.tmp 23)) x33.out.1 x33.out.2.1 x33.out.2.2 x y z (by kernel_rfl) (by kernel_rfl) (by kernel_rfl) ⟨(by omega), (by omega), (by omega)⟩ _) <| go [rd 4 14 0 3 1 h30, .s 4 16] <| lw (.pointer (some ⟨b31, i * 6, none⟩)) (fun _ => law_indexSlP (x := (Operand.tmp 29)) (i := (Operand.tmp 30)) (p := pL18) (b := b31) (off := 0) (z := (i : Int)) (len := S.A.length) (cap := cL19) (by kernel_rfl) Tryz.underlying53 6 (by kernel_rfl) i (by kernel_rfl) hp32 (by kernel_rfl) (by omega) (by omega) (i * 6) (by omega) _) <| go [.r 4 18 b31 (i * 6 + 5) [iV x33.ans] ⟨gv_cell (j := 3) h30 rfl (gv_sl _ _ _) hp32 (fl_get eAt_ok (j := 5) (v := iV x33.ans) hx34 rfl) (i * 6 + 5) (by omega), trivial⟩, .s 4 19] ?_
     by_cases c38 : x33.ans = 1
     ·
      refine go [.v 4 19 (qeT x33.ans 1)] <| up <| go [] ?_
      have h39 : sat g w29 [Drp b S, Cl r10 [iV x, iV y, uV z] 31, R] := dr_close hW20 rfl rfl rfl rfl rfl h30
      exact en (iV 3) [] ⟨_, _, rfl, ⟨by rw [so_3 hx34 hs_ (k3_ _ (by omega) (by omega) (by omega)) (by omega)], rfl⟩, (tk2 (sf1 (sf2 h39)))⟩
     refine go [.v 4 19 (qeF x33.ans 1)] <| dw (fls [0, 1, 2, 3, 4, 5, 6, 7, 8, 9, 10, 11, 12, 13, 14, 15, 16, 17, 18, 19, 20] Tr.nil) h30 fun w41 h42 => go [rd 6 3 0 3 1 h42, .s 6 5] <| lw (.pointer (some ⟨b31, i * 6, none⟩)) (fun _ => law_indexSlP (x := (Operand.tmp 39)) (i := (Operand.tmp 40)) (p := pL18) (b := b31) (off := 0) (z := (i : Int)) (len := S.A.length) (cap := cL19) (by kernel_rfl) Tryz.underlying53 6 (by kernel_rfl) i (by kernel_rfl) hp32 (by kernel_rfl) (by omega) (by omega) (i * 6) (by omega) _) <| go [.r 6 7 b31 (i * 6 + 1) [iV x33.out.1, iV x33.out.2.1, uV x33.out.2.2] ⟨gv_cell (j := 3) h42 rfl (gv_sl _ _ _) hp32 (fl_get eAt_ok (j := 1) (v := iV x33.out.1) hx34 rfl) (i * 6 + 1) (by omega), gv_cell (j := 3) h42 rfl (gv_sl _ _ _) hp32 (fl_get eAt_ok (j := 2) (v := iV x33.out.2.1) hx34 rfl) (i * 6 + 2) (by omega), gv_cell (j := 3) h42 rfl (gv_sl _ _ _) hp32 (fl_get eAt_ok (j := 3) (v := uV x33.out.2.2) hx34 rfl) (i * 6 + 3) (by omega), trivial⟩, rd 6 8 4 0 3 h42, .s 6 9] <| lw (.bool true) (fun _ => qd4e31_eql_t (x := (Operand.tmp 43)) (y := (Operand.tmp 44)) x33.out.1 x33.out.2.1 x33.out.2.2 x y z (by kernel_rfl) (by kernel_rfl) (by kernel_rfl) ⟨(by omega), (by omega), (by omega)⟩ _) <| go [rd 6 14 0 3 1 h42, .s 6 16] <| lw (.pointer (some ⟨b31, i * 6, none⟩)) (fun _ => law_indexSlP (x := (Operand.tmp 50)) (i := (Operand.tmp 51)) (p := pL18) (b := b31) (off := 0) (z := (i : Int)) (len := S.A.length) (cap := cL19) (by kernel_rfl) Tryz.underlying53 6 (by kernel_rfl) i (by kernel_rfl) hp32 (by kernel_rfl) (by omega) (by omega) (i * 6) (by omega) _) <| go [.r 6 18 b31 (i * 6 + 5) [iV x33.ans] ⟨gv_cell (j := 3) h42 rfl (gv_sl _ _ _) hp32 (fl_get eAt_ok (j := 5) (v := iV x33.ans) hx34 rfl) (i * 6 + 5) (by omega), trivial⟩, .s 6 19] ?_
     by_cases c43 : x33.ans = 3
     ·
      refine go [.v 6 19 (qeT x33.ans 3)] <| up <| go [] ?_
      have h44 : sat g w41 [Drp b S, Cl r10 [iV x, iV y, uV z] 31, R] := dr_close hW20 rfl rfl rfl rfl rfl h42
      exact en (iV 4) [] ⟨_, _, rfl, ⟨by rw [so_4 hx34 hs_ (k3_ _ (by omega) (by omega) (by omega)) (by omega)], rfl⟩, (tk2 (sf1 (sf2 h44)))⟩
     refine go [.v 6 19 (qeF x33.ans 3), .v 3 1 (oIr ((i : Int) + 1))] ?_
     refine enL ?_
     change ∃ n', n' < _ ∧ _
     refine ⟨(S.A.length - (i + 1)), by omega, (i + 1), _, rfl, (by omega), (so_n hx34 hs_ (fun q_ => by have e_ := q_.2; have e2_ := k3n_ q_.1; omega)), (lvF [.k 0 (pV b), .k 3 (pV r10), .o 5 (oJ .i64 ((i : Int) + 1) ((((i + 1) : Nat) : Int)))]), h42⟩
    refine lw (.bool false) (fun _ => qd4e31_eql_f (x := (Operand.tmp 22)) (y := (Operand.tmp 23)) x33.out.1 x33.out.2.1 x33.out.2.2 x y z (by kernel_rfl) (by kernel_rfl) (by kernel_rfl) (by omega) _) <| go [] <| dw (fls [0, 1, 2, 3, 4, 5, 6, 7, 8, 9, 10, 11, 12, 13, 14, 15, 16, 17, 18, 19, 20] Tr.nil) h30 fun _ h47 => go [rd 6 3 0 3 1 h47, .s 6 5] <| lw (.pointer (some ⟨b31, i * 6, none⟩)) (fun _ => law_indexSlP (x := (Operand.tmp 39)) (i := (Operand.tmp 40)) (p := pL18) (b := b31) (off := 0) (z := (i : Int)) (len := S.A.length) (cap := cL19) (by kernel_rfl) Tryz.underlying53 6 (by kernel_rfl) i (by kernel_rfl) hp32 (by kernel_rfl) (by omega) (by omega) (i * 6) (by omega) _) <| go [.r 6 7 b31 (i * 6 + 1) [iV x33.out.1, iV x33.out.2.1, uV x33.out.2.2] ⟨gv_cell (j := 3) h47 rfl (gv_sl _ _ _) hp32 (fl_get eAt_ok (j := 1) (v := iV x33.out.1) hx34 rfl) (i * 6 + 1) (by omega), gv_cell (j := 3) h47 rfl (gv_sl _ _ _) hp32 (fl_get eAt_ok (j := 2) (v := iV x33.out.2.1) hx34 rfl) (i * 6 + 2) (by omega), gv_cell (j := 3) h47 rfl (gv_sl _ _ _) hp32 (fl_get eAt_ok (j := 3) (v := uV x33.out.2.2) hx34 rfl) (i * 6 + 3) (by omega), trivial⟩, rd 6 8 4 0 3 h47, .s 6 9] <| lw (.bool false) (fun _ => qd4e31_eql_f (x := (Operand.tmp 43)) (y := (Operand.tmp 44)) x33.out.1 x33.out.2.1 x33.out.2.2 x y z (by kernel_rfl) (by kernel_rfl) (by kernel_rfl) (by omega) _) <| go [.v 3 1 (oIr ((i : Int) + 1))] ?_
    refine enL ?_
    change ∃ n', n' < _ ∧ _
    refine ⟨(S.A.length - (i + 1)), by omega, (i + 1), _, rfl, (by omega), (so_n hx34 hs_ (fun q_ => by have e_ := q_.2; have e2_ := k3n_ q_.1; omega)), (lvF [.k 0 (pV b), .k 3 (pV r10), .o 5 (oJ .i64 ((i : Int) + 1) ((((i + 1) : Nat) : Int)))]), h47⟩
   refine lw (.bool false) (fun _ => qd4e31_eql_f (x := (Operand.tmp 22)) (y := (Operand.tmp 23)) x33.out.1 x33.out.2.1 x33.out.2.2 x y z (by kernel_rfl) (by kernel_rfl) (by kernel_rfl) (by omega) _) <| go [] <| dw (fls [0, 1, 2, 3, 4, 5, 6, 7, 8, 9, 10, 11, 12, 13, 14, 15, 16, 17, 18, 19, 20] Tr.nil) h30 fun _ h49 => go [rd 6 3 0 3 1 h49, .s 6 5] <| lw (.pointer (some ⟨b31, i * 6, none⟩)) (fun _ => law_indexSlP (x := (Operand.tmp 39)) (i := (Operand.tmp 40)) (p := pL18) (b := b31) (off := 0) (z := (i : Int)) (len := S.A.length) (cap := cL19) (by kernel_rfl) Tryz.underlying53 6 (by kernel_rfl) i (by kernel_rfl) hp32 (by kernel_rfl) (by omega) (by omega) (i * 6) (by omega) _) <| go [.r 6 7 b31 (i * 6 + 1) [iV x33.out.1, iV x33.out.2.1, uV x33.out.2.2] ⟨gv_cell (j := 3) h49 rfl (gv_sl _ _ _) hp32 (fl_get eAt_ok (j := 1) (v := iV x33.out.1) hx34 rfl) (i * 6 + 1) (by omega), gv_cell (j := 3) h49 rfl (gv_sl _ _ _) hp32 (fl_get eAt_ok (j := 2) (v := iV x33.out.2.1) hx34 rfl) (i * 6 + 2) (by omega), gv_cell (j := 3) h49 rfl (gv_sl _ _ _) hp32 (fl_get eAt_ok (j := 3) (v := uV x33.out.2.2) hx34 rfl) (i * 6 + 3) (by omega), trivial⟩, rd 6 8 4 0 3 h49, .s 6 9] <| lw (.bool false) (fun _ => qd4e31_eql_f (x := (Operand.tmp 43)) (y := (Operand.tmp 44)) x33.out.1 x33.out.2.1 x33.out.2.2 x y z (by kernel_rfl) (by kernel_rfl) (by kernel_rfl) (by omega) _) <| go [.v 3 1 (oIr ((i : Int) + 1))] ?_
   refine enL ?_
   change ∃ n', n' < _ ∧ _
   refine ⟨(S.A.length - (i + 1)), by omega, (i + 1), _, rfl, (by omega), (so_n hx34 hs_ (fun q_ => by have e_ := q_.2; have e2_ := k3n_ q_.1; omega)), (lvF [.k 0 (pV b), .k 3 (pV r10), .o 5 (oJ .i64 ((i : Int) + 1) ((((i + 1) : Nat) : Int)))]), h49⟩
  refine lw (.bool false) (fun _ => qd4e31_eql_f (x := (Operand.tmp 22)) (y := (Operand.tmp 23)) x33.out.1 x33.out.2.1 x33.out.2.2 x y z (by kernel_rfl) (by kernel_rfl) (by kernel_rfl) (by omega) _) <| go [] <| dw (fls [0, 1, 2, 3, 4, 5, 6, 7, 8, 9, 10, 11, 12, 13, 14, 15, 16, 17, 18, 19, 20] Tr.nil) h30 fun _ h51 => go [rd 6 3 0 3 1 h51, .s 6 5] <| lw (.pointer (some ⟨b31, i * 6, none⟩)) (fun _ => law_indexSlP (x := (Operand.tmp 39)) (i := (Operand.tmp 40)) (p := pL18) (b := b31) (off := 0) (z := (i : Int)) (len := S.A.length) (cap := cL19) (by kernel_rfl) Tryz.underlying53 6 (by kernel_rfl) i (by kernel_rfl) hp32 (by kernel_rfl) (by omega) (by omega) (i * 6) (by omega) _) <| go [.r 6 7 b31 (i * 6 + 1) [iV x33.out.1, iV x33.out.2.1, uV x33.out.2.2] ⟨gv_cell (j := 3) h51 rfl (gv_sl _ _ _) hp32 (fl_get eAt_ok (j := 1) (v := iV x33.out.1) hx34 rfl) (i * 6 + 1) (by omega), gv_cell (j := 3) h51 rfl (gv_sl _ _ _) hp32 (fl_get eAt_ok (j := 2) (v := iV x33.out.2.1) hx34 rfl) (i * 6 + 2) (by omega), gv_cell (j := 3) h51 rfl (gv_sl _ _ _) hp32 (fl_get eAt_ok (j := 3) (v := uV x33.out.2.2) hx34 rfl) (i * 6 + 3) (by omega), trivial⟩, rd 6 8 4 0 3 h51, .s 6 9] <| lw (.bool false) (fun _ => qd4e31_eql_f (x := (Operand.tmp 43)) (y := (Operand.tmp 44)) x33.out.1 x33.out.2.1 x33.out.2.2 x y z (by kernel_rfl) (by kernel_rfl) (by kernel_rfl) (by omega) _) <| go [.v 3 1 (oIr ((i : Int) + 1))] ?_
  refine enL ?_
  change ∃ n', n' < _ ∧ _
  refine ⟨(S.A.length - (i + 1)), by omega, (i + 1), _, rfl, (by omega), (so_n hx34 hs_ (fun q_ => by have e_ := q_.2; have e2_ := k3n_ q_.1; omega)), (lvF [.k 0 (pV b), .k 3 (pV r10), .o 5 (oJ .i64 ((i : Int) + 1) ((((i + 1) : Nat) : Int)))]), h51⟩
 refine go [.v 2 6 (oF ((i : Int) < ((S.A.length : Nat) : Int)))] <| up <| go [] ?_
 have h52 : sat g w26 [Drp b S, Cl r10 [iV x, iV y, uV z] 31, R] := dr_close hW20 rfl rfl rfl rfl rfl h27
 exact en (iV 2) [] ⟨_, _, rfl, ⟨by rw [so_end (by omega) hs_], rfl⟩, (tk2 (sf1 (sf2 h52)))⟩

end Go.Proofs.YtfoliffeieeihaaGreatDoor

/- Walks, printed by my generator z5.py. -/
namespace Go.Proofs.YtfoliffeieeihaaGreatDoor
set_option maxHeartbeats 4000000 in
theorem dopd_ht (b : Nat) (S : Rp) (x y z : Int) (t : List UInt8) (hz0 : 0 ≤ z) (hz1 : z ≤ 4294967295) (hm : t.length ≤ 100000) : HT Tryz.prog 10 [pV b, .agg #[iV x, iV y, uV z], .string (St t)] [Drp b S] (fun v K => v = iV (opdE S (x, y, z) t) ∧ K = [Drp b (opdS S (x, y, z) t)]) := by
 refine hiS Tryz.func10 Tryz.ntmps10 fun g w0 R h0 => go [] <| nP 31 [iV x, iV y, uV z] h0 (fun r10 _ h12 => ?_)
 have h13 := tk3 (sf2 (sf1 (sf2 h12)))
 refine go [] <| cl1 Tryz.call33 (dval_ht b S) h13 fun _ h15 => go [rd 3 0 1 0 3 h15] <| cl0 Tryz.call34 (dout_ht x y z (by omega) (by omega)) h15 fun w16 h17 => ?_
 by_cases c18 : (outE (x, y, z)) = 0
 ·
  refine go [.v 3 2 (qnF ((outE (x, y, z))) 0)] <| cl0 Tryz.call35 (dtag_ht t (by omega)) h17 fun w19 h20 => ?_
  by_cases c21 : (tagE t) = 0
  ·
   refine go [.v 5 2 (qnF ((tagE t)) 0), rd 7 1 1 0 3 h20] <| cl1 Tryz.call36 (dtagO_ht b S x y z) h20 fun w22 h23 => go [.s 7 7] ?_
   rcases Bool.eq_false_or_eq_true ((gget S.O (x, y, z)).isSome) with cb24 | cb24
   ·
    refine go [.v 7 7 (⟨.bool ((gget S.O (x, y, z)).isSome), .bool true, (ov_b cb24)⟩)] ?_
    have he25 : opdE S (x, y, z) t = 6 := opdE_have (by omega) (by omega) cb24
    have h26 : sat g w22 [Drp b (opdS S (x, y, z) t), Cl r10 [iV x, iV y, uV z] 31, R] := by rw [opdS_no he25 (by decide)]; exact h23
    exact en (iV 6) [] ⟨_, _, rfl, ⟨by rw [he25], rfl⟩, (tk2 (sf1 (sf2 h26)))⟩
   obtain ⟨pO28, cO29, pT30, cT31, pL32, cL33, hW34, h35⟩ := dr_open h23
   have hk36 := hW34.al; have hk36b := hW34.le
   refine go [.v 7 7 (⟨.bool ((gget S.O (x, y, z)).isSome), .bool false, (ov_b cb24)⟩), rd 10 3 0 1 1 h35, .s 10 5] ?_
   by_cases c37 : ((S.O.length : Nat) : Int) ≥ 2000
   ·
    refine go [.v 10 5 (oT (((S.O.length : Nat) : Int) ≥ 2000))] ?_
    have he38 : opdE S (x, y, z) t = 4 := opdE_full (by omega) (by omega) cb24 (by omega)
    have h39 : sat g w22 [Drp b S, Cl r10 [iV x, iV y, uV z] 31, R] := dr_close hW34 rfl rfl rfl rfl rfl h35
    have h40 : sat g w22 [Drp b (opdS S (x, y, z) t), Cl r10 [iV x, iV y, uV z] 31, R] := by rw [opdS_no he38 (by decide)]; exact h39
    exact en (iV 4) [] ⟨_, _, rfl, ⟨by rw [he38], rfl⟩, (tk2 (sf1 (sf2 h40)))⟩
   refine go [.v 10 5 (oF (((S.O.length : Nat) : Int) ≥ 2000)), .s 12 100000] ?_
   refine jnS (fun a w => ∃ pn : Option Addr, ∃ cn : Nat, ∃ lr : Fr, a = mk 55 (([(0, pV b), (2, .string (St t))] : Fr) ++ lr) ∧ sat g w [Cl b [.bool true, .slice pn (S.O.length + 1) cn, .slice pT30 S.O.length cT31, .slice pL32 S.A.length cL33] 66, Sl 31 3 pn (S.O.length + 1) cn (fl eO ((S.O.map Prod.fst) ++ [(x, y, z)])), Sl 9 1 pT30 S.O.length cT31 (fl eW (S.O.map Prod.snd)), Sl 33 6 pL32 S.A.length cL33 (fl eAt S.A), R]) ?_ ?_
   ·
    refine go [] <| dw (fls [0, 2, 3, 4, 5, 7] (Tr.an2 1 (Tr.an2 6 (Tr.an 8 (Tr.an 9 (fls [10, 11] (Tr.an 12 Tr.nil)))) 8 (Tr.an 6 (Tr.an 9 (fls [10, 11] (Tr.an 12 Tr.nil))))) 8 (Tr.an 1 (Tr.an 6 (Tr.an 9 (fls [10, 11] (Tr.an 12 Tr.nil))))))) h35 fun _ h43 => go [rd 12 5 0 1 1 h43, rd 12 7 4 0 3 h43] ?_
    refine br2 ?_ ?_
    ·
     refine nG (fun q_ => .slice (some ⟨q_, 0, none⟩) 0 0) 31 [] h43 (fun r44 w45 h46 => ⟨kd [rd 0 7 5 0 3 h46, rd 0 5 1 1 1 h46], ?_⟩)
     refine br2 ?_ ?_
     ·
      have h47 : sat g w45 [Sl 31 3 (some ⟨r44, 0, none⟩) 0 0 (fl eO []), Cl b [.bool true, .slice pO28 S.O.length cO29, .slice pT30 S.O.length cT31, .slice pL32 S.A.length cL33] 66, Sl 31 3 pO28 S.O.length cO29 (fl eO (S.O.map Prod.fst)), Sl 9 1 pT30 S.O.length cT31 (fl eW (S.O.map Prod.snd)), Sl 33 6 pL32 S.A.length cL33 (fl eAt S.A), Cl r10 [iV x, iV y, uV z] 31, R] := sl_of_cl h46 rfl (by omega)
      refine actG ?_
      refine an_append_gv (d := 37) (sz := 3) (s := (Operand.tmp 32)) (x := (Operand.tmp 36)) (z := .agg #[iV 0, iV 0, uV 0]) (p := (some ⟨r44, 0, none⟩)) (p2 := pO28) (m := 0) (c := 0) (k := S.O.length) (c2 := cO29) (by_ := 24) (by kernel_rfl) (by kernel_rfl) rfl Tryz.underlying52 (by kernel_rfl) rfl (by decide) (by kernel_rfl) (by kernel_rfl) h47 2 rfl (fl eO (S.O.map Prod.fst)) (gv_sl _ _ _) (by rw [fl_len eO_ok, show ((S.O.map Prod.fst)).length = S.O.length from (List.length_map _)]) (fl_one eO_ok _) (by omega) (by omega) S.O.length (by omega) ?_
      intro p48 cap49 w50 h51
      have h52 : sat g w50 [Sl 31 3 p48 S.O.length cap49 (fl eO (S.O.map Prod.fst)), Cl b [.bool true, .slice pO28 S.O.length cO29, .slice pT30 S.O.length cT31, .slice pL32 S.A.length cL33] 66, Sl 31 3 pO28 S.O.length cO29 (fl eO (S.O.map Prod.fst)), Sl 9 1 pT30 S.O.length cT31 (fl eW (S.O.map Prod.snd)), Sl 33 6 pL32 S.A.length cL33 (fl eAt S.A), Cl r10 [iV x, iV y, uV z] 31, R] := sat_imp h51 (fun _ hh => by exact hh)
      obtain ⟨hn53, hn54⟩ := sl_le h52
      refine ⟨kd [rd 0 7 5 0 3 h52], nxG ?_⟩
      refine nG (fun q_ => .slice (some ⟨q_, 0, none⟩) 1 1) 31 [iV x, iV y, uV z] h52 (fun r55 _ h57 => ⟨kd [], ?_⟩)
      have h58 := tk8 (sf7 (sf6 (sf7 (sf7 (sf7 (sf7 (sf7 (sf7 h57))))))))
      refine actG ?_
      refine an_append (d := 40) (sz := 3) (s := (Operand.tmp 37)) (x := (Operand.tmp 39)) (z := .agg #[iV 0, iV 0, uV 0]) (p := p48) (m := S.O.length) (c := cap49) (k := 1) (c2 := 1) (a := ⟨r55, 0, none⟩) (by_ := 24) (by kernel_rfl) (by kernel_rfl) rfl Tryz.underlying52 (by kernel_rfl) rfl (by decide) (by kernel_rfl) (by kernel_rfl) h58 (fl eO [(x, y, z)]) rfl (fun j u hj => by rw [add_off]; exact sat_cell h58 1 rfl (by rw [Nat.zero_add]; exact hj)) (fl_one eO_ok _) (by omega) (by omega) (S.O.length + 1) (by omega) ?_
      intro p59 cap60 w61 h62
      have h63 : sat g w61 [Sl 31 3 p59 (S.O.length + 1) cap60 (fl eO ((S.O.map Prod.fst) ++ [(x, y, z)])), Cl r55 [iV x, iV y, uV z] 31, Cl b [.bool true, .slice pO28 S.O.length cO29, .slice pT30 S.O.length cT31, .slice pL32 S.A.length cL33] 66, Sl 31 3 pO28 S.O.length cO29 (fl eO (S.O.map Prod.fst)), Sl 9 1 pT30 S.O.length cT31 (fl eW (S.O.map Prod.snd)), Sl 33 6 pL32 S.A.length cL33 (fl eAt S.A), Cl r10 [iV x, iV y, uV z] 31, R] := sat_imp h62 (fun _ hh => by rw [fl_app]; exact hh)
      obtain ⟨hn64, hn65⟩ := sl_le h63
      refine ⟨kd [], nxG ?_⟩
      have h66 := tk8 (sf7 (sf6 (sf6 (sf7 (sf7 (sf7 (sf7 (sf7 h63))))))))
      refine go [] <| sG [(1, .slice p59 (S.O.length + 1) cap60)] [.bool true, .slice p59 (S.O.length + 1) cap60, .slice pT30 S.O.length cT31, .slice pL32 S.A.length cL33] h66 fun _ h68 => ⟨kd [], ?_⟩
      refine go [] ?_
      refine enL ?_
      exact ⟨p59, cap60, _, (lvF [.k 0 (pV b), .k 2 (.string (St t))]), (tk5 (tk8 (sf7 (sf7 (sf7 (sf7 (sf7 (sf4 (sf4 (sf6 h68))))))))))⟩
     refine nG (fun q_ => .slice (some ⟨q_, 0, none⟩) 1 1) 31 [iV x, iV y, uV z] h46 (fun r71 w72 h73 => ⟨kd [rd 0 5 2 1 1 h73], ?_⟩)
     have h75 : sat g w72 [Sl 31 3 (some ⟨r44, 0, none⟩) 0 0 (fl eO []), Cl r71 [iV x, iV y, uV z] 31, Cl b [.bool true, .slice pO28 S.O.length cO29, .slice pT30 S.O.length cT31, .slice pL32 S.A.length cL33] 66, Sl 31 3 pO28 S.O.length cO29 (fl eO (S.O.map Prod.fst)), Sl 9 1 pT30 S.O.length cT31 (fl eW (S.O.map Prod.snd)), Sl 33 6 pL32 S.A.length cL33 (fl eAt S.A), Cl r10 [iV x, iV y, uV z] 31, R] := sl_of_cl (tk8 (sf7 (sf6 (sf7 (sf7 (sf7 (sf7 (sf7 (sf7 h73))))))))) rfl (by omega)
     refine actG ?_
     refine an_append_gv (d := 37) (sz := 3) (s := (Operand.tmp 32)) (x := (Operand.tmp 36)) (z := .agg #[iV 0, iV 0, uV 0]) (p := (some ⟨r44, 0, none⟩)) (p2 := pO28) (m := 0) (c := 0) (k := S.O.length) (c2 := cO29) (by_ := 24) (by kernel_rfl) (by kernel_rfl) rfl Tryz.underlying52 (by kernel_rfl) rfl (by decide) (by kernel_rfl) (by kernel_rfl) h75 3 rfl (fl eO (S.O.map Prod.fst)) (gv_sl _ _ _) (by rw [fl_len eO_ok, show ((S.O.map Prod.fst)).length = S.O.length from (List.length_map _)]) (fl_one eO_ok _) (by omega) (by omega) S.O.length (by omega) ?_
     intro p76 cap77 w78 h79
     have h80 : sat g w78 [Sl 31 3 p76 S.O.length cap77 (fl eO (S.O.map Prod.fst)), Cl r71 [iV x, iV y, uV z] 31, Cl b [.bool true, .slice pO28 S.O.length cO29, .slice pT30 S.O.length cT31, .slice pL32 S.A.length cL33] 66, Sl 31 3 pO28 S.O.length cO29 (fl eO (S.O.map Prod.fst)), Sl 9 1 pT30 S.O.length cT31 (fl eW (S.O.map Prod.snd)), Sl 33 6 pL32 S.A.length cL33 (fl eAt S.A), Cl r10 [iV x, iV y, uV z] 31, R] := sat_imp h79 (fun _ hh => by exact hh)
     obtain ⟨hn81, hn82⟩ := sl_le h80
     refine ⟨kd [], nxG ?_⟩
     refine actG ?_
     refine an_append (d := 40) (sz := 3) (s := (Operand.tmp 37)) (x := (Operand.tmp 39)) (z := .agg #[iV 0, iV 0, uV 0]) (p := p76) (m := S.O.length) (c := cap77) (k := 1) (c2 := 1) (a := ⟨r71, 0, none⟩) (by_ := 24) (by kernel_rfl) (by kernel_rfl) rfl Tryz.underlying52 (by kernel_rfl) rfl (by decide) (by kernel_rfl) (by kernel_rfl) h80 (fl eO [(x, y, z)]) rfl (fun j u hj => by rw [add_off]; exact sat_cell h80 1 rfl (by rw [Nat.zero_add]; exact hj)) (fl_one eO_ok _) (by omega) (by omega) (S.O.length + 1) (by omega) ?_
     intro p83 cap84 w85 h86
     have h87 : sat g w85 [Sl 31 3 p83 (S.O.length + 1) cap84 (fl eO ((S.O.map Prod.fst) ++ [(x, y, z)])), Cl r71 [iV x, iV y, uV z] 31, Cl b [.bool true, .slice pO28 S.O.length cO29, .slice pT30 S.O.length cT31, .slice pL32 S.A.length cL33] 66, Sl 31 3 pO28 S.O.length cO29 (fl eO (S.O.map Prod.fst)), Sl 9 1 pT30 S.O.length cT31 (fl eW (S.O.map Prod.snd)), Sl 33 6 pL32 S.A.length cL33 (fl eAt S.A), Cl r10 [iV x, iV y, uV z] 31, R] := sat_imp h86 (fun _ hh => by rw [fl_app]; exact hh)
     obtain ⟨hn88, hn89⟩ := sl_le h87
     refine ⟨kd [], nxG ?_⟩
     have h90 := tk8 (sf7 (sf6 (sf6 (sf7 (sf7 (sf7 (sf7 (sf7 h87))))))))
     refine go [] <| sG [(1, .slice p83 (S.O.length + 1) cap84)] [.bool true, .slice p83 (S.O.length + 1) cap84, .slice pT30 S.O.length cT31, .slice pL32 S.A.length cL33] h90 fun _ h92 => ⟨kd [], ?_⟩
     refine go [] ?_
     refine enL ?_
     exact ⟨p83, cap84, _, (lvF [.k 0 (pV b), .k 2 (.string (St t))]), (tk5 (tk8 (sf7 (sf7 (sf7 (sf7 (sf7 (sf4 (sf4 (sf6 h92))))))))))⟩
    refine nG (fun q_ => .slice (some ⟨q_, 0, none⟩) 1 1) 31 [iV x, iV y, uV z] h43 (fun r95 _ h97 => ⟨kd [rd 0 5 1 1 1 h97], ?_⟩)
    refine nG (fun q_ => .slice (some ⟨q_, 0, none⟩) 0 0) 31 [] h97 (fun r98 w99 h100 => ⟨kd [rd 0 5 2 1 1 h100], ?_⟩)
    have h101 : sat g w99 [Sl 31 3 (some ⟨r98, 0, none⟩) 0 0 (fl eO []), Cl r95 [iV x, iV y, uV z] 31, Cl b [.bool true, .slice pO28 S.O.length cO29, .slice pT30 S.O.length cT31, .slice pL32 S.A.length cL33] 66, Sl 31 3 pO28 S.O.length cO29 (fl eO (S.O.map Prod.fst)), Sl 9 1 pT30 S.O.length cT31 (fl eW (S.O.map Prod.snd)), Sl 33 6 pL32 S.A.length cL33 (fl eAt S.A), Cl r10 [iV x, iV y, uV z] 31, R] := sl_of_cl h100 rfl (by omega)
    refine actG ?_
    refine an_append_gv (d := 37) (sz := 3) (s := (Operand.tmp 32)) (x := (Operand.tmp 36)) (z := .agg #[iV 0, iV 0, uV 0]) (p := (some ⟨r98, 0, none⟩)) (p2 := pO28) (m := 0) (c := 0) (k := S.O.length) (c2 := cO29) (by_ := 24) (by kernel_rfl) (by kernel_rfl) rfl Tryz.underlying52 (by kernel_rfl) rfl (by decide) (by kernel_rfl) (by kernel_rfl) h101 3 rfl (fl eO (S.O.map Prod.fst)) (gv_sl _ _ _) (by rw [fl_len eO_ok, show ((S.O.map Prod.fst)).length = S.O.length from (List.length_map _)]) (fl_one eO_ok _) (by omega) (by omega) S.O.length (by omega) ?_
    intro p102 cap103 w104 h105
    have h106 : sat g w104 [Sl 31 3 p102 S.O.length cap103 (fl eO (S.O.map Prod.fst)), Cl r95 [iV x, iV y, uV z] 31, Cl b [.bool true, .slice pO28 S.O.length cO29, .slice pT30 S.O.length cT31, .slice pL32 S.A.length cL33] 66, Sl 31 3 pO28 S.O.length cO29 (fl eO (S.O.map Prod.fst)), Sl 9 1 pT30 S.O.length cT31 (fl eW (S.O.map Prod.snd)), Sl 33 6 pL32 S.A.length cL33 (fl eAt S.A), Cl r10 [iV x, iV y, uV z] 31, R] := sat_imp h105 (fun _ hh => by exact hh)
    obtain ⟨hn107, hn108⟩ := sl_le h106
    refine ⟨kd [], nxG ?_⟩
    refine actG ?_
    refine an_append (d := 40) (sz := 3) (s := (Operand.tmp 37)) (x := (Operand.tmp 39)) (z := .agg #[iV 0, iV 0, uV 0]) (p := p102) (m := S.O.length) (c := cap103) (k := 1) (c2 := 1) (a := ⟨r95, 0, none⟩) (by_ := 24) (by kernel_rfl) (by kernel_rfl) rfl Tryz.underlying52 (by kernel_rfl) rfl (by decide) (by kernel_rfl) (by kernel_rfl) h106 (fl eO [(x, y, z)]) rfl (fun j u hj => by rw [add_off]; exact sat_cell h106 1 rfl (by rw [Nat.zero_add]; exact hj)) (fl_one eO_ok _) (by omega) (by omega) (S.O.length + 1) (by omega) ?_
    intro p109 cap110 w111 h112
    have h113 : sat g w111 [Sl 31 3 p109 (S.O.length + 1) cap110 (fl eO ((S.O.map Prod.fst) ++ [(x, y, z)])), Cl r95 [iV x, iV y, uV z] 31, Cl b [.bool true, .slice pO28 S.O.length cO29, .slice pT30 S.O.length cT31, .slice pL32 S.A.length cL33] 66, Sl 31 3 pO28 S.O.length cO29 (fl eO (S.O.map Prod.fst)), Sl 9 1 pT30 S.O.length cT31 (fl eW (S.O.map Prod.snd)), Sl 33 6 pL32 S.A.length cL33 (fl eAt S.A), Cl r10 [iV x, iV y, uV z] 31, R] := sat_imp h112 (fun _ hh => by rw [fl_app]; exact hh)
    obtain ⟨hn114, hn115⟩ := sl_le h113
    refine ⟨kd [], nxG ?_⟩
    have h116 := tk8 (sf7 (sf6 (sf6 (sf7 (sf7 (sf7 (sf7 (sf7 h113))))))))
    refine go [] <| sG [(1, .slice p109 (S.O.length + 1) cap110)] [.bool true, .slice p109 (S.O.length + 1) cap110, .slice pT30 S.O.length cT31, .slice pL32 S.A.length cL33] h116 fun _ h118 => ⟨kd [], ?_⟩
    refine go [] ?_
    refine enL ?_
    exact ⟨p109, cap110, _, (lvF [.k 0 (pV b), .k 2 (.string (St t))]), (tk5 (tk8 (sf7 (sf7 (sf7 (sf7 (sf7 (sf4 (sf4 (sf6 h118))))))))))⟩
   rintro a121 w122 ⟨pn, cn, lr124, rfl, h123⟩
   refine ga <| go [] <| nG (fun q_ => .slice (some ⟨q_, 0, none⟩) 0 0) 9 [] h123 (fun r125 w126 h127 => ⟨kd [], ?_⟩)
   have h128 : sat g w126 [Sl 9 1 (some ⟨r125, 0, none⟩) 0 0 (fl eW []), Cl b [.bool true, .slice pn (S.O.length + 1) cn, .slice pT30 S.O.length cT31, .slice pL32 S.A.length cL33] 66, Sl 31 3 pn (S.O.length + 1) cn (fl eO ((S.O.map Prod.fst) ++ [(x, y, z)])), Sl 9 1 pT30 S.O.length cT31 (fl eW (S.O.map Prod.snd)), Sl 33 6 pL32 S.A.length cL33 (fl eAt S.A), R] := sl_of_cl h127 rfl (by omega)
   refine go [rd 13 5 1 2 1 h127] ?_
   refine actG ?_
   refine an_append_gv (d := 49) (sz := 1) (s := (Operand.tmp 44)) (x := (Operand.tmp 48)) (z := .string (St [])) (p := (some ⟨r125, 0, none⟩)) (p2 := pT30) (m := 0) (c := 0) (k := S.O.length) (c2 := cT31) (by_ := 16) (by kernel_rfl) (by kernel_rfl) rfl Tryz.underlying49 (by kernel_rfl) rfl (by decide) (by kernel_rfl) (by kernel_rfl) h128 3 rfl (fl eW (S.O.map Prod.snd)) (gv_sl _ _ _) (by rw [fl_len eW_ok, show ((S.O.map Prod.snd)).length = S.O.length from (List.length_map _)]) (fl_one eW_ok _) (by omega) (by omega) S.O.length (by omega) ?_
   intro p129 cap130 w131 h132
   have h133 : sat g w131 [Sl 9 1 p129 S.O.length cap130 (fl eW (S.O.map Prod.snd)), Cl b [.bool true, .slice pn (S.O.length + 1) cn, .slice pT30 S.O.length cT31, .slice pL32 S.A.length cL33] 66, Sl 31 3 pn (S.O.length + 1) cn (fl eO ((S.O.map Prod.fst) ++ [(x, y, z)])), Sl 9 1 pT30 S.O.length cT31 (fl eW (S.O.map Prod.snd)), Sl 33 6 pL32 S.A.length cL33 (fl eAt S.A), R] := sat_imp h132 (fun _ hh => by exact hh)
   obtain ⟨hn134, hn135⟩ := sl_le h133
   refine nxA <| go [] <| nG (fun q_ => .slice (some ⟨q_, 0, none⟩) 1 1) 9 [.string (St t)] h133 (fun r136 _ h138 => ⟨kd [], ?_⟩)
   have h139 := tk7 (sf6 (sf5 (sf6 (sf6 (sf6 (sf6 (sf6 h138)))))))
   refine actG ?_
   refine an_append (d := 52) (sz := 1) (s := (Operand.tmp 49)) (x := (Operand.tmp 51)) (z := .string (St [])) (p := p129) (m := S.O.length) (c := cap130) (k := 1) (c2 := 1) (a := ⟨r136, 0, none⟩) (by_ := 16) (by kernel_rfl) (by kernel_rfl) rfl Tryz.underlying49 (by kernel_rfl) rfl (by decide) (by kernel_rfl) (by kernel_rfl) h139 (fl eW [t]) rfl (fun j u hj => by rw [add_off]; exact sat_cell h139 1 rfl (by rw [Nat.zero_add]; exact hj)) (fl_one eW_ok _) (by omega) (by omega) (S.O.length + 1) (by omega) ?_
   intro p140 cap141 w142 h143
   have h144 : sat g w142 [Sl 9 1 p140 (S.O.length + 1) cap141 (fl eW ((S.O.map Prod.snd) ++ [t])), Cl r136 [.string (St t)] 9, Cl b [.bool true, .slice pn (S.O.length + 1) cn, .slice pT30 S.O.length cT31, .slice pL32 S.A.length cL33] 66, Sl 31 3 pn (S.O.length + 1) cn (fl eO ((S.O.map Prod.fst) ++ [(x, y, z)])), Sl 9 1 pT30 S.O.length cT31 (fl eW (S.O.map Prod.snd)), Sl 33 6 pL32 S.A.length cL33 (fl eAt S.A), R] := sat_imp h143 (fun _ hh => by rw [fl_app]; exact hh)
   obtain ⟨hn145, hn146⟩ := sl_le h144
   refine nxA ?_
   have h147 := tk7 (sf6 (sf5 (sf5 (sf6 (sf6 (sf6 (sf6 h144)))))))
   refine go [] <| sP [(2, .slice p140 (S.O.length + 1) cap141)] [.bool true, .slice pn (S.O.length + 1) cn, .slice p140 (S.O.length + 1) cap141, .slice pL32 S.A.length cL33] h147 fun w148 h149 => go [] ?_
   have he150 : opdE S (x, y, z) t = 0 := opdE_ok (by omega) (by omega) cb24 (by omega)
   have ho151 := opdO he150
   have h153 : sat g w148 [Drp b (opdS S (x, y, z) t), Cl r136 [.string (St t)] 9, Sl 9 1 pT30 S.O.length cT31 (fl eW (S.O.map Prod.snd)), R] := dr_close (rw_open hW34 (by omega)) ho151.1.symm ho151.2.1.symm ho151.2.2.2.symm (by rw [ho151.2.2.1]) (by rw [ho151.2.2.2]) (tk7 (sf6 (sf6 (sf5 (sf6 (sf4 (sf5 (sf6 h149))))))))
   exact en (iV 0) [] ⟨_, _, rfl, ⟨by rw [he150], rfl⟩, (tk2 (sf1 (sf3 h153)))⟩
  refine go [.v 5 2 (qnT ((tagE t)) 0)] ?_
  have he155 : opdE S (x, y, z) t = 16 := opdE_tag (by omega) (by omega)
  have h156 : sat g w19 [Drp b (opdS S (x, y, z) t), Cl r10 [iV x, iV y, uV z] 31, R] := by rw [opdS_no he155 (by decide)]; exact h20
  exact en (iV 16) [] ⟨_, _, rfl, ⟨by rw [he155], rfl⟩, (tk2 (sf1 (sf2 h156)))⟩
 refine go [.v 3 2 (qnT ((outE (x, y, z))) 0)] ?_
 have he158 : opdE S (x, y, z) t = 2 := opdE_arg (by omega)
 have h159 : sat g w16 [Drp b (opdS S (x, y, z) t), Cl r10 [iV x, iV y, uV z] 31, R] := by rw [opdS_no he158 (by decide)]; exact h17
 exact en (iV 2) [] ⟨_, _, rfl, ⟨by rw [he158], rfl⟩, (tk2 (sf1 (sf2 h159)))⟩

set_option maxHeartbeats 4000000 in
theorem dtry_ht (b : Nat) (S : Rp) (ta x y z wy an : Int) (hz0 : 0 ≤ z) (hz1 : z ≤ 4294967295) (hn : S.A.length < 4294967296) : HT Tryz.prog 12 [pV b, .agg #[iV ta, iV x, iV y, uV z, iV wy, iV an]] [Drp b S] (fun v K => v = iV (trE S (⟨ta, (x, y, z), wy, an⟩ : At)) ∧ K = [Drp b (trS S (⟨ta, (x, y, z), wy, an⟩ : At))]) := by
 refine hiS Tryz.func12 Tryz.ntmps12 fun g w0 R h0 => go [] <| nP 33 [iV ta, iV x, iV y, uV z, iV wy, iV an] h0 (fun r10 _ h12 => ?_)
 have h13 := tk3 (sf2 (sf1 (sf2 h12)))
 refine go [] <| cl1 Tryz.call33 (dval_ht b S) h13 fun _ h15 => go [rd 3 0 1 0 6 h15] <| cl0 Tryz.call38 (dchk_ht ta x y z wy an (by omega) (by omega)) h15 fun w16 h17 => ?_
 by_cases c18 : (attE ⟨ta, (x, y, z), wy, an⟩) = 0
 ·
  refine go [.v 3 2 (qnF ((attE ⟨ta, (x, y, z), wy, an⟩)) 0), rd 5 2 1 1 3 h17] <| cl1 Tryz.call36 (dtagO_ht b S x y z) h17 fun w19 h20 => go [.s 5 8] ?_
  rcases Bool.eq_false_or_eq_true ((gget S.O (x, y, z)).isSome) with cb21 | cb21
  ·
   refine go [.v 5 8 (⟨.bool ((gget S.O (x, y, z)).isSome), .bool true, (ov_b cb21)⟩), rd 8 2 1 1 3 h20] <| cl1 Tryz.call39 (dst_ht b S x y z) h20 fun w22 h23 => ?_
   by_cases c24 : (stOf S.A (x, y, z)) = 2
   ·
    refine go [.v 8 4 (qnF ((stOf S.A (x, y, z))) 2), .s 10 100000] ?_
    obtain ⟨pO25, cO26, pT27, cT28, pL29, cL30, hW31, h32⟩ := dr_open h23
    have hk33 := hW31.al; have hk33b := hW31.le
    refine jnS (fun a w => ∃ pn : Option Addr, ∃ cn : Nat, ∃ lr : Fr, a = mk 39 (([] : Fr) ++ lr) ∧ sat g w [Cl b [.bool true, .slice pO25 S.O.length cO26, .slice pT27 S.O.length cT28, .slice pn (S.A.length + 1) cn] 66, Sl 33 6 pn (S.A.length + 1) cn (fl eAt (S.A ++ [(⟨ta, (x, y, z), wy, an⟩ : At)])), Sl 31 3 pO25 S.O.length cO26 (fl eO (S.O.map Prod.fst)), Sl 9 1 pT27 S.O.length cT28 (fl eW (S.O.map Prod.snd)), R]) ?_ ?_
    ·
     refine go [] <| dw (fls [0, 2, 3, 4, 5, 7] (Tr.an2 1 (Tr.an2 6 (Tr.an 8 (Tr.an 9 (fls [10, 11] (Tr.an 12 Tr.nil)))) 8 (Tr.an 6 (Tr.an 9 (fls [10, 11] (Tr.an 12 Tr.nil))))) 8 (Tr.an 1 (Tr.an 6 (Tr.an 9 (fls [10, 11] (Tr.an 12 Tr.nil))))))) h32 fun _ h35 => go [rd 10 5 0 3 1 h35, rd 10 7 4 0 6 h35] ?_
     refine br2 ?_ ?_
     ·
      refine nG (fun q_ => .slice (some ⟨q_, 0, none⟩) 0 0) 33 [] h35 (fun r36 w37 h38 => ⟨kd [rd 0 7 5 0 6 h38, rd 0 5 1 3 1 h38], ?_⟩)
      refine br2 ?_ ?_
      ·
       have h39 : sat g w37 [Sl 33 6 (some ⟨r36, 0, none⟩) 0 0 (fl eAt []), Cl b [.bool true, .slice pO25 S.O.length cO26, .slice pT27 S.O.length cT28, .slice pL29 S.A.length cL30] 66, Sl 31 3 pO25 S.O.length cO26 (fl eO (S.O.map Prod.fst)), Sl 9 1 pT27 S.O.length cT28 (fl eW (S.O.map Prod.snd)), Sl 33 6 pL29 S.A.length cL30 (fl eAt S.A), Cl r10 [iV ta, iV x, iV y, uV z, iV wy, iV an] 33, R] := sl_of_cl h38 rfl (by omega)
       refine actG ?_
       refine an_append_gv (d := 33) (sz := 6) (s := (Operand.tmp 28)) (x := (Operand.tmp 32)) (z := .agg #[iV 0, iV 0, iV 0, uV 0, iV 0, iV 0]) (p := (some ⟨r36, 0, none⟩)) (p2 := pL29) (m := 0) (c := 0) (k := S.A.length) (c2 := cL30) (by_ := 48) (by kernel_rfl) (by kernel_rfl) rfl Tryz.underlying53 (by kernel_rfl) rfl (by decide) (by kernel_rfl) (by kernel_rfl) h39 4 rfl (fl eAt S.A) (gv_sl _ _ _) (fl_len eAt_ok _) (fl_one eAt_ok _) (by omega) (by omega) S.A.length (by omega) ?_
       intro p40 cap41 w42 h43
       have h44 : sat g w42 [Sl 33 6 p40 S.A.length cap41 (fl eAt S.A), Cl b [.bool true, .slice pO25 S.O.length cO26, .slice pT27 S.O.length cT28, .slice pL29 S.A.length cL30] 66, Sl 31 3 pO25 S.O.length cO26 (fl eO (S.O.map Prod.fst)), Sl 9 1 pT27 S.O.length cT28 (fl eW (S.O.map Prod.snd)), Sl 33 6 pL29 S.A.length cL30 (fl eAt S.A), Cl r10 [iV ta, iV x, iV y, uV z, iV wy, iV an] 33, R] := sat_imp h43 (fun _ hh => by exact hh)
       obtain ⟨hn45, hn46⟩ := sl_le h44
       refine ⟨kd [rd 0 7 5 0 6 h44], nxG ?_⟩
       refine nG (fun q_ => .slice (some ⟨q_, 0, none⟩) 1 1) 33 [iV ta, iV x, iV y, uV z, iV wy, iV an] h44 (fun r47 _ h49 => ⟨kd [], ?_⟩)
       have h50 := tk8 (sf7 (sf6 (sf7 (sf7 (sf7 (sf7 (sf7 (sf7 h49))))))))
       refine actG ?_
       refine an_append (d := 36) (sz := 6) (s := (Operand.tmp 33)) (x := (Operand.tmp 35)) (z := .agg #[iV 0, iV 0, iV 0, uV 0, iV 0, iV 0]) (p := p40) (m := S.A.length) (c := cap41) (k := 1) (c2 := 1) (a := ⟨r47, 0, none⟩) (by_ := 48) (by kernel_rfl) (by kernel_rfl) rfl Tryz.underlying53 (by kernel_rfl) rfl (by decide) (by kernel_rfl) (by kernel_rfl) h50 (fl eAt [(⟨ta, (x, y, z), wy, an⟩ : At)]) rfl (fun j u hj => by rw [add_off]; exact sat_cell h50 1 rfl (by rw [Nat.zero_add]; exact hj)) (fl_one eAt_ok _) (by omega) (by omega) (S.A.length + 1) (by omega) ?_
       intro p51 cap52 w53 h54
       have h55 : sat g w53 [Sl 33 6 p51 (S.A.length + 1) cap52 (fl eAt (S.A ++ [(⟨ta, (x, y, z), wy, an⟩ : At)])), Cl r47 [iV ta, iV x, iV y, uV z, iV wy, iV an] 33, Cl b [.bool true, .slice pO25 S.O.length cO26, .slice pT27 S.O.length cT28, .slice pL29 S.A.length cL30] 66, Sl 31 3 pO25 S.O.length cO26 (fl eO (S.O.map Prod.fst)), Sl 9 1 pT27 S.O.length cT28 (fl eW (S.O.map Prod.snd)), Sl 33 6 pL29 S.A.length cL30 (fl eAt S.A), Cl r10 [iV ta, iV x, iV y, uV z, iV wy, iV an] 33, R] := sat_imp h54 (fun _ hh => by rw [fl_app]; exact hh)
       obtain ⟨hn56, hn57⟩ := sl_le h55
       refine ⟨kd [], nxG ?_⟩
       have h58 := tk8 (sf7 (sf6 (sf6 (sf7 (sf7 (sf7 (sf7 (sf7 h55))))))))
       refine go [] <| sG [(3, .slice p51 (S.A.length + 1) cap52)] [.bool true, .slice pO25 S.O.length cO26, .slice pT27 S.O.length cT28, .slice p51 (S.A.length + 1) cap52] h58 fun _ h60 => ⟨kd [], ?_⟩
       refine go [] ?_
       refine enL ?_
       exact ⟨p51, cap52, _, (lvF []), (tk5 (tk8 (sf7 (sf7 (sf7 (sf7 (sf7 (sf4 (sf6 (sf6 h60))))))))))⟩
      refine nG (fun q_ => .slice (some ⟨q_, 0, none⟩) 1 1) 33 [iV ta, iV x, iV y, uV z, iV wy, iV an] h38 (fun r63 w64 h65 => ⟨kd [rd 0 5 2 3 1 h65], ?_⟩)
      have h67 : sat g w64 [Sl 33 6 (some ⟨r36, 0, none⟩) 0 0 (fl eAt []), Cl r63 [iV ta, iV x, iV y, uV z, iV wy, iV an] 33, Cl b [.bool true, .slice pO25 S.O.length cO26, .slice pT27 S.O.length cT28, .slice pL29 S.A.length cL30] 66, Sl 31 3 pO25 S.O.length cO26 (fl eO (S.O.map Prod.fst)), Sl 9 1 pT27 S.O.length cT28 (fl eW (S.O.map Prod.snd)), Sl 33 6 pL29 S.A.length cL30 (fl eAt S.A), Cl r10 [iV ta, iV x, iV y, uV z, iV wy, iV an] 33, R] := sl_of_cl (tk8 (sf7 (sf6 (sf7 (sf7 (sf7 (sf7 (sf7 (sf7 h65))))))))) rfl (by omega)
      refine actG ?_
      refine an_append_gv (d := 33) (sz := 6) (s := (Operand.tmp 28)) (x := (Operand.tmp 32)) (z := .agg #[iV 0, iV 0, iV 0, uV 0, iV 0, iV 0]) (p := (some ⟨r36, 0, none⟩)) (p2 := pL29) (m := 0) (c := 0) (k := S.A.length) (c2 := cL30) (by_ := 48) (by kernel_rfl) (by kernel_rfl) rfl Tryz.underlying53 (by kernel_rfl) rfl (by decide) (by kernel_rfl) (by kernel_rfl) h67 5 rfl (fl eAt S.A) (gv_sl _ _ _) (fl_len eAt_ok _) (fl_one eAt_ok _) (by omega) (by omega) S.A.length (by omega) ?_
      intro p68 cap69 w70 h71
      have h72 : sat g w70 [Sl 33 6 p68 S.A.length cap69 (fl eAt S.A), Cl r63 [iV ta, iV x, iV y, uV z, iV wy, iV an] 33, Cl b [.bool true, .slice pO25 S.O.length cO26, .slice pT27 S.O.length cT28, .slice pL29 S.A.length cL30] 66, Sl 31 3 pO25 S.O.length cO26 (fl eO (S.O.map Prod.fst)), Sl 9 1 pT27 S.O.length cT28 (fl eW (S.O.map Prod.snd)), Sl 33 6 pL29 S.A.length cL30 (fl eAt S.A), Cl r10 [iV ta, iV x, iV y, uV z, iV wy, iV an] 33, R] := sat_imp h71 (fun _ hh => by exact hh)
      obtain ⟨hn73, hn74⟩ := sl_le h72
      refine ⟨kd [], nxG ?_⟩
      refine actG ?_
      refine an_append (d := 36) (sz := 6) (s := (Operand.tmp 33)) (x := (Operand.tmp 35)) (z := .agg #[iV 0, iV 0, iV 0, uV 0, iV 0, iV 0]) (p := p68) (m := S.A.length) (c := cap69) (k := 1) (c2 := 1) (a := ⟨r63, 0, none⟩) (by_ := 48) (by kernel_rfl) (by kernel_rfl) rfl Tryz.underlying53 (by kernel_rfl) rfl (by decide) (by kernel_rfl) (by kernel_rfl) h72 (fl eAt [(⟨ta, (x, y, z), wy, an⟩ : At)]) rfl (fun j u hj => by rw [add_off]; exact sat_cell h72 1 rfl (by rw [Nat.zero_add]; exact hj)) (fl_one eAt_ok _) (by omega) (by omega) (S.A.length + 1) (by omega) ?_
      intro p75 cap76 w77 h78
      have h79 : sat g w77 [Sl 33 6 p75 (S.A.length + 1) cap76 (fl eAt (S.A ++ [(⟨ta, (x, y, z), wy, an⟩ : At)])), Cl r63 [iV ta, iV x, iV y, uV z, iV wy, iV an] 33, Cl b [.bool true, .slice pO25 S.O.length cO26, .slice pT27 S.O.length cT28, .slice pL29 S.A.length cL30] 66, Sl 31 3 pO25 S.O.length cO26 (fl eO (S.O.map Prod.fst)), Sl 9 1 pT27 S.O.length cT28 (fl eW (S.O.map Prod.snd)), Sl 33 6 pL29 S.A.length cL30 (fl eAt S.A), Cl r10 [iV ta, iV x, iV y, uV z, iV wy, iV an] 33, R] := sat_imp h78 (fun _ hh => by rw [fl_app]; exact hh)
      obtain ⟨hn80, hn81⟩ := sl_le h79
      refine ⟨kd [], nxG ?_⟩
      have h82 := tk8 (sf7 (sf6 (sf6 (sf7 (sf7 (sf7 (sf7 (sf7 h79))))))))
      refine go [] <| sG [(3, .slice p75 (S.A.length + 1) cap76)] [.bool true, .slice pO25 S.O.length cO26, .slice pT27 S.O.length cT28, .slice p75 (S.A.length + 1) cap76] h82 fun _ h84 => ⟨kd [], ?_⟩
      refine go [] ?_
      refine enL ?_
      exact ⟨p75, cap76, _, (lvF []), (tk5 (tk8 (sf7 (sf7 (sf7 (sf7 (sf7 (sf4 (sf6 (sf6 h84))))))))))⟩
     refine nG (fun q_ => .slice (some ⟨q_, 0, none⟩) 1 1) 33 [iV ta, iV x, iV y, uV z, iV wy, iV an] h35 (fun r87 _ h89 => ⟨kd [rd 0 5 1 3 1 h89], ?_⟩)
     refine nG (fun q_ => .slice (some ⟨q_, 0, none⟩) 0 0) 33 [] h89 (fun r90 w91 h92 => ⟨kd [rd 0 5 2 3 1 h92], ?_⟩)
     have h93 : sat g w91 [Sl 33 6 (some ⟨r90, 0, none⟩) 0 0 (fl eAt []), Cl r87 [iV ta, iV x, iV y, uV z, iV wy, iV an] 33, Cl b [.bool true, .slice pO25 S.O.length cO26, .slice pT27 S.O.length cT28, .slice pL29 S.A.length cL30] 66, Sl 31 3 pO25 S.O.length cO26 (fl eO (S.O.map Prod.fst)), Sl 9 1 pT27 S.O.length cT28 (fl eW (S.O.map Prod.snd)), Sl 33 6 pL29 S.A.length cL30 (fl eAt S.A), Cl r10 [iV ta, iV x, iV y, uV z, iV wy, iV an] 33, R] := sl_of_cl h92 rfl (by omega)
     refine actG ?_
     refine an_append_gv (d := 33) (sz := 6) (s := (Operand.tmp 28)) (x := (Operand.tmp 32)) (z := .agg #[iV 0, iV 0, iV 0, uV 0, iV 0, iV 0]) (p := (some ⟨r90, 0, none⟩)) (p2 := pL29) (m := 0) (c := 0) (k := S.A.length) (c2 := cL30) (by_ := 48) (by kernel_rfl) (by kernel_rfl) rfl Tryz.underlying53 (by kernel_rfl) rfl (by decide) (by kernel_rfl) (by kernel_rfl) h93 5 rfl (fl eAt S.A) (gv_sl _ _ _) (fl_len eAt_ok _) (fl_one eAt_ok _) (by omega) (by omega) S.A.length (by omega) ?_
     intro p94 cap95 w96 h97
     have h98 : sat g w96 [Sl 33 6 p94 S.A.length cap95 (fl eAt S.A), Cl r87 [iV ta, iV x, iV y, uV z, iV wy, iV an] 33, Cl b [.bool true, .slice pO25 S.O.length cO26, .slice pT27 S.O.length cT28, .slice pL29 S.A.length cL30] 66, Sl 31 3 pO25 S.O.length cO26 (fl eO (S.O.map Prod.fst)), Sl 9 1 pT27 S.O.length cT28 (fl eW (S.O.map Prod.snd)), Sl 33 6 pL29 S.A.length cL30 (fl eAt S.A), Cl r10 [iV ta, iV x, iV y, uV z, iV wy, iV an] 33, R] := sat_imp h97 (fun _ hh => by exact hh)
     obtain ⟨hn99, hn100⟩ := sl_le h98
     refine ⟨kd [], nxG ?_⟩
     refine actG ?_
     refine an_append (d := 36) (sz := 6) (s := (Operand.tmp 33)) (x := (Operand.tmp 35)) (z := .agg #[iV 0, iV 0, iV 0, uV 0, iV 0, iV 0]) (p := p94) (m := S.A.length) (c := cap95) (k := 1) (c2 := 1) (a := ⟨r87, 0, none⟩) (by_ := 48) (by kernel_rfl) (by kernel_rfl) rfl Tryz.underlying53 (by kernel_rfl) rfl (by decide) (by kernel_rfl) (by kernel_rfl) h98 (fl eAt [(⟨ta, (x, y, z), wy, an⟩ : At)]) rfl (fun j u hj => by rw [add_off]; exact sat_cell h98 1 rfl (by rw [Nat.zero_add]; exact hj)) (fl_one eAt_ok _) (by omega) (by omega) (S.A.length + 1) (by omega) ?_
     intro p101 cap102 w103 h104
     have h105 : sat g w103 [Sl 33 6 p101 (S.A.length + 1) cap102 (fl eAt (S.A ++ [(⟨ta, (x, y, z), wy, an⟩ : At)])), Cl r87 [iV ta, iV x, iV y, uV z, iV wy, iV an] 33, Cl b [.bool true, .slice pO25 S.O.length cO26, .slice pT27 S.O.length cT28, .slice pL29 S.A.length cL30] 66, Sl 31 3 pO25 S.O.length cO26 (fl eO (S.O.map Prod.fst)), Sl 9 1 pT27 S.O.length cT28 (fl eW (S.O.map Prod.snd)), Sl 33 6 pL29 S.A.length cL30 (fl eAt S.A), Cl r10 [iV ta, iV x, iV y, uV z, iV wy, iV an] 33, R] := sat_imp h104 (fun _ hh => by rw [fl_app]; exact hh)
     obtain ⟨hn106, hn107⟩ := sl_le h105
     refine ⟨kd [], nxG ?_⟩
     have h108 := tk8 (sf7 (sf6 (sf6 (sf7 (sf7 (sf7 (sf7 (sf7 h105))))))))
     refine go [] <| sG [(3, .slice p101 (S.A.length + 1) cap102)] [.bool true, .slice pO25 S.O.length cO26, .slice pT27 S.O.length cT28, .slice p101 (S.A.length + 1) cap102] h108 fun _ h110 => ⟨kd [], ?_⟩
     refine go [] ?_
     refine enL ?_
     exact ⟨p101, cap102, _, (lvF []), (tk5 (tk8 (sf7 (sf7 (sf7 (sf7 (sf7 (sf4 (sf6 (sf6 h110))))))))))⟩
    rintro a113 w114 ⟨pn, cn, lr116, rfl, h115⟩
    refine ga <| go [] ?_
    have he117 : trE S (⟨ta, (x, y, z), wy, an⟩ : At) = 0 := trE_ok (by omega) cb21 (by show stOf S.A (x, y, z) = 2; omega)
    have ho118 := trA he117
    have h120 : sat g w114 [Drp b (trS S (⟨ta, (x, y, z), wy, an⟩ : At)), R] := dr_close (rw_try hW31 (by omega)) (by rw [ho118.2]) (by rw [ho118.2]) ho118.1.symm (by rw [ho118.2]) (by rw [ho118.1, List.length_append]; rfl) (tk5 (sf4 (sf4 (sf4 (sf2 (sf4 h115))))))
    exact en (iV 0) [] ⟨_, _, rfl, ⟨by rw [he117], rfl⟩, h120⟩
   refine go [.v 8 4 (qnT ((stOf S.A (x, y, z))) 2)] ?_
   have he121 : trE S (⟨ta, (x, y, z), wy, an⟩ : At) = 8 := trE_state (by omega) cb21 (by show ¬ stOf S.A (x, y, z) = 2; omega)
   have h122 : sat g w22 [Drp b (trS S (⟨ta, (x, y, z), wy, an⟩ : At)), Cl r10 [iV ta, iV x, iV y, uV z, iV wy, iV an] 33, R] := by rw [trS_no he121 (by decide)]; exact h23
   exact en (iV 8) [] ⟨_, _, rfl, ⟨by rw [he121], rfl⟩, (tk2 (sf1 (sf2 h122)))⟩
  refine go [.v 5 8 (⟨.bool ((gget S.O (x, y, z)).isSome), .bool false, (ov_b cb21)⟩)] ?_
  have he124 : trE S (⟨ta, (x, y, z), wy, an⟩ : At) = 5 := trE_none (by omega) cb21
  have h125 : sat g w19 [Drp b (trS S (⟨ta, (x, y, z), wy, an⟩ : At)), Cl r10 [iV ta, iV x, iV y, uV z, iV wy, iV an] 33, R] := by rw [trS_no he124 (by decide)]; exact h20
  exact en (iV 5) [] ⟨_, _, rfl, ⟨by rw [he124], rfl⟩, (tk2 (sf1 (sf2 h125)))⟩
 refine go [.v 3 2 (qnT ((attE ⟨ta, (x, y, z), wy, an⟩)) 0)] ?_
 have he127 : trE S (⟨ta, (x, y, z), wy, an⟩ : At) = 2 := trE_arg (by omega)
 have h128 : sat g w16 [Drp b (trS S (⟨ta, (x, y, z), wy, an⟩ : At)), Cl r10 [iV ta, iV x, iV y, uV z, iV wy, iV an] 33, R] := by rw [trS_no he127 (by decide)]; exact h17
 exact en (iV 2) [] ⟨_, _, rfl, ⟨by rw [he127], rfl⟩, (tk2 (sf1 (sf2 h128)))⟩

end Go.Proofs.YtfoliffeieeihaaGreatDoor

/- Walks, printed by my generator z6.py. -/
namespace Go.Proofs.YtfoliffeieeihaaGreatDoor
theorem qd6e31_neq_t {n : Nat} {l : Fr} {o : Oper} {x y : Operand} (a0 : Int) (a1 : Int) (a2 : Int) (c0 : Int) (c1 : Int) (c2 : Int) (ho : o.op = .binOp .neq 31 x y 31) (hx : fe n l x = .agg #[.int .i64 a0, .int .i64 a1, .int .u32 a2]) (hy : fe n l y = .agg #[.int .i64 c0, .int .i64 c1, .int .u32 c2]) (h : a0 = c0 ∧ a1 = c1 ∧ a2 = c2) (w : World) : (execOp (fe n l) o).run Tryz.prog w = .ok (.value (.bool false)) w := by
  obtain ⟨rfl, rfl, rfl⟩ := h
  simp [execOp, ho, hx, hy, go_sem]
theorem qd6e31_neq_f {n : Nat} {l : Fr} {o : Oper} {x y : Operand} (a0 : Int) (a1 : Int) (a2 : Int) (c0 : Int) (c1 : Int) (c2 : Int) (ho : o.op = .binOp .neq 31 x y 31) (hx : fe n l x = .agg #[.int .i64 a0, .int .i64 a1, .int .u32 a2]) (hy : fe n l y = .agg #[.int .i64 c0, .int .i64 c1, .int .u32 c2]) (h : ¬ (a0 = c0 ∧ a1 = c1 ∧ a2 = c2)) (w : World) : (execOp (fe n l) o).run Tryz.prog w = .ok (.value (.bool true)) w := by
  by_cases h0 : a0 = c0
  · skip
    by_cases h1 : a1 = c1
    · skip
      by_cases h2 : a2 = c2
      · exact absurd ⟨h0, h1, h2⟩ h
      · simp [execOp, ho, hx, hy, go_sem, h0, h1, h2]
    · simp [execOp, ho, hx, hy, go_sem, h0, h1]
  · simp [execOp, ho, hx, hy, go_sem, h0]
theorem ky3n {a b : Ky} (h : a = b) : a.1 = b.1 ∧ a.2.1 = b.2.1 ∧ a.2.2 = b.2.2 := by rw [h]; exact ⟨rfl, rfl, rfl⟩
set_option maxHeartbeats 4000000 in
theorem dall_ht (b : Nat) (S : Rp) : HT Tryz.prog 17 [pV b] [Drp b S] (fun v K => ∃ (p : Option Addr) (c : Nat), (lks S).length ≤ 4294967296 ∧ v = .slice p (lks S).length c ∧ K = [Sl 75 6 p (lks S).length c (fl eLk (lks S)), Drp b S]) := by
 refine hiS Tryz.func17 Tryz.ntmps17 fun g w0 R h0 => go [] ?_
 have h10 : sat g w0 [Sl 75 6 none 0 0 (fl eLk []), Drp b S, R] := sl_nil 75 6 h0
 have hal_ := (dr_w (j := 1) h10 rfl).al
 refine lpS (fun mz_ a w => ∃ i : Nat, ∃ p2 : Option Addr, ∃ m2 : Nat, ∃ c2 : Nat, ∃ lr : Fr, mz_ = S.A.length - i ∧ (i ≤ S.A.length) ∧ (m2 ≤ i) ∧ ((lksN S i).length = m2) ∧ a = mk 76 (([(0, pV b), (3, .slice p2 m2 c2), (4, iV (i : Int))] : Fr) ++ lr) ∧ sat g w [Drp b S, Sl 75 6 p2 m2 c2 (fl eLk (lksN S i)), R]) (S.A.length - 0) ⟨0, none, 0, 0, _, rfl, (Nat.zero_le _), (Nat.zero_le _), rfl, (lvF [.k 0 (pV b), .k 3 (.slice none 0 0), .o 4 (oJ .i64 0 (0 : Int))]), (tk3 (sf2 (sf1 (sf2 h10))))⟩ ?_
 rintro m13 a14 w15 ⟨i, p2, m2, c2, lr12, rfl, hi_, hm_, hl_, rfl, h16⟩
 refine ga <| go [] <| cl1 Tryz.call33 (dval_ht b S) h16 fun w17 h18 => ?_
 obtain ⟨pO19, cO20, pT21, cT22, pL23, cL24, hW25, h26⟩ := dr_open h18
 have hk27 := hW25.al; have hk27b := hW25.le
 refine go [rd 3 7 0 3 1 h26, .s 3 9] ?_
 by_cases c28 : (i : Int) < ((S.A.length : Nat) : Int)
 ·
  obtain ⟨b29, hp30⟩ := sl_ptr0 (j := 3) h26 rfl (by omega)
  refine go [.v 3 9 (oT ((i : Int) < ((S.A.length : Nat) : Int))), rd 5 3 0 3 1 h26, .s 5 5] <| lwP (.pointer (some ⟨b29, i * 6, none⟩)) (law_indexSlP (x := (Operand.tmp 26)) (i := (Operand.tmp 27)) (p := pL23) (b := b29) (off := 0) (z := (i : Int)) (len := S.A.length) (cap := cL24) (by kernel_rfl) Tryz.underlying53 6 (by kernel_rfl) i (by kernel_rfl) hp30 (by kernel_rfl) (by omega) (by omega) (i * 6) (by omega) _) ?_
  obtain ⟨x31, hx32⟩ : ∃ x, S.A[i]? = some x := ⟨_, List.getElem?_eq_getElem (by omega)⟩
  refine go [.r 5 6 b29 (i * 6) [iV x31.at_, iV x31.out.1, iV x31.out.2.1, uV x31.out.2.2, iV x31.why, iV x31.ans] ⟨gv_cell (j := 3) h26 rfl (gv_sl _ _ _) hp30 (fl_get eAt_ok (j := 0) (v := iV x31.at_) hx32 rfl) (i * 6) (by omega), gv_cell (j := 3) h26 rfl (gv_sl _ _ _) hp30 (fl_get eAt_ok (j := 1) (v := iV x31.out.1) hx32 rfl) (i * 6 + 1) (by omega), gv_cell (j := 3) h26 rfl (gv_sl _ _ _) hp30 (fl_get eAt_ok (j := 2) (v := iV x31.out.2.1) hx32 rfl) (i * 6 + 2) (by omega), gv_cell (j := 3) h26 rfl (gv_sl _ _ _) hp30 (fl_get eAt_ok (j := 3) (v := uV x31.out.2.2) hx32 rfl) (i * 6 + 3) (by omega), gv_cell (j := 3) h26 rfl (gv_sl _ _ _) hp30 (fl_get eAt_ok (j := 4) (v := iV x31.why) hx32 rfl) (i * 6 + 4) (by omega), gv_cell (j := 3) h26 rfl (gv_sl _ _ _) hp30 (fl_get eAt_ok (j := 5) (v := iV x31.ans) hx32 rfl) (i * 6 + 5) (by omega), trivial⟩] <| nP 33 [iV 0, iV 0, iV 0, uV 0, iV 0, iV 0] h26 (fun r33 _ h35 => ?_)
  refine sP [(0, iV x31.at_), (1, iV x31.out.1), (2, iV x31.out.2.1), (3, uV x31.out.2.2), (4, iV x31.why), (5, iV x31.ans)] [iV x31.at_, iV x31.out.1, iV x31.out.2.1, uV x31.out.2.2, iV x31.why, iV x31.ans] h35 fun w36 h37 => go [] ?_
  have h39 : sat g w36 [Drp b S, Cl r33 [iV x31.at_, iV x31.out.1, iV x31.out.2.1, uV x31.out.2.2, iV x31.why, iV x31.ans] 33, Sl 75 6 p2 m2 c2 (fl eLk (lksN S i)), R] := dr_close hW25 rfl rfl rfl rfl rfl (tk7 (sf6 (sf6 (sf6 (sf6 (sf2 (sf6 (sf6 h37))))))))
  refine lpS (fun mz_ a w => ∃ k : Nat, ∃ f_ : Bool, ∃ lr : Fr, mz_ = i - k ∧ (k ≤ i) ∧ (f_ = isF S.A k x31) ∧ a = mk 76 (([(0, pV b), (3, .slice p2 m2 c2), (4, iV (i : Int)), (5, pV r33), (6, .bool (f_)), (7, iV (k : Int))] : Fr) ++ lr) ∧ sat g w [Drp b S, Sl 75 6 p2 m2 c2 (fl eLk (lksN S i)), Cl r33 [iV x31.at_, iV x31.out.1, iV x31.out.2.1, uV x31.out.2.2, iV x31.why, iV x31.ans] 33, R]) (i - 0) ⟨0, true, _, rfl, (Nat.zero_le _), rfl, (lvF [.k 0 (pV b), .k 3 (.slice p2 m2 c2), .k 4 (iV (i : Int)), .k 5 (pV r33), .k 6 (.bool (true)), .o 7 (oJ .i64 0 (0 : Int))]), (tk4 (sf3 (sf3 (sf2 (sf3 h39)))))⟩ ?_
  rintro m42 a43 w44 ⟨k, f_, lr41, rfl, hk_, hf_, rfl, h45⟩
  refine ga ?_
  cases f_
  ·
   refine go [.s 8 2] ?_
   by_cases c46 : (k : Int) < (i : Int)
   ·
    refine go [.v 8 2 (oT ((k : Int) < (i : Int)))] <| dw (fls [0, 1, 2, 3, 4, 5, 6, 7, 8, 9, 10, 11, 12, 13, 14] Tr.nil) h45 fun _ h48 => go [.v 9 1 (oIr ((k : Int) + 1))] ?_
    refine enL ?_
    change ∃ n', n' < _ ∧ _
    refine ⟨(i - (k + 1)), by omega, (k + 1), false, _, rfl, (by omega), (if_f hf_), (lvF [.k 0 (pV b), .k 3 (.slice p2 m2 c2), .k 4 (iV (i : Int)), .k 5 (pV r33), .k 6 (.bool (false)), .o 7 (oJ .i64 ((k : Int) + 1) ((((k + 1) : Nat) : Int)))]), h48⟩
   refine go [.v 8 2 (oF ((k : Int) < (i : Int)))] <| up ?_
   have hf0_ := hf_; rw [show k = i from by omega] at hf0_
   refine go [.v 4 1 (oIr ((i : Int) + 1))] ?_
   refine enL ?_
   have h50 : sat g w44 [Sl 75 6 p2 m2 c2 (fl eLk (lksN S (i + 1))), Drp b S, Cl r33 [iV x31.at_, iV x31.out.1, iV x31.out.2.1, uV x31.out.2.2, iV x31.why, iV x31.ans] 33, R] := sat_imp (tk4 (sf3 (sf2 (sf3 (sf3 h45))))) (fun _ hh_ => by rw [lksN_n hx32 (fun q_ => by rw [← hf0_] at q_; exact absurd q_.1 (by decide))]; exact hh_)
   have hl51 := fl_n eLk_ok (by decide) h50
   have h53 := tk3 (tk4 (sf3 (sf2 (sf3 (sf2 h50)))))
   change ∃ n', n' < _ ∧ _
   refine ⟨(S.A.length - (i + 1)), by omega, (i + 1), p2, m2, c2, _, rfl, (by omega), (by omega), hl51, (lvF [.k 0 (pV b), .k 3 (.slice p2 m2 c2), .o 4 (oJ .i64 ((i : Int) + 1) ((((i + 1) : Nat) : Int)))]), h53⟩
  refine go [.s 8 2] ?_
  by_cases c54 : (k : Int) < (i : Int)
  ·
   refine go [.v 8 2 (oT ((k : Int) < (i : Int)))] <| dw (fls [0, 1, 2, 3, 4, 5, 6, 7, 8, 9, 10, 11, 12, 13, 14] Tr.nil) h45 fun w55 h56 => ?_
   obtain ⟨pO57, cO58, pT59, cT60, pL61, cL62, hW63, h64⟩ := dr_open h56
   have hk65 := hW63.al; have hk65b := hW63.le
   obtain ⟨b66, hp67⟩ := sl_ptr0 (j := 3) h64 rfl (by omega)
   refine go [rd 10 5 0 3 1 h64, .s 10 7] <| lw (.pointer (some ⟨b66, k * 6, none⟩)) (fun _ => law_indexSlP (x := (Operand.tmp 40)) (i := (Operand.tmp 41)) (p := pL61) (b := b66) (off := 0) (z := (k : Int)) (len := S.A.length) (cap := cL62) (by kernel_rfl) Tryz.underlying53 6 (by kernel_rfl) k (by kernel_rfl) hp67 (by kernel_rfl) (by omega) (by omega) (k * 6) (by omega) _) ?_
   obtain ⟨x68, hx69⟩ : ∃ x, S.A[k]? = some x := ⟨_, List.getElem?_eq_getElem (by omega)⟩
   refine go [.r 10 9 b66 (k * 6 + 1) [iV x68.out.1, iV x68.out.2.1, uV x68.out.2.2] ⟨gv_cell (j := 3) h64 rfl (gv_sl _ _ _) hp67 (fl_get eAt_ok (j := 1) (v := iV x68.out.1) hx69 rfl) (k * 6 + 1) (by omega), gv_cell (j := 3) h64 rfl (gv_sl _ _ _) hp67 (fl_get eAt_ok (j := 2) (v := iV x68.out.2.1) hx69 rfl) (k * 6 + 2) (by omega), gv_cell (j := 3) h64 rfl (gv_sl _ _ _) hp67 (fl_get eAt_ok (j := 3) (v := uV x68.out.2.2) hx69 rfl) (k * 6 + 3) (by omega), trivial⟩, rd 10 11 5 1 3 h64, .s 10 12] ?_
   by_cases c70 : x68.out.1 = x31.out.1
   ·
    by_cases c71 : x68.out.2.1 = x31.out.2.1
    ·
     by_cases c72 : x68.out.2.2 = x31.out.2.2
     ·
      refine lw (.bool false) (fun _ => qd6e31_neq_t (x := (Operand.tmp 44)) (y := (Operand.tmp 46)) x68.out.1 x68.out.2.1 x68.out.2.2 x31.out.1 x31.out.2.1 x31.out.2.2 (by kernel_rfl) (by kernel_rfl) (by kernel_rfl) ⟨(by omega), (by omega), (by omega)⟩ _) <| go [.v 9 1 (oIr ((k : Int) + 1))] ?_
      refine enL ?_
      have h73 : sat g w55 [Drp b S, Sl 75 6 p2 m2 c2 (fl eLk (lksN S i)), Cl r33 [iV x31.at_, iV x31.out.1, iV x31.out.2.1, uV x31.out.2.2, iV x31.why, iV x31.ans] 33, R] := dr_close hW63 rfl rfl rfl rfl rfl h64
      change ∃ n', n' < _ ∧ _
      refine ⟨(i - (k + 1)), by omega, (k + 1), false, _, rfl, (by omega), (if_e hx69 (ky3 (by omega) (by omega) (by omega))).symm, (lvF [.k 0 (pV b), .k 3 (.slice p2 m2 c2), .k 4 (iV (i : Int)), .k 5 (pV r33), .k 6 (.bool (false)), .o 7 (oJ .i64 ((k : Int) + 1) ((((k + 1) : Nat) : Int)))]), h73⟩
     refine lw (.bool true) (fun _ => qd6e31_neq_f (x := (Operand.tmp 44)) (y := (Operand.tmp 46)) x68.out.1 x68.out.2.1 x68.out.2.2 x31.out.1 x31.out.2.1 x31.out.2.2 (by kernel_rfl) (by kernel_rfl) (by kernel_rfl) (by omega) _) <| go [.v 9 1 (oIr ((k : Int) + 1))] ?_
     refine enL ?_
     have h74 : sat g w55 [Drp b S, Sl 75 6 p2 m2 c2 (fl eLk (lksN S i)), Cl r33 [iV x31.at_, iV x31.out.1, iV x31.out.2.1, uV x31.out.2.2, iV x31.why, iV x31.ans] 33, R] := dr_close hW63 rfl rfl rfl rfl rfl h64
     change ∃ n', n' < _ ∧ _
     refine ⟨(i - (k + 1)), by omega, (k + 1), true, _, rfl, (by omega), (hf_.trans (if_n hx69 (fun e_ => by have q_ := ky3n e_; omega)).symm), (lvF [.k 0 (pV b), .k 3 (.slice p2 m2 c2), .k 4 (iV (i : Int)), .k 5 (pV r33), .k 6 (.bool (true)), .o 7 (oJ .i64 ((k : Int) + 1) ((((k + 1) : Nat) : Int)))]), h74⟩
    refine lw (.bool true) (fun _ => qd6e31_neq_f (x := (Operand.tmp 44)) (y := (Operand.tmp 46)) x68.out.1 x68.out.2.1 x68.out.2.2 x31.out.1 x31.out.2.1 x31.out.2.2 (by kernel_rfl) (by kernel_rfl) (by kernel_rfl) (by omega) _) <| go [.v 9 1 (oIr ((k : Int) + 1))] ?_
    refine enL ?_
    have h75 : sat g w55 [Drp b S, Sl 75 6 p2 m2 c2 (fl eLk (lksN S i)), Cl r33 [iV x31.at_, iV x31.out.1, iV x31.out.2.1, uV x31.out.2.2, iV x31.why, iV x31.ans] 33, R] := dr_close hW63 rfl rfl rfl rfl rfl h64
    change ∃ n', n' < _ ∧ _
    refine ⟨(i - (k + 1)), by omega, (k + 1), true, _, rfl, (by omega), (hf_.trans (if_n hx69 (fun e_ => by have q_ := ky3n e_; omega)).symm), (lvF [.k 0 (pV b), .k 3 (.slice p2 m2 c2), .k 4 (iV (i : Int)), .k 5 (pV r33), .k 6 (.bool (true)), .o 7 (oJ .i64 ((k : Int) + 1) ((((k + 1) : Nat) : Int)))]), h75⟩
   refine lw (.bool true) (fun _ => qd6e31_neq_f (x := (Operand.tmp 44)) (y := (Operand.tmp 46)) x68.out.1 x68.out.2.1 x68.out.2.2 x31.out.1 x31.out.2.1 x31.out.2.2 (by kernel_rfl) (by kernel_rfl) (by kernel_rfl) (by omega) _) <| go [.v 9 1 (oIr ((k : Int) + 1))] ?_
   refine enL ?_
   have h76 : sat g w55 [Drp b S, Sl 75 6 p2 m2 c2 (fl eLk (lksN S i)), Cl r33 [iV x31.at_, iV x31.out.1, iV x31.out.2.1, uV x31.out.2.2, iV x31.why, iV x31.ans] 33, R] := dr_close hW63 rfl rfl rfl rfl rfl h64
   change ∃ n', n' < _ ∧ _
   refine ⟨(i - (k + 1)), by omega, (k + 1), true, _, rfl, (by omega), (hf_.trans (if_n hx69 (fun e_ => by have q_ := ky3n e_; omega)).symm), (lvF [.k 0 (pV b), .k 3 (.slice p2 m2 c2), .k 4 (iV (i : Int)), .k 5 (pV r33), .k 6 (.bool (true)), .o 7 (oJ .i64 ((k : Int) + 1) ((((k + 1) : Nat) : Int)))]), h76⟩
  refine go [.v 8 2 (oF ((k : Int) < (i : Int)))] <| up ?_
  have hf1_ := hf_; rw [show k = i from by omega] at hf1_
  replace hf1_ := hf1_.symm
  refine go [rd 11 3 2 4 1 h45, .s 11 4] ?_
  by_cases c77 : x31.why = 3
  ·
   refine go [.v 11 4 (qeT x31.why 3), rd 12 2 2 1 3 h45] <| cl1 Tryz.call36 (dtagO_ht b S x31.out.1 x31.out.2.1 x31.out.2.2) h45 fun _ h79 => go [.s 12 8] ?_
   rcases Bool.eq_false_or_eq_true ((gget S.O (x31.out.1, x31.out.2.1, x31.out.2.2)).isSome) with cb80 | cb80
   ·
    refine go [.v 12 8 (⟨.bool ((gget S.O (x31.out.1, x31.out.2.1, x31.out.2.2)).isSome), .bool true, (ov_b cb80)⟩)] <| dw (fls [0, 1, 2, 3, 4, 5, 6, 7, 8] (Tr.an 9 (Tr.fl 10 (Tr.an 11 (Tr.an 12 (Tr.fl 13 Tr.nil)))))) h79 fun _ h82 => go [rd 13 3 2 1 3 h82, rd 13 5 2 0 1 h82, rd 13 8 2 1 3 h82] <| cw1 Tryz.call39 (dst_ht b S x31.out.1 x31.out.2.1 x31.out.2.2) h82 fun _ h84 => ⟨kd [rd 0 5 2 0 1 h84, rd 0 3 2 1 3 h84], ?_⟩
    refine go [] <| nG (fun q_ => .slice (some ⟨q_, 0, none⟩) 1 1) 75 [.string (St (tagO S (x31.out.1, x31.out.2.1, x31.out.2.2))), iV x31.out.1, iV x31.out.2.1, uV x31.out.2.2, iV x31.at_, iV ((stOf S.A (x31.out.1, x31.out.2.1, x31.out.2.2)))] h84 (fun r85 _ h87 => ⟨kd [], ?_⟩)
    have h88 := tk5 (sf4 (sf3 (sf3 (sf4 (sf4 h87)))))
    refine actG ?_
    refine an_append (d := 74) (sz := 6) (s := (Operand.tmp 62)) (x := (Operand.tmp 73)) (z := .agg #[.string (St []), iV 0, iV 0, uV 0, iV 0, iV 0]) (p := p2) (m := m2) (c := c2) (k := 1) (c2 := 1) (a := ⟨r85, 0, none⟩) (by_ := 56) (by kernel_rfl) (by kernel_rfl) rfl Tryz.underlying42 (by kernel_rfl) rfl (by decide) (by kernel_rfl) (by kernel_rfl) h88 (fl eLk [(⟨(tagO S (x31.out.1, x31.out.2.1, x31.out.2.2)), (x31.out.1, x31.out.2.1, x31.out.2.2), x31.at_, (stOf S.A (x31.out.1, x31.out.2.1, x31.out.2.2))⟩ : Lk)]) rfl (fun j u hj => by rw [add_off]; exact sat_cell h88 1 rfl (by rw [Nat.zero_add]; exact hj)) (fl_one eLk_ok _) (by omega) (by omega) (m2 + 1) (by omega) ?_
    intro p89 cap90 w91 h92
    have h93 : sat g w91 [Sl 75 6 p89 (m2 + 1) cap90 (fl eLk ((lksN S i) ++ [(⟨(tagO S (x31.out.1, x31.out.2.1, x31.out.2.2)), (x31.out.1, x31.out.2.1, x31.out.2.2), x31.at_, (stOf S.A (x31.out.1, x31.out.2.1, x31.out.2.2))⟩ : Lk)])), Cl r85 [.string (St (tagO S (x31.out.1, x31.out.2.1, x31.out.2.2))), iV x31.out.1, iV x31.out.2.1, uV x31.out.2.2, iV x31.at_, iV ((stOf S.A (x31.out.1, x31.out.2.1, x31.out.2.2)))] 75, Drp b S, Cl r33 [iV x31.at_, iV x31.out.1, iV x31.out.2.1, uV x31.out.2.2, iV x31.why, iV x31.ans] 33, R] := sat_imp h92 (fun _ hh => by rw [fl_app]; exact hh)
    obtain ⟨hn94, hn95⟩ := sl_le h93
    refine ⟨kd [], nxG ?_⟩
    refine go [.v 4 1 (oIr ((i : Int) + 1))] ?_
    refine enL ?_
    have h96 : sat g w91 [Sl 75 6 p89 (m2 + 1) cap90 (fl eLk (lksN S (i + 1))), Cl r85 [.string (St (tagO S (x31.out.1, x31.out.2.1, x31.out.2.2))), iV x31.out.1, iV x31.out.2.1, uV x31.out.2.2, iV x31.at_, iV ((stOf S.A (x31.out.1, x31.out.2.1, x31.out.2.2)))] 75, Drp b S, Cl r33 [iV x31.at_, iV x31.out.1, iV x31.out.2.1, uV x31.out.2.2, iV x31.why, iV x31.ans] 33, R] := sat_imp h93 (fun _ hh_ => by rw [lksN_y hx32 hf1_ (by omega)]; exact hh_)
    have hl97 := fl_n eLk_ok (by decide) h96
    have h99 := tk3 (tk5 (sf4 (sf3 (sf4 (sf2 (sf3 h96))))))
    change ∃ n', n' < _ ∧ _
    refine ⟨(S.A.length - (i + 1)), by omega, (i + 1), p89, m2 + 1, cap90, _, rfl, (by omega), (by omega), hl97, (lvF [.k 0 (pV b), .k 3 (.slice p89 (m2 + 1) cap90), .o 4 (oJ .i64 ((i : Int) + 1) ((((i + 1) : Nat) : Int)))]), h99⟩
   refine go [.v 12 8 (⟨.bool ((gget S.O (x31.out.1, x31.out.2.1, x31.out.2.2)).isSome), .bool false, (ov_b cb80)⟩)] <| dw (fls [0, 1, 2, 3, 4, 5, 6, 7, 8] (Tr.an 9 (Tr.fl 10 (Tr.an 11 (Tr.an 12 (Tr.fl 13 Tr.nil)))))) h79 fun _ h101 => go [rd 13 3 2 1 3 h101, rd 13 5 2 0 1 h101, rd 13 8 2 1 3 h101] <| cw1 Tryz.call39 (dst_ht b S x31.out.1 x31.out.2.1 x31.out.2.2) h101 fun _ h103 => ⟨kd [rd 0 5 2 0 1 h103, rd 0 3 2 1 3 h103], ?_⟩
   refine go [] <| nG (fun q_ => .slice (some ⟨q_, 0, none⟩) 1 1) 75 [.string (St (tagO S (x31.out.1, x31.out.2.1, x31.out.2.2))), iV x31.out.1, iV x31.out.2.1, uV x31.out.2.2, iV x31.at_, iV ((stOf S.A (x31.out.1, x31.out.2.1, x31.out.2.2)))] h103 (fun r104 _ h106 => ⟨kd [], ?_⟩)
   have h107 := tk5 (sf4 (sf3 (sf3 (sf4 (sf4 h106)))))
   refine actG ?_
   refine an_append (d := 74) (sz := 6) (s := (Operand.tmp 62)) (x := (Operand.tmp 73)) (z := .agg #[.string (St []), iV 0, iV 0, uV 0, iV 0, iV 0]) (p := p2) (m := m2) (c := c2) (k := 1) (c2 := 1) (a := ⟨r104, 0, none⟩) (by_ := 56) (by kernel_rfl) (by kernel_rfl) rfl Tryz.underlying42 (by kernel_rfl) rfl (by decide) (by kernel_rfl) (by kernel_rfl) h107 (fl eLk [(⟨(tagO S (x31.out.1, x31.out.2.1, x31.out.2.2)), (x31.out.1, x31.out.2.1, x31.out.2.2), x31.at_, (stOf S.A (x31.out.1, x31.out.2.1, x31.out.2.2))⟩ : Lk)]) rfl (fun j u hj => by rw [add_off]; exact sat_cell h107 1 rfl (by rw [Nat.zero_add]; exact hj)) (fl_one eLk_ok _) (by omega) (by omega) (m2 + 1) (by omega) ?_
   intro p108 cap109 w110 h111
   have h112 : sat g w110 [Sl 75 6 p108 (m2 + 1) cap109 (fl eLk ((lksN S i) ++ [(⟨(tagO S (x31.out.1, x31.out.2.1, x31.out.2.2)), (x31.out.1, x31.out.2.1, x31.out.2.2), x31.at_, (stOf S.A (x31.out.1, x31.out.2.1, x31.out.2.2))⟩ : Lk)])), Cl r104 [.string (St (tagO S (x31.out.1, x31.out.2.1, x31.out.2.2))), iV x31.out.1, iV x31.out.2.1, uV x31.out.2.2, iV x31.at_, iV ((stOf S.A (x31.out.1, x31.out.2.1, x31.out.2.2)))] 75, Drp b S, Cl r33 [iV x31.at_, iV x31.out.1, iV x31.out.2.1, uV x31.out.2.2, iV x31.why, iV x31.ans] 33, R] := sat_imp h111 (fun _ hh => by rw [fl_app]; exact hh)
   obtain ⟨hn113, hn114⟩ := sl_le h112
   refine ⟨kd [], nxG ?_⟩
   refine go [.v 4 1 (oIr ((i : Int) + 1))] ?_
   refine enL ?_
   have h115 : sat g w110 [Sl 75 6 p108 (m2 + 1) cap109 (fl eLk (lksN S (i + 1))), Cl r104 [.string (St (tagO S (x31.out.1, x31.out.2.1, x31.out.2.2))), iV x31.out.1, iV x31.out.2.1, uV x31.out.2.2, iV x31.at_, iV ((stOf S.A (x31.out.1, x31.out.2.1, x31.out.2.2)))] 75, Drp b S, Cl r33 [iV x31.at_, iV x31.out.1, iV x31.out.2.1, uV x31.out.2.2, iV x31.why, iV x31.ans] 33, R] := sat_imp h112 (fun _ hh_ => by rw [lksN_y hx32 hf1_ (by omega)]; exact hh_)
   have hl116 := fl_n eLk_ok (by decide) h115
   have h118 := tk3 (tk5 (sf4 (sf3 (sf4 (sf2 (sf3 h115))))))
   change ∃ n', n' < _ ∧ _
   refine ⟨(S.A.length - (i + 1)), by omega, (i + 1), p108, m2 + 1, cap109, _, rfl, (by omega), (by omega), hl116, (lvF [.k 0 (pV b), .k 3 (.slice p108 (m2 + 1) cap109), .o 4 (oJ .i64 ((i : Int) + 1) ((((i + 1) : Nat) : Int)))]), h118⟩
  refine go [.v 11 4 (qeF x31.why 3), .v 4 1 (oIr ((i : Int) + 1))] ?_
  refine enL ?_
  have h120 : sat g w44 [Sl 75 6 p2 m2 c2 (fl eLk (lksN S (i + 1))), Drp b S, Cl r33 [iV x31.at_, iV x31.out.1, iV x31.out.2.1, uV x31.out.2.2, iV x31.why, iV x31.ans] 33, R] := sat_imp (tk4 (sf3 (sf2 (sf3 (sf3 h45))))) (fun _ hh_ => by rw [lksN_n hx32 (fun q_ => by have e_ := q_.2; omega)]; exact hh_)
  have hl121 := fl_n eLk_ok (by decide) h120
  have h123 := tk3 (tk4 (sf3 (sf2 (sf3 (sf2 h120)))))
  change ∃ n', n' < _ ∧ _
  refine ⟨(S.A.length - (i + 1)), by omega, (i + 1), p2, m2, c2, _, rfl, (by omega), (by omega), hl121, (lvF [.k 0 (pV b), .k 3 (.slice p2 m2 c2), .o 4 (oJ .i64 ((i : Int) + 1) ((((i + 1) : Nat) : Int)))]), h123⟩
 refine go [.v 3 9 (oF ((i : Int) < ((S.A.length : Nat) : Int)))] <| up <| go [] ?_
 have h124 : sat g w17 [Drp b S, Sl 75 6 p2 m2 c2 (fl eLk (lksN S i)), R] := dr_close hW25 rfl rfl rfl rfl rfl h26
 have h125 := tk3 (sf2 (sf1 (sf2 h124)))
 have hi2_ : i = S.A.length := by omega
 have hl2_ : (lks S).length = m2 := by rw [hi2_] at hl_; exact hl_
 have h126 : sat g w17 [Sl 75 6 p2 m2 c2 (fl eLk (lks S)), Drp b S, R] := sat_imp h125 (fun _ hh_ => by rw [hi2_] at hh_; exact hh_)
 exact en (.slice p2 m2 c2) [] ⟨_, [Sl 75 6 p2 m2 c2 (fl eLk (lks S)), Drp b S], rfl, ⟨p2, c2, by omega, by rw [hl2_], (by rw [hl2_])⟩, h126⟩

set_option maxHeartbeats 4000000 in
theorem dlen_ht (b : Nat) (S : Rp) : HT Tryz.prog 19 [pV b] [Drp b S] (fun v K => v = iV ((((lks S).length : Nat) : Int)) ∧ K = [Drp b S]) := by
 refine hiS Tryz.func19 Tryz.ntmps19 fun g w0 R h0 => go [] <| cP Tryz.call17 (dall_ht b S) h0 ?_
 rintro v K _ (⟨p10, cap11, hl12, rfl, rfl⟩) h14
 have h15 := ap2 h14
 obtain ⟨hn16, hn17⟩ := sl_le h15
 refine go [] ?_
 exact en (iV ((((lks S).length : Nat) : Int))) [] ⟨_, _, rfl, ⟨rfl, rfl⟩, (tk2 (sf1 (sf2 (tk3 (sf2 (sf1 (sf2 h15)))))))⟩

set_option maxHeartbeats 4000000 in
theorem dcnt_ht (b : Nat) (S : Rp) (t : List UInt8) : HT Tryz.prog 21 [pV b, .string (St t)] [Drp b S] (fun v K => v = iV ((((cntL (lks S) t) : Nat) : Int)) ∧ K = [Drp b S]) := by
 refine hiS Tryz.func21 Tryz.ntmps21 fun g w0 R h0 => go [] <| cP Tryz.call17 (dall_ht b S) h0 ?_
 rintro v K _ (⟨p10, cap11, hl12, rfl, rfl⟩) h14
 have h15 := ap2 h14
 obtain ⟨hn16, hn17⟩ := sl_le h15
 refine go [] ?_
 refine lpS (fun mz_ a w => ∃ i : Nat, ∃ z_ : Nat, ∃ lr : Fr, mz_ = (lks S).length - i ∧ (i ≤ (lks S).length) ∧ (z_ = cntL ((lks S).take i) t) ∧ a = mk 26 (([(1, .string (St t)), (5, iV (z_ : Int)), (6, .slice p10 (((lks S).length)) cap11), (7, iV (i : Int))] : Fr) ++ lr) ∧ sat g w [Sl 75 6 p10 (((lks S).length)) cap11 (fl eLk (lks S)), Drp b S, R]) ((lks S).length - 0) ⟨0, 0, _, rfl, (Nat.zero_le _), rfl, (lvF [.k 1 (.string (St t)), .o 5 (oJ .i64 0 (0 : Int)), .k 6 (.slice p10 (((lks S).length)) cap11), .o 7 (oJ .i64 0 (0 : Int))]), h15⟩ ?_
 rintro m19 a20 w21 ⟨i, z_, lr18, rfl, hi_, hz_, rfl, h22⟩
 refine ga ?_
 have hzc_ := ctl_le (lks S) i t
 have hz2_ : z_ ≤ 4294967296 := by omega
 refine go [.s 4 3] ?_
 by_cases c23 : (i : Int) < (((lks S).length : Nat) : Int)
 ·
  obtain ⟨b24, hp25⟩ := sl_ptr0 (j := 0) h22 rfl (by omega)
  refine go [.v 4 3 (oT ((i : Int) < (((lks S).length : Nat) : Int))), .s 6 2] <| lwP (.pointer (some ⟨b24, i * 6, none⟩)) (law_indexSlP (x := (Operand.tmp 16)) (i := (Operand.tmp 17)) (p := p10) (b := b24) (off := 0) (z := (i : Int)) (len := (((lks S).length))) (cap := cap11) (by kernel_rfl) Tryz.underlying42 6 (by kernel_rfl) i (by kernel_rfl) hp25 (by kernel_rfl) (by omega) (by omega) (i * 6) (by omega) _) ?_
  obtain ⟨x26, hx27⟩ : ∃ x, (lks S)[i]? = some x := ⟨_, List.getElem?_eq_getElem (by omega)⟩
  refine go [.r 6 4 b24 (i * 6) [.string (St x26.tag)] ⟨gv_cell (j := 0) h22 rfl (gv_sl _ _ _) hp25 (fl_get eLk_ok (j := 0) (v := .string (St x26.tag)) hx27 rfl) (i * 6) (by omega), trivial⟩, .s 6 6] ?_
  by_cases cs28 : x26.tag = (t : List UInt8)
  ·
   refine lwP (.bool true) (law_eqStr (t := 9) (x := (Operand.tmp 20)) (y := (Operand.tmp 21)) (a := x26.tag) (b := t) (by kernel_rfl) (by kernel_rfl) (by kernel_rfl) true (decide_eq_true cs28) _) <| go [.v 7 1 (oIr ((z_ : Int) + 1)), .v 5 1 (oIr ((i : Int) + 1))] ?_
   refine enL ?_
   have hc29 := cnt_y hx27 cs28
   change ∃ n', n' < _ ∧ _
   refine ⟨((lks S).length - (i + 1)), by omega, (i + 1), (z_ + 1), _, rfl, (by omega), (by omega), (lvF [.k 1 (.string (St t)), .o 5 (oJ .i64 ((z_ : Int) + 1) ((((z_ + 1) : Nat) : Int))), .k 6 (.slice p10 (((lks S).length)) cap11), .o 7 (oJ .i64 ((i : Int) + 1) ((((i + 1) : Nat) : Int)))]), h22⟩
  refine lwP (.bool false) (law_eqStr (t := 9) (x := (Operand.tmp 20)) (y := (Operand.tmp 21)) (a := x26.tag) (b := t) (by kernel_rfl) (by kernel_rfl) (by kernel_rfl) false (decide_eq_false cs28) _) <| go [.v 5 1 (oIr ((i : Int) + 1))] ?_
  refine enL ?_
  have hc30 := cnt_n hx27 cs28
  change ∃ n', n' < _ ∧ _
  refine ⟨((lks S).length - (i + 1)), by omega, (i + 1), z_, _, rfl, (by omega), (by omega), (lvF [.k 1 (.string (St t)), .k 5 (iV (z_ : Int)), .k 6 (.slice p10 (((lks S).length)) cap11), .o 7 (oJ .i64 ((i : Int) + 1) ((((i + 1) : Nat) : Int)))]), h22⟩
 refine go [.v 4 3 (oF ((i : Int) < (((lks S).length : Nat) : Int)))] <| up <| go [] ?_
 exact en (iV (z_ : Int)) [] ⟨_, _, rfl, ⟨by rw [hz_, List.take_of_length_le (by omega)], rfl⟩, (tk2 (sf1 (sf2 (tk3 (sf2 (sf1 (sf2 h22)))))))⟩

end Go.Proofs.YtfoliffeieeihaaGreatDoor
