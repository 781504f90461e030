/- Walks, printed by my generator z7.py. -/
import Derived.Test.YtfoliffeieeihaaGreatDoorBundle42
import Derived.Test.YtfoliffeieeihaaGreatDoorSpt
import Derived.Test.YtfoliffeieeihaaGreatDoorMod
import Derived.Test.YtfoliffeieeihaaGreatDoorLkF
namespace Go.Proofs.YtfoliffeieeihaaGreatDoor
end Go.Proofs.YtfoliffeieeihaaGreatDoor

/- Walks, printed by my generator z8.py. -/
namespace Go.Proofs.YtfoliffeieeihaaGreatDoor
end Go.Proofs.YtfoliffeieeihaaGreatDoor

/- Walks, printed by my generator z9.py. -/
namespace Go.Proofs.YtfoliffeieeihaaGreatDoor
set_option maxHeartbeats 4000000 in
theorem dfrom_ht (X : Assn) (p1 : Option Addr) (n1 c1 : Nat) (Os : List Ky) (G1 : Gv X p1 n1 (fl eO Os)) (L1 : Os.length = n1) (p2 : Option Addr) (n2 c2 : Nat) (Ts : List (List UInt8)) (G2 : Gv X p2 n2 (fl eW Ts)) (L2 : Ts.length = n2) (p3 : Option Addr) (n3 c3 : Nat) (As : List At) (G3 : Gv X p3 n3 (fl eAt As)) (L3 : As.length = n3) (hO : ∀ o ∈ Os, 0 ≤ o.2.2 ∧ o.2.2 ≤ 4294967295) (hW : ∀ t ∈ Ts, t.length ≤ 100000) (hA : ∀ a ∈ As, 0 ≤ a.out.2.2 ∧ a.out.2.2 ≤ 4294967295) (hn1 : n1 ≤ 1099511627776) (hn3 : n3 ≤ 4000000000) : HT Tryz.prog 28 [.slice p1 n1 c1, .slice p2 n2 c2, .slice p3 n3 c3] [X] (fun v K => ∃ (p : Option Addr) (c : Nat), (frL Os Ts As).length ≤ 4294967296 ∧ v = .tuple #[.slice p (frL Os Ts As).length c, iV (frE Os Ts As)] ∧ K = [Sl 75 6 p (frL Os Ts As).length c (fl eLk (frL Os Ts As)), X]) := by
 refine hiS Tryz.func28 Tryz.ntmps28 fun g w0 R h0 => go [.s 1 4] ?_
 by_cases c10 : (n1 : Int) = (n2 : Int)
 ·
  refine go [.v 1 4 (qnF (n1 : Int) (n2 : Int))] <| cP Tryz.call8 (dnew_ht) h0 ?_
  rintro v K w12 (⟨b11, rfl, rfl⟩) h13
  have h14 := ap1 h13
  refine go [] ?_
  have h15 : sat g w12 [Drp b11 (opN Os Ts 0), X, R] := h14
  refine lpS (fun mz_ a w => ∃ i : Nat, ∃ lr : Fr, mz_ = n1 - i ∧ (i ≤ n1) ∧ (opF Os Ts i = 0) ∧ a = mk 55 (([(0, .slice p1 n1 c1), (1, .slice p2 n2 c2), (2, .slice p3 n3 c3), (8, pV b11), (9, iV (i : Int))] : Fr) ++ lr) ∧ sat g w [Drp b11 (opN Os Ts i), X, R]) (n1 - 0) ⟨0, _, rfl, (Nat.zero_le _), rfl, (lvF [.k 0 (.slice p1 n1 c1), .k 1 (.slice p2 n2 c2), .k 2 (.slice p3 n3 c3), .k 8 (pV b11), .o 9 (oJ .i64 0 (0 : Int))]), h15⟩ ?_
  rintro m17 a18 w19 ⟨i, lr16, rfl, hi_, he_, rfl, h20⟩
  refine ga <| go [.s 5 3] ?_
  by_cases c21 : (i : Int) < (n1 : Int)
  ·
   refine go [.v 5 3 (oT ((i : Int) < (n1 : Int)))] <| dw (fls [0, 1, 2, 3, 4, 5, 6, 7, 8] (Tr.an 9 (Tr.fl 10 Tr.nil))) h20 fun _ h23 => ?_
   obtain ⟨b24, off26, hp25⟩ := gv_ptr (j := 1) h23 rfl G1 (by omega)
   refine go [.s 7 3] <| lw (.pointer (some ⟨b24, off26 + i * 3, none⟩)) (fun _ => law_indexSlP (x := (Operand.tmp 26)) (i := (Operand.tmp 27)) (p := p1) (b := b24) (off := off26) (z := (i : Int)) (len := n1) (cap := c1) (by kernel_rfl) Tryz.underlying52 3 (by kernel_rfl) i (by kernel_rfl) hp25 (by kernel_rfl) (by omega) (by omega) (off26 + i * 3) (by omega) _) ?_
   obtain ⟨x27, hx28⟩ : ∃ x, Os[i]? = some x := ⟨_, List.getElem?_eq_getElem (by rw [L1]; omega)⟩
   have hm29 := hO _ (List.mem_of_getElem? hx28); have hm29a := hm29.1; have hm29b := hm29.2
   obtain ⟨b30, off32, hp31⟩ := gv_ptr (j := 1) h23 rfl G2 (by omega)
   refine go [.r 7 4 b24 (off26 + i * 3) [iV x27.1, iV x27.2.1, uV x27.2.2] ⟨gv_cell (j := 1) h23 rfl G1 hp25 (fl_get eO_ok (j := 0) (v := iV x27.1) hx28 rfl) (off26 + i * 3) (by omega), gv_cell (j := 1) h23 rfl G1 hp25 (fl_get eO_ok (j := 1) (v := iV x27.2.1) hx28 rfl) (off26 + i * 3 + 1) (by omega), gv_cell (j := 1) h23 rfl G1 hp25 (fl_get eO_ok (j := 2) (v := uV x27.2.2) hx28 rfl) (off26 + i * 3 + 2) (by omega), trivial⟩, .s 7 7] <| lw (.pointer (some ⟨b30, off32 + i, none⟩)) (fun _ => law_indexSlP (x := (Operand.tmp 30)) (i := (Operand.tmp 31)) (p := p2) (b := b30) (off := off32) (z := (i : Int)) (len := n2) (cap := c2) (by kernel_rfl) Tryz.underlying49 1 (by kernel_rfl) i (by kernel_rfl) hp31 (by kernel_rfl) (by omega) (by omega) (off32 + i) (by omega) _) ?_
   obtain ⟨x33, hx34⟩ : ∃ x, Ts[i]? = some x := ⟨_, List.getElem?_eq_getElem (by rw [L2]; omega)⟩
   have hm35 := hW _ (List.mem_of_getElem? hx34)
   refine go [.r 7 8 b30 (off32 + i) [.string (St x33)] ⟨gv_cell (j := 1) h23 rfl G2 hp31 (fl_get eW_ok (j := 0) (v := .string (St x33)) hx34 rfl) (off32 + i) (by omega), trivial⟩] <| cw1 Tryz.call10 (dopd_ht b11 (opN Os Ts i) x27.1 x27.2.1 x27.2.2 x33 (by omega) (by omega) (by omega)) h23 fun w36 h37 => ⟨kd [], ?_⟩
   refine go [.s 8 1] ?_
   by_cases c38 : (opdE (opN Os Ts i) (x27.1, x27.2.1, x27.2.2) x33) = 0
   ·
    refine go [.v 8 1 (qnF ((opdE (opN Os Ts i) (x27.1, x27.2.1, x27.2.2) x33)) 0), .v 6 1 (oIr ((i : Int) + 1))] ?_
    refine enL ?_
    have h39 : sat g w36 [Drp b11 (opN Os Ts (i + 1)), X, R] := by rw [opN_s hx28 hx34]; exact h37
    change ∃ n', n' < _ ∧ _
    refine ⟨(n1 - (i + 1)), by omega, (i + 1), _, rfl, (by omega), ((opF_s hx28 hx34 he_).trans (by omega)), (lvF [.k 0 (.slice p1 n1 c1), .k 1 (.slice p2 n2 c2), .k 2 (.slice p3 n3 c3), .k 8 (pV b11), .o 9 (oJ .i64 ((i : Int) + 1) ((((i + 1) : Nat) : Int)))]), h39⟩
   refine go [.v 8 1 (qnT ((opdE (opN Os Ts i) (x27.1, x27.2.1, x27.2.2) x33)) 0)] <| up <| go [] ?_
   have hf40 := fr_op (As := As) L1 (show Os.length = Ts.length from by omega) (show i < n1 from by omega) (opF_s hx28 hx34 he_) (by omega)
   have h41 : sat g w36 [Sl 75 6 none 0 0 (fl eLk []), Drp b11 (opdS (opN Os Ts i) (x27.1, x27.2.1, x27.2.2) x33), X, R] := sl_nil 75 6 h37
   exact en (.tuple #[.slice none 0 0, iV ((opdE (opN Os Ts i) (x27.1, x27.2.1, x27.2.2) x33))]) [] ⟨_, [Sl 75 6 none 0 0 (fl eLk []), X], rfl, ⟨none, 0, by rw [hf40.2]; exact Nat.zero_le _, by rw [hf40.1, hf40.2]; rfl, (by rw [hf40.2]; exact rfl)⟩, (tk3 (sf2 (sf2 (sf3 (tk4 (sf3 (sf3 (sf2 (sf3 h41)))))))))⟩
  refine go [.v 5 3 (oF ((i : Int) < (n1 : Int)))] <| up <| go [] ?_
  have heq_ : i = n1 := by omega
  have hE1_ : opF Os Ts n1 = 0 := by rw [← heq_]; exact he_
  have h44 : sat g w19 [Drp b11 (trN (opN Os Ts n1) As 0), X, R] := by rw [show trN (opN Os Ts n1) As 0 = opN Os Ts i from by rw [heq_]; rfl]; exact h20
  refine lpS (fun mz_ a w => ∃ i : Nat, ∃ lr : Fr, mz_ = n3 - i ∧ (i ≤ n3) ∧ (trF (opN Os Ts n1) As i = 0) ∧ a = mk 55 (([(2, .slice p3 n3 c3), (8, pV b11), (11, iV (i : Int))] : Fr) ++ lr) ∧ sat g w [Drp b11 (trN (opN Os Ts n1) As i), X, R]) (n3 - 0) ⟨0, _, rfl, (Nat.zero_le _), rfl, (lvF [.k 2 (.slice p3 n3 c3), .k 8 (pV b11), .o 11 (oJ .i64 0 (0 : Int))]), h44⟩ ?_
  rintro m46 a47 w48 ⟨i, lr45, rfl, hi_, he_, rfl, h49⟩
  refine ga <| go [.s 11 3] ?_
  by_cases c50 : (i : Int) < (n3 : Int)
  ·
   obtain ⟨b51, off53, hp52⟩ := gv_ptr (j := 1) h49 rfl G3 (by omega)
   refine go [.v 11 3 (oT ((i : Int) < (n3 : Int))), .s 13 3] <| lwP (.pointer (some ⟨b51, off53 + i * 6, none⟩)) (law_indexSlP (x := (Operand.tmp 45)) (i := (Operand.tmp 46)) (p := p3) (b := b51) (off := off53) (z := (i : Int)) (len := n3) (cap := c3) (by kernel_rfl) Tryz.underlying53 6 (by kernel_rfl) i (by kernel_rfl) hp52 (by kernel_rfl) (by omega) (by omega) (off53 + i * 6) (by omega) _) ?_
   obtain ⟨x54, hx55⟩ : ∃ x, As[i]? = some x := ⟨_, List.getElem?_eq_getElem (by rw [L3]; omega)⟩
   have hm56 := hA _ (List.mem_of_getElem? hx55); have hm56a := hm56.1; have hm56b := hm56.2
   refine go [.r 13 4 b51 (off53 + i * 6) [iV x54.at_, iV x54.out.1, iV x54.out.2.1, uV x54.out.2.2, iV x54.why, iV x54.ans] ⟨gv_cell (j := 1) h49 rfl G3 hp52 (fl_get eAt_ok (j := 0) (v := iV x54.at_) hx55 rfl) (off53 + i * 6) (by omega), gv_cell (j := 1) h49 rfl G3 hp52 (fl_get eAt_ok (j := 1) (v := iV x54.out.1) hx55 rfl) (off53 + i * 6 + 1) (by omega), gv_cell (j := 1) h49 rfl G3 hp52 (fl_get eAt_ok (j := 2) (v := iV x54.out.2.1) hx55 rfl) (off53 + i * 6 + 2) (by omega), gv_cell (j := 1) h49 rfl G3 hp52 (fl_get eAt_ok (j := 3) (v := uV x54.out.2.2) hx55 rfl) (off53 + i * 6 + 3) (by omega), gv_cell (j := 1) h49 rfl G3 hp52 (fl_get eAt_ok (j := 4) (v := iV x54.why) hx55 rfl) (off53 + i * 6 + 4) (by omega), gv_cell (j := 1) h49 rfl G3 hp52 (fl_get eAt_ok (j := 5) (v := iV x54.ans) hx55 rfl) (off53 + i * 6 + 5) (by omega), trivial⟩] <| cl1 Tryz.call12 (dtry_ht b11 (trN (opN Os Ts n1) As i) x54.at_ x54.out.1 x54.out.2.1 x54.out.2.2 x54.why x54.ans (by omega) (by omega) (by have h3_ := trN_op (Os := Os) (Ts := Ts) (As := As) i (n := n1); omega)) h49 fun w57 h58 => ?_
   refine go [.s 14 1] ?_
   by_cases c59 : (trE (trN (opN Os Ts n1) As i) (⟨x54.at_, (x54.out.1, x54.out.2.1, x54.out.2.2), x54.why, x54.ans⟩ : At)) = 0
   ·
    refine go [.v 14 1 (qnF ((trE (trN (opN Os Ts n1) As i) (⟨x54.at_, (x54.out.1, x54.out.2.1, x54.out.2.2), x54.why, x54.ans⟩ : At))) 0), .v 12 1 (oIr ((i : Int) + 1))] ?_
    refine enL ?_
    have h60 : sat g w57 [Drp b11 (trN (opN Os Ts n1) As (i + 1)), X, R] := by rw [trN_s hx55]; exact h58
    change ∃ n', n' < _ ∧ _
    refine ⟨(n3 - (i + 1)), by omega, (i + 1), _, rfl, (by omega), ((trF_s hx55 he_).trans (by omega)), (lvF [.k 2 (.slice p3 n3 c3), .k 8 (pV b11), .o 11 (oJ .i64 ((i : Int) + 1) ((((i + 1) : Nat) : Int)))]), h60⟩
   refine go [.v 14 1 (qnT ((trE (trN (opN Os Ts n1) As i) (⟨x54.at_, (x54.out.1, x54.out.2.1, x54.out.2.2), x54.why, x54.ans⟩ : At))) 0)] <| up <| go [] ?_
   have hf61 := fr_tr L1 L3 (show Os.length = Ts.length from by omega) hE1_ (show i < n3 from by omega) (trF_s hx55 he_) (by omega)
   have h62 : sat g w57 [Sl 75 6 none 0 0 (fl eLk []), Drp b11 (trS (trN (opN Os Ts n1) As i) (⟨x54.at_, (x54.out.1, x54.out.2.1, x54.out.2.2), x54.why, x54.ans⟩ : At)), X, R] := sl_nil 75 6 h58
   exact en (.tuple #[.slice none 0 0, iV ((trE (trN (opN Os Ts n1) As i) (⟨x54.at_, (x54.out.1, x54.out.2.1, x54.out.2.2), x54.why, x54.ans⟩ : At)))]) [] ⟨_, [Sl 75 6 none 0 0 (fl eLk []), X], rfl, ⟨none, 0, by rw [hf61.2]; exact Nat.zero_le _, by rw [hf61.1, hf61.2]; rfl, (by rw [hf61.2]; exact rfl)⟩, (tk3 (sf2 (sf2 (sf3 (tk4 (sf3 (sf3 (sf2 (sf3 h62)))))))))⟩
  refine go [.v 11 3 (oF ((i : Int) < (n3 : Int)))] <| up <| go [] <| cP Tryz.call17 (dall_ht b11 (trN (opN Os Ts n1) As i)) h49 ?_
  rintro v K _ (⟨p65, cap66, hl67, rfl, rfl⟩) h69
  have h70 := ap2 h69
  obtain ⟨hn71, hn72⟩ := sl_le h70
  refine go [] ?_
  have heq2_ : i = n3 := by omega
  subst heq2_
  have hf73 := fr_ok (As := As) L1 L3 (show Os.length = Ts.length from by omega) hE1_ he_
  exact en (.tuple #[.slice p65 (((lks (trN (opN Os Ts n1) As i)).length)) cap66, iV 0]) [] ⟨_, [Sl 75 6 p65 (((lks (trN (opN Os Ts n1) As i)).length)) cap66 (fl eLk (lks (trN (opN Os Ts n1) As i))), X], rfl, ⟨p65, cap66, by rw [hf73.2]; omega, by rw [hf73.1, hf73.2], (by rw [hf73.2])⟩, (tk3 (sf2 (sf2 (sf3 (tk4 (sf3 (sf3 (sf2 (sf3 h70)))))))))⟩
 refine go [.v 1 4 (qnT (n1 : Int) (n2 : Int))] ?_
 have hf76 := fr_len (As := As) (show Os.length ≠ Ts.length from by omega)
 have h77 : sat g w0 [Sl 75 6 none 0 0 (fl eLk []), X, R] := sl_nil 75 6 h0
 exact en (.tuple #[.slice none 0 0, iV 2]) [] ⟨_, [Sl 75 6 none 0 0 (fl eLk []), X], rfl, ⟨none, 0, by rw [hf76.2]; exact Nat.zero_le _, by rw [hf76.1, hf76.2]; rfl, (by rw [hf76.2]; exact rfl)⟩, h77⟩

end Go.Proofs.YtfoliffeieeihaaGreatDoor
