/- Walks, printed by my generator z10.py. -/
import Derived.Test.YtfoliffeieeihaaGreatDoorBundle42
import Derived.Test.YtfoliffeieeihaaGreatDoorLzP
import Derived.Test.YtfoliffeieeihaaGreatDoorFrm
import Derived.Test.YtfoliffeieeihaaGreatDoorBundle35
import Derived.Test.YtfoliffeieeihaaGreatDoorLkF
namespace Go.Proofs.YtfoliffeieeihaaGreatDoor
theorem qd10e31_neq_t {n : Nat} {l : Fr} {o : Oper} {x y : Operand} (a0 : Int) (a1 : Int) (a2 : Int) (c0 : Int) (c1 : Int) (c2 : Int) (ho : o.op = .binOp .neq 31 x y 31) (hx : fe n l x = .agg #[.int .i64 a0, .int .i64 a1, .int .u32 a2]) (hy : fe n l y = .agg #[.int .i64 c0, .int .i64 c1, .int .u32 c2]) (h : a0 = c0 ∧ a1 = c1 ∧ a2 = c2) (w : World) : (execOp (fe n l) o).run Tryz.prog w = .ok (.value (.bool false)) w := by
  obtain ⟨rfl, rfl, rfl⟩ := h
  simp [execOp, ho, hx, hy, go_sem]
set_option maxHeartbeats 4000000 in
theorem lsame_ht (p1 p2 : Option Addr) (c1 c2 : Nat) (L : List Lk) (hm : L.length ≤ 4294967296) : HT Tryz.prog 15 [.slice p1 L.length c1, .slice p2 L.length c2] [Sl 61 6 p1 L.length c1 (fl eLk L), Sl 75 6 p2 L.length c2 (fl eLk L)] (fun v K => v = .bool true ∧ K = [Sl 61 6 p1 L.length c1 (fl eLk L), Sl 75 6 p2 L.length c2 (fl eLk L)]) := by
 refine hiS Tryz.func15 Tryz.ntmps15 fun g w0 R h0 => go [.v 1 4 (qnF (((L.length : Nat) : Int)) (((L.length : Nat) : Int)))] ?_
 refine lpS (fun mz_ a w => ∃ i : Nat, ∃ lr : Fr, mz_ = L.length - i ∧ (i ≤ L.length) ∧ a = mk 67 (([(0, .slice p1 L.length c1), (1, .slice p2 L.length c2), (5, iV (i : Int))] : Fr) ++ lr) ∧ sat g w [Sl 61 6 p1 L.length c1 (fl eLk L), Sl 75 6 p2 L.length c2 (fl eLk L), R]) (L.length - 0) ⟨0, _, rfl, (Nat.zero_le _), (lvF [.k 0 (.slice p1 L.length c1), .k 1 (.slice p2 L.length c2), .o 5 (oJ .i64 0 (0 : Int))]), h0⟩ ?_
 rintro m11 a12 w13 ⟨i, lr10, rfl, hi_, rfl, h14⟩
 refine ga <| go [.s 4 3] ?_
 by_cases c15 : (i : Int) < ((L.length : Nat) : Int)
 ·
  refine go [.v 4 3 (oT ((i : Int) < ((L.length : Nat) : Int)))] <| dw (fls [0, 1, 2, 3, 4, 5, 6, 7, 8, 9, 10, 11, 12, 13, 14, 15, 16, 17, 18, 19, 20, 21, 22, 23, 24, 25, 26, 27, 28, 29, 30, 31, 32, 33, 34, 35, 36, 37, 38, 39, 40, 41, 42, 43, 44, 45, 46, 47, 48, 49] Tr.nil) h14 fun _ h17 => ?_
  obtain ⟨b18, hp19⟩ := sl_ptr0 (j := 0) h17 rfl (by omega)
  refine go [.s 6 2] <| lw (.pointer (some ⟨b18, i * 6, none⟩)) (fun _ => law_indexSlP (x := (Operand.tmp 17)) (i := (Operand.tmp 18)) (p := p1) (b := b18) (off := 0) (z := (i : Int)) (len := L.length) (cap := c1) (by kernel_rfl) Tryz.underlying40 6 (by kernel_rfl) i (by kernel_rfl) hp19 (by kernel_rfl) (by omega) (by omega) (i * 6) (by omega) _) ?_
  obtain ⟨x20, hx21⟩ : ∃ x, L[i]? = some x := ⟨_, List.getElem?_eq_getElem (by omega)⟩
  obtain ⟨b22, hp23⟩ := sl_ptr0 (j := 1) h17 rfl (by omega)
  refine go [.r 6 4 b18 (i * 6) [.string (St x20.tag)] ⟨gv_cell (j := 0) h17 rfl (gv_sl _ _ _) hp19 (fl_get eLk_ok (j := 0) (v := .string (St x20.tag)) hx21 rfl) (i * 6) (by omega), trivial⟩, .s 6 7] <| lw (.pointer (some ⟨b22, i * 6, none⟩)) (fun _ => law_indexSlP (x := (Operand.tmp 22)) (i := (Operand.tmp 23)) (p := p2) (b := b22) (off := 0) (z := (i : Int)) (len := L.length) (cap := c2) (by kernel_rfl) Tryz.underlying42 6 (by kernel_rfl) i (by kernel_rfl) hp23 (by kernel_rfl) (by omega) (by omega) (i * 6) (by omega) _) <| go [.r 6 9 b22 (i * 6) [.string (St x20.tag)] ⟨gv_cell (j := 1) h17 rfl (gv_sl _ _ _) hp23 (fl_get eLk_ok (j := 0) (v := .string (St x20.tag)) hx21 rfl) (i * 6) (by omega), trivial⟩, .s 6 10] <| lw (.bool false) (fun _ => law_neStr (t := 9) (x := (Operand.tmp 21)) (y := (Operand.tmp 26)) (a := x20.tag) (b := x20.tag) (by kernel_rfl) (by kernel_rfl) (by kernel_rfl) false (decide_eq_true rfl) _) <| go [.s 6 14] <| lw (.pointer (some ⟨b18, i * 6, none⟩)) (fun _ => law_indexSlP (x := (Operand.tmp 29)) (i := (Operand.tmp 30)) (p := p1) (b := b18) (off := 0) (z := (i : Int)) (len := L.length) (cap := c1) (by kernel_rfl) Tryz.underlying40 6 (by kernel_rfl) i (by kernel_rfl) hp19 (by kernel_rfl) (by omega) (by omega) (i * 6) (by omega) _) <| go [.r 6 16 b18 (i * 6 + 1) [iV x20.out.1, iV x20.out.2.1, uV x20.out.2.2] ⟨gv_cell (j := 0) h17 rfl (gv_sl _ _ _) hp19 (fl_get eLk_ok (j := 1) (v := iV x20.out.1) hx21 rfl) (i * 6 + 1) (by omega), gv_cell (j := 0) h17 rfl (gv_sl _ _ _) hp19 (fl_get eLk_ok (j := 2) (v := iV x20.out.2.1) hx21 rfl) (i * 6 + 2) (by omega), gv_cell (j := 0) h17 rfl (gv_sl _ _ _) hp19 (fl_get eLk_ok (j := 3) (v := uV x20.out.2.2) hx21 rfl) (i * 6 + 3) (by omega), trivial⟩, .s 6 19] <| lw (.pointer (some ⟨b22, i * 6, none⟩)) (fun _ => law_indexSlP (x := (Operand.tmp 34)) (i := (Operand.tmp 35)) (p := p2) (b := b22) (off := 0) (z := (i : Int)) (len := L.length) (cap := c2) (by kernel_rfl) Tryz.underlying42 6 (by kernel_rfl) i (by kernel_rfl) hp23 (by kernel_rfl) (by omega) (by omega) (i * 6) (by omega) _) <| go [.r 6 21 b22 (i * 6 + 1) [iV x20.out.1, iV x20.out.2.1, uV x20.out.2.2] ⟨gv_cell (j := 1) h17 rfl (gv_sl _ _ _) hp23 (fl_get eLk_ok (j := 1) (v := iV x20.out.1) hx21 rfl) (i * 6 + 1) (by omega), gv_cell (j := 1) h17 rfl (gv_sl _ _ _) hp23 (fl_get eLk_ok (j := 2) (v := iV x20.out.2.1) hx21 rfl) (i * 6 + 2) (by omega), gv_cell (j := 1) h17 rfl (gv_sl _ _ _) hp23 (fl_get eLk_ok (j := 3) (v := uV x20.out.2.2) hx21 rfl) (i * 6 + 3) (by omega), trivial⟩, .s 6 22] <| lw (.bool false) (fun _ => qd10e31_neq_t (x := (Operand.tmp 33)) (y := (Operand.tmp 38)) x20.out.1 x20.out.2.1 x20.out.2.2 x20.out.1 x20.out.2.1 x20.out.2.2 (by kernel_rfl) (by kernel_rfl) (by kernel_rfl) ⟨rfl, rfl, rfl⟩ _) <| go [.s 6 27] <| lw (.pointer (some ⟨b18, i * 6, none⟩)) (fun _ => law_indexSlP (x := (Operand.tmp 42)) (i := (Operand.tmp 43)) (p := p1) (b := b18) (off := 0) (z := (i : Int)) (len := L.length) (cap := c1) (by kernel_rfl) Tryz.underlying40 6 (by kernel_rfl) i (by kernel_rfl) hp19 (by kernel_rfl) (by omega) (by omega) (i * 6) (by omega) _) <| go [.r 6 29 b18 (i * 6 + 4) [iV x20.at_] ⟨gv_cell (j := 0) h17 rfl (gv_sl _ _ _) hp19 (fl_get eLk_ok (j := 4) (v := iV x20.at_) hx21 rfl) (i * 6 + 4) (by omega), trivial⟩, .s 6 32] ?_
  refine lw (.pointer (some ⟨b22, i * 6, none⟩)) (fun _ => law_indexSlP (x := (Operand.tmp 47)) (i := (Operand.tmp 48)) (p := p2) (b := b22) (off := 0) (z := (i : Int)) (len := L.length) (cap := c2) (by kernel_rfl) Tryz.underlying42 6 (by kernel_rfl) i (by kernel_rfl) hp23 (by kernel_rfl) (by omega) (by omega) (i * 6) (by omega) _) <| go [.r 6 34 b22 (i * 6 + 4) [iV x20.at_] ⟨gv_cell (j := 1) h17 rfl (gv_sl _ _ _) hp23 (fl_get eLk_ok (j := 4) (v := iV x20.at_) hx21 rfl) (i * 6 + 4) (by omega), trivial⟩, .v 6 35 (qnF x20.at_ x20.at_), .s 6 40] <| lw (.pointer (some ⟨b18, i * 6, none⟩)) (fun _ => law_indexSlP (x := (Operand.tmp 55)) (i := (Operand.tmp 56)) (p := p1) (b := b18) (off := 0) (z := (i : Int)) (len := L.length) (cap := c1) (by kernel_rfl) Tryz.underlying40 6 (by kernel_rfl) i (by kernel_rfl) hp19 (by kernel_rfl) (by omega) (by omega) (i * 6) (by omega) _) <| go [.r 6 42 b18 (i * 6 + 5) [iV x20.st] ⟨gv_cell (j := 0) h17 rfl (gv_sl _ _ _) hp19 (fl_get eLk_ok (j := 5) (v := iV x20.st) hx21 rfl) (i * 6 + 5) (by omega), trivial⟩, .s 6 45] <| lw (.pointer (some ⟨b22, i * 6, none⟩)) (fun _ => law_indexSlP (x := (Operand.tmp 60)) (i := (Operand.tmp 61)) (p := p2) (b := b22) (off := 0) (z := (i : Int)) (len := L.length) (cap := c2) (by kernel_rfl) Tryz.underlying42 6 (by kernel_rfl) i (by kernel_rfl) hp23 (by kernel_rfl) (by omega) (by omega) (i * 6) (by omega) _) <| go [.r 6 47 b22 (i * 6 + 5) [iV x20.st] ⟨gv_cell (j := 1) h17 rfl (gv_sl _ _ _) hp23 (fl_get eLk_ok (j := 5) (v := iV x20.st) hx21 rfl) (i * 6 + 5) (by omega), trivial⟩, .v 6 48 (qnF x20.st x20.st), .v 5 1 (oIr ((i : Int) + 1))] ?_
  refine enL ?_
  change ∃ n', n' < _ ∧ _
  refine ⟨(L.length - (i + 1)), by omega, (i + 1), _, rfl, (by omega), (lvF [.k 0 (.slice p1 L.length c1), .k 1 (.slice p2 L.length c2), .o 5 (oJ .i64 ((i : Int) + 1) ((((i + 1) : Nat) : Int)))]), h17⟩
 refine go [.v 4 3 (oF ((i : Int) < ((L.length : Nat) : Int)))] <| up <| go [] ?_
 exact en (.bool true) [] ⟨_, _, rfl, ⟨rfl, rfl⟩, h14⟩

end Go.Proofs.YtfoliffeieeihaaGreatDoor

/- Walks, printed by my generator ../leak/l20.py. -/
namespace Go.Proofs.YtfoliffeieeihaaGreatDoor
set_option maxHeartbeats 4000000 in
theorem from_ht (X : Assn) (p1 : Option Addr) (n1 c1 : Nat) (Os : List Ky) (G1 : Gv X p1 n1 (fl eO Os)) (L1 : Os.length = n1) (p2 : Option Addr) (n2 c2 : Nat) (Ts : List (List UInt8)) (G2 : Gv X p2 n2 (fl eW Ts)) (L2 : Ts.length = n2) (p3 : Option Addr) (n3 c3 : Nat) (As : List At) (G3 : Gv X p3 n3 (fl eAt As)) (L3 : As.length = n3) (hO : ∀ o ∈ Os, 0 ≤ o.2.2 ∧ o.2.2 ≤ 4294967295) (hW : ∀ t ∈ Ts, t.length ≤ 1099511627776) (hA : ∀ a ∈ As, 0 ≤ a.out.2.2 ∧ a.out.2.2 ≤ 4294967295) (hn1 : n1 ≤ 1099511627776) (hn3 : n3 ≤ 4000000000) : HT Tryz.prog 27 [.slice p1 n1 c1, .slice p2 n2 c2, .slice p3 n3 c3] [X] (fun v K => ∃ (p : Option Addr) (c : Nat), (frL Os Ts As).length ≤ 2000 ∧ v = .tuple #[.slice p (frL Os Ts As).length c, iV (frE Os Ts As)] ∧ K = [Sl 61 6 p (frL Os Ts As).length c (fl eLk (frL Os Ts As)), X]) := by
 refine hiS Tryz.func27 Tryz.ntmps27 fun g w0 R h0 => go [.s 1 4] ?_
 by_cases c10 : (n1 : Int) = (n2 : Int)
 ·
  refine go [.v 1 4 (qnF (n1 : Int) (n2 : Int))] <| cP Tryz.call7 (rnew0_ht) h0 ?_
  rintro v K w12 (⟨b11, rfl, rfl⟩) h13
  have h14 := ap1 h13
  refine go [] ?_
  have h15 : sat g w12 [Rpt b11 (opN Os Ts 0), X, R] := h14
  refine lpS (fun mz_ a w => ∃ i : Nat, ∃ lr : Fr, mz_ = n1 - i ∧ (i ≤ n1) ∧ (opF Os Ts i = 0) ∧ a = mk 54 (([(1, .slice p2 n2 c2), (2, .slice p3 n3 c3), (8, pV b11), (21, .slice p1 n1 c1), (22, iV (n1 : Int)), (23, iV (i : Int))] : Fr) ++ lr) ∧ sat g w [Rpt b11 (opN Os Ts i), X, R]) (n1 - 0) ⟨0, _, rfl, (Nat.zero_le _), rfl, (lvF [.k 1 (.slice p2 n2 c2), .k 2 (.slice p3 n3 c3), .k 8 (pV b11), .k 21 (.slice p1 n1 c1), .k 22 (iV (n1 : Int)), .o 23 (oJ .i64 0 (0 : Int))]), h15⟩ ?_
  rintro m17 a18 w19 ⟨i, lr16, rfl, hi_, he_, rfl, h20⟩
  refine ga <| go [.s 5 0] ?_
  by_cases c21 : (i : Int) < (n1 : Int)
  ·
   obtain ⟨b22, off24, hp23⟩ := gv_ptr (j := 1) h20 rfl G1 (by omega)
   refine go [.v 5 0 (oT ((i : Int) < (n1 : Int))), .s 6 1] <| lwP (.pointer (some ⟨b22, off24 + i * 3, none⟩)) (law_indexSlP (x := (Operand.tmp 21)) (i := (Operand.tmp 23)) (p := p1) (b := b22) (off := off24) (z := (i : Int)) (len := n1) (cap := c1) (by kernel_rfl) Tryz.underlying52 3 (by kernel_rfl) i (by kernel_rfl) hp23 (by kernel_rfl) (by omega) (by omega) (off24 + i * 3) (by omega) _) ?_
   obtain ⟨x25, hx26⟩ : ∃ x, Os[i]? = some x := ⟨_, List.getElem?_eq_getElem (by rw [L1]; omega)⟩
   have hm27 := hO _ (List.mem_of_getElem? hx26); have hm27a := hm27.1; have hm27b := hm27.2
   refine go [.r 6 2 b22 (off24 + i * 3) [iV x25.1, iV x25.2.1, uV x25.2.2] ⟨gv_cell (j := 1) h20 rfl G1 hp23 (fl_get eO_ok (j := 0) (v := iV x25.1) hx26 rfl) (off24 + i * 3) (by omega), gv_cell (j := 1) h20 rfl G1 hp23 (fl_get eO_ok (j := 1) (v := iV x25.2.1) hx26 rfl) (off24 + i * 3 + 1) (by omega), gv_cell (j := 1) h20 rfl G1 hp23 (fl_get eO_ok (j := 2) (v := uV x25.2.2) hx26 rfl) (off24 + i * 3 + 2) (by omega), trivial⟩] <| nP 31 [iV 0, iV 0, uV 0] h20 (fun r28 _ h30 => ?_)
   refine go [] <| sP [(0, iV x25.1), (1, iV x25.2.1), (2, uV x25.2.2)] [iV x25.1, iV x25.2.1, uV x25.2.2] h30 fun _ h32 => go [] <| dw (fls [0, 1, 2, 3, 4, 5] (Tr.an 6 (Tr.fl 7 Tr.nil))) h32 fun _ h34 => ?_
   obtain ⟨b35, off37, hp36⟩ := gv_ptr (j := 2) h34 rfl G2 (by omega)
   refine go [rd 7 1 0 0 3 h34, .s 7 4] <| lw (.pointer (some ⟨b35, off37 + i, none⟩)) (fun _ => law_indexSlP (x := (Operand.tmp 30)) (i := (Operand.tmp 31)) (p := p2) (b := b35) (off := off37) (z := (i : Int)) (len := n2) (cap := c2) (by kernel_rfl) Tryz.underlying49 1 (by kernel_rfl) i (by kernel_rfl) hp36 (by kernel_rfl) (by omega) (by omega) (off37 + i) (by omega) _) ?_
   obtain ⟨x38, hx39⟩ : ∃ x, Ts[i]? = some x := ⟨_, List.getElem?_eq_getElem (by rw [L2]; omega)⟩
   have hm40 := hW _ (List.mem_of_getElem? hx39)
   have h41 := tk4 (sf3 (sf2 (sf3 (sf3 h34))))
   refine go [.r 7 5 b35 (off37 + i) [.string (St x38)] ⟨gv_cell (j := 2) h34 rfl G2 hp36 (fl_get eW_ok (j := 0) (v := .string (St x38)) hx39 rfl) (off37 + i) (by omega), trivial⟩] <| cw1 Tryz.call9 (ropen_ht b11 (opN Os Ts i) x25.1 x25.2.1 x25.2.2 x38 (by omega) (by omega) (by omega)) h41 fun w42 h43 => ⟨kd [], ?_⟩
   refine go [.s 8 1] ?_
   by_cases c44 : (opdE (opN Os Ts i) (x25.1, x25.2.1, x25.2.2) x38) = 0
   ·
    refine go [.v 8 1 (qnF ((opdE (opN Os Ts i) (x25.1, x25.2.1, x25.2.2) x38)) 0), .v 10 0 (oIr ((i : Int) + 1))] ?_
    refine enL ?_
    have h45 : sat g w42 [Rpt b11 (opN Os Ts (i + 1)), Cl r28 [iV x25.1, iV x25.2.1, uV x25.2.2] 31, X, R] := by rw [opN_s hx26 hx39]; exact h43
    have h47 := tk3 (tk4 (sf3 (sf3 (sf3 (sf1 h45)))))
    change ∃ n', n' < _ ∧ _
    refine ⟨(n1 - (i + 1)), by omega, (i + 1), _, rfl, (by omega), ((opF_s hx26 hx39 he_).trans (by omega)), (lvF [.k 1 (.slice p2 n2 c2), .k 2 (.slice p3 n3 c3), .k 8 (pV b11), .k 21 (.slice p1 n1 c1), .k 22 (iV (n1 : Int)), .o 23 (oJ .i64 ((i : Int) + 1) ((((i + 1) : Nat) : Int)))]), h47⟩
   refine go [.v 8 1 (qnT ((opdE (opN Os Ts i) (x25.1, x25.2.1, x25.2.2) x38)) 0)] <| up <| go [] ?_
   have hf48 := fr_op (As := As) L1 (show Os.length = Ts.length from by omega) (show i < n1 from by omega) (opF_s hx26 hx39 he_) (by omega)
   have h49 : sat g w42 [Sl 61 6 none 0 0 (fl eLk []), Rpt b11 (opdS (opN Os Ts i) (x25.1, x25.2.1, x25.2.2) x38), Cl r28 [iV x25.1, iV x25.2.1, uV x25.2.2] 31, X, R] := sl_nil 61 6 h43
   exact en (.tuple #[.slice none 0 0, iV ((opdE (opN Os Ts i) (x25.1, x25.2.1, x25.2.2) x38))]) [] ⟨_, [Sl 61 6 none 0 0 (fl eLk []), X], rfl, ⟨none, 0, by rw [hf48.2]; exact Nat.zero_le _, by rw [hf48.1, hf48.2]; rfl, (by rw [hf48.2]; exact rfl)⟩, (tk3 (sf2 (sf2 (sf4 (tk5 (sf4 (sf4 (sf3 (sf3 (sf4 h49))))))))))⟩
  refine go [.v 5 0 (oF ((i : Int) < (n1 : Int)))] <| up <| go [] ?_
  have heq_ : i = n1 := by omega
  have hE1_ : opF Os Ts n1 = 0 := by rw [← heq_]; exact he_
  have h52 : sat g w19 [Rpt b11 (trN (opN Os Ts n1) As 0), X, R] := by rw [show trN (opN Os Ts n1) As 0 = opN Os Ts i from by rw [heq_]; rfl]; exact h20
  refine lpS (fun mz_ a w => ∃ i : Nat, ∃ lr : Fr, mz_ = n3 - i ∧ (i ≤ n3) ∧ (trF (opN Os Ts n1) As i = 0) ∧ a = mk 54 (([(8, pV b11), (39, .slice p3 n3 c3), (40, iV (n3 : Int)), (41, iV (i : Int))] : Fr) ++ lr) ∧ sat g w [Rpt b11 (trN (opN Os Ts n1) As i), X, R]) (n3 - 0) ⟨0, _, rfl, (Nat.zero_le _), rfl, (lvF [.k 8 (pV b11), .k 39 (.slice p3 n3 c3), .k 40 (iV (n3 : Int)), .o 41 (oJ .i64 0 (0 : Int))]), h52⟩ ?_
  rintro m54 a55 w56 ⟨i, lr53, rfl, hi_, he_, rfl, h57⟩
  refine ga <| go [.s 12 0] ?_
  by_cases c58 : (i : Int) < (n3 : Int)
  ·
   obtain ⟨b59, off61, hp60⟩ := gv_ptr (j := 1) h57 rfl G3 (by omega)
   refine go [.v 12 0 (oT ((i : Int) < (n3 : Int))), .s 13 0] <| lwP (.pointer (some ⟨b59, off61 + i * 6, none⟩)) (law_indexSlP (x := (Operand.tmp 39)) (i := (Operand.tmp 41)) (p := p3) (b := b59) (off := off61) (z := (i : Int)) (len := n3) (cap := c3) (by kernel_rfl) Tryz.underlying53 6 (by kernel_rfl) i (by kernel_rfl) hp60 (by kernel_rfl) (by omega) (by omega) (off61 + i * 6) (by omega) _) ?_
   obtain ⟨x62, hx63⟩ : ∃ x, As[i]? = some x := ⟨_, List.getElem?_eq_getElem (by rw [L3]; omega)⟩
   have hm64 := hA _ (List.mem_of_getElem? hx63); have hm64a := hm64.1; have hm64b := hm64.2
   refine go [.r 13 1 b59 (off61 + i * 6) [iV x62.at_, iV x62.out.1, iV x62.out.2.1, uV x62.out.2.2, iV x62.why, iV x62.ans] ⟨gv_cell (j := 1) h57 rfl G3 hp60 (fl_get eAt_ok (j := 0) (v := iV x62.at_) hx63 rfl) (off61 + i * 6) (by omega), gv_cell (j := 1) h57 rfl G3 hp60 (fl_get eAt_ok (j := 1) (v := iV x62.out.1) hx63 rfl) (off61 + i * 6 + 1) (by omega), gv_cell (j := 1) h57 rfl G3 hp60 (fl_get eAt_ok (j := 2) (v := iV x62.out.2.1) hx63 rfl) (off61 + i * 6 + 2) (by omega), gv_cell (j := 1) h57 rfl G3 hp60 (fl_get eAt_ok (j := 3) (v := uV x62.out.2.2) hx63 rfl) (off61 + i * 6 + 3) (by omega), gv_cell (j := 1) h57 rfl G3 hp60 (fl_get eAt_ok (j := 4) (v := iV x62.why) hx63 rfl) (off61 + i * 6 + 4) (by omega), gv_cell (j := 1) h57 rfl G3 hp60 (fl_get eAt_ok (j := 5) (v := iV x62.ans) hx63 rfl) (off61 + i * 6 + 5) (by omega), trivial⟩] <| nP 33 [iV 0, iV 0, iV 0, uV 0, iV 0, iV 0] h57 (fun r65 _ h67 => ?_)
   refine sP [(0, iV x62.at_), (1, iV x62.out.1), (2, iV x62.out.2.1), (3, uV x62.out.2.2), (4, iV x62.why), (5, iV x62.ans)] [iV x62.at_, iV x62.out.1, iV x62.out.2.1, uV x62.out.2.2, iV x62.why, iV x62.ans] h67 fun _ h69 => ?_
   have h70 := tk4 (sf3 (sf2 (sf3 (sf3 h69))))
   refine go [rd 14 1 0 0 6 h69] <| cl1 Tryz.call11 (rtry_ht b11 (trN (opN Os Ts n1) As i) x62.at_ x62.out.1 x62.out.2.1 x62.out.2.2 x62.why x62.ans (by omega) (by omega) (by have h3_ := trN_op (Os := Os) (Ts := Ts) (As := As) i (n := n1); omega)) h70 fun w71 h72 => ?_
   refine go [.s 15 1] ?_
   by_cases c73 : (trE (trN (opN Os Ts n1) As i) (⟨x62.at_, (x62.out.1, x62.out.2.1, x62.out.2.2), x62.why, x62.ans⟩ : At)) = 0
   ·
    refine go [.v 15 1 (qnF ((trE (trN (opN Os Ts n1) As i) (⟨x62.at_, (x62.out.1, x62.out.2.1, x62.out.2.2), x62.why, x62.ans⟩ : At))) 0), .v 17 0 (oIr ((i : Int) + 1))] ?_
    refine enL ?_
    have h74 : sat g w71 [Rpt b11 (trN (opN Os Ts n1) As (i + 1)), Cl r65 [iV x62.at_, iV x62.out.1, iV x62.out.2.1, uV x62.out.2.2, iV x62.why, iV x62.ans] 33, X, R] := by rw [trN_s hx63]; exact h72
    have h76 := tk3 (tk4 (sf3 (sf3 (sf3 (sf1 h74)))))
    change ∃ n', n' < _ ∧ _
    refine ⟨(n3 - (i + 1)), by omega, (i + 1), _, rfl, (by omega), ((trF_s hx63 he_).trans (by omega)), (lvF [.k 8 (pV b11), .k 39 (.slice p3 n3 c3), .k 40 (iV (n3 : Int)), .o 41 (oJ .i64 ((i : Int) + 1) ((((i + 1) : Nat) : Int)))]), h76⟩
   refine go [.v 15 1 (qnT ((trE (trN (opN Os Ts n1) As i) (⟨x62.at_, (x62.out.1, x62.out.2.1, x62.out.2.2), x62.why, x62.ans⟩ : At))) 0)] <| up <| go [] ?_
   have hf77 := fr_tr L1 L3 (show Os.length = Ts.length from by omega) hE1_ (show i < n3 from by omega) (trF_s hx63 he_) (by omega)
   have h78 : sat g w71 [Sl 61 6 none 0 0 (fl eLk []), Rpt b11 (trS (trN (opN Os Ts n1) As i) (⟨x62.at_, (x62.out.1, x62.out.2.1, x62.out.2.2), x62.why, x62.ans⟩ : At)), Cl r65 [iV x62.at_, iV x62.out.1, iV x62.out.2.1, uV x62.out.2.2, iV x62.why, iV x62.ans] 33, X, R] := sl_nil 61 6 h72
   exact en (.tuple #[.slice none 0 0, iV ((trE (trN (opN Os Ts n1) As i) (⟨x62.at_, (x62.out.1, x62.out.2.1, x62.out.2.2), x62.why, x62.ans⟩ : At)))]) [] ⟨_, [Sl 61 6 none 0 0 (fl eLk []), X], rfl, ⟨none, 0, by rw [hf77.2]; exact Nat.zero_le _, by rw [hf77.1, hf77.2]; rfl, (by rw [hf77.2]; exact rfl)⟩, (tk3 (sf2 (sf2 (sf4 (tk5 (sf4 (sf4 (sf3 (sf3 (sf4 h78))))))))))⟩
  refine go [.v 12 0 (oF ((i : Int) < (n3 : Int)))] <| up <| go [] <| cP Tryz.call16 (all_ht b11 (trN (opN Os Ts n1) As i)) h57 ?_
  rintro v K _ (⟨p81, cap82, hl83, rfl, rfl⟩) h85
  have h86 := ap2 h85
  obtain ⟨hn87, hn88⟩ := sl_le h86
  refine go [] ?_
  have heq2_ : i = n3 := by omega
  subst heq2_
  have hf89 := fr_ok (As := As) L1 L3 (show Os.length = Ts.length from by omega) hE1_ he_
  exact en (.tuple #[.slice p81 (((lks (trN (opN Os Ts n1) As i)).length)) cap82, iV 0]) [] ⟨_, [Sl 61 6 p81 (((lks (trN (opN Os Ts n1) As i)).length)) cap82 (fl eLk (lks (trN (opN Os Ts n1) As i))), X], rfl, ⟨p81, cap82, by rw [hf89.2]; omega, by rw [hf89.1, hf89.2], (by rw [hf89.2])⟩, (tk3 (sf2 (sf2 (sf3 (tk4 (sf3 (sf3 (sf2 (sf3 h86)))))))))⟩
 refine go [.v 1 4 (qnT (n1 : Int) (n2 : Int))] ?_
 have hf92 := fr_len (As := As) (show Os.length ≠ Ts.length from by omega)
 have h93 : sat g w0 [Sl 61 6 none 0 0 (fl eLk []), X, R] := sl_nil 61 6 h0
 exact en (.tuple #[.slice none 0 0, iV 2]) [] ⟨_, [Sl 61 6 none 0 0 (fl eLk []), X], rfl, ⟨none, 0, by rw [hf92.2]; exact Nat.zero_le _, by rw [hf92.1, hf92.2]; rfl, (by rw [hf92.2]; exact rfl)⟩, h93⟩

end Go.Proofs.YtfoliffeieeihaaGreatDoor
