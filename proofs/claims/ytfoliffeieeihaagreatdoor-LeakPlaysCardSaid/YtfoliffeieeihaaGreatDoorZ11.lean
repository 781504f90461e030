/- Walks, printed by my generator z11.py. -/
import Derived.Test.YtfoliffeieeihaaGreatDoorBundle45
import Derived.Test.YtfoliffeieeihaaGreatDoorBundle47
import Derived.Test.YtfoliffeieeihaaGreatDoorLzQ
namespace Go.Proofs.YtfoliffeieeihaaGreatDoor
theorem dtxs2 (p1 p2 : Option Addr) (c1 c2 : Nat) (T U : List (List UInt8)) (h : T = U) (hm : T.length ≤ 4294967296) : HT Tryz.prog 24 [.slice p1 T.length c1, .slice p2 U.length c2] [Sl 9 1 p1 T.length c1 (fl eW T), Sl 9 1 p2 U.length c2 (fl eW U)] fun v K => v = .bool true ∧ K = [Sl 9 1 p1 T.length c1 (fl eW T), Sl 9 1 p2 U.length c2 (fl eW U)] := by
  subst h
  exact dtxs_ht p1 p2 c1 c2 T hm
theorem tg_len {S : Rp} {T : List (List UInt8)} (h : Tg S T) : T.length ≤ (lks S).length := by
  have := (tg_sum h)
  have e : ∀ U : List (List UInt8), (∀ t ∈ U, 1 ≤ cntL (lks S) t) → U.length ≤ sumC (lks S) U := fun U => by
    induction U with
    | nil => intro _; exact Nat.zero_le _
    | cons t U ih =>
      intro hu
      have h1 := hu t (by simp)
      have h2 := ih fun q hq => hu q (by simp [hq])
      rw [List.length_cons, sumC_cons]
      omega
  have h2 := e T fun t ht => by
    obtain ⟨j, hj, rfl⟩ := List.mem_iff_getElem.1 ht
    exact (tg_one_le h (List.getElem?_eq_getElem hj)).1
  omega

set_option maxHeartbeats 4000000 in
theorem short_ht (wo : World) (p0 : Option Addr) (n cp : Nat) (T : List Stq) (hr : Rd wo p0 n (fl eSq T)) (hT : T.length = n) : HT Tryz.prog 5 [.slice p0 n cp, iV 100] [Old wo] (fun v K => v = .bool (shB T) ∧ K = [Old wo]) := by
 refine hiS Tryz.func5 Tryz.ntmps5 fun g w0 R h0 => go [.s 1 3] ?_
 by_cases c10 : (n : Int) > 100
 ·
  refine go [.v 1 3 (oT ((n : Int) > 100))] ?_
  exact en (.bool false) [] ⟨_, _, rfl, ⟨by rw [sh_n hT (by omega)], rfl⟩, h0⟩
 refine go [.v 1 3 (oF ((n : Int) > 100))] ?_
 refine lpS (fun mz_ a w => ∃ i : Nat, ∃ lr : Fr, mz_ = n - i ∧ (i ≤ n) ∧ (∀ (j : Nat) (y : Stq), j < i → T[j]? = some y → y.t.length ≤ 100) ∧ a = mk 23 (([(0, .slice p0 n cp), (5, iV (i : Int))] : Fr) ++ lr) ∧ sat g w [Old wo, R]) (n - 0) ⟨0, _, rfl, (Nat.zero_le _), (fun _ _ h_ => absurd h_ (Nat.not_lt_zero _)), (lvF [.k 0 (.slice p0 n cp), .o 5 (oJ .i64 0 (0 : Int))]), h0⟩ ?_
 rintro m12 a13 w14 ⟨i, lr11, rfl, hi_, hu_, rfl, h15⟩
 refine ga <| go [.s 4 3] ?_
 by_cases c16 : (i : Int) < (n : Int)
 ·
  obtain ⟨b17, off19, hp18⟩ := gv_ptr (j := 0) h15 rfl (gv_old hr) (by omega)
  refine go [.v 4 3 (oT ((i : Int) < (n : Int))), .s 6 2] <| lwP (.pointer (some ⟨b17, off19 + i * 11, none⟩)) (law_indexSlP (x := (Operand.tmp 16)) (i := (Operand.tmp 17)) (p := p0) (b := b17) (off := off19) (z := (i : Int)) (len := n) (cap := cp) (by kernel_rfl) Tryz.underlying22 11 (by kernel_rfl) i (by kernel_rfl) hp18 (by kernel_rfl) (by omega) (by omega) (off19 + i * 11) (by omega) _) ?_
  obtain ⟨x20, hx21⟩ : ∃ x, T[i]? = some x := ⟨_, List.getElem?_eq_getElem (by rw [hT]; omega)⟩
  refine go [.r 6 4 b17 (off19 + i * 11 + 4) [.string (St x20.t)] ⟨gv_cell (j := 0) h15 rfl (gv_old hr) hp18 (fl_get eSq_ok (j := 4) (v := .string (St x20.t)) hx21 rfl) (off19 + i * 11 + 4) (by omega), trivial⟩, .v 6 5 (⟨iV ((St x20.t).size : Int), iV (((x20.t.length : Nat) : Int)), (ov_int (st_len _))⟩), .s 6 6] ?_
  by_cases c22 : ((x20.t.length : Nat) : Int) > 100
  ·
   refine go [.v 6 6 (oT (((x20.t.length : Nat) : Int) > 100))] <| up <| go [] ?_
   exact en (.bool false) [] ⟨_, _, rfl, ⟨by rw [sh_f hx21 (by omega)], rfl⟩, h15⟩
  refine go [.v 6 6 (oF (((x20.t.length : Nat) : Int) > 100)), .v 5 1 (oIr ((i : Int) + 1))] ?_
  refine enL ?_
  change ∃ n', n' < _ ∧ _
  refine ⟨(n - (i + 1)), by omega, (i + 1), _, rfl, (by omega), (up_step (P := fun y : Stq => y.t.length ≤ 100) hu_ hx21 (by omega)), (lvF [.k 0 (.slice p0 n cp), .o 5 (oJ .i64 ((i : Int) + 1) ((((i + 1) : Nat) : Int)))]), h15⟩
 refine go [.v 4 3 (oF ((i : Int) < (n : Int)))] <| up <| go [] ?_
 exact en (.bool true) [] ⟨_, _, rfl, ⟨by rw [sh_t hT (by omega) (fun j y hj_ hy_ => hu_ j y (by omega) hy_)], rfl⟩, h15⟩

set_option maxHeartbeats 4000000 in
theorem plays_law (wo : World) (hg : Ld Tryz.prog 0 wo) (p0 : Option Addr) (n cp : Nat) (T : List Stq) (hr : Rd wo p0 n (fl eSq T)) (hT : T.length = n) (hO : ∀ x ∈ T, SqOk x) (t0 : List UInt8) (ht0 : t0.length ≤ 9223372036854775807) : HT Tryz.prog 3 [.slice p0 n cp, .string (St t0)] [Old wo] (fun v K => v = .bool true ∧ K = [Old wo]) := by
 refine hiS Tryz.func3 Tryz.ntmps3 fun g w0 R h0 => go [] <| cl1 Tryz.call5 (short_ht wo p0 n cp T hr hT) h0 fun _ h11 => ?_
 rcases Bool.eq_false_or_eq_true (shB T) with cb12 | cb12
 ·
  refine go [.v 1 2 (⟨.bool (!(shB T)), .bool false, (by rw [cb12]; rfl)⟩), .v 1 5 (⟨iV ((St t0).size : Int), iV (((t0.length : Nat) : Int)), (ov_int (st_len _))⟩), .s 1 6] ?_
  by_cases c13 : ((t0.length : Nat) : Int) > 100
  ·
   refine go [.v 1 6 (oT (((t0.length : Nat) : Int) > 100))] <| cl1 Tryz.call6 (works_ht wo hg) h11 fun _ h15 => go [] ?_
   exact en (.bool true) [] ⟨_, _, rfl, ⟨rfl, rfl⟩, h15⟩
  refine go [.v 1 6 (oF (((t0.length : Nat) : Int) > 100))] <| cP Tryz.call7 (rnew0_ht) h11 ?_
  rintro v K _ (⟨b16, rfl, rfl⟩) h18
  have h19 := ap1 h18
  refine go [] <| cP Tryz.call8 (dnew_ht) h19 ?_
  rintro v K w21 (⟨b20, rfl, rfl⟩) h22
  have h23 := ap1 h22
  refine go [] ?_
  have hsh_ := sh_le cb12
  have hn100_ : n ≤ 100 := by rw [← hT]; exact hsh_.1
  have h25 : sat g w21 [Rpt b16 (plS T 0), Drp b20 (plS T 0), Old wo, R] := (tk4 (sf3 (sf2 (sf3 (sf3 h23)))))
  refine lpS (fun mz_ a w => ∃ i : Nat, ∃ b5 : Nat, ∃ b6 : Nat, ∃ lr : Fr, mz_ = n - i ∧ (i ≤ n) ∧ a = mk 129 (([(0, .slice p0 n cp), (1, .string (St t0)), (5, pV b5), (6, pV b6), (7, iV (i : Int))] : Fr) ++ lr) ∧ sat g w [Rpt b5 (plS T i), Drp b6 (plS T i), Old wo, R]) (n - 0) ⟨0, b16, b20, _, rfl, (Nat.zero_le _), (lvF [.k 0 (.slice p0 n cp), .k 1 (.string (St t0)), .k 5 (pV b16), .k 6 (pV b20), .o 7 (oJ .i64 0 (0 : Int))]), h25⟩ ?_
  rintro m27 a28 w29 ⟨i, b5, b6, lr26, rfl, hi_, rfl, h30⟩
  refine ga ?_
  have hpl_ := plS_len T i
  refine go [.s 6 3] ?_
  by_cases c31 : (i : Int) < (n : Int)
  ·
   obtain ⟨b32, off34, hp33⟩ := gv_ptr (j := 2) h30 rfl (gv_old hr) (by omega)
   refine go [.v 6 3 (oT ((i : Int) < (n : Int))), .s 8 2] <| lwP (.pointer (some ⟨b32, off34 + i * 11, none⟩)) (law_indexSlP (x := (Operand.tmp 30)) (i := (Operand.tmp 31)) (p := p0) (b := b32) (off := off34) (z := (i : Int)) (len := n) (cap := cp) (by kernel_rfl) Tryz.underlying22 11 (by kernel_rfl) i (by kernel_rfl) hp33 (by kernel_rfl) (by omega) (by omega) (off34 + i * 11) (by omega) _) ?_
   obtain ⟨x35, hx36⟩ : ∃ x, T[i]? = some x := ⟨_, List.getElem?_eq_getElem (by rw [hT]; omega)⟩
   have ho37 := hO _ (List.mem_of_getElem? hx36); obtain ⟨⟨ho37a, ho37b⟩, ho37c, ho37d⟩ := ho37; have ho37t := hsh_.2 _ (List.mem_of_getElem? hx36)
   refine go [.r 8 3 b32 (off34 + i * 11) [iV x35.dv, iV x35.o.1, iV x35.o.2.1, uV x35.o.2.2, .string (St x35.t), iV x35.a.at_, iV x35.a.out.1, iV x35.a.out.2.1, uV x35.a.out.2.2, iV x35.a.why, iV x35.a.ans] ⟨gv_cell (j := 2) h30 rfl (gv_old hr) hp33 (fl_get eSq_ok (j := 0) (v := iV x35.dv) hx36 rfl) (off34 + i * 11) (by omega), gv_cell (j := 2) h30 rfl (gv_old hr) hp33 (fl_get eSq_ok (j := 1) (v := iV x35.o.1) hx36 rfl) (off34 + i * 11 + 1) (by omega), gv_cell (j := 2) h30 rfl (gv_old hr) hp33 (fl_get eSq_ok (j := 2) (v := iV x35.o.2.1) hx36 rfl) (off34 + i * 11 + 2) (by omega), gv_cell (j := 2) h30 rfl (gv_old hr) hp33 (fl_get eSq_ok (j := 3) (v := uV x35.o.2.2) hx36 rfl) (off34 + i * 11 + 3) (by omega), gv_cell (j := 2) h30 rfl (gv_old hr) hp33 (fl_get eSq_ok (j := 4) (v := .string (St x35.t)) hx36 rfl) (off34 + i * 11 + 4) (by omega), gv_cell (j := 2) h30 rfl (gv_old hr) hp33 (fl_get eSq_ok (j := 5) (v := iV x35.a.at_) hx36 rfl) (off34 + i * 11 + 5) (by omega), gv_cell (j := 2) h30 rfl (gv_old hr) hp33 (fl_get eSq_ok (j := 6) (v := iV x35.a.out.1) hx36 rfl) (off34 + i * 11 + 6) (by omega), gv_cell (j := 2) h30 rfl (gv_old hr) hp33 (fl_get eSq_ok (j := 7) (v := iV x35.a.out.2.1) hx36 rfl) (off34 + i * 11 + 7) (by omega), gv_cell (j := 2) h30 rfl (gv_old hr) hp33 (fl_get eSq_ok (j := 8) (v := uV x35.a.out.2.2) hx36 rfl) (off34 + i * 11 + 8) (by omega), gv_cell (j := 2) h30 rfl (gv_old hr) hp33 (fl_get eSq_ok (j := 9) (v := iV x35.a.why) hx36 rfl) (off34 + i * 11 + 9) (by omega), gv_cell (j := 2) h30 rfl (gv_old hr) hp33 (fl_get eSq_ok (j := 10) (v := iV x35.a.ans) hx36 rfl) (off34 + i * 11 + 10) (by omega), trivial⟩] <| nP 35 [iV 0, iV 0, iV 0, uV 0, .string (St []), iV 0, iV 0, iV 0, uV 0, iV 0, iV 0] h30 (fun r38 _ h40 => ?_)
   refine sP [(0, iV x35.dv), (1, iV x35.o.1), (2, iV x35.o.2.1), (3, uV x35.o.2.2), (4, .string (St x35.t)), (5, iV x35.a.at_), (6, iV x35.a.out.1), (7, iV x35.a.out.2.1), (8, uV x35.a.out.2.2), (9, iV x35.a.why), (10, iV x35.a.ans)] [iV x35.dv, iV x35.o.1, iV x35.o.2.1, uV x35.o.2.2, .string (St x35.t), iV x35.a.at_, iV x35.a.out.1, iV x35.a.out.2.1, uV x35.a.out.2.2, iV x35.a.why, iV x35.a.ans] h40 fun w41 h42 => go [.s 9 100002] ?_
   refine jnS (fun a w => ∃ b7 : Nat, ∃ b8 : Nat, ∃ lr : Fr, a = mk 129 (([(0, .slice p0 n cp), (1, .string (St t0)), (5, pV b7), (6, pV b8), (7, iV (i : Int)), (8, pV r38)] : Fr) ++ lr) ∧ sat g w [Rpt b7 (plS T (i + 1)), Drp b8 (plS T (i + 1)), Cl r38 [iV x35.dv, iV x35.o.1, iV x35.o.2.1, uV x35.o.2.2, .string (St x35.t), iV x35.a.at_, iV x35.a.out.1, iV x35.a.out.2.1, uV x35.a.out.2.2, iV x35.a.why, iV x35.a.ans] 35, Old wo, R]) ?_ ?_
   ·
    refine go [rd 9 1 0 0 1 h42, .s 10 0] ?_
    by_cases c43 : x35.dv = 0
    ·
     refine go [.v 10 0 (qeT x35.dv 0)] <| dw (fls [0, 1, 2, 3, 4, 6, 7, 8, 9, 10] (Tr.an 5 (Tr.an 11 (Tr.fl 12 Tr.nil)))) h42 fun _ h45 => ?_
     have h46 := tk5 (sf4 (sf3 (sf4 (sf4 (sf4 h45)))))
     refine go [rd 11 2 0 1 3 h45, rd 11 4 0 4 1 h45, rd 11 8 0 1 3 h45, rd 11 10 0 4 1 h45] <| cw1 Tryz.call9 (ropen_ht b5 (plS T i) x35.o.1 x35.o.2.1 x35.o.2.2 x35.t (by omega) (by omega) (by omega)) h46 fun _ h48 => ⟨kd [rd 0 10 1 4 1 h48, rd 0 8 1 1 3 h48], ?_⟩
     refine cw1 Tryz.call10 (dopd_ht b6 (plS T i) x35.o.1 x35.o.2.1 x35.o.2.2 x35.t (by omega) (by omega) (by omega)) (tk5 (sf4 (sf3 (sf3 (sf4 (sf4 h48)))))) fun w50 h51 => ⟨kd [], ?_⟩
     refine go [.v 11 12 (qnF ((opdE (plS T i) (x35.o.1, x35.o.2.1, x35.o.2.2) x35.t)) ((opdE (plS T i) (x35.o.1, x35.o.2.1, x35.o.2.2) x35.t)))] ?_
     refine enL ?_
     have h53 : sat g w50 [Rpt b5 (plS T (i + 1)), Drp b6 (plS T (i + 1)), Cl r38 [iV x35.dv, iV x35.o.1, iV x35.o.2.1, uV x35.o.2.2, .string (St x35.t), iV x35.a.at_, iV x35.a.out.1, iV x35.a.out.2.1, uV x35.a.out.2.2, iV x35.a.why, iV x35.a.ans] 35, Old wo, R] := by rw [plS_0 hx36 (by omega)]; exact (tk5 (sf4 (sf3 (sf4 (sf4 (sf4 h51))))))
     exact ⟨b5, b6, _, (lvF [.k 0 (.slice p0 n cp), .k 1 (.string (St t0)), .k 5 (pV b5), .k 6 (pV b6), .k 7 (iV (i : Int)), .k 8 (pV r38)]), h53⟩
    refine go [.v 10 0 (qeF x35.dv 0), .s 13 0] ?_
    by_cases c54 : x35.dv = 1
    ·
     refine go [.v 13 0 (qeT x35.dv 1)] <| dw (fls [0, 1, 2, 4, 5, 6] (Tr.an 3 (Tr.an 7 (Tr.fl 8 Tr.nil)))) h42 fun _ h56 => ?_
     have h57 := tk5 (sf4 (sf3 (sf4 (sf4 (sf4 h56)))))
     refine go [rd 14 2 0 5 6 h56, rd 14 6 0 5 6 h56] <| cw1 Tryz.call11 (rtry_ht b5 (plS T i) x35.a.at_ x35.a.out.1 x35.a.out.2.1 x35.a.out.2.2 x35.a.why x35.a.ans (by omega) (by omega) (by omega)) h57 fun _ h59 => ⟨kd [rd 0 6 1 5 6 h59], ?_⟩
     refine cw1 Tryz.call12 (dtry_ht b6 (plS T i) x35.a.at_ x35.a.out.1 x35.a.out.2.1 x35.a.out.2.2 x35.a.why x35.a.ans (by omega) (by omega) (by omega)) (tk5 (sf4 (sf3 (sf3 (sf4 (sf4 h59)))))) fun w61 h62 => ⟨kd [], ?_⟩
     refine go [.v 14 8 (qnF ((trE (plS T i) (⟨x35.a.at_, (x35.a.out.1, x35.a.out.2.1, x35.a.out.2.2), x35.a.why, x35.a.ans⟩ : At))) ((trE (plS T i) (⟨x35.a.at_, (x35.a.out.1, x35.a.out.2.1, x35.a.out.2.2), x35.a.why, x35.a.ans⟩ : At))))] ?_
     refine enL ?_
     have h64 : sat g w61 [Rpt b5 (plS T (i + 1)), Drp b6 (plS T (i + 1)), Cl r38 [iV x35.dv, iV x35.o.1, iV x35.o.2.1, uV x35.o.2.2, .string (St x35.t), iV x35.a.at_, iV x35.a.out.1, iV x35.a.out.2.1, uV x35.a.out.2.2, iV x35.a.why, iV x35.a.ans] 35, Old wo, R] := by rw [plS_1 hx36 (by omega)]; exact (tk5 (sf4 (sf3 (sf4 (sf4 (sf4 h62))))))
     exact ⟨b5, b6, _, (lvF [.k 0 (.slice p0 n cp), .k 1 (.string (St t0)), .k 5 (pV b5), .k 6 (pV b6), .k 7 (iV (i : Int)), .k 8 (pV r38)]), h64⟩
    refine go [.v 13 0 (qeF x35.dv 1), .s 16 0] ?_
    by_cases c65 : x35.dv = 2
    ·
     have h67 := tk5 (sf4 (sf3 (sf4 (sf4 (sf4 h42)))))
     refine go [.v 16 0 (qeT x35.dv 2)] <| cP Tryz.call13 (rcopy_ht b5 (plS T i)) h67 ?_
     rintro v K _ (⟨b66, rfl, rfl⟩) h69
     have h72 := tk6 (sf5 (sf4 (sf4 (sf4 (sf5 (sf5 (ap2 h69)))))))
     refine go [] <| cP Tryz.call14 (dcpy_ht b6 (plS T i)) h72 ?_
     rintro v K w73 (⟨b71, rfl, rfl⟩) h74
     have h75 := ap2 h74
     refine go [] ?_
     refine enL ?_
     have h77 : sat g w73 [Rpt b66 (plS T (i + 1)), Drp b71 (plS T (i + 1)), Drp b6 (plS T i), Rpt b5 (plS T i), Cl r38 [iV x35.dv, iV x35.o.1, iV x35.o.2.1, uV x35.o.2.2, .string (St x35.t), iV x35.a.at_, iV x35.a.out.1, iV x35.a.out.2.1, uV x35.a.out.2.2, iV x35.a.why, iV x35.a.ans] 35, Old wo, R] := by rw [plS_n hx36 (by omega) (by omega)]; exact (tk7 (sf6 (sf5 (sf4 (sf5 (sf6 (sf6 (sf6 h75))))))))
     exact ⟨b66, b71, _, (lvF [.k 0 (.slice p0 n cp), .k 1 (.string (St t0)), .k 5 (pV b66), .k 6 (pV b71), .k 7 (iV (i : Int)), .k 8 (pV r38)]), (tk5 (tk7 (sf6 (sf6 (sf6 (sf6 (sf6 (sf3 (sf3 h77)))))))))⟩
    refine go [.v 16 0 (qeF x35.dv 2)] ?_
    refine enL ?_
    have h81 : sat g w41 [Rpt b5 (plS T (i + 1)), Drp b6 (plS T (i + 1)), Cl r38 [iV x35.dv, iV x35.o.1, iV x35.o.2.1, uV x35.o.2.2, .string (St x35.t), iV x35.a.at_, iV x35.a.out.1, iV x35.a.out.2.1, uV x35.a.out.2.2, iV x35.a.why, iV x35.a.ans] 35, Old wo, R] := by rw [plS_n hx36 (by omega) (by omega)]; exact (tk5 (sf4 (sf4 (sf2 (sf4 (sf4 h42))))))
    exact ⟨b5, b6, _, (lvF [.k 0 (.slice p0 n cp), .k 1 (.string (St t0)), .k 5 (pV b5), .k 6 (pV b6), .k 7 (iV (i : Int)), .k 8 (pV r38)]), h81⟩
   rintro a82 w83 ⟨b7, b8, lr85, rfl, h84⟩
   refine ga <| go [] <| dw (fls [0, 2] (Tr.an 1 (Tr.an 3 (Tr.an 4 (fls [5, 6, 7, 9] (Tr.an 8 (Tr.an 10 (fls [11, 12, 13, 14, 15, 17, 18] (Tr.an 16 (Tr.an 19 (fls [20, 21, 22, 23, 24, 25, 27, 28, 29] (Tr.an 26 (Tr.an 30 (fls [31, 32] Tr.nil)))))))))))))) h84 fun _ h87 => go [] <| cG Tryz.call16 (all_ht b7 (plS T (i + 1))) h87 ?_
   rintro v K _ (⟨p88, cap89, hl90, rfl, rfl⟩) h92
   have h93 := ap2 h92
   obtain ⟨hn94, hn95⟩ := sl_le h93
   refine ⟨kd [], ?_⟩
   refine cG Tryz.call17 (dall_ht b8 (plS T (i + 1))) (tk6 (sf5 (sf4 (sf4 (sf5 (sf5 (sf5 h93))))))) ?_
   rintro v K _ (⟨p96, cap97, hl98, rfl, rfl⟩) h101
   have h102 := ap2 h101
   obtain ⟨hn103, hn104⟩ := sl_le h102
   refine ⟨kd [], ?_⟩
   refine cw2 Tryz.call15 (lsame_ht p88 p96 cap89 cap97 (lks (plS T (i + 1))) (by omega)) (tk7 (sf6 (sf5 (sf5 (sf6 (sf6 (sf6 (sf6 h102)))))))) fun _ h107 => ⟨kd [], ?_⟩
   have h108 := tk7 (sf6 (sf5 (sf5 (sf5 (sf6 (sf6 (sf6 h107)))))))
   refine go [] <| cw1 Tryz.call18 (rlen_ht b7 (plS T (i + 1))) h108 fun _ h110 => ⟨kd [], ?_⟩
   refine cw1 Tryz.call19 (dlen_ht b8 (plS T (i + 1))) (tk7 (sf6 (sf5 (sf5 (sf5 (sf6 (sf6 (sf6 h110)))))))) fun _ h113 => ⟨kd [], ?_⟩
   have h114 := tk7 (sf6 (sf5 (sf6 (sf6 (sf6 (sf6 (sf6 h113)))))))
   refine go [.v 19 11 (qnF ((((lks (plS T (i + 1))).length : Nat) : Int)) ((((lks (plS T (i + 1))).length : Nat) : Int)))] <| cw1 Tryz.call20 (rcnt_ht b7 (plS T (i + 1)) t0) h114 fun _ h116 => ?_
   have hcl117 : cntL (lks (plS T (i + 1))) t0 ≤ (lks (plS T (i + 1))).length := List.length_filter_le _ _
   refine ⟨kd [], ?_⟩
   refine cw1 Tryz.call21 (dcnt_ht b8 (plS T (i + 1)) t0) (tk7 (sf6 (sf5 (sf6 (sf6 (sf6 (sf6 (sf6 h116)))))))) fun _ h120 => ⟨kd [], ?_⟩
   have h121 := tk7 (sf6 (sf5 (sf6 (sf6 (sf6 (sf6 (sf6 h120)))))))
   refine go [.v 19 20 (qnF ((((cntL (lks (plS T (i + 1))) t0) : Nat) : Int)) ((((cntL (lks (plS T (i + 1))) t0) : Nat) : Int))), rd 19 25 4 4 1 h120, rd 19 29 4 4 1 h120] <| cw1 Tryz.call20 (rcnt_ht b7 (plS T (i + 1)) x35.t) h121 fun _ h123 => ?_
   have hcl124 : cntL (lks (plS T (i + 1))) x35.t ≤ (lks (plS T (i + 1))).length := List.length_filter_le _ _
   refine ⟨kd [rd 0 29 4 4 1 h123], ?_⟩
   refine cw1 Tryz.call21 (dcnt_ht b8 (plS T (i + 1)) x35.t) (tk7 (sf6 (sf5 (sf6 (sf6 (sf6 (sf6 (sf6 h123)))))))) fun _ h127 => ⟨kd [], ?_⟩
   refine go [.v 19 31 (qnF ((((cntL (lks (plS T (i + 1))) x35.t) : Nat) : Int)) ((((cntL (lks (plS T (i + 1))) x35.t) : Nat) : Int))), .v 7 1 (oIr ((i : Int) + 1))] ?_
   refine enL ?_
   have h129 := tk4 (tk7 (sf6 (sf5 (sf6 (sf6 (sf4 (sf4 (sf4 h127))))))))
   change ∃ n', n' < _ ∧ _
   refine ⟨(n - (i + 1)), by omega, (i + 1), b7, b8, _, rfl, (by omega), (lvF [.k 0 (.slice p0 n cp), .k 1 (.string (St t0)), .k 5 (pV b7), .k 6 (pV b8), .o 7 (oJ .i64 ((i : Int) + 1) ((((i + 1) : Nat) : Int)))]), h129⟩
  refine go [.v 6 3 (oF ((i : Int) < (n : Int)))] <| up <| go [] ?_
  have hin_ : i = n := by omega
  have h130 : sat g w29 [Rpt b5 (plS T n), Drp b6 (plS T n), Old wo, R] := by rw [← hin_]; exact h30
  have h131 := tk4 (sf3 (sf3 (sf2 (sf3 h130))))
  refine go [] <| cl2 Tryz.call22 (rtext_ht b5 (plS T n) wo hg) h131 fun _ h133 => ?_
  have h134 := tk4 (sf3 (sf2 (sf2 (sf3 h133))))
  refine go [] <| cl1 Tryz.call23 (dtxt_ht b6 (plS T n)) h134 fun _ h136 => go [.s 23 2] <| lwP (.bool true) (law_eqStr (t := 9) (x := (Operand.tmp 111)) (y := (Operand.tmp 112)) (a := (txV (plS T n))) (b := (txV (plS T n))) (by kernel_rfl) (by kernel_rfl) (by kernel_rfl) true (decide_eq_true rfl) _) ?_
  have h141 := tk4 (sf3 (sf2 (sf3 (sf3 h136))))
  refine go [.v 23 6 (qeT ((txE (plS T n))) ((txE (plS T n))))] <| cP Tryz.call25 (rtags_ht b5 (plS T n)) h141 ?_
  rintro v K _ (⟨Tg137, p138, cap139, hT140, rfl, rfl⟩) h143
  have h144 := ap2 h143
  obtain ⟨hn145, hn146⟩ := sl_le h144
  have h151 := tk5 (sf4 (sf3 (sf3 (sf4 (sf4 h144)))))
  refine go [] <| cP Tryz.call26 (dtags_ht b6 (plS T n)) h151 ?_
  rintro v K _ (⟨Tg147, p148, cap149, hT150, rfl, rfl⟩) h153
  refine cl2 Tryz.call24 (dtxs2 p138 p148 cap139 cap149 Tg137 Tg147 (tg_uniq hT140 hT150) (by have h1_ := tg_len hT140; have h2_ := lks_at_most (plS T n); have h3_ := plS_len T n; omega)) (tk6 (sf5 (sf4 (sf4 (sf5 (sf5 (sf5 (ap2 h153)))))))) fun _ h157 => ?_
  have h158 := tk6 (sf5 (sf4 (sf4 (sf4 (sf4 (sf5 h157))))))
  refine go [] <| cl1 Tryz.call6 (works_ht wo hg) h158 fun _ h160 => go [] ?_
  exact en (.bool true) [] ⟨_, _, rfl, ⟨rfl, rfl⟩, (tk2 (sf1 (sf5 h160)))⟩
 refine go [.v 1 2 (⟨.bool (!(shB T)), .bool true, (by rw [cb12]; rfl)⟩)] ?_
 refine cl1 Tryz.call6 (works_ht wo hg) h11 fun _ h163 => go [] ?_
 exact en (.bool true) [] ⟨_, _, rfl, ⟨rfl, rfl⟩, h163⟩

end Go.Proofs.YtfoliffeieeihaaGreatDoor
