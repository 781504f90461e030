/- Walks, printed by my generator r2.py. -/
import Derived.Test.YtggfnbpohmhphaaGreatDoorBundle32
namespace Go.Proofs.YtggfnbpohmhphaaGreatDoor
set_option maxHeartbeats 4000000 in
theorem r4tkn_ht (b : Nat) (A : List Sl2) : HT Tryz.prog 145 [pV b] [StR b A] (fun v K => ∃ (p : Option Addr) (c : Nat), v = .slice p ((inS 1 A 0).length) c ∧ K = [StR b A, Sl 183 2 p (((inS 1 A 0).length)) c (fl eRf (inS 1 A 0))]) := by
 refine hiS Tryz.func145 Tryz.ntmps145 fun g w0 R h0 => go [] ?_
 obtain ⟨p12, c13, hP10, h11⟩ := s4_open h0
 have hok_ := hP10.2
 have h14 : sat g w0 [Sl 183 2 none 0 0 (fl eRf []), Cl b [.slice p12 64 c13] 207, Sl 209 2 p12 64 c13 (fl eSl A), R] := sl_nil 183 2 h11
 refine lpS (fun mz_ a w => ∃ i : Nat, ∃ k : Nat, ∃ p2 : Option Addr, ∃ c2 : Nat, ∃ lr : Fr, mz_ = 64 - i ∧ (i ≤ 64) ∧ (k ≤ i) ∧ a = mk 41 (([(0, pV b), (3, .slice p2 k c2), (4, iV (i : Int))] : Fr) ++ lr) ∧ sat g w [Sl 183 2 p2 k c2 (fl eRf (inS 1 (A.take i) 0)), Cl b [.slice p12 64 c13] 207, Sl 209 2 p12 64 c13 (fl eSl A), R]) (64 - 0) ⟨0, 0, none, 0, _, rfl, (Nat.zero_le _), (Nat.le_refl _), (lvF [.k 0 (pV b), .k 3 (.slice none 0 0), .o 4 (oJ .i64 0 (0 : Int))]), h14⟩ ?_
 rintro m16 a17 w18 ⟨i, k, p2, c2, lr15, rfl, hi, hk, rfl, h19⟩
 refine ga ?_
 have h20 := tk4 (sf3 (sf2 (sf3 (sf3 h19))))
 refine go [] <| cl1 Tryz.call164 (r4v b p12 c13) h20 fun w21 h22 => go [rd 3 7 0 0 1 h22, .v 3 8 (oJ .i64 (64 : Int) 64), .s 3 9] ?_
 by_cases c23 : (i : Int) < 64
 ·
  obtain ⟨b24, hp25⟩ := sl_ptr0 (j := 2) h22 rfl (by omega)
  refine go [.v 3 9 (oT ((i : Int) < 64)), rd 5 3 0 0 1 h22, .s 5 5] <| lwP (.pointer (some ⟨b24, i * 2, none⟩)) (law_indexSlP (x := (Operand.tmp 21)) (i := (Operand.tmp 22)) (p := p12) (b := b24) (off := 0) (z := (i : Int)) (len := 64) (cap := c13) (by kernel_rfl) Tryz.underlying205 2 (by kernel_rfl) i (by kernel_rfl) hp25 (by kernel_rfl) (by omega) (by omega) (i * 2) (by omega) _) ?_
  obtain ⟨x26, hx27⟩ : ∃ x, A[i]? = some x := ⟨_, List.getElem?_eq_getElem (by rw [hP10.1]; omega)⟩
  have hb28 := hok_ x26 (List.mem_of_getElem? hx27); have hb28a := hb28.1; have hb28b := hb28.2.1; have hb28c := hb28.2.2.1; have hb28d := hb28.2.2.2
  refine go [.r 5 7 b24 (i * 2) [iV x26.1] ⟨gv_cell (j := 2) h22 rfl (gv_sl _ _ _) hp25 (fl_get eSl_ok (j := 0) (v := iV x26.1) hx27 rfl) (i * 2) (by omega), trivial⟩, .s 5 8] ?_
  by_cases c29 : x26.1 = 1
  ·
   refine go [.v 5 8 (qeT x26.1 1), rd 6 5 0 0 1 h22, .s 6 7] <| lwP (.pointer (some ⟨b24, i * 2, none⟩)) (law_indexSlP (x := (Operand.tmp 32)) (i := (Operand.tmp 33)) (p := p12) (b := b24) (off := 0) (z := (i : Int)) (len := 64) (cap := c13) (by kernel_rfl) Tryz.underlying205 2 (by kernel_rfl) i (by kernel_rfl) hp25 (by kernel_rfl) (by omega) (by omega) (i * 2) (by omega) _) <| go [.r 6 9 b24 (i * 2 + 1) [uV x26.2] ⟨gv_cell (j := 2) h22 rfl (gv_sl _ _ _) hp25 (fl_get eSl_ok (j := 1) (v := uV x26.2) hx27 rfl) (i * 2 + 1) (by omega), trivial⟩] <| nG (fun q_ => .slice (some ⟨q_, 0, none⟩) 1 1) 183 [iV (i : Int), uV x26.2] h22 (fun r30 _ h32 => ⟨kd [], ?_⟩)
   have h33 := tk5 (sf4 (sf3 (sf3 (sf4 (sf4 h32)))))
   refine actG ?_
   refine an_append (d := 39) (sz := 2) (s := (Operand.tmp 27)) (x := (Operand.tmp 38)) (z := .agg #[iV 0, uV 0]) (p := p2) (m := k) (c := c2) (k := 1) (c2 := 1) (a := ⟨r30, 0, none⟩) (by_ := 16) (by kernel_rfl) (by kernel_rfl) rfl Tryz.underlying185 (by kernel_rfl) rfl (by decide) (by kernel_rfl) (by kernel_rfl) h33 (fl eRf [(i, x26.2)]) rfl (fun j u hj => by rw [add_off]; exact sat_cell h33 1 rfl (by rw [Nat.zero_add]; exact hj)) (fl_one eRf_ok _) (by omega) (by omega) (k + 1) (by omega) ?_
   intro p34 cap35 w36 h37
   have h38 : sat g w36 [Sl 183 2 p34 (k + 1) cap35 (fl eRf ((inS 1 (A.take i) 0) ++ [(i, x26.2)])), Cl r30 [iV (i : Int), uV x26.2] 183, Cl b [.slice p12 64 c13] 207, Sl 209 2 p12 64 c13 (fl eSl A), R] := sat_imp h37 (fun _ hh => by rw [fl_app]; exact hh)
   obtain ⟨hn39, hn40⟩ := sl_le h38
   refine nxA <| go [.v 4 1 (oIr ((i : Int) + 1))] ?_
   refine enL ?_
   have h41 : sat g w36 [Sl 183 2 p34 (k + 1) cap35 (fl eRf (inS 1 (A.take (i + 1)) 0)), Cl r30 [iV (i : Int), uV x26.2] 183, Cl b [.slice p12 64 c13] 207, Sl 209 2 p12 64 c13 (fl eSl A), R] := sat_imp h38 (fun _ hh_ => by rw [show ((inS 1 (A.take i) 0) ++ [(i, x26.2)]) = (inS 1 (A.take (i + 1)) 0) from tkR_go hx27 (by omega)] at hh_; exact hh_)
   have h43 := tk4 (tk5 (sf4 (sf4 (sf4 (sf4 (sf1 h41))))))
   change ∃ n', n' < _ ∧ _
   refine ⟨(64 - (i + 1)), by omega, (i + 1), k + 1, p34, cap35, _, rfl, (by omega), (by omega), (lvF [.k 0 (pV b), .k 3 (.slice p34 (k + 1) cap35), .o 4 (oJ .i64 ((i : Int) + 1) ((((i + 1) : Nat) : Int)))]), h43⟩
  refine go [.v 5 8 (qeF x26.1 1), .v 4 1 (oIr ((i : Int) + 1))] ?_
  refine enL ?_
  have h45 : sat g w21 [Sl 183 2 p2 k c2 (fl eRf (inS 1 (A.take (i + 1)) 0)), Cl b [.slice p12 64 c13] 207, Sl 209 2 p12 64 c13 (fl eSl A), R] := sat_imp (tk4 (sf3 (sf2 (sf3 (sf3 h22))))) (fun _ hh_ => by rw [show (inS 1 (A.take i) 0) = (inS 1 (A.take (i + 1)) 0) from tkR_no hx27 (by omega)] at hh_; exact hh_)
  change ∃ n', n' < _ ∧ _
  refine ⟨(64 - (i + 1)), by omega, (i + 1), k, p2, c2, _, rfl, (by omega), (by omega), (lvF [.k 0 (pV b), .k 3 (.slice p2 k c2), .o 4 (oJ .i64 ((i : Int) + 1) ((((i + 1) : Nat) : Int)))]), h45⟩
 refine go [.v 3 9 (oF ((i : Int) < 64))] <| up <| go [] ?_
 have h47 : sat g w21 [Sl 183 2 p2 k c2 (fl eRf (inS 1 A 0)), Cl b [.slice p12 64 c13] 207, Sl 209 2 p12 64 c13 (fl eSl A), R] := sat_imp (tk4 (sf3 (sf2 (sf3 (sf3 h22))))) (fun _ hh_ => by rw [show (inS 1 (A.take i) 0) = (inS 1 A 0) from (tkR_all (by rw [hP10.1]; omega))] at hh_; exact hh_)
 have hl48 := fl_n eRf_ok (by decide) h47
 have hk_ : k = ((inS 1 A 0).length) := by have h_ := (rfl : (inS 1 A 0).length = (inS 1 A 0).length); omega
 have h49 : sat g w21 [Sl 183 2 p2 (((inS 1 A 0).length)) c2 (fl eRf (inS 1 A 0)), Cl b [.slice p12 64 c13] 207, Sl 209 2 p12 64 c13 (fl eSl A), R] := sat_imp h47 (fun _ hh_ => by rw [← hk_]; exact hh_)
 have h51 : sat g w21 [StR b A, Sl 183 2 p2 (((inS 1 A 0).length)) c2 (fl eRf (inS 1 A 0)), R] := s4_close hP10 (tk4 (sf3 (sf3 (sf1 (sf3 h49)))))
 exact en (.slice p2 k c2) [] ⟨_, _, rfl, ⟨p2, c2, by rw [hk_], rfl⟩, h51⟩

set_option maxHeartbeats 4000000 in
theorem r4copy_ht (b : Nat) (A : List Sl2) : HT Tryz.prog 144 [pV b] [StR b A] (fun v K => ∃ b2 : Nat, v = pV b2 ∧ K = [StR b A, StR b2 A]) := by
 refine hiS Tryz.func144 Tryz.ntmps144 fun g w0 R h0 => ?_
 obtain ⟨p12, c13, hP10, h11⟩ := s4_open h0
 have hok_ := hP10.2
 refine go [] <| cl1 Tryz.call164 (r4v b p12 c13) h11 fun _ h15 => go [] <| nG (fun q_ => .slice (some ⟨q_, 0, none⟩) 0 0) 209 [] h15 (fun r16 w17 h18 => ⟨kd [], ?_⟩)
 have h19 : sat g w17 [Sl 209 2 (some ⟨r16, 0, none⟩) 0 0 (fl eSl []), Cl b [.slice p12 64 c13] 207, Sl 209 2 p12 64 c13 (fl eSl A), R] := sl_of_cl h18 rfl (by omega)
 refine go [rd 3 4 1 0 1 h18] ?_
 refine actG ?_
 refine an_append_gv (d := 11) (sz := 2) (s := (Operand.tmp 6)) (x := (Operand.tmp 10)) (z := .agg #[iV 0, uV 0]) (p := (some ⟨r16, 0, none⟩)) (p2 := p12) (m := 0) (c := 0) (k := 64) (c2 := c13) (by_ := 16) (by kernel_rfl) (by kernel_rfl) rfl Tryz.underlying205 (by kernel_rfl) rfl (by decide) (by kernel_rfl) (by kernel_rfl) h19 2 rfl (fl eSl A) (gv_sl _ _ _) (by rw [fl_len eSl_ok, hP10.1]) (fl_one eSl_ok _) (by omega) (by omega) 64 (by omega) ?_
 intro p20 cap21 w22 h23
 have h24 : sat g w22 [Sl 209 2 p20 64 cap21 (fl eSl A), Cl b [.slice p12 64 c13] 207, Sl 209 2 p12 64 c13 (fl eSl A), R] := sat_imp h23 (fun _ hh => by exact hh)
 obtain ⟨hn25, hn26⟩ := sl_le h24
 refine nxA <| go [] <| nP 207 [.slice p20 64 cap21] h24 (fun r27 w28 h29 => ?_)
 refine go [] ?_
 have h31 : sat g w28 [StR b A, Cl r27 [.slice p20 64 cap21] 207, Sl 209 2 p20 64 cap21 (fl eSl A), R] := s4_close hP10 (tk5 (sf4 (sf4 (sf2 (sf2 (sf4 h29))))))
 have h33 : sat g w28 [StR r27 A, StR b A, R] := s4_close hP10 (tk4 (sf3 (sf3 (sf1 (sf3 h31)))))
 exact en (pV r27) [] ⟨_, _, rfl, ⟨r27, rfl, rfl⟩, (tk3 (sf2 (sf1 (sf2 h33))))⟩

set_option maxHeartbeats 4000000 in
theorem r7chk_ht (ta x y z wy an : Int) (hz0 : 0 ≤ z) (hz1 : z ≤ 4294967295) (hp : 0 ≤ ta ∧ ta ≤ 1099511627776 ∧ (1 ≤ x ∧ x ≤ 3 ∧ 0 ≤ y ∧ y ≤ 63 ∧ 1 ≤ z) ∧ 1 ≤ wy ∧ wy ≤ 3 ∧ 1 ≤ an ∧ an ≤ 3) : HT Tryz.prog 133 [.agg #[iV ta, iV x, iV y, uV z, iV wy, iV an]] [] (fun v K => v = iV 0 ∧ K = []) := by
 refine hiS Tryz.func133 Tryz.ntmps133 fun g w0 R h0 => go [] <| nP 44 [iV ta, iV x, iV y, uV z, iV wy, iV an] h0 (fun _ _ h12 => ?_)
 refine go [rd 1 1 0 0 1 h12, .v 1 2 (oF (ta < 0)), rd 1 5 0 0 1 h12, .v 1 6 (oF (ta > 1099511627776)), rd 1 10 0 1 3 h12] <| cl0 Tryz.call85 (dcouter_ok x y z (by omega) (by omega) (by omega)) h12 fun _ h14 => go [rd 1 16 0 4 1 h14, .v 1 17 (oF (wy < 1)), rd 1 21 0 4 1 h14, .v 1 22 (oF (wy > 3)), rd 1 26 0 5 1 h14, .v 1 27 (oF (an < 1)), rd 1 31 0 5 1 h14, .v 1 32 (oF (an > 3))] ?_
 exact en (iV 0) [] ⟨_, _, rfl, ⟨rfl, rfl⟩, (tk1 (sf1 h14))⟩

set_option maxHeartbeats 4000000 in
theorem r7new_ht  : HT Tryz.prog 80 [] [] (fun v K => ∃ b : Nat, v = pV b ∧ K = [LgR b []]) := by
 refine hiS Tryz.func80 Tryz.ntmps80 fun g w0 R h0 => go [] <| nP 131 [.bool true, .slice none 0 0] h0 (fun r10 w11 h12 => ?_)
 refine go [] ?_
 have h13 : sat g w11 [Sl 44 6 none 0 0 (fl eAt []), Cl r10 [.bool true, .slice none 0 0] 131, R] := sl_nil 44 6 h12
 have h15 : sat g w11 [LgR r10 [], R] := gr_close (T := []) (by decide) (tk3 (sf2 (sf1 (sf2 h13))))
 exact en (pV r10) [] ⟨_, _, rfl, ⟨r10, rfl, rfl⟩, h15⟩

set_option maxHeartbeats 4000000 in
theorem r7add_ht (b : Nat) (T : List At) (ta x y z wy an : Int) (hz0 : 0 ≤ z) (hz1 : z ≤ 4294967295) (hp : 0 ≤ ta ∧ ta ≤ 1099511627776 ∧ (1 ≤ x ∧ x ≤ 3 ∧ 0 ≤ y ∧ y ≤ 63 ∧ 1 ≤ z) ∧ 1 ≤ wy ∧ wy ≤ 3 ∧ 1 ≤ an ∧ an ≤ 3) (hTa : ∀ a ∈ T, a.at_ ≤ ta) (hn : T.length < 10000) : HT Tryz.prog 87 [pV b, .agg #[iV ta, iV x, iV y, uV z, iV wy, iV an]] [LgR b T] (fun v K => v = iV 0 ∧ K = [LgR b (T ++ [(⟨ta, (x, y, z), wy, an⟩ : At)])]) := by
 refine hiS Tryz.func87 Tryz.ntmps87 fun g w0 R h0 => go [] <| nP 44 [iV ta, iV x, iV y, uV z, iV wy, iV an] h0 (fun r10 _ h12 => ?_)
 obtain ⟨p16, c17, hP14, h15⟩ := gr_open (tk3 (sf2 (sf1 (sf2 h12))))
 refine go [] <| cl1 Tryz.call104 (r7v b (.slice p16 T.length c17)) h15 fun _ h19 => go [rd 3 0 2 0 6 h19] <| cl0 Tryz.call133 (r7chk_ht ta x y z wy an (by omega) (by omega) (by omega)) h19 fun _ h21 => go [] <| dw (fls [0, 1, 2, 3, 4, 5, 6, 7, 8, 9, 10, 11, 12, 13, 14, 15, 16, 17, 18, 19, 20, 21, 22, 23] Tr.nil) h21 fun _ h23 => go [rd 5 3 0 1 1 h23, .s 5 5] ?_
 by_cases c24 : ((T.length : Nat) : Int) > 0
 ·
  obtain ⟨b25, hp26⟩ := sl_ptr0 (j := 1) h23 rfl (by omega)
  obtain ⟨kk27, hk28⟩ : ∃ z : Nat, z = T.length - 1 := ⟨_, rfl⟩
  refine go [.v 5 5 (oT (((T.length : Nat) : Int) > 0)), rd 5 8 2 0 1 h23, rd 5 12 0 1 1 h23, rd 5 16 0 1 1 h23, .v 5 18 (oIr ((((T.length : Nat) : Int)) - 1)), .s 5 19] <| lw (.pointer (some ⟨b25, kk27 * 6, none⟩)) (fun _ => law_indexSlP (x := (Operand.tmp 23)) (i := (Operand.tmp 29)) (p := p16) (b := b25) (off := 0) (z := (((T.length : Nat) : Int) - 1)) (len := T.length) (cap := c17) (by kernel_rfl) Tryz.underlying39 6 (by kernel_rfl) kk27 (by kernel_rfl) hp26 (by kernel_rfl) (by omega) (by omega) (kk27 * 6) (by omega) _) ?_
  obtain ⟨x29, hx30⟩ : ∃ x, T[T.length - 1]? = some x := ⟨_, List.getElem?_eq_getElem (by omega)⟩
  have ha31 := hTa _ (List.mem_of_getElem? hx30)
  refine go [.r 5 21 b25 (kk27 * 6) [iV x29.at_] ⟨gv_cell (j := 1) h23 rfl (gv_sl _ _ _) hp26 (fl_get eAt_ok (j := 0) (v := iV x29.at_) hx30 rfl) (kk27 * 6) (by omega), trivial⟩, .v 5 22 (oF (ta < x29.at_)), rd 7 3 0 1 1 h23, .v 7 5 (oF (((T.length : Nat) : Int) ≥ 10000))] <| dw (fls [0, 1, 2, 3, 4, 5] (Tr.an 6 (Tr.an 7 (fls [8, 9] (Tr.an 10 Tr.nil))))) h23 fun _ h33 => go [rd 9 4 0 1 1 h33, rd 9 5 2 0 6 h33] <| nG (fun q_ => .slice (some ⟨q_, 0, none⟩) 1 1) 44 [iV ta, iV x, iV y, uV z, iV wy, iV an] h33 (fun r34 _ h36 => ⟨kd [rd 0 4 1 1 1 h36], ?_⟩)
  have h37 := tk5 (sf4 (sf3 (sf3 (sf4 (sf4 h36)))))
  refine actG ?_
  refine an_append (d := 48) (sz := 6) (s := (Operand.tmp 45)) (x := (Operand.tmp 47)) (z := .agg #[iV 0, iV 0, iV 0, uV 0, iV 0, iV 0]) (p := p16) (m := T.length) (c := c17) (k := 1) (c2 := 1) (a := ⟨r34, 0, none⟩) (by_ := 48) (by kernel_rfl) (by kernel_rfl) rfl Tryz.underlying39 (by kernel_rfl) rfl (by decide) (by kernel_rfl) (by kernel_rfl) h37 (fl eAt [(⟨ta, (x, y, z), wy, an⟩ : At)]) rfl (fun j u hj => by rw [add_off]; exact sat_cell h37 1 rfl (by rw [Nat.zero_add]; exact hj)) (fl_one eAt_ok _) (by omega) (by omega) (T.length + 1) (by omega) ?_
  intro p38 cap39 w40 h41
  have h42 : sat g w40 [Sl 44 6 p38 (T.length + 1) cap39 (fl eAt (T ++ [(⟨ta, (x, y, z), wy, an⟩ : At)])), Cl r34 [iV ta, iV x, iV y, uV z, iV wy, iV an] 44, Cl b [.bool true, .slice p16 T.length c17] 131, Cl r10 [iV ta, iV x, iV y, uV z, iV wy, iV an] 44, R] := sat_imp h41 (fun _ hh => by rw [fl_app]; exact hh)
  obtain ⟨hn43, hn44⟩ := sl_le h42
  refine ⟨kd [], nxG ?_⟩
  have h45 := tk5 (sf4 (sf3 (sf3 (sf4 (sf4 h42)))))
  refine go [] <| sG [(1, .slice p38 (T.length + 1) cap39)] [.bool true, .slice p38 (T.length + 1) cap39] h45 fun w46 h47 => ⟨kd [], ?_⟩
  refine go [] ?_
  have hl_ : (T ++ [(⟨ta, (x, y, z), wy, an⟩ : At)]).length = T.length + 1 := List.length_append
  have h48 : sat g w46 [LgR b (T ++ [(⟨ta, (x, y, z), wy, an⟩ : At)]), Cl r34 [iV ta, iV x, iV y, uV z, iV wy, iV an] 44, Cl r10 [iV ta, iV x, iV y, uV z, iV wy, iV an] 44, R] := gr_close (T := T ++ [(⟨ta, (x, y, z), wy, an⟩ : At)]) (by rw [hl_]; exact hn) (by rw [hl_]; exact h47)
  exact en (iV 0) [] ⟨_, _, rfl, ⟨rfl, rfl⟩, (tk2 (sf1 (sf3 h48)))⟩
 refine go [.v 5 5 (oF (((T.length : Nat) : Int) > 0)), rd 7 3 0 1 1 h23, .v 7 5 (oF (((T.length : Nat) : Int) ≥ 10000))] <| dw (fls [0, 1, 2, 3, 4, 5] (Tr.an 6 (Tr.an 7 (fls [8, 9] (Tr.an 10 Tr.nil))))) h23 fun _ h51 => go [rd 9 4 0 1 1 h51, rd 9 5 2 0 6 h51] <| nG (fun q_ => .slice (some ⟨q_, 0, none⟩) 1 1) 44 [iV ta, iV x, iV y, uV z, iV wy, iV an] h51 (fun r52 _ h54 => ⟨kd [rd 0 4 1 1 1 h54], ?_⟩)
 have h55 := tk5 (sf4 (sf3 (sf3 (sf4 (sf4 h54)))))
 refine actG ?_
 refine an_append (d := 48) (sz := 6) (s := (Operand.tmp 45)) (x := (Operand.tmp 47)) (z := .agg #[iV 0, iV 0, iV 0, uV 0, iV 0, iV 0]) (p := p16) (m := T.length) (c := c17) (k := 1) (c2 := 1) (a := ⟨r52, 0, none⟩) (by_ := 48) (by kernel_rfl) (by kernel_rfl) rfl Tryz.underlying39 (by kernel_rfl) rfl (by decide) (by kernel_rfl) (by kernel_rfl) h55 (fl eAt [(⟨ta, (x, y, z), wy, an⟩ : At)]) rfl (fun j u hj => by rw [add_off]; exact sat_cell h55 1 rfl (by rw [Nat.zero_add]; exact hj)) (fl_one eAt_ok _) (by omega) (by omega) (T.length + 1) (by omega) ?_
 intro p56 cap57 w58 h59
 have h60 : sat g w58 [Sl 44 6 p56 (T.length + 1) cap57 (fl eAt (T ++ [(⟨ta, (x, y, z), wy, an⟩ : At)])), Cl r52 [iV ta, iV x, iV y, uV z, iV wy, iV an] 44, Cl b [.bool true, .slice p16 T.length c17] 131, Cl r10 [iV ta, iV x, iV y, uV z, iV wy, iV an] 44, R] := sat_imp h59 (fun _ hh => by rw [fl_app]; exact hh)
 obtain ⟨hn61, hn62⟩ := sl_le h60
 refine ⟨kd [], nxG ?_⟩
 have h63 := tk5 (sf4 (sf3 (sf3 (sf4 (sf4 h60)))))
 refine go [] <| sG [(1, .slice p56 (T.length + 1) cap57)] [.bool true, .slice p56 (T.length + 1) cap57] h63 fun w64 h65 => ⟨kd [], ?_⟩
 refine go [] ?_
 have hl_ : (T ++ [(⟨ta, (x, y, z), wy, an⟩ : At)]).length = T.length + 1 := List.length_append
 have h66 : sat g w64 [LgR b (T ++ [(⟨ta, (x, y, z), wy, an⟩ : At)]), Cl r52 [iV ta, iV x, iV y, uV z, iV wy, iV an] 44, Cl r10 [iV ta, iV x, iV y, uV z, iV wy, iV an] 44, R] := gr_close (T := T ++ [(⟨ta, (x, y, z), wy, an⟩ : At)]) (by rw [hl_]; exact hn) (by rw [hl_]; exact h65)
 exact en (iV 0) [] ⟨_, _, rfl, ⟨rfl, rfl⟩, (tk2 (sf1 (sf3 h66)))⟩

set_option maxHeartbeats 4000000 in
theorem r7all_ht (b : Nat) (T : List At) : HT Tryz.prog 46 [pV b] [LgR b T] (fun v K => ∃ (p : Option Addr) (c : Nat), v = .slice p T.length c ∧ K = [LgR b T, Sl 44 6 p T.length c (fl eAt T)]) := by
 refine hiS Tryz.func46 Tryz.ntmps46 fun g w0 R h0 => ?_
 obtain ⟨p12, c13, hP10, h11⟩ := gr_open h0
 refine go [] <| cl1 Tryz.call104 (r7v b (.slice p12 T.length c13)) h11 fun _ h15 => go [] <| nG (fun q_ => .slice (some ⟨q_, 0, none⟩) 0 0) 44 [] h15 (fun r16 w17 h18 => ⟨kd [], ?_⟩)
 have h19 : sat g w17 [Sl 44 6 (some ⟨r16, 0, none⟩) 0 0 (fl eAt []), Cl b [.bool true, .slice p12 T.length c13] 131, Sl 44 6 p12 T.length c13 (fl eAt T), R] := sl_of_cl h18 rfl (by omega)
 refine go [rd 3 4 1 1 1 h18] ?_
 refine actG ?_
 refine an_append_gv (d := 11) (sz := 6) (s := (Operand.tmp 6)) (x := (Operand.tmp 10)) (z := .agg #[iV 0, iV 0, iV 0, uV 0, iV 0, iV 0]) (p := (some ⟨r16, 0, none⟩)) (p2 := p12) (m := 0) (c := 0) (k := T.length) (c2 := c13) (by_ := 48) (by kernel_rfl) (by kernel_rfl) rfl Tryz.underlying39 (by kernel_rfl) rfl (by decide) (by kernel_rfl) (by kernel_rfl) h19 2 rfl (fl eAt T) (gv_sl _ _ _) (fl_len eAt_ok _) (fl_one eAt_ok _) (by omega) (by omega) T.length (by omega) ?_
 intro p20 cap21 w22 h23
 have h24 : sat g w22 [Sl 44 6 p20 T.length cap21 (fl eAt T), Cl b [.bool true, .slice p12 T.length c13] 131, Sl 44 6 p12 T.length c13 (fl eAt T), R] := sat_imp h23 (fun _ hh => by exact hh)
 obtain ⟨hn25, hn26⟩ := sl_le h24
 refine nxA <| go [] ?_
 have h28 : sat g w22 [LgR b T, Sl 44 6 p20 T.length cap21 (fl eAt T), R] := gr_close hP10 (tk4 (sf3 (sf3 (sf1 (sf3 h24)))))
 exact en (.slice p20 T.length cap21) [] ⟨_, _, rfl, ⟨p20, cap21, rfl, rfl⟩, h28⟩

set_option maxHeartbeats 4000000 in
theorem r7len_ht (b : Nat) (T : List At) : HT Tryz.prog 86 [pV b] [LgR b T] (fun v K => v = iV (((T.length : Nat) : Int)) ∧ K = [LgR b T]) := by
 refine hiS Tryz.func86 Tryz.ntmps86 fun g w0 R h0 => go [] <| cP Tryz.call46 (r7all_ht b T) h0 ?_
 rintro v K _ (⟨p10, c11, rfl, rfl⟩) h13
 have h14 := ap2 h13
 refine go [] ?_
 exact en (iV (((T.length : Nat) : Int))) [] ⟨_, _, rfl, ⟨rfl, rfl⟩, (tk2 (sf1 (sf2 h14)))⟩

set_option maxHeartbeats 4000000 in
theorem r7copy_ht (b : Nat) (T : List At) : HT Tryz.prog 99 [pV b] [LgR b T] (fun v K => ∃ b2 : Nat, v = pV b2 ∧ K = [LgR b T, LgR b2 T]) := by
 refine hiS Tryz.func99 Tryz.ntmps99 fun g w0 R h0 => ?_
 obtain ⟨p12, c13, hP10, h11⟩ := gr_open h0
 refine go [] <| cl1 Tryz.call104 (r7v b (.slice p12 T.length c13)) h11 fun w14 h15 => ?_
 have h16 : sat g w14 [LgR b T, R] := gr_close hP10 h15
 refine go [] <| cP Tryz.call46 (r7all_ht b T) h16 ?_
 rintro v K _ (⟨p17, c18, rfl, rfl⟩) h20
 have h21 := ap2 h20
 refine go [] <| nP 131 [.bool true, .slice p17 T.length c18] h21 (fun r22 w23 h24 => ?_)
 refine go [] ?_
 have h26 : sat g w23 [LgR r22 T, LgR b T, R] := gr_close hP10 (tk4 (sf3 (sf3 (sf2 (sf3 h24)))))
 exact en (pV r22) [] ⟨_, _, rfl, ⟨r22, rfl, rfl⟩, (tk3 (sf2 (sf1 (sf2 h26))))⟩

end Go.Proofs.YtggfnbpohmhphaaGreatDoor

/- Walks, printed by my generator r3.py. -/
namespace Go.Proofs.YtggfnbpohmhphaaGreatDoor
set_option maxHeartbeats 4000000 in
theorem r10new_ht (gn : Int) (hgn : 1 ≤ gn ∧ gn ≤ 4294967295) : HT Tryz.prog 77 [iV 64, iV 1048576, uV gn] [] (fun v K => ∃ b : Nat, v = .tuple #[pV b, iV 0] ∧ K = [PlR b (List.replicate 64 (0, gn, 0))]) := by
 refine hiS Tryz.func77 Tryz.ntmps77 fun g w0 R h0 => go [.v 1 16 (oF (gn < 1))] <| nP 168 [.bool true, iV 1048576, .slice none 0 0] h0 (fun r10 w11 h12 => ?_)
 refine go [] ?_
 have h13 : sat g w11 [Sl 170 4 none 0 0 (fl eId []), Cl r10 [.bool true, iV 1048576, .slice none 0 0] 168, R] := sl_nil 170 4 h12
 refine lpS (fun mz_ a w => ∃ i : Nat, ∃ p2 : Option Addr, ∃ c2 : Nat, ∃ lr : Fr, mz_ = 64 - i ∧ (i ≤ 64) ∧ a = mk 48 (([(0, iV 64), (2, uV gn), (8, pV r10), (9, iV (i : Int))] : Fr) ++ lr) ∧ sat g w [Sl 170 4 p2 i c2 (fl eId (List.replicate i (0, gn, 0))), Cl r10 [.bool true, iV 1048576, .slice p2 i c2] 168, R]) (64 - 0) ⟨0, none, 0, _, rfl, (Nat.zero_le _), (lvF [.k 0 (iV 64), .k 2 (uV gn), .k 8 (pV r10), .o 9 (oJ .i64 0 (0 : Int))]), h13⟩ ?_
 rintro m15 a16 w17 ⟨i, p2, c2, lr14, rfl, hi, rfl, h18⟩
 refine ga <| go [.s 5 2] ?_
 by_cases c19 : (i : Int) < 64
 ·
  refine go [.v 5 2 (oT ((i : Int) < 64)), rd 7 4 1 2 1 h18] <| nG (fun q_ => .slice (some ⟨q_, 0, none⟩) 1 1) 170 [.bool false, .bool false, uV gn, iV 0] h18 (fun r20 _ h22 => ⟨kd [], ?_⟩)
  have h23 := tk4 (sf3 (sf2 (sf3 (sf3 h22))))
  refine actG ?_
  refine an_append (d := 44) (sz := 4) (s := (Operand.tmp 40)) (x := (Operand.tmp 43)) (z := .agg #[.bool false, .bool false, uV 0, iV 0]) (p := p2) (m := i) (c := c2) (k := 1) (c2 := 1) (a := ⟨r20, 0, none⟩) (by_ := 16) (by kernel_rfl) (by kernel_rfl) rfl Tryz.underlying166 (by kernel_rfl) rfl (by decide) (by kernel_rfl) (by kernel_rfl) h23 (fl eId [(0, gn, 0)]) rfl (fun j u hj => by rw [add_off]; exact sat_cell h23 1 rfl (by rw [Nat.zero_add]; exact hj)) (fl_one eId_ok _) (by omega) (by omega) (i + 1) (by omega) ?_
  intro p24 cap25 w26 h27
  have h28 : sat g w26 [Sl 170 4 p24 (i + 1) cap25 (fl eId ((List.replicate i (0, gn, 0)) ++ [(0, gn, 0)])), Cl r20 [.bool false, .bool false, uV gn, iV 0] 170, Cl r10 [.bool true, iV 1048576, .slice p2 i c2] 168, R] := sat_imp h27 (fun _ hh => by rw [fl_app]; exact hh)
  obtain ⟨hn29, hn30⟩ := sl_le h28
  refine nxA ?_
  have h31 := tk4 (sf3 (sf2 (sf2 (sf3 h28))))
  refine go [] <| sP [(2, .slice p24 (i + 1) cap25)] [.bool true, iV 1048576, .slice p24 (i + 1) cap25] h31 fun w32 h33 => go [.v 6 1 (oIr ((i : Int) + 1))] ?_
  refine enL ?_
  have h35 : sat g w32 [Sl 170 4 p24 (i + 1) cap25 (fl eId (List.replicate (i + 1) (0, gn, 0))), Cl r10 [.bool true, iV 1048576, .slice p24 (i + 1) cap25] 168, Cl r20 [.bool false, .bool false, uV gn, iV 0] 170, R] := sat_imp (tk4 (sf3 (sf2 (sf3 (sf3 h33))))) (fun _ hh_ => by rw [show (((List.replicate i (0, gn, 0)) ++ [(0, gn, 0)]) : List Fl) = (List.replicate (i + 1) (0, gn, 0)) from List.replicate_succ'.symm] at hh_; exact hh_)
  have h37 := tk3 (tk4 (sf3 (sf3 (sf3 (sf2 h35)))))
  change ∃ n', n' < _ ∧ _
  refine ⟨(64 - (i + 1)), by omega, (i + 1), p24, cap25, _, rfl, (by omega), (lvF [.k 0 (iV 64), .k 2 (uV gn), .k 8 (pV r10), .o 9 (oJ .i64 ((i : Int) + 1) ((((i + 1) : Nat) : Int)))]), h37⟩
 refine go [.v 5 2 (oF ((i : Int) < 64))] <| up <| go [] ?_
 have hi_ : i = 64 := by omega
 have h38 := tk3 (sf2 (sf1 (sf2 h18)))
 have h39 : sat g w17 [PlR r10 (List.replicate 64 (0, gn, 0)), R] := by rw [hi_] at h38; exact pr_close ⟨List.length_replicate, slok_rep ⟨by omega, by omega⟩, rep_bnd, zv_rep⟩ h38
 exact en (.tuple #[pV r10, iV 0]) [] ⟨_, _, rfl, ⟨r10, rfl, rfl⟩, h39⟩

set_option maxHeartbeats 4000000 in
theorem r10set1_ht (b : Nat) (X : Xs) (q : Nat) (gn va : Int) (hq : q ≤ 63) (hgn : 1 ≤ gn ∧ gn ≤ 4294967295) (hv : 0 ≤ va ∧ va ≤ 65536) : HT Tryz.prog 136 [pV b, iV (((q : Nat) : Int)), .agg #[.bool true, .bool false, uV gn, iV va]] [PlR b X] (fun v K => v = .tuple #[] ∧ K = [PlR b (X.set q (1, gn, va))]) := by
 refine hiS Tryz.func136 Tryz.ntmps136 fun g w0 R h0 => go [] <| nP 170 [.bool true, .bool false, uV gn, iV va] h0 (fun r10 _ h12 => ?_)
 refine go [] <| nG (fun q_ => .slice (some ⟨q_, 0, none⟩) 0 0) 170 [] h12 (fun r13 w14 h15 => ⟨kd [], ?_⟩)
 obtain ⟨p19, c20, hP17, h18⟩ := pr_open (tk4 (sf3 (sf2 (sf2 (sf3 h15)))))
 have hok_ := hP17.2.1
 have h22 : sat g w14 [Sl 170 4 (some ⟨r13, 0, none⟩) 0 0 (fl eId []), Cl b [.bool true, iV 1048576, .slice p19 64 c20] 168, Sl 170 4 p19 64 c20 (fl eId X), Cl r10 [.bool true, .bool false, uV gn, iV va] 170, R] := sl_of_cl (tk5 (sf4 (sf3 (sf3 (sf4 (sf4 h18)))))) rfl (by omega)
 refine go [rd 1 4 0 2 1 h18] ?_
 refine actG ?_
 refine an_append_gv (d := 12) (sz := 4) (s := (Operand.tmp 7)) (x := (Operand.tmp 11)) (z := .agg #[.bool false, .bool false, uV 0, iV 0]) (p := (some ⟨r13, 0, none⟩)) (p2 := p19) (m := 0) (c := 0) (k := 64) (c2 := c20) (by_ := 16) (by kernel_rfl) (by kernel_rfl) rfl Tryz.underlying166 (by kernel_rfl) rfl (by decide) (by kernel_rfl) (by kernel_rfl) h22 2 rfl (fl eId X) (gv_sl _ _ _) (by rw [fl_len eId_ok, hP17.1]) (fl_one eId_ok _) (by omega) (by omega) 64 (by omega) ?_
 intro p23 cap24 w25 h26
 have h27 : sat g w25 [Sl 170 4 p23 64 cap24 (fl eId X), Cl b [.bool true, iV 1048576, .slice p19 64 c20] 168, Sl 170 4 p19 64 c20 (fl eId X), Cl r10 [.bool true, .bool false, uV gn, iV va] 170, R] := sat_imp h26 (fun _ hh => by exact hh)
 obtain ⟨hn28, hn29⟩ := sl_le h27
 refine nxA ?_
 obtain ⟨b30, hp31⟩ := sl_ptr0 (j := 0) h27 rfl (by omega)
 refine go [rd 2 2 3 0 4 h27, .s 2 3] <| lwP (.pointer (some ⟨b30, q * 4, none⟩)) (law_indexSlP (x := (Operand.tmp 13)) (i := (Operand.tmp 14)) (p := p23) (b := b30) (off := 0) (z := (q : Int)) (len := 64) (cap := cap24) (by kernel_rfl) Tryz.underlying166 4 (by kernel_rfl) q (by kernel_rfl) hp31 (by kernel_rfl) (by omega) (by omega) (q * 4) (by omega) _) ?_
 refine actG ?_
 have hl34 := fl_n eId_ok (by decide) h27
 obtain ⟨x35, hx36⟩ : ∃ x, X[q]? = some x := ⟨_, List.getElem?_eq_getElem (by rw [hl34]; omega)⟩
 have hb37 := slOk_as hok_ hx36
 refine an_storeSl (b := b30) [(q * 4, .bool true), (q * 4 + 1, .bool false), (q * 4 + 2, uV gn), (q * 4 + 3, iV va)] (cs' := (fl eId (X.set q (1, gn, va)))) (by kernel_rfl) (by kernel_rfl) hp31 (allq ⟨⟨by omega, rfl⟩, ⟨by omega, rfl⟩, ⟨by omega, rfl⟩, ⟨by omega, rfl⟩, trivial⟩) (by omega) (fl_upd eId_ok (i := q) (x := x35) (y := (1, gn, va)) hx36 [(0, .bool true), (1, .bool false), (2, uV gn), (3, iV va)] rfl rfl rfl) h27 ?_
 intro _ h33
 refine nxB ?_
 have h38 := tk5 (sf4 (sf3 (sf4 (sf4 (sf4 h33)))))
 refine go [] <| sP [(2, .slice p23 64 cap24)] [.bool true, iV 1048576, .slice p23 64 cap24] h38 fun w39 h40 => go [] ?_
 have h41 : sat g w39 [PlR b (X.set q (1, gn, va)), Sl 170 4 p19 64 c20 (fl eId X), Cl r10 [.bool true, .bool false, uV gn, iV va] 170, R] := pr_close (pr_set hP17 ⟨(by decide : (0 : Int) ≤ 1), (by decide : (1 : Int) ≤ 2), hgn.1, hgn.2⟩ (fun _ => hv) (fun q_ => absurd rfl q_)) h40
 exact en (.tuple #[]) [] ⟨_, _, rfl, ⟨rfl, rfl⟩, (tk2 (sf1 (sf3 h41)))⟩

set_option maxHeartbeats 4000000 in
theorem r10set2_ht (b : Nat) (X : Xs) (q : Nat) (gn : Int) (hq : q ≤ 63) (hgn : 1 ≤ gn ∧ gn ≤ 4294967295) : HT Tryz.prog 136 [pV b, iV (((q : Nat) : Int)), .agg #[.bool false, .bool true, uV gn, iV 0]] [PlR b X] (fun v K => v = .tuple #[] ∧ K = [PlR b (X.set q (2, gn, 0))]) := by
 refine hiS Tryz.func136 Tryz.ntmps136 fun g w0 R h0 => go [] <| nP 170 [.bool false, .bool true, uV gn, iV 0] h0 (fun r10 _ h12 => ?_)
 refine go [] <| nG (fun q_ => .slice (some ⟨q_, 0, none⟩) 0 0) 170 [] h12 (fun r13 w14 h15 => ⟨kd [], ?_⟩)
 obtain ⟨p19, c20, hP17, h18⟩ := pr_open (tk4 (sf3 (sf2 (sf2 (sf3 h15)))))
 have hok_ := hP17.2.1
 have h22 : sat g w14 [Sl 170 4 (some ⟨r13, 0, none⟩) 0 0 (fl eId []), Cl b [.bool true, iV 1048576, .slice p19 64 c20] 168, Sl 170 4 p19 64 c20 (fl eId X), Cl r10 [.bool false, .bool true, uV gn, iV 0] 170, R] := sl_of_cl (tk5 (sf4 (sf3 (sf3 (sf4 (sf4 h18)))))) rfl (by omega)
 refine go [rd 1 4 0 2 1 h18] ?_
 refine actG ?_
 refine an_append_gv (d := 12) (sz := 4) (s := (Operand.tmp 7)) (x := (Operand.tmp 11)) (z := .agg #[.bool false, .bool false, uV 0, iV 0]) (p := (some ⟨r13, 0, none⟩)) (p2 := p19) (m := 0) (c := 0) (k := 64) (c2 := c20) (by_ := 16) (by kernel_rfl) (by kernel_rfl) rfl Tryz.underlying166 (by kernel_rfl) rfl (by decide) (by kernel_rfl) (by kernel_rfl) h22 2 rfl (fl eId X) (gv_sl _ _ _) (by rw [fl_len eId_ok, hP17.1]) (fl_one eId_ok _) (by omega) (by omega) 64 (by omega) ?_
 intro p23 cap24 w25 h26
 have h27 : sat g w25 [Sl 170 4 p23 64 cap24 (fl eId X), Cl b [.bool true, iV 1048576, .slice p19 64 c20] 168, Sl 170 4 p19 64 c20 (fl eId X), Cl r10 [.bool false, .bool true, uV gn, iV 0] 170, R] := sat_imp h26 (fun _ hh => by exact hh)
 obtain ⟨hn28, hn29⟩ := sl_le h27
 refine nxA ?_
 obtain ⟨b30, hp31⟩ := sl_ptr0 (j := 0) h27 rfl (by omega)
 refine go [rd 2 2 3 0 4 h27, .s 2 3] <| lwP (.pointer (some ⟨b30, q * 4, none⟩)) (law_indexSlP (x := (Operand.tmp 13)) (i := (Operand.tmp 14)) (p := p23) (b := b30) (off := 0) (z := (q : Int)) (len := 64) (cap := cap24) (by kernel_rfl) Tryz.underlying166 4 (by kernel_rfl) q (by kernel_rfl) hp31 (by kernel_rfl) (by omega) (by omega) (q * 4) (by omega) _) ?_
 refine actG ?_
 have hl34 := fl_n eId_ok (by decide) h27
 obtain ⟨x35, hx36⟩ : ∃ x, X[q]? = some x := ⟨_, List.getElem?_eq_getElem (by rw [hl34]; omega)⟩
 have hb37 := slOk_as hok_ hx36
 refine an_storeSl (b := b30) [(q * 4, .bool false), (q * 4 + 1, .bool true), (q * 4 + 2, uV gn), (q * 4 + 3, iV 0)] (cs' := (fl eId (X.set q (2, gn, 0)))) (by kernel_rfl) (by kernel_rfl) hp31 (allq ⟨⟨by omega, rfl⟩, ⟨by omega, rfl⟩, ⟨by omega, rfl⟩, ⟨by omega, rfl⟩, trivial⟩) (by omega) (fl_upd eId_ok (i := q) (x := x35) (y := (2, gn, 0)) hx36 [(0, .bool false), (1, .bool true), (2, uV gn), (3, iV 0)] rfl rfl rfl) h27 ?_
 intro _ h33
 refine nxB ?_
 have h38 := tk5 (sf4 (sf3 (sf4 (sf4 (sf4 h33)))))
 refine go [] <| sP [(2, .slice p23 64 cap24)] [.bool true, iV 1048576, .slice p23 64 cap24] h38 fun w39 h40 => go [] ?_
 have h41 : sat g w39 [PlR b (X.set q (2, gn, 0)), Sl 170 4 p19 64 c20 (fl eId X), Cl r10 [.bool false, .bool true, uV gn, iV 0] 170, R] := pr_close (pr_set hP17 ⟨(by decide : (0 : Int) ≤ 2), (by decide : (2 : Int) ≤ 2), hgn.1, hgn.2⟩ (fun q_ => absurd q_ (show ¬ (2 : Int) = 1 by decide)) (fun _ => rfl)) h40
 exact en (.tuple #[]) [] ⟨_, _, rfl, ⟨rfl, rfl⟩, (tk2 (sf1 (sf3 h41)))⟩

set_option maxHeartbeats 4000000 in
theorem r10set0_ht (b : Nat) (X : Xs) (q : Nat) (gn : Int) (hq : q ≤ 63) (hgn : 1 ≤ gn ∧ gn ≤ 4294967295) : HT Tryz.prog 136 [pV b, iV (((q : Nat) : Int)), .agg #[.bool false, .bool false, uV gn, iV 0]] [PlR b X] (fun v K => v = .tuple #[] ∧ K = [PlR b (X.set q (0, gn, 0))]) := by
 refine hiS Tryz.func136 Tryz.ntmps136 fun g w0 R h0 => go [] <| nP 170 [.bool false, .bool false, uV gn, iV 0] h0 (fun r10 _ h12 => ?_)
 refine go [] <| nG (fun q_ => .slice (some ⟨q_, 0, none⟩) 0 0) 170 [] h12 (fun r13 w14 h15 => ⟨kd [], ?_⟩)
 obtain ⟨p19, c20, hP17, h18⟩ := pr_open (tk4 (sf3 (sf2 (sf2 (sf3 h15)))))
 have hok_ := hP17.2.1
 have h22 : sat g w14 [Sl 170 4 (some ⟨r13, 0, none⟩) 0 0 (fl eId []), Cl b [.bool true, iV 1048576, .slice p19 64 c20] 168, Sl 170 4 p19 64 c20 (fl eId X), Cl r10 [.bool false, .bool false, uV gn, iV 0] 170, R] := sl_of_cl (tk5 (sf4 (sf3 (sf3 (sf4 (sf4 h18)))))) rfl (by omega)
 refine go [rd 1 4 0 2 1 h18] ?_
 refine actG ?_
 refine an_append_gv (d := 12) (sz := 4) (s := (Operand.tmp 7)) (x := (Operand.tmp 11)) (z := .agg #[.bool false, .bool false, uV 0, iV 0]) (p := (some ⟨r13, 0, none⟩)) (p2 := p19) (m := 0) (c := 0) (k := 64) (c2 := c20) (by_ := 16) (by kernel_rfl) (by kernel_rfl) rfl Tryz.underlying166 (by kernel_rfl) rfl (by decide) (by kernel_rfl) (by kernel_rfl) h22 2 rfl (fl eId X) (gv_sl _ _ _) (by rw [fl_len eId_ok, hP17.1]) (fl_one eId_ok _) (by omega) (by omega) 64 (by omega) ?_
 intro p23 cap24 w25 h26
 have h27 : sat g w25 [Sl 170 4 p23 64 cap24 (fl eId X), Cl b [.bool true, iV 1048576, .slice p19 64 c20] 168, Sl 170 4 p19 64 c20 (fl eId X), Cl r10 [.bool false, .bool false, uV gn, iV 0] 170, R] := sat_imp h26 (fun _ hh => by exact hh)
 obtain ⟨hn28, hn29⟩ := sl_le h27
 refine nxA ?_
 obtain ⟨b30, hp31⟩ := sl_ptr0 (j := 0) h27 rfl (by omega)
 refine go [rd 2 2 3 0 4 h27, .s 2 3] <| lwP (.pointer (some ⟨b30, q * 4, none⟩)) (law_indexSlP (x := (Operand.tmp 13)) (i := (Operand.tmp 14)) (p := p23) (b := b30) (off := 0) (z := (q : Int)) (len := 64) (cap := cap24) (by kernel_rfl) Tryz.underlying166 4 (by kernel_rfl) q (by kernel_rfl) hp31 (by kernel_rfl) (by omega) (by omega) (q * 4) (by omega) _) ?_
 refine actG ?_
 have hl34 := fl_n eId_ok (by decide) h27
 obtain ⟨x35, hx36⟩ : ∃ x, X[q]? = some x := ⟨_, List.getElem?_eq_getElem (by rw [hl34]; omega)⟩
 have hb37 := slOk_as hok_ hx36
 refine an_storeSl (b := b30) [(q * 4, .bool false), (q * 4 + 1, .bool false), (q * 4 + 2, uV gn), (q * 4 + 3, iV 0)] (cs' := (fl eId (X.set q (0, gn, 0)))) (by kernel_rfl) (by kernel_rfl) hp31 (allq ⟨⟨by omega, rfl⟩, ⟨by omega, rfl⟩, ⟨by omega, rfl⟩, ⟨by omega, rfl⟩, trivial⟩) (by omega) (fl_upd eId_ok (i := q) (x := x35) (y := (0, gn, 0)) hx36 [(0, .bool false), (1, .bool false), (2, uV gn), (3, iV 0)] rfl rfl rfl) h27 ?_
 intro _ h33
 refine nxB ?_
 have h38 := tk5 (sf4 (sf3 (sf4 (sf4 (sf4 h33)))))
 refine go [] <| sP [(2, .slice p23 64 cap24)] [.bool true, iV 1048576, .slice p23 64 cap24] h38 fun w39 h40 => go [] ?_
 have h41 : sat g w39 [PlR b (X.set q (0, gn, 0)), Sl 170 4 p19 64 c20 (fl eId X), Cl r10 [.bool false, .bool false, uV gn, iV 0] 170, R] := pr_close (pr_set hP17 ⟨(by decide : (0 : Int) ≤ 0), (by decide : (0 : Int) ≤ 2), hgn.1, hgn.2⟩ (fun q_ => absurd q_ (show ¬ (0 : Int) = 1 by decide)) (fun _ => rfl)) h40
 exact en (.tuple #[]) [] ⟨_, _, rfl, ⟨rfl, rfl⟩, (tk2 (sf1 (sf3 h41)))⟩

theorem pr_used {g w : World} {L : List Assn} {j b : Nat} {X : Xs} (h : sat g w L) (hj : L[j]? = some (PlR b X)) : 0 ≤ used X ∧ used X ≤ 4194304 := by
  have hx : X.length = 64 ∧ SlOk (As X) ∧ Bnd X ∧ Zv X := sat_use h hj fun _ ha _ => by
    obtain ⟨_, hx, _⟩ := ha
    exact hx
  have := used_bd hx.2.2.1
  rw [hx.1] at this
  omega
set_option maxHeartbeats 4000000 in
theorem r10used_ht (b : Nat) (X : Xs) : HT Tryz.prog 160 [pV b] [PlR b X] (fun v K => v = iV ((used X)) ∧ K = [PlR b X]) := by
 refine hiS Tryz.func160 Tryz.ntmps160 fun g w0 R h0 => go [] ?_
 obtain ⟨p12, c13, hP10, h11⟩ := pr_open h0
 have hok_ := hP10.2.1
 have hu0_ : useP X 0 = 0 := rfl
 refine lpS (fun mz_ a w => ∃ i : Nat, ∃ lr : Fr, mz_ = 64 - i ∧ (i ≤ 64) ∧ a = mk 29 (([(0, pV b), (3, iV ((useP X i))), (4, iV (i : Int))] : Fr) ++ lr) ∧ sat g w [Cl b [.bool true, iV 1048576, .slice p12 64 c13] 168, Sl 170 4 p12 64 c13 (fl eId X), R]) (64 - 0) ⟨0, _, rfl, (Nat.zero_le _), (lvF [.k 0 (pV b), .o 3 (oJ .i64 0 ((useP X 0))), .o 4 (oJ .i64 0 (0 : Int))]), h11⟩ ?_
 rintro m15 a16 w17 ⟨i, lr14, rfl, hi, rfl, h18⟩
 refine ga ?_
 have hub_ := useP_bd hP10.2.2.2 hP10.2.2.1 i (by rw [hP10.1]; omega)
 refine go [] <| cl1 Tryz.call142 (r10v b (iV 1048576) (.slice p12 64 c13)) h18 fun w19 h20 => go [rd 3 7 0 2 1 h20, .v 3 8 (oJ .i64 (64 : Int) 64), .s 3 9] ?_
 by_cases c21 : (i : Int) < 64
 ·
  obtain ⟨b22, hp23⟩ := sl_ptr0 (j := 1) h20 rfl (by omega)
  refine go [.v 3 9 (oT ((i : Int) < 64)), rd 5 4 0 2 1 h20, .s 5 6] <| lwP (.pointer (some ⟨b22, i * 4, none⟩)) (law_indexSlP (x := (Operand.tmp 22)) (i := (Operand.tmp 23)) (p := p12) (b := b22) (off := 0) (z := (i : Int)) (len := 64) (cap := c13) (by kernel_rfl) Tryz.underlying166 4 (by kernel_rfl) i (by kernel_rfl) hp23 (by kernel_rfl) (by omega) (by omega) (i * 4) (by omega) _) ?_
  obtain ⟨x24, hx25⟩ : ∃ x, X[i]? = some x := ⟨_, List.getElem?_eq_getElem (by rw [hP10.1]; omega)⟩
  have hb26 := slOk_as hok_ hx25
  have hz27 := zb_at hP10.2.2.2 hP10.2.2.1 hx25
  refine go [.r 5 8 b22 (i * 4 + 3) [iV x24.2.2] ⟨gv_cell (j := 1) h20 rfl (gv_sl _ _ _) hp23 (fl_get eId_ok (j := 3) (v := iV x24.2.2) hx25 rfl) (i * 4 + 3) (by omega), trivial⟩, .v 5 9 (oIr (((useP X i)) + x24.2.2)), .v 4 1 (oIr ((i : Int) + 1))] ?_
  refine enL ?_
  have hug_ := useP_go hx25
  change ∃ n', n' < _ ∧ _
  refine ⟨(64 - (i + 1)), by omega, (i + 1), _, rfl, (by omega), (lvF [.k 0 (pV b), .o 3 (oJ .i64 ((useP X i) + x24.2.2) ((useP X (i + 1)))), .o 4 (oJ .i64 ((i : Int) + 1) ((((i + 1) : Nat) : Int)))]), h20⟩
 refine go [.v 3 9 (oF ((i : Int) < 64))] <| up <| go [] ?_
 have hua_ : useP X i = used X := useP_all hP10.2.2.2 (by rw [hP10.1]; omega)
 have h28 : sat g w19 [PlR b X, R] := pr_close hP10 h20
 exact en (iV ((useP X i))) [] ⟨_, _, rfl, ⟨by rw [hua_], rfl⟩, h28⟩

set_option maxHeartbeats 4000000 in
theorem r10pin_y (b : Nat) (X : Xs) (va : Int) (hv : 1 ≤ va ∧ va ≤ 65536) (hf : used X + va ≤ 1048576) : HT Tryz.prog 130 [pV b, iV va] [PlR b X] (fun v K => v = .tuple #[.agg #[iV ((pinO X va).1), iV ((pinO X va).2.1), uV ((pinO X va).2.2)], iV ((pinE X va))] ∧ K = [PlR b (pinX X va)]) := by
 refine hiS Tryz.func130 Tryz.ntmps130 fun g w0 R h0 => go [] <| nP 32 [iV 0, iV 0, uV 0] h0 (fun r10 _ h12 => ?_)
 obtain ⟨p16, c17, hP14, h15⟩ := pr_open (tk3 (sf2 (sf1 (sf2 h12))))
 have hok_ := hP14.2.1
 refine go [] <| cl1 Tryz.call142 (r10v b (iV 1048576) (.slice p16 64 c17)) h15 fun w18 h19 => go [.v 3 1 (oF (va < 1)), .v 3 4 (oF (va > 65536))] ?_
 have h20 : sat g w18 [PlR b X, Cl r10 [iV 0, iV 0, uV 0] 32, R] := pr_close hP14 h19
 refine lpS (fun mz_ a w => ∃ i : Nat, ∃ lr : Fr, mz_ = 64 - i ∧ (i ≤ 64) ∧ (cnt 0 (As X) i = 0) ∧ a = mk 66 (([(0, pV b), (1, iV va), (4, pV r10), (6, iV (i : Int))] : Fr) ++ lr) ∧ sat g w [PlR b X, Cl r10 [iV 0, iV 0, uV 0] 32, R]) (64 - 0) ⟨0, _, rfl, (Nat.zero_le _), rfl, (lvF [.k 0 (pV b), .k 1 (iV va), .k 4 (pV r10), .o 6 (oJ .i64 0 (0 : Int))]), h20⟩ ?_
 rintro m22 a23 w24 ⟨i, lr21, rfl, hi, hc_, rfl, h25⟩
 refine ga ?_
 obtain ⟨p28, c29, hP26, h27⟩ := pr_open h25
 have hok_ := hP26.2.1
 refine go [rd 6 4 0 2 1 h27, .v 6 5 (oJ .i64 (64 : Int) 64), .s 6 6] ?_
 by_cases c30 : (i : Int) < 64
 ·
  obtain ⟨b31, hp32⟩ := sl_ptr0 (j := 1) h27 rfl (by omega)
  refine go [.v 6 6 (oT ((i : Int) < 64)), rd 8 3 0 2 1 h27, .s 8 5] <| lwP (.pointer (some ⟨b31, i * 4, none⟩)) (law_indexSlP (x := (Operand.tmp 31)) (i := (Operand.tmp 32)) (p := p28) (b := b31) (off := 0) (z := (i : Int)) (len := 64) (cap := c29) (by kernel_rfl) Tryz.underlying166 4 (by kernel_rfl) i (by kernel_rfl) hp32 (by kernel_rfl) (by omega) (by omega) (i * 4) (by omega) _) ?_
  obtain ⟨x33, hx34⟩ : ∃ x, X[i]? = some x := ⟨_, List.getElem?_eq_getElem (by rw [hP26.1]; omega)⟩
  have hb35 := slOk_as hok_ hx34
  refine go [.r 8 6 b31 (i * 4) [.bool (decide (x33.1 = 1)), .bool (decide (x33.1 = 2)), uV x33.2.1, iV x33.2.2] ⟨gv_cell (j := 1) h27 rfl (gv_sl _ _ _) hp32 (fl_get eId_ok (j := 0) (v := .bool (decide (x33.1 = 1))) hx34 rfl) (i * 4) (by omega), gv_cell (j := 1) h27 rfl (gv_sl _ _ _) hp32 (fl_get eId_ok (j := 1) (v := .bool (decide (x33.1 = 2))) hx34 rfl) (i * 4 + 1) (by omega), gv_cell (j := 1) h27 rfl (gv_sl _ _ _) hp32 (fl_get eId_ok (j := 2) (v := uV x33.2.1) hx34 rfl) (i * 4 + 2) (by omega), gv_cell (j := 1) h27 rfl (gv_sl _ _ _) hp32 (fl_get eId_ok (j := 3) (v := iV x33.2.2) hx34 rfl) (i * 4 + 3) (by omega), trivial⟩] <| nP 170 [.bool false, .bool false, uV 0, iV 0] h27 (fun r36 _ h38 => ?_)
  refine sP [(0, .bool (decide (x33.1 = 1))), (1, .bool (decide (x33.1 = 2))), (2, uV x33.2.1), (3, iV x33.2.2)] [.bool (decide (x33.1 = 1)), .bool (decide (x33.1 = 2)), uV x33.2.1, iV x33.2.2] h38 fun _ h40 => go [] <| dw (fls [0, 1, 2, 3, 4, 5, 6, 7, 8, 9, 11, 13, 14, 15, 16] (Tr.an 10 (fls [12, 17, 18] Tr.nil))) h40 fun w41 h42 => go [.s 9 1] ?_
  by_cases c43 : x33.1 = 1
  ·
   refine go [(rd 9 1 0 0 1 h42).b (⟨.bool (decide (x33.1 = 1)), .bool true, (ov_b (decide_eq_true (by omega)))⟩)] <| dsk [] <| go [.v 7 1 (oIr ((i : Int) + 1))] ?_
   refine enL ?_
   have h45 : sat g w41 [PlR b X, Cl r36 [.bool (decide (x33.1 = 1)), .bool (decide (x33.1 = 2)), uV x33.2.1, iV x33.2.2] 170, Cl r10 [iV 0, iV 0, uV 0] 32, R] := pr_close hP26 (tk5 (sf4 (sf4 (sf2 (sf4 (sf4 h42))))))
   have h47 := tk3 (tk4 (sf3 (sf3 (sf3 (sf1 h45)))))
   change ∃ n', n' < _ ∧ _
   refine ⟨(64 - (i + 1)), by omega, (i + 1), _, rfl, (by omega), ((cnt_no (q := 0) (as_get hx34) (by show ¬ x33.1 = 0; omega)).trans hc_), (lvF [.k 0 (pV b), .k 1 (iV va), .k 4 (pV r10), .o 6 (oJ .i64 ((i : Int) + 1) ((((i + 1) : Nat) : Int)))]), h47⟩
  refine go [(rd 9 1 0 0 1 h42).b (⟨.bool (decide (x33.1 = 1)), .bool false, (ov_b (decide_eq_false (by omega)))⟩), .s 9 5] ?_
  by_cases c48 : x33.1 = 2
  ·
   refine go [(rd 9 5 0 1 1 h42).b (⟨.bool (decide (x33.1 = 2)), .bool true, (ov_b (decide_eq_true (by omega)))⟩)] <| dsk [] <| go [.v 7 1 (oIr ((i : Int) + 1))] ?_
   refine enL ?_
   have h50 : sat g w41 [PlR b X, Cl r36 [.bool (decide (x33.1 = 1)), .bool (decide (x33.1 = 2)), uV x33.2.1, iV x33.2.2] 170, Cl r10 [iV 0, iV 0, uV 0] 32, R] := pr_close hP26 (tk5 (sf4 (sf4 (sf2 (sf4 (sf4 h42))))))
   have h52 := tk3 (tk4 (sf3 (sf3 (sf3 (sf1 h50)))))
   change ∃ n', n' < _ ∧ _
   refine ⟨(64 - (i + 1)), by omega, (i + 1), _, rfl, (by omega), ((cnt_no (q := 0) (as_get hx34) (by show ¬ x33.1 = 0; omega)).trans hc_), (lvF [.k 0 (pV b), .k 1 (iV va), .k 4 (pV r10), .o 6 (oJ .i64 ((i : Int) + 1) ((((i + 1) : Nat) : Int)))]), h52⟩
  have h54 : sat g w41 [PlR b X, Cl r36 [.bool (decide (x33.1 = 1)), .bool (decide (x33.1 = 2)), uV x33.2.1, iV x33.2.2] 170, Cl r10 [iV 0, iV 0, uV 0] 32, R] := pr_close hP26 (tk5 (sf4 (sf4 (sf2 (sf4 (sf4 h42))))))
  refine go [(rd 9 5 0 1 1 h42).b (⟨.bool (decide (x33.1 = 2)), .bool false, (ov_b (decide_eq_false (by omega)))⟩), rd 9 16 1 1 1 h42] <| cw1 Tryz.call160 (r10used_ht b X) h54 fun w55 h56 => ?_
  have hu57 := pr_used (j := 0) h56 rfl; have hu57a := hu57.1; have hu57b := hu57.2
  obtain ⟨p60, c61, hP58, h59⟩ := pr_open h56
  have hok_ := hP58.2.1
  refine ⟨kd [rd 0 16 0 1 1 h59], ?_⟩
  have h62 : sat g w55 [PlR b X, Cl r36 [.bool (decide (x33.1 = 1)), .bool (decide (x33.1 = 2)), uV x33.2.1, iV x33.2.2] 170, Cl r10 [iV 0, iV 0, uV 0] 32, R] := pr_close hP58 h59
  refine go [.v 9 12 (oIr (((used X)) + va)), .v 9 17 (oT ((used X) + va ≤ 1048576)), rd 10 3 2 2 1 h59] <| cl1 Tryz.call136 (r10set1_ht b X i x33.2.1 va (by omega) (by omega) (by omega)) h62 fun _ h64 => ?_
  have h65 := tk4 (sf3 (sf2 (sf2 (sf3 h64))))
  refine go [rd 11 2 1 2 1 h64] <| sP [(0, iV 2), (1, iV (i : Int)), (2, uV x33.2.1)] [iV 2, iV (i : Int), uV x33.2.1] h65 fun _ h67 => go [] <| up <| go [] ?_
  have hf_ : (inS 0 (As X) 0)[0]? = some (i, x33.2.1) := by have h_ := inS_at (q := 0) (as_get hx34) (show x33.1 = 0 by omega); rw [hc_] at h_; exact h_
  have ho_ := pin_ok (X := X) (v := va) (by omega) (fre_at0 hf_)
  exact en (.tuple #[.agg #[iV 2, iV (i : Int), uV x33.2.1], iV 0]) [rd 0 0 0 0 3 h67] ⟨_, [PlR b (X.set i (1, x33.2.1, va))], rfl, ⟨by rw [ho_.1, ho_.2.1], by rw [ho_.2.2]⟩, (tk2 (sf1 (sf3 (tk4 (sf3 (sf2 (sf3 (sf3 h67))))))))⟩
 refine go [.v 6 6 (oF ((i : Int) < 64))] <| up ?_
 have h70 := tk4 (sf3 (sf2 (sf2 (sf3 h27))))
 refine go [] <| sP [(0, iV 0), (1, iV 0), (2, uV 0)] [iV 0, iV 0, uV 0] h70 fun w71 h72 => go [] ?_
 have h74 : sat g w71 [PlR b X, Cl r10 [iV 0, iV 0, uV 0] 32, R] := pr_close hP26 (tk4 (sf3 (sf3 (sf1 (sf3 h72)))))
 have ho_ := pin_full (X := X) (v := va) (by omega) (if_pos (fre_none.2 (free_all (A := As X) hc_ (by rw [as_len, hP26.1]; omega))))
 exact en (.tuple #[.agg #[iV 0, iV 0, uV 0], iV 4]) [rd 0 0 0 0 3 h72] ⟨_, [PlR b X], rfl, ⟨by rw [ho_.1, ho_.2.1], by rw [ho_.2.2]⟩, (tk2 (sf1 (sf2 h74)))⟩

set_option maxHeartbeats 4000000 in
theorem r10pin_n (b : Nat) (X : Xs) (va : Int) (hv : 1 ≤ va ∧ va ≤ 65536) (hf : 1048576 < used X + va) : HT Tryz.prog 130 [pV b, iV va] [PlR b X] (fun v K => v = .tuple #[.agg #[iV ((pinO X va).1), iV ((pinO X va).2.1), uV ((pinO X va).2.2)], iV ((pinE X va))] ∧ K = [PlR b (pinX X va)]) := by
 refine hiS Tryz.func130 Tryz.ntmps130 fun g w0 R h0 => go [] <| nP 32 [iV 0, iV 0, uV 0] h0 (fun r10 _ h12 => ?_)
 obtain ⟨p16, c17, hP14, h15⟩ := pr_open (tk3 (sf2 (sf1 (sf2 h12))))
 have hok_ := hP14.2.1
 refine go [] <| cl1 Tryz.call142 (r10v b (iV 1048576) (.slice p16 64 c17)) h15 fun w18 h19 => go [.v 3 1 (oF (va < 1)), .v 3 4 (oF (va > 65536))] ?_
 have h20 : sat g w18 [PlR b X, Cl r10 [iV 0, iV 0, uV 0] 32, R] := pr_close hP14 h19
 refine lpS (fun mz_ a w => ∃ i : Nat, ∃ lr : Fr, mz_ = 64 - i ∧ (i ≤ 64) ∧ a = mk 66 (([(0, pV b), (1, iV va), (4, pV r10), (6, iV (i : Int))] : Fr) ++ lr) ∧ sat g w [PlR b X, Cl r10 [iV 0, iV 0, uV 0] 32, R]) (64 - 0) ⟨0, _, rfl, (Nat.zero_le _), (lvF [.k 0 (pV b), .k 1 (iV va), .k 4 (pV r10), .o 6 (oJ .i64 0 (0 : Int))]), h20⟩ ?_
 rintro m22 a23 w24 ⟨i, lr21, rfl, hi, rfl, h25⟩
 refine ga ?_
 obtain ⟨p28, c29, hP26, h27⟩ := pr_open h25
 have hok_ := hP26.2.1
 refine go [rd 6 4 0 2 1 h27, .v 6 5 (oJ .i64 (64 : Int) 64), .s 6 6] ?_
 by_cases c30 : (i : Int) < 64
 ·
  obtain ⟨b31, hp32⟩ := sl_ptr0 (j := 1) h27 rfl (by omega)
  refine go [.v 6 6 (oT ((i : Int) < 64)), rd 8 3 0 2 1 h27, .s 8 5] <| lwP (.pointer (some ⟨b31, i * 4, none⟩)) (law_indexSlP (x := (Operand.tmp 31)) (i := (Operand.tmp 32)) (p := p28) (b := b31) (off := 0) (z := (i : Int)) (len := 64) (cap := c29) (by kernel_rfl) Tryz.underlying166 4 (by kernel_rfl) i (by kernel_rfl) hp32 (by kernel_rfl) (by omega) (by omega) (i * 4) (by omega) _) ?_
  obtain ⟨x33, hx34⟩ : ∃ x, X[i]? = some x := ⟨_, List.getElem?_eq_getElem (by rw [hP26.1]; omega)⟩
  have hb35 := slOk_as hok_ hx34
  refine go [.r 8 6 b31 (i * 4) [.bool (decide (x33.1 = 1)), .bool (decide (x33.1 = 2)), uV x33.2.1, iV x33.2.2] ⟨gv_cell (j := 1) h27 rfl (gv_sl _ _ _) hp32 (fl_get eId_ok (j := 0) (v := .bool (decide (x33.1 = 1))) hx34 rfl) (i * 4) (by omega), gv_cell (j := 1) h27 rfl (gv_sl _ _ _) hp32 (fl_get eId_ok (j := 1) (v := .bool (decide (x33.1 = 2))) hx34 rfl) (i * 4 + 1) (by omega), gv_cell (j := 1) h27 rfl (gv_sl _ _ _) hp32 (fl_get eId_ok (j := 2) (v := uV x33.2.1) hx34 rfl) (i * 4 + 2) (by omega), gv_cell (j := 1) h27 rfl (gv_sl _ _ _) hp32 (fl_get eId_ok (j := 3) (v := iV x33.2.2) hx34 rfl) (i * 4 + 3) (by omega), trivial⟩] <| nP 170 [.bool false, .bool false, uV 0, iV 0] h27 (fun r36 _ h38 => ?_)
  refine sP [(0, .bool (decide (x33.1 = 1))), (1, .bool (decide (x33.1 = 2))), (2, uV x33.2.1), (3, iV x33.2.2)] [.bool (decide (x33.1 = 1)), .bool (decide (x33.1 = 2)), uV x33.2.1, iV x33.2.2] h38 fun _ h40 => go [] <| dw (fls [0, 1, 2, 3, 4, 5, 6, 7, 8, 9, 11, 13, 14, 15, 16] (Tr.an 10 (fls [12, 17, 18] Tr.nil))) h40 fun w41 h42 => go [.s 9 1] ?_
  by_cases c43 : x33.1 = 1
  ·
   refine go [(rd 9 1 0 0 1 h42).b (⟨.bool (decide (x33.1 = 1)), .bool true, (ov_b (decide_eq_true (by omega)))⟩)] <| dsk [] <| go [.v 7 1 (oIr ((i : Int) + 1))] ?_
   refine enL ?_
   have h45 : sat g w41 [PlR b X, Cl r36 [.bool (decide (x33.1 = 1)), .bool (decide (x33.1 = 2)), uV x33.2.1, iV x33.2.2] 170, Cl r10 [iV 0, iV 0, uV 0] 32, R] := pr_close hP26 (tk5 (sf4 (sf4 (sf2 (sf4 (sf4 h42))))))
   have h47 := tk3 (tk4 (sf3 (sf3 (sf3 (sf1 h45)))))
   change ∃ n', n' < _ ∧ _
   refine ⟨(64 - (i + 1)), by omega, (i + 1), _, rfl, (by omega), (lvF [.k 0 (pV b), .k 1 (iV va), .k 4 (pV r10), .o 6 (oJ .i64 ((i : Int) + 1) ((((i + 1) : Nat) : Int)))]), h47⟩
  refine go [(rd 9 1 0 0 1 h42).b (⟨.bool (decide (x33.1 = 1)), .bool false, (ov_b (decide_eq_false (by omega)))⟩), .s 9 5] ?_
  by_cases c48 : x33.1 = 2
  ·
   refine go [(rd 9 5 0 1 1 h42).b (⟨.bool (decide (x33.1 = 2)), .bool true, (ov_b (decide_eq_true (by omega)))⟩)] <| dsk [] <| go [.v 7 1 (oIr ((i : Int) + 1))] ?_
   refine enL ?_
   have h50 : sat g w41 [PlR b X, Cl r36 [.bool (decide (x33.1 = 1)), .bool (decide (x33.1 = 2)), uV x33.2.1, iV x33.2.2] 170, Cl r10 [iV 0, iV 0, uV 0] 32, R] := pr_close hP26 (tk5 (sf4 (sf4 (sf2 (sf4 (sf4 h42))))))
   have h52 := tk3 (tk4 (sf3 (sf3 (sf3 (sf1 h50)))))
   change ∃ n', n' < _ ∧ _
   refine ⟨(64 - (i + 1)), by omega, (i + 1), _, rfl, (by omega), (lvF [.k 0 (pV b), .k 1 (iV va), .k 4 (pV r10), .o 6 (oJ .i64 ((i : Int) + 1) ((((i + 1) : Nat) : Int)))]), h52⟩
  have h54 : sat g w41 [PlR b X, Cl r36 [.bool (decide (x33.1 = 1)), .bool (decide (x33.1 = 2)), uV x33.2.1, iV x33.2.2] 170, Cl r10 [iV 0, iV 0, uV 0] 32, R] := pr_close hP26 (tk5 (sf4 (sf4 (sf2 (sf4 (sf4 h42))))))
  refine go [(rd 9 5 0 1 1 h42).b (⟨.bool (decide (x33.1 = 2)), .bool false, (ov_b (decide_eq_false (by omega)))⟩), rd 9 16 1 1 1 h42] <| cw1 Tryz.call160 (r10used_ht b X) h54 fun w55 h56 => ?_
  have hu57 := pr_used (j := 0) h56 rfl; have hu57a := hu57.1; have hu57b := hu57.2
  obtain ⟨p60, c61, hP58, h59⟩ := pr_open h56
  have hok_ := hP58.2.1
  refine ⟨kd [rd 0 16 0 1 1 h59], ?_⟩
  refine go [.v 9 12 (oIr (((used X)) + va)), .v 9 17 (oF ((used X) + va ≤ 1048576)), .v 7 1 (oIr ((i : Int) + 1))] ?_
  refine enL ?_
  have h62 : sat g w55 [PlR b X, Cl r36 [.bool (decide (x33.1 = 1)), .bool (decide (x33.1 = 2)), uV x33.2.1, iV x33.2.2] 170, Cl r10 [iV 0, iV 0, uV 0] 32, R] := pr_close hP58 h59
  have h64 := tk3 (tk4 (sf3 (sf3 (sf3 (sf1 h62)))))
  change ∃ n', n' < _ ∧ _
  refine ⟨(64 - (i + 1)), by omega, (i + 1), _, rfl, (by omega), (lvF [.k 0 (pV b), .k 1 (iV va), .k 4 (pV r10), .o 6 (oJ .i64 ((i : Int) + 1) ((((i + 1) : Nat) : Int)))]), h64⟩
 refine go [.v 6 6 (oF ((i : Int) < 64))] <| up ?_
 have h65 := tk4 (sf3 (sf2 (sf2 (sf3 h27))))
 refine go [] <| sP [(0, iV 0), (1, iV 0), (2, uV 0)] [iV 0, iV 0, uV 0] h65 fun w66 h67 => go [] ?_
 have h69 : sat g w66 [PlR b X, Cl r10 [iV 0, iV 0, uV 0] 32, R] := pr_close hP26 (tk4 (sf3 (sf3 (sf1 (sf3 h67)))))
 have ho_ := pin_much (X := X) (v := va) (by omega)
 exact en (.tuple #[.agg #[iV 0, iV 0, uV 0], iV 4]) [rd 0 0 0 0 3 h67] ⟨_, [PlR b X], rfl, ⟨by rw [ho_.1, ho_.2.1], by rw [ho_.2.2]⟩, (tk2 (sf1 (sf2 h69)))⟩

set_option maxHeartbeats 4000000 in
theorem r10find_ht (b : Nat) (X : Xs) (y z : Int) (hT : (As X)[y.toNat]? = some (1, z)) (hy : 0 ≤ y ∧ y ≤ 63) : HT Tryz.prog 135 [pV b, .agg #[iV 2, iV y, uV z]] [PlR b X] (fun v K => v = iV 0 ∧ K = [PlR b X]) := by
 refine hiS Tryz.func135 Tryz.ntmps135 fun g w0 R h0 => go [] <| nP 32 [iV 2, iV y, uV z] h0 (fun r10 _ h12 => ?_)
 obtain ⟨p16, c17, hP14, h15⟩ := pr_open (tk3 (sf2 (sf1 (sf2 h12))))
 have hok_ := hP14.2.1
 refine go [] <| cl1 Tryz.call142 (r10v b (iV 1048576) (.slice p16 64 c17)) h15 fun _ h19 => go [rd 3 1 2 0 1 h19] <| dw (fls [0, 1, 2, 3, 4, 5, 6, 7, 8, 9, 10, 11, 12] Tr.nil) h19 fun _ h21 => go [rd 5 1 2 1 1 h21, .v 5 2 (oF (y < 0)), rd 5 5 2 1 1 h21, rd 5 9 0 2 1 h21, .v 5 10 (oJ .i64 (64 : Int) 64), .v 5 11 (oF (y ≥ 64))] <| dw (fls [0, 1, 2, 3, 4, 5, 6, 7, 8, 9, 10, 11, 12, 13, 14, 15, 16, 17, 18, 19, 20, 21, 22, 23] Tr.nil) h21 fun w22 h23 => ?_
 obtain ⟨b24, hp25⟩ := sl_ptr0 (j := 1) h23 rfl (by omega)
 obtain ⟨kk26, hk27⟩ : ∃ z_ : Nat, y = (z_ : Int) := ⟨(y).toNat, by omega⟩
 refine go [rd 7 3 0 2 1 h23, rd 7 5 2 1 1 h23, .s 7 6] <| lw (.pointer (some ⟨b24, kk26 * 4, none⟩)) (fun _ => law_indexSlP (x := (Operand.tmp 27)) (i := (Operand.tmp 29)) (p := p16) (b := b24) (off := 0) (z := y) (len := 64) (cap := c17) (by kernel_rfl) Tryz.underlying166 4 (by kernel_rfl) kk26 (by kernel_rfl) hp25 (by kernel_rfl) (by omega) (by omega) (kk26 * 4) (by omega) _) ?_
 obtain ⟨x28, hx29⟩ : ∃ x, X[kk26]? = some x := ⟨_, List.getElem?_eq_getElem (by rw [hP14.1]; omega)⟩
 have hb30 := slOk_as hok_ hx29
 have hq31 := thr_x hT (by omega) hx29; have hq31a := hq31.1; have hq31b := hq31.2
 refine go [((Iq.r 7 8 b24 (kk26 * 4) [.bool (decide (x28.1 = 1))] ⟨gv_cell (j := 1) h23 rfl (gv_sl _ _ _) hp25 (fl_get eId_ok (j := 0) (v := .bool (decide (x28.1 = 1))) hx29 rfl) (kk26 * 4) (by omega), trivial⟩)).b (⟨.bool (decide (x28.1 = 1)), .bool true, (ov_b (decide_eq_true (by omega)))⟩), rd 7 14 0 2 1 h23, rd 7 16 2 1 1 h23, .s 7 17] <| lw (.pointer (some ⟨b24, kk26 * 4, none⟩)) (fun _ => law_indexSlP (x := (Operand.tmp 38)) (i := (Operand.tmp 40)) (p := p16) (b := b24) (off := 0) (z := y) (len := 64) (cap := c17) (by kernel_rfl) Tryz.underlying166 4 (by kernel_rfl) kk26 (by kernel_rfl) hp25 (by kernel_rfl) (by omega) (by omega) (kk26 * 4) (by omega) _) <| go [.r 7 19 b24 (kk26 * 4 + 2) [uV x28.2.1] ⟨gv_cell (j := 1) h23 rfl (gv_sl _ _ _) hp25 (fl_get eId_ok (j := 2) (v := uV x28.2.1) hx29 rfl) (kk26 * 4 + 2) (by omega), trivial⟩, rd 7 21 2 2 1 h23, .v 7 22 (qnF x28.2.1 z)] ?_
 have h32 : sat g w22 [PlR b X, Cl r10 [iV 2, iV y, uV z] 32, R] := pr_close hP14 h23
 exact en (iV 0) [] ⟨_, _, rfl, ⟨rfl, rfl⟩, (tk2 (sf1 (sf2 h32)))⟩

set_option maxHeartbeats 4000000 in
theorem r10unpin_ht (b : Nat) (X : Xs) (y z : Int) (hT : (As X)[y.toNat]? = some (1, z)) (hy : 0 ≤ y ∧ y ≤ 63) (hz_ : 1 ≤ z ∧ z ≤ 4294967295) : HT Tryz.prog 89 [pV b, .agg #[iV 2, iV y, uV z]] [PlR b X] (fun v K => v = iV 0 ∧ K = [PlR b (giv X (2, y, z))]) := by
 refine hiS Tryz.func89 Tryz.ntmps89 fun g w0 R h0 => go [] <| nP 32 [iV 2, iV y, uV z] h0 (fun _ _ h12 => ?_)
 have h13 := tk3 (sf2 (sf1 (sf2 h12)))
 refine go [rd 1 1 0 0 3 h12] <| cl1 Tryz.call135 (r10find_ht b X y z hT (by omega)) h13 fun _ h15 => go [rd 4 1 1 2 1 h15, .s 4 2] ?_
 by_cases c16 : z = 4294967295
 ·
  obtain ⟨kk17, hk18⟩ : ∃ z_ : Nat, y = (z_ : Int) := ⟨(y).toNat, by omega⟩
  refine go [.v 4 2 (qeT z 4294967295), rd 5 2 1 1 1 h15, rd 5 4 1 2 1 h15] <| cl1 Tryz.call136 ((by have h_ := r10set2_ht b X kk17 z (by omega) (by omega); rw [show (kk17 : Int) = y from by omega] at h_; exact h_)) h15 fun _ h20 => ?_
  refine go [] ?_
  have hg_ : giv X ((2, y, z) : Ky) = X.set kk17 (2, z, 0) := by unfold giv; show X.set y.toNat (shut z) = _; rw [show y.toNat = kk17 by omega]; unfold shut; rw [if_neg (by omega)]
  exact en (iV 0) [] ⟨_, [PlR b (X.set kk17 (2, z, 0))], rfl, ⟨rfl, by rw [hg_]⟩, (tk2 (sf1 (sf2 h20)))⟩
 obtain ⟨kk22, hk23⟩ : ∃ z_ : Nat, y = (z_ : Int) := ⟨(y).toNat, by omega⟩
 refine go [.v 4 2 (qeF z 4294967295), rd 6 2 1 1 1 h15, rd 6 4 1 2 1 h15, .v 6 5 (oUr (z + 1))] <| cl1 Tryz.call136 ((by have h_ := r10set0_ht b X kk22 (z + 1) (by omega) (by omega); rw [show (kk22 : Int) = y from by omega] at h_; exact h_)) h15 fun _ h25 => ?_
 refine go [] ?_
 have hg_ : giv X ((2, y, z) : Ky) = X.set kk22 (0, z + 1, 0) := by unfold giv; show X.set y.toNat (shut z) = _; rw [show y.toNat = kk22 by omega]; unfold shut; rw [if_pos (by omega)]
 exact en (iV 0) [] ⟨_, [PlR b (X.set kk22 (0, z + 1, 0))], rfl, ⟨rfl, by rw [hg_]⟩, (tk2 (sf1 (sf2 h25)))⟩

set_option maxHeartbeats 4000000 in
theorem r10all_ht (b : Nat) (X : Xs) : HT Tryz.prog 102 [pV b] [PlR b X] (fun v K => ∃ (p : Option Addr) (c : Nat), v = .slice p ((inS 1 (As X) 0).length) c ∧ K = [PlR b X, Sl 32 3 p (((inS 1 (As X) 0).length)) c (fl eO (allK 2 X))]) := by
 refine hiS Tryz.func102 Tryz.ntmps102 fun g w0 R h0 => go [] ?_
 obtain ⟨p12, c13, hP10, h11⟩ := pr_open h0
 have hok_ := hP10.2.1
 have h14 : sat g w0 [Sl 32 3 none 0 0 (fl eO []), Cl b [.bool true, iV 1048576, .slice p12 64 c13] 168, Sl 170 4 p12 64 c13 (fl eId X), R] := sl_nil 32 3 h11
 refine lpS (fun mz_ a w => ∃ i : Nat, ∃ k : Nat, ∃ p2 : Option Addr, ∃ c2 : Nat, ∃ lr : Fr, mz_ = 64 - i ∧ (i ≤ 64) ∧ (k ≤ i) ∧ a = mk 40 (([(0, pV b), (3, .slice p2 k c2), (4, iV (i : Int))] : Fr) ++ lr) ∧ sat g w [Sl 32 3 p2 k c2 (fl eO (allKT 2 X i)), Cl b [.bool true, iV 1048576, .slice p12 64 c13] 168, Sl 170 4 p12 64 c13 (fl eId X), R]) (64 - 0) ⟨0, 0, none, 0, _, rfl, (Nat.zero_le _), (Nat.le_refl _), (lvF [.k 0 (pV b), .k 3 (.slice none 0 0), .o 4 (oJ .i64 0 (0 : Int))]), h14⟩ ?_
 rintro m16 a17 w18 ⟨i, k, p2, c2, lr15, rfl, hi, hk, rfl, h19⟩
 refine ga ?_
 have h20 := tk4 (sf3 (sf2 (sf3 (sf3 h19))))
 refine go [] <| cl1 Tryz.call142 (r10v b (iV 1048576) (.slice p12 64 c13)) h20 fun w21 h22 => go [rd 3 7 0 2 1 h22, .v 3 8 (oJ .i64 (64 : Int) 64), .s 3 9] ?_
 by_cases c23 : (i : Int) < 64
 ·
  obtain ⟨b24, hp25⟩ := sl_ptr0 (j := 2) h22 rfl (by omega)
  refine go [.v 3 9 (oT ((i : Int) < 64)), rd 5 3 0 2 1 h22, .s 5 5] <| lwP (.pointer (some ⟨b24, i * 4, none⟩)) (law_indexSlP (x := (Operand.tmp 21)) (i := (Operand.tmp 22)) (p := p12) (b := b24) (off := 0) (z := (i : Int)) (len := 64) (cap := c13) (by kernel_rfl) Tryz.underlying166 4 (by kernel_rfl) i (by kernel_rfl) hp25 (by kernel_rfl) (by omega) (by omega) (i * 4) (by omega) _) ?_
  obtain ⟨x26, hx27⟩ : ∃ x, X[i]? = some x := ⟨_, List.getElem?_eq_getElem (by rw [hP10.1]; omega)⟩
  have hb28 := slOk_as hok_ hx27
  refine go [.s 5 7] ?_
  by_cases c29 : x26.1 = 1
  ·
   refine go [((Iq.r 5 7 b24 (i * 4) [.bool (decide (x26.1 = 1))] ⟨gv_cell (j := 2) h22 rfl (gv_sl _ _ _) hp25 (fl_get eId_ok (j := 0) (v := .bool (decide (x26.1 = 1))) hx27 rfl) (i * 4) (by omega), trivial⟩)).b (⟨.bool (decide (x26.1 = 1)), .bool true, (ov_b (decide_eq_true (by omega)))⟩), rd 6 5 0 2 1 h22, .s 6 7] <| lwP (.pointer (some ⟨b24, i * 4, none⟩)) (law_indexSlP (x := (Operand.tmp 31)) (i := (Operand.tmp 32)) (p := p12) (b := b24) (off := 0) (z := (i : Int)) (len := 64) (cap := c13) (by kernel_rfl) Tryz.underlying166 4 (by kernel_rfl) i (by kernel_rfl) hp25 (by kernel_rfl) (by omega) (by omega) (i * 4) (by omega) _) <| go [.r 6 9 b24 (i * 4 + 2) [uV x26.2.1] ⟨gv_cell (j := 2) h22 rfl (gv_sl _ _ _) hp25 (fl_get eId_ok (j := 2) (v := uV x26.2.1) hx27 rfl) (i * 4 + 2) (by omega), trivial⟩] <| nG (fun q_ => .slice (some ⟨q_, 0, none⟩) 1 1) 32 [iV 2, iV (i : Int), uV x26.2.1] h22 (fun r30 _ h32 => ⟨kd [], ?_⟩)
   have h33 := tk5 (sf4 (sf3 (sf3 (sf4 (sf4 h32)))))
   refine actG ?_
   refine an_append (d := 38) (sz := 3) (s := (Operand.tmp 26)) (x := (Operand.tmp 37)) (z := .agg #[iV 0, iV 0, uV 0]) (p := p2) (m := k) (c := c2) (k := 1) (c2 := 1) (a := ⟨r30, 0, none⟩) (by_ := 24) (by kernel_rfl) (by kernel_rfl) rfl Tryz.underlying30 (by kernel_rfl) rfl (by decide) (by kernel_rfl) (by kernel_rfl) h33 (fl eO [(2, (i : Int), x26.2.1)]) rfl (fun j u hj => by rw [add_off]; exact sat_cell h33 1 rfl (by rw [Nat.zero_add]; exact hj)) (fl_one eO_ok _) (by omega) (by omega) (k + 1) (by omega) ?_
   intro p34 cap35 w36 h37
   have h38 : sat g w36 [Sl 32 3 p34 (k + 1) cap35 (fl eO ((allKT 2 X i) ++ [(2, (i : Int), x26.2.1)])), Cl r30 [iV 2, iV (i : Int), uV x26.2.1] 32, Cl b [.bool true, iV 1048576, .slice p12 64 c13] 168, Sl 170 4 p12 64 c13 (fl eId X), R] := sat_imp h37 (fun _ hh => by rw [fl_app]; exact hh)
   obtain ⟨hn39, hn40⟩ := sl_le h38
   refine nxA <| go [.v 4 1 (oIr ((i : Int) + 1))] ?_
   refine enL ?_
   have h41 : sat g w36 [Sl 32 3 p34 (k + 1) cap35 (fl eO (allKT 2 X (i + 1))), Cl r30 [iV 2, iV (i : Int), uV x26.2.1] 32, Cl b [.bool true, iV 1048576, .slice p12 64 c13] 168, Sl 170 4 p12 64 c13 (fl eId X), R] := sat_imp h38 (fun _ hh_ => by rw [show (((allKT 2 X i) ++ [(2, (i : Int), x26.2.1)]) : List Ky) = (allKT 2 X (i + 1)) from akT_go hx27 (by omega)] at hh_; exact hh_)
   have h43 := tk4 (tk5 (sf4 (sf4 (sf4 (sf4 (sf1 h41))))))
   change ∃ n', n' < _ ∧ _
   refine ⟨(64 - (i + 1)), by omega, (i + 1), k + 1, p34, cap35, _, rfl, (by omega), (by omega), (lvF [.k 0 (pV b), .k 3 (.slice p34 (k + 1) cap35), .o 4 (oJ .i64 ((i : Int) + 1) ((((i + 1) : Nat) : Int)))]), h43⟩
  refine go [((Iq.r 5 7 b24 (i * 4) [.bool (decide (x26.1 = 1))] ⟨gv_cell (j := 2) h22 rfl (gv_sl _ _ _) hp25 (fl_get eId_ok (j := 0) (v := .bool (decide (x26.1 = 1))) hx27 rfl) (i * 4) (by omega), trivial⟩)).b (⟨.bool (decide (x26.1 = 1)), .bool false, (ov_b (decide_eq_false (by omega)))⟩), .v 4 1 (oIr ((i : Int) + 1))] ?_
  refine enL ?_
  have h45 : sat g w21 [Sl 32 3 p2 k c2 (fl eO (allKT 2 X (i + 1))), Cl b [.bool true, iV 1048576, .slice p12 64 c13] 168, Sl 170 4 p12 64 c13 (fl eId X), R] := sat_imp (tk4 (sf3 (sf2 (sf3 (sf3 h22))))) (fun _ hh_ => by rw [show ((allKT 2 X i) : List Ky) = (allKT 2 X (i + 1)) from akT_no hx27 (by omega)] at hh_; exact hh_)
  change ∃ n', n' < _ ∧ _
  refine ⟨(64 - (i + 1)), by omega, (i + 1), k, p2, c2, _, rfl, (by omega), (by omega), (lvF [.k 0 (pV b), .k 3 (.slice p2 k c2), .o 4 (oJ .i64 ((i : Int) + 1) ((((i + 1) : Nat) : Int)))]), h45⟩
 refine go [.v 3 9 (oF ((i : Int) < 64))] <| up <| go [] ?_
 have h47 : sat g w21 [Sl 32 3 p2 k c2 (fl eO (allK 2 X)), Cl b [.bool true, iV 1048576, .slice p12 64 c13] 168, Sl 170 4 p12 64 c13 (fl eId X), R] := sat_imp (tk4 (sf3 (sf2 (sf3 (sf3 h22))))) (fun _ hh_ => by rw [show ((allKT 2 X i) : List Ky) = (allK 2 X) from (akT_all (by rw [hP10.1]; omega))] at hh_; exact hh_)
 have hl48 := fl_n eO_ok (by decide) h47
 have hk_ : k = ((inS 1 (As X) 0).length) := by have h_ := allK_len 2 X; omega
 have h49 : sat g w21 [Sl 32 3 p2 (((inS 1 (As X) 0).length)) c2 (fl eO (allK 2 X)), Cl b [.bool true, iV 1048576, .slice p12 64 c13] 168, Sl 170 4 p12 64 c13 (fl eId X), R] := sat_imp h47 (fun _ hh_ => by rw [← hk_]; exact hh_)
 have h51 : sat g w21 [PlR b X, Sl 32 3 p2 (((inS 1 (As X) 0).length)) c2 (fl eO (allK 2 X)), R] := pr_close hP10 (tk4 (sf3 (sf3 (sf1 (sf3 h49)))))
 exact en (.slice p2 k c2) [] ⟨_, _, rfl, ⟨p2, c2, by rw [hk_], rfl⟩, h51⟩

set_option maxHeartbeats 4000000 in
theorem r10copy_ht (b : Nat) (X : Xs) : HT Tryz.prog 96 [pV b] [PlR b X] (fun v K => ∃ b2 : Nat, v = pV b2 ∧ K = [PlR b X, PlR b2 X]) := by
 refine hiS Tryz.func96 Tryz.ntmps96 fun g w0 R h0 => ?_
 obtain ⟨p12, c13, hP10, h11⟩ := pr_open h0
 have hok_ := hP10.2.1
 refine go [] <| cl1 Tryz.call142 (r10v b (iV 1048576) (.slice p12 64 c13)) h11 fun _ h15 => go [] <| dw (fls [0, 1, 2, 3, 5, 6, 7, 8] (Tr.an 4 (Tr.an 9 (Tr.fl 10 (Tr.an 11 (Tr.fl 12 Tr.nil)))))) h15 fun _ h17 => go [rd 3 3 0 1 1 h17, rd 3 8 0 2 1 h17] <| nG (fun q_ => .slice (some ⟨q_, 0, none⟩) 0 0) 170 [] h17 (fun r18 w19 h20 => ⟨kd [rd 0 8 1 2 1 h20, rd 0 3 1 1 1 h20], ?_⟩)
 have h21 : sat g w19 [Sl 170 4 (some ⟨r18, 0, none⟩) 0 0 (fl eId []), Cl b [.bool true, iV 1048576, .slice p12 64 c13] 168, Sl 170 4 p12 64 c13 (fl eId X), R] := sl_of_cl h20 rfl (by omega)
 refine actG ?_
 refine an_append_gv (d := 15) (sz := 4) (s := (Operand.tmp 10)) (x := (Operand.tmp 14)) (z := .agg #[.bool false, .bool false, uV 0, iV 0]) (p := (some ⟨r18, 0, none⟩)) (p2 := p12) (m := 0) (c := 0) (k := 64) (c2 := c13) (by_ := 16) (by kernel_rfl) (by kernel_rfl) rfl Tryz.underlying166 (by kernel_rfl) rfl (by decide) (by kernel_rfl) (by kernel_rfl) h21 2 rfl (fl eId X) (gv_sl _ _ _) (by rw [fl_len eId_ok, hP10.1]) (fl_one eId_ok _) (by omega) (by omega) 64 (by omega) ?_
 intro p22 cap23 w24 h25
 have h26 : sat g w24 [Sl 170 4 p22 64 cap23 (fl eId X), Cl b [.bool true, iV 1048576, .slice p12 64 c13] 168, Sl 170 4 p12 64 c13 (fl eId X), R] := sat_imp h25 (fun _ hh => by exact hh)
 obtain ⟨hn27, hn28⟩ := sl_le h26
 refine ⟨kd [rd 0 3 1 1 1 h26], nxG ?_⟩
 refine go [] <| nG (fun q_ => pV q_) 168 [.bool true, iV 1048576, .slice p22 64 cap23] h26 (fun r29 w30 h31 => ⟨kd [], ?_⟩)
 refine go [] ?_
 have h33 : sat g w30 [PlR b X, Cl r29 [.bool true, iV 1048576, .slice p22 64 cap23] 168, Sl 170 4 p22 64 cap23 (fl eId X), R] := pr_close hP10 (tk5 (sf4 (sf4 (sf2 (sf2 (sf4 h31))))))
 have h35 : sat g w30 [PlR r29 X, PlR b X, R] := pr_close hP10 (tk4 (sf3 (sf3 (sf1 (sf3 h33)))))
 exact en (pV r29) [] ⟨_, _, rfl, ⟨r29, rfl, rfl⟩, (tk3 (sf2 (sf1 (sf2 h35))))⟩

end Go.Proofs.YtggfnbpohmhphaaGreatDoor

/- Walks, printed by my generator r4.py. -/
namespace Go.Proofs.YtggfnbpohmhphaaGreatDoor
set_option maxHeartbeats 4000000 in
theorem r11span_ht (tk : Int) (h : 1 ≤ tk ∧ tk ≤ 1048576) : HT Tryz.prog 139 [iV tk] [] (fun v K => v = .bool true ∧ K = []) := by
 refine hiS Tryz.func139 Tryz.ntmps139 fun g w0 R h0 => go [.v 1 1 (oT (tk ≥ 1)), .v 1 4 (oT (tk ≤ 1048576))] ?_
 exact en (.bool true) [] ⟨_, _, rfl, ⟨rfl, rfl⟩, h0⟩

set_option maxHeartbeats 4000000 in
theorem r11time_ht (tk : Int) (h : 0 ≤ tk ∧ tk ≤ 1099511627776) : HT Tryz.prog 140 [iV tk] [] (fun v K => v = .bool true ∧ K = []) := by
 refine hiS Tryz.func140 Tryz.ntmps140 fun g w0 R h0 => go [.v 1 1 (oT (tk ≥ 0)), .v 1 4 (oT (tk ≤ 1099511627776))] ?_
 exact en (.bool true) [] ⟨_, _, rfl, ⟨rfl, rfl⟩, h0⟩

set_option maxHeartbeats 4000000 in
theorem r11new_ht (gn : Int) (hgn : 1 ≤ gn ∧ gn ≤ 4294967295) : HT Tryz.prog 78 [iV 64, uV gn] [] (fun v K => ∃ b : Nat, v = .tuple #[pV b, iV 0] ∧ K = [DkR b (List.replicate 64 (0, gn, 0))]) := by
 refine hiS Tryz.func78 Tryz.ntmps78 fun g w0 R h0 => go [] <| cP Tryz.call128 (r4new_ht gn (by omega)) h0 ?_
 rintro v K _ (⟨b10, rfl, rfl⟩) h12
 have h13 := ap1 h12
 refine go [] ?_
 refine actG ?_
 refine an_make (k1 := .i64) (k2 := .i64) (d := 24) (x := (Operand.tmp 23)) (y := (Operand.tmp 23)) (z := iV 0) (sz := 1) (by_ := 8) (zi := 64) (by kernel_rfl) (by kernel_rfl) rfl Tryz.underlying174 (by kernel_rfl) 64 (by omega) (by kernel_rfl) (by kernel_rfl) (by omega) (by omega) h13 (fl eI (List.replicate 64 0)) (by kernel_rfl) ?_
 intro r14 w15 h16
 obtain ⟨p17, hp18⟩ : ∃ p : Option Addr, p = some ⟨r14, 0, none⟩ := ⟨_, rfl⟩
 have h19 : sat g w15 [Sl 2 1 p17 64 64 (fl eI (List.replicate 64 0)), StR b10 (List.replicate 64 (0, gn)), R] := by rw [hp18]; exact sl_of_cl h16 (by rw [fl_len eI_ok, List.length_replicate]) (by omega)
 rw [← hp18]
 refine nxA <| go [] <| nP 176 [.bool true, pV b10, .slice p17 64 64] h19 (fun r20 w21 h22 => ?_)
 refine go [] ?_
 have h24 : sat g w21 [StR b10 (As (List.replicate 64 (0, gn, 0))), Cl r20 [.bool true, pV b10, .slice p17 64 64] 176, Sl 2 1 p17 64 64 (fl eI (List.replicate 64 0)), R] := sat_imp (tk4 (sf3 (sf2 (sf2 (sf3 h22))))) (fun _ hh_ => by rw [show (List.replicate 64 (0, gn)) = (As (List.replicate 64 (0, gn, 0))) from as_rep 64 gn 0] at hh_; exact hh_)
 have h27 : sat g w21 [DkR r20 (List.replicate 64 (0, gn, 0)), R] := dr_close (V := List.replicate 64 0) ⟨List.length_replicate, vals_new⟩ (tk4 (sf3 (sf2 (sf1 (sf3 (tk4 (sf3 (sf2 (sf2 (sf3 h24))))))))))
 exact en (.tuple #[pV r20, iV 0]) [] ⟨_, _, rfl, ⟨r20, rfl, rfl⟩, h27⟩

set_option maxHeartbeats 4000000 in
theorem r11grant_ht (b : Nat) (X : Xs) (tk nw : Int) (ht : 1 ≤ tk ∧ tk ≤ 1048576) (hn : 0 ≤ nw ∧ nw ≤ 1099511627776) : HT Tryz.prog 131 [pV b, iV tk, iV nw] [DkR b X] (fun v K => v = .tuple #[.agg #[iV ((gntO X tk nw).1), iV ((gntO X tk nw).2.1), uV ((gntO X tk nw).2.2)], iV ((gntE X tk nw))] ∧ K = [DkR b (gntX X tk nw)]) := by
 refine hiS Tryz.func131 Tryz.ntmps131 fun g w0 R h0 => go [] <| nP 32 [iV 0, iV 0, uV 0] h0 (fun r10 _ h12 => ?_)
 obtain ⟨s16, p17, c18, V19, hP14, h15⟩ := dr_open (tk3 (sf2 (sf1 (sf2 h12))))
 refine go [] <| cl1 Tryz.call143 (r11v b (pV s16) (.slice p17 64 c18)) h15 fun _ h21 => go [] <| cl0 Tryz.call139 (r11span_ht tk (by omega)) h21 fun _ h23 => go [] <| cl0 Tryz.call140 (r11time_ht nw (by omega)) h23 fun _ h25 => go [.v 5 2 (oIr (nw + tk)), .s 5 3] ?_
 by_cases c26 : nw + tk > 1099511627776
 ·
  have h27 := tk5 (sf4 (sf3 (sf3 (sf3 (sf4 h25)))))
  refine go [.v 5 3 (oT (nw + tk > 1099511627776))] <| sP [(0, iV 0), (1, iV 0), (2, uV 0)] [iV 0, iV 0, uV 0] h27 fun w28 h29 => go [] ?_
  have ho_ := gnt_over (X := X) (t := tk) (now := nw) (by omega)
  have h31 : sat g w28 [DkR b X, Cl r10 [iV 0, iV 0, uV 0] 32, R] := dr_close hP14 (tk5 (sf4 (sf4 (sf4 (sf1 (sf4 h29))))))
  exact en (.tuple #[.agg #[iV 0, iV 0, uV 0], iV 17]) [rd 0 0 0 0 3 h29] ⟨_, [DkR b X], rfl, ⟨by rw [ho_.1, ho_.2.1], by rw [ho_.2.2]⟩, (tk2 (sf1 (sf2 h31)))⟩
 refine go [.v 5 3 (oF (nw + tk > 1099511627776)), rd 7 3 0 1 1 h25] ?_
 by_cases c33 : (takeV (As X)).2.2 = 0
 ·
  refine cl1 Tryz.call161 (r4take_ht s16 (As X)) (tk5 (sf4 (sf3 (sf4 (sf4 (sf4 h25)))))) fun _ h36 => ?_
  obtain ⟨htk_, ti_, tg_, tu_, hfr_, hxi_, hti_, htg_, hta_⟩ := take_free (X := X) (v := nw + tk) (by omega)
  have htl_ : ti_ < 64 := by have h_ := (List.getElem?_eq_some_iff.1 hxi_).1; rw [hP14.1] at h_; exact h_
  refine go [] <| nP 183 [iV 0, uV 0] h36 (fun r37 _ h39 => ?_)
  refine sP [(0, iV ((takeV (As X)).1)), (1, uV ((takeV (As X)).2.1))] [iV ((takeV (As X)).1), uV ((takeV (As X)).2.1)] h39 fun _ h41 => go [.v 8 1 (qnF ((takeV (As X)).2.2) 0)] <| dw (fls [0, 1, 2, 3, 4, 5, 6, 7, 8, 9] (Tr.an 10 Tr.nil)) h41 fun _ h43 => ?_
  obtain ⟨b44, hp45⟩ := sl_ptr0 (j := 3) h43 rfl (by omega)
  obtain ⟨kk46, hk47⟩ : ∃ z_ : Nat, (takeV (As X)).1 = (z_ : Int) := ⟨((takeV (As X)).1).toNat, by omega⟩
  refine go [rd 10 3 2 2 1 h43, rd 10 5 0 0 1 h43, .v 10 8 (oIr (nw + tk)), .s 10 9] <| lw (.pointer (some ⟨b44, kk46, none⟩)) (fun _ => law_indexSlP (x := (Operand.tmp 42)) (i := (Operand.tmp 44)) (p := p17) (b := b44) (off := 0) (z := ((takeV (As X)).1)) (len := 64) (cap := c18) (by kernel_rfl) Tryz.underlying174 1 (by kernel_rfl) kk46 (by kernel_rfl) hp45 (by kernel_rfl) (by omega) (by omega) kk46 (by omega) _) ?_
  have h48 := tk6 (sf5 (sf4 (sf4 (sf4 (sf5 (sf5 h43))))))
  refine actG ?_
  obtain ⟨x51, hx52⟩ : ∃ x, V19[kk46]? = some x := ⟨_, List.getElem?_eq_getElem (by rw [hP14.2.1]; omega)⟩
  refine an_storeSl (b := b44) [(kk46, iV (nw + tk))] (cs' := (fl eI (V19.set kk46 (nw + tk)))) (by kernel_rfl) (by kernel_rfl) hp45 (allq ⟨⟨by omega, rfl⟩, trivial⟩) (by omega) (fl_upd eI_ok (i := kk46) (x := x51) (y := (nw + tk)) hx52 [(0, iV (nw + tk))] rfl rfl (by simp)) h48 ?_
  intro _ h50
  refine ⟨kd [], nxN ?_⟩
  have h53 := tk6 (sf5 (sf4 (sf4 (sf4 (sf4 (sf5 h50))))))
  refine go [rd 11 1 1 0 1 h50, rd 11 3 1 1 1 h50] <| sP [(0, iV 3), (1, iV ((takeV (As X)).1)), (2, uV ((takeV (As X)).2.1))] [iV 3, iV ((takeV (As X)).1), uV ((takeV (As X)).2.1)] h53 fun w54 h55 => go [] ?_
  have ho_ := gnt_ok (X := X) (t := tk) (now := nw) (by omega) hfr_; have hki_ : kk46 = ti_ := by omega
  have h57 : sat g w54 [StR s16 (As (gntX X tk nw)), Cl r10 [iV 3, iV ((takeV (As X)).1), uV ((takeV (As X)).2.1)] 32, Sl 2 1 p17 64 c18 (fl eI (V19.set kk46 (nw + tk))), Cl r37 [iV ((takeV (As X)).1), uV ((takeV (As X)).2.1)] 183, Cl b [.bool true, pV s16, .slice p17 64 c18] 176, R] := sat_imp (tk6 (sf5 (sf4 (sf4 (sf4 (sf5 (sf5 h55))))))) (fun _ hh_ => by rw [show (takeA (As X)) = (As (gntX X tk nw)) from (by rw [hta_, ho_.2.2])] at hh_; exact hh_)
  have h59 : sat g w54 [Sl 2 1 p17 64 c18 (fl eI (V19.set ti_ (nw + tk))), StR s16 (As (gntX X tk nw)), Cl r10 [iV 3, iV ((takeV (As X)).1), uV ((takeV (As X)).2.1)] 32, Cl r37 [iV ((takeV (As X)).1), uV ((takeV (As X)).2.1)] 183, Cl b [.bool true, pV s16, .slice p17 64 c18] 176, R] := sat_imp (tk6 (sf5 (sf4 (sf4 (sf5 (sf5 (sf5 h57))))))) (fun _ hh_ => by rw [show ((V19.set kk46 (nw + tk)) : List Int) = (V19.set ti_ (nw + tk)) from (by rw [hki_])] at hh_; exact hh_)
  have h61 : sat g w54 [DkR b (gntX X tk nw), Cl r10 [iV 3, iV ((takeV (As X)).1), uV ((takeV (As X)).2.1)] 32, Cl r37 [iV ((takeV (As X)).1), uV ((takeV (As X)).2.1)] 183, R] := dr_close (by rw [ho_.2.2]; exact dk_set hP14 htl_) (tk6 (sf5 (sf4 (sf3 (sf4 (sf4 (sf5 h59)))))))
  exact en (.tuple #[.agg #[iV 3, iV ((takeV (As X)).1), uV ((takeV (As X)).2.1)], iV 0]) [rd 0 0 0 0 3 h55] ⟨_, _, rfl, ⟨by rw [ho_.1, ho_.2.1]; simp only [hti_, htg_], rfl⟩, (tk2 (sf1 (sf3 h61)))⟩
 refine cl1 Tryz.call161 (r4take_ht s16 (As X)) (tk5 (sf4 (sf3 (sf4 (sf4 (sf4 h25)))))) fun _ h65 => go [] <| nP 183 [iV 0, uV 0] h65 (fun r66 _ h68 => ?_)
 refine sP [(0, iV ((takeV (As X)).1)), (1, uV ((takeV (As X)).2.1))] [iV ((takeV (As X)).1), uV ((takeV (As X)).2.1)] h68 fun _ h70 => ?_
 have h71 := tk6 (sf5 (sf4 (sf4 (sf4 (sf4 (sf5 h70))))))
 refine go [.v 8 1 (qnT ((takeV (As X)).2.2) 0)] <| sP [(0, iV 0), (1, iV 0), (2, uV 0)] [iV 0, iV 0, uV 0] h71 fun w72 h73 => go [] ?_
 have hfu_ := take_full (X := X) (by omega); have ho_ := gnt_full (X := X) (t := tk) (now := nw) (by omega) hfu_.1
 have h75 : sat g w72 [StR s16 (As X), Cl r10 [iV 0, iV 0, uV 0] 32, Cl r66 [iV ((takeV (As X)).1), uV ((takeV (As X)).2.1)] 183, Cl b [.bool true, pV s16, .slice p17 64 c18] 176, Sl 2 1 p17 64 c18 (fl eI V19), R] := sat_imp (tk6 (sf5 (sf4 (sf4 (sf5 (sf5 (sf5 h73))))))) (fun _ hh_ => by rw [show (takeA (As X)) = (As X) from hfu_.2.2] at hh_; exact hh_)
 have h77 : sat g w72 [DkR b X, Cl r10 [iV 0, iV 0, uV 0] 32, Cl r66 [iV ((takeV (As X)).1), uV ((takeV (As X)).2.1)] 183, R] := dr_close hP14 (tk6 (sf5 (sf4 (sf5 (sf3 (sf3 (sf5 h75)))))))
 exact en (.tuple #[.agg #[iV 0, iV 0, uV 0], iV 4]) [rd 0 0 0 0 3 h73] ⟨_, [DkR b X], rfl, ⟨by rw [ho_.1, ho_.2.1], by rw [ho_.2.2]⟩, (tk2 (sf1 (sf3 h77)))⟩

set_option maxHeartbeats 4000000 in
theorem r11chk_ht (b : Nat) (X : Xs) (y z : Int) (hT : (As X)[y.toNat]? = some (1, z)) (hy : 0 ≤ y ∧ y ≤ 63) (hz_ : 1 ≤ z ∧ z ≤ 4294967295) : HT Tryz.prog 137 [pV b, .agg #[iV 3, iV y, uV z], .bool false] [DkR b X] (fun v K => v = iV 0 ∧ K = [DkR b X]) := by
 refine hiS Tryz.func137 Tryz.ntmps137 fun g w0 R h0 => go [] <| nP 32 [iV 3, iV y, uV z] h0 (fun r10 _ h12 => ?_)
 obtain ⟨s16, p17, c18, V19, hP14, h15⟩ := dr_open (tk3 (sf2 (sf1 (sf2 h12))))
 refine go [] <| cl1 Tryz.call143 (r11v b (pV s16) (.slice p17 64 c18)) h15 fun _ h21 => go [rd 3 3 3 0 1 h21, rd 3 7 3 0 3 h21] <| cl0 Tryz.call85 (dcouter_ok 3 y z (by omega) (by omega) (by omega)) h21 fun _ h23 => go [] <| dw (fls [0, 1, 2, 3, 4, 5, 6, 7, 8] (Tr.an 9 (Tr.fl 10 Tr.nil))) h23 fun _ h25 => ?_
 have h26 := tk5 (sf4 (sf3 (sf4 (sf4 (sf4 h25)))))
 refine go [rd 5 3 0 1 1 h25, rd 5 5 3 1 1 h25, rd 5 7 3 2 1 h25] <| cw1 Tryz.call162 (r4chk_ht s16 (As X) y z hT (by omega)) h26 fun w27 h28 => ⟨kd [], ?_⟩
 refine go [] ?_
 have h30 : sat g w27 [DkR b X, Cl r10 [iV 3, iV y, uV z] 32, R] := dr_close hP14 (tk5 (sf4 (sf3 (sf4 (sf4 (sf4 h28))))))
 exact en (iV 0) [] ⟨_, _, rfl, ⟨rfl, rfl⟩, (tk2 (sf1 (sf2 h30)))⟩

set_option maxHeartbeats 4000000 in
theorem r11ret_ht (b : Nat) (X : Xs) (y z : Int) (hT : (As X)[y.toNat]? = some (1, z)) (hy : 0 ≤ y ∧ y ≤ 63) (hz_ : 1 ≤ z ∧ z ≤ 4294967295) : HT Tryz.prog 90 [pV b, .agg #[iV 3, iV y, uV z]] [DkR b X] (fun v K => v = iV 0 ∧ K = [DkR b (giv X ((3, y, z) : Ky))]) := by
 refine hiS Tryz.func90 Tryz.ntmps90 fun g w0 R h0 => go [] <| nP 32 [iV 3, iV y, uV z] h0 (fun r10 _ h12 => ?_)
 have h13 := tk3 (sf2 (sf1 (sf2 h12)))
 refine go [rd 1 1 0 0 3 h12] <| cl1 Tryz.call137 (r11chk_ht b X y z hT (by omega) (by omega)) h13 fun _ h15 => go [] <| dw (fls [0, 1, 2, 3, 4, 5, 6, 7, 8] (Tr.an 9 (Tr.fl 10 Tr.nil))) h15 fun _ h17 => ?_
 obtain ⟨s20, p21, c22, V23, hP18, h19⟩ := dr_open h17
 have h24 := tk5 (sf4 (sf3 (sf4 (sf4 (sf4 h19)))))
 refine go [rd 4 3 0 1 1 h19, rd 4 5 3 1 1 h19, rd 4 7 3 2 1 h19] <| cw1 Tryz.call138 (r4give_ht s20 (As X) y z hT (by omega) (by omega)) h24 fun w25 h26 => ⟨kd [], ?_⟩
 refine go [] ?_
 have h27 : sat g w25 [StR s20 (As (giv X ((3, y, z) : Ky))), Cl b [.bool true, pV s20, .slice p21 64 c22] 176, Sl 2 1 p21 64 c22 (fl eI V23), Cl r10 [iV 3, iV y, uV z] 32, R] := sat_imp h26 (fun _ hh_ => by rw [show (giveA (As X) y.toNat z) = (As (giv X ((3, y, z) : Ky))) from (giveA_giv X ((3, y, z) : Ky) (by show y = _; omega))] at hh_; exact hh_)
 have h29 : sat g w25 [DkR b (giv X ((3, y, z) : Ky)), Cl r10 [iV 3, iV y, uV z] 32, R] := dr_close (dk_giv (o := ((3, y, z) : Ky)) hP18) (tk5 (sf4 (sf3 (sf4 (sf4 (sf4 h27))))))
 exact en (iV 0) [] ⟨_, _, rfl, ⟨rfl, rfl⟩, (tk2 (sf1 (sf2 h29)))⟩

set_option maxHeartbeats 4000000 in
theorem r11unt_ht (b : Nat) (X : Xs) (y z : Int) (hT : (As X)[y.toNat]? = some (1, z)) (hy : 0 ≤ y ∧ y ≤ 63) (hz_ : 1 ≤ z ∧ z ≤ 4294967295) : HT Tryz.prog 100 [pV b, .agg #[iV 3, iV y, uV z]] [DkR b X] (fun v K => v = .tuple #[iV ((vaA X y.toNat)), iV 0] ∧ K = [DkR b X]) := by
 refine hiS Tryz.func100 Tryz.ntmps100 fun g w0 R h0 => go [] <| nP 32 [iV 3, iV y, uV z] h0 (fun r10 _ h12 => ?_)
 have h13 := tk3 (sf2 (sf1 (sf2 h12)))
 refine go [rd 1 1 0 0 3 h12] <| cl1 Tryz.call137 (r11chk_ht b X y z hT (by omega) (by omega)) h13 fun _ h15 => go [] <| dw (fls [0, 1, 2, 3, 4, 5, 6, 7, 8, 9] Tr.nil) h15 fun w16 h17 => ?_
 obtain ⟨s20, p21, c22, V23, hP18, h19⟩ := dr_open h17
 obtain ⟨b24, hp25⟩ := sl_ptr0 (j := 2) h19 rfl (by omega)
 obtain ⟨kk26, hk27⟩ : ∃ z_ : Nat, y = (z_ : Int) := ⟨(y).toNat, by omega⟩
 refine go [rd 4 3 0 2 1 h19, rd 4 5 3 1 1 h19, .s 4 6] <| lw (.pointer (some ⟨b24, kk26, none⟩)) (fun _ => law_indexSlP (x := (Operand.tmp 16)) (i := (Operand.tmp 18)) (p := p21) (b := b24) (off := 0) (z := y) (len := 64) (cap := c22) (by kernel_rfl) Tryz.underlying174 1 (by kernel_rfl) kk26 (by kernel_rfl) hp25 (by kernel_rfl) (by omega) (by omega) kk26 (by omega) _) ?_
 obtain ⟨x28, hx29⟩ : ∃ x, V23[kk26]? = some x := ⟨_, List.getElem?_eq_getElem (by rw [hP18.2.1]; omega)⟩
 have hva_ : x28 = vaA X y.toNat := (vals_at hP18.2 (show (As X)[kk26]? = some (1, z) by rw [show kk26 = y.toNat by omega]; exact hT) hx29).trans (by rw [show kk26 = y.toNat by omega])
 refine go [.r 4 7 b24 kk26 [iV x28] ⟨gv_cell (j := 2) h19 rfl (gv_sl _ _ _) hp25 (fl_get eI_ok (j := 0) (v := iV x28) hx29 rfl) kk26 (by omega), trivial⟩] ?_
 have h30 : sat g w16 [DkR b X, Cl r10 [iV 3, iV y, uV z] 32, R] := dr_close hP18 h19
 exact en (.tuple #[iV x28, iV 0]) [] ⟨_, _, rfl, ⟨by rw [hva_], rfl⟩, (tk2 (sf1 (sf2 h30)))⟩

set_option maxHeartbeats 4000000 in
theorem r11ren_ht (b : Nat) (X : Xs) (y z : Int) (hT : (As X)[y.toNat]? = some (1, z)) (hy : 0 ≤ y ∧ y ≤ 63) (hz_ : 1 ≤ z ∧ z ≤ 4294967295) (tk nw : Int) (ht : 1 ≤ tk ∧ tk ≤ 1048576) (hn : 0 ≤ nw ∧ nw ≤ 1099511627776) : HT Tryz.prog 93 [pV b, .agg #[iV 3, iV y, uV z], iV tk, iV nw] [DkR b X] (fun v K => v = iV ((rnE (vaA X y.toNat) tk nw)) ∧ K = [DkR b (rnX X ((3, y, z) : Ky) tk nw)]) := by
 refine hiS Tryz.func93 Tryz.ntmps93 fun g w0 R h0 => go [] <| nP 32 [iV 3, iV y, uV z] h0 (fun r10 _ h12 => ?_)
 refine go [] <| dw (fls [0, 1, 2] (Tr.an 3 (fls [4, 5, 6] (Tr.an 7 (fls [8, 9] (Tr.an 10 (Tr.fl 11 Tr.nil))))))) h12 fun _ h14 => go [rd 1 1 0 0 3 h14] <| cw0 Tryz.call139 (r11span_ht tk (by omega)) h14 fun _ h16 => ⟨kd [rd 0 1 0 0 3 h16], ?_⟩
 refine go [] <| cw0 Tryz.call140 (r11time_ht nw (by omega)) h16 fun _ h18 => ⟨kd [rd 0 1 0 0 3 h18], ?_⟩
 have h19 := tk3 (sf2 (sf1 (sf2 h18)))
 refine go [] <| cw1 Tryz.call137 (r11chk_ht b X y z hT (by omega) (by omega)) h19 fun _ h21 => ⟨kd [], ?_⟩
 refine go [] <| dw (fls [0, 1, 2, 3, 4, 5, 6, 7, 8, 9] Tr.nil) h21 fun w22 h23 => ?_
 obtain ⟨s26, p27, c28, V29, hP24, h25⟩ := dr_open h23
 obtain ⟨b30, hp31⟩ := sl_ptr0 (j := 2) h25 rfl (by omega)
 obtain ⟨kk32, hk33⟩ : ∃ z_ : Nat, y = (z_ : Int) := ⟨(y).toNat, by omega⟩
 refine go [rd 4 4 0 2 1 h25, rd 4 6 3 1 1 h25, .s 4 7] <| lw (.pointer (some ⟨b30, kk32, none⟩)) (fun _ => law_indexSlP (x := (Operand.tmp 28)) (i := (Operand.tmp 30)) (p := p27) (b := b30) (off := 0) (z := y) (len := 64) (cap := c28) (by kernel_rfl) Tryz.underlying174 1 (by kernel_rfl) kk32 (by kernel_rfl) hp31 (by kernel_rfl) (by omega) (by omega) kk32 (by omega) _) ?_
 obtain ⟨x34, hx35⟩ : ∃ x, V29[kk32]? = some x := ⟨_, List.getElem?_eq_getElem (by rw [hP24.2.1]; omega)⟩
 have hva_ : x34 = vaA X y.toNat := (vals_at hP24.2 (show (As X)[kk32]? = some (1, z) by rw [show kk32 = y.toNat by omega]; exact hT) hx35).trans (by rw [show kk32 = y.toNat by omega])
 refine go [.r 4 8 b30 kk32 [iV x34] ⟨gv_cell (j := 2) h25 rfl (gv_sl _ _ _) hp31 (fl_get eI_ok (j := 0) (v := iV x34) hx35 rfl) kk32 (by omega), trivial⟩, .s 4 9] ?_
 by_cases c36 : nw ≥ x34
 ·
  refine go [.v 4 9 (oT (nw ≥ x34))] ?_
  have hre_ : rnE (vaA X y.toNat) tk nw = 8 := by unfold rnE; rw [if_pos (by omega)]
  have hyq_ : y = ((y.toNat : Nat) : Int) := by omega
  have hrx_ := dk_rn (o := ((3, y, z) : Ky)) (t := tk) (now := nw) hP24 hyq_ (by omega)
  have h38 : sat g w22 [StR s26 (As (rnX X ((3, y, z) : Ky) tk nw)), Cl b [.bool true, pV s26, .slice p27 64 c28] 176, Sl 2 1 p27 64 c28 (fl eI V29), Cl r10 [iV 3, iV y, uV z] 32, R] := sat_imp (tk5 (sf4 (sf3 (sf4 (sf4 (sf4 h25)))))) (fun _ hh_ => by rw [show (As X) = (As (rnX X ((3, y, z) : Ky) tk nw)) from (rn_as (o := ((3, y, z) : Ky)) hT).symm] at hh_; exact hh_)
  have h40 : sat g w22 [Sl 2 1 p27 64 c28 (fl eI (rnV V29 y.toNat (vaA X y.toNat) tk nw)), StR s26 (As (rnX X ((3, y, z) : Ky) tk nw)), Cl b [.bool true, pV s26, .slice p27 64 c28] 176, Cl r10 [iV 3, iV y, uV z] 32, R] := sat_imp (tk5 (sf4 (sf3 (sf3 (sf4 (sf4 h38)))))) (fun _ hh_ => by rw [show (V29 : List Int) = (rnV V29 y.toNat (vaA X y.toNat) tk nw) from (by unfold rnV; rw [if_neg (by rw [hre_]; decide)])] at hh_; exact hh_)
  have h42 : sat g w22 [DkR b (rnX X ((3, y, z) : Ky) tk nw), Cl r10 [iV 3, iV y, uV z] 32, R] := dr_close hrx_ (tk5 (sf4 (sf3 (sf2 (sf4 (sf4 h40))))))
  exact en (iV 8) [] ⟨_, _, rfl, ⟨by rw [hre_], rfl⟩, (tk2 (sf1 (sf2 h42)))⟩
 refine go [.v 4 9 (oF (nw ≥ x34)), .v 6 2 (oIr (nw + tk)), .s 6 3] ?_
 by_cases c44 : nw + tk > 1099511627776
 ·
  refine go [.v 6 3 (oT (nw + tk > 1099511627776))] ?_
  have hre_ : rnE (vaA X y.toNat) tk nw = 17 := by unfold rnE; rw [if_neg (by omega), if_pos (by omega)]
  have hyq_ : y = ((y.toNat : Nat) : Int) := by omega
  have hrx_ := dk_rn (o := ((3, y, z) : Ky)) (t := tk) (now := nw) hP24 hyq_ (by omega)
  have h46 : sat g w22 [StR s26 (As (rnX X ((3, y, z) : Ky) tk nw)), Cl b [.bool true, pV s26, .slice p27 64 c28] 176, Sl 2 1 p27 64 c28 (fl eI V29), Cl r10 [iV 3, iV y, uV z] 32, R] := sat_imp (tk5 (sf4 (sf3 (sf4 (sf4 (sf4 h25)))))) (fun _ hh_ => by rw [show (As X) = (As (rnX X ((3, y, z) : Ky) tk nw)) from (rn_as (o := ((3, y, z) : Ky)) hT).symm] at hh_; exact hh_)
  have h48 : sat g w22 [Sl 2 1 p27 64 c28 (fl eI (rnV V29 y.toNat (vaA X y.toNat) tk nw)), StR s26 (As (rnX X ((3, y, z) : Ky) tk nw)), Cl b [.bool true, pV s26, .slice p27 64 c28] 176, Cl r10 [iV 3, iV y, uV z] 32, R] := sat_imp (tk5 (sf4 (sf3 (sf3 (sf4 (sf4 h46)))))) (fun _ hh_ => by rw [show (V29 : List Int) = (rnV V29 y.toNat (vaA X y.toNat) tk nw) from (by unfold rnV; rw [if_neg (by rw [hre_]; decide)])] at hh_; exact hh_)
  have h50 : sat g w22 [DkR b (rnX X ((3, y, z) : Ky) tk nw), Cl r10 [iV 3, iV y, uV z] 32, R] := dr_close hrx_ (tk5 (sf4 (sf3 (sf2 (sf4 (sf4 h48))))))
  exact en (iV 17) [] ⟨_, _, rfl, ⟨by rw [hre_], rfl⟩, (tk2 (sf1 (sf2 h50)))⟩
 refine go [.v 6 3 (oF (nw + tk > 1099511627776))] <| dw (fls [0, 1, 2, 3, 4, 5, 6, 7, 8, 9] (Tr.an 10 Tr.nil)) h25 fun _ h53 => go [rd 8 3 0 2 1 h53, rd 8 5 3 1 1 h53, .v 8 8 (oIr (nw + tk)), .s 8 9] <| lw (.pointer (some ⟨b30, kk32, none⟩)) (fun _ => law_indexSlP (x := (Operand.tmp 41)) (i := (Operand.tmp 43)) (p := p27) (b := b30) (off := 0) (z := y) (len := 64) (cap := c28) (by kernel_rfl) Tryz.underlying174 1 (by kernel_rfl) kk32 (by kernel_rfl) hp31 (by kernel_rfl) (by omega) (by omega) kk32 (by omega) _) ?_
 have h54 := tk5 (sf4 (sf3 (sf3 (sf4 (sf4 h53)))))
 refine actG ?_
 refine an_storeSl (b := b30) [(kk32, iV (nw + tk))] (cs' := (fl eI (V29.set kk32 (nw + tk)))) (by kernel_rfl) (by kernel_rfl) hp31 (allq ⟨⟨by omega, rfl⟩, trivial⟩) (by omega) (fl_upd eI_ok (i := kk32) (x := x34) (y := (nw + tk)) hx35 [(0, iV (nw + tk))] rfl rfl (by simp)) h54 ?_
 intro w55 h56
 refine ⟨kd [], nxN ?_⟩
 refine go [] ?_
 have hre_ : rnE (vaA X y.toNat) tk nw = 0 := by unfold rnE; rw [if_neg (by omega), if_neg (by omega)]
 have hyq_ : y = ((y.toNat : Nat) : Int) := by omega
 have hrx_ := dk_rn (o := ((3, y, z) : Ky)) (t := tk) (now := nw) hP24 hyq_ (by omega)
 have h58 : sat g w55 [StR s26 (As (rnX X ((3, y, z) : Ky) tk nw)), Sl 2 1 p27 64 c28 (fl eI (V29.set kk32 (nw + tk))), Cl b [.bool true, pV s26, .slice p27 64 c28] 176, Cl r10 [iV 3, iV y, uV z] 32, R] := sat_imp (tk5 (sf4 (sf3 (sf3 (sf4 (sf4 h56)))))) (fun _ hh_ => by rw [show (As X) = (As (rnX X ((3, y, z) : Ky) tk nw)) from (rn_as (o := ((3, y, z) : Ky)) hT).symm] at hh_; exact hh_)
 have h60 : sat g w55 [Sl 2 1 p27 64 c28 (fl eI (rnV V29 y.toNat (vaA X y.toNat) tk nw)), StR s26 (As (rnX X ((3, y, z) : Ky) tk nw)), Cl b [.bool true, pV s26, .slice p27 64 c28] 176, Cl r10 [iV 3, iV y, uV z] 32, R] := sat_imp (tk5 (sf4 (sf3 (sf4 (sf4 (sf4 h58)))))) (fun _ hh_ => by rw [show ((V29.set kk32 (nw + tk)) : List Int) = (rnV V29 y.toNat (vaA X y.toNat) tk nw) from (by unfold rnV; rw [if_pos hre_, show y.toNat = kk32 by omega])] at hh_; exact hh_)
 have h62 : sat g w55 [DkR b (rnX X ((3, y, z) : Ky) tk nw), Cl r10 [iV 3, iV y, uV z] 32, R] := dr_close hrx_ (tk5 (sf4 (sf3 (sf2 (sf4 (sf4 h60))))))
 exact en (iV 0) [] ⟨_, _, rfl, ⟨by rw [hre_], rfl⟩, (tk2 (sf1 (sf2 h62)))⟩

set_option maxHeartbeats 4000000 in
theorem r11all_ht (b : Nat) (X : Xs) : HT Tryz.prog 103 [pV b] [DkR b X] (fun v K => ∃ (p : Option Addr) (c : Nat), v = .slice p ((inS 1 (As X) 0).length) c ∧ K = [DkR b X, Sl 32 3 p (((inS 1 (As X) 0).length)) c (fl eO (allK 3 X))]) := by
 refine hiS Tryz.func103 Tryz.ntmps103 fun g w0 R h0 => ?_
 obtain ⟨s12, p13, c14, V15, hP10, h11⟩ := dr_open h0
 refine go [] <| cl1 Tryz.call143 (r11v b (pV s12) (.slice p13 64 c14)) h11 fun _ h17 => ?_
 have h20 := tk4 (sf3 (sf2 (sf3 (sf3 h17))))
 refine go [rd 4 3 0 1 1 h17] <| cP Tryz.call145 (r4tkn_ht s12 (As X)) h20 ?_
 rintro v K w21 (⟨p18, c19, rfl, rfl⟩) h22
 have h23 := ap2 h22
 have hnl_ : ((inS 1 (As X) 0).length) ≤ 64 := by have h_ := inS_len 1 (As X) 0; rw [as_len, hP10.1] at h_; exact h_
 refine go [] ?_
 have h24 : sat g w21 [Sl 32 3 none 0 0 (fl eO []), StR s12 (As X), Sl 183 2 p18 (((inS 1 (As X) 0).length)) c19 (fl eRf (inS 1 (As X) 0)), Cl b [.bool true, pV s12, .slice p13 64 c14] 176, Sl 2 1 p13 64 c14 (fl eI V15), R] := sl_nil 32 3 h23
 refine lpS (fun mz_ a w => ∃ i : Nat, ∃ k : Nat, ∃ p2 : Option Addr, ∃ c2 : Nat, ∃ lr : Fr, mz_ = (((inS 1 (As X) 0).length)) - i ∧ (i ≤ ((inS 1 (As X) 0).length)) ∧ (k ≤ i) ∧ a = mk 35 (([(3, .slice p2 k c2), (4, .slice p18 (((inS 1 (As X) 0).length)) c19), (5, iV (i : Int))] : Fr) ++ lr) ∧ sat g w [Sl 32 3 p2 k c2 (fl eO (((inS 1 (As X) 0).take i).map ky3)), StR s12 (As X), Sl 183 2 p18 (((inS 1 (As X) 0).length)) c19 (fl eRf (inS 1 (As X) 0)), Cl b [.bool true, pV s12, .slice p13 64 c14] 176, Sl 2 1 p13 64 c14 (fl eI V15), R]) ((((inS 1 (As X) 0).length)) - 0) ⟨0, 0, none, 0, _, rfl, (Nat.zero_le _), (Nat.le_refl _), (lvF [.k 3 (.slice none 0 0), .k 4 (.slice p18 (((inS 1 (As X) 0).length)) c19), .o 5 (oJ .i64 0 (0 : Int))]), h24⟩ ?_
 rintro m26 a27 w28 ⟨i, k, p2, c2, lr25, rfl, hi, hk, rfl, h29⟩
 refine ga <| go [.s 6 3] ?_
 by_cases c30 : (i : Int) < (((inS 1 (As X) 0).length : Nat) : Int)
 ·
  refine go [.v 6 3 (oT ((i : Int) < (((inS 1 (As X) 0).length : Nat) : Int)))] <| dw (fls [0, 1, 2, 3, 4, 5, 6, 7, 8, 9, 10, 11] (Tr.an 12 (Tr.an 13 (Tr.fl 14 Tr.nil)))) h29 fun _ h32 => ?_
  obtain ⟨b33, hp34⟩ := sl_ptr0 (j := 2) h32 rfl (by omega)
  refine go [.s 8 3] <| lw (.pointer (some ⟨b33, i * 2, none⟩)) (fun _ => law_indexSlP (x := (Operand.tmp 21)) (i := (Operand.tmp 22)) (p := p18) (b := b33) (off := 0) (z := (i : Int)) (len := (((inS 1 (As X) 0).length))) (cap := c19) (by kernel_rfl) Tryz.underlying185 2 (by kernel_rfl) i (by kernel_rfl) hp34 (by kernel_rfl) (by omega) (by omega) (i * 2) (by omega) _) ?_
  obtain ⟨x35, hx36⟩ : ∃ x, (inS 1 (As X) 0)[i]? = some x := ⟨_, List.getElem?_eq_getElem (by omega)⟩
  refine go [.r 8 5 b33 (i * 2) [iV (((x35.1 : Nat) : Int))] ⟨gv_cell (j := 2) h32 rfl (gv_sl _ _ _) hp34 (fl_get eRf_ok (j := 0) (v := iV (((x35.1 : Nat) : Int))) hx36 rfl) (i * 2) (by omega), trivial⟩, .s 8 8] <| lw (.pointer (some ⟨b33, i * 2, none⟩)) (fun _ => law_indexSlP (x := (Operand.tmp 26)) (i := (Operand.tmp 27)) (p := p18) (b := b33) (off := 0) (z := (i : Int)) (len := (((inS 1 (As X) 0).length))) (cap := c19) (by kernel_rfl) Tryz.underlying185 2 (by kernel_rfl) i (by kernel_rfl) hp34 (by kernel_rfl) (by omega) (by omega) (i * 2) (by omega) _) <| go [.r 8 10 b33 (i * 2 + 1) [uV x35.2] ⟨gv_cell (j := 2) h32 rfl (gv_sl _ _ _) hp34 (fl_get eRf_ok (j := 1) (v := uV x35.2) hx36 rfl) (i * 2 + 1) (by omega), trivial⟩] <| nG (fun q_ => .slice (some ⟨q_, 0, none⟩) 1 1) 32 [iV 3, iV (((x35.1 : Nat) : Int)), uV x35.2] h32 (fun r37 _ h39 => ⟨kd [], ?_⟩)
  have h40 := tk7 (sf6 (sf5 (sf6 (sf6 (sf6 (sf6 (sf6 h39)))))))
  refine actG ?_
  refine an_append (d := 33) (sz := 3) (s := (Operand.tmp 20)) (x := (Operand.tmp 32)) (z := .agg #[iV 0, iV 0, uV 0]) (p := p2) (m := k) (c := c2) (k := 1) (c2 := 1) (a := ⟨r37, 0, none⟩) (by_ := 24) (by kernel_rfl) (by kernel_rfl) rfl Tryz.underlying30 (by kernel_rfl) rfl (by decide) (by kernel_rfl) (by kernel_rfl) h40 (fl eO [(3, ((x35.1 : Nat) : Int), x35.2)]) rfl (fun j u hj => by rw [add_off]; exact sat_cell h40 1 rfl (by rw [Nat.zero_add]; exact hj)) (fl_one eO_ok _) (by omega) (by omega) (k + 1) (by omega) ?_
  intro p41 cap42 w43 h44
  have h45 : sat g w43 [Sl 32 3 p41 (k + 1) cap42 (fl eO ((((inS 1 (As X) 0).take i).map ky3) ++ [(3, ((x35.1 : Nat) : Int), x35.2)])), Cl r37 [iV 3, iV (((x35.1 : Nat) : Int)), uV x35.2] 32, StR s12 (As X), Sl 183 2 p18 (((inS 1 (As X) 0).length)) c19 (fl eRf (inS 1 (As X) 0)), Cl b [.bool true, pV s12, .slice p13 64 c14] 176, Sl 2 1 p13 64 c14 (fl eI V15), R] := sat_imp h44 (fun _ hh => by rw [fl_app]; exact hh)
  obtain ⟨hn46, hn47⟩ := sl_le h45
  refine ⟨kd [], nxG ?_⟩
  refine go [.v 7 1 (oIr ((i : Int) + 1))] ?_
  refine enL ?_
  have h48 : sat g w43 [Sl 32 3 p41 (k + 1) cap42 (fl eO (((inS 1 (As X) 0).take (i + 1)).map ky3)), Cl r37 [iV 3, iV (((x35.1 : Nat) : Int)), uV x35.2] 32, StR s12 (As X), Sl 183 2 p18 (((inS 1 (As X) 0).length)) c19 (fl eRf (inS 1 (As X) 0)), Cl b [.bool true, pV s12, .slice p13 64 c14] 176, Sl 2 1 p13 64 c14 (fl eI V15), R] := sat_imp h45 (fun _ hh_ => by rw [show (((((inS 1 (As X) 0).take i).map ky3) ++ [(3, ((x35.1 : Nat) : Int), x35.2)]) : List Ky) = (((inS 1 (As X) 0).take (i + 1)).map ky3) from (tk_eq (f := ky3) hx36 rfl)] at hh_; exact hh_)
  have h50 := tk6 (tk7 (sf6 (sf6 (sf6 (sf6 (sf6 (sf6 (sf1 h48))))))))
  change ∃ n', n' < _ ∧ _
  refine ⟨((((inS 1 (As X) 0).length)) - (i + 1)), by omega, (i + 1), k + 1, p41, cap42, _, rfl, (by omega), (by omega), (lvF [.k 3 (.slice p41 (k + 1) cap42), .k 4 (.slice p18 (((inS 1 (As X) 0).length)) c19), .o 5 (oJ .i64 ((i : Int) + 1) ((((i + 1) : Nat) : Int)))]), h50⟩
 refine go [.v 6 3 (oF ((i : Int) < (((inS 1 (As X) 0).length : Nat) : Int)))] <| up <| go [] ?_
 have h51 : sat g w28 [Sl 32 3 p2 k c2 (fl eO (allK 3 X)), StR s12 (As X), Sl 183 2 p18 (((inS 1 (As X) 0).length)) c19 (fl eRf (inS 1 (As X) 0)), Cl b [.bool true, pV s12, .slice p13 64 c14] 176, Sl 2 1 p13 64 c14 (fl eI V15), R] := sat_imp h29 (fun _ hh_ => by rw [show ((((inS 1 (As X) 0).take i).map ky3) : List Ky) = (allK 3 X) from (ky3_all (by omega))] at hh_; exact hh_)
 have hl52 := fl_n eO_ok (by decide) h51
 have hk_ : k = ((inS 1 (As X) 0).length) := by have h_ := allK_len 3 X; omega
 have h53 : sat g w28 [Sl 32 3 p2 (((inS 1 (As X) 0).length)) c2 (fl eO (allK 3 X)), StR s12 (As X), Sl 183 2 p18 (((inS 1 (As X) 0).length)) c19 (fl eRf (inS 1 (As X) 0)), Cl b [.bool true, pV s12, .slice p13 64 c14] 176, Sl 2 1 p13 64 c14 (fl eI V15), R] := sat_imp h51 (fun _ hh_ => by rw [← hk_]; exact hh_)
 have h55 : sat g w28 [DkR b X, Sl 32 3 p2 (((inS 1 (As X) 0).length)) c2 (fl eO (allK 3 X)), Sl 183 2 p18 (((inS 1 (As X) 0).length)) c19 (fl eRf (inS 1 (As X) 0)), R] := dr_close hP10 (tk6 (sf5 (sf4 (sf5 (sf2 (sf3 (sf5 h53)))))))
 exact en (.slice p2 k c2) [] ⟨_, _, rfl, ⟨p2, c2, by rw [hk_], rfl⟩, (tk3 (sf2 (sf2 (sf3 h55))))⟩

set_option maxHeartbeats 4000000 in
theorem r11copy_ht (b : Nat) (X : Xs) : HT Tryz.prog 97 [pV b] [DkR b X] (fun v K => ∃ b2 : Nat, v = pV b2 ∧ K = [DkR b X, DkR b2 X]) := by
 refine hiS Tryz.func97 Tryz.ntmps97 fun g w0 R h0 => ?_
 obtain ⟨s12, p13, c14, V15, hP10, h11⟩ := dr_open h0
 refine go [] <| cl1 Tryz.call143 (r11v b (pV s12) (.slice p13 64 c14)) h11 fun _ h17 => go [] <| dw (fls [0, 1, 2, 3, 6, 7, 8, 9] (Tr.an2 4 (Tr.an 5 (Tr.an 10 (Tr.fl 11 (Tr.an 12 (Tr.fl 13 Tr.nil))))) 5 (Tr.an 4 (Tr.an 10 (Tr.fl 11 (Tr.an 12 (Tr.fl 13 Tr.nil))))))) h17 fun _ h19 => go [rd 3 3 0 1 1 h19, rd 3 9 0 2 1 h19] ?_
 refine br2 ?_ ?_
 ·
  refine cG Tryz.call144 (r4copy_ht s12 (As X)) (tk4 (sf3 (sf2 (sf3 (sf3 h19))))) ?_
  rintro v K _ (⟨b20, rfl, rfl⟩) h23
  have h24 := ap2 h23
  refine ⟨kd [rd 0 9 2 2 1 h24], ?_⟩
  refine nG (fun q_ => .slice (some ⟨q_, 0, none⟩) 0 0) 2 [] h24 (fun r25 w26 h27 => ⟨kd [rd 0 9 3 2 1 h27], ?_⟩)
  have h28 : sat g w26 [Sl 2 1 (some ⟨r25, 0, none⟩) 0 0 (fl eI []), StR s12 (As X), StR b20 (As X), Cl b [.bool true, pV s12, .slice p13 64 c14] 176, Sl 2 1 p13 64 c14 (fl eI V15), R] := sl_of_cl h27 rfl (by omega)
  refine actG ?_
  refine an_append_gv (d := 16) (sz := 1) (s := (Operand.tmp 11)) (x := (Operand.tmp 15)) (z := iV 0) (p := (some ⟨r25, 0, none⟩)) (p2 := p13) (m := 0) (c := 0) (k := 64) (c2 := c14) (by_ := 8) (by kernel_rfl) (by kernel_rfl) rfl Tryz.underlying174 (by kernel_rfl) rfl (by decide) (by kernel_rfl) (by kernel_rfl) h28 4 rfl (fl eI V15) (gv_sl _ _ _) (by rw [fl_len eI_ok, hP10.2.1]) (fl_one eI_ok _) (by omega) (by omega) 64 (by omega) ?_
  intro p29 cap30 w31 h32
  have h33 : sat g w31 [Sl 2 1 p29 64 cap30 (fl eI V15), StR s12 (As X), StR b20 (As X), Cl b [.bool true, pV s12, .slice p13 64 c14] 176, Sl 2 1 p13 64 c14 (fl eI V15), R] := sat_imp h32 (fun _ hh => by exact hh)
  obtain ⟨hn34, hn35⟩ := sl_le h33
  refine ⟨kd [], nxG ?_⟩
  refine go [] <| nG (fun q_ => pV q_) 176 [.bool true, pV b20, .slice p29 64 cap30] h33 (fun r36 w37 h38 => ⟨kd [], ?_⟩)
  refine go [] ?_
  have h40 : sat g w37 [DkR b X, Cl r36 [.bool true, pV b20, .slice p29 64 cap30] 176, Sl 2 1 p29 64 cap30 (fl eI V15), StR b20 (As X), R] := dr_close hP10 (tk7 (sf6 (sf5 (sf6 (sf3 (sf3 (sf4 (sf6 h38))))))))
  have h42 : sat g w37 [DkR r36 X, DkR b X, R] := dr_close hP10 (tk5 (sf4 (sf4 (sf3 (sf1 (sf4 h40))))))
  exact en (pV r36) [] ⟨_, _, rfl, ⟨r36, rfl, rfl⟩, (tk3 (sf2 (sf1 (sf2 h42))))⟩
 refine nG (fun q_ => .slice (some ⟨q_, 0, none⟩) 0 0) 2 [] h19 (fun r44 _ h46 => ⟨kd [rd 0 9 1 2 1 h46, rd 0 3 1 1 1 h46], ?_⟩)
 refine cG Tryz.call144 (r4copy_ht s12 (As X)) (tk5 (sf4 (sf3 (sf3 (sf4 (sf4 h46)))))) ?_
 rintro v K w49 (⟨b47, rfl, rfl⟩) h50
 have h51 := ap2 h50
 refine ⟨kd [rd 0 9 3 2 1 h51], ?_⟩
 have h53 : sat g w49 [Sl 2 1 (some ⟨r44, 0, none⟩) 0 0 (fl eI []), StR s12 (As X), StR b47 (As X), Cl b [.bool true, pV s12, .slice p13 64 c14] 176, Sl 2 1 p13 64 c14 (fl eI V15), R] := sl_of_cl (tk6 (sf5 (sf4 (sf4 (sf5 (sf5 (sf5 h51))))))) rfl (by omega)
 refine actG ?_
 refine an_append_gv (d := 16) (sz := 1) (s := (Operand.tmp 11)) (x := (Operand.tmp 15)) (z := iV 0) (p := (some ⟨r44, 0, none⟩)) (p2 := p13) (m := 0) (c := 0) (k := 64) (c2 := c14) (by_ := 8) (by kernel_rfl) (by kernel_rfl) rfl Tryz.underlying174 (by kernel_rfl) rfl (by decide) (by kernel_rfl) (by kernel_rfl) h53 4 rfl (fl eI V15) (gv_sl _ _ _) (by rw [fl_len eI_ok, hP10.2.1]) (fl_one eI_ok _) (by omega) (by omega) 64 (by omega) ?_
 intro p54 cap55 w56 h57
 have h58 : sat g w56 [Sl 2 1 p54 64 cap55 (fl eI V15), StR s12 (As X), StR b47 (As X), Cl b [.bool true, pV s12, .slice p13 64 c14] 176, Sl 2 1 p13 64 c14 (fl eI V15), R] := sat_imp h57 (fun _ hh => by exact hh)
 obtain ⟨hn59, hn60⟩ := sl_le h58
 refine ⟨kd [], nxG ?_⟩
 refine go [] <| nG (fun q_ => pV q_) 176 [.bool true, pV b47, .slice p54 64 cap55] h58 (fun r61 w62 h63 => ⟨kd [], ?_⟩)
 refine go [] ?_
 have h65 : sat g w62 [DkR b X, Cl r61 [.bool true, pV b47, .slice p54 64 cap55] 176, Sl 2 1 p54 64 cap55 (fl eI V15), StR b47 (As X), R] := dr_close hP10 (tk7 (sf6 (sf5 (sf6 (sf3 (sf3 (sf4 (sf6 h63))))))))
 have h67 : sat g w62 [DkR r61 X, DkR b X, R] := dr_close hP10 (tk5 (sf4 (sf4 (sf3 (sf1 (sf4 h65))))))
 exact en (pV r61) [] ⟨_, _, rfl, ⟨r61, rfl, rfl⟩, (tk3 (sf2 (sf1 (sf2 h67))))⟩

end Go.Proofs.YtggfnbpohmhphaaGreatDoor

/- Walks, printed by my generator r5.py. -/
namespace Go.Proofs.YtggfnbpohmhphaaGreatDoor
theorem q35e32_eql_t {n : Nat} {l : Fr} {o : Oper} {x y : Operand} (a0 : Int) (a1 : Int) (a2 : Int) (c0 : Int) (c1 : Int) (c2 : Int) (ho : o.op = .binOp .eql 32 x y 32) (hx : fe n l x = .agg #[.int .i64 a0, .int .i64 a1, .int .u32 a2]) (hy : fe n l y = .agg #[.int .i64 c0, .int .i64 c1, .int .u32 c2]) (h : a0 = c0 ∧ a1 = c1 ∧ a2 = c2) (w : World) : (execOp (fe n l) o).run Tryz.prog w = .ok (.value (.bool true)) w := by
  obtain ⟨rfl, rfl, rfl⟩ := h
  simp [execOp, ho, hx, hy, go_sem]
theorem q35e32_eql_f {n : Nat} {l : Fr} {o : Oper} {x y : Operand} (a0 : Int) (a1 : Int) (a2 : Int) (c0 : Int) (c1 : Int) (c2 : Int) (ho : o.op = .binOp .eql 32 x y 32) (hx : fe n l x = .agg #[.int .i64 a0, .int .i64 a1, .int .u32 a2]) (hy : fe n l y = .agg #[.int .i64 c0, .int .i64 c1, .int .u32 c2]) (h : ¬ (a0 = c0 ∧ a1 = c1 ∧ a2 = c2)) (w : World) : (execOp (fe n l) o).run Tryz.prog w = .ok (.value (.bool false)) w := by
  by_cases h0 : a0 = c0
  · skip
    by_cases h1 : a1 = c1
    · skip
      by_cases h2 : a2 = c2
      · exact absurd ⟨h0, h1, h2⟩ h
      · simp [execOp, ho, hx, hy, go_sem, h0, h1, h2]
    · simp [execOp, ho, hx, hy, go_sem, h0, h1]
  · simp [execOp, ho, hx, hy, go_sem, h0]
theorem rw_get {g w : World} {L : List Assn} {j b : Nat} {S : Wst} (h : sat g w L) (hj : L[j]? = some (WdR b S)) : WOk S ∧ Zv S.B := sat_use h hj fun _ ha _ => by
  obtain ⟨_, hx, _⟩ := ha
  exact hx
set_option maxHeartbeats 4000000 in
theorem r12new_y (gn : Int) (hgn : 1 ≤ gn ∧ gn ≤ 4294967295) : HT Tryz.prog 32 [uV gn] [] (fun v K => ∃ b : Nat, v = .tuple #[pV b, iV 0] ∧ K = [WdR b (wnew gn)]) := by
 refine hiS Tryz.func32 Tryz.ntmps32 fun g w0 R h0 => go [] <| cl0 Tryz.call75 (r1chk_y gn (by omega)) h0 fun _ h11 => go [] <| cP Tryz.call76 ((by have h_ := r9new_ok 64 gn (by decide) (by omega); exact h_)) h11 ?_
 rintro v K _ (⟨b12, rfl, rfl⟩) h14
 have h15 := ap1 h14
 refine go [] <| cP Tryz.call77 (r10new_ht gn (by omega)) h15 ?_
 rintro v K _ (⟨b16, rfl, rfl⟩) h18
 have h19 := ap1 h18
 refine go [] <| cP Tryz.call78 (r11new_ht gn (by omega)) h19 ?_
 rintro v K _ (⟨b20, rfl, rfl⟩) h22
 have h23 := ap1 h22
 refine go [] <| cP Tryz.call79 (rnew_ht) h23 ?_
 rintro v K _ (⟨b24, rfl, rfl⟩) h26
 refine cP Tryz.call80 (r7new_ht) (ap1 h26) ?_
 rintro v K _ (⟨b28, rfl, rfl⟩) h30
 have h31 := ap1 h30
 refine go [] <| nP 126 [.bool true, pV b12, pV b16, pV b20, pV b24, pV b28, iV 0] h31 (fun r32 w33 h34 => ?_)
 refine go [] ?_
 have h36 : sat g w33 [WdR r32 (wnew gn), R] := rw_close ⟨wok_new hgn, zv_rep⟩ (tk7 (sf6 (sf6 (sf5 (sf4 (sf3 (sf2 (sf6 h34))))))))
 exact en (.tuple #[pV r32, iV 0]) [] ⟨_, _, rfl, ⟨r32, rfl, rfl⟩, h36⟩

set_option maxHeartbeats 4000000 in
theorem r12new_n (gn : Int) (hgn : gn = 0) : HT Tryz.prog 32 [uV gn] [] (fun v K => v = .tuple #[.pointer none, iV 2] ∧ K = []) := by
 refine hiS Tryz.func32 Tryz.ntmps32 fun g w0 R h0 => go [] <| cl0 Tryz.call75 (r1chk_n gn (by omega)) h0 fun _ h11 => go [] ?_
 exact en (.tuple #[.pointer none, iV 2]) [] ⟨_, _, rfl, ⟨rfl, rfl⟩, h11⟩

set_option maxHeartbeats 4000000 in
theorem r12span_y (tk : Int) (h : 1 ≤ tk ∧ tk ≤ 1048576) : HT Tryz.prog 91 [iV tk] [] (fun v K => v = .bool true ∧ K = []) := by
 refine hiS Tryz.func91 Tryz.ntmps91 fun g w0 R h0 => go [.v 1 1 (oT (tk ≥ 1)), .v 1 4 (oT (tk ≤ 1048576))] ?_
 exact en (.bool true) [] ⟨_, _, rfl, ⟨rfl, rfl⟩, h0⟩

set_option maxHeartbeats 4000000 in
theorem r12span_n (tk : Int) (h : tk < 1 ∨ 1048576 < tk) : HT Tryz.prog 91 [iV tk] [] (fun v K => v = .bool false ∧ K = []) := by
 refine hiS Tryz.func91 Tryz.ntmps91 fun g w0 R h0 => go [.s 1 1] ?_
 by_cases c10 : tk ≥ 1
 ·
  refine go [.v 1 1 (oT (tk ≥ 1)), .v 1 4 (oF (tk ≤ 1048576))] ?_
  exact en (.bool false) [] ⟨_, _, rfl, ⟨rfl, rfl⟩, h0⟩
 refine go [.v 1 1 (oF (tk ≥ 1))] ?_
 exact en (.bool false) [] ⟨_, _, rfl, ⟨rfl, rfl⟩, h0⟩

set_option maxHeartbeats 4000000 in
theorem rgod_1y (a : Int) (ha : 0 ≤ a ∧ a ≤ 65535) : HT Tryz.prog 82 [iV 1, iV a] [] (fun v K => v = .bool true ∧ K = []) := by
 refine hiS Tryz.func82 Tryz.ntmps82 fun g w0 R h0 => go [.v 3 1 (oT (a ≥ 0)), .v 3 4 (oT (a ≤ 65535))] ?_
 exact en (.bool true) [] ⟨_, _, rfl, ⟨rfl, rfl⟩, h0⟩

set_option maxHeartbeats 4000000 in
theorem rgod_1n (a : Int) (ha : a < 0 ∨ 65535 < a) : HT Tryz.prog 82 [iV 1, iV a] [] (fun v K => v = .bool false ∧ K = []) := by
 refine hiS Tryz.func82 Tryz.ntmps82 fun g w0 R h0 => go [.s 3 1] ?_
 by_cases c10 : a ≥ 0
 ·
  refine go [.v 3 1 (oT (a ≥ 0)), .v 3 4 (oF (a ≤ 65535))] ?_
  exact en (.bool false) [] ⟨_, _, rfl, ⟨rfl, rfl⟩, h0⟩
 refine go [.v 3 1 (oF (a ≥ 0))] ?_
 exact en (.bool false) [] ⟨_, _, rfl, ⟨rfl, rfl⟩, h0⟩

set_option maxHeartbeats 4000000 in
theorem rgod_2y (a : Int) (ha : 1 ≤ a ∧ a ≤ 65536) : HT Tryz.prog 82 [iV 2, iV a] [] (fun v K => v = .bool true ∧ K = []) := by
 refine hiS Tryz.func82 Tryz.ntmps82 fun g w0 R h0 => go [.v 5 1 (oT (a ≥ 1)), .v 5 4 (oT (a ≤ 65536))] ?_
 exact en (.bool true) [] ⟨_, _, rfl, ⟨rfl, rfl⟩, h0⟩

set_option maxHeartbeats 4000000 in
theorem rgod_2n (a : Int) (ha : a < 1 ∨ 65536 < a) : HT Tryz.prog 82 [iV 2, iV a] [] (fun v K => v = .bool false ∧ K = []) := by
 refine hiS Tryz.func82 Tryz.ntmps82 fun g w0 R h0 => go [.s 5 1] ?_
 by_cases c10 : a ≥ 1
 ·
  refine go [.v 5 1 (oT (a ≥ 1)), .v 5 4 (oF (a ≤ 65536))] ?_
  exact en (.bool false) [] ⟨_, _, rfl, ⟨rfl, rfl⟩, h0⟩
 refine go [.v 5 1 (oF (a ≥ 1))] ?_
 exact en (.bool false) [] ⟨_, _, rfl, ⟨rfl, rfl⟩, h0⟩

set_option maxHeartbeats 4000000 in
theorem rgod_3y (a : Int) (ha : 1 ≤ a ∧ a ≤ 1048576) : HT Tryz.prog 82 [iV 3, iV a] [] (fun v K => v = .bool true ∧ K = []) := by
 refine hiS Tryz.func82 Tryz.ntmps82 fun g w0 R h0 => go [] <| cl0 Tryz.call91 (r12span_y a (by omega)) h0 fun _ h11 => go [] ?_
 exact en (.bool true) [] ⟨_, _, rfl, ⟨rfl, rfl⟩, h11⟩

set_option maxHeartbeats 4000000 in
theorem rgod_3n (a : Int) (ha : a < 1 ∨ 1048576 < a) : HT Tryz.prog 82 [iV 3, iV a] [] (fun v K => v = .bool false ∧ K = []) := by
 refine hiS Tryz.func82 Tryz.ntmps82 fun g w0 R h0 => go [] ?_
 by_cases c10 : 1 ≤ a
 ·
  refine cl0 Tryz.call91 (r12span_n a (by omega)) h0 fun _ h12 => go [] ?_
  exact en (.bool false) [] ⟨_, _, rfl, ⟨rfl, rfl⟩, h12⟩
 refine cl0 Tryz.call91 (r12span_n a (by omega)) h0 fun _ h14 => go [] ?_
 exact en (.bool false) [] ⟨_, _, rfl, ⟨rfl, rfl⟩, h14⟩

set_option maxHeartbeats 4000000 in
theorem rgod_0 (k a : Int) (hk : k < 1 ∨ 3 < k) : HT Tryz.prog 82 [iV k, iV a] [] (fun v K => v = .bool false ∧ K = []) := by
 refine hiS Tryz.func82 Tryz.ntmps82 fun g w0 R h0 => go [.v 2 0 (qeF k 1), .v 4 0 (qeF k 2), .v 6 0 (qeF k 3)] ?_
 exact en (.bool false) [] ⟨_, _, rfl, ⟨rfl, rfl⟩, h0⟩

set_option maxHeartbeats 4000000 in
theorem r12get_1 (b f p d s l : Nat) (z0 : Int) (X : Xs) (a : Int) (ha : 0 ≤ a ∧ a ≤ 65535) : HT Tryz.prog 83 [pV b, iV 1, iV a] [Cl b [.bool true, pV f, pV p, pV d, pV s, pV l, iV z0] 126, Dc f 64 X] (fun v K => v = .tuple #[.agg #[iV ((opnO X a).1), iV ((opnO X a).2.1), uV ((opnO X a).2.2)], iV ((opnE X a))] ∧ K = [Cl b [.bool true, pV f, pV p, pV d, pV s, pV l, iV z0] 126, Dc f 64 (opnX X a)]) := by
 refine hiS Tryz.func83 Tryz.ntmps83 fun g w0 R h0 => go [] <| nP 32 [iV 0, iV 0, uV 0] h0 (fun _ _ h12 => ?_)
 have h13 := tk4 (sf3 (sf2 (sf2 (sf3 h12))))
 refine go [rd 2 3 1 1 1 h12] <| cl1 Tryz.call129 (r9open_ht f 64 X a) h13 fun _ h15 => ?_
 have h16 := tk4 (sf3 (sf2 (sf3 (sf3 h15))))
 refine go [] <| sP [(0, iV ((opnO X a).1)), (1, iV ((opnO X a).2.1)), (2, uV ((opnO X a).2.2))] [iV ((opnO X a).1), iV ((opnO X a).2.1), uV ((opnO X a).2.2)] h16 fun _ h18 => go [] ?_
 exact en (.tuple #[.agg #[iV ((opnO X a).1), iV ((opnO X a).2.1), uV ((opnO X a).2.2)], iV ((opnE X a))]) [rd 0 0 0 0 3 h18] ⟨_, _, rfl, ⟨rfl, rfl⟩, (tk3 (sf2 (sf2 (sf3 (tk4 (sf3 (sf2 (sf1 (sf3 h18)))))))))⟩

set_option maxHeartbeats 4000000 in
theorem r12get_2 (b f p d s l : Nat) (z0 : Int) (X : Xs) (a : Int) (ha : 1 ≤ a ∧ a ≤ 65536) : HT Tryz.prog 83 [pV b, iV 2, iV a] [Cl b [.bool true, pV f, pV p, pV d, pV s, pV l, iV z0] 126, PlR p X] (fun v K => v = .tuple #[.agg #[iV ((pinO X a).1), iV ((pinO X a).2.1), uV ((pinO X a).2.2)], iV ((pinE X a))] ∧ K = [Cl b [.bool true, pV f, pV p, pV d, pV s, pV l, iV z0] 126, PlR p (pinX X a)]) := by
 refine hiS Tryz.func83 Tryz.ntmps83 fun g w0 R h0 => go [] <| nP 32 [iV 0, iV 0, uV 0] h0 (fun _ _ h12 => ?_)
 refine go [rd 4 3 1 2 1 h12] ?_
 by_cases c13 : used X + a ≤ 1048576
 ·
  refine cl1 Tryz.call130 (r10pin_y p X a (by omega) (by omega)) (tk4 (sf3 (sf2 (sf2 (sf3 h12))))) fun _ h16 => ?_
  have h17 := tk4 (sf3 (sf2 (sf3 (sf3 h16))))
  refine go [] <| sP [(0, iV ((pinO X a).1)), (1, iV ((pinO X a).2.1)), (2, uV ((pinO X a).2.2))] [iV ((pinO X a).1), iV ((pinO X a).2.1), uV ((pinO X a).2.2)] h17 fun _ h19 => go [] ?_
  exact en (.tuple #[.agg #[iV ((pinO X a).1), iV ((pinO X a).2.1), uV ((pinO X a).2.2)], iV ((pinE X a))]) [rd 0 0 0 0 3 h19] ⟨_, _, rfl, ⟨rfl, rfl⟩, (tk3 (sf2 (sf2 (sf3 (tk4 (sf3 (sf2 (sf1 (sf3 h19)))))))))⟩
 refine cl1 Tryz.call130 (r10pin_n p X a (by omega) (by omega)) (tk4 (sf3 (sf2 (sf2 (sf3 h12))))) fun _ h24 => ?_
 have h25 := tk4 (sf3 (sf2 (sf3 (sf3 h24))))
 refine go [] <| sP [(0, iV ((pinO X a).1)), (1, iV ((pinO X a).2.1)), (2, uV ((pinO X a).2.2))] [iV ((pinO X a).1), iV ((pinO X a).2.1), uV ((pinO X a).2.2)] h25 fun _ h27 => go [] ?_
 exact en (.tuple #[.agg #[iV ((pinO X a).1), iV ((pinO X a).2.1), uV ((pinO X a).2.2)], iV ((pinE X a))]) [rd 0 0 0 0 3 h27] ⟨_, _, rfl, ⟨rfl, rfl⟩, (tk3 (sf2 (sf2 (sf3 (tk4 (sf3 (sf2 (sf1 (sf3 h27)))))))))⟩

set_option maxHeartbeats 4000000 in
theorem r12get_3 (b f p d s l : Nat) (z0 : Int) (X : Xs) (a : Int) (ha : 1 ≤ a ∧ a ≤ 1048576) (hn : 0 ≤ z0 ∧ z0 ≤ 1099511627776) : HT Tryz.prog 83 [pV b, iV 3, iV a] [Cl b [.bool true, pV f, pV p, pV d, pV s, pV l, iV z0] 126, DkR d X] (fun v K => v = .tuple #[.agg #[iV ((gntO X a z0).1), iV ((gntO X a z0).2.1), uV ((gntO X a z0).2.2)], iV ((gntE X a z0))] ∧ K = [Cl b [.bool true, pV f, pV p, pV d, pV s, pV l, iV z0] 126, DkR d (gntX X a z0)]) := by
 refine hiS Tryz.func83 Tryz.ntmps83 fun g w0 R h0 => go [] <| nP 32 [iV 0, iV 0, uV 0] h0 (fun _ _ h12 => ?_)
 refine go [] <| dw (fls [0, 1, 2, 3, 4, 5, 6, 7, 8] (Tr.an 9 (fls [10, 11] (Tr.an 12 (Tr.fl 13 Tr.nil))))) h12 fun _ h14 => ?_
 have h15 := tk4 (sf3 (sf2 (sf2 (sf3 h14))))
 refine go [rd 5 3 1 3 1 h14, rd 5 8 1 6 1 h14] <| cw1 Tryz.call131 (r11grant_ht d X a z0 (by omega) (by omega)) h15 fun _ h17 => ⟨kd [], ?_⟩
 have h18 := tk4 (sf3 (sf2 (sf3 (sf3 h17))))
 refine go [] <| sG [(0, iV ((gntO X a z0).1)), (1, iV ((gntO X a z0).2.1)), (2, uV ((gntO X a z0).2.2))] [iV ((gntO X a z0).1), iV ((gntO X a z0).2.1), uV ((gntO X a z0).2.2)] h18 fun _ h20 => ⟨kd [], ?_⟩
 refine go [] ?_
 exact en (.tuple #[.agg #[iV ((gntO X a z0).1), iV ((gntO X a z0).2.1), uV ((gntO X a z0).2.2)], iV ((gntE X a z0))]) [rd 0 0 0 0 3 h20] ⟨_, _, rfl, ⟨rfl, rfl⟩, (tk3 (sf2 (sf2 (sf3 (tk4 (sf3 (sf2 (sf1 (sf3 h20)))))))))⟩

set_option maxHeartbeats 4000000 in
theorem r12copy_ht (b : Nat) (S : Wst) : HT Tryz.prog 38 [pV b] [WdR b S] (fun v K => ∃ b2 : Nat, v = pV b2 ∧ K = [WdR b S, WdR b2 S]) := by
 refine hiS Tryz.func38 Tryz.ntmps38 fun g w0 R h0 => ?_
 obtain ⟨f12, p13, d14, s15, l16, hP10, h11⟩ := rw_open h0
 have hP10n := hP10.1.nl; have hP10m := hP10.1.nh; have hP10t := hP10.1.tn
 refine go [] <| cl1 Tryz.call81 (r12v b (pV f12) (pV p13) (pV d14) (pV s15) (pV l16) (iV S.now)) h11 fun _ h18 => go [] <| dw (fls [0, 1, 2, 3, 5, 6, 7, 8, 10, 11, 12, 13, 15, 16, 17, 18, 20, 21, 22, 23, 25, 26, 27, 28] (Tr.an 4 (Tr.an 9 (Tr.an 14 (Tr.an 19 (Tr.an 24 (Tr.fl 29 (Tr.an 30 (Tr.fl 31 Tr.nil))))))))) h18 fun _ h20 => ?_
 have h22 := tk7 (sf6 (sf5 (sf6 (sf6 (sf6 (sf6 (sf6 h20)))))))
 refine go [rd 3 3 0 1 1 h20, rd 3 8 0 2 1 h20, rd 3 13 0 3 1 h20, rd 3 18 0 4 1 h20, rd 3 23 0 5 1 h20, rd 3 28 0 6 1 h20] <| cG Tryz.call95 (r9copy_ht f12 64 S.F) h22 ?_
 rintro v K _ (⟨b21, rfl, rfl⟩) h24
 have h25 := ap2 h24
 refine ⟨kd [rd 0 28 2 6 1 h25, rd 0 23 2 5 1 h25, rd 0 18 2 4 1 h25, rd 0 13 2 3 1 h25, rd 0 8 2 2 1 h25], ?_⟩
 refine cG Tryz.call96 (r10copy_ht p13 S.B) (tk8 (sf7 (sf6 (sf6 (sf6 (sf7 (sf7 (sf7 (sf7 h25))))))))) ?_
 rintro v K _ (⟨b26, rfl, rfl⟩) h29
 have h30 := ap2 h29
 refine ⟨kd [rd 0 28 4 6 1 h30, rd 0 23 4 5 1 h30, rd 0 18 4 4 1 h30, rd 0 13 4 3 1 h30], ?_⟩
 refine cG Tryz.call97 (r11copy_ht d14 S.D) (tk9 (sf8 (sf7 (sf7 (sf7 (sf7 (sf7 (sf8 (sf8 (sf8 h30)))))))))) ?_
 rintro v K _ (⟨b31, rfl, rfl⟩) h34
 have h35 := ap2 h34
 refine ⟨kd [rd 0 28 6 6 1 h35, rd 0 23 6 5 1 h35, rd 0 18 6 4 1 h35], ?_⟩
 refine cG Tryz.call98 (rcopy_ht s15 S.q) (tk10 (sf9 (sf8 (sf8 (sf8 (sf8 (sf8 (sf8 (sf8 (sf9 (sf9 h35))))))))))) ?_
 rintro v K _ (⟨b36, rfl, rfl⟩) h39
 have h40 := ap2 h39
 refine ⟨kd [rd 0 28 8 6 1 h40, rd 0 23 8 5 1 h40], ?_⟩
 refine cG Tryz.call99 (r7copy_ht l16 S.T) (tk11 (sf10 (sf9 (sf9 (sf9 (sf9 (sf9 (sf9 (sf9 (sf9 (sf9 (sf10 h40)))))))))))) ?_
 rintro v K _ (⟨b41, rfl, rfl⟩) h44
 have h45 := ap2 h44
 refine ⟨kd [rd 0 28 10 6 1 h45], ?_⟩
 refine go [] <| nG (fun q_ => pV q_) 126 [.bool true, pV b21, pV b26, pV b31, pV b36, pV b41, iV S.now] h45 (fun r46 w47 h48 => ⟨kd [], ?_⟩)
 refine go [] ?_
 have h50 : sat g w47 [WdR r46 S, LgR l16 S.T, Sr 178 s15 S.q, DkR d14 S.D, PlR p13 S.B, Dc f12 64 S.F, Cl b [.bool true, pV f12, pV p13, pV d14, pV s15, pV l16, iV S.now] 126, R] := rw_close hP10 (tk13 (sf12 (sf12 (sf11 (sf10 (sf9 (sf8 (sf7 (sf9 (sf9 (sf10 (sf11 (sf12 (sf12 h48))))))))))))))
 have h52 : sat g w47 [WdR b S, WdR r46 S, R] := rw_close hP10 (tk8 (sf7 (sf6 (sf5 (sf4 (sf3 (sf2 (sf1 (sf7 h50)))))))))
 exact en (pV r46) [] ⟨_, _, rfl, ⟨r46, rfl, rfl⟩, h52⟩

set_option maxHeartbeats 4000000 in
theorem r12now_ht (b : Nat) (S : Wst) : HT Tryz.prog 41 [pV b] [WdR b S] (fun v K => v = iV S.now ∧ K = [WdR b S]) := by
 refine hiS Tryz.func41 Tryz.ntmps41 fun g w0 R h0 => ?_
 obtain ⟨f12, p13, d14, s15, l16, hP10, h11⟩ := rw_open h0
 have hP10n := hP10.1.nl; have hP10m := hP10.1.nh; have hP10t := hP10.1.tn
 refine go [] <| cl1 Tryz.call81 (r12v b (pV f12) (pV p13) (pV d14) (pV s15) (pV l16) (iV S.now)) h11 fun w17 h18 => go [rd 3 3 0 6 1 h18] ?_
 have h19 : sat g w17 [WdR b S, R] := rw_close hP10 h18
 exact en (iV S.now) [] ⟨_, _, rfl, ⟨rfl, rfl⟩, h19⟩

set_option maxHeartbeats 4000000 in
theorem r12led_ht (b : Nat) (S : Wst) : HT Tryz.prog 44 [pV b] [WdR b S] (fun v K => ∃ b2 : Nat, v = pV b2 ∧ K = [WdR b S, LgR b2 S.T]) := by
 refine hiS Tryz.func44 Tryz.ntmps44 fun g w0 R h0 => ?_
 obtain ⟨f12, p13, d14, s15, l16, hP10, h11⟩ := rw_open h0
 have hP10n := hP10.1.nl; have hP10m := hP10.1.nh; have hP10t := hP10.1.tn
 refine go [] <| cl1 Tryz.call81 (r12v b (pV f12) (pV p13) (pV d14) (pV s15) (pV l16) (iV S.now)) h11 fun _ h18 => ?_
 have h20 := tk7 (sf6 (sf5 (sf5 (sf5 (sf5 (sf5 (sf6 h18)))))))
 refine go [rd 3 3 0 5 1 h18] <| cP Tryz.call99 (r7copy_ht l16 S.T) h20 ?_
 rintro v K w21 (⟨b19, rfl, rfl⟩) h22
 have h23 := ap2 h22
 refine go [] ?_
 have h25 : sat g w21 [WdR b S, LgR b19 S.T, R] := rw_close hP10 (tk8 (sf7 (sf7 (sf7 (sf7 (sf7 (sf2 (sf2 (sf7 h23)))))))))
 exact en (pV b19) [] ⟨_, _, rfl, ⟨b19, rfl, rfl⟩, h25⟩

set_option maxHeartbeats 4000000 in
theorem r12asw_ht (b : Nat) (S : Wst) (l : List UInt8) (hl : l.length ≤ 1099511627776) : HT Tryz.prog 37 [pV b, .string (St l)] [WdR b S] (fun v K => v = iV (aswE S l) ∧ K = [WdR b (aswS S l)]) := by
 refine hiS Tryz.func37 Tryz.ntmps37 fun g w0 R h0 => ?_
 obtain ⟨f12, p13, d14, s15, l16, hP10, h11⟩ := rw_open h0
 have hP10n := hP10.1.nl; have hP10m := hP10.1.nh; have hP10t := hP10.1.tn
 refine go [] <| cl1 Tryz.call81 (r12v b (pV f12) (pV p13) (pV d14) (pV s15) (pV l16) (iV S.now)) h11 fun _ h18 => ?_
 have h19 := tk7 (sf6 (sf5 (sf5 (sf5 (sf5 (sf6 (sf6 h18)))))))
 refine go [rd 3 3 0 4 1 h18] <| cl1 Tryz.call94 (radd_ht s15 S.q l hl) h19 fun w20 h21 => go [] ?_
 have h23 : sat g w20 [WdR b (aswS S l), R] := rw_close ⟨wok_asw hP10.1 l, hP10.2⟩ (tk7 (sf6 (sf6 (sf6 (sf6 (sf2 (sf6 (sf6 h21))))))))
 exact en (iV ((addE S.q l))) [] ⟨_, _, rfl, ⟨rfl, rfl⟩, h23⟩

set_option maxHeartbeats 4000000 in
theorem r12tck_ht (b : Nat) (S : Wst) (tk : Int) : HT Tryz.prog 36 [pV b, iV tk] [WdR b S] (fun v K => v = iV (tckE S tk) ∧ K = [WdR b (tckS S tk)]) := by
 refine hiS Tryz.func36 Tryz.ntmps36 fun g w0 R h0 => ?_
 obtain ⟨f12, p13, d14, s15, l16, hP10, h11⟩ := rw_open h0
 have hP10n := hP10.1.nl; have hP10m := hP10.1.nh; have hP10t := hP10.1.tn
 refine go [] <| cl1 Tryz.call81 (r12v b (pV f12) (pV p13) (pV d14) (pV s15) (pV l16) (iV S.now)) h11 fun _ h18 => go [] ?_
 by_cases c19 : 1 ≤ tk
 ·
  by_cases c20 : tk ≤ 1048576
  ·
   refine cl0 Tryz.call91 (r12span_y tk (by omega)) h18 fun w21 h22 => go [rd 5 3 0 6 1 h22, .v 5 5 (oIr (S.now + tk)), .s 5 6] ?_
   by_cases c23 : S.now + tk > 1099511627776
   ·
    refine go [.v 5 6 (oT (S.now + tk > 1099511627776))] ?_
    have hp_ := tck_over (S := S) (t := tk) ⟨by omega, by omega⟩ (by omega)
    have h24 : sat g w21 [WdR b S, R] := rw_close hP10 h22
    exact en (iV 17) [] ⟨_, [WdR b S], rfl, ⟨by rw [hp_.1], by rw [hp_.2]⟩, h24⟩
   refine go [.v 5 6 (oF (S.now + tk > 1099511627776)), rd 7 4 0 6 1 h22, .v 7 6 (oIr (S.now + tk))] <| sP [(6, iV (S.now + tk))] [.bool true, pV f12, pV p13, pV d14, pV s15, pV l16, iV (S.now + tk)] h22 fun w25 h26 => go [] ?_
   have hp_ := tck_ok (S := S) (t := tk) ⟨by omega, by omega⟩ (by omega)
   have h27 : sat g w25 [WdR b ({ S with now := S.now + tk } : Wst), R] := rw_close ⟨hp_.2 ▸ wok_tck hP10.1 tk, hP10.2⟩ h26
   exact en (iV 0) [] ⟨_, [WdR b ({ S with now := S.now + tk } : Wst)], rfl, ⟨by rw [hp_.1], by rw [hp_.2]⟩, h27⟩
  refine cl0 Tryz.call91 (r12span_n tk (by omega)) h18 fun w28 h29 => go [] ?_
  have hp_ := tck_arg (S := S) (t := tk) (by omega)
  have h30 : sat g w28 [WdR b S, R] := rw_close hP10 h29
  exact en (iV 2) [] ⟨_, [WdR b S], rfl, ⟨by rw [hp_.1], by rw [hp_.2]⟩, h30⟩
 refine cl0 Tryz.call91 (r12span_n tk (by omega)) h18 fun w31 h32 => go [] ?_
 have hp_ := tck_arg (S := S) (t := tk) (by omega)
 have h33 : sat g w31 [WdR b S, R] := rw_close hP10 h32
 exact en (iV 2) [] ⟨_, [WdR b S], rfl, ⟨by rw [hp_.1], by rw [hp_.2]⟩, h33⟩

set_option maxHeartbeats 4000000 in
theorem r12all_ht (b : Nat) (S : Wst) : HT Tryz.prog 43 [pV b] [WdR b S] (fun v K => ∃ p c, v = .slice p (allS S).length c ∧ K = [Sl 32 3 p (((allS S).length)) c (fl eO (allS S)), WdR b S]) := by
 refine hiS Tryz.func43 Tryz.ntmps43 fun g w0 R h0 => ?_
 obtain ⟨f12, p13, d14, s15, l16, hP10, h11⟩ := rw_open h0
 have hP10n := hP10.1.nl; have hP10m := hP10.1.nh; have hP10t := hP10.1.tn
 refine go [] <| cl1 Tryz.call81 (r12v b (pV f12) (pV p13) (pV d14) (pV s15) (pV l16) (iV S.now)) h11 fun _ h18 => go [] <| nG (fun q_ => .slice (some ⟨q_, 0, none⟩) 0 0) 32 [] h18 (fun r19 _ h21 => ⟨kd [], ?_⟩)
 have h24 := tk8 (sf7 (sf6 (sf6 (sf7 (sf7 (sf7 (sf7 (sf7 h21))))))))
 refine go [rd 3 4 1 1 1 h21] <| cP Tryz.call101 ((by have h_ := r9all_ht f12 64 S.F; exact h_)) h24 ?_
 rintro v K w25 (⟨p22, c23, rfl, rfl⟩) h26
 have h27 := ap2 h26
 have hn28 : ((inS 1 (As S.F) 0).length) ≤ 64 := by have h_ := inS_len 1 (As S.F) 0; rw [as_len, hP10.1.fl] at h_; exact h_
 have hn29 : ((inS 1 (As S.B) 0).length) ≤ 64 := by have h_ := inS_len 1 (As S.B) 0; rw [as_len, hP10.1.bl] at h_; exact h_
 have hn30 : ((inS 1 (As S.D) 0).length) ≤ 64 := by have h_ := inS_len 1 (As S.D) 0; rw [as_len, hP10.1.dl] at h_; exact h_
 have h32 : sat g w25 [Sl 32 3 (some ⟨r19, 0, none⟩) 0 0 (fl eO []), Dc f12 64 S.F, Sl 32 3 p22 (((inS 1 (As S.F) 0).length)) c23 (fl eO (allK 1 S.F)), Cl b [.bool true, pV f12, pV p13, pV d14, pV s15, pV l16, iV S.now] 126, PlR p13 S.B, DkR d14 S.D, Sr 178 s15 S.q, LgR l16 S.T, R] := sl_of_cl (tk9 (sf8 (sf7 (sf7 (sf8 (sf8 (sf8 (sf8 (sf8 (sf8 h27)))))))))) rfl (by omega)
 refine actG ?_
 refine an_append_gv (d := 13) (sz := 3) (s := (Operand.tmp 7)) (x := (Operand.tmp 12)) (z := .agg #[iV 0, iV 0, uV 0]) (p := (some ⟨r19, 0, none⟩)) (p2 := p22) (m := 0) (c := 0) (k := (((inS 1 (As S.F) 0).length))) (c2 := c23) (by_ := 24) (by kernel_rfl) (by kernel_rfl) rfl Tryz.underlying30 (by kernel_rfl) rfl (by decide) (by kernel_rfl) (by kernel_rfl) h32 2 rfl (fl eO (allK 1 S.F)) (gv_sl _ _ _) (by rw [fl_len eO_ok, show ((allK 1 S.F)).length = ((inS 1 (As S.F) 0).length) from (allK_len _ _)]) (fl_one eO_ok _) (by omega) (by omega) (((inS 1 (As S.F) 0).length)) (by omega) ?_
 intro p33 cap34 w35 h36
 have h37 : sat g w35 [Sl 32 3 p33 (((inS 1 (As S.F) 0).length)) cap34 (fl eO (allK 1 S.F)), Dc f12 64 S.F, Sl 32 3 p22 (((inS 1 (As S.F) 0).length)) c23 (fl eO (allK 1 S.F)), Cl b [.bool true, pV f12, pV p13, pV d14, pV s15, pV l16, iV S.now] 126, PlR p13 S.B, DkR d14 S.D, Sr 178 s15 S.q, LgR l16 S.T, R] := sat_imp h36 (fun _ hh => by exact hh)
 obtain ⟨hn38, hn39⟩ := sl_le h37
 refine nxA ?_
 have h42 := tk9 (sf8 (sf7 (sf7 (sf7 (sf7 (sf8 (sf8 (sf8 (sf8 h37)))))))))
 refine go [rd 4 4 3 2 1 h37] <| cP Tryz.call102 (r10all_ht p13 S.B) h42 ?_
 rintro v K _ (⟨p40, c41, rfl, rfl⟩) h44
 have h46 := tk10 (sf9 (sf8 (sf8 (sf9 (sf9 (sf9 (sf9 (sf9 (sf9 (sf9 (ap2 h44)))))))))))
 refine actG ?_
 refine an_append_gv (d := 20) (sz := 3) (s := (Operand.tmp 14)) (x := (Operand.tmp 19)) (z := .agg #[iV 0, iV 0, uV 0]) (p := p33) (p2 := p40) (m := (((inS 1 (As S.F) 0).length))) (c := cap34) (k := (((inS 1 (As S.B) 0).length))) (c2 := c41) (by_ := 24) (by kernel_rfl) (by kernel_rfl) rfl Tryz.underlying30 (by kernel_rfl) rfl (by decide) (by kernel_rfl) (by kernel_rfl) h46 2 rfl (fl eO (allK 2 S.B)) (gv_sl _ _ _) (by rw [fl_len eO_ok, show ((allK 2 S.B)).length = ((inS 1 (As S.B) 0).length) from (allK_len _ _)]) (fl_one eO_ok _) (by omega) (by omega) (((inS 1 (As S.F) 0).length) + ((inS 1 (As S.B) 0).length)) (by omega) ?_
 intro p47 cap48 w49 h50
 have h51 : sat g w49 [Sl 32 3 p47 (((inS 1 (As S.F) 0).length) + ((inS 1 (As S.B) 0).length)) cap48 (fl eO ((allK 1 S.F) ++ (allK 2 S.B))), PlR p13 S.B, Sl 32 3 p40 (((inS 1 (As S.B) 0).length)) c41 (fl eO (allK 2 S.B)), Dc f12 64 S.F, Sl 32 3 p22 (((inS 1 (As S.F) 0).length)) c23 (fl eO (allK 1 S.F)), Cl b [.bool true, pV f12, pV p13, pV d14, pV s15, pV l16, iV S.now] 126, DkR d14 S.D, Sr 178 s15 S.q, LgR l16 S.T, R] := sat_imp h50 (fun _ hh => by rw [fl_app]; exact hh)
 obtain ⟨hn52, hn53⟩ := sl_le h51
 refine nxA ?_
 have h56 := tk10 (sf9 (sf8 (sf8 (sf8 (sf8 (sf8 (sf8 (sf9 (sf9 (sf9 h51))))))))))
 refine go [rd 5 4 5 3 1 h51] <| cP Tryz.call103 (r11all_ht d14 S.D) h56 ?_
 rintro v K _ (⟨p54, c55, rfl, rfl⟩) h58
 have h60 := tk11 (sf10 (sf9 (sf9 (sf10 (sf10 (sf10 (sf10 (sf10 (sf10 (sf10 (sf10 (ap2 h58))))))))))))
 refine actG ?_
 refine an_append_gv (d := 27) (sz := 3) (s := (Operand.tmp 21)) (x := (Operand.tmp 26)) (z := .agg #[iV 0, iV 0, uV 0]) (p := p47) (p2 := p54) (m := (((inS 1 (As S.F) 0).length) + ((inS 1 (As S.B) 0).length))) (c := cap48) (k := (((inS 1 (As S.D) 0).length))) (c2 := c55) (by_ := 24) (by kernel_rfl) (by kernel_rfl) rfl Tryz.underlying30 (by kernel_rfl) rfl (by decide) (by kernel_rfl) (by kernel_rfl) h60 2 rfl (fl eO (allK 3 S.D)) (gv_sl _ _ _) (by rw [fl_len eO_ok, show ((allK 3 S.D)).length = ((inS 1 (As S.D) 0).length) from (allK_len _ _)]) (fl_one eO_ok _) (by omega) (by omega) (((inS 1 (As S.F) 0).length) + ((inS 1 (As S.B) 0).length) + ((inS 1 (As S.D) 0).length)) (by omega) ?_
 intro p61 cap62 w63 h64
 have h65 : sat g w63 [Sl 32 3 p61 (((inS 1 (As S.F) 0).length) + ((inS 1 (As S.B) 0).length) + ((inS 1 (As S.D) 0).length)) cap62 (fl eO (((allK 1 S.F) ++ (allK 2 S.B)) ++ (allK 3 S.D))), DkR d14 S.D, Sl 32 3 p54 (((inS 1 (As S.D) 0).length)) c55 (fl eO (allK 3 S.D)), PlR p13 S.B, Sl 32 3 p40 (((inS 1 (As S.B) 0).length)) c41 (fl eO (allK 2 S.B)), Dc f12 64 S.F, Sl 32 3 p22 (((inS 1 (As S.F) 0).length)) c23 (fl eO (allK 1 S.F)), Cl b [.bool true, pV f12, pV p13, pV d14, pV s15, pV l16, iV S.now] 126, Sr 178 s15 S.q, LgR l16 S.T, R] := sat_imp h64 (fun _ hh => by rw [fl_app]; exact hh)
 obtain ⟨hn66, hn67⟩ := sl_le h65
 refine nxA <| go [] ?_
 have hn_ : ((inS 1 (As S.F) 0).length) + ((inS 1 (As S.B) 0).length) + ((inS 1 (As S.D) 0).length) = (allS S).length := by unfold allS; rw [List.length_append, List.length_append, allK_len, allK_len, allK_len]; omega
 have h68 : sat g w63 [Sl 32 3 p61 (((allS S).length)) cap62 (fl eO (allS S)), DkR d14 S.D, Sl 32 3 p54 (((inS 1 (As S.D) 0).length)) c55 (fl eO (allK 3 S.D)), PlR p13 S.B, Sl 32 3 p40 (((inS 1 (As S.B) 0).length)) c41 (fl eO (allK 2 S.B)), Dc f12 64 S.F, Sl 32 3 p22 (((inS 1 (As S.F) 0).length)) c23 (fl eO (allK 1 S.F)), Cl b [.bool true, pV f12, pV p13, pV d14, pV s15, pV l16, iV S.now] 126, Sr 178 s15 S.q, LgR l16 S.T, R] := sat_imp h65 (fun _ hh_ => by rw [hn_, show (((allK 1 S.F) ++ (allK 2 S.B)) ++ (allK 3 S.D)) = allS S from by unfold allS; simp only [List.append_assoc, List.nil_append]] at hh_; exact hh_)
 have h70 : sat g w63 [WdR b S, Sl 32 3 p61 (((allS S).length)) cap62 (fl eO (allS S)), Sl 32 3 p54 (((inS 1 (As S.D) 0).length)) c55 (fl eO (allK 3 S.D)), Sl 32 3 p40 (((inS 1 (As S.B) 0).length)) c41 (fl eO (allK 2 S.B)), Sl 32 3 p22 (((inS 1 (As S.F) 0).length)) c23 (fl eO (allK 1 S.F)), R] := rw_close hP10 (tk11 (sf10 (sf9 (sf8 (sf7 (sf10 (sf10 (sf4 (sf5 (sf6 (sf7 (sf10 h68))))))))))))
 exact en (.slice p61 (((inS 1 (As S.F) 0).length) + ((inS 1 (As S.B) 0).length) + ((inS 1 (As S.D) 0).length)) cap62) [] ⟨_, _, rfl, ⟨p61, cap62, by rw [hn_], rfl⟩, (tk3 (sf2 (sf2 (sf5 (tk6 (sf5 (sf4 (sf5 (sf5 (sf5 (sf5 h70)))))))))))⟩

set_option maxHeartbeats 4000000 in
theorem r12has_ht (b : Nat) (S : Wst) (x y z : Int) : HT Tryz.prog 40 [pV b, .agg #[iV x, iV y, uV z]] [WdR b S] (fun v K => v = .bool (decide (Thr S (x, y, z))) ∧ K = [WdR b S]) := by
 refine hiS Tryz.func40 Tryz.ntmps40 fun g w0 R h0 => ?_
 have hwk_ := (rw_get (j := 0) h0 rfl).1
 refine go [] <| nP 32 [iV x, iV y, uV z] h0 (fun r10 _ h12 => ?_)
 have h15 := tk3 (sf2 (sf1 (sf2 h12)))
 refine go [] <| cP Tryz.call43 (r12all_ht b S) h15 ?_
 rintro v K _ (⟨p13, c14, rfl, rfl⟩) h17
 have h18 := ap2 h17
 have hl19 := allS_le (rw_get (j := 1) h18 rfl).1
 refine go [] ?_
 refine lpS (fun mz_ a w => ∃ i : Nat, ∃ lr : Fr, mz_ = (allS S).length - i ∧ (i ≤ (allS S).length) ∧ (∀ b ∈ (allS S).take i, b ≠ (x, y, z)) ∧ a = mk 21 (([(3, pV r10), (5, .slice p13 (((allS S).length)) c14), (6, iV (i : Int))] : Fr) ++ lr) ∧ sat g w [Sl 32 3 p13 (((allS S).length)) c14 (fl eO (allS S)), WdR b S, Cl r10 [iV x, iV y, uV z] 32, R]) ((allS S).length - 0) ⟨0, _, rfl, (Nat.zero_le _), (fun _ hb_ => nomatch hb_), (lvF [.k 3 (pV r10), .k 5 (.slice p13 (((allS S).length)) c14), .o 6 (oJ .i64 0 (0 : Int))]), h18⟩ ?_
 rintro m21 a22 w23 ⟨i, lr20, rfl, hi, hno, rfl, h24⟩
 refine ga <| go [.s 3 3] ?_
 by_cases c25 : (i : Int) < (((allS S).length : Nat) : Int)
 ·
  refine go [.v 3 3 (oT ((i : Int) < (((allS S).length : Nat) : Int)))] <| dw (fls [0, 1, 2, 3, 4, 5] Tr.nil) h24 fun _ h27 => ?_
  obtain ⟨b28, hp29⟩ := sl_ptr0 (j := 0) h27 rfl (by omega)
  refine go [.s 5 2] <| lw (.pointer (some ⟨b28, i * 3, none⟩)) (fun _ => law_indexSlP (x := (Operand.tmp 15)) (i := (Operand.tmp 16)) (p := p13) (b := b28) (off := 0) (z := (i : Int)) (len := (((allS S).length))) (cap := c14) (by kernel_rfl) Tryz.underlying30 3 (by kernel_rfl) i (by kernel_rfl) hp29 (by kernel_rfl) (by omega) (by omega) (i * 3) (by omega) _) ?_
  obtain ⟨x30, hx31⟩ : ∃ x, (allS S)[i]? = some x := ⟨_, List.getElem?_eq_getElem (by omega)⟩
  refine go [.r 5 3 b28 (i * 3) [iV x30.1, iV x30.2.1, uV x30.2.2] ⟨gv_cell (j := 0) h27 rfl (gv_sl _ _ _) hp29 (fl_get eO_ok (j := 0) (v := iV x30.1) hx31 rfl) (i * 3) (by omega), gv_cell (j := 0) h27 rfl (gv_sl _ _ _) hp29 (fl_get eO_ok (j := 1) (v := iV x30.2.1) hx31 rfl) (i * 3 + 1) (by omega), gv_cell (j := 0) h27 rfl (gv_sl _ _ _) hp29 (fl_get eO_ok (j := 2) (v := uV x30.2.2) hx31 rfl) (i * 3 + 2) (by omega), trivial⟩, rd 5 4 2 0 3 h27, .s 5 5] ?_
  by_cases c32 : x30.1 = x
  ·
   by_cases c33 : x30.2.1 = y
   ·
    by_cases c34 : x30.2.2 = z
    ·
     refine lw (.bool true) (fun _ => q35e32_eql_t (x := (Operand.tmp 18)) (y := (Operand.tmp 19)) x30.1 x30.2.1 x30.2.2 x y z (by kernel_rfl) (by kernel_rfl) (by kernel_rfl) ⟨(by omega), (by omega), (by omega)⟩ _) <| go [] <| up <| go [] ?_
     exact en (.bool true) [] ⟨_, _, rfl, ⟨by rw [decide_eq_true ((thr_iff hwk_ _).1 (by have h_ := List.mem_of_getElem? hx31; rwa [ky_eq (a := x30) (x := x) (y := y) (z := z) (by omega)] at h_))], rfl⟩, (tk2 (sf1 (sf3 (tk4 (sf3 (sf2 (sf3 (sf3 h27))))))))⟩
    refine lw (.bool false) (fun _ => q35e32_eql_f (x := (Operand.tmp 18)) (y := (Operand.tmp 19)) x30.1 x30.2.1 x30.2.2 x y z (by kernel_rfl) (by kernel_rfl) (by kernel_rfl) (by omega) _) <| go [.v 4 1 (oIr ((i : Int) + 1))] ?_
    refine enL ?_
    change ∃ n', n' < _ ∧ _
    refine ⟨((allS S).length - (i + 1)), by omega, (i + 1), _, rfl, (by omega), (tk_ne hno hx31 (ky_ne (by omega))), (lvF [.k 3 (pV r10), .k 5 (.slice p13 (((allS S).length)) c14), .o 6 (oJ .i64 ((i : Int) + 1) ((((i + 1) : Nat) : Int)))]), h27⟩
   refine lw (.bool false) (fun _ => q35e32_eql_f (x := (Operand.tmp 18)) (y := (Operand.tmp 19)) x30.1 x30.2.1 x30.2.2 x y z (by kernel_rfl) (by kernel_rfl) (by kernel_rfl) (by omega) _) <| go [.v 4 1 (oIr ((i : Int) + 1))] ?_
   refine enL ?_
   change ∃ n', n' < _ ∧ _
   refine ⟨((allS S).length - (i + 1)), by omega, (i + 1), _, rfl, (by omega), (tk_ne hno hx31 (ky_ne (by omega))), (lvF [.k 3 (pV r10), .k 5 (.slice p13 (((allS S).length)) c14), .o 6 (oJ .i64 ((i : Int) + 1) ((((i + 1) : Nat) : Int)))]), h27⟩
  refine lw (.bool false) (fun _ => q35e32_eql_f (x := (Operand.tmp 18)) (y := (Operand.tmp 19)) x30.1 x30.2.1 x30.2.2 x y z (by kernel_rfl) (by kernel_rfl) (by kernel_rfl) (by omega) _) <| go [.v 4 1 (oIr ((i : Int) + 1))] ?_
  refine enL ?_
  change ∃ n', n' < _ ∧ _
  refine ⟨((allS S).length - (i + 1)), by omega, (i + 1), _, rfl, (by omega), (tk_ne hno hx31 (ky_ne (by omega))), (lvF [.k 3 (pV r10), .k 5 (.slice p13 (((allS S).length)) c14), .o 6 (oJ .i64 ((i : Int) + 1) ((((i + 1) : Nat) : Int)))]), h27⟩
 refine go [.v 3 3 (oF ((i : Int) < (((allS S).length : Nat) : Int)))] <| up <| go [] ?_
 exact en (.bool false) [] ⟨_, _, rfl, ⟨by rw [decide_eq_false (fun h_ => tk_not hno (by omega) ((thr_iff hwk_ _).2 h_))], rfl⟩, (tk2 (sf1 (sf3 (tk4 (sf3 (sf2 (sf3 (sf3 h24))))))))⟩

end Go.Proofs.YtggfnbpohmhphaaGreatDoor

/- Walks, printed by my generator r6.py. -/
namespace Go.Proofs.YtggfnbpohmhphaaGreatDoor
theorem q36e32_neq_t {n : Nat} {l : Fr} {o : Oper} {x y : Operand} (a0 : Int) (a1 : Int) (a2 : Int) (c0 : Int) (c1 : Int) (c2 : Int) (ho : o.op = .binOp .neq 32 x y 32) (hx : fe n l x = .agg #[.int .i64 a0, .int .i64 a1, .int .u32 a2]) (hy : fe n l y = .agg #[.int .i64 c0, .int .i64 c1, .int .u32 c2]) (h : a0 = c0 ∧ a1 = c1 ∧ a2 = c2) (w : World) : (execOp (fe n l) o).run Tryz.prog w = .ok (.value (.bool false)) w := by
  obtain ⟨rfl, rfl, rfl⟩ := h
  simp [execOp, ho, hx, hy, go_sem]
theorem q36e32_neq_f {n : Nat} {l : Fr} {o : Oper} {x y : Operand} (a0 : Int) (a1 : Int) (a2 : Int) (c0 : Int) (c1 : Int) (c2 : Int) (ho : o.op = .binOp .neq 32 x y 32) (hx : fe n l x = .agg #[.int .i64 a0, .int .i64 a1, .int .u32 a2]) (hy : fe n l y = .agg #[.int .i64 c0, .int .i64 c1, .int .u32 c2]) (h : ¬ (a0 = c0 ∧ a1 = c1 ∧ a2 = c2)) (w : World) : (execOp (fe n l) o).run Tryz.prog w = .ok (.value (.bool true)) w := by
  by_cases h0 : a0 = c0
  · skip
    by_cases h1 : a1 = c1
    · skip
      by_cases h2 : a2 = c2
      · exact absurd ⟨h0, h1, h2⟩ h
      · simp [execOp, ho, hx, hy, go_sem, h0, h1, h2]
    · simp [execOp, ho, hx, hy, go_sem, h0, h1]
  · simp [execOp, ho, hx, hy, go_sem, h0]
theorem q36e44_neq_t {n : Nat} {l : Fr} {o : Oper} {x y : Operand} (a0 : Int) (a1 : Int) (a2 : Int) (a3 : Int) (a4 : Int) (a5 : Int) (c0 : Int) (c1 : Int) (c2 : Int) (c3 : Int) (c4 : Int) (c5 : Int) (ho : o.op = .binOp .neq 44 x y 44) (hx : fe n l x = .agg #[.int .i64 a0, .int .i64 a1, .int .i64 a2, .int .u32 a3, .int .i64 a4, .int .i64 a5]) (hy : fe n l y = .agg #[.int .i64 c0, .int .i64 c1, .int .i64 c2, .int .u32 c3, .int .i64 c4, .int .i64 c5]) (h : a0 = c0 ∧ a1 = c1 ∧ a2 = c2 ∧ a3 = c3 ∧ a4 = c4 ∧ a5 = c5) (w : World) : (execOp (fe n l) o).run Tryz.prog w = .ok (.value (.bool false)) w := by
  obtain ⟨rfl, rfl, rfl, rfl, rfl, rfl⟩ := h
  simp [execOp, ho, hx, hy, go_sem]
theorem q36e44_neq_f {n : Nat} {l : Fr} {o : Oper} {x y : Operand} (a0 : Int) (a1 : Int) (a2 : Int) (a3 : Int) (a4 : Int) (a5 : Int) (c0 : Int) (c1 : Int) (c2 : Int) (c3 : Int) (c4 : Int) (c5 : Int) (ho : o.op = .binOp .neq 44 x y 44) (hx : fe n l x = .agg #[.int .i64 a0, .int .i64 a1, .int .i64 a2, .int .u32 a3, .int .i64 a4, .int .i64 a5]) (hy : fe n l y = .agg #[.int .i64 c0, .int .i64 c1, .int .i64 c2, .int .u32 c3, .int .i64 c4, .int .i64 c5]) (h : ¬ (a0 = c0 ∧ a1 = c1 ∧ a2 = c2 ∧ a3 = c3 ∧ a4 = c4 ∧ a5 = c5)) (w : World) : (execOp (fe n l) o).run Tryz.prog w = .ok (.value (.bool true)) w := by
  by_cases h0 : a0 = c0
  · skip
    by_cases h1 : a1 = c1
    · skip
      by_cases h2 : a2 = c2
      · skip
        by_cases h3 : a3 = c3
        · skip
          by_cases h4 : a4 = c4
          · skip
            by_cases h5 : a5 = c5
            · exact absurd ⟨h0, h1, h2, h3, h4, h5⟩ h
            · simp [execOp, ho, hx, hy, go_sem, h0, h1, h2, h3, h4, h5]
          · simp [execOp, ho, hx, hy, go_sem, h0, h1, h2, h3, h4]
        · simp [execOp, ho, hx, hy, go_sem, h0, h1, h2, h3]
      · simp [execOp, ho, hx, hy, go_sem, h0, h1, h2]
    · simp [execOp, ho, hx, hy, go_sem, h0, h1]
  · simp [execOp, ho, hx, hy, go_sem, h0]
set_option maxHeartbeats 4000000 in
theorem racq_1 (b : Nat) (S : Wst) (a : Int) (ha : 0 ≤ a ∧ a ≤ 65535) : HT Tryz.prog 33 [pV b, iV 1, iV a] [WdR b S] (fun v K => v = .tuple #[.agg #[iV (acqO S 1 a).1, iV (acqO S 1 a).2.1, uV (acqO S 1 a).2.2], iV (acqE S 1 a)] ∧ K = [WdR b (acqS S 1 a)]) := by
 refine hiS Tryz.func33 Tryz.ntmps33 fun g w0 R h0 => ?_
 have hwk_ := rw_get (j := 0) h0 rfl; have hhd_ := headD_bd hwk_.1.qb; have hhda_ := hhd_.1; have hhdb_ := hhd_.2; have hnwa_ := hwk_.1.nl; have hnwb_ := hwk_.1.nh
 refine go [] <| nP 32 [iV 0, iV 0, uV 0] h0 (fun r10 _ h12 => ?_)
 obtain ⟨f16, p17, d18, s19, l20, hP14, h15⟩ := rw_open (tk3 (sf2 (sf1 (sf2 h12))))
 have hP14n := hP14.1.nl; have hP14m := hP14.1.nh; have hP14t := hP14.1.tn
 refine go [] <| cl1 Tryz.call81 (r12v b (pV f16) (pV p17) (pV d18) (pV s19) (pV l20) (iV S.now)) h15 fun _ h22 => go [] <| cl0 Tryz.call82 (rgod_1y a (by omega)) h22 fun w23 h24 => ?_
 have h25 : sat g w23 [WdR b S, Cl r10 [iV 0, iV 0, uV 0] 32, R] := rw_close hP14 h24
 refine go [] <| cP Tryz.call38 (r12copy_ht b S) h25 ?_
 rintro v K _ (⟨b26, rfl, rfl⟩) h28
 obtain ⟨f33, p34, d35, s36, l37, hP31, h32⟩ := rw_open (tk4 (sf3 (sf2 (sf3 (sf3 (ap2 h28))))))
 have hP31n := hP31.1.nl; have hP31m := hP31.1.nh; have hP31t := hP31.1.tn
 refine go [] <| cl2 Tryz.call83 (r12get_1 b26 f33 p34 d35 s36 l37 S.now S.F a (by omega)) h32 fun _ h39 => go [] <| nP 32 [iV 0, iV 0, uV 0] h39 (fun r40 _ h42 => ?_)
 refine sP [(0, iV ((opnO S.F a).1)), (1, iV ((opnO S.F a).2.1)), (2, uV ((opnO S.F a).2.2))] [iV ((opnO S.F a).1), iV ((opnO S.F a).2.1), uV ((opnO S.F a).2.2)] h42 fun _ h44 => go [.s 6 1] ?_
 by_cases c45 : (opnE S.F a) = 0
 ·
  obtain ⟨f49, p50, d51, s52, l53, hP47, h48⟩ := rw_open (tk10 (sf9 (sf8 (sf8 (sf8 (sf8 (sf8 (sf8 (sf8 (sf9 (sf9 h44)))))))))))
  have hP47n := hP47.1.nl; have hP47m := hP47.1.nh; have hP47t := hP47.1.tn
  have h54 := tk15 (sf14 (sf13 (sf13 (sf13 (sf13 (sf14 (sf14 (sf14 (sf14 (sf14 (sf14 (sf14 (sf14 (sf14 (sf14 h48)))))))))))))))
  refine go [.v 6 1 (qnF ((opnE S.F a)) 0), rd 8 3 0 4 1 h48] <| cl1 Tryz.call84 (rnext_ht s52 S.q) h54 fun _ h56 => go [.s 9 0] ?_
  by_cases c57 : (S.q.headD 1) = 2
  ·
   have h58 := tk15 (sf14 (sf13 (sf13 (sf13 (sf13 (sf13 (sf13 (sf13 (sf13 (sf13 (sf13 (sf13 (sf13 (sf13 (sf14 h56)))))))))))))))
   refine go [.v 9 0 (qeT ((S.q.headD 1)) 2)] <| sP [(0, iV 0), (1, iV 0), (2, uV 0)] [iV 0, iV 0, uV 0] h58 fun w59 h60 => go [] ?_
   have hp_ := acq_later (S := S) (god1 ha) ((opn_grw (S := S) ha).1.symm.trans (by omega)) (by omega)
   have h61 := tk15 (sf14 (sf14 (sf14 (sf14 (sf10 (sf14 (sf8 (sf14 (sf14 (sf14 (sf14 (sf14 (sf14 (sf14 (sf14 h60)))))))))))))))
   have h62 : sat g w59 [WdR b ({ S with q := S.q.tail } : Wst), Cl r10 [iV 0, iV 0, uV 0] 32, Cl r40 [iV ((opnO S.F a).1), iV ((opnO S.F a).2.1), uV ((opnO S.F a).2.2)] 32, Cl b26 [.bool true, pV f33, pV p34, pV d35, pV s36, pV l37, iV S.now] 126, Dc f33 64 (opnX S.F a), PlR p34 S.B, DkR d35 S.D, Sr 178 s36 S.q, LgR l37 S.T, R] := rw_close ⟨hp_.2.2 ▸ wok_acq hwk_.1 1 a, hwk_.2⟩ h61
   exact en (.tuple #[.agg #[iV 0, iV 0, uV 0], iV 15]) [rd 0 0 0 0 3 h60] ⟨_, [WdR b ({ S with q := S.q.tail } : Wst)], rfl, ⟨by rw [hp_.1, hp_.2.1], by rw [hp_.2.2]⟩, (tk2 (sf1 (sf9 h62)))⟩
  refine go [.v 9 0 (qeF ((S.q.headD 1)) 2), .s 11 0] ?_
  by_cases c64 : (S.q.headD 1) = 3
  ·
   have h65 := tk15 (sf14 (sf13 (sf13 (sf13 (sf13 (sf13 (sf13 (sf13 (sf13 (sf13 (sf13 (sf13 (sf13 (sf13 (sf14 h56)))))))))))))))
   refine go [.v 11 0 (qeT ((S.q.headD 1)) 3)] <| sP [(0, iV 0), (1, iV 0), (2, uV 0)] [iV 0, iV 0, uV 0] h65 fun w66 h67 => go [] ?_
   have hp_ := acq_fail (S := S) (god1 ha) ((opn_grw (S := S) ha).1.symm.trans (by omega)) (by omega) (by omega)
   have h68 := tk15 (sf14 (sf14 (sf14 (sf14 (sf10 (sf14 (sf8 (sf14 (sf14 (sf14 (sf14 (sf14 (sf14 (sf14 (sf14 h67)))))))))))))))
   have h69 : sat g w66 [WdR b ({ S with q := S.q.tail } : Wst), Cl r10 [iV 0, iV 0, uV 0] 32, Cl r40 [iV ((opnO S.F a).1), iV ((opnO S.F a).2.1), uV ((opnO S.F a).2.2)] 32, Cl b26 [.bool true, pV f33, pV p34, pV d35, pV s36, pV l37, iV S.now] 126, Dc f33 64 (opnX S.F a), PlR p34 S.B, DkR d35 S.D, Sr 178 s36 S.q, LgR l37 S.T, R] := rw_close ⟨hp_.2.2 ▸ wok_acq hwk_.1 1 a, hwk_.2⟩ h68
   exact en (.tuple #[.agg #[iV 0, iV 0, uV 0], iV 14]) [rd 0 0 0 0 3 h67] ⟨_, [WdR b ({ S with q := S.q.tail } : Wst)], rfl, ⟨by rw [hp_.1, hp_.2.1], by rw [hp_.2.2]⟩, (tk2 (sf1 (sf9 h69)))⟩
  have h71 := tk15 (sf14 (sf14 (sf12 (sf14 (sf14 (sf14 (sf14 (sf14 (sf14 (sf14 (sf14 (sf14 (sf14 (sf14 (sf14 h56)))))))))))))))
  refine go [.v 11 0 (qeF ((S.q.headD 1)) 3)] <| cl2 Tryz.call83 (r12get_1 b f49 p50 d51 s52 l53 S.now S.F a (by omega)) h71 fun _ h73 => ?_
  have h74 := tk15 (sf14 (sf13 (sf13 (sf13 (sf13 (sf13 (sf13 (sf13 (sf13 (sf13 (sf13 (sf13 (sf13 (sf13 (sf14 h73)))))))))))))))
  refine go [] <| sP [(0, iV ((opnO S.F a).1)), (1, iV ((opnO S.F a).2.1)), (2, uV ((opnO S.F a).2.2))] [iV ((opnO S.F a).1), iV ((opnO S.F a).2.1), uV ((opnO S.F a).2.2)] h74 fun w75 h76 => go [] ?_
  have hp_ := acq_ok1 (S := S) ha (by omega) (by omega) (by omega)
  have he0_ : (opnE S.F a) = 0 := by omega
  have h77 := tk15 (sf14 (sf14 (sf14 (sf14 (sf12 (sf14 (sf8 (sf14 (sf14 (sf14 (sf14 (sf14 (sf14 (sf14 (sf14 h76)))))))))))))))
  have h78 : sat g w75 [WdR b ({ S with q := S.q.tail, F := opnX S.F a } : Wst), Cl r10 [iV ((opnO S.F a).1), iV ((opnO S.F a).2.1), uV ((opnO S.F a).2.2)] 32, Cl r40 [iV ((opnO S.F a).1), iV ((opnO S.F a).2.1), uV ((opnO S.F a).2.2)] 32, Cl b26 [.bool true, pV f33, pV p34, pV d35, pV s36, pV l37, iV S.now] 126, Dc f33 64 (opnX S.F a), PlR p34 S.B, DkR d35 S.D, Sr 178 s36 S.q, LgR l37 S.T, R] := rw_close ⟨hp_.2.2 ▸ wok_acq hwk_.1 1 a, hwk_.2⟩ h77
  exact en (.tuple #[.agg #[iV ((opnO S.F a).1), iV ((opnO S.F a).2.1), uV ((opnO S.F a).2.2)], iV ((opnE S.F a))]) [rd 0 0 0 0 3 h76] ⟨_, [WdR b ({ S with q := S.q.tail, F := opnX S.F a } : Wst)], rfl, ⟨by rw [hp_.1, hp_.2.1]; simp only [he0_], by rw [hp_.2.2]⟩, (tk2 (sf1 (sf9 h78)))⟩
 have h80 := tk10 (sf9 (sf8 (sf8 (sf8 (sf8 (sf8 (sf8 (sf8 (sf8 (sf9 h44))))))))))
 refine go [.v 6 1 (qnT ((opnE S.F a)) 0)] <| sP [(0, iV 0), (1, iV 0), (2, uV 0)] [iV 0, iV 0, uV 0] h80 fun _ h82 => go [] ?_
 have hp_ := acq_err (S := S) (god1 ha) (opn_grw (S := S) ha).1.symm (by omega)
 exact en (.tuple #[.agg #[iV 0, iV 0, uV 0], iV ((opnE S.F a))]) [rd 0 0 0 0 3 h82] ⟨_, [WdR b S], rfl, ⟨by rw [hp_.1, hp_.2.1], by rw [hp_.2.2]⟩, (tk2 (sf1 (sf9 (tk10 (sf9 (sf8 (sf8 (sf8 (sf8 (sf8 (sf8 (sf8 (sf8 (sf9 h82))))))))))))))⟩

set_option maxHeartbeats 4000000 in
theorem racq_1n (b : Nat) (S : Wst) (a : Int) (ha : a < 0 ∨ 65535 < a) (hng : ¬ godP 1 a) : HT Tryz.prog 33 [pV b, iV 1, iV a] [WdR b S] (fun v K => v = .tuple #[.agg #[iV (acqO S 1 a).1, iV (acqO S 1 a).2.1, uV (acqO S 1 a).2.2], iV (acqE S 1 a)] ∧ K = [WdR b (acqS S 1 a)]) := by
 refine hiS Tryz.func33 Tryz.ntmps33 fun g w0 R h0 => ?_
 have hwk_ := rw_get (j := 0) h0 rfl; have hhd_ := headD_bd hwk_.1.qb; have hhda_ := hhd_.1; have hhdb_ := hhd_.2; have hnwa_ := hwk_.1.nl; have hnwb_ := hwk_.1.nh
 refine go [] <| nP 32 [iV 0, iV 0, uV 0] h0 (fun r10 _ h12 => ?_)
 obtain ⟨f16, p17, d18, s19, l20, hP14, h15⟩ := rw_open (tk3 (sf2 (sf1 (sf2 h12))))
 have hP14n := hP14.1.nl; have hP14m := hP14.1.nh; have hP14t := hP14.1.tn
 refine go [] <| cl1 Tryz.call81 (r12v b (pV f16) (pV p17) (pV d18) (pV s19) (pV l20) (iV S.now)) h15 fun _ h22 => go [] ?_
 by_cases c23 : 0 ≤ a
 ·
  refine cl0 Tryz.call82 (rgod_1n a (by omega)) h22 fun _ h25 => ?_
  have h26 := tk8 (sf7 (sf6 (sf6 (sf6 (sf6 (sf6 (sf6 (sf7 h25))))))))
  refine go [] <| sP [(0, iV 0), (1, iV 0), (2, uV 0)] [iV 0, iV 0, uV 0] h26 fun w27 h28 => go [] ?_
  have hp_ := acq_arg (S := S) (k := 1) (a := a) hng
  have h30 : sat g w27 [WdR b S, Cl r10 [iV 0, iV 0, uV 0] 32, R] := rw_close hP14 (tk8 (sf7 (sf7 (sf7 (sf7 (sf7 (sf7 (sf1 (sf7 h28)))))))))
  exact en (.tuple #[.agg #[iV 0, iV 0, uV 0], iV 2]) [rd 0 0 0 0 3 h28] ⟨_, [WdR b S], rfl, ⟨by rw [hp_.1, hp_.2.1], by rw [hp_.2.2]⟩, (tk2 (sf1 (sf2 h30)))⟩
 refine cl0 Tryz.call82 (rgod_1n a (by omega)) h22 fun _ h33 => ?_
 have h34 := tk8 (sf7 (sf6 (sf6 (sf6 (sf6 (sf6 (sf6 (sf7 h33))))))))
 refine go [] <| sP [(0, iV 0), (1, iV 0), (2, uV 0)] [iV 0, iV 0, uV 0] h34 fun w35 h36 => go [] ?_
 have hp_ := acq_arg (S := S) (k := 1) (a := a) hng
 have h38 : sat g w35 [WdR b S, Cl r10 [iV 0, iV 0, uV 0] 32, R] := rw_close hP14 (tk8 (sf7 (sf7 (sf7 (sf7 (sf7 (sf7 (sf1 (sf7 h36)))))))))
 exact en (.tuple #[.agg #[iV 0, iV 0, uV 0], iV 2]) [rd 0 0 0 0 3 h36] ⟨_, [WdR b S], rfl, ⟨by rw [hp_.1, hp_.2.1], by rw [hp_.2.2]⟩, (tk2 (sf1 (sf2 h38)))⟩

set_option maxHeartbeats 4000000 in
theorem racq_2 (b : Nat) (S : Wst) (a : Int) (ha : 1 ≤ a ∧ a ≤ 65536) : HT Tryz.prog 33 [pV b, iV 2, iV a] [WdR b S] (fun v K => v = .tuple #[.agg #[iV (acqO S 2 a).1, iV (acqO S 2 a).2.1, uV (acqO S 2 a).2.2], iV (acqE S 2 a)] ∧ K = [WdR b (acqS S 2 a)]) := by
 refine hiS Tryz.func33 Tryz.ntmps33 fun g w0 R h0 => ?_
 have hwk_ := rw_get (j := 0) h0 rfl; have hhd_ := headD_bd hwk_.1.qb; have hhda_ := hhd_.1; have hhdb_ := hhd_.2; have hnwa_ := hwk_.1.nl; have hnwb_ := hwk_.1.nh
 refine go [] <| nP 32 [iV 0, iV 0, uV 0] h0 (fun r10 _ h12 => ?_)
 obtain ⟨f16, p17, d18, s19, l20, hP14, h15⟩ := rw_open (tk3 (sf2 (sf1 (sf2 h12))))
 have hP14n := hP14.1.nl; have hP14m := hP14.1.nh; have hP14t := hP14.1.tn
 refine go [] <| cl1 Tryz.call81 (r12v b (pV f16) (pV p17) (pV d18) (pV s19) (pV l20) (iV S.now)) h15 fun _ h22 => go [] <| cl0 Tryz.call82 (rgod_2y a (by omega)) h22 fun w23 h24 => ?_
 have h25 : sat g w23 [WdR b S, Cl r10 [iV 0, iV 0, uV 0] 32, R] := rw_close hP14 h24
 refine go [] <| cP Tryz.call38 (r12copy_ht b S) h25 ?_
 rintro v K _ (⟨b26, rfl, rfl⟩) h28
 obtain ⟨f33, p34, d35, s36, l37, hP31, h32⟩ := rw_open (tk4 (sf3 (sf2 (sf3 (sf3 (ap2 h28))))))
 have hP31n := hP31.1.nl; have hP31m := hP31.1.nh; have hP31t := hP31.1.tn
 have h38 := tk9 (sf8 (sf8 (sf7 (sf8 (sf8 (sf8 (sf8 (sf8 (sf8 h32)))))))))
 refine go [] <| cl2 Tryz.call83 (r12get_2 b26 f33 p34 d35 s36 l37 S.now S.B a (by omega)) h38 fun _ h40 => go [] <| nP 32 [iV 0, iV 0, uV 0] h40 (fun r41 _ h43 => ?_)
 refine sP [(0, iV ((pinO S.B a).1)), (1, iV ((pinO S.B a).2.1)), (2, uV ((pinO S.B a).2.2))] [iV ((pinO S.B a).1), iV ((pinO S.B a).2.1), uV ((pinO S.B a).2.2)] h43 fun _ h45 => go [.s 6 1] ?_
 by_cases c46 : (pinE S.B a) = 0
 ·
  obtain ⟨f50, p51, d52, s53, l54, hP48, h49⟩ := rw_open (tk10 (sf9 (sf8 (sf8 (sf8 (sf8 (sf8 (sf8 (sf8 (sf9 (sf9 h45)))))))))))
  have hP48n := hP48.1.nl; have hP48m := hP48.1.nh; have hP48t := hP48.1.tn
  have h55 := tk15 (sf14 (sf13 (sf13 (sf13 (sf13 (sf14 (sf14 (sf14 (sf14 (sf14 (sf14 (sf14 (sf14 (sf14 (sf14 h49)))))))))))))))
  refine go [.v 6 1 (qnF ((pinE S.B a)) 0), rd 8 3 0 4 1 h49] <| cl1 Tryz.call84 (rnext_ht s53 S.q) h55 fun _ h57 => go [.s 9 0] ?_
  by_cases c58 : (S.q.headD 1) = 2
  ·
   have h59 := tk15 (sf14 (sf13 (sf13 (sf13 (sf13 (sf13 (sf13 (sf13 (sf13 (sf13 (sf13 (sf13 (sf13 (sf13 (sf14 h57)))))))))))))))
   refine go [.v 9 0 (qeT ((S.q.headD 1)) 2)] <| sP [(0, iV 0), (1, iV 0), (2, uV 0)] [iV 0, iV 0, uV 0] h59 fun w60 h61 => go [] ?_
   have hp_ := acq_later (S := S) (god2 ha) ((pin_grw (S := S) ha).1.symm.trans (by omega)) (by omega)
   have h62 := tk15 (sf14 (sf14 (sf14 (sf14 (sf10 (sf14 (sf8 (sf14 (sf14 (sf14 (sf14 (sf14 (sf14 (sf14 (sf14 h61)))))))))))))))
   have h63 : sat g w60 [WdR b ({ S with q := S.q.tail } : Wst), Cl r10 [iV 0, iV 0, uV 0] 32, Cl r41 [iV ((pinO S.B a).1), iV ((pinO S.B a).2.1), uV ((pinO S.B a).2.2)] 32, Cl b26 [.bool true, pV f33, pV p34, pV d35, pV s36, pV l37, iV S.now] 126, PlR p34 (pinX S.B a), Dc f33 64 S.F, DkR d35 S.D, Sr 178 s36 S.q, LgR l37 S.T, R] := rw_close ⟨hp_.2.2 ▸ wok_acq hwk_.1 2 a, hwk_.2⟩ h62
   exact en (.tuple #[.agg #[iV 0, iV 0, uV 0], iV 15]) [rd 0 0 0 0 3 h61] ⟨_, [WdR b ({ S with q := S.q.tail } : Wst)], rfl, ⟨by rw [hp_.1, hp_.2.1], by rw [hp_.2.2]⟩, (tk2 (sf1 (sf9 h63)))⟩
  refine go [.v 9 0 (qeF ((S.q.headD 1)) 2), .s 11 0] ?_
  by_cases c65 : (S.q.headD 1) = 3
  ·
   have h66 := tk15 (sf14 (sf13 (sf13 (sf13 (sf13 (sf13 (sf13 (sf13 (sf13 (sf13 (sf13 (sf13 (sf13 (sf13 (sf14 h57)))))))))))))))
   refine go [.v 11 0 (qeT ((S.q.headD 1)) 3)] <| sP [(0, iV 0), (1, iV 0), (2, uV 0)] [iV 0, iV 0, uV 0] h66 fun w67 h68 => go [] ?_
   have hp_ := acq_fail (S := S) (god2 ha) ((pin_grw (S := S) ha).1.symm.trans (by omega)) (by omega) (by omega)
   have h69 := tk15 (sf14 (sf14 (sf14 (sf14 (sf10 (sf14 (sf8 (sf14 (sf14 (sf14 (sf14 (sf14 (sf14 (sf14 (sf14 h68)))))))))))))))
   have h70 : sat g w67 [WdR b ({ S with q := S.q.tail } : Wst), Cl r10 [iV 0, iV 0, uV 0] 32, Cl r41 [iV ((pinO S.B a).1), iV ((pinO S.B a).2.1), uV ((pinO S.B a).2.2)] 32, Cl b26 [.bool true, pV f33, pV p34, pV d35, pV s36, pV l37, iV S.now] 126, PlR p34 (pinX S.B a), Dc f33 64 S.F, DkR d35 S.D, Sr 178 s36 S.q, LgR l37 S.T, R] := rw_close ⟨hp_.2.2 ▸ wok_acq hwk_.1 2 a, hwk_.2⟩ h69
   exact en (.tuple #[.agg #[iV 0, iV 0, uV 0], iV 14]) [rd 0 0 0 0 3 h68] ⟨_, [WdR b ({ S with q := S.q.tail } : Wst)], rfl, ⟨by rw [hp_.1, hp_.2.1], by rw [hp_.2.2]⟩, (tk2 (sf1 (sf9 h70)))⟩
  have h72 := tk15 (sf14 (sf14 (sf12 (sf13 (sf14 (sf14 (sf14 (sf14 (sf14 (sf14 (sf14 (sf14 (sf14 (sf14 (sf14 h57)))))))))))))))
  refine go [.v 11 0 (qeF ((S.q.headD 1)) 3)] <| cl2 Tryz.call83 (r12get_2 b f50 p51 d52 s53 l54 S.now S.B a (by omega)) h72 fun _ h74 => ?_
  have h75 := tk15 (sf14 (sf13 (sf13 (sf13 (sf13 (sf13 (sf13 (sf13 (sf13 (sf13 (sf13 (sf13 (sf13 (sf13 (sf14 h74)))))))))))))))
  refine go [] <| sP [(0, iV ((pinO S.B a).1)), (1, iV ((pinO S.B a).2.1)), (2, uV ((pinO S.B a).2.2))] [iV ((pinO S.B a).1), iV ((pinO S.B a).2.1), uV ((pinO S.B a).2.2)] h75 fun w76 h77 => go [] ?_
  have hp_ := acq_ok2 (S := S) ha (by omega) (by omega) (by omega)
  have he0_ : (pinE S.B a) = 0 := by omega
  have h78 := tk15 (sf14 (sf14 (sf13 (sf14 (sf12 (sf14 (sf8 (sf14 (sf14 (sf14 (sf14 (sf14 (sf14 (sf14 (sf14 h77)))))))))))))))
  have h79 : sat g w76 [WdR b ({ S with q := S.q.tail, B := pinX S.B a } : Wst), Cl r10 [iV ((pinO S.B a).1), iV ((pinO S.B a).2.1), uV ((pinO S.B a).2.2)] 32, Cl r41 [iV ((pinO S.B a).1), iV ((pinO S.B a).2.1), uV ((pinO S.B a).2.2)] 32, Cl b26 [.bool true, pV f33, pV p34, pV d35, pV s36, pV l37, iV S.now] 126, PlR p34 (pinX S.B a), Dc f33 64 S.F, DkR d35 S.D, Sr 178 s36 S.q, LgR l37 S.T, R] := rw_close ⟨hp_.2.2 ▸ wok_acq hwk_.1 2 a, zv_pin hwk_.2 a⟩ h78
  exact en (.tuple #[.agg #[iV ((pinO S.B a).1), iV ((pinO S.B a).2.1), uV ((pinO S.B a).2.2)], iV ((pinE S.B a))]) [rd 0 0 0 0 3 h77] ⟨_, [WdR b ({ S with q := S.q.tail, B := pinX S.B a } : Wst)], rfl, ⟨by rw [hp_.1, hp_.2.1]; simp only [he0_], by rw [hp_.2.2]⟩, (tk2 (sf1 (sf9 h79)))⟩
 have h81 := tk10 (sf9 (sf8 (sf8 (sf8 (sf8 (sf8 (sf8 (sf8 (sf8 (sf9 h45))))))))))
 refine go [.v 6 1 (qnT ((pinE S.B a)) 0)] <| sP [(0, iV 0), (1, iV 0), (2, uV 0)] [iV 0, iV 0, uV 0] h81 fun _ h83 => go [] ?_
 have hp_ := acq_err (S := S) (god2 ha) (pin_grw (S := S) ha).1.symm (by omega)
 exact en (.tuple #[.agg #[iV 0, iV 0, uV 0], iV ((pinE S.B a))]) [rd 0 0 0 0 3 h83] ⟨_, [WdR b S], rfl, ⟨by rw [hp_.1, hp_.2.1], by rw [hp_.2.2]⟩, (tk2 (sf1 (sf9 (tk10 (sf9 (sf8 (sf8 (sf8 (sf8 (sf8 (sf8 (sf8 (sf8 (sf9 h83))))))))))))))⟩

set_option maxHeartbeats 4000000 in
theorem racq_2n (b : Nat) (S : Wst) (a : Int) (ha : a < 1 ∨ 65536 < a) (hng : ¬ godP 2 a) : HT Tryz.prog 33 [pV b, iV 2, iV a] [WdR b S] (fun v K => v = .tuple #[.agg #[iV (acqO S 2 a).1, iV (acqO S 2 a).2.1, uV (acqO S 2 a).2.2], iV (acqE S 2 a)] ∧ K = [WdR b (acqS S 2 a)]) := by
 refine hiS Tryz.func33 Tryz.ntmps33 fun g w0 R h0 => ?_
 have hwk_ := rw_get (j := 0) h0 rfl; have hhd_ := headD_bd hwk_.1.qb; have hhda_ := hhd_.1; have hhdb_ := hhd_.2; have hnwa_ := hwk_.1.nl; have hnwb_ := hwk_.1.nh
 refine go [] <| nP 32 [iV 0, iV 0, uV 0] h0 (fun r10 _ h12 => ?_)
 obtain ⟨f16, p17, d18, s19, l20, hP14, h15⟩ := rw_open (tk3 (sf2 (sf1 (sf2 h12))))
 have hP14n := hP14.1.nl; have hP14m := hP14.1.nh; have hP14t := hP14.1.tn
 refine go [] <| cl1 Tryz.call81 (r12v b (pV f16) (pV p17) (pV d18) (pV s19) (pV l20) (iV S.now)) h15 fun _ h22 => go [] ?_
 by_cases c23 : 1 ≤ a
 ·
  refine cl0 Tryz.call82 (rgod_2n a (by omega)) h22 fun _ h25 => ?_
  have h26 := tk8 (sf7 (sf6 (sf6 (sf6 (sf6 (sf6 (sf6 (sf7 h25))))))))
  refine go [] <| sP [(0, iV 0), (1, iV 0), (2, uV 0)] [iV 0, iV 0, uV 0] h26 fun w27 h28 => go [] ?_
  have hp_ := acq_arg (S := S) (k := 2) (a := a) hng
  have h30 : sat g w27 [WdR b S, Cl r10 [iV 0, iV 0, uV 0] 32, R] := rw_close hP14 (tk8 (sf7 (sf7 (sf7 (sf7 (sf7 (sf7 (sf1 (sf7 h28)))))))))
  exact en (.tuple #[.agg #[iV 0, iV 0, uV 0], iV 2]) [rd 0 0 0 0 3 h28] ⟨_, [WdR b S], rfl, ⟨by rw [hp_.1, hp_.2.1], by rw [hp_.2.2]⟩, (tk2 (sf1 (sf2 h30)))⟩
 refine cl0 Tryz.call82 (rgod_2n a (by omega)) h22 fun _ h33 => ?_
 have h34 := tk8 (sf7 (sf6 (sf6 (sf6 (sf6 (sf6 (sf6 (sf7 h33))))))))
 refine go [] <| sP [(0, iV 0), (1, iV 0), (2, uV 0)] [iV 0, iV 0, uV 0] h34 fun w35 h36 => go [] ?_
 have hp_ := acq_arg (S := S) (k := 2) (a := a) hng
 have h38 : sat g w35 [WdR b S, Cl r10 [iV 0, iV 0, uV 0] 32, R] := rw_close hP14 (tk8 (sf7 (sf7 (sf7 (sf7 (sf7 (sf7 (sf1 (sf7 h36)))))))))
 exact en (.tuple #[.agg #[iV 0, iV 0, uV 0], iV 2]) [rd 0 0 0 0 3 h36] ⟨_, [WdR b S], rfl, ⟨by rw [hp_.1, hp_.2.1], by rw [hp_.2.2]⟩, (tk2 (sf1 (sf2 h38)))⟩

set_option maxHeartbeats 4000000 in
theorem racq_3 (b : Nat) (S : Wst) (a : Int) (ha : 1 ≤ a ∧ a ≤ 1048576) : HT Tryz.prog 33 [pV b, iV 3, iV a] [WdR b S] (fun v K => v = .tuple #[.agg #[iV (acqO S 3 a).1, iV (acqO S 3 a).2.1, uV (acqO S 3 a).2.2], iV (acqE S 3 a)] ∧ K = [WdR b (acqS S 3 a)]) := by
 refine hiS Tryz.func33 Tryz.ntmps33 fun g w0 R h0 => ?_
 have hwk_ := rw_get (j := 0) h0 rfl; have hhd_ := headD_bd hwk_.1.qb; have hhda_ := hhd_.1; have hhdb_ := hhd_.2; have hnwa_ := hwk_.1.nl; have hnwb_ := hwk_.1.nh
 refine go [] <| nP 32 [iV 0, iV 0, uV 0] h0 (fun r10 _ h12 => ?_)
 obtain ⟨f16, p17, d18, s19, l20, hP14, h15⟩ := rw_open (tk3 (sf2 (sf1 (sf2 h12))))
 have hP14n := hP14.1.nl; have hP14m := hP14.1.nh; have hP14t := hP14.1.tn
 refine go [] <| cl1 Tryz.call81 (r12v b (pV f16) (pV p17) (pV d18) (pV s19) (pV l20) (iV S.now)) h15 fun _ h22 => go [] <| cl0 Tryz.call82 (rgod_3y a (by omega)) h22 fun w23 h24 => ?_
 have h25 : sat g w23 [WdR b S, Cl r10 [iV 0, iV 0, uV 0] 32, R] := rw_close hP14 h24
 refine go [] <| cP Tryz.call38 (r12copy_ht b S) h25 ?_
 rintro v K _ (⟨b26, rfl, rfl⟩) h28
 obtain ⟨f33, p34, d35, s36, l37, hP31, h32⟩ := rw_open (tk4 (sf3 (sf2 (sf3 (sf3 (ap2 h28))))))
 have hP31n := hP31.1.nl; have hP31m := hP31.1.nh; have hP31t := hP31.1.tn
 have h38 := tk9 (sf8 (sf8 (sf7 (sf7 (sf8 (sf8 (sf8 (sf8 (sf8 h32)))))))))
 refine go [] <| cl2 Tryz.call83 (r12get_3 b26 f33 p34 d35 s36 l37 S.now S.D a (by omega) (by omega)) h38 fun _ h40 => go [] <| nP 32 [iV 0, iV 0, uV 0] h40 (fun r41 _ h43 => ?_)
 refine sP [(0, iV ((gntO S.D a S.now).1)), (1, iV ((gntO S.D a S.now).2.1)), (2, uV ((gntO S.D a S.now).2.2))] [iV ((gntO S.D a S.now).1), iV ((gntO S.D a S.now).2.1), uV ((gntO S.D a S.now).2.2)] h43 fun _ h45 => go [.s 6 1] ?_
 by_cases c46 : (gntE S.D a S.now) = 0
 ·
  obtain ⟨f50, p51, d52, s53, l54, hP48, h49⟩ := rw_open (tk10 (sf9 (sf8 (sf8 (sf8 (sf8 (sf8 (sf8 (sf8 (sf9 (sf9 h45)))))))))))
  have hP48n := hP48.1.nl; have hP48m := hP48.1.nh; have hP48t := hP48.1.tn
  have h55 := tk15 (sf14 (sf13 (sf13 (sf13 (sf13 (sf14 (sf14 (sf14 (sf14 (sf14 (sf14 (sf14 (sf14 (sf14 (sf14 h49)))))))))))))))
  refine go [.v 6 1 (qnF ((gntE S.D a S.now)) 0), rd 8 3 0 4 1 h49] <| cl1 Tryz.call84 (rnext_ht s53 S.q) h55 fun _ h57 => go [.s 9 0] ?_
  by_cases c58 : (S.q.headD 1) = 2
  ·
   have h59 := tk15 (sf14 (sf13 (sf13 (sf13 (sf13 (sf13 (sf13 (sf13 (sf13 (sf13 (sf13 (sf13 (sf13 (sf13 (sf14 h57)))))))))))))))
   refine go [.v 9 0 (qeT ((S.q.headD 1)) 2)] <| sP [(0, iV 0), (1, iV 0), (2, uV 0)] [iV 0, iV 0, uV 0] h59 fun w60 h61 => go [] ?_
   have hp_ := acq_later (S := S) (god3 ha) ((gnt_grw (S := S) ha).1.symm.trans (by omega)) (by omega)
   have h62 := tk15 (sf14 (sf14 (sf14 (sf14 (sf10 (sf14 (sf8 (sf14 (sf14 (sf14 (sf14 (sf14 (sf14 (sf14 (sf14 h61)))))))))))))))
   have h63 : sat g w60 [WdR b ({ S with q := S.q.tail } : Wst), Cl r10 [iV 0, iV 0, uV 0] 32, Cl r41 [iV ((gntO S.D a S.now).1), iV ((gntO S.D a S.now).2.1), uV ((gntO S.D a S.now).2.2)] 32, Cl b26 [.bool true, pV f33, pV p34, pV d35, pV s36, pV l37, iV S.now] 126, DkR d35 (gntX S.D a S.now), Dc f33 64 S.F, PlR p34 S.B, Sr 178 s36 S.q, LgR l37 S.T, R] := rw_close ⟨hp_.2.2 ▸ wok_acq hwk_.1 3 a, hwk_.2⟩ h62
   exact en (.tuple #[.agg #[iV 0, iV 0, uV 0], iV 15]) [rd 0 0 0 0 3 h61] ⟨_, [WdR b ({ S with q := S.q.tail } : Wst)], rfl, ⟨by rw [hp_.1, hp_.2.1], by rw [hp_.2.2]⟩, (tk2 (sf1 (sf9 h63)))⟩
  refine go [.v 9 0 (qeF ((S.q.headD 1)) 2), .s 11 0] ?_
  by_cases c65 : (S.q.headD 1) = 3
  ·
   have h66 := tk15 (sf14 (sf13 (sf13 (sf13 (sf13 (sf13 (sf13 (sf13 (sf13 (sf13 (sf13 (sf13 (sf13 (sf13 (sf14 h57)))))))))))))))
   refine go [.v 11 0 (qeT ((S.q.headD 1)) 3)] <| sP [(0, iV 0), (1, iV 0), (2, uV 0)] [iV 0, iV 0, uV 0] h66 fun w67 h68 => go [] ?_
   have hp_ := acq_fail (S := S) (god3 ha) ((gnt_grw (S := S) ha).1.symm.trans (by omega)) (by omega) (by omega)
   have h69 := tk15 (sf14 (sf14 (sf14 (sf14 (sf10 (sf14 (sf8 (sf14 (sf14 (sf14 (sf14 (sf14 (sf14 (sf14 (sf14 h68)))))))))))))))
   have h70 : sat g w67 [WdR b ({ S with q := S.q.tail } : Wst), Cl r10 [iV 0, iV 0, uV 0] 32, Cl r41 [iV ((gntO S.D a S.now).1), iV ((gntO S.D a S.now).2.1), uV ((gntO S.D a S.now).2.2)] 32, Cl b26 [.bool true, pV f33, pV p34, pV d35, pV s36, pV l37, iV S.now] 126, DkR d35 (gntX S.D a S.now), Dc f33 64 S.F, PlR p34 S.B, Sr 178 s36 S.q, LgR l37 S.T, R] := rw_close ⟨hp_.2.2 ▸ wok_acq hwk_.1 3 a, hwk_.2⟩ h69
   exact en (.tuple #[.agg #[iV 0, iV 0, uV 0], iV 14]) [rd 0 0 0 0 3 h68] ⟨_, [WdR b ({ S with q := S.q.tail } : Wst)], rfl, ⟨by rw [hp_.1, hp_.2.1], by rw [hp_.2.2]⟩, (tk2 (sf1 (sf9 h70)))⟩
  have h72 := tk15 (sf14 (sf14 (sf12 (sf13 (sf13 (sf14 (sf14 (sf14 (sf14 (sf14 (sf14 (sf14 (sf14 (sf14 (sf14 h57)))))))))))))))
  refine go [.v 11 0 (qeF ((S.q.headD 1)) 3)] <| cl2 Tryz.call83 (r12get_3 b f50 p51 d52 s53 l54 S.now S.D a (by omega) (by omega)) h72 fun _ h74 => ?_
  have h75 := tk15 (sf14 (sf13 (sf13 (sf13 (sf13 (sf13 (sf13 (sf13 (sf13 (sf13 (sf13 (sf13 (sf13 (sf13 (sf14 h74)))))))))))))))
  refine go [] <| sP [(0, iV ((gntO S.D a S.now).1)), (1, iV ((gntO S.D a S.now).2.1)), (2, uV ((gntO S.D a S.now).2.2))] [iV ((gntO S.D a S.now).1), iV ((gntO S.D a S.now).2.1), uV ((gntO S.D a S.now).2.2)] h75 fun w76 h77 => go [] ?_
  have hp_ := acq_ok3 (S := S) ha (by omega) (by omega) (by omega)
  have he0_ : (gntE S.D a S.now) = 0 := by omega
  have h78 := tk15 (sf14 (sf14 (sf14 (sf12 (sf12 (sf14 (sf8 (sf14 (sf14 (sf14 (sf14 (sf14 (sf14 (sf14 (sf14 h77)))))))))))))))
  have h79 : sat g w76 [WdR b ({ S with q := S.q.tail, D := gntX S.D a S.now } : Wst), Cl r10 [iV ((gntO S.D a S.now).1), iV ((gntO S.D a S.now).2.1), uV ((gntO S.D a S.now).2.2)] 32, Cl r41 [iV ((gntO S.D a S.now).1), iV ((gntO S.D a S.now).2.1), uV ((gntO S.D a S.now).2.2)] 32, Cl b26 [.bool true, pV f33, pV p34, pV d35, pV s36, pV l37, iV S.now] 126, DkR d35 (gntX S.D a S.now), Dc f33 64 S.F, PlR p34 S.B, Sr 178 s36 S.q, LgR l37 S.T, R] := rw_close ⟨hp_.2.2 ▸ wok_acq hwk_.1 3 a, hwk_.2⟩ h78
  exact en (.tuple #[.agg #[iV ((gntO S.D a S.now).1), iV ((gntO S.D a S.now).2.1), uV ((gntO S.D a S.now).2.2)], iV ((gntE S.D a S.now))]) [rd 0 0 0 0 3 h77] ⟨_, [WdR b ({ S with q := S.q.tail, D := gntX S.D a S.now } : Wst)], rfl, ⟨by rw [hp_.1, hp_.2.1]; simp only [he0_], by rw [hp_.2.2]⟩, (tk2 (sf1 (sf9 h79)))⟩
 have h81 := tk10 (sf9 (sf8 (sf8 (sf8 (sf8 (sf8 (sf8 (sf8 (sf8 (sf9 h45))))))))))
 refine go [.v 6 1 (qnT ((gntE S.D a S.now)) 0)] <| sP [(0, iV 0), (1, iV 0), (2, uV 0)] [iV 0, iV 0, uV 0] h81 fun _ h83 => go [] ?_
 have hp_ := acq_err (S := S) (god3 ha) (gnt_grw (S := S) ha).1.symm (by omega)
 exact en (.tuple #[.agg #[iV 0, iV 0, uV 0], iV ((gntE S.D a S.now))]) [rd 0 0 0 0 3 h83] ⟨_, [WdR b S], rfl, ⟨by rw [hp_.1, hp_.2.1], by rw [hp_.2.2]⟩, (tk2 (sf1 (sf9 (tk10 (sf9 (sf8 (sf8 (sf8 (sf8 (sf8 (sf8 (sf8 (sf8 (sf9 h83))))))))))))))⟩

set_option maxHeartbeats 4000000 in
theorem racq_3n (b : Nat) (S : Wst) (a : Int) (ha : a < 1 ∨ 1048576 < a) (hng : ¬ godP 3 a) : HT Tryz.prog 33 [pV b, iV 3, iV a] [WdR b S] (fun v K => v = .tuple #[.agg #[iV (acqO S 3 a).1, iV (acqO S 3 a).2.1, uV (acqO S 3 a).2.2], iV (acqE S 3 a)] ∧ K = [WdR b (acqS S 3 a)]) := by
 refine hiS Tryz.func33 Tryz.ntmps33 fun g w0 R h0 => ?_
 have hwk_ := rw_get (j := 0) h0 rfl; have hhd_ := headD_bd hwk_.1.qb; have hhda_ := hhd_.1; have hhdb_ := hhd_.2; have hnwa_ := hwk_.1.nl; have hnwb_ := hwk_.1.nh
 refine go [] <| nP 32 [iV 0, iV 0, uV 0] h0 (fun r10 _ h12 => ?_)
 obtain ⟨f16, p17, d18, s19, l20, hP14, h15⟩ := rw_open (tk3 (sf2 (sf1 (sf2 h12))))
 have hP14n := hP14.1.nl; have hP14m := hP14.1.nh; have hP14t := hP14.1.tn
 refine go [] <| cl1 Tryz.call81 (r12v b (pV f16) (pV p17) (pV d18) (pV s19) (pV l20) (iV S.now)) h15 fun _ h22 => go [] ?_
 by_cases c23 : 1 ≤ a
 ·
  refine cl0 Tryz.call82 (rgod_3n a (by omega)) h22 fun _ h25 => ?_
  have h26 := tk8 (sf7 (sf6 (sf6 (sf6 (sf6 (sf6 (sf6 (sf7 h25))))))))
  refine go [] <| sP [(0, iV 0), (1, iV 0), (2, uV 0)] [iV 0, iV 0, uV 0] h26 fun w27 h28 => go [] ?_
  have hp_ := acq_arg (S := S) (k := 3) (a := a) hng
  have h30 : sat g w27 [WdR b S, Cl r10 [iV 0, iV 0, uV 0] 32, R] := rw_close hP14 (tk8 (sf7 (sf7 (sf7 (sf7 (sf7 (sf7 (sf1 (sf7 h28)))))))))
  exact en (.tuple #[.agg #[iV 0, iV 0, uV 0], iV 2]) [rd 0 0 0 0 3 h28] ⟨_, [WdR b S], rfl, ⟨by rw [hp_.1, hp_.2.1], by rw [hp_.2.2]⟩, (tk2 (sf1 (sf2 h30)))⟩
 refine cl0 Tryz.call82 (rgod_3n a (by omega)) h22 fun _ h33 => ?_
 have h34 := tk8 (sf7 (sf6 (sf6 (sf6 (sf6 (sf6 (sf6 (sf7 h33))))))))
 refine go [] <| sP [(0, iV 0), (1, iV 0), (2, uV 0)] [iV 0, iV 0, uV 0] h34 fun w35 h36 => go [] ?_
 have hp_ := acq_arg (S := S) (k := 3) (a := a) hng
 have h38 : sat g w35 [WdR b S, Cl r10 [iV 0, iV 0, uV 0] 32, R] := rw_close hP14 (tk8 (sf7 (sf7 (sf7 (sf7 (sf7 (sf7 (sf1 (sf7 h36)))))))))
 exact en (.tuple #[.agg #[iV 0, iV 0, uV 0], iV 2]) [rd 0 0 0 0 3 h36] ⟨_, [WdR b S], rfl, ⟨by rw [hp_.1, hp_.2.1], by rw [hp_.2.2]⟩, (tk2 (sf1 (sf2 h38)))⟩

set_option maxHeartbeats 4000000 in
theorem racq_0 (b : Nat) (S : Wst) (k a : Int) (hk : k < 1 ∨ 3 < k) (hng : ¬ godP k a) : HT Tryz.prog 33 [pV b, iV k, iV a] [WdR b S] (fun v K => v = .tuple #[.agg #[iV (acqO S k a).1, iV (acqO S k a).2.1, uV (acqO S k a).2.2], iV (acqE S k a)] ∧ K = [WdR b (acqS S k a)]) := by
 refine hiS Tryz.func33 Tryz.ntmps33 fun g w0 R h0 => ?_
 have hwk_ := rw_get (j := 0) h0 rfl; have hhd_ := headD_bd hwk_.1.qb; have hhda_ := hhd_.1; have hhdb_ := hhd_.2; have hnwa_ := hwk_.1.nl; have hnwb_ := hwk_.1.nh
 refine go [] <| nP 32 [iV 0, iV 0, uV 0] h0 (fun r10 _ h12 => ?_)
 obtain ⟨f16, p17, d18, s19, l20, hP14, h15⟩ := rw_open (tk3 (sf2 (sf1 (sf2 h12))))
 have hP14n := hP14.1.nl; have hP14m := hP14.1.nh; have hP14t := hP14.1.tn
 refine go [] <| cl1 Tryz.call81 (r12v b (pV f16) (pV p17) (pV d18) (pV s19) (pV l20) (iV S.now)) h15 fun _ h22 => go [] <| cl0 Tryz.call82 (rgod_0 k a (by omega)) h22 fun _ h24 => ?_
 have h25 := tk8 (sf7 (sf6 (sf6 (sf6 (sf6 (sf6 (sf6 (sf7 h24))))))))
 refine go [] <| sP [(0, iV 0), (1, iV 0), (2, uV 0)] [iV 0, iV 0, uV 0] h25 fun w26 h27 => go [] ?_
 have hp_ := acq_arg (S := S) (k := k) (a := a) hng
 have h29 : sat g w26 [WdR b S, Cl r10 [iV 0, iV 0, uV 0] 32, R] := rw_close hP14 (tk8 (sf7 (sf7 (sf7 (sf7 (sf7 (sf7 (sf1 (sf7 h27)))))))))
 exact en (.tuple #[.agg #[iV 0, iV 0, uV 0], iV 2]) [rd 0 0 0 0 3 h27] ⟨_, [WdR b S], rfl, ⟨by rw [hp_.1, hp_.2.1], by rw [hp_.2.2]⟩, (tk2 (sf1 (sf2 h29)))⟩

theorem racq_ht (b : Nat) (S : Wst) (k a : Int) : HT Tryz.prog 33 [pV b, iV k, iV a] [WdR b S] (fun v K => v = Value.tuple #[Value.agg #[Value.int .i64 (acqO S k a).1, Value.int .i64 (acqO S k a).2.1, Value.int .u32 (acqO S k a).2.2], Value.int .i64 (acqE S k a)] ∧ K = [WdR b (acqS S k a)]) := by
  by_cases h1 : k = 1
  · subst h1
    by_cases h : 0 ≤ a ∧ a ≤ 65535
    · exact racq_1 b S a h
    · exact racq_1n b S a (by omega) (god_no1 h)
  · by_cases h2 : k = 2
    · subst h2
      by_cases h : 1 ≤ a ∧ a ≤ 65536
      · exact racq_2 b S a h
      · exact racq_2n b S a (by omega) (god_no2 h)
    · by_cases h3 : k = 3
      · subst h3
        by_cases h : 1 ≤ a ∧ a ≤ 1048576
        · exact racq_3 b S a h
        · exact racq_3n b S a (by omega) (god_no3 h)
      · exact racq_0 b S k a (by omega) (god_no (by omega))

set_option maxHeartbeats 4000000 in
theorem rrel_no (b : Nat) (S : Wst) (x y z wy : Int) (hz0 : 0 ≤ z) (hz1 : z ≤ 4294967295) (hg : ¬ (1 ≤ x ∧ x ≤ 3 ∧ 0 ≤ y ∧ y ≤ 63 ∧ 1 ≤ z)) : HT Tryz.prog 34 [pV b, .agg #[iV x, iV y, uV z], iV wy] [WdR b S] (fun v K => v = .tuple #[iV (relA S (x, y, z) wy), iV (relE S (x, y, z) wy)] ∧ K = [WdR b (relS S (x, y, z) wy)]) := by
 refine hiS Tryz.func34 Tryz.ntmps34 fun g w0 R h0 => ?_
 have hwk_ := rw_get (j := 0) h0 rfl; have hhd_ := headD_bd hwk_.1.qb; have hhda_ := hhd_.1; have hhdb_ := hhd_.2; have hnwa_ := hwk_.1.nl; have hnwb_ := hwk_.1.nh
 refine go [] <| nP 32 [iV x, iV y, uV z] h0 (fun r10 _ h12 => ?_)
 obtain ⟨f16, p17, d18, s19, l20, hP14, h15⟩ := rw_open (tk3 (sf2 (sf1 (sf2 h12))))
 have hP14n := hP14.1.nl; have hP14m := hP14.1.nh; have hP14t := hP14.1.tn
 refine go [] <| cl1 Tryz.call81 (r12v b (pV f16) (pV p17) (pV d18) (pV s19) (pV l20) (iV S.now)) h15 fun _ h22 => go [rd 3 0 6 0 3 h22] <| cl0 Tryz.call85 (dcouter_no x y z (by omega) (by omega) (by omega)) h22 fun w23 h24 => go [] ?_
 have hp_ := rel_arg (S := S) (o := (x, y, z)) (wy := wy) (.inl hg)
 have h25 : sat g w23 [WdR b S, Cl r10 [iV x, iV y, uV z] 32, R] := rw_close hP14 h24
 exact en (.tuple #[iV 0, iV 2]) [] ⟨_, [WdR b S], rfl, ⟨by rw [hp_.1, hp_.2.1], by rw [hp_.2.2]⟩, (tk2 (sf1 (sf2 h25)))⟩

set_option maxHeartbeats 4000000 in
theorem rrel_wy (b : Nat) (S : Wst) (x y z : Int) (hz0 : 0 ≤ z) (hz1 : z ≤ 4294967295) (hg : KGood (x, y, z)) (hy0 : 0 ≤ y) (hy1 : y ≤ 63) (hz : 1 ≤ z) (hx : 1 ≤ x ∧ x ≤ 3) (wy : Int) (hwy : wy < 1 ∨ 3 < wy) : HT Tryz.prog 34 [pV b, .agg #[iV x, iV y, uV z], iV wy] [WdR b S] (fun v K => v = .tuple #[iV (relA S (x, y, z) wy), iV (relE S (x, y, z) wy)] ∧ K = [WdR b (relS S (x, y, z) wy)]) := by
 refine hiS Tryz.func34 Tryz.ntmps34 fun g w0 R h0 => ?_
 have hwk_ := rw_get (j := 0) h0 rfl; have hhd_ := headD_bd hwk_.1.qb; have hhda_ := hhd_.1; have hhdb_ := hhd_.2; have hnwa_ := hwk_.1.nl; have hnwb_ := hwk_.1.nh
 refine go [] <| nP 32 [iV x, iV y, uV z] h0 (fun r10 _ h12 => ?_)
 obtain ⟨f16, p17, d18, s19, l20, hP14, h15⟩ := rw_open (tk3 (sf2 (sf1 (sf2 h12))))
 have hP14n := hP14.1.nl; have hP14m := hP14.1.nh; have hP14t := hP14.1.tn
 refine go [] <| cl1 Tryz.call81 (r12v b (pV f16) (pV p17) (pV d18) (pV s19) (pV l20) (iV S.now)) h15 fun _ h22 => go [rd 3 0 6 0 3 h22] <| cl0 Tryz.call85 (dcouter_ok x y z (by omega) (by omega) (by omega)) h22 fun w23 h24 => go [.s 3 5] ?_
 by_cases c25 : wy < 1
 ·
  refine go [.v 3 5 (oT (wy < 1))] ?_
  have hp_ := rel_arg (S := S) (o := (x, y, z)) (wy := wy) (.inr hwy)
  have h26 : sat g w23 [WdR b S, Cl r10 [iV x, iV y, uV z] 32, R] := rw_close hP14 h24
  exact en (.tuple #[iV 0, iV 2]) [] ⟨_, [WdR b S], rfl, ⟨by rw [hp_.1, hp_.2.1], by rw [hp_.2.2]⟩, (tk2 (sf1 (sf2 h26)))⟩
 refine go [.v 3 5 (oF (wy < 1)), .v 3 9 (oT (wy > 3))] ?_
 have hp_ := rel_arg (S := S) (o := (x, y, z)) (wy := wy) (.inr hwy)
 have h28 : sat g w23 [WdR b S, Cl r10 [iV x, iV y, uV z] 32, R] := rw_close hP14 h24
 exact en (.tuple #[iV 0, iV 2]) [] ⟨_, [WdR b S], rfl, ⟨by rw [hp_.1, hp_.2.1], by rw [hp_.2.2]⟩, (tk2 (sf1 (sf2 h28)))⟩

set_option maxHeartbeats 4000000 in
theorem rrel_none (b : Nat) (S : Wst) (x y z : Int) (hz0 : 0 ≤ z) (hz1 : z ≤ 4294967295) (hg : KGood (x, y, z)) (hy0 : 0 ≤ y) (hy1 : y ≤ 63) (hz : 1 ≤ z) (hx : 1 ≤ x ∧ x ≤ 3) (hT : ¬ Thr S (x, y, z)) (wy : Int) (hwy : 1 ≤ wy ∧ wy ≤ 3) : HT Tryz.prog 34 [pV b, .agg #[iV x, iV y, uV z], iV wy] [WdR b S] (fun v K => v = .tuple #[iV (relA S (x, y, z) wy), iV (relE S (x, y, z) wy)] ∧ K = [WdR b (relS S (x, y, z) wy)]) := by
 refine hiS Tryz.func34 Tryz.ntmps34 fun g w0 R h0 => ?_
 have hwk_ := rw_get (j := 0) h0 rfl; have hhd_ := headD_bd hwk_.1.qb; have hhda_ := hhd_.1; have hhdb_ := hhd_.2; have hnwa_ := hwk_.1.nl; have hnwb_ := hwk_.1.nh
 refine go [] <| nP 32 [iV x, iV y, uV z] h0 (fun r10 _ h12 => ?_)
 obtain ⟨f16, p17, d18, s19, l20, hP14, h15⟩ := rw_open (tk3 (sf2 (sf1 (sf2 h12))))
 have hP14n := hP14.1.nl; have hP14m := hP14.1.nh; have hP14t := hP14.1.tn
 refine go [] <| cl1 Tryz.call81 (r12v b (pV f16) (pV p17) (pV d18) (pV s19) (pV l20) (iV S.now)) h15 fun _ h22 => go [rd 3 0 6 0 3 h22] <| cl0 Tryz.call85 (dcouter_ok x y z (by omega) (by omega) (by omega)) h22 fun w23 h24 => ?_
 have h25 : sat g w23 [WdR b S, Cl r10 [iV x, iV y, uV z] 32, R] := rw_close hP14 h24
 refine go [.v 3 5 (oF (wy < 1)), .v 3 9 (oF (wy > 3)), rd 5 1 6 0 3 h24] <| cl1 Tryz.call40 ((by have h_ := r12has_ht b S x y z; rw [decide_eq_false hT] at h_; exact h_)) h25 fun _ h27 => ?_
 refine go [] ?_
 have hp_ := rel_none (S := S) (o := (x, y, z)) hg hwy hT
 exact en (.tuple #[iV 0, iV 5]) [] ⟨_, [WdR b S], rfl, ⟨by rw [hp_.1, hp_.2.1], by rw [hp_.2.2]⟩, (tk2 (sf1 (sf2 h27)))⟩

set_option maxHeartbeats 4000000 in
theorem rrel_full (b : Nat) (S : Wst) (x y z : Int) (hz0 : 0 ≤ z) (hz1 : z ≤ 4294967295) (hg : KGood (x, y, z)) (hy0 : 0 ≤ y) (hy1 : y ≤ 63) (hz : 1 ≤ z) (hx : 1 ≤ x ∧ x ≤ 3) (hT : Thr S (x, y, z)) (wy : Int) (hwy : 1 ≤ wy ∧ wy ≤ 3) (hn : 10000 ≤ S.T.length) : HT Tryz.prog 34 [pV b, .agg #[iV x, iV y, uV z], iV wy] [WdR b S] (fun v K => v = .tuple #[iV (relA S (x, y, z) wy), iV (relE S (x, y, z) wy)] ∧ K = [WdR b (relS S (x, y, z) wy)]) := by
 refine hiS Tryz.func34 Tryz.ntmps34 fun g w0 R h0 => ?_
 have hwk_ := rw_get (j := 0) h0 rfl; have hhd_ := headD_bd hwk_.1.qb; have hhda_ := hhd_.1; have hhdb_ := hhd_.2; have hnwa_ := hwk_.1.nl; have hnwb_ := hwk_.1.nh
 refine go [] <| nP 32 [iV x, iV y, uV z] h0 (fun r10 _ h12 => ?_)
 obtain ⟨f16, p17, d18, s19, l20, hP14, h15⟩ := rw_open (tk3 (sf2 (sf1 (sf2 h12))))
 have hP14n := hP14.1.nl; have hP14m := hP14.1.nh; have hP14t := hP14.1.tn
 refine go [] <| cl1 Tryz.call81 (r12v b (pV f16) (pV p17) (pV d18) (pV s19) (pV l20) (iV S.now)) h15 fun _ h22 => go [rd 3 0 6 0 3 h22] <| cl0 Tryz.call85 (dcouter_ok x y z (by omega) (by omega) (by omega)) h22 fun w23 h24 => ?_
 have h25 : sat g w23 [WdR b S, Cl r10 [iV x, iV y, uV z] 32, R] := rw_close hP14 h24
 refine go [.v 3 5 (oF (wy < 1)), .v 3 9 (oF (wy > 3)), rd 5 1 6 0 3 h24] <| cl1 Tryz.call40 ((by have h_ := r12has_ht b S x y z; rw [decide_eq_true hT] at h_; exact h_)) h25 fun _ h27 => ?_
 obtain ⟨f30, p31, d32, s33, l34, hP28, h29⟩ := rw_open h27
 have hP28n := hP28.1.nl; have hP28m := hP28.1.nh; have hP28t := hP28.1.tn
 have h35 := tk8 (sf7 (sf6 (sf6 (sf6 (sf6 (sf6 (sf7 (sf7 h29))))))))
 refine go [rd 7 3 0 5 1 h29] <| cl1 Tryz.call86 (r7len_ht l34 S.T) h35 fun w36 h37 => go [.v 7 5 (oT (((S.T.length : Nat) : Int) ≥ 10000))] ?_
 have hp_ := rel_full (S := S) (o := (x, y, z)) hwy hT hn
 have h39 : sat g w36 [WdR b S, Cl r10 [iV x, iV y, uV z] 32, R] := rw_close hP28 (tk8 (sf7 (sf7 (sf7 (sf7 (sf7 (sf2 (sf7 (sf7 h37)))))))))
 exact en (.tuple #[iV 0, iV 4]) [] ⟨_, [WdR b S], rfl, ⟨by rw [hp_.1, hp_.2.1], by rw [hp_.2.2]⟩, (tk2 (sf1 (sf2 h39)))⟩

set_option maxHeartbeats 4000000 in
theorem rrel_1 (b : Nat) (S : Wst) (y z : Int) (hz0 : 0 ≤ z) (hz1 : z ≤ 4294967295) (hg : KGood (1, y, z)) (hy0 : 0 ≤ y) (hy1 : y ≤ 63) (hz : 1 ≤ z) (hT : Thr S (1, y, z)) (wy : Int) (hwy : 1 ≤ wy ∧ wy ≤ 3) (hn : S.T.length < 10000) : HT Tryz.prog 34 [pV b, .agg #[iV 1, iV y, uV z], iV wy] [WdR b S] (fun v K => v = .tuple #[iV (relA S (1, y, z) wy), iV (relE S (1, y, z) wy)] ∧ K = [WdR b (relS S (1, y, z) wy)]) := by
 refine hiS Tryz.func34 Tryz.ntmps34 fun g w0 R h0 => ?_
 have hwk_ := rw_get (j := 0) h0 rfl; have hhd_ := headD_bd hwk_.1.qb; have hhda_ := hhd_.1; have hhdb_ := hhd_.2; have hnwa_ := hwk_.1.nl; have hnwb_ := hwk_.1.nh
 refine go [] <| nP 32 [iV 1, iV y, uV z] h0 (fun r10 _ h12 => ?_)
 obtain ⟨f16, p17, d18, s19, l20, hP14, h15⟩ := rw_open (tk3 (sf2 (sf1 (sf2 h12))))
 have hP14n := hP14.1.nl; have hP14m := hP14.1.nh; have hP14t := hP14.1.tn
 refine go [] <| cl1 Tryz.call81 (r12v b (pV f16) (pV p17) (pV d18) (pV s19) (pV l20) (iV S.now)) h15 fun _ h22 => go [rd 3 0 6 0 3 h22] <| cl0 Tryz.call85 (dcouter_ok 1 y z (by omega) (by omega) (by omega)) h22 fun w23 h24 => ?_
 have h25 : sat g w23 [WdR b S, Cl r10 [iV 1, iV y, uV z] 32, R] := rw_close hP14 h24
 refine go [.v 3 5 (oF (wy < 1)), .v 3 9 (oF (wy > 3)), rd 5 1 6 0 3 h24] <| cl1 Tryz.call40 ((by have h_ := r12has_ht b S 1 y z; rw [decide_eq_true hT] at h_; exact h_)) h25 fun _ h27 => ?_
 obtain ⟨f30, p31, d32, s33, l34, hP28, h29⟩ := rw_open h27
 have hP28n := hP28.1.nl; have hP28m := hP28.1.nh; have hP28t := hP28.1.tn
 have h35 := tk8 (sf7 (sf6 (sf6 (sf6 (sf6 (sf6 (sf7 (sf7 h29))))))))
 refine go [rd 7 3 0 5 1 h29] <| cl1 Tryz.call86 (r7len_ht l34 S.T) h35 fun _ h37 => ?_
 have h38 := tk8 (sf7 (sf6 (sf6 (sf6 (sf6 (sf6 (sf7 (sf7 h37))))))))
 refine go [.v 7 5 (oF (((S.T.length : Nat) : Int) ≥ 10000)), rd 9 3 1 4 1 h37] <| cl1 Tryz.call84 (rnext_ht s33 S.q) h38 fun _ h40 => go [] <| dw (fls [0, 1, 2, 3, 4, 5, 6, 7, 8, 9, 10, 11] (Tr.an 12 Tr.nil)) h40 fun _ h42 => ?_
 have h43 := tk8 (sf7 (sf6 (sf7 (sf7 (sf7 (sf7 (sf7 (sf7 h42))))))))
 refine go [rd 10 3 2 5 1 h42, rd 10 7 2 6 1 h42, rd 10 8 6 0 3 h42] <| cw1 Tryz.call87 (r7add_ht l34 S.T S.now 1 y z wy ((S.q.headD 1)) (by omega) (by omega) ⟨by omega, by omega, hg, by omega, by omega, by omega, by omega⟩ hwk_.1.ta (by omega)) h43 fun w44 h45 => ⟨kd [], ?_⟩
 refine go [.s 11 1] ?_
 by_cases c46 : (S.q.headD 1) = 1
 ·
  refine go [.v 11 1 (qnF ((S.q.headD 1)) 1), rd 13 1 6 0 1 h45] <| dw (fls [0, 1, 2, 3, 4] (Tr.an 5 Tr.nil)) h45 fun _ h48 => ?_
  have h49 := tk8 (sf7 (sf6 (sf6 (sf6 (sf7 (sf7 (sf7 (sf7 h48))))))))
  refine go [rd 16 3 2 1 1 h48, rd 16 4 6 0 3 h48] <| cw1 Tryz.call88 ((by have h_ := r9close_ht f30 64 S.F 1 y z (by omega) (by omega); rw [show clsX S.F (1, y, z) = giv S.F (1, y, z) from cls_giv hT] at h_; exact h_)) h49 fun w50 h51 => ⟨kd [], ?_⟩
  refine go [] ?_
  have hp_ := rel_ok (S := S) (o := (1, y, z)) hwy hT hn
  have hp2_ : relS S (1, y, z) wy = ({ S with q := S.q.tail, T := S.T ++ [⟨S.now, (1, y, z), wy, S.q.headD 1⟩], F := giv S.F (1, y, z) } : Wst) := hp_.2.2.trans (if_pos (by omega))
  have h52 := tk8 (sf7 (sf6 (sf7 (sf7 (sf4 (sf3 (sf7 (sf7 h51))))))))
  have h53 : sat g w50 [WdR b ({ S with q := S.q.tail, T := S.T ++ [⟨S.now, (1, y, z), wy, S.q.headD 1⟩], F := giv S.F (1, y, z) } : Wst), Cl r10 [iV 1, iV y, uV z] 32, R] := rw_close ⟨hp2_ ▸ wok_rel hwk_.1 (1, y, z) wy, hwk_.2⟩ h52
  exact en (.tuple #[iV ((S.q.headD 1)), iV 0]) [] ⟨_, [WdR b ({ S with q := S.q.tail, T := S.T ++ [⟨S.now, (1, y, z), wy, S.q.headD 1⟩], F := giv S.F (1, y, z) } : Wst)], rfl, ⟨by rw [hp_.1, hp_.2.1], by rw [hp2_]⟩, (tk2 (sf1 (sf2 h53)))⟩
 refine go [.v 11 1 (qnT ((S.q.headD 1)) 1)] ?_
 have hp_ := rel_ok (S := S) (o := (1, y, z)) hwy hT hn
 have hp2_ : relS S (1, y, z) wy = ({ S with q := S.q.tail, T := S.T ++ [⟨S.now, (1, y, z), wy, S.q.headD 1⟩] } : Wst) := hp_.2.2.trans (if_neg (by omega))
 have h55 := tk8 (sf7 (sf7 (sf7 (sf7 (sf3 (sf2 (sf7 (sf7 h45))))))))
 have h56 : sat g w44 [WdR b ({ S with q := S.q.tail, T := S.T ++ [⟨S.now, (1, y, z), wy, S.q.headD 1⟩] } : Wst), Cl r10 [iV 1, iV y, uV z] 32, R] := rw_close ⟨hp2_ ▸ wok_rel hwk_.1 (1, y, z) wy, hwk_.2⟩ h55
 exact en (.tuple #[iV ((S.q.headD 1)), iV 0]) [] ⟨_, [WdR b ({ S with q := S.q.tail, T := S.T ++ [⟨S.now, (1, y, z), wy, S.q.headD 1⟩] } : Wst)], rfl, ⟨by rw [hp_.1, hp_.2.1], by rw [hp2_]⟩, (tk2 (sf1 (sf2 h56)))⟩

set_option maxHeartbeats 4000000 in
theorem rrel_2 (b : Nat) (S : Wst) (y z : Int) (hz0 : 0 ≤ z) (hz1 : z ≤ 4294967295) (hg : KGood (2, y, z)) (hy0 : 0 ≤ y) (hy1 : y ≤ 63) (hz : 1 ≤ z) (hT : Thr S (2, y, z)) (wy : Int) (hwy : 1 ≤ wy ∧ wy ≤ 3) (hn : S.T.length < 10000) : HT Tryz.prog 34 [pV b, .agg #[iV 2, iV y, uV z], iV wy] [WdR b S] (fun v K => v = .tuple #[iV (relA S (2, y, z) wy), iV (relE S (2, y, z) wy)] ∧ K = [WdR b (relS S (2, y, z) wy)]) := by
 refine hiS Tryz.func34 Tryz.ntmps34 fun g w0 R h0 => ?_
 have hwk_ := rw_get (j := 0) h0 rfl; have hhd_ := headD_bd hwk_.1.qb; have hhda_ := hhd_.1; have hhdb_ := hhd_.2; have hnwa_ := hwk_.1.nl; have hnwb_ := hwk_.1.nh
 refine go [] <| nP 32 [iV 2, iV y, uV z] h0 (fun r10 _ h12 => ?_)
 obtain ⟨f16, p17, d18, s19, l20, hP14, h15⟩ := rw_open (tk3 (sf2 (sf1 (sf2 h12))))
 have hP14n := hP14.1.nl; have hP14m := hP14.1.nh; have hP14t := hP14.1.tn
 refine go [] <| cl1 Tryz.call81 (r12v b (pV f16) (pV p17) (pV d18) (pV s19) (pV l20) (iV S.now)) h15 fun _ h22 => go [rd 3 0 6 0 3 h22] <| cl0 Tryz.call85 (dcouter_ok 2 y z (by omega) (by omega) (by omega)) h22 fun w23 h24 => ?_
 have h25 : sat g w23 [WdR b S, Cl r10 [iV 2, iV y, uV z] 32, R] := rw_close hP14 h24
 refine go [.v 3 5 (oF (wy < 1)), .v 3 9 (oF (wy > 3)), rd 5 1 6 0 3 h24] <| cl1 Tryz.call40 ((by have h_ := r12has_ht b S 2 y z; rw [decide_eq_true hT] at h_; exact h_)) h25 fun _ h27 => ?_
 obtain ⟨f30, p31, d32, s33, l34, hP28, h29⟩ := rw_open h27
 have hP28n := hP28.1.nl; have hP28m := hP28.1.nh; have hP28t := hP28.1.tn
 have h35 := tk8 (sf7 (sf6 (sf6 (sf6 (sf6 (sf6 (sf7 (sf7 h29))))))))
 refine go [rd 7 3 0 5 1 h29] <| cl1 Tryz.call86 (r7len_ht l34 S.T) h35 fun _ h37 => ?_
 have h38 := tk8 (sf7 (sf6 (sf6 (sf6 (sf6 (sf6 (sf7 (sf7 h37))))))))
 refine go [.v 7 5 (oF (((S.T.length : Nat) : Int) ≥ 10000)), rd 9 3 1 4 1 h37] <| cl1 Tryz.call84 (rnext_ht s33 S.q) h38 fun _ h40 => go [] <| dw (fls [0, 1, 2, 3, 4, 5, 6, 7, 8, 9, 10, 11] (Tr.an 12 Tr.nil)) h40 fun _ h42 => ?_
 have h43 := tk8 (sf7 (sf6 (sf7 (sf7 (sf7 (sf7 (sf7 (sf7 h42))))))))
 refine go [rd 10 3 2 5 1 h42, rd 10 7 2 6 1 h42, rd 10 8 6 0 3 h42] <| cw1 Tryz.call87 (r7add_ht l34 S.T S.now 2 y z wy ((S.q.headD 1)) (by omega) (by omega) ⟨by omega, by omega, hg, by omega, by omega, by omega, by omega⟩ hwk_.1.ta (by omega)) h43 fun w44 h45 => ⟨kd [], ?_⟩
 refine go [.s 11 1] ?_
 by_cases c46 : (S.q.headD 1) = 1
 ·
  refine go [.v 11 1 (qnF ((S.q.headD 1)) 1), rd 13 1 6 0 1 h45] <| dw (fls [0, 1, 2, 3, 4] (Tr.an 5 Tr.nil)) h45 fun _ h48 => ?_
  have h49 := tk8 (sf7 (sf6 (sf6 (sf6 (sf6 (sf7 (sf7 (sf7 h48))))))))
  refine go [rd 18 3 2 2 1 h48, rd 18 4 6 0 3 h48] <| cw1 Tryz.call89 (r10unpin_ht p31 S.B y z (thr_at hT) ⟨by omega, by omega⟩ ⟨by omega, by omega⟩) h49 fun w50 h51 => ⟨kd [], ?_⟩
  refine go [] ?_
  have hp_ := rel_ok (S := S) (o := (2, y, z)) hwy hT hn
  have hp2_ : relS S (2, y, z) wy = ({ S with q := S.q.tail, T := S.T ++ [⟨S.now, (2, y, z), wy, S.q.headD 1⟩], B := giv S.B (2, y, z) } : Wst) := hp_.2.2.trans (if_pos (by omega))
  have h52 := tk8 (sf7 (sf7 (sf5 (sf7 (sf4 (sf3 (sf7 (sf7 h51))))))))
  have h53 : sat g w50 [WdR b ({ S with q := S.q.tail, T := S.T ++ [⟨S.now, (2, y, z), wy, S.q.headD 1⟩], B := giv S.B (2, y, z) } : Wst), Cl r10 [iV 2, iV y, uV z] 32, R] := rw_close ⟨hp2_ ▸ wok_rel hwk_.1 (2, y, z) wy, zv_giv hwk_.2 _⟩ h52
  exact en (.tuple #[iV ((S.q.headD 1)), iV 0]) [] ⟨_, [WdR b ({ S with q := S.q.tail, T := S.T ++ [⟨S.now, (2, y, z), wy, S.q.headD 1⟩], B := giv S.B (2, y, z) } : Wst)], rfl, ⟨by rw [hp_.1, hp_.2.1], by rw [hp2_]⟩, (tk2 (sf1 (sf2 h53)))⟩
 refine go [.v 11 1 (qnT ((S.q.headD 1)) 1)] ?_
 have hp_ := rel_ok (S := S) (o := (2, y, z)) hwy hT hn
 have hp2_ : relS S (2, y, z) wy = ({ S with q := S.q.tail, T := S.T ++ [⟨S.now, (2, y, z), wy, S.q.headD 1⟩] } : Wst) := hp_.2.2.trans (if_neg (by omega))
 have h55 := tk8 (sf7 (sf7 (sf7 (sf7 (sf3 (sf2 (sf7 (sf7 h45))))))))
 have h56 : sat g w44 [WdR b ({ S with q := S.q.tail, T := S.T ++ [⟨S.now, (2, y, z), wy, S.q.headD 1⟩] } : Wst), Cl r10 [iV 2, iV y, uV z] 32, R] := rw_close ⟨hp2_ ▸ wok_rel hwk_.1 (2, y, z) wy, hwk_.2⟩ h55
 exact en (.tuple #[iV ((S.q.headD 1)), iV 0]) [] ⟨_, [WdR b ({ S with q := S.q.tail, T := S.T ++ [⟨S.now, (2, y, z), wy, S.q.headD 1⟩] } : Wst)], rfl, ⟨by rw [hp_.1, hp_.2.1], by rw [hp2_]⟩, (tk2 (sf1 (sf2 h56)))⟩

set_option maxHeartbeats 4000000 in
theorem rrel_3 (b : Nat) (S : Wst) (y z : Int) (hz0 : 0 ≤ z) (hz1 : z ≤ 4294967295) (hg : KGood (3, y, z)) (hy0 : 0 ≤ y) (hy1 : y ≤ 63) (hz : 1 ≤ z) (hT : Thr S (3, y, z)) (wy : Int) (hwy : 1 ≤ wy ∧ wy ≤ 3) (hn : S.T.length < 10000) : HT Tryz.prog 34 [pV b, .agg #[iV 3, iV y, uV z], iV wy] [WdR b S] (fun v K => v = .tuple #[iV (relA S (3, y, z) wy), iV (relE S (3, y, z) wy)] ∧ K = [WdR b (relS S (3, y, z) wy)]) := by
 refine hiS Tryz.func34 Tryz.ntmps34 fun g w0 R h0 => ?_
 have hwk_ := rw_get (j := 0) h0 rfl; have hhd_ := headD_bd hwk_.1.qb; have hhda_ := hhd_.1; have hhdb_ := hhd_.2; have hnwa_ := hwk_.1.nl; have hnwb_ := hwk_.1.nh
 refine go [] <| nP 32 [iV 3, iV y, uV z] h0 (fun r10 _ h12 => ?_)
 obtain ⟨f16, p17, d18, s19, l20, hP14, h15⟩ := rw_open (tk3 (sf2 (sf1 (sf2 h12))))
 have hP14n := hP14.1.nl; have hP14m := hP14.1.nh; have hP14t := hP14.1.tn
 refine go [] <| cl1 Tryz.call81 (r12v b (pV f16) (pV p17) (pV d18) (pV s19) (pV l20) (iV S.now)) h15 fun _ h22 => go [rd 3 0 6 0 3 h22] <| cl0 Tryz.call85 (dcouter_ok 3 y z (by omega) (by omega) (by omega)) h22 fun w23 h24 => ?_
 have h25 : sat g w23 [WdR b S, Cl r10 [iV 3, iV y, uV z] 32, R] := rw_close hP14 h24
 refine go [.v 3 5 (oF (wy < 1)), .v 3 9 (oF (wy > 3)), rd 5 1 6 0 3 h24] <| cl1 Tryz.call40 ((by have h_ := r12has_ht b S 3 y z; rw [decide_eq_true hT] at h_; exact h_)) h25 fun _ h27 => ?_
 obtain ⟨f30, p31, d32, s33, l34, hP28, h29⟩ := rw_open h27
 have hP28n := hP28.1.nl; have hP28m := hP28.1.nh; have hP28t := hP28.1.tn
 have h35 := tk8 (sf7 (sf6 (sf6 (sf6 (sf6 (sf6 (sf7 (sf7 h29))))))))
 refine go [rd 7 3 0 5 1 h29] <| cl1 Tryz.call86 (r7len_ht l34 S.T) h35 fun _ h37 => ?_
 have h38 := tk8 (sf7 (sf6 (sf6 (sf6 (sf6 (sf6 (sf7 (sf7 h37))))))))
 refine go [.v 7 5 (oF (((S.T.length : Nat) : Int) ≥ 10000)), rd 9 3 1 4 1 h37] <| cl1 Tryz.call84 (rnext_ht s33 S.q) h38 fun _ h40 => go [] <| dw (fls [0, 1, 2, 3, 4, 5, 6, 7, 8, 9, 10, 11] (Tr.an 12 Tr.nil)) h40 fun _ h42 => ?_
 have h43 := tk8 (sf7 (sf6 (sf7 (sf7 (sf7 (sf7 (sf7 (sf7 h42))))))))
 refine go [rd 10 3 2 5 1 h42, rd 10 7 2 6 1 h42, rd 10 8 6 0 3 h42] <| cw1 Tryz.call87 (r7add_ht l34 S.T S.now 3 y z wy ((S.q.headD 1)) (by omega) (by omega) ⟨by omega, by omega, hg, by omega, by omega, by omega, by omega⟩ hwk_.1.ta (by omega)) h43 fun w44 h45 => ⟨kd [], ?_⟩
 refine go [.s 11 1] ?_
 by_cases c46 : (S.q.headD 1) = 1
 ·
  refine go [.v 11 1 (qnF ((S.q.headD 1)) 1), rd 13 1 6 0 1 h45] <| dw (fls [0, 1, 2, 3, 4] (Tr.an 5 Tr.nil)) h45 fun _ h48 => ?_
  have h49 := tk8 (sf7 (sf6 (sf6 (sf6 (sf6 (sf6 (sf7 (sf7 h48))))))))
  refine go [rd 14 3 2 3 1 h48, rd 14 4 6 0 3 h48] <| cw1 Tryz.call90 (r11ret_ht d32 S.D y z (thr_at hT) ⟨by omega, by omega⟩ ⟨by omega, by omega⟩) h49 fun w50 h51 => ⟨kd [], ?_⟩
  refine go [] ?_
  have hp_ := rel_ok (S := S) (o := (3, y, z)) hwy hT hn
  have hp2_ : relS S (3, y, z) wy = ({ S with q := S.q.tail, T := S.T ++ [⟨S.now, (3, y, z), wy, S.q.headD 1⟩], D := giv S.D (3, y, z) } : Wst) := hp_.2.2.trans (if_pos (by omega))
  have h52 := tk8 (sf7 (sf7 (sf7 (sf4 (sf4 (sf3 (sf7 (sf7 h51))))))))
  have h53 : sat g w50 [WdR b ({ S with q := S.q.tail, T := S.T ++ [⟨S.now, (3, y, z), wy, S.q.headD 1⟩], D := giv S.D (3, y, z) } : Wst), Cl r10 [iV 3, iV y, uV z] 32, R] := rw_close ⟨hp2_ ▸ wok_rel hwk_.1 (3, y, z) wy, hwk_.2⟩ h52
  exact en (.tuple #[iV ((S.q.headD 1)), iV 0]) [] ⟨_, [WdR b ({ S with q := S.q.tail, T := S.T ++ [⟨S.now, (3, y, z), wy, S.q.headD 1⟩], D := giv S.D (3, y, z) } : Wst)], rfl, ⟨by rw [hp_.1, hp_.2.1], by rw [hp2_]⟩, (tk2 (sf1 (sf2 h53)))⟩
 refine go [.v 11 1 (qnT ((S.q.headD 1)) 1)] ?_
 have hp_ := rel_ok (S := S) (o := (3, y, z)) hwy hT hn
 have hp2_ : relS S (3, y, z) wy = ({ S with q := S.q.tail, T := S.T ++ [⟨S.now, (3, y, z), wy, S.q.headD 1⟩] } : Wst) := hp_.2.2.trans (if_neg (by omega))
 have h55 := tk8 (sf7 (sf7 (sf7 (sf7 (sf3 (sf2 (sf7 (sf7 h45))))))))
 have h56 : sat g w44 [WdR b ({ S with q := S.q.tail, T := S.T ++ [⟨S.now, (3, y, z), wy, S.q.headD 1⟩] } : Wst), Cl r10 [iV 3, iV y, uV z] 32, R] := rw_close ⟨hp2_ ▸ wok_rel hwk_.1 (3, y, z) wy, hwk_.2⟩ h55
 exact en (.tuple #[iV ((S.q.headD 1)), iV 0]) [] ⟨_, [WdR b ({ S with q := S.q.tail, T := S.T ++ [⟨S.now, (3, y, z), wy, S.q.headD 1⟩] } : Wst)], rfl, ⟨by rw [hp_.1, hp_.2.1], by rw [hp2_]⟩, (tk2 (sf1 (sf2 h56)))⟩

theorem rrel_ht (b : Nat) (S : Wst) (x y z wy : Int) (hz0 : 0 ≤ z) (hz1 : z ≤ 4294967295) : HT Tryz.prog 34 [pV b, .agg #[iV x, iV y, uV z], iV wy] [WdR b S] (fun v K => v = Value.tuple #[Value.int .i64 (relA S (x, y, z) wy), Value.int .i64 (relE S (x, y, z) wy)] ∧ K = [WdR b (relS S (x, y, z) wy)]) := by
  by_cases h : KGood (x, y, z)
  · by_cases hw : 1 ≤ wy ∧ wy ≤ 3
    · by_cases hT : Thr S (x, y, z)
      · by_cases hn : S.T.length < 10000
        · rcases kgood_k h with h1 | h1 | h1
          · have h2 : x = 1 := h1
            subst h2
            exact rrel_1 b S y z hz0 hz1 h h.2.2.1 h.2.2.2.1 h.2.2.2.2 hT wy hw hn
          · have h2 : x = 2 := h1
            subst h2
            exact rrel_2 b S y z hz0 hz1 h h.2.2.1 h.2.2.2.1 h.2.2.2.2 hT wy hw hn
          · have h2 : x = 3 := h1
            subst h2
            exact rrel_3 b S y z hz0 hz1 h h.2.2.1 h.2.2.2.1 h.2.2.2.2 hT wy hw hn
        · exact rrel_full b S x y z hz0 hz1 h h.2.2.1 h.2.2.2.1 h.2.2.2.2 ⟨h.1, h.2.1⟩ hT wy hw (by omega)
      · exact rrel_none b S x y z hz0 hz1 h h.2.2.1 h.2.2.2.1 h.2.2.2.2 ⟨h.1, h.2.1⟩ hT wy hw
    · exact rrel_wy b S x y z hz0 hz1 h h.2.2.1 h.2.2.2.1 h.2.2.2.2 ⟨h.1, h.2.1⟩ wy (by omega)
  · exact rrel_no b S x y z wy hz0 hz1 h

set_option maxHeartbeats 4000000 in
theorem rlease_1 (b : Nat) (S : Wst) (y z : Int) (hz0 : 0 ≤ z) (hz1 : z ≤ 4294967295) (hg : KGood (1, y, z)) (hy0 : 0 ≤ y) (hy1 : y ≤ 63) (hz : 1 ≤ z) : HT Tryz.prog 92 [pV b, .agg #[iV 1, iV y, uV z]] [WdR b S] (fun v K => v = iV 8 ∧ K = [WdR b S]) := by
 refine hiS Tryz.func92 Tryz.ntmps92 fun g w0 R h0 => ?_
 have hwk_ := rw_get (j := 0) h0 rfl; have hhd_ := headD_bd hwk_.1.qb; have hhda_ := hhd_.1; have hhdb_ := hhd_.2; have hnwa_ := hwk_.1.nl; have hnwb_ := hwk_.1.nh
 refine go [] <| nP 32 [iV 1, iV y, uV z] h0 (fun _ _ h12 => ?_)
 refine go [rd 1 1 0 0 1 h12] ?_
 exact en (iV 8) [] ⟨_, _, rfl, ⟨rfl, rfl⟩, (tk2 (sf1 (sf2 (tk3 (sf2 (sf1 (sf2 h12)))))))⟩

set_option maxHeartbeats 4000000 in
theorem rlease_2 (b : Nat) (S : Wst) (y z : Int) (hz0 : 0 ≤ z) (hz1 : z ≤ 4294967295) (hg : KGood (2, y, z)) (hy0 : 0 ≤ y) (hy1 : y ≤ 63) (hz : 1 ≤ z) : HT Tryz.prog 92 [pV b, .agg #[iV 2, iV y, uV z]] [WdR b S] (fun v K => v = iV 8 ∧ K = [WdR b S]) := by
 refine hiS Tryz.func92 Tryz.ntmps92 fun g w0 R h0 => ?_
 have hwk_ := rw_get (j := 0) h0 rfl; have hhd_ := headD_bd hwk_.1.qb; have hhda_ := hhd_.1; have hhdb_ := hhd_.2; have hnwa_ := hwk_.1.nl; have hnwb_ := hwk_.1.nh
 refine go [] <| nP 32 [iV 2, iV y, uV z] h0 (fun _ _ h12 => ?_)
 refine go [rd 1 1 0 0 1 h12] ?_
 exact en (iV 8) [] ⟨_, _, rfl, ⟨rfl, rfl⟩, (tk2 (sf1 (sf2 (tk3 (sf2 (sf1 (sf2 h12)))))))⟩

set_option maxHeartbeats 4000000 in
theorem rlease_n (b : Nat) (S : Wst) (y z : Int) (hz0 : 0 ≤ z) (hz1 : z ≤ 4294967295) (hg : KGood (3, y, z)) (hy0 : 0 ≤ y) (hy1 : y ≤ 63) (hz : 1 ≤ z) (hT : ¬ Thr S (3, y, z)) : HT Tryz.prog 92 [pV b, .agg #[iV 3, iV y, uV z]] [WdR b S] (fun v K => v = iV 5 ∧ K = [WdR b S]) := by
 refine hiS Tryz.func92 Tryz.ntmps92 fun g w0 R h0 => ?_
 have hwk_ := rw_get (j := 0) h0 rfl; have hhd_ := headD_bd hwk_.1.qb; have hhda_ := hhd_.1; have hhdb_ := hhd_.2; have hnwa_ := hwk_.1.nl; have hnwb_ := hwk_.1.nh
 refine go [] <| nP 32 [iV 3, iV y, uV z] h0 (fun _ _ h12 => ?_)
 have h13 := tk3 (sf2 (sf1 (sf2 h12)))
 refine go [rd 1 1 0 0 1 h12, rd 3 1 0 0 3 h12] <| cl1 Tryz.call40 ((by have h_ := r12has_ht b S 3 y z; rw [decide_eq_false hT] at h_; exact h_)) h13 fun _ h15 => ?_
 refine go [] ?_
 exact en (iV 5) [] ⟨_, _, rfl, ⟨rfl, rfl⟩, (tk2 (sf1 (sf2 h15)))⟩

set_option maxHeartbeats 4000000 in
theorem rlease_y (b : Nat) (S : Wst) (y z : Int) (hz0 : 0 ≤ z) (hz1 : z ≤ 4294967295) (hg : KGood (3, y, z)) (hy0 : 0 ≤ y) (hy1 : y ≤ 63) (hz : 1 ≤ z) (hT : Thr S (3, y, z)) : HT Tryz.prog 92 [pV b, .agg #[iV 3, iV y, uV z]] [WdR b S] (fun v K => v = iV 0 ∧ K = [WdR b S]) := by
 refine hiS Tryz.func92 Tryz.ntmps92 fun g w0 R h0 => ?_
 have hwk_ := rw_get (j := 0) h0 rfl; have hhd_ := headD_bd hwk_.1.qb; have hhda_ := hhd_.1; have hhdb_ := hhd_.2; have hnwa_ := hwk_.1.nl; have hnwb_ := hwk_.1.nh
 refine go [] <| nP 32 [iV 3, iV y, uV z] h0 (fun _ _ h12 => ?_)
 have h13 := tk3 (sf2 (sf1 (sf2 h12)))
 refine go [rd 1 1 0 0 1 h12, rd 3 1 0 0 3 h12] <| cl1 Tryz.call40 ((by have h_ := r12has_ht b S 3 y z; rw [decide_eq_true hT] at h_; exact h_)) h13 fun _ h15 => ?_
 refine go [] ?_
 exact en (iV 0) [] ⟨_, _, rfl, ⟨rfl, rfl⟩, (tk2 (sf1 (sf2 h15)))⟩

set_option maxHeartbeats 4000000 in
theorem runt_no (b : Nat) (S : Wst) (x y z : Int) (hz0 : 0 ≤ z) (hz1 : z ≤ 4294967295) (hg : ¬ (1 ≤ x ∧ x ≤ 3 ∧ 0 ≤ y ∧ y ≤ 63 ∧ 1 ≤ z)) : HT Tryz.prog 39 [pV b, .agg #[iV x, iV y, uV z]] [WdR b S] (fun v K => v = .tuple #[iV 0, iV 2] ∧ K = [WdR b S]) := by
 refine hiS Tryz.func39 Tryz.ntmps39 fun g w0 R h0 => ?_
 have hwk_ := rw_get (j := 0) h0 rfl; have hhd_ := headD_bd hwk_.1.qb; have hhda_ := hhd_.1; have hhdb_ := hhd_.2; have hnwa_ := hwk_.1.nl; have hnwb_ := hwk_.1.nh
 refine go [] <| nP 32 [iV x, iV y, uV z] h0 (fun r10 _ h12 => ?_)
 obtain ⟨f16, p17, d18, s19, l20, hP14, h15⟩ := rw_open (tk3 (sf2 (sf1 (sf2 h12))))
 have hP14n := hP14.1.nl; have hP14m := hP14.1.nh; have hP14t := hP14.1.tn
 refine go [] <| cl1 Tryz.call81 (r12v b (pV f16) (pV p17) (pV d18) (pV s19) (pV l20) (iV S.now)) h15 fun _ h22 => go [rd 3 0 6 0 3 h22] <| cl0 Tryz.call85 (dcouter_no x y z (by omega) (by omega) (by omega)) h22 fun w23 h24 => go [] ?_
 have h25 : sat g w23 [WdR b S, Cl r10 [iV x, iV y, uV z] 32, R] := rw_close hP14 h24
 exact en (.tuple #[iV 0, iV 2]) [] ⟨_, _, rfl, ⟨rfl, rfl⟩, (tk2 (sf1 (sf2 h25)))⟩

set_option maxHeartbeats 4000000 in
theorem runt_1 (b : Nat) (S : Wst) (y z : Int) (hz0 : 0 ≤ z) (hz1 : z ≤ 4294967295) (hg : KGood (1, y, z)) (hy0 : 0 ≤ y) (hy1 : y ≤ 63) (hz : 1 ≤ z) : HT Tryz.prog 39 [pV b, .agg #[iV 1, iV y, uV z]] [WdR b S] (fun v K => v = .tuple #[iV 0, iV 8] ∧ K = [WdR b S]) := by
 refine hiS Tryz.func39 Tryz.ntmps39 fun g w0 R h0 => ?_
 have hwk_ := rw_get (j := 0) h0 rfl; have hhd_ := headD_bd hwk_.1.qb; have hhda_ := hhd_.1; have hhdb_ := hhd_.2; have hnwa_ := hwk_.1.nl; have hnwb_ := hwk_.1.nh
 refine go [] <| nP 32 [iV 1, iV y, uV z] h0 (fun r10 _ h12 => ?_)
 obtain ⟨f16, p17, d18, s19, l20, hP14, h15⟩ := rw_open (tk3 (sf2 (sf1 (sf2 h12))))
 have hP14n := hP14.1.nl; have hP14m := hP14.1.nh; have hP14t := hP14.1.tn
 refine go [] <| cl1 Tryz.call81 (r12v b (pV f16) (pV p17) (pV d18) (pV s19) (pV l20) (iV S.now)) h15 fun _ h22 => go [rd 3 0 6 0 3 h22] <| cl0 Tryz.call85 (dcouter_ok 1 y z (by omega) (by omega) (by omega)) h22 fun w23 h24 => ?_
 have h25 : sat g w23 [WdR b S, Cl r10 [iV 1, iV y, uV z] 32, R] := rw_close hP14 h24
 refine go [rd 5 1 6 0 3 h24] <| cl1 Tryz.call92 (rlease_1 b S y z (by omega) (by omega) hg (by omega) (by omega) (by omega)) h25 fun _ h27 => go [] ?_
 exact en (.tuple #[iV 0, iV 8]) [] ⟨_, _, rfl, ⟨rfl, rfl⟩, (tk2 (sf1 (sf2 h27)))⟩

set_option maxHeartbeats 4000000 in
theorem runt_2 (b : Nat) (S : Wst) (y z : Int) (hz0 : 0 ≤ z) (hz1 : z ≤ 4294967295) (hg : KGood (2, y, z)) (hy0 : 0 ≤ y) (hy1 : y ≤ 63) (hz : 1 ≤ z) : HT Tryz.prog 39 [pV b, .agg #[iV 2, iV y, uV z]] [WdR b S] (fun v K => v = .tuple #[iV 0, iV 8] ∧ K = [WdR b S]) := by
 refine hiS Tryz.func39 Tryz.ntmps39 fun g w0 R h0 => ?_
 have hwk_ := rw_get (j := 0) h0 rfl; have hhd_ := headD_bd hwk_.1.qb; have hhda_ := hhd_.1; have hhdb_ := hhd_.2; have hnwa_ := hwk_.1.nl; have hnwb_ := hwk_.1.nh
 refine go [] <| nP 32 [iV 2, iV y, uV z] h0 (fun r10 _ h12 => ?_)
 obtain ⟨f16, p17, d18, s19, l20, hP14, h15⟩ := rw_open (tk3 (sf2 (sf1 (sf2 h12))))
 have hP14n := hP14.1.nl; have hP14m := hP14.1.nh; have hP14t := hP14.1.tn
 refine go [] <| cl1 Tryz.call81 (r12v b (pV f16) (pV p17) (pV d18) (pV s19) (pV l20) (iV S.now)) h15 fun _ h22 => go [rd 3 0 6 0 3 h22] <| cl0 Tryz.call85 (dcouter_ok 2 y z (by omega) (by omega) (by omega)) h22 fun w23 h24 => ?_
 have h25 : sat g w23 [WdR b S, Cl r10 [iV 2, iV y, uV z] 32, R] := rw_close hP14 h24
 refine go [rd 5 1 6 0 3 h24] <| cl1 Tryz.call92 (rlease_2 b S y z (by omega) (by omega) hg (by omega) (by omega) (by omega)) h25 fun _ h27 => go [] ?_
 exact en (.tuple #[iV 0, iV 8]) [] ⟨_, _, rfl, ⟨rfl, rfl⟩, (tk2 (sf1 (sf2 h27)))⟩

set_option maxHeartbeats 4000000 in
theorem runt_n (b : Nat) (S : Wst) (y z : Int) (hz0 : 0 ≤ z) (hz1 : z ≤ 4294967295) (hg : KGood (3, y, z)) (hy0 : 0 ≤ y) (hy1 : y ≤ 63) (hz : 1 ≤ z) (hT : ¬ Thr S (3, y, z)) : HT Tryz.prog 39 [pV b, .agg #[iV 3, iV y, uV z]] [WdR b S] (fun v K => v = .tuple #[iV 0, iV 5] ∧ K = [WdR b S]) := by
 refine hiS Tryz.func39 Tryz.ntmps39 fun g w0 R h0 => ?_
 have hwk_ := rw_get (j := 0) h0 rfl; have hhd_ := headD_bd hwk_.1.qb; have hhda_ := hhd_.1; have hhdb_ := hhd_.2; have hnwa_ := hwk_.1.nl; have hnwb_ := hwk_.1.nh
 refine go [] <| nP 32 [iV 3, iV y, uV z] h0 (fun r10 _ h12 => ?_)
 obtain ⟨f16, p17, d18, s19, l20, hP14, h15⟩ := rw_open (tk3 (sf2 (sf1 (sf2 h12))))
 have hP14n := hP14.1.nl; have hP14m := hP14.1.nh; have hP14t := hP14.1.tn
 refine go [] <| cl1 Tryz.call81 (r12v b (pV f16) (pV p17) (pV d18) (pV s19) (pV l20) (iV S.now)) h15 fun _ h22 => go [rd 3 0 6 0 3 h22] <| cl0 Tryz.call85 (dcouter_ok 3 y z (by omega) (by omega) (by omega)) h22 fun w23 h24 => ?_
 have h25 : sat g w23 [WdR b S, Cl r10 [iV 3, iV y, uV z] 32, R] := rw_close hP14 h24
 refine go [rd 5 1 6 0 3 h24] <| cl1 Tryz.call92 (rlease_n b S y z (by omega) (by omega) hg (by omega) (by omega) (by omega) hT) h25 fun _ h27 => go [] ?_
 exact en (.tuple #[iV 0, iV 5]) [] ⟨_, _, rfl, ⟨rfl, rfl⟩, (tk2 (sf1 (sf2 h27)))⟩

set_option maxHeartbeats 4000000 in
theorem runt_y (b : Nat) (S : Wst) (y z : Int) (hz0 : 0 ≤ z) (hz1 : z ≤ 4294967295) (hg : KGood (3, y, z)) (hy0 : 0 ≤ y) (hy1 : y ≤ 63) (hz : 1 ≤ z) (hT : Thr S (3, y, z)) : HT Tryz.prog 39 [pV b, .agg #[iV 3, iV y, uV z]] [WdR b S] (fun v K => v = .tuple #[iV (vaA S.D y.toNat), iV 0] ∧ K = [WdR b S]) := by
 refine hiS Tryz.func39 Tryz.ntmps39 fun g w0 R h0 => ?_
 have hwk_ := rw_get (j := 0) h0 rfl; have hhd_ := headD_bd hwk_.1.qb; have hhda_ := hhd_.1; have hhdb_ := hhd_.2; have hnwa_ := hwk_.1.nl; have hnwb_ := hwk_.1.nh
 refine go [] <| nP 32 [iV 3, iV y, uV z] h0 (fun r10 _ h12 => ?_)
 obtain ⟨f16, p17, d18, s19, l20, hP14, h15⟩ := rw_open (tk3 (sf2 (sf1 (sf2 h12))))
 have hP14n := hP14.1.nl; have hP14m := hP14.1.nh; have hP14t := hP14.1.tn
 refine go [] <| cl1 Tryz.call81 (r12v b (pV f16) (pV p17) (pV d18) (pV s19) (pV l20) (iV S.now)) h15 fun _ h22 => go [rd 3 0 6 0 3 h22] <| cl0 Tryz.call85 (dcouter_ok 3 y z (by omega) (by omega) (by omega)) h22 fun w23 h24 => ?_
 have h25 : sat g w23 [WdR b S, Cl r10 [iV 3, iV y, uV z] 32, R] := rw_close hP14 h24
 refine go [rd 5 1 6 0 3 h24] <| cl1 Tryz.call92 (rlease_y b S y z (by omega) (by omega) hg (by omega) (by omega) (by omega) hT) h25 fun _ h27 => go [] <| dw (fls [0, 1, 2, 3, 4] (Tr.an 5 (fls [6, 7, 8, 9] Tr.nil))) h27 fun _ h29 => ?_
 obtain ⟨f32, p33, d34, s35, l36, hP30, h31⟩ := rw_open h29
 have hP30n := hP30.1.nl; have hP30m := hP30.1.nh; have hP30t := hP30.1.tn
 have h37 := tk8 (sf7 (sf6 (sf6 (sf6 (sf7 (sf7 (sf7 (sf7 h31))))))))
 refine go [rd 8 3 0 3 1 h31, rd 8 4 6 0 3 h31] <| cw1 Tryz.call100 (r11unt_ht d34 S.D y z (thr_at hT) ⟨by omega, by omega⟩ ⟨by omega, by omega⟩) h37 fun w38 h39 => ⟨kd [], ?_⟩
 refine go [] ?_
 have h41 : sat g w38 [WdR b S, Cl r10 [iV 3, iV y, uV z] 32, R] := rw_close hP30 (tk8 (sf7 (sf7 (sf7 (sf4 (sf7 (sf7 (sf7 (sf7 h39)))))))))
 exact en (.tuple #[iV ((vaA S.D y.toNat)), iV 0]) [] ⟨_, _, rfl, ⟨rfl, rfl⟩, (tk2 (sf1 (sf2 h41)))⟩

theorem runtil_ht (b : Nat) (S : Wst) (x y z : Int) (hz0 : 0 ≤ z) (hz1 : z ≤ 4294967295) : HT Tryz.prog 39 [pV b, .agg #[iV x, iV y, uV z]] [WdR b S] (fun v K => v = .tuple #[iV (untV S (x, y, z)), iV (untE S (x, y, z))] ∧ K = [WdR b S]) := by
  by_cases h : KGood (x, y, z)
  · rcases kgood_k h with h1 | h1 | h1
    · have h2 : x = 1 := h1
      subst h2
      rw [(unt_kind (S := S) h (by show (1 : Int) ≠ 3; decide)).1, (unt_kind (S := S) h (by show (1 : Int) ≠ 3; decide)).2]; exact runt_1 b S y z hz0 hz1 h h.2.2.1 h.2.2.2.1 h.2.2.2.2
    · have h2 : x = 2 := h1
      subst h2
      rw [(unt_kind (S := S) h (by show (2 : Int) ≠ 3; decide)).1, (unt_kind (S := S) h (by show (2 : Int) ≠ 3; decide)).2]; exact runt_2 b S y z hz0 hz1 h h.2.2.1 h.2.2.2.1 h.2.2.2.2
    · have h2 : x = 3 := h1
      subst h2
      by_cases hT : Thr S (3, y, z)
      · rw [(unt_ok (S := S) (o := (3, y, z)) rfl hT).1, (unt_ok (S := S) (o := (3, y, z)) rfl hT).2]; exact runt_y b S y z hz0 hz1 h h.2.2.1 h.2.2.2.1 h.2.2.2.2 hT
      · rw [(unt_none (S := S) h rfl hT).1, (unt_none (S := S) h rfl hT).2]; exact runt_n b S y z hz0 hz1 h h.2.2.1 h.2.2.2.1 h.2.2.2.2 hT
  · rw [(unt_arg (S := S) h).1, (unt_arg (S := S) h).2]; exact runt_no b S x y z hz0 hz1 h

set_option maxHeartbeats 4000000 in
theorem rren_no (b : Nat) (S : Wst) (x y z : Int) (hz0 : 0 ≤ z) (hz1 : z ≤ 4294967295) (hg : ¬ (1 ≤ x ∧ x ≤ 3 ∧ 0 ≤ y ∧ y ≤ 63 ∧ 1 ≤ z)) (t : Int) : HT Tryz.prog 35 [pV b, .agg #[iV x, iV y, uV z], iV t] [WdR b S] (fun v K => v = iV 2 ∧ K = [WdR b S]) := by
 refine hiS Tryz.func35 Tryz.ntmps35 fun g w0 R h0 => ?_
 have hwk_ := rw_get (j := 0) h0 rfl; have hhd_ := headD_bd hwk_.1.qb; have hhda_ := hhd_.1; have hhdb_ := hhd_.2; have hnwa_ := hwk_.1.nl; have hnwb_ := hwk_.1.nh
 refine go [] <| nP 32 [iV x, iV y, uV z] h0 (fun r10 _ h12 => ?_)
 obtain ⟨f16, p17, d18, s19, l20, hP14, h15⟩ := rw_open (tk3 (sf2 (sf1 (sf2 h12))))
 have hP14n := hP14.1.nl; have hP14m := hP14.1.nh; have hP14t := hP14.1.tn
 refine go [] <| cl1 Tryz.call81 (r12v b (pV f16) (pV p17) (pV d18) (pV s19) (pV l20) (iV S.now)) h15 fun _ h22 => go [rd 3 0 6 0 3 h22] <| cl0 Tryz.call85 (dcouter_no x y z (by omega) (by omega) (by omega)) h22 fun w23 h24 => go [] ?_
 have h25 : sat g w23 [WdR b S, Cl r10 [iV x, iV y, uV z] 32, R] := rw_close hP14 h24
 exact en (iV 2) [] ⟨_, _, rfl, ⟨rfl, rfl⟩, (tk2 (sf1 (sf2 h25)))⟩

set_option maxHeartbeats 4000000 in
theorem rren_sp (b : Nat) (S : Wst) (x y z : Int) (hz0 : 0 ≤ z) (hz1 : z ≤ 4294967295) (hg : KGood (x, y, z)) (hy0 : 0 ≤ y) (hy1 : y ≤ 63) (hz : 1 ≤ z) (hx : 1 ≤ x ∧ x ≤ 3) (t : Int) (ht : t < 1 ∨ 1048576 < t) : HT Tryz.prog 35 [pV b, .agg #[iV x, iV y, uV z], iV t] [WdR b S] (fun v K => v = iV 2 ∧ K = [WdR b S]) := by
 refine hiS Tryz.func35 Tryz.ntmps35 fun g w0 R h0 => ?_
 have hwk_ := rw_get (j := 0) h0 rfl; have hhd_ := headD_bd hwk_.1.qb; have hhda_ := hhd_.1; have hhdb_ := hhd_.2; have hnwa_ := hwk_.1.nl; have hnwb_ := hwk_.1.nh
 refine go [] <| nP 32 [iV x, iV y, uV z] h0 (fun r10 _ h12 => ?_)
 obtain ⟨f16, p17, d18, s19, l20, hP14, h15⟩ := rw_open (tk3 (sf2 (sf1 (sf2 h12))))
 have hP14n := hP14.1.nl; have hP14m := hP14.1.nh; have hP14t := hP14.1.tn
 refine go [] <| cl1 Tryz.call81 (r12v b (pV f16) (pV p17) (pV d18) (pV s19) (pV l20) (iV S.now)) h15 fun _ h22 => go [rd 3 0 6 0 3 h22] <| cl0 Tryz.call85 (dcouter_ok x y z (by omega) (by omega) (by omega)) h22 fun _ h24 => go [] ?_
 by_cases c25 : 1 ≤ t
 ·
  refine cl0 Tryz.call91 (r12span_n t (by omega)) h24 fun w26 h27 => go [] ?_
  have h28 : sat g w26 [WdR b S, Cl r10 [iV x, iV y, uV z] 32, R] := rw_close hP14 h27
  exact en (iV 2) [] ⟨_, _, rfl, ⟨rfl, rfl⟩, (tk2 (sf1 (sf2 h28)))⟩
 refine cl0 Tryz.call91 (r12span_n t (by omega)) h24 fun w30 h31 => go [] ?_
 have h32 : sat g w30 [WdR b S, Cl r10 [iV x, iV y, uV z] 32, R] := rw_close hP14 h31
 exact en (iV 2) [] ⟨_, _, rfl, ⟨rfl, rfl⟩, (tk2 (sf1 (sf2 h32)))⟩

set_option maxHeartbeats 4000000 in
theorem rren_1 (b : Nat) (S : Wst) (y z : Int) (hz0 : 0 ≤ z) (hz1 : z ≤ 4294967295) (hg : KGood (1, y, z)) (hy0 : 0 ≤ y) (hy1 : y ≤ 63) (hz : 1 ≤ z) (t : Int) (ht : 1 ≤ t ∧ t ≤ 1048576) : HT Tryz.prog 35 [pV b, .agg #[iV 1, iV y, uV z], iV t] [WdR b S] (fun v K => v = iV 8 ∧ K = [WdR b S]) := by
 refine hiS Tryz.func35 Tryz.ntmps35 fun g w0 R h0 => ?_
 have hwk_ := rw_get (j := 0) h0 rfl; have hhd_ := headD_bd hwk_.1.qb; have hhda_ := hhd_.1; have hhdb_ := hhd_.2; have hnwa_ := hwk_.1.nl; have hnwb_ := hwk_.1.nh
 refine go [] <| nP 32 [iV 1, iV y, uV z] h0 (fun r10 _ h12 => ?_)
 obtain ⟨f16, p17, d18, s19, l20, hP14, h15⟩ := rw_open (tk3 (sf2 (sf1 (sf2 h12))))
 have hP14n := hP14.1.nl; have hP14m := hP14.1.nh; have hP14t := hP14.1.tn
 refine go [] <| cl1 Tryz.call81 (r12v b (pV f16) (pV p17) (pV d18) (pV s19) (pV l20) (iV S.now)) h15 fun _ h22 => go [rd 3 0 6 0 3 h22] <| cl0 Tryz.call85 (dcouter_ok 1 y z (by omega) (by omega) (by omega)) h22 fun _ h24 => go [] <| cl0 Tryz.call91 (r12span_y t (by omega)) h24 fun w25 h26 => ?_
 have h27 : sat g w25 [WdR b S, Cl r10 [iV 1, iV y, uV z] 32, R] := rw_close hP14 h26
 refine go [rd 5 1 6 0 3 h26] <| cl1 Tryz.call92 (rlease_1 b S y z (by omega) (by omega) hg (by omega) (by omega) (by omega)) h27 fun _ h29 => go [] ?_
 exact en (iV 8) [] ⟨_, _, rfl, ⟨rfl, rfl⟩, (tk2 (sf1 (sf2 h29)))⟩

set_option maxHeartbeats 4000000 in
theorem rren_2 (b : Nat) (S : Wst) (y z : Int) (hz0 : 0 ≤ z) (hz1 : z ≤ 4294967295) (hg : KGood (2, y, z)) (hy0 : 0 ≤ y) (hy1 : y ≤ 63) (hz : 1 ≤ z) (t : Int) (ht : 1 ≤ t ∧ t ≤ 1048576) : HT Tryz.prog 35 [pV b, .agg #[iV 2, iV y, uV z], iV t] [WdR b S] (fun v K => v = iV 8 ∧ K = [WdR b S]) := by
 refine hiS Tryz.func35 Tryz.ntmps35 fun g w0 R h0 => ?_
 have hwk_ := rw_get (j := 0) h0 rfl; have hhd_ := headD_bd hwk_.1.qb; have hhda_ := hhd_.1; have hhdb_ := hhd_.2; have hnwa_ := hwk_.1.nl; have hnwb_ := hwk_.1.nh
 refine go [] <| nP 32 [iV 2, iV y, uV z] h0 (fun r10 _ h12 => ?_)
 obtain ⟨f16, p17, d18, s19, l20, hP14, h15⟩ := rw_open (tk3 (sf2 (sf1 (sf2 h12))))
 have hP14n := hP14.1.nl; have hP14m := hP14.1.nh; have hP14t := hP14.1.tn
 refine go [] <| cl1 Tryz.call81 (r12v b (pV f16) (pV p17) (pV d18) (pV s19) (pV l20) (iV S.now)) h15 fun _ h22 => go [rd 3 0 6 0 3 h22] <| cl0 Tryz.call85 (dcouter_ok 2 y z (by omega) (by omega) (by omega)) h22 fun _ h24 => go [] <| cl0 Tryz.call91 (r12span_y t (by omega)) h24 fun w25 h26 => ?_
 have h27 : sat g w25 [WdR b S, Cl r10 [iV 2, iV y, uV z] 32, R] := rw_close hP14 h26
 refine go [rd 5 1 6 0 3 h26] <| cl1 Tryz.call92 (rlease_2 b S y z (by omega) (by omega) hg (by omega) (by omega) (by omega)) h27 fun _ h29 => go [] ?_
 exact en (iV 8) [] ⟨_, _, rfl, ⟨rfl, rfl⟩, (tk2 (sf1 (sf2 h29)))⟩

set_option maxHeartbeats 4000000 in
theorem rren_n (b : Nat) (S : Wst) (y z : Int) (hz0 : 0 ≤ z) (hz1 : z ≤ 4294967295) (hg : KGood (3, y, z)) (hy0 : 0 ≤ y) (hy1 : y ≤ 63) (hz : 1 ≤ z) (hT : ¬ Thr S (3, y, z)) (t : Int) (ht : 1 ≤ t ∧ t ≤ 1048576) : HT Tryz.prog 35 [pV b, .agg #[iV 3, iV y, uV z], iV t] [WdR b S] (fun v K => v = iV 5 ∧ K = [WdR b S]) := by
 refine hiS Tryz.func35 Tryz.ntmps35 fun g w0 R h0 => ?_
 have hwk_ := rw_get (j := 0) h0 rfl; have hhd_ := headD_bd hwk_.1.qb; have hhda_ := hhd_.1; have hhdb_ := hhd_.2; have hnwa_ := hwk_.1.nl; have hnwb_ := hwk_.1.nh
 refine go [] <| nP 32 [iV 3, iV y, uV z] h0 (fun r10 _ h12 => ?_)
 obtain ⟨f16, p17, d18, s19, l20, hP14, h15⟩ := rw_open (tk3 (sf2 (sf1 (sf2 h12))))
 have hP14n := hP14.1.nl; have hP14m := hP14.1.nh; have hP14t := hP14.1.tn
 refine go [] <| cl1 Tryz.call81 (r12v b (pV f16) (pV p17) (pV d18) (pV s19) (pV l20) (iV S.now)) h15 fun _ h22 => go [rd 3 0 6 0 3 h22] <| cl0 Tryz.call85 (dcouter_ok 3 y z (by omega) (by omega) (by omega)) h22 fun _ h24 => go [] <| cl0 Tryz.call91 (r12span_y t (by omega)) h24 fun w25 h26 => ?_
 have h27 : sat g w25 [WdR b S, Cl r10 [iV 3, iV y, uV z] 32, R] := rw_close hP14 h26
 refine go [rd 5 1 6 0 3 h26] <| cl1 Tryz.call92 (rlease_n b S y z (by omega) (by omega) hg (by omega) (by omega) (by omega) hT) h27 fun _ h29 => go [] ?_
 exact en (iV 5) [] ⟨_, _, rfl, ⟨rfl, rfl⟩, (tk2 (sf1 (sf2 h29)))⟩

set_option maxHeartbeats 4000000 in
theorem rren_y (b : Nat) (S : Wst) (y z : Int) (hz0 : 0 ≤ z) (hz1 : z ≤ 4294967295) (hg : KGood (3, y, z)) (hy0 : 0 ≤ y) (hy1 : y ≤ 63) (hz : 1 ≤ z) (hT : Thr S (3, y, z)) (t : Int) (ht : 1 ≤ t ∧ t ≤ 1048576) : HT Tryz.prog 35 [pV b, .agg #[iV 3, iV y, uV z], iV t] [WdR b S] (fun v K => v = iV (rnE (vaA S.D y.toNat) t S.now) ∧ K = [WdR b ({ S with D := rnX S.D (3, y, z) t S.now } : Wst)]) := by
 refine hiS Tryz.func35 Tryz.ntmps35 fun g w0 R h0 => ?_
 have hwk_ := rw_get (j := 0) h0 rfl; have hhd_ := headD_bd hwk_.1.qb; have hhda_ := hhd_.1; have hhdb_ := hhd_.2; have hnwa_ := hwk_.1.nl; have hnwb_ := hwk_.1.nh
 refine go [] <| nP 32 [iV 3, iV y, uV z] h0 (fun r10 _ h12 => ?_)
 obtain ⟨f16, p17, d18, s19, l20, hP14, h15⟩ := rw_open (tk3 (sf2 (sf1 (sf2 h12))))
 have hP14n := hP14.1.nl; have hP14m := hP14.1.nh; have hP14t := hP14.1.tn
 refine go [] <| cl1 Tryz.call81 (r12v b (pV f16) (pV p17) (pV d18) (pV s19) (pV l20) (iV S.now)) h15 fun _ h22 => go [rd 3 0 6 0 3 h22] <| cl0 Tryz.call85 (dcouter_ok 3 y z (by omega) (by omega) (by omega)) h22 fun _ h24 => go [] <| cl0 Tryz.call91 (r12span_y t (by omega)) h24 fun w25 h26 => ?_
 have h27 : sat g w25 [WdR b S, Cl r10 [iV 3, iV y, uV z] 32, R] := rw_close hP14 h26
 refine go [rd 5 1 6 0 3 h26] <| cl1 Tryz.call92 (rlease_y b S y z (by omega) (by omega) hg (by omega) (by omega) (by omega) hT) h27 fun _ h29 => go [] <| dw (fls [0, 1, 2, 3, 4, 5, 6, 7, 8, 9] (Tr.an 10 (Tr.fl 11 Tr.nil))) h29 fun _ h31 => ?_
 obtain ⟨f34, p35, d36, s37, l38, hP32, h33⟩ := rw_open h31
 have hP32n := hP32.1.nl; have hP32m := hP32.1.nh; have hP32t := hP32.1.tn
 have h39 := tk8 (sf7 (sf6 (sf6 (sf6 (sf7 (sf7 (sf7 (sf7 h33))))))))
 refine go [rd 8 3 0 3 1 h33, rd 8 4 6 0 3 h33, rd 8 9 0 6 1 h33] <| cw1 Tryz.call93 (r11ren_ht d36 S.D y z (thr_at hT) ⟨by omega, by omega⟩ ⟨by omega, by omega⟩ t S.now (by omega) (by omega)) h39 fun w40 h41 => ⟨kd [], ?_⟩
 refine go [] ?_
 have h42 := tk8 (sf7 (sf7 (sf7 (sf4 (sf7 (sf7 (sf7 (sf7 h41))))))))
 have h43 : sat g w40 [WdR b ({ S with D := rnX S.D (3, y, z) t S.now } : Wst), Cl r10 [iV 3, iV y, uV z] 32, R] := rw_close ⟨(ren_ok ht rfl hT).2 ▸ wok_ren hwk_.1 (3, y, z) t, hwk_.2⟩ h42
 exact en (iV ((rnE (vaA S.D y.toNat) t S.now))) [] ⟨_, _, rfl, ⟨rfl, rfl⟩, (tk2 (sf1 (sf2 h43)))⟩

theorem rrenew_ht (b : Nat) (S : Wst) (x y z t : Int) (hz0 : 0 ≤ z) (hz1 : z ≤ 4294967295) : HT Tryz.prog 35 [pV b, .agg #[iV x, iV y, uV z], iV t] [WdR b S] (fun v K => v = iV (renE S (x, y, z) t) ∧ K = [WdR b (renS S (x, y, z) t)]) := by
  by_cases ht : 1 ≤ t ∧ t ≤ 1048576
  rotate_left
  · by_cases h : KGood (x, y, z)
    · have e_ : renE S (x, y, z) t = 2 := ren_arg (by omega)
      rw [ren_keep (by rw [e_]; decide), e_]; exact rren_sp b S x y z hz0 hz1 h h.2.2.1 h.2.2.2.1 h.2.2.2.2 ⟨h.1, h.2.1⟩ t (by omega)
    · have e_ : renE S (x, y, z) t = 2 := ren_arg (.inl h)
      rw [ren_keep (by rw [e_]; decide), e_]; exact rren_no b S x y z hz0 hz1 h t
  by_cases h : KGood (x, y, z)
  · rcases kgood_k h with h1 | h1 | h1
    · have h2 : x = 1 := h1
      subst h2
      have e_ : renE S (_, y, z) t = _ := ren_kind h ht (by show (1 : Int) ≠ 3; decide); rw [ren_keep (by rw [e_]; decide), e_]; exact rren_1 b S y z hz0 hz1 h h.2.2.1 h.2.2.2.1 h.2.2.2.2 t ht
    · have h2 : x = 2 := h1
      subst h2
      have e_ : renE S (_, y, z) t = _ := ren_kind h ht (by show (2 : Int) ≠ 3; decide); rw [ren_keep (by rw [e_]; decide), e_]; exact rren_2 b S y z hz0 hz1 h h.2.2.1 h.2.2.2.1 h.2.2.2.2 t ht
    · have h2 : x = 3 := h1
      subst h2
      by_cases hT : Thr S (3, y, z)
      · rw [(ren_ok ht rfl hT).1, (ren_ok ht rfl hT).2]; exact rren_y b S y z hz0 hz1 h h.2.2.1 h.2.2.2.1 h.2.2.2.2 hT t ht
      · have e_ : renE S (_, y, z) t = _ := ren_none h ht rfl hT; rw [ren_keep (by rw [e_]; decide), e_]; exact rren_n b S y z hz0 hz1 h h.2.2.1 h.2.2.2.1 h.2.2.2.2 hT t ht
  · have e_ : renE S (x, y, z) t = 2 := ren_arg (.inl h); rw [ren_keep (by rw [e_]; decide), e_]; exact rren_no b S x y z hz0 hz1 h t

set_option maxHeartbeats 4000000 in
theorem routs_ht (p q : Option Addr) (n m c d : Nat) (L M : List Ky) (X Y : Assn) (hX : Gv X p n (fl eO L)) (hY : Gv Y q m (fl eO M)) (hlL : L.length = n) (hlM : M.length = m) (hn : n ≤ 1099511627776) : HT Tryz.prog 42 [.slice p n c, .slice q m d] [X, Y] (fun v K => v = .bool (decide (L = M)) ∧ K = [X, Y]) := by
 refine hiS Tryz.func42 Tryz.ntmps42 fun g w0 R h0 => go [.s 1 4] ?_
 by_cases c10 : (n : Int) = (m : Int)
 ·
  refine go [.v 1 4 (qnF (n : Int) (m : Int))] ?_
  refine lpS (fun mz_ a w => ∃ i : Nat, ∃ lr : Fr, mz_ = n - i ∧ (i ≤ n) ∧ (L.take i = M.take i) ∧ a = mk 26 (([(0, .slice p n c), (1, .slice q m d), (5, iV (i : Int))] : Fr) ++ lr) ∧ sat g w [X, Y, R]) (n - 0) ⟨0, _, rfl, (Nat.zero_le _), rfl, (lvF [.k 0 (.slice p n c), .k 1 (.slice q m d), .o 5 (oJ .i64 0 (0 : Int))]), h0⟩ ?_
  rintro m12 a13 w14 ⟨i, lr11, rfl, hi, ht, rfl, h15⟩
  refine ga <| go [.s 4 3] ?_
  by_cases c16 : (i : Int) < (n : Int)
  ·
   refine go [.v 4 3 (oT ((i : Int) < (n : Int)))] <| dw (fls [0, 1, 2, 3, 4, 5, 6, 7, 8] Tr.nil) h15 fun _ h18 => ?_
   obtain ⟨b19, off21, hp20⟩ := gv_ptr (j := 0) h18 rfl hX (by omega)
   refine go [.s 6 2] <| lw (.pointer (some ⟨b19, off21 + i * 3, none⟩)) (fun _ => law_indexSlP (x := (Operand.tmp 17)) (i := (Operand.tmp 18)) (p := p) (b := b19) (off := off21) (z := (i : Int)) (len := n) (cap := c) (by kernel_rfl) Tryz.underlying30 3 (by kernel_rfl) i (by kernel_rfl) hp20 (by kernel_rfl) (by omega) (by omega) (off21 + i * 3) (by omega) _) ?_
   obtain ⟨x22, hx23⟩ : ∃ x, L[i]? = some x := ⟨_, List.getElem?_eq_getElem (by rw [hlL]; omega)⟩
   obtain ⟨b24, off26, hp25⟩ := gv_ptr (j := 1) h18 rfl hY (by omega)
   refine go [.r 6 3 b19 (off21 + i * 3) [iV x22.1, iV x22.2.1, uV x22.2.2] ⟨gv_cell (j := 0) h18 rfl hX hp20 (fl_get eO_ok (j := 0) (v := iV x22.1) hx23 rfl) (off21 + i * 3) (by omega), gv_cell (j := 0) h18 rfl hX hp20 (fl_get eO_ok (j := 1) (v := iV x22.2.1) hx23 rfl) (off21 + i * 3 + 1) (by omega), gv_cell (j := 0) h18 rfl hX hp20 (fl_get eO_ok (j := 2) (v := uV x22.2.2) hx23 rfl) (off21 + i * 3 + 2) (by omega), trivial⟩, .s 6 6] <| lw (.pointer (some ⟨b24, off26 + i * 3, none⟩)) (fun _ => law_indexSlP (x := (Operand.tmp 21)) (i := (Operand.tmp 22)) (p := q) (b := b24) (off := off26) (z := (i : Int)) (len := m) (cap := d) (by kernel_rfl) Tryz.underlying30 3 (by kernel_rfl) i (by kernel_rfl) hp25 (by kernel_rfl) (by omega) (by omega) (off26 + i * 3) (by omega) _) ?_
   obtain ⟨x27, hx28⟩ : ∃ x, M[i]? = some x := ⟨_, List.getElem?_eq_getElem (by rw [hlM]; omega)⟩
   refine go [.r 6 7 b24 (off26 + i * 3) [iV x27.1, iV x27.2.1, uV x27.2.2] ⟨gv_cell (j := 1) h18 rfl hY hp25 (fl_get eO_ok (j := 0) (v := iV x27.1) hx28 rfl) (off26 + i * 3) (by omega), gv_cell (j := 1) h18 rfl hY hp25 (fl_get eO_ok (j := 1) (v := iV x27.2.1) hx28 rfl) (off26 + i * 3 + 1) (by omega), gv_cell (j := 1) h18 rfl hY hp25 (fl_get eO_ok (j := 2) (v := uV x27.2.2) hx28 rfl) (off26 + i * 3 + 2) (by omega), trivial⟩, .s 6 8] ?_
   by_cases c29 : x22.1 = x27.1
   ·
    by_cases c30 : x22.2.1 = x27.2.1
    ·
     by_cases c31 : x22.2.2 = x27.2.2
     ·
      refine lw (.bool false) (fun _ => q36e32_neq_t (x := (Operand.tmp 20)) (y := (Operand.tmp 24)) x22.1 x22.2.1 x22.2.2 x27.1 x27.2.1 x27.2.2 (by kernel_rfl) (by kernel_rfl) (by kernel_rfl) ⟨(by omega), (by omega), (by omega)⟩ _) <| go [.v 5 1 (oIr ((i : Int) + 1))] ?_
      refine enL ?_
      change ∃ n', n' < _ ∧ _
      refine ⟨(n - (i + 1)), by omega, (i + 1), _, rfl, (by omega), (same_go2 ht hx23 hx28 (by omega)), (lvF [.k 0 (.slice p n c), .k 1 (.slice q m d), .o 5 (oJ .i64 ((i : Int) + 1) ((((i + 1) : Nat) : Int)))]), h18⟩
     refine lw (.bool true) (fun _ => q36e32_neq_f (x := (Operand.tmp 20)) (y := (Operand.tmp 24)) x22.1 x22.2.1 x22.2.2 x27.1 x27.2.1 x27.2.2 (by kernel_rfl) (by kernel_rfl) (by kernel_rfl) (by omega) _) <| go [] <| up <| go [] ?_
     exact en (.bool false) [] ⟨_, _, rfl, ⟨by rw [same_f2 hx23 hx28 (by omega)], rfl⟩, h18⟩
    refine lw (.bool true) (fun _ => q36e32_neq_f (x := (Operand.tmp 20)) (y := (Operand.tmp 24)) x22.1 x22.2.1 x22.2.2 x27.1 x27.2.1 x27.2.2 (by kernel_rfl) (by kernel_rfl) (by kernel_rfl) (by omega) _) <| go [] <| up <| go [] ?_
    exact en (.bool false) [] ⟨_, _, rfl, ⟨by rw [same_f2 hx23 hx28 (by omega)], rfl⟩, h18⟩
   refine lw (.bool true) (fun _ => q36e32_neq_f (x := (Operand.tmp 20)) (y := (Operand.tmp 24)) x22.1 x22.2.1 x22.2.2 x27.1 x27.2.1 x27.2.2 (by kernel_rfl) (by kernel_rfl) (by kernel_rfl) (by omega) _) <| go [] <| up <| go [] ?_
   exact en (.bool false) [] ⟨_, _, rfl, ⟨by rw [same_f2 hx23 hx28 (by omega)], rfl⟩, h18⟩
  refine go [.v 4 3 (oF ((i : Int) < (n : Int)))] <| up <| go [] ?_
  exact en (.bool true) [] ⟨_, _, rfl, ⟨by rw [same_t2 ht (by omega) (by omega)], rfl⟩, h15⟩
 refine go [.v 1 4 (qnT (n : Int) (m : Int))] ?_
 exact en (.bool false) [] ⟨_, _, rfl, ⟨by rw [same_n2 (by omega)], rfl⟩, h0⟩

set_option maxHeartbeats 4000000 in
theorem ratts_ht (p q : Option Addr) (n m c d : Nat) (L M : List At) (X Y : Assn) (hX : Gv X p n (fl eAt L)) (hY : Gv Y q m (fl eAt M)) (hlL : L.length = n) (hlM : M.length = m) (hn : n ≤ 1099511627776) : HT Tryz.prog 45 [.slice p n c, .slice q m d] [X, Y] (fun v K => v = .bool (decide (L = M)) ∧ K = [X, Y]) := by
 refine hiS Tryz.func45 Tryz.ntmps45 fun g w0 R h0 => go [.s 1 4] ?_
 by_cases c10 : (n : Int) = (m : Int)
 ·
  refine go [.v 1 4 (qnF (n : Int) (m : Int))] ?_
  refine lpS (fun mz_ a w => ∃ i : Nat, ∃ lr : Fr, mz_ = n - i ∧ (i ≤ n) ∧ (L.take i = M.take i) ∧ a = mk 26 (([(0, .slice p n c), (1, .slice q m d), (5, iV (i : Int))] : Fr) ++ lr) ∧ sat g w [X, Y, R]) (n - 0) ⟨0, _, rfl, (Nat.zero_le _), rfl, (lvF [.k 0 (.slice p n c), .k 1 (.slice q m d), .o 5 (oJ .i64 0 (0 : Int))]), h0⟩ ?_
  rintro m12 a13 w14 ⟨i, lr11, rfl, hi, ht, rfl, h15⟩
  refine ga <| go [.s 4 3] ?_
  by_cases c16 : (i : Int) < (n : Int)
  ·
   refine go [.v 4 3 (oT ((i : Int) < (n : Int)))] <| dw (fls [0, 1, 2, 3, 4, 5, 6, 7, 8] Tr.nil) h15 fun _ h18 => ?_
   obtain ⟨b19, off21, hp20⟩ := gv_ptr (j := 0) h18 rfl hX (by omega)
   refine go [.s 6 2] <| lw (.pointer (some ⟨b19, off21 + i * 6, none⟩)) (fun _ => law_indexSlP (x := (Operand.tmp 17)) (i := (Operand.tmp 18)) (p := p) (b := b19) (off := off21) (z := (i : Int)) (len := n) (cap := c) (by kernel_rfl) Tryz.underlying39 6 (by kernel_rfl) i (by kernel_rfl) hp20 (by kernel_rfl) (by omega) (by omega) (off21 + i * 6) (by omega) _) ?_
   obtain ⟨x22, hx23⟩ : ∃ x, L[i]? = some x := ⟨_, List.getElem?_eq_getElem (by rw [hlL]; omega)⟩
   obtain ⟨b24, off26, hp25⟩ := gv_ptr (j := 1) h18 rfl hY (by omega)
   refine go [.r 6 3 b19 (off21 + i * 6) [iV x22.at_, iV x22.out.1, iV x22.out.2.1, uV x22.out.2.2, iV x22.why, iV x22.ans] ⟨gv_cell (j := 0) h18 rfl hX hp20 (fl_get eAt_ok (j := 0) (v := iV x22.at_) hx23 rfl) (off21 + i * 6) (by omega), gv_cell (j := 0) h18 rfl hX hp20 (fl_get eAt_ok (j := 1) (v := iV x22.out.1) hx23 rfl) (off21 + i * 6 + 1) (by omega), gv_cell (j := 0) h18 rfl hX hp20 (fl_get eAt_ok (j := 2) (v := iV x22.out.2.1) hx23 rfl) (off21 + i * 6 + 2) (by omega), gv_cell (j := 0) h18 rfl hX hp20 (fl_get eAt_ok (j := 3) (v := uV x22.out.2.2) hx23 rfl) (off21 + i * 6 + 3) (by omega), gv_cell (j := 0) h18 rfl hX hp20 (fl_get eAt_ok (j := 4) (v := iV x22.why) hx23 rfl) (off21 + i * 6 + 4) (by omega), gv_cell (j := 0) h18 rfl hX hp20 (fl_get eAt_ok (j := 5) (v := iV x22.ans) hx23 rfl) (off21 + i * 6 + 5) (by omega), trivial⟩, .s 6 6] <| lw (.pointer (some ⟨b24, off26 + i * 6, none⟩)) (fun _ => law_indexSlP (x := (Operand.tmp 21)) (i := (Operand.tmp 22)) (p := q) (b := b24) (off := off26) (z := (i : Int)) (len := m) (cap := d) (by kernel_rfl) Tryz.underlying39 6 (by kernel_rfl) i (by kernel_rfl) hp25 (by kernel_rfl) (by omega) (by omega) (off26 + i * 6) (by omega) _) ?_
   obtain ⟨x27, hx28⟩ : ∃ x, M[i]? = some x := ⟨_, List.getElem?_eq_getElem (by rw [hlM]; omega)⟩
   refine go [.r 6 7 b24 (off26 + i * 6) [iV x27.at_, iV x27.out.1, iV x27.out.2.1, uV x27.out.2.2, iV x27.why, iV x27.ans] ⟨gv_cell (j := 1) h18 rfl hY hp25 (fl_get eAt_ok (j := 0) (v := iV x27.at_) hx28 rfl) (off26 + i * 6) (by omega), gv_cell (j := 1) h18 rfl hY hp25 (fl_get eAt_ok (j := 1) (v := iV x27.out.1) hx28 rfl) (off26 + i * 6 + 1) (by omega), gv_cell (j := 1) h18 rfl hY hp25 (fl_get eAt_ok (j := 2) (v := iV x27.out.2.1) hx28 rfl) (off26 + i * 6 + 2) (by omega), gv_cell (j := 1) h18 rfl hY hp25 (fl_get eAt_ok (j := 3) (v := uV x27.out.2.2) hx28 rfl) (off26 + i * 6 + 3) (by omega), gv_cell (j := 1) h18 rfl hY hp25 (fl_get eAt_ok (j := 4) (v := iV x27.why) hx28 rfl) (off26 + i * 6 + 4) (by omega), gv_cell (j := 1) h18 rfl hY hp25 (fl_get eAt_ok (j := 5) (v := iV x27.ans) hx28 rfl) (off26 + i * 6 + 5) (by omega), trivial⟩, .s 6 8] ?_
   by_cases c29 : x22.at_ = x27.at_
   ·
    by_cases c30 : x22.out.1 = x27.out.1
    ·
     by_cases c31 : x22.out.2.1 = x27.out.2.1
     ·
      by_cases c32 : x22.out.2.2 = x27.out.2.2
      ·
       by_cases c33 : x22.why = x27.why
       ·
        by_cases c34 : x22.ans = x27.ans
        ·
         refine lw (.bool false) (fun _ => q36e44_neq_t (x := (Operand.tmp 20)) (y := (Operand.tmp 24)) x22.at_ x22.out.1 x22.out.2.1 x22.out.2.2 x22.why x22.ans x27.at_ x27.out.1 x27.out.2.1 x27.out.2.2 x27.why x27.ans (by kernel_rfl) (by kernel_rfl) (by kernel_rfl) ⟨(by omega), (by omega), (by omega), (by omega), (by omega), (by omega)⟩ _) <| go [.v 5 1 (oIr ((i : Int) + 1))] ?_
         refine enL ?_
         change ∃ n', n' < _ ∧ _
         refine ⟨(n - (i + 1)), by omega, (i + 1), _, rfl, (by omega), (sat_go2 ht hx23 hx28 (by omega)), (lvF [.k 0 (.slice p n c), .k 1 (.slice q m d), .o 5 (oJ .i64 ((i : Int) + 1) ((((i + 1) : Nat) : Int)))]), h18⟩
        refine lw (.bool true) (fun _ => q36e44_neq_f (x := (Operand.tmp 20)) (y := (Operand.tmp 24)) x22.at_ x22.out.1 x22.out.2.1 x22.out.2.2 x22.why x22.ans x27.at_ x27.out.1 x27.out.2.1 x27.out.2.2 x27.why x27.ans (by kernel_rfl) (by kernel_rfl) (by kernel_rfl) (by omega) _) <| go [] <| up <| go [] ?_
        exact en (.bool false) [] ⟨_, _, rfl, ⟨by rw [sat_f2 hx23 hx28 (by omega)], rfl⟩, h18⟩
       refine lw (.bool true) (fun _ => q36e44_neq_f (x := (Operand.tmp 20)) (y := (Operand.tmp 24)) x22.at_ x22.out.1 x22.out.2.1 x22.out.2.2 x22.why x22.ans x27.at_ x27.out.1 x27.out.2.1 x27.out.2.2 x27.why x27.ans (by kernel_rfl) (by kernel_rfl) (by kernel_rfl) (by omega) _) <| go [] <| up <| go [] ?_
       exact en (.bool false) [] ⟨_, _, rfl, ⟨by rw [sat_f2 hx23 hx28 (by omega)], rfl⟩, h18⟩
      refine lw (.bool true) (fun _ => q36e44_neq_f (x := (Operand.tmp 20)) (y := (Operand.tmp 24)) x22.at_ x22.out.1 x22.out.2.1 x22.out.2.2 x22.why x22.ans x27.at_ x27.out.1 x27.out.2.1 x27.out.2.2 x27.why x27.ans (by kernel_rfl) (by kernel_rfl) (by kernel_rfl) (by omega) _) <| go [] <| up <| go [] ?_
      exact en (.bool false) [] ⟨_, _, rfl, ⟨by rw [sat_f2 hx23 hx28 (by omega)], rfl⟩, h18⟩
     refine lw (.bool true) (fun _ => q36e44_neq_f (x := (Operand.tmp 20)) (y := (Operand.tmp 24)) x22.at_ x22.out.1 x22.out.2.1 x22.out.2.2 x22.why x22.ans x27.at_ x27.out.1 x27.out.2.1 x27.out.2.2 x27.why x27.ans (by kernel_rfl) (by kernel_rfl) (by kernel_rfl) (by omega) _) <| go [] <| up <| go [] ?_
     exact en (.bool false) [] ⟨_, _, rfl, ⟨by rw [sat_f2 hx23 hx28 (by omega)], rfl⟩, h18⟩
    refine lw (.bool true) (fun _ => q36e44_neq_f (x := (Operand.tmp 20)) (y := (Operand.tmp 24)) x22.at_ x22.out.1 x22.out.2.1 x22.out.2.2 x22.why x22.ans x27.at_ x27.out.1 x27.out.2.1 x27.out.2.2 x27.why x27.ans (by kernel_rfl) (by kernel_rfl) (by kernel_rfl) (by omega) _) <| go [] <| up <| go [] ?_
    exact en (.bool false) [] ⟨_, _, rfl, ⟨by rw [sat_f2 hx23 hx28 (by omega)], rfl⟩, h18⟩
   refine lw (.bool true) (fun _ => q36e44_neq_f (x := (Operand.tmp 20)) (y := (Operand.tmp 24)) x22.at_ x22.out.1 x22.out.2.1 x22.out.2.2 x22.why x22.ans x27.at_ x27.out.1 x27.out.2.1 x27.out.2.2 x27.why x27.ans (by kernel_rfl) (by kernel_rfl) (by kernel_rfl) (by omega) _) <| go [] <| up <| go [] ?_
   exact en (.bool false) [] ⟨_, _, rfl, ⟨by rw [sat_f2 hx23 hx28 (by omega)], rfl⟩, h18⟩
  refine go [.v 4 3 (oF ((i : Int) < (n : Int)))] <| up <| go [] ?_
  exact en (.bool true) [] ⟨_, _, rfl, ⟨by rw [sat_t2 ht (by omega) (by omega)], rfl⟩, h15⟩
 refine go [.v 1 4 (qnT (n : Int) (m : Int))] ?_
 exact en (.bool false) [] ⟨_, _, rfl, ⟨by rw [sat_n2 (by omega)], rfl⟩, h0⟩

end Go.Proofs.YtggfnbpohmhphaaGreatDoor

/- Walks, printed by my generator o14.py. -/
namespace Go.Proofs.YtggfnbpohmhphaaGreatDoor
theorem q14e32_eql_t {n : Nat} {l : Fr} {o : Oper} {x y : Operand} (a0 : Int) (a1 : Int) (a2 : Int) (c0 : Int) (c1 : Int) (c2 : Int) (ho : o.op = .binOp .eql 32 x y 32) (hx : fe n l x = .agg #[.int .i64 a0, .int .i64 a1, .int .u32 a2]) (hy : fe n l y = .agg #[.int .i64 c0, .int .i64 c1, .int .u32 c2]) (h : a0 = c0 ∧ a1 = c1 ∧ a2 = c2) (w : World) : (execOp (fe n l) o).run Tryz.prog w = .ok (.value (.bool true)) w := by
  obtain ⟨rfl, rfl, rfl⟩ := h
  simp [execOp, ho, hx, hy, go_sem]
theorem q14e32_neq_t {n : Nat} {l : Fr} {o : Oper} {x y : Operand} (a0 : Int) (a1 : Int) (a2 : Int) (c0 : Int) (c1 : Int) (c2 : Int) (ho : o.op = .binOp .neq 32 x y 32) (hx : fe n l x = .agg #[.int .i64 a0, .int .i64 a1, .int .u32 a2]) (hy : fe n l y = .agg #[.int .i64 c0, .int .i64 c1, .int .u32 c2]) (h : a0 = c0 ∧ a1 = c1 ∧ a2 = c2) (w : World) : (execOp (fe n l) o).run Tryz.prog w = .ok (.value (.bool false)) w := by
  obtain ⟨rfl, rfl, rfl⟩ := h
  simp [execOp, ho, hx, hy, go_sem]
set_option maxHeartbeats 4000000 in
theorem lfile_ht (y z : Int) : HT Tryz.prog 47 [iV y, uV z] [] (fun v K => v = .agg #[iV 1, iV y, uV z] ∧ K = []) := by
 refine hiS Tryz.func47 Tryz.ntmps47 fun g w0 R h0 => go [] <| nP 32 [iV 0, iV 0, uV 0] h0 (fun _ _ h12 => ?_)
 refine go [] <| sP [(0, iV 1), (1, iV y), (2, uV z)] [iV 1, iV y, uV z] h12 fun _ h14 => go [] ?_
 exact en (.agg #[iV 1, iV y, uV z]) [rd 0 0 0 0 3 h14] ⟨_, _, rfl, ⟨rfl, rfl⟩, (tk1 (sf1 h14))⟩

set_option maxHeartbeats 4000000 in
theorem works_ht (wo : World) (hg : Lett wo) : HT Tryz.prog 12 [] [Old wo] (fun v K => v = .bool true ∧ K = [Old wo]) := by
 refine hiS Tryz.func12 Tryz.ntmps12 fun g w0 R h0 => go [] <| cP Tryz.call13 (wnew_ht 1 (by omega)) h0 ?_
 rintro v K _ (⟨b10, rfl, rfl⟩) h12
 have h13 := ap1 h12
 refine go [] <| cl2 Tryz.call30 ((by have h_ := wansw_ht wo hg b10 (wnew 1) [108, 111, 111, 102, 111] (by decide); rw [show aswE (wnew 1) [108, 111, 111, 102, 111] = 0 from by kernel_rfl] at h_; exact h_)) h13 fun _ h15 => ?_
 refine go [] <| cl1 Tryz.call28 ((by have h_ := wacq_ht b10 (aswS (wnew 1) [108, 111, 111, 102, 111]) 1 5; rw [show acqO (aswS (wnew 1) [108, 111, 111, 102, 111]) 1 5 = ((0, 0, 0) : Ky) from by kernel_rfl, show acqE (aswS (wnew 1) [108, 111, 111, 102, 111]) 1 5 = 15 from by kernel_rfl] at h_; exact h_)) h15 fun _ h17 => ?_
 refine go [] <| nP 32 [iV 0, iV 0, uV 0] h17 (fun _ _ h20 => ?_)
 refine sP [(0, iV 0), (1, iV 0), (2, uV 0)] [iV 0, iV 0, uV 0] h20 fun _ h22 => ?_
 have h23 := tk4 (sf3 (sf2 (sf3 (sf3 h22))))
 refine go [] <| cl1 Tryz.call28 ((by have h_ := wacq_ht b10 (acqS (aswS (wnew 1) [108, 111, 111, 102, 111]) 1 5) 1 5; rw [show acqO (acqS (aswS (wnew 1) [108, 111, 111, 102, 111]) 1 5) 1 5 = ((1, 0, 1) : Ky) from by kernel_rfl, show acqE (acqS (aswS (wnew 1) [108, 111, 111, 102, 111]) 1 5) 1 5 = 0 from by kernel_rfl] at h_; exact h_)) h23 fun _ h25 => ?_
 refine go [] <| nP 32 [iV 0, iV 0, uV 0] h25 (fun _ _ h28 => ?_)
 refine sP [(0, iV 1), (1, iV 0), (2, uV 1)] [iV 1, iV 0, uV 1] h28 fun _ h30 => ?_
 have h31 := tk5 (sf4 (sf3 (sf4 (sf4 (sf4 h30)))))
 refine go [] <| cl1 Tryz.call28 ((by have h_ := wacq_ht b10 (acqS (acqS (aswS (wnew 1) [108, 111, 111, 102, 111]) 1 5) 1 5) 2 100; rw [show acqO (acqS (acqS (aswS (wnew 1) [108, 111, 111, 102, 111]) 1 5) 1 5) 2 100 = ((2, 0, 1) : Ky) from by kernel_rfl, show acqE (acqS (acqS (aswS (wnew 1) [108, 111, 111, 102, 111]) 1 5) 1 5) 2 100 = 0 from by kernel_rfl] at h_; exact h_)) h31 fun _ h33 => ?_
 refine go [] <| nP 32 [iV 0, iV 0, uV 0] h33 (fun _ _ h36 => ?_)
 refine sP [(0, iV 2), (1, iV 0), (2, uV 1)] [iV 2, iV 0, uV 1] h36 fun _ h38 => go [] <| dw (fls [0, 1, 2, 3, 4, 5, 6, 7] (Tr.an 8 (fls [9, 10, 11, 12, 13, 14, 15, 16, 17, 18, 19, 20, 21] (Tr.an 22 (fls [23, 24] Tr.nil))))) h38 fun _ h40 => go [rd 7 7 2 0 3 h40] <| cw0 Tryz.call47 (lfile_ht 0 1) h40 fun _ h42 => ⟨kd [rd 0 7 2 0 3 h42], ?_⟩
 refine lw (.bool false) (fun _ => q14e32_neq_t (x := (Operand.tmp 54)) (y := (Operand.tmp 55)) 1 0 1 1 0 1 (by kernel_rfl) (by kernel_rfl) (by kernel_rfl) ⟨rfl, rfl, rfl⟩ _) ?_
 have h43 := tk6 (sf5 (sf4 (sf5 (sf5 (sf5 (sf5 h42))))))
 refine go [rd 7 17 0 0 1 h42] <| cw1 Tryz.call29 ((by have h_ := wtick_ht b10 (acqS (acqS (acqS (aswS (wnew 1) [108, 111, 111, 102, 111]) 1 5) 1 5) 2 100) 7; rw [show tckE (acqS (acqS (acqS (aswS (wnew 1) [108, 111, 111, 102, 111]) 1 5) 1 5) 2 100) 7 = 0 from by kernel_rfl] at h_; exact h_)) h43 fun _ h45 => ⟨kd [], ?_⟩
 refine go [rd 9 1 2 0 3 h45] <| cl1 Tryz.call27 ((by have h_ := wrel_ht b10 (tckS (acqS (acqS (acqS (aswS (wnew 1) [108, 111, 111, 102, 111]) 1 5) 1 5) 2 100) 7) 1 0 1 1 (by omega) (by omega); rw [show relA (tckS (acqS (acqS (acqS (aswS (wnew 1) [108, 111, 111, 102, 111]) 1 5) 1 5) 2 100) 7) ((1, 0, 1) : Ky) 1 = 3 from by kernel_rfl, show relE (tckS (acqS (acqS (acqS (aswS (wnew 1) [108, 111, 111, 102, 111]) 1 5) 1 5) 2 100) 7) ((1, 0, 1) : Ky) 1 = 0 from by kernel_rfl] at h_; exact h_)) h45 fun _ h47 => ?_
 refine go [rd 10 1 2 0 3 h47] <| cl1 Tryz.call27 ((by have h_ := wrel_ht b10 (relS (tckS (acqS (acqS (acqS (aswS (wnew 1) [108, 111, 111, 102, 111]) 1 5) 1 5) 2 100) 7) ((1, 0, 1) : Ky) 1) 1 0 1 1 (by omega) (by omega); rw [show relA (relS (tckS (acqS (acqS (acqS (aswS (wnew 1) [108, 111, 111, 102, 111]) 1 5) 1 5) 2 100) 7) ((1, 0, 1) : Ky) 1) ((1, 0, 1) : Ky) 1 = 1 from by kernel_rfl, show relE (relS (tckS (acqS (acqS (acqS (aswS (wnew 1) [108, 111, 111, 102, 111]) 1 5) 1 5) 2 100) 7) ((1, 0, 1) : Ky) 1) ((1, 0, 1) : Ky) 1 = 0 from by kernel_rfl] at h_; exact h_)) h47 fun _ h49 => ?_
 refine go [rd 11 1 2 0 3 h49] <| cl1 Tryz.call27 ((by have h_ := wrel_ht b10 (relS (relS (tckS (acqS (acqS (acqS (aswS (wnew 1) [108, 111, 111, 102, 111]) 1 5) 1 5) 2 100) 7) ((1, 0, 1) : Ky) 1) ((1, 0, 1) : Ky) 1) 1 0 1 1 (by omega) (by omega); rw [show relA (relS (relS (tckS (acqS (acqS (acqS (aswS (wnew 1) [108, 111, 111, 102, 111]) 1 5) 1 5) 2 100) 7) ((1, 0, 1) : Ky) 1) ((1, 0, 1) : Ky) 1) ((1, 0, 1) : Ky) 1 = 0 from by kernel_rfl, show relE (relS (relS (tckS (acqS (acqS (acqS (aswS (wnew 1) [108, 111, 111, 102, 111]) 1 5) 1 5) 2 100) 7) ((1, 0, 1) : Ky) 1) ((1, 0, 1) : Ky) 1) ((1, 0, 1) : Ky) 1 = 5 from by kernel_rfl] at h_; exact h_)) h49 fun _ h51 => ?_
 refine go [] <| cl1 Tryz.call28 ((by have h_ := wacq_ht b10 (relS (relS (relS (tckS (acqS (acqS (acqS (aswS (wnew 1) [108, 111, 111, 102, 111]) 1 5) 1 5) 2 100) 7) ((1, 0, 1) : Ky) 1) ((1, 0, 1) : Ky) 1) ((1, 0, 1) : Ky) 1) 1 5; rw [show acqO (relS (relS (relS (tckS (acqS (acqS (acqS (aswS (wnew 1) [108, 111, 111, 102, 111]) 1 5) 1 5) 2 100) 7) ((1, 0, 1) : Ky) 1) ((1, 0, 1) : Ky) 1) ((1, 0, 1) : Ky) 1) 1 5 = ((1, 0, 2) : Ky) from by kernel_rfl, show acqE (relS (relS (relS (tckS (acqS (acqS (acqS (aswS (wnew 1) [108, 111, 111, 102, 111]) 1 5) 1 5) 2 100) 7) ((1, 0, 1) : Ky) 1) ((1, 0, 1) : Ky) 1) ((1, 0, 1) : Ky) 1) 1 5 = 0 from by kernel_rfl] at h_; exact h_)) h51 fun _ h53 => ?_
 refine go [] <| nP 32 [iV 0, iV 0, uV 0] h53 (fun _ _ h56 => ?_)
 refine sP [(0, iV 1), (1, iV 0), (2, uV 2)] [iV 1, iV 0, uV 2] h56 fun _ h58 => go [] <| dw (fls [0, 1, 2, 3, 4, 5, 6, 7, 8, 9, 10, 11, 12, 13, 14, 15, 16, 17, 18, 19, 20, 21, 22, 23] (Tr.an 24 (fls [25, 26, 27, 28] (Tr.an 29 (Tr.an 30 (fls [31, 32, 33, 34] (Tr.an 35 (fls [36, 37, 38] Tr.nil)))))))) h58 fun _ h60 => go [rd 13 23 0 0 3 h60] <| cw0 Tryz.call47 (lfile_ht 0 2) h60 fun _ h62 => ⟨kd [rd 0 23 0 0 3 h62], ?_⟩
 refine lw (.bool true) (fun _ => q14e32_eql_t (x := (Operand.tmp 118)) (y := (Operand.tmp 119)) 1 0 2 1 0 2 (by kernel_rfl) (by kernel_rfl) (by kernel_rfl) ⟨rfl, rfl, rfl⟩ _) ?_
 have h64 := tk7 (sf6 (sf5 (sf6 (sf6 (sf6 (sf6 (sf6 h62)))))))
 refine go [] <| cG Tryz.call17 (wledg_ht b10 (acqS (relS (relS (relS (tckS (acqS (acqS (acqS (aswS (wnew 1) [108, 111, 111, 102, 111]) 1 5) 1 5) 2 100) 7) ((1, 0, 1) : Ky) 1) ((1, 0, 1) : Ky) 1) ((1, 0, 1) : Ky) 1) 1 5)) h64 ?_
 rintro v K _ (⟨b63, rfl, rfl⟩) h66
 have h67 := ap2 h66
 refine ⟨kd [], ?_⟩
 refine cw1 Tryz.call23 ((by have h_ := lglen_ht b63 ((acqS (relS (relS (relS (tckS (acqS (acqS (acqS (aswS (wnew 1) [108, 111, 111, 102, 111]) 1 5) 1 5) 2 100) 7) ((1, 0, 1) : Ky) 1) ((1, 0, 1) : Ky) 1) ((1, 0, 1) : Ky) 1) 1 5).T); rw [show List.length ((acqS (relS (relS (relS (tckS (acqS (acqS (acqS (aswS (wnew 1) [108, 111, 111, 102, 111]) 1 5) 1 5) 2 100) 7) ((1, 0, 1) : Ky) 1) ((1, 0, 1) : Ky) 1) ((1, 0, 1) : Ky) 1) 1 5).T) = 2 from by kernel_rfl] at h_; exact h_)) (tk8 (sf7 (sf6 (sf7 (sf7 (sf7 (sf7 (sf7 (sf7 h67))))))))) fun _ h70 => ⟨kd [], ?_⟩
 have h71 := tk8 (sf7 (sf6 (sf7 (sf7 (sf7 (sf7 (sf7 (sf7 h70))))))))
 refine go [] <| cw1 Tryz.call20 ((by have h_ := wnow_ht b10 (acqS (relS (relS (relS (tckS (acqS (acqS (acqS (aswS (wnew 1) [108, 111, 111, 102, 111]) 1 5) 1 5) 2 100) 7) ((1, 0, 1) : Ky) 1) ((1, 0, 1) : Ky) 1) ((1, 0, 1) : Ky) 1) 1 5); rw [show Wst.now (acqS (relS (relS (relS (tckS (acqS (acqS (acqS (aswS (wnew 1) [108, 111, 111, 102, 111]) 1 5) 1 5) 2 100) 7) ((1, 0, 1) : Ky) 1) ((1, 0, 1) : Ky) 1) ((1, 0, 1) : Ky) 1) 1 5) = 7 from by kernel_rfl] at h_; exact h_)) h71 fun _ h73 => ⟨kd [], ?_⟩
 refine go [] ?_
 exact en (.bool true) [] ⟨_, _, rfl, ⟨rfl, rfl⟩, (tk2 (sf1 (sf7 (tk8 (sf7 (sf6 (sf6 (sf6 (sf6 (sf6 (sf6 (sf7 h73))))))))))))⟩

end Go.Proofs.YtggfnbpohmhphaaGreatDoor

/- Walks, printed by my generator o15.py. -/
namespace Go.Proofs.YtggfnbpohmhphaaGreatDoor
set_option maxHeartbeats 4000000 in
theorem short_ht (p : Option Addr) (n c : Nat) (L : List Sq) (X : Assn) (hX : Gv X p n (fl eSq L)) (hL : L.length = n) (hn : n ≤ 1099511627776) (m : Int) : HT Tryz.prog 11 [.slice p n c, iV m] [X] (fun v K => v = .bool (decide (Sho L m)) ∧ K = [X]) := by
 refine hiS Tryz.func11 Tryz.ntmps11 fun g w0 R h0 => go [.s 1 3] ?_
 by_cases c10 : (n : Int) > m
 ·
  refine go [.v 1 3 (oT ((n : Int) > m))] ?_
  exact en (.bool false) [] ⟨_, _, rfl, ⟨by rw [sho_no (by omega)], rfl⟩, h0⟩
 refine go [.v 1 3 (oF ((n : Int) > m))] ?_
 refine lpS (fun mz_ a w => ∃ i : Nat, ∃ lr : Fr, mz_ = n - i ∧ (i ≤ n) ∧ (∀ s ∈ L.take i, s.tx.length ≤ 40) ∧ a = mk 23 (([(0, .slice p n c), (5, iV (i : Int))] : Fr) ++ lr) ∧ sat g w [X, R]) (n - 0) ⟨0, _, rfl, (Nat.zero_le _), (fun _ hb_ => nomatch hb_), (lvF [.k 0 (.slice p n c), .o 5 (oJ .i64 0 (0 : Int))]), h0⟩ ?_
 rintro m12 a13 w14 ⟨i, lr11, rfl, hi, hs_, rfl, h15⟩
 refine ga <| go [.s 4 3] ?_
 by_cases c16 : (i : Int) < (n : Int)
 ·
  obtain ⟨b17, off19, hp18⟩ := gv_ptr (j := 0) h15 rfl hX (by omega)
  refine go [.v 4 3 (oT ((i : Int) < (n : Int))), .s 6 2] <| lwP (.pointer (some ⟨b17, off19 + i * 9, none⟩)) (law_indexSlP (x := (Operand.tmp 16)) (i := (Operand.tmp 17)) (p := p) (b := b17) (off := off19) (z := (i : Int)) (len := n) (cap := c) (by kernel_rfl) Tryz.underlying22 9 (by kernel_rfl) i (by kernel_rfl) hp18 (by kernel_rfl) (by omega) (by omega) (off19 + i * 9) (by omega) _) ?_
  obtain ⟨x20, hx21⟩ : ∃ x, L[i]? = some x := ⟨_, List.getElem?_eq_getElem (by rw [hL]; omega)⟩
  refine go [.r 6 4 b17 (off19 + i * 9 + 8) [.string (St x20.tx)] ⟨gv_cell (j := 0) h15 rfl hX hp18 (fl_get eSq_ok (j := 8) (v := .string (St x20.tx)) hx21 rfl) (off19 + i * 9 + 8) (by omega), trivial⟩, .v 6 5 (⟨iV ((St x20.tx).size : Int), iV (((x20.tx.length : Nat) : Int)), (ov_int (st_len _))⟩), .s 6 6] ?_
  by_cases c22 : ((x20.tx.length : Nat) : Int) > 40
  ·
   refine go [.v 6 6 (oT (((x20.tx.length : Nat) : Int) > 40))] <| up <| go [] ?_
   exact en (.bool false) [] ⟨_, _, rfl, ⟨by rw [sho_long hx21 (by omega)], rfl⟩, h15⟩
  refine go [.v 6 6 (oF (((x20.tx.length : Nat) : Int) > 40)), .v 5 1 (oIr ((i : Int) + 1))] ?_
  refine enL ?_
  change ∃ n', n' < _ ∧ _
  refine ⟨(n - (i + 1)), by omega, (i + 1), _, rfl, (by omega), (tk_all2 hs_ hx21 (by omega)), (lvF [.k 0 (.slice p n c), .o 5 (oJ .i64 ((i : Int) + 1) ((((i + 1) : Nat) : Int)))]), h15⟩
 refine go [.v 4 3 (oF ((i : Int) < (n : Int)))] <| up <| go [] ?_
 exact en (.bool true) [] ⟨_, _, rfl, ⟨by rw [sho_yes (by omega) hs_ (by omega)], rfl⟩, h15⟩

set_option maxHeartbeats 4000000 in
theorem short_no (p : Option Addr) (n c : Nat) (m : Int) (hm : m < (n : Int)) : HT Tryz.prog 11 [.slice p n c, iV m] [] (fun v K => v = .bool false ∧ K = []) := by
 refine hiS Tryz.func11 Tryz.ntmps11 fun g w0 R h0 => go [.v 1 3 (oT ((n : Int) > m))] ?_
 exact en (.bool false) [] ⟨_, _, rfl, ⟨rfl, rfl⟩, h0⟩

end Go.Proofs.YtggfnbpohmhphaaGreatDoor

/- Walks, printed by my generator o16.py. -/
namespace Go.Proofs.YtggfnbpohmhphaaGreatDoor
end Go.Proofs.YtggfnbpohmhphaaGreatDoor
