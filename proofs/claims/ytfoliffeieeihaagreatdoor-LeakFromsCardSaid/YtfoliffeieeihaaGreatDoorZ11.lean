/- Walks, printed by my generator z11.py. -/
import Derived.Test.YtfoliffeieeihaaGreatDoorBundle45
import Derived.Test.YtfoliffeieeihaaGreatDoorBundle47
import Derived.Test.YtfoliffeieeihaaGreatDoorLzQ
namespace Go.Proofs.YtfoliffeieeihaaGreatDoor
set_option maxHeartbeats 4000000 in
theorem froms_law (wo : World) (hg : Ld Tryz.prog 0 wo) (p1 : Option Addr) (n1 c1 : Nat) (Os : List Ky) (hr1 : Rd wo p1 n1 (fl eO Os)) (hL1 : Os.length = n1) (p2 : Option Addr) (n2 c2 : Nat) (Ts : List (List UInt8)) (hr2 : Rd wo p2 n2 (fl eW Ts)) (hL2 : Ts.length = n2) (p3 : Option Addr) (n3 c3 : Nat) (As : List At) (hr3 : Rd wo p3 n3 (fl eAt As)) (hL3 : As.length = n3) (hO : ∀ o ∈ Os, KyOk2 o) (hA : ∀ a ∈ As, AtOk2 a) : HT Tryz.prog 4 [.slice p1 n1 c1, .slice p2 n2 c2, .slice p3 n3 c3] [Old wo] (fun v K => v = .bool true ∧ K = [Old wo]) := by
 refine hiS Tryz.func4 Tryz.ntmps4 fun g w0 R h0 => go [.s 1 2] ?_
 by_cases c10 : (n1 : Int) > 60
 ·
  refine go [.v 1 2 (oT ((n1 : Int) > 60)), .s 1 6] ?_
  by_cases c11 : (n1 : Int) ≤ 2000
  ·
   refine go [.v 1 6 (oT ((n1 : Int) ≤ 2000))] <| cl1 Tryz.call6 (works_ht wo hg) h0 fun _ h13 => go [] ?_
   exact en (.bool true) [] ⟨_, _, rfl, ⟨rfl, rfl⟩, h13⟩
  refine go [.v 1 6 (oF ((n1 : Int) ≤ 2000)), .s 1 11] ?_
  by_cases c14 : (n1 : Int) > 2005
  ·
   refine go [.v 1 11 (oT ((n1 : Int) > 2005))] <| cl1 Tryz.call6 (works_ht wo hg) h0 fun _ h16 => go [] ?_
   exact en (.bool true) [] ⟨_, _, rfl, ⟨rfl, rfl⟩, h16⟩
  refine go [.v 1 11 (oF ((n1 : Int) > 2005)), .s 1 16] ?_
  by_cases c17 : (n2 : Int) > 2005
  ·
   refine go [.v 1 16 (oT ((n2 : Int) > 2005))] <| cl1 Tryz.call6 (works_ht wo hg) h0 fun _ h19 => go [] ?_
   exact en (.bool true) [] ⟨_, _, rfl, ⟨rfl, rfl⟩, h19⟩
  refine go [.v 1 16 (oF ((n2 : Int) > 2005)), .s 1 21] ?_
  by_cases c20 : (n3 : Int) > 60
  ·
   refine go [.v 1 21 (oT ((n3 : Int) > 60))] <| cl1 Tryz.call6 (works_ht wo hg) h0 fun _ h22 => go [] ?_
   exact en (.bool true) [] ⟨_, _, rfl, ⟨rfl, rfl⟩, h22⟩
  refine go [.v 1 21 (oF ((n3 : Int) > 60))] ?_
  refine lpS (fun mz_ a w => ∃ i : Nat, ∃ lr : Fr, mz_ = n2 - i ∧ (i ≤ n2) ∧ (∀ (j : Nat) (y : List UInt8), j < i → Ts[j]? = some y → y.length ≤ 100) ∧ a = mk 74 (([(0, .slice p1 n1 c1), (1, .slice p2 n2 c2), (2, .slice p3 n3 c3), (7, iV (i : Int))] : Fr) ++ lr) ∧ sat g w [Old wo, R]) (n2 - 0) ⟨0, _, rfl, (Nat.zero_le _), (fun _ _ h_ => absurd h_ (Nat.not_lt_zero _)), (lvF [.k 0 (.slice p1 n1 c1), .k 1 (.slice p2 n2 c2), .k 2 (.slice p3 n3 c3), .o 7 (oJ .i64 0 (0 : Int))]), h0⟩ ?_
  rintro m24 a25 w26 ⟨i, lr23, rfl, hi_, hu_, rfl, h27⟩
  refine ga <| go [.s 4 3] ?_
  by_cases c28 : (i : Int) < (n2 : Int)
  ·
   obtain ⟨b29, off31, hp30⟩ := gv_ptr (j := 0) h27 rfl (gv_old hr2) (by omega)
   refine go [.v 4 3 (oT ((i : Int) < (n2 : Int))), .s 6 2] <| lwP (.pointer (some ⟨b29, off31 + i, none⟩)) (law_indexSlP (x := (Operand.tmp 42)) (i := (Operand.tmp 43)) (p := p2) (b := b29) (off := off31) (z := (i : Int)) (len := n2) (cap := c2) (by kernel_rfl) Tryz.underlying49 1 (by kernel_rfl) i (by kernel_rfl) hp30 (by kernel_rfl) (by omega) (by omega) (off31 + i) (by omega) _) ?_
   obtain ⟨x32, hx33⟩ : ∃ x, Ts[i]? = some x := ⟨_, List.getElem?_eq_getElem (by rw [hL2]; omega)⟩
   refine go [.r 6 3 b29 (off31 + i) [.string (St x32)] ⟨gv_cell (j := 0) h27 rfl (gv_old hr2) hp30 (fl_get eW_ok (j := 0) (v := .string (St x32)) hx33 rfl) (off31 + i) (by omega), trivial⟩, .v 6 4 (⟨iV ((St x32).size : Int), iV (((x32.length : Nat) : Int)), (ov_int (st_len _))⟩), .s 6 5] ?_
   by_cases c34 : ((x32.length : Nat) : Int) > 100
   ·
    refine go [.v 6 5 (oT (((x32.length : Nat) : Int) > 100))] <| cl1 Tryz.call6 (works_ht wo hg) h27 fun _ h36 => go [] <| up <| go [] ?_
    exact en (.bool true) [] ⟨_, _, rfl, ⟨rfl, rfl⟩, h36⟩
   refine go [.v 6 5 (oF (((x32.length : Nat) : Int) > 100)), .v 5 1 (oIr ((i : Int) + 1))] ?_
   refine enL ?_
   change ∃ n', n' < _ ∧ _
   refine ⟨(n2 - (i + 1)), by omega, (i + 1), _, rfl, (by omega), (up_step (P := fun y : List UInt8 => y.length ≤ 100) hu_ hx33 (by omega)), (lvF [.k 0 (.slice p1 n1 c1), .k 1 (.slice p2 n2 c2), .k 2 (.slice p3 n3 c3), .o 7 (oJ .i64 ((i : Int) + 1) ((((i + 1) : Nat) : Int)))]), h27⟩
  refine go [.v 4 3 (oF ((i : Int) < (n2 : Int)))] <| up <| go [] <| cP Tryz.call27 (from_ht (Old wo) p1 n1 c1 Os (gv_old hr1) hL1 p2 n2 c2 Ts (gv_old hr2) hL2 p3 n3 c3 As (gv_old hr3) hL3 hO (fun t_ ht_ => Nat.le_trans (up_all (P := fun y : List UInt8 => y.length ≤ 100) hu_ hL2 (by omega) t_ ht_) (by decide)) hA (by omega) (by omega)) h27 ?_
  rintro v K _ (⟨p37, cap38, hl39, rfl, rfl⟩) h41
  have h42 := ap2 h41
  obtain ⟨hn43, hn44⟩ := sl_le h42
  have h48 := tk3 (sf2 (sf1 (sf2 h42)))
  refine go [] <| cP Tryz.call28 (dfrom_ht (Old wo) p1 n1 c1 Os (gv_old hr1) hL1 p2 n2 c2 Ts (gv_old hr2) hL2 p3 n3 c3 As (gv_old hr3) hL3 hO (fun t_ ht_ => Nat.le_trans (up_all (P := fun y : List UInt8 => y.length ≤ 100) hu_ hL2 (by omega) t_ ht_) (by decide)) hA (by omega) (by omega)) h48 ?_
  rintro v K _ (⟨p45, cap46, hl47, rfl, rfl⟩) h50
  have h51 := ap2 h50
  obtain ⟨hn52, hn53⟩ := sl_le h51
  have h54 := tk4 (sf3 (sf2 (sf2 (sf3 h51))))
  refine go [] <| cl2 Tryz.call15 (lsame_ht p37 p45 cap38 cap46 (frL Os Ts As) (by omega)) h54 fun _ h56 => ?_
  have h57 := tk4 (sf3 (sf2 (sf2 (sf3 h56))))
  refine go [.v 10 6 (qeT ((frE Os Ts As)) ((frE Os Ts As)))] <| cl1 Tryz.call6 (works_ht wo hg) h57 fun _ h59 => go [] ?_
  exact en (.bool true) [] ⟨_, _, rfl, ⟨rfl, rfl⟩, (tk2 (sf1 (sf3 h59)))⟩
 refine go [.v 1 2 (oF ((n1 : Int) > 60)), .v 1 11 (oF ((n1 : Int) > 2005)), .s 1 16] ?_
 by_cases c61 : (n2 : Int) > 2005
 ·
  refine go [.v 1 16 (oT ((n2 : Int) > 2005))] <| cl1 Tryz.call6 (works_ht wo hg) h0 fun _ h63 => go [] ?_
  exact en (.bool true) [] ⟨_, _, rfl, ⟨rfl, rfl⟩, h63⟩
 refine go [.v 1 16 (oF ((n2 : Int) > 2005)), .s 1 21] ?_
 by_cases c64 : (n3 : Int) > 60
 ·
  refine go [.v 1 21 (oT ((n3 : Int) > 60))] <| cl1 Tryz.call6 (works_ht wo hg) h0 fun _ h66 => go [] ?_
  exact en (.bool true) [] ⟨_, _, rfl, ⟨rfl, rfl⟩, h66⟩
 refine go [.v 1 21 (oF ((n3 : Int) > 60))] ?_
 refine lpS (fun mz_ a w => ∃ i : Nat, ∃ lr : Fr, mz_ = n2 - i ∧ (i ≤ n2) ∧ (∀ (j : Nat) (y : List UInt8), j < i → Ts[j]? = some y → y.length ≤ 100) ∧ a = mk 74 (([(0, .slice p1 n1 c1), (1, .slice p2 n2 c2), (2, .slice p3 n3 c3), (7, iV (i : Int))] : Fr) ++ lr) ∧ sat g w [Old wo, R]) (n2 - 0) ⟨0, _, rfl, (Nat.zero_le _), (fun _ _ h_ => absurd h_ (Nat.not_lt_zero _)), (lvF [.k 0 (.slice p1 n1 c1), .k 1 (.slice p2 n2 c2), .k 2 (.slice p3 n3 c3), .o 7 (oJ .i64 0 (0 : Int))]), h0⟩ ?_
 rintro m68 a69 w70 ⟨i, lr67, rfl, hi_, hu_, rfl, h71⟩
 refine ga <| go [.s 4 3] ?_
 by_cases c72 : (i : Int) < (n2 : Int)
 ·
  obtain ⟨b73, off75, hp74⟩ := gv_ptr (j := 0) h71 rfl (gv_old hr2) (by omega)
  refine go [.v 4 3 (oT ((i : Int) < (n2 : Int))), .s 6 2] <| lwP (.pointer (some ⟨b73, off75 + i, none⟩)) (law_indexSlP (x := (Operand.tmp 42)) (i := (Operand.tmp 43)) (p := p2) (b := b73) (off := off75) (z := (i : Int)) (len := n2) (cap := c2) (by kernel_rfl) Tryz.underlying49 1 (by kernel_rfl) i (by kernel_rfl) hp74 (by kernel_rfl) (by omega) (by omega) (off75 + i) (by omega) _) ?_
  obtain ⟨x76, hx77⟩ : ∃ x, Ts[i]? = some x := ⟨_, List.getElem?_eq_getElem (by rw [hL2]; omega)⟩
  refine go [.r 6 3 b73 (off75 + i) [.string (St x76)] ⟨gv_cell (j := 0) h71 rfl (gv_old hr2) hp74 (fl_get eW_ok (j := 0) (v := .string (St x76)) hx77 rfl) (off75 + i) (by omega), trivial⟩, .v 6 4 (⟨iV ((St x76).size : Int), iV (((x76.length : Nat) : Int)), (ov_int (st_len _))⟩), .s 6 5] ?_
  by_cases c78 : ((x76.length : Nat) : Int) > 100
  ·
   refine go [.v 6 5 (oT (((x76.length : Nat) : Int) > 100))] <| cl1 Tryz.call6 (works_ht wo hg) h71 fun _ h80 => go [] <| up <| go [] ?_
   exact en (.bool true) [] ⟨_, _, rfl, ⟨rfl, rfl⟩, h80⟩
  refine go [.v 6 5 (oF (((x76.length : Nat) : Int) > 100)), .v 5 1 (oIr ((i : Int) + 1))] ?_
  refine enL ?_
  change ∃ n', n' < _ ∧ _
  refine ⟨(n2 - (i + 1)), by omega, (i + 1), _, rfl, (by omega), (up_step (P := fun y : List UInt8 => y.length ≤ 100) hu_ hx77 (by omega)), (lvF [.k 0 (.slice p1 n1 c1), .k 1 (.slice p2 n2 c2), .k 2 (.slice p3 n3 c3), .o 7 (oJ .i64 ((i : Int) + 1) ((((i + 1) : Nat) : Int)))]), h71⟩
 refine go [.v 4 3 (oF ((i : Int) < (n2 : Int)))] <| up <| go [] <| cP Tryz.call27 (from_ht (Old wo) p1 n1 c1 Os (gv_old hr1) hL1 p2 n2 c2 Ts (gv_old hr2) hL2 p3 n3 c3 As (gv_old hr3) hL3 hO (fun t_ ht_ => Nat.le_trans (up_all (P := fun y : List UInt8 => y.length ≤ 100) hu_ hL2 (by omega) t_ ht_) (by decide)) hA (by omega) (by omega)) h71 ?_
 rintro v K _ (⟨p81, cap82, hl83, rfl, rfl⟩) h85
 have h86 := ap2 h85
 obtain ⟨hn87, hn88⟩ := sl_le h86
 have h92 := tk3 (sf2 (sf1 (sf2 h86)))
 refine go [] <| cP Tryz.call28 (dfrom_ht (Old wo) p1 n1 c1 Os (gv_old hr1) hL1 p2 n2 c2 Ts (gv_old hr2) hL2 p3 n3 c3 As (gv_old hr3) hL3 hO (fun t_ ht_ => Nat.le_trans (up_all (P := fun y : List UInt8 => y.length ≤ 100) hu_ hL2 (by omega) t_ ht_) (by decide)) hA (by omega) (by omega)) h92 ?_
 rintro v K _ (⟨p89, cap90, hl91, rfl, rfl⟩) h94
 have h95 := ap2 h94
 obtain ⟨hn96, hn97⟩ := sl_le h95
 have h98 := tk4 (sf3 (sf2 (sf2 (sf3 h95))))
 refine go [] <| cl2 Tryz.call15 (lsame_ht p81 p89 cap82 cap90 (frL Os Ts As) (by omega)) h98 fun _ h100 => ?_
 have h101 := tk4 (sf3 (sf2 (sf2 (sf3 h100))))
 refine go [.v 10 6 (qeT ((frE Os Ts As)) ((frE Os Ts As)))] <| cl1 Tryz.call6 (works_ht wo hg) h101 fun _ h103 => go [] ?_
 exact en (.bool true) [] ⟨_, _, rfl, ⟨rfl, rfl⟩, (tk2 (sf1 (sf3 h103)))⟩

end Go.Proofs.YtfoliffeieeihaaGreatDoor
