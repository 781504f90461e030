/- Walks, printed by my generator l0.py. -/
import Derived.Test.YtfoliffeieeihaaGreatDoorProg
import Derived.Test.YtfoliffeieeihaaGreatDoorBundle18
import Derived.Test.YtfoliffeieeihaaGreatDoorMky
import Derived.Test.YtfoliffeieeihaaGreatDoorRn2
import Derived.Test.YtfoliffeieeihaaGreatDoorFdsP
import Derived.Test.YtfoliffeieeihaaGreatDoorBundle16
namespace Go.Proofs.YtfoliffeieeihaaGreatDoor
theorem keyok : KeyOk Tryz.prog 31 := by
  have hu : Tryz.prog.underlying 31 = some _ := Tryz.underlying31
  refine ⟨fun a b w => ?_, fun a e w => ?_, ⟨_, Tryz.underlying31⟩⟩
  · obtain ⟨a0, a1, a2⟩ := a
    obtain ⟨c0, c1, c2⟩ := b
    show (Op.equalIn 10000 31 (.agg #[.int .i64 a0, .int .i64 a1, .int .u32 a2]) (.agg #[.int .i64 c0, .int .i64 c1, .int .u32 c2])).run Tryz.prog w = .ok (decide ((a0, a1, a2) = (c0, c1, c2))) w
    by_cases h0 : a0 = c0
    · by_cases h1 : a1 = c1
      · by_cases h2 : a2 = c2
        · subst h0; subst h1; subst h2; simp [go_sem]
        · subst h0; subst h1; simp [go_sem, h2]
      · subst h0; simp [go_sem, h1]
    · simp [go_sem, h0]
  · have h : ∀ d : Nat, (Instr.checkKey e (d + 1 + 1) 31 (kv a)).run Tryz.prog w = .ok () w := fun d => by
      simp [kv, Instr.checkKey, go_sem]
    exact h 9998
theorem kyO : KyOk Tryz.prog 31 kv := kyOf keyok
/-- A report. -/
def Rpt (b : Nat) (S : Rp) : Assn := fun h => ∃ x : Nat × Km, (Rm x.2 S ∧ Rw S) ∧ star [Cl b [.int .i64 (S.A.length : Int), .map (some x.1)] 64, Gp kv vKn x.1 x.2] h
section
variable {g w : World} {L : List Assn} {b m : Nat} {S : Rp} {E : Km} {z : Int}
theorem rp_open (h : sat g w (Rpt b S :: L)) : ∃ m E, (Rm E S ∧ Rw S) ∧ sat g w (Cl b [.int .i64 (S.A.length : Int), .map (some m)] 64 :: Gp kv vKn m E :: L) := by
  obtain ⟨⟨m, E⟩, h1, h2⟩ := sat_open (X := Nat × Km) (p := fun x => Rm x.2 S ∧ Rw S) (B := fun x => star [Cl b [.int .i64 (S.A.length : Int), .map (some x.1)] 64, Gp kv vKn x.1 x.2]) h (fun k hk => hk)
  exact ⟨m, E, h1, sat_unstar h2⟩
theorem rp_close (h1 : Rm E S) (h2 : Rw S) (hz : z = (S.A.length : Int)) (h : sat g w (Cl b [.int .i64 z, .map (some m)] 64 :: Gp kv vKn m E :: L)) : sat g w (Rpt b S :: L) := by
  subst hz
  exact sat_imp (sat_star (K := [Cl b [.int .i64 (S.A.length : Int), .map (some m)] 64, Gp kv vKn m E]) h) fun k hk => ⟨(m, E), ⟨h1, h2⟩, hk⟩
theorem rp_w {j : Nat} (h : sat g w L) (hj : L[j]? = some (Rpt b S)) : Rw S := sat_use h hj fun _ ha _ => by
  obtain ⟨x, hp, _⟩ := ha
  exact hp.2
end
end Go.Proofs.YtfoliffeieeihaaGreatDoor

/- Walks, printed by my generator ../fds/gen1.py. -/
namespace Go.Proofs.YtfoliffeieeihaaGreatDoor
set_option maxHeartbeats 4000000 in
theorem gcheck_ok (gn : Int) (hg1 : 1 ≤ gn) (hg : gn ≤ 4294967295) : HT Tryz.prog 70 [uV gn] [] (fun v K => v = iV 0 ∧ K = []) := by
 refine hiS Tryz.func70 Tryz.ntmps70 fun g w0 R h0 => go [.v 1 1 (oF (gn < 1)), .v 1 4 (oF (gn > 4294967295))] ?_
 exact en (iV 0) [] ⟨_, _, rfl, ⟨rfl, rfl⟩, h0⟩

set_option maxHeartbeats 4000000 in
theorem gcheck_no (gn : Int) (hg0 : gn ≤ 0) : HT Tryz.prog 70 [uV gn] [] (fun v K => v = iV 2 ∧ K = []) := by
 refine hiS Tryz.func70 Tryz.ntmps70 fun g w0 R h0 => go [.v 1 1 (oT (gn < 1))] ?_
 exact en (iV 2) [] ⟨_, _, rfl, ⟨rfl, rfl⟩, h0⟩

set_option maxHeartbeats 4000000 in
theorem ofouter_ht (x y z : Int) (hz0 : 0 ≤ z) (hz1 : z ≤ 4294967295) : HT Tryz.prog 53 [.agg #[iV x, iV y, uV z]] [] (fun v K => v = .agg #[iV x, iV y, iV z] ∧ K = []) := by
 refine hiS Tryz.func53 Tryz.ntmps53 fun g w0 R h0 => go [] <| nP 31 [iV x, iV y, uV z] h0 (fun _ _ h12 => ?_)
 refine nP 89 [iV 0, iV 0, iV 0] h12 (fun _ _ h15 => ?_)
 refine go [rd 1 1 1 0 1 h15, rd 1 3 1 1 1 h15, rd 1 5 1 2 1 h15, .v 1 6 (oIr z)] <| sP [(0, iV x), (1, iV y), (2, iV z)] [iV x, iV y, iV z] h15 fun _ h17 => go [] ?_
 exact en (.agg #[iV x, iV y, iV z]) [rd 0 0 0 0 3 h17] ⟨_, _, rfl, ⟨rfl, rfl⟩, (tk1 (sf2 h17))⟩

set_option maxHeartbeats 4000000 in
theorem dcheck_ok (x y z : Int) (hz0 : 0 ≤ z) (hz1 : z ≤ 4294967295) (ho : 1 ≤ x ∧ x ≤ 3 ∧ 0 ≤ y ∧ y ≤ 63 ∧ 1 ≤ z) : HT Tryz.prog 54 [.agg #[iV x, iV y, iV z], iV 64] [] (fun v K => v = iV 0 ∧ K = []) := by
 refine hiS Tryz.func54 Tryz.ntmps54 fun g w0 R h0 => go [] <| nP 89 [iV x, iV y, iV z] h0 (fun r10 _ h12 => ?_)
 refine go [.s 1 0] <| lwP (pV r10) (law_indexArr (x := (Operand.tmp 2)) (i := (Operand.const (iV 0))) (b := r10) (off := 0) (z := 0) (by kernel_rfl) Tryz.underlying89 1 (by kernel_rfl) 0 (by kernel_rfl) (by kernel_rfl) (by omega) (by omega) 0 (by omega) _) <| go [rd 1 1 0 0 1 h12, .v 1 2 (oF (x < 1)), .s 1 4] <| lwP (pV r10) (law_indexArr (x := (Operand.tmp 2)) (i := (Operand.const (iV 0))) (b := r10) (off := 0) (z := 0) (by kernel_rfl) Tryz.underlying89 1 (by kernel_rfl) 0 (by kernel_rfl) (by kernel_rfl) (by omega) (by omega) 0 (by omega) _) <| go [rd 1 5 0 0 1 h12, .v 1 6 (oF (x > 3)), .s 1 9] <| lwP (.pointer (some ⟨r10, 1, none⟩)) (law_indexArr (x := (Operand.tmp 2)) (i := (Operand.const (iV 1))) (b := r10) (off := 0) (z := 1) (by kernel_rfl) Tryz.underlying89 1 (by kernel_rfl) 1 (by kernel_rfl) (by kernel_rfl) (by omega) (by omega) 1 (by omega) _) <| go [rd 1 10 0 1 1 h12, .v 1 11 (oF (y < 0)), .s 1 14] <| lwP (.pointer (some ⟨r10, 1, none⟩)) (law_indexArr (x := (Operand.tmp 2)) (i := (Operand.const (iV 1))) (b := r10) (off := 0) (z := 1) (by kernel_rfl) Tryz.underlying89 1 (by kernel_rfl) 1 (by kernel_rfl) (by kernel_rfl) (by omega) (by omega) 1 (by omega) _) <| go [rd 1 15 0 1 1 h12, .v 1 17 (oF (y ≥ 64)), .s 3 0] <| lwP (.pointer (some ⟨r10, 2, none⟩)) (law_indexArr (x := (Operand.tmp 2)) (i := (Operand.const (iV 2))) (b := r10) (off := 0) (z := 2) (by kernel_rfl) Tryz.underlying89 1 (by kernel_rfl) 2 (by kernel_rfl) (by kernel_rfl) (by omega) (by omega) 2 (by omega) _) <| go [rd 3 1 0 2 1 h12, .v 3 2 (oUr z)] <| cl0 Tryz.call70 (gcheck_ok z (by omega) (by omega)) h12 fun _ h14 => go [] ?_
 exact en (iV 0) [] ⟨_, _, rfl, ⟨rfl, rfl⟩, (tk1 (sf1 h14))⟩

set_option maxHeartbeats 4000000 in
theorem dcheck_no (x y z : Int) (hz0 : 0 ≤ z) (hz1 : z ≤ 4294967295) (ho : ¬ (1 ≤ x ∧ x ≤ 3 ∧ 0 ≤ y ∧ y ≤ 63 ∧ 1 ≤ z)) : HT Tryz.prog 54 [.agg #[iV x, iV y, iV z], iV 64] [] (fun v K => v = iV 2 ∧ K = []) := by
 refine hiS Tryz.func54 Tryz.ntmps54 fun g w0 R h0 => go [] <| nP 89 [iV x, iV y, iV z] h0 (fun r10 _ h12 => ?_)
 refine go [.s 1 0] <| lwP (pV r10) (law_indexArr (x := (Operand.tmp 2)) (i := (Operand.const (iV 0))) (b := r10) (off := 0) (z := 0) (by kernel_rfl) Tryz.underlying89 1 (by kernel_rfl) 0 (by kernel_rfl) (by kernel_rfl) (by omega) (by omega) 0 (by omega) _) <| go [rd 1 1 0 0 1 h12, .s 1 2] ?_
 by_cases c13 : x < 1
 ·
  refine go [.v 1 2 (oT (x < 1))] ?_
  exact en (iV 2) [] ⟨_, _, rfl, ⟨rfl, rfl⟩, (tk1 (sf1 h12))⟩
 refine go [.v 1 2 (oF (x < 1)), .s 1 4] <| lwP (pV r10) (law_indexArr (x := (Operand.tmp 2)) (i := (Operand.const (iV 0))) (b := r10) (off := 0) (z := 0) (by kernel_rfl) Tryz.underlying89 1 (by kernel_rfl) 0 (by kernel_rfl) (by kernel_rfl) (by omega) (by omega) 0 (by omega) _) <| go [rd 1 5 0 0 1 h12, .s 1 6] ?_
 by_cases c15 : x > 3
 ·
  refine go [.v 1 6 (oT (x > 3))] ?_
  exact en (iV 2) [] ⟨_, _, rfl, ⟨rfl, rfl⟩, (tk1 (sf1 h12))⟩
 refine go [.v 1 6 (oF (x > 3)), .s 1 9] <| lwP (.pointer (some ⟨r10, 1, none⟩)) (law_indexArr (x := (Operand.tmp 2)) (i := (Operand.const (iV 1))) (b := r10) (off := 0) (z := 1) (by kernel_rfl) Tryz.underlying89 1 (by kernel_rfl) 1 (by kernel_rfl) (by kernel_rfl) (by omega) (by omega) 1 (by omega) _) <| go [rd 1 10 0 1 1 h12, .s 1 11] ?_
 by_cases c17 : y < 0
 ·
  refine go [.v 1 11 (oT (y < 0))] ?_
  exact en (iV 2) [] ⟨_, _, rfl, ⟨rfl, rfl⟩, (tk1 (sf1 h12))⟩
 refine go [.v 1 11 (oF (y < 0)), .s 1 14] <| lwP (.pointer (some ⟨r10, 1, none⟩)) (law_indexArr (x := (Operand.tmp 2)) (i := (Operand.const (iV 1))) (b := r10) (off := 0) (z := 1) (by kernel_rfl) Tryz.underlying89 1 (by kernel_rfl) 1 (by kernel_rfl) (by kernel_rfl) (by omega) (by omega) 1 (by omega) _) <| go [rd 1 15 0 1 1 h12, .s 1 17] ?_
 by_cases c19 : y ≥ 64
 ·
  refine go [.v 1 17 (oT (y ≥ 64))] ?_
  exact en (iV 2) [] ⟨_, _, rfl, ⟨rfl, rfl⟩, (tk1 (sf1 h12))⟩
 refine go [.v 1 17 (oF (y ≥ 64)), .s 3 0] <| lwP (.pointer (some ⟨r10, 2, none⟩)) (law_indexArr (x := (Operand.tmp 2)) (i := (Operand.const (iV 2))) (b := r10) (off := 0) (z := 2) (by kernel_rfl) Tryz.underlying89 1 (by kernel_rfl) 2 (by kernel_rfl) (by kernel_rfl) (by omega) (by omega) 2 (by omega) _) <| go [rd 3 1 0 2 1 h12, .v 3 2 (oUr z)] <| cl0 Tryz.call70 (gcheck_no z (by omega)) h12 fun _ h22 => go [] ?_
 exact en (iV 2) [] ⟨_, _, rfl, ⟨rfl, rfl⟩, (tk1 (sf1 h22))⟩

set_option maxHeartbeats 4000000 in
theorem couter_ok (x y z : Int) (hz0 : 0 ≤ z) (hz1 : z ≤ 4294967295) (ho : 1 ≤ x ∧ x ≤ 3 ∧ 0 ≤ y ∧ y ≤ 63 ∧ 1 ≤ z) : HT Tryz.prog 31 [.agg #[iV x, iV y, uV z]] [] (fun v K => v = iV 0 ∧ K = []) := by
 refine hiS Tryz.func31 Tryz.ntmps31 fun g w0 R h0 => go [] <| nP 31 [iV x, iV y, uV z] h0 (fun _ _ h12 => ?_)
 refine go [rd 1 0 0 0 3 h12] <| cl0 Tryz.call53 (ofouter_ht x y z (by omega) (by omega)) h12 fun _ h14 => cl0 Tryz.call54 (dcheck_ok x y z (by omega) (by omega) (by omega)) h14 fun _ h16 => go [] ?_
 exact en (iV 0) [] ⟨_, _, rfl, ⟨rfl, rfl⟩, (tk1 (sf1 h16))⟩

set_option maxHeartbeats 4000000 in
theorem couter_no (x y z : Int) (hz0 : 0 ≤ z) (hz1 : z ≤ 4294967295) (ho : ¬ (1 ≤ x ∧ x ≤ 3 ∧ 0 ≤ y ∧ y ≤ 63 ∧ 1 ≤ z)) : HT Tryz.prog 31 [.agg #[iV x, iV y, uV z]] [] (fun v K => v = iV 2 ∧ K = []) := by
 refine hiS Tryz.func31 Tryz.ntmps31 fun g w0 R h0 => go [] <| nP 31 [iV x, iV y, uV z] h0 (fun _ _ h12 => ?_)
 refine go [rd 1 0 0 0 3 h12] <| cl0 Tryz.call53 (ofouter_ht x y z (by omega) (by omega)) h12 fun _ h14 => ?_
 by_cases c15 : 1 ≤ x
 ·
  by_cases c16 : x ≤ 3
  ·
   by_cases c17 : 0 ≤ y
   ·
    by_cases c18 : y ≤ 63
    ·
     refine cl0 Tryz.call54 (dcheck_no x y z (by omega) (by omega) (by omega)) h14 fun _ h20 => go [] ?_
     exact en (iV 2) [] ⟨_, _, rfl, ⟨rfl, rfl⟩, (tk1 (sf1 h20))⟩
    refine cl0 Tryz.call54 (dcheck_no x y z (by omega) (by omega) (by omega)) h14 fun _ h23 => go [] ?_
    exact en (iV 2) [] ⟨_, _, rfl, ⟨rfl, rfl⟩, (tk1 (sf1 h23))⟩
   refine cl0 Tryz.call54 (dcheck_no x y z (by omega) (by omega) (by omega)) h14 fun _ h26 => go [] ?_
   exact en (iV 2) [] ⟨_, _, rfl, ⟨rfl, rfl⟩, (tk1 (sf1 h26))⟩
  refine cl0 Tryz.call54 (dcheck_no x y z (by omega) (by omega) (by omega)) h14 fun _ h29 => go [] ?_
  exact en (iV 2) [] ⟨_, _, rfl, ⟨rfl, rfl⟩, (tk1 (sf1 h29))⟩
 refine cl0 Tryz.call54 (dcheck_no x y z (by omega) (by omega) (by omega)) h14 fun _ h32 => go [] ?_
 exact en (iV 2) [] ⟨_, _, rfl, ⟨rfl, rfl⟩, (tk1 (sf1 h32))⟩

end Go.Proofs.YtfoliffeieeihaaGreatDoor

/- Walks, printed by my generator ../tab/gen7.py. -/
namespace Go.Proofs.YtfoliffeieeihaaGreatDoor
set_option maxHeartbeats 4000000 in
theorem lpfx_t (L : List UInt8) (h : L.take 3 = [239, 191, 189]) (hm : L.length ≤ 1099511627776) : HT Tryz.prog 97 [.string (St L), .string (St [239, 191, 189])] [] (fun v K => v = .bool true ∧ K = []) := by
 have hl_ := pfx_len h
 refine hiS Tryz.func97 Tryz.ntmps97 fun g w0 R h0 => go [.v 1 1 (⟨iV ((St L).size : Int), iV (((L.length : Nat) : Int)), (ov_int (st_len _))⟩), .v 1 3 (⟨iV ((St [239, 191, 189]).size : Int), iV 3, (ov_int rfl)⟩), .v 1 4 (oT (((L.length : Nat) : Int) ≥ 3)), .v 1 8 (⟨iV ((St [239, 191, 189]).size : Int), iV 3, (ov_int rfl)⟩), .s 1 9] <| lwP (.string (St (L.take 3))) (law_strTo (t := 9) (x := (Operand.tmp 11)) (y := (Operand.tmp 13)) (L := L) (z := 3) (by kernel_rfl) Tryz.underlying9 (by kernel_rfl) (by kernel_rfl) 3 (by omega) (by omega) _) <| go [.s 1 11] <| lwP (.bool true) (law_eqStr (t := 9) (x := (Operand.tmp 14)) (y := (Operand.tmp 15)) (a := (L.take 3)) (b := [239, 191, 189]) (by kernel_rfl) (by kernel_rfl) (by kernel_rfl) true (decide_eq_true h) _) <| go [] ?_
 exact en (.bool true) [] ⟨_, _, rfl, ⟨rfl, rfl⟩, h0⟩

set_option maxHeartbeats 4000000 in
theorem lpfx_f (L : List UInt8) (h : ¬ L.take 3 = [239, 191, 189]) (hm : L.length ≤ 1099511627776) : HT Tryz.prog 97 [.string (St L), .string (St [239, 191, 189])] [] (fun v K => v = .bool false ∧ K = []) := by
 refine hiS Tryz.func97 Tryz.ntmps97 fun g w0 R h0 => go [.v 1 1 (⟨iV ((St L).size : Int), iV (((L.length : Nat) : Int)), (ov_int (st_len _))⟩), .v 1 3 (⟨iV ((St [239, 191, 189]).size : Int), iV 3, (ov_int rfl)⟩), .s 1 4] ?_
 by_cases c10 : ((L.length : Nat) : Int) ≥ 3
 ·
  refine go [.v 1 4 (oT (((L.length : Nat) : Int) ≥ 3)), .v 1 8 (⟨iV ((St [239, 191, 189]).size : Int), iV 3, (ov_int rfl)⟩), .s 1 9] <| lwP (.string (St (L.take 3))) (law_strTo (t := 9) (x := (Operand.tmp 11)) (y := (Operand.tmp 13)) (L := L) (z := 3) (by kernel_rfl) Tryz.underlying9 (by kernel_rfl) (by kernel_rfl) 3 (by omega) (by omega) _) <| go [.s 1 11] <| lwP (.bool false) (law_eqStr (t := 9) (x := (Operand.tmp 14)) (y := (Operand.tmp 15)) (a := (L.take 3)) (b := [239, 191, 189]) (by kernel_rfl) (by kernel_rfl) (by kernel_rfl) false (decide_eq_false h) _) <| go [] ?_
  exact en (.bool false) [] ⟨_, _, rfl, ⟨rfl, rfl⟩, h0⟩
 refine go [.v 1 4 (oF (((L.length : Nat) : Int) ≥ 3))] ?_
 exact en (.bool false) [] ⟨_, _, rfl, ⟨rfl, rfl⟩, h0⟩

set_option maxHeartbeats 4000000 in
theorem pfx_t (L : List UInt8) (h : L.take 3 = [239, 191, 189]) (hm : L.length ≤ 1099511627776) : HT Tryz.prog 71 [.string (St L), .string (St [239, 191, 189])] [] (fun v K => v = .bool true ∧ K = []) := by
 have hl_ := pfx_len h
 refine hiS Tryz.func71 Tryz.ntmps71 fun g w0 R h0 => go [] <| cl0 Tryz.call97 (lpfx_t L (by assumption) (by omega)) h0 fun _ h11 => go [] ?_
 exact en (.bool true) [] ⟨_, _, rfl, ⟨rfl, rfl⟩, h11⟩

set_option maxHeartbeats 4000000 in
theorem pfx_f (L : List UInt8) (h : ¬ L.take 3 = [239, 191, 189]) (hm : L.length ≤ 1099511627776) : HT Tryz.prog 71 [.string (St L), .string (St [239, 191, 189])] [] (fun v K => v = .bool false ∧ K = []) := by
 refine hiS Tryz.func71 Tryz.ntmps71 fun g w0 R h0 => go [] <| cl0 Tryz.call97 (lpfx_f L (by assumption) (by omega)) h0 fun _ h11 => go [] ?_
 exact en (.bool false) [] ⟨_, _, rfl, ⟨rfl, rfl⟩, h11⟩

set_option maxHeartbeats 4000000 in
theorem rune_t (c : Int) (h : 32 ≤ c ∧ c ≠ 127) : HT Tryz.prog 56 [.int .i32 c] [] (fun v K => v = .bool true ∧ K = []) := by
 refine hiS Tryz.func56 Tryz.ntmps56 fun g w0 R h0 => go [.v 1 1 (oT (c ≥ 32)), .v 1 4 (qnT c 127)] ?_
 exact en (.bool true) [] ⟨_, _, rfl, ⟨rfl, rfl⟩, h0⟩

set_option maxHeartbeats 4000000 in
theorem rune_f (c : Int) (h : c < 32 ∨ c = 127) : HT Tryz.prog 56 [.int .i32 c] [] (fun v K => v = .bool false ∧ K = []) := by
 refine hiS Tryz.func56 Tryz.ntmps56 fun g w0 R h0 => go [.s 1 1] ?_
 by_cases c10 : c ≥ 32
 ·
  refine go [.v 1 1 (oT (c ≥ 32)), .v 1 4 (qnF c 127)] ?_
  exact en (.bool false) [] ⟨_, _, rfl, ⟨rfl, rfl⟩, h0⟩
 refine go [.v 1 1 (oF (c ≥ 32))] ?_
 exact en (.bool false) [] ⟨_, _, rfl, ⟨rfl, rfl⟩, h0⟩

set_option maxHeartbeats 4000000 in
theorem tall_ht (L : List UInt8) (hm : L.length ≤ 1099511627776) : HT Tryz.prog 55 [.string (St L), .func (Fn.func 56) #[] #[]] [] (fun v K => v = .tuple #[iV (scanN L : Int), .bool (scanB L)] ∧ K = []) := by
 refine hiS Tryz.func55 Tryz.ntmps55 fun g w0 R h0 => go [] ?_
 refine actG ?_
 refine as_rangeStr (t := 9) (d := 10) (x := (Operand.tmp 9)) (L := L) (by kernel_rfl) (by kernel_rfl) rfl Tryz.underlying9 (by kernel_rfl) h0 ?_
 intro r10 _ h12
 refine nxA <| go [] ?_
 refine lpS (fun mz_ a w => ∃ p : Nat, ∃ n : Nat, ∃ f : Nat, ∃ lr : Fr, mz_ = L.length - p ∧ (n ≤ p) ∧ (L.length ≤ p + f) ∧ (tagScan L L.length 0 0 = tagScan L f p n) ∧ a = mk 33 (([(0, .string (St L)), (1, .func (Fn.func 56) #[] #[]), (6, iV (n : Int)), (10, pV r10)] : Fr) ++ lr) ∧ sat g w [Si r10 L p, R]) (L.length - 0) ⟨0, 0, L.length, _, rfl, (Nat.le_refl _), (by omega), rfl, (lvF [.k 0 (.string (St L)), .k 1 (.func (Fn.func 56) #[] #[]), .o 6 (oJ .i64 0 (0 : Int)), .k 10 (pV r10)]), h12⟩ ?_
 rintro m14 a15 w16 ⟨p, n, f, lr13, rfl, hn_, hf_, ht_, rfl, h17⟩
 refine ga <| go [] ?_
 by_cases c18 : p < L.length
 ·
  have hd19 := dec_pos (L := L) (p := p) (by omega); have hd20 := dec_max L p
  refine actG ?_
  refine as_next (d := 11) (x := (Operand.tmp 10)) (r := r10) (L := L) (p := p) (by kernel_rfl) (by kernel_rfl) rfl (by kernel_rfl) h17 (by omega) (by omega) ?_
  intro _ h22
  refine nxA <| go [.s 5 1] ?_
  by_cases c23 : (((dec L p).1 : Nat) : Int) = 65533
  ·
   refine go [.v 5 1 (qeT ((((dec L p).1 : Nat) : Int)) 65533), .s 5 5] <| lwP (.string (St (L.drop p))) (law_strFrom (t := 9) (x := (Operand.tmp 18)) (y := (Operand.tmp 19)) (L := L) (z := (p : Int)) (by kernel_rfl) Tryz.underlying9 (by kernel_rfl) (by kernel_rfl) p (by omega) (by omega) _) ?_
   by_cases c24 : (L.drop p).take 3 = ([239, 191, 189] : List UInt8)
   ·
    refine cl0 Tryz.call71 (pfx_t (L.drop p) (by assumption) (by rw [List.length_drop]; omega)) h22 fun _ h26 => ?_
    refine go [] <| cl0 Tryz.call56 (rune_t ((((dec L p).1 : Nat) : Int)) (by omega)) h26 fun _ h28 => go [.v 7 1 (oIr ((n : Int) + 1))] ?_
    refine enL ?_
    have hg_ : ¬ badR L p := by
     rintro (⟨h1_, h2_⟩ | h1_ | h1_) <;> first | omega | exact absurd (by assumption) h2_
    change ∃ n', n' < _ ∧ _
    refine ⟨(L.length - (p + ((dec L p).2))), by omega, p + ((dec L p).2), (n + 1), (f - 1), _, rfl, (by omega), (by omega), (ht_.trans (scan_go (by omega) hf_ hg_)), (lvF [.k 0 (.string (St L)), .k 1 (.func (Fn.func 56) #[] #[]), .o 6 (oJ .i64 ((n : Int) + 1) ((((n + 1) : Nat) : Int))), .k 10 (pV r10)]), h28⟩
   refine cl0 Tryz.call71 (pfx_f (L.drop p) (by assumption) (by rw [List.length_drop]; omega)) h22 fun _ h30 => ?_
   refine go [] <| up <| go [] ?_
   have hb_ : badR L p := by
    first | exact .inr (.inl (by omega)) | exact .inr (.inr (by omega)) | exact .inl ⟨by omega, by assumption⟩
   have hs_ : tagScan L L.length 0 0 = none := ht_.trans (scan_bad (by omega) hf_ hb_)
   exact en (.tuple #[iV 0, .bool false]) [] ⟨_, _, rfl, ⟨by unfold scanN scanB; rw [hs_]; rfl, rfl⟩, (tk1 (sf1 h30))⟩
  refine go [.v 5 1 (qeF ((((dec L p).1 : Nat) : Int)) 65533)] ?_
  by_cases c32 : 32 ≤ (((dec L p).1 : Nat) : Int)
  ·
   by_cases c33 : (((dec L p).1 : Nat) : Int) = 127
   ·
    refine cl0 Tryz.call56 (rune_f ((((dec L p).1 : Nat) : Int)) (by omega)) h22 fun _ h35 => go [] <| up <| go [] ?_
    have hb_ : badR L p := by
     first | exact .inr (.inl (by omega)) | exact .inr (.inr (by omega)) | exact .inl ⟨by omega, by assumption⟩
    have hs_ : tagScan L L.length 0 0 = none := ht_.trans (scan_bad (by omega) hf_ hb_)
    exact en (.tuple #[iV 0, .bool false]) [] ⟨_, _, rfl, ⟨by unfold scanN scanB; rw [hs_]; rfl, rfl⟩, (tk1 (sf1 h35))⟩
   refine cl0 Tryz.call56 (rune_t ((((dec L p).1 : Nat) : Int)) (by omega)) h22 fun _ h38 => go [.v 7 1 (oIr ((n : Int) + 1))] ?_
   refine enL ?_
   have hg_ : ¬ badR L p := by
    rintro (⟨h1_, h2_⟩ | h1_ | h1_) <;> first | omega | exact absurd (by assumption) h2_
   change ∃ n', n' < _ ∧ _
   refine ⟨(L.length - (p + ((dec L p).2))), by omega, p + ((dec L p).2), (n + 1), (f - 1), _, rfl, (by omega), (by omega), (ht_.trans (scan_go (by omega) hf_ hg_)), (lvF [.k 0 (.string (St L)), .k 1 (.func (Fn.func 56) #[] #[]), .o 6 (oJ .i64 ((n : Int) + 1) ((((n + 1) : Nat) : Int))), .k 10 (pV r10)]), h38⟩
  refine cl0 Tryz.call56 (rune_f ((((dec L p).1 : Nat) : Int)) (by omega)) h22 fun _ h40 => go [] <| up <| go [] ?_
  have hb_ : badR L p := by
   first | exact .inr (.inl (by omega)) | exact .inr (.inr (by omega)) | exact .inl ⟨by omega, by assumption⟩
  have hs_ : tagScan L L.length 0 0 = none := ht_.trans (scan_bad (by omega) hf_ hb_)
  exact en (.tuple #[iV 0, .bool false]) [] ⟨_, _, rfl, ⟨by unfold scanN scanB; rw [hs_]; rfl, rfl⟩, (tk1 (sf1 h40))⟩
 refine actG ?_
 refine as_nextEnd (d := 11) (x := (Operand.tmp 10)) (r := r10) (L := L) (p := p) (by kernel_rfl) (by kernel_rfl) rfl (by kernel_rfl) (j := 0) h17 rfl (by omega) ?_
 refine nxA <| go [] <| up <| go [] ?_
 have hs_ : tagScan L L.length 0 0 = some n := ht_.trans (scan_end (by omega))
 exact en (.tuple #[iV (n : Int), .bool true]) [] ⟨_, _, rfl, ⟨by unfold scanN scanB; rw [hs_]; rfl, rfl⟩, (tk1 (sf1 h17))⟩

set_option maxHeartbeats 4000000 in
theorem tag_ht (L : List UInt8) (hm : L.length ≤ 1099511627776) : HT Tryz.prog 32 [.string (St L)] [] (fun v K => v = iV (tagE L) ∧ K = []) := by
 refine hiS Tryz.func32 Tryz.ntmps32 fun g w0 R h0 => go [.v 1 1 (⟨iV ((St L).size : Int), iV (((L.length : Nat) : Int)), (ov_int (st_len _))⟩), .s 1 2] ?_
 by_cases c10 : ((L.length : Nat) : Int) > 96
 ·
  refine go [.v 1 2 (oT (((L.length : Nat) : Int) > 96))] ?_
  exact en (iV 16) [] ⟨_, _, rfl, ⟨by unfold tagE; rw [if_pos (by omega)], rfl⟩, h0⟩
 refine go [.v 1 2 (oF (((L.length : Nat) : Int) > 96))] ?_
 rcases Bool.eq_false_or_eq_true (scanB L) with cb11 | cb11
 ·
  refine cl0 Tryz.call55 ((by have h_ := tall_ht L (by omega); rw [cb11] at h_; exact h_)) h0 fun _ h13 => ?_
  refine go [.s 4 4] ?_
  by_cases c14 : ((scanN L : Nat) : Int) < 1
  ·
   refine go [.v 4 4 (oT (((scanN L : Nat) : Int) < 1))] ?_
   exact en (iV 16) [] ⟨_, _, rfl, ⟨by unfold tagE; rw [if_neg (by omega), if_neg (by rintro ⟨h1_, h2_, h3_⟩; first | omega | simp_all)], rfl⟩, h13⟩
  refine go [.v 4 4 (oF (((scanN L : Nat) : Int) < 1)), .s 4 8] ?_
  by_cases c15 : ((scanN L : Nat) : Int) > 24
  ·
   refine go [.v 4 8 (oT (((scanN L : Nat) : Int) > 24))] ?_
   exact en (iV 16) [] ⟨_, _, rfl, ⟨by unfold tagE; rw [if_neg (by omega), if_neg (by rintro ⟨h1_, h2_, h3_⟩; first | omega | simp_all)], rfl⟩, h13⟩
  refine go [.v 4 8 (oF (((scanN L : Nat) : Int) > 24))] ?_
  exact en (iV 0) [] ⟨_, _, rfl, ⟨by unfold tagE; rw [if_neg (by omega), if_pos ⟨by assumption, by omega, by omega⟩], rfl⟩, h13⟩
 refine cl0 Tryz.call55 ((by have h_ := tall_ht L (by omega); rw [cb11] at h_; exact h_)) h0 fun _ h17 => ?_
 refine go [] ?_
 exact en (iV 16) [] ⟨_, _, rfl, ⟨by unfold tagE; rw [if_neg (by omega), if_neg (by rintro ⟨h1_, h2_, h3_⟩; first | omega | simp_all)], rfl⟩, h17⟩

end Go.Proofs.YtfoliffeieeihaaGreatDoor

/- Walks, printed by my generator l1.py. -/
namespace Go.Proofs.YtfoliffeieeihaaGreatDoor
theorem couter_ht (x y z : Int) (hz0 : 0 ≤ z) (hz1 : z ≤ 4294967295) : HT Tryz.prog 31 [.agg #[iV x, iV y, uV z]] [] (fun v K => v = iV (outE (x, y, z)) ∧ K = []) := by
  by_cases h : outE (x, y, z) = 0
  · rw [h]
    exact couter_ok x y z hz0 hz1 (outE_iff.1 h)
  · rw [(outE_or _).resolve_left h]
    exact couter_no x y z hz0 hz1 (fun q => h (outE_iff.2 q))

set_option maxHeartbeats 4000000 in
theorem lchk_ht (ta x y z wy an : Int) (hz0 : 0 ≤ z) (hz1 : z ≤ 4294967295) : HT Tryz.prog 37 [.agg #[iV ta, iV x, iV y, uV z, iV wy, iV an]] [] (fun v K => v = iV (attE ⟨ta, (x, y, z), wy, an⟩) ∧ K = []) := by
 refine hiS Tryz.func37 Tryz.ntmps37 fun g w0 R h0 => go [] <| nP 33 [iV ta, iV x, iV y, uV z, iV wy, iV an] h0 (fun _ _ h12 => ?_)
 refine go [rd 1 1 0 0 1 h12, .s 1 2] ?_
 by_cases c13 : ta < 0
 ·
  refine go [.v 1 2 (oT (ta < 0))] ?_
  exact en (iV 2) [] ⟨_, _, rfl, ⟨by unfold attE; rw [if_neg (by simp only [attP]; omega)], rfl⟩, (tk1 (sf1 h12))⟩
 refine go [.v 1 2 (oF (ta < 0)), rd 1 5 0 0 1 h12, .s 1 6] ?_
 by_cases c15 : ta > 1099511627776
 ·
  refine go [.v 1 6 (oT (ta > 1099511627776))] ?_
  exact en (iV 2) [] ⟨_, _, rfl, ⟨by unfold attE; rw [if_neg (by simp only [attP]; omega)], rfl⟩, (tk1 (sf1 h12))⟩
 refine go [.v 1 6 (oF (ta > 1099511627776)), rd 1 10 0 1 3 h12] <| cl0 Tryz.call31 (couter_ht x y z (by omega) (by omega)) h12 fun _ h18 => ?_
 by_cases c19 : (outE (x, y, z)) = 0
 ·
  refine go [.v 1 12 (qnF ((outE (x, y, z))) 0), rd 1 16 0 4 1 h18, .s 1 17] ?_
  by_cases c20 : wy < 1
  ·
   refine go [.v 1 17 (oT (wy < 1))] ?_
   exact en (iV 2) [] ⟨_, _, rfl, ⟨by unfold attE; rw [if_neg (by simp only [attP]; omega)], rfl⟩, (tk1 (sf1 h18))⟩
  refine go [.v 1 17 (oF (wy < 1)), rd 1 21 0 4 1 h18, .s 1 22] ?_
  by_cases c22 : wy > 3
  ·
   refine go [.v 1 22 (oT (wy > 3))] ?_
   exact en (iV 2) [] ⟨_, _, rfl, ⟨by unfold attE; rw [if_neg (by simp only [attP]; omega)], rfl⟩, (tk1 (sf1 h18))⟩
  refine go [.v 1 22 (oF (wy > 3)), rd 1 26 0 5 1 h18, .s 1 27] ?_
  by_cases c24 : an < 1
  ·
   refine go [.v 1 27 (oT (an < 1))] ?_
   exact en (iV 2) [] ⟨_, _, rfl, ⟨by unfold attE; rw [if_neg (by simp only [attP]; omega)], rfl⟩, (tk1 (sf1 h18))⟩
  refine go [.v 1 27 (oF (an < 1)), rd 1 31 0 5 1 h18, .s 1 32] ?_
  by_cases c26 : an > 3
  ·
   refine go [.v 1 32 (oT (an > 3))] ?_
   exact en (iV 2) [] ⟨_, _, rfl, ⟨by unfold attE; rw [if_neg (by simp only [attP]; omega)], rfl⟩, (tk1 (sf1 h18))⟩
  refine go [.v 1 32 (oF (an > 3))] ?_
  exact en (iV 0) [] ⟨_, _, rfl, ⟨by unfold attE; rw [if_pos (by simp only [attP]; omega)], rfl⟩, (tk1 (sf1 h18))⟩
 refine go [.v 1 12 (qnT ((outE (x, y, z))) 0)] ?_
 exact en (iV 2) [] ⟨_, _, rfl, ⟨by unfold attE; rw [if_neg (by simp only [attP]; omega)], rfl⟩, (tk1 (sf1 h18))⟩

end Go.Proofs.YtfoliffeieeihaaGreatDoor

/- Walks, printed by my generator l2.py. -/
namespace Go.Proofs.YtfoliffeieeihaaGreatDoor
set_option maxHeartbeats 4000000 in
theorem rvalid_ht (b : Nat) (S : Rp) : HT Tryz.prog 30 [pV b] [Rpt b S] (fun v K => v = .bool true ∧ K = [Rpt b S]) := by
 refine hiS Tryz.func30 Tryz.ntmps30 fun g w0 R h0 => ?_
 obtain ⟨m10, E11, ⟨hM12, hW13⟩, h14⟩ := rp_open h0
 have hk15 := hW13.al; have hk15b := hW13.le; have hk15c := hM12.len
 refine go [rd 1 6 0 1 1 h14] ?_
 have h16 : sat g w0 [Rpt b S, R] := rp_close hM12 hW13 rfl h14
 exact en (.bool true) [] ⟨_, _, rfl, ⟨rfl, rfl⟩, h16⟩

set_option maxHeartbeats 4000000 in
theorem rnew0_ht  : HT Tryz.prog 7 [] [] (fun v K => ∃ b : Nat, v = pV b ∧ K = [Rpt b ⟨[], []⟩]) := by
 refine hiS Tryz.func7 Tryz.ntmps7 fun g w0 R h0 => go [] ?_
 refine actG ?_
 refine ag_makeMap (t := 62) (d := 1) kv vKn (by kernel_rfl) (by kernel_rfl) rfl h0 ?_
 intro r10 _ h12
 refine nxA <| go [] <| nP 64 [iV 0, .map (some r10)] h12 (fun r13 w14 h15 => ?_)
 refine go [] ?_
 have h16 : sat g w14 [Rpt r13 (⟨[], []⟩), R] := rp_close rm_new rw_new rfl h15
 exact en (pV r13) [] ⟨_, _, rfl, ⟨r13, rfl, rfl⟩, h16⟩

set_option maxHeartbeats 4000000 in
theorem ropen_ht (b : Nat) (S : Rp) (x y z : Int) (t : List UInt8) (hz0 : 0 ≤ z) (hz1 : z ≤ 4294967295) (hm : t.length ≤ 1099511627776) : HT Tryz.prog 9 [pV b, .agg #[iV x, iV y, uV z], .string (St t)] [Rpt b S] (fun v K => v = iV (opdE S (x, y, z) t) ∧ K = [Rpt b (opdS S (x, y, z) t)]) := by
 refine hiS Tryz.func9 Tryz.ntmps9 fun g w0 R h0 => go [] <| nP 31 [iV x, iV y, uV z] h0 (fun r10 _ h12 => ?_)
 have h13 := tk3 (sf2 (sf1 (sf2 h12)))
 refine go [] <| cl1 Tryz.call30 (rvalid_ht b S) h13 fun _ h15 => go [rd 3 0 1 0 3 h15] <| cl0 Tryz.call31 (couter_ht x y z (by omega) (by omega)) h15 fun w16 h17 => ?_
 by_cases c18 : (outE (x, y, z)) = 0
 ·
  refine go [.v 3 2 (qnF ((outE (x, y, z))) 0)] <| cl0 Tryz.call32 (tag_ht t (by omega)) h17 fun w19 h20 => ?_
  by_cases c21 : (tagE t) = 0
  ·
   refine go [.v 5 2 (qnF ((tagE t)) 0), .s 7 100001] ?_
   obtain ⟨m22, E23, ⟨hM24, hW25⟩, h26⟩ := rp_open h20
   have hk27 := hW25.al; have hk27b := hW25.le; have hk27c := hM24.len
   refine jnS (fun a w => ∃ lr : Fr, a = mk 44 (([(0, pV b), (2, .string (St t)), (4, pV r10), (8, .bool ((gget E23 (x, y, z)).isSome))] : Fr) ++ lr) ∧ sat g w [Cl b [iV (((S.A.length : Nat) : Int)), .map (some m22)] 64, Gp kv vKn m22 E23, Cl r10 [iV x, iV y, uV z] 31, R]) ?_ ?_
   ·
    refine go [] <| dw (fls [0, 1, 2, 3, 4] (Tr.an2 5 (fls [6, 7, 8] (Tr.an 9 (Tr.an 10 (Tr.fl 11 Tr.nil)))) 9 (Tr.an 5 (fls [6, 7, 8] (Tr.an 10 (Tr.fl 11 Tr.nil)))))) h26 fun _ h29 => go [rd 7 3 0 1 1 h29, rd 7 4 2 0 3 h29] ?_
    refine br2 ?_ ?_
    ·
     refine actG ?_
     refine act_law (d := 27) (.tuple #[.agg #[.string (St ((kget E23 (x, y, z)).tag)), iV ((kget E23 (x, y, z)).ord), iV ((kget E23 (x, y, z)).at_), iV ((kget E23 (x, y, z)).why), iV ((kget E23 (x, y, z)).st)], .bool ((gget E23 (x, y, z)).isSome)]) (by kernel_rfl) rfl (law_lookupK (t := 62) (z := .agg #[.string (St []), iV 0, iV 0, iV 0, iV 0]) (m := (Operand.tmp 25)) (x := (Operand.tmp 26)) (kv := kv) (ve := vKn) (by kernel_rfl) Tryz.underlying62 kyO (by kernel_rfl) (x, y, z) (by kernel_rfl) (by kernel_rfl) (j := 1) h29 rfl (.agg #[.string (St ((kget E23 (x, y, z)).tag)), iV ((kget E23 (x, y, z)).ord), iV ((kget E23 (x, y, z)).at_), iV ((kget E23 (x, y, z)).why), iV ((kget E23 (x, y, z)).st)]) ((gget E23 (x, y, z)).isSome) (fun _ => kn_lk1) kn_lk0) ?_
     refine ⟨kd [], nxG ?_⟩
     refine go [] <| nG (fun q_ => pV q_) 70 [.string (St []), iV 0, iV 0, iV 0, iV 0] h29 (fun _ _ h32 => ⟨kd [], ?_⟩)
     refine sG [(0, .string (St ((kget E23 (x, y, z)).tag))), (1, iV ((kget E23 (x, y, z)).ord)), (2, iV ((kget E23 (x, y, z)).at_)), (3, iV ((kget E23 (x, y, z)).why)), (4, iV ((kget E23 (x, y, z)).st))] [.string (St ((kget E23 (x, y, z)).tag)), iV ((kget E23 (x, y, z)).ord), iV ((kget E23 (x, y, z)).at_), iV ((kget E23 (x, y, z)).why), iV ((kget E23 (x, y, z)).st)] h32 fun _ h34 => ⟨kd [], ?_⟩
     refine go [] ?_
     refine enL ?_
     exact ⟨_, (lvF [.k 0 (pV b), .k 2 (.string (St t)), .k 4 (pV r10), .k 8 (.bool ((gget E23 (x, y, z)).isSome))]), (tk4 (tk5 (sf4 (sf4 (sf4 (sf4 h34))))))⟩
    refine nG (fun q_ => pV q_) 70 [.string (St []), iV 0, iV 0, iV 0, iV 0] h29 (fun _ _ h39 => ⟨kd [rd 0 4 3 0 3 h39, rd 0 3 1 1 1 h39], ?_⟩)
    refine actG ?_
    refine act_law (d := 27) (.tuple #[.agg #[.string (St ((kget E23 (x, y, z)).tag)), iV ((kget E23 (x, y, z)).ord), iV ((kget E23 (x, y, z)).at_), iV ((kget E23 (x, y, z)).why), iV ((kget E23 (x, y, z)).st)], .bool ((gget E23 (x, y, z)).isSome)]) (by kernel_rfl) rfl (law_lookupK (t := 62) (z := .agg #[.string (St []), iV 0, iV 0, iV 0, iV 0]) (m := (Operand.tmp 25)) (x := (Operand.tmp 26)) (kv := kv) (ve := vKn) (by kernel_rfl) Tryz.underlying62 kyO (by kernel_rfl) (x, y, z) (by kernel_rfl) (by kernel_rfl) (j := 2) h39 rfl (.agg #[.string (St ((kget E23 (x, y, z)).tag)), iV ((kget E23 (x, y, z)).ord), iV ((kget E23 (x, y, z)).at_), iV ((kget E23 (x, y, z)).why), iV ((kget E23 (x, y, z)).st)]) ((gget E23 (x, y, z)).isSome) (fun _ => kn_lk1) kn_lk0) ?_
    refine ⟨kd [], nxG ?_⟩
    refine go [] <| sG [(0, .string (St ((kget E23 (x, y, z)).tag))), (1, iV ((kget E23 (x, y, z)).ord)), (2, iV ((kget E23 (x, y, z)).at_)), (3, iV ((kget E23 (x, y, z)).why)), (4, iV ((kget E23 (x, y, z)).st))] [.string (St ((kget E23 (x, y, z)).tag)), iV ((kget E23 (x, y, z)).ord), iV ((kget E23 (x, y, z)).at_), iV ((kget E23 (x, y, z)).why), iV ((kget E23 (x, y, z)).st)] h39 fun _ h41 => ⟨kd [], ?_⟩
    refine go [] ?_
    refine enL ?_
    exact ⟨_, (lvF [.k 0 (pV b), .k 2 (.string (St t)), .k 4 (pV r10), .k 8 (.bool ((gget E23 (x, y, z)).isSome))]), (tk4 (tk5 (sf4 (sf4 (sf4 (sf4 h41))))))⟩
   rintro a44 w45 ⟨lr47, rfl, h46⟩
   refine ga <| go [.s 8 0] ?_
   rcases Bool.eq_false_or_eq_true ((gget E23 (x, y, z)).isSome) with cb48 | cb48
   ·
    refine go [.v 8 0 (⟨.bool ((gget E23 (x, y, z)).isSome), .bool true, (ov_b cb48)⟩)] ?_
    have he49 : opdE S (x, y, z) t = 6 := opdE_have (by omega) (by omega) ((rm_some hM24 (x, y, z)).symm.trans cb48)
    have h50 : sat g w45 [Rpt b S, Cl r10 [iV x, iV y, uV z] 31, R] := rp_close hM24 hW25 rfl h46
    have h51 : sat g w45 [Rpt b (opdS S (x, y, z) t), Cl r10 [iV x, iV y, uV z] 31, R] := by rw [opdS_no he49 (by decide)]; exact h50
    exact en (iV 6) [] ⟨_, _, rfl, ⟨by rw [he49], rfl⟩, (tk2 (sf1 (sf2 h51)))⟩
   refine go [.v 8 0 (⟨.bool ((gget E23 (x, y, z)).isSome), .bool false, (ov_b cb48)⟩), rd 10 3 0 1 1 h46, .s 10 4] <| lwP (iV (((E23.length : Nat) : Int))) (law_lenG (kv := kv) (ve := vKn) (t := 62) (x := (Operand.tmp 34)) (by kernel_rfl) Tryz.underlying62 (by kernel_rfl) (j := 1) h46 rfl) ?_
   by_cases c53 : ((E23.length : Nat) : Int) ≥ 2000
   ·
    refine go [.v 10 5 (oT (((E23.length : Nat) : Int) ≥ 2000))] ?_
    have he54 : opdE S (x, y, z) t = 4 := opdE_full (by omega) (by omega) ((rm_some hM24 (x, y, z)).symm.trans cb48) (by omega)
    have h55 : sat g w45 [Rpt b S, Cl r10 [iV x, iV y, uV z] 31, R] := rp_close hM24 hW25 rfl h46
    have h56 : sat g w45 [Rpt b (opdS S (x, y, z) t), Cl r10 [iV x, iV y, uV z] 31, R] := by rw [opdS_no he54 (by decide)]; exact h55
    exact en (iV 4) [] ⟨_, _, rfl, ⟨by rw [he54], rfl⟩, (tk2 (sf1 (sf2 h56)))⟩
   refine go [.v 10 5 (oF (((E23.length : Nat) : Int) ≥ 2000))] <| dw (fls [0, 1, 2, 3, 4, 5, 6] (Tr.an 7 Tr.nil)) h46 fun _ h59 => ?_
   have h60 := tk4 (sf3 (sf2 (sf3 (sf3 h59))))
   refine go [rd 12 3 0 1 1 h59, rd 12 4 2 0 3 h59] ?_
   refine actG ?_
   refine ag_mapUpdate (t := 62) (m := (Operand.tmp 40)) (x := (Operand.tmp 41)) (y := (Operand.tmp 43)) (kv := kv) (ve := vKn) (by kernel_rfl) (by kernel_rfl) Tryz.underlying62 kyO (x, y, z) (⟨t, -1, 0, 0, 2⟩ : Kn) (by kernel_rfl) (by kernel_rfl) (by kernel_rfl) h60 (gset E23 (x, y, z) ⟨t, -1, 0, 0, 2⟩) rfl ?_
   intro w61 h62
   refine ⟨kd [], nxN ?_⟩
   refine go [] ?_
   have he63 : opdE S (x, y, z) t = 0 := opdE_ok (by omega) (by omega) ((rm_some hM24 (x, y, z)).symm.trans cb48) (by omega)
   have h65 : sat g w61 [Rpt b (opdS S (x, y, z) t), Cl r10 [iV x, iV y, uV z] 31, R] := rp_close (rm_open hM24 hW25 he63) (rw_open hW25 (by omega)) (by rw [opdS_len]) (tk4 (sf3 (sf2 (sf3 (sf3 h62)))))
   exact en (iV 0) [] ⟨_, _, rfl, ⟨by rw [he63], rfl⟩, (tk2 (sf1 (sf2 h65)))⟩
  refine go [.v 5 2 (qnT ((tagE t)) 0)] ?_
  have he67 : opdE S (x, y, z) t = 16 := opdE_tag (by omega) (by omega)
  have h68 : sat g w19 [Rpt b (opdS S (x, y, z) t), Cl r10 [iV x, iV y, uV z] 31, R] := by rw [opdS_no he67 (by decide)]; exact h20
  exact en (iV 16) [] ⟨_, _, rfl, ⟨by rw [he67], rfl⟩, (tk2 (sf1 (sf2 h68)))⟩
 refine go [.v 3 2 (qnT ((outE (x, y, z))) 0)] ?_
 have he70 : opdE S (x, y, z) t = 2 := opdE_arg (by omega)
 have h71 : sat g w16 [Rpt b (opdS S (x, y, z) t), Cl r10 [iV x, iV y, uV z] 31, R] := by rw [opdS_no he70 (by decide)]; exact h17
 exact en (iV 2) [] ⟨_, _, rfl, ⟨by rw [he70], rfl⟩, (tk2 (sf1 (sf2 h71)))⟩

theorem step_eq {n : Nat} {e : Kn} {o : Ky} {ta wy an o' a' w' s' : Int} (h1 : o' = if e.ord < 0 then (n : Int) else e.ord) (h2 : a' = if e.ord < 0 then ta else e.at_) (h3 : w' = if e.ord < 0 then wy else e.why) (h4 : s' = if an = 1 then 3 else if an = 3 then 4 else e.st) : stepK n e ⟨ta, o, wy, an⟩ = ⟨e.tag, o', a', w', s'⟩ := by
  subst h1 h2 h3 h4
  rfl

set_option maxHeartbeats 4000000 in
theorem rtry_ht (b : Nat) (S : Rp) (ta x y z wy an : Int) (hz0 : 0 ≤ z) (hz1 : z ≤ 4294967295) (hn : S.A.length < 4294967296) : HT Tryz.prog 11 [pV b, .agg #[iV ta, iV x, iV y, uV z, iV wy, iV an]] [Rpt b S] (fun v K => v = iV (trE S ⟨ta, (x, y, z), wy, an⟩) ∧ K = [Rpt b (trS S ⟨ta, (x, y, z), wy, an⟩)]) := by
 refine hiS Tryz.func11 Tryz.ntmps11 fun g w0 R h0 => go [] <| nP 33 [iV ta, iV x, iV y, uV z, iV wy, iV an] h0 (fun r10 _ h12 => ?_)
 have h13 := tk3 (sf2 (sf1 (sf2 h12)))
 refine go [] <| cl1 Tryz.call30 (rvalid_ht b S) h13 fun _ h15 => go [rd 3 0 1 0 6 h15] <| cl0 Tryz.call37 (lchk_ht ta x y z wy an (by omega) (by omega)) h15 fun w16 h17 => ?_
 by_cases c18 : (attE ⟨ta, (x, y, z), wy, an⟩) = 0
 ·
  refine go [.v 3 2 (qnF ((attE ⟨ta, (x, y, z), wy, an⟩)) 0), .s 5 100000] ?_
  obtain ⟨m19, E20, ⟨hM21, hW22⟩, h23⟩ := rp_open h17
  have hk24 := hW22.al; have hk24b := hW22.le; have hk24c := hM21.len
  refine jnS (fun a w => ∃ rk : Nat, ∃ lr : Fr, a = mk 69 (([(0, pV b), (3, pV r10), (5, pV rk), (6, .bool ((gget E20 (x, y, z)).isSome))] : Fr) ++ lr) ∧ sat g w [Cl rk [.string (St ((kget E20 (x, y, z)).tag)), iV ((kget E20 (x, y, z)).ord), iV ((kget E20 (x, y, z)).at_), iV ((kget E20 (x, y, z)).why), iV ((kget E20 (x, y, z)).st)] 70, Cl b [iV (((S.A.length : Nat) : Int)), .map (some m19)] 64, Gp kv vKn m19 E20, Cl r10 [iV ta, iV x, iV y, uV z, iV wy, iV an] 33, R]) ?_ ?_
  ·
   refine go [] <| dw (fls [0, 1, 2, 3, 4, 5] (Tr.an2 6 (fls [7, 8, 9] (Tr.an 10 (Tr.an 11 (Tr.fl 12 Tr.nil)))) 10 (Tr.an 6 (fls [7, 8, 9] (Tr.an 11 (Tr.fl 12 Tr.nil)))))) h23 fun _ h26 => go [rd 5 3 0 1 1 h26, rd 5 5 2 1 3 h26] ?_
   refine br2 ?_ ?_
   ·
    refine actG ?_
    refine act_law (d := 22) (.tuple #[.agg #[.string (St ((kget E20 (x, y, z)).tag)), iV ((kget E20 (x, y, z)).ord), iV ((kget E20 (x, y, z)).at_), iV ((kget E20 (x, y, z)).why), iV ((kget E20 (x, y, z)).st)], .bool ((gget E20 (x, y, z)).isSome)]) (by kernel_rfl) rfl (law_lookupK (t := 62) (z := .agg #[.string (St []), iV 0, iV 0, iV 0, iV 0]) (m := (Operand.tmp 19)) (x := (Operand.tmp 21)) (kv := kv) (ve := vKn) (by kernel_rfl) Tryz.underlying62 kyO (by kernel_rfl) (x, y, z) (by kernel_rfl) (by kernel_rfl) (j := 1) h26 rfl (.agg #[.string (St ((kget E20 (x, y, z)).tag)), iV ((kget E20 (x, y, z)).ord), iV ((kget E20 (x, y, z)).at_), iV ((kget E20 (x, y, z)).why), iV ((kget E20 (x, y, z)).st)]) ((gget E20 (x, y, z)).isSome) (fun _ => kn_lk1) kn_lk0) ?_
    refine ⟨kd [], nxG ?_⟩
    refine go [] <| nG (fun q_ => pV q_) 70 [.string (St []), iV 0, iV 0, iV 0, iV 0] h26 (fun r27 _ h29 => ⟨kd [], ?_⟩)
    refine sG [(0, .string (St ((kget E20 (x, y, z)).tag))), (1, iV ((kget E20 (x, y, z)).ord)), (2, iV ((kget E20 (x, y, z)).at_)), (3, iV ((kget E20 (x, y, z)).why)), (4, iV ((kget E20 (x, y, z)).st))] [.string (St ((kget E20 (x, y, z)).tag)), iV ((kget E20 (x, y, z)).ord), iV ((kget E20 (x, y, z)).at_), iV ((kget E20 (x, y, z)).why), iV ((kget E20 (x, y, z)).st)] h29 fun _ h31 => ⟨kd [], ?_⟩
    refine go [] ?_
    refine enL ?_
    exact ⟨r27, _, (lvF [.k 0 (pV b), .k 3 (pV r10), .k 5 (pV r27), .k 6 (.bool ((gget E20 (x, y, z)).isSome))]), h31⟩
   refine nG (fun q_ => pV q_) 70 [.string (St []), iV 0, iV 0, iV 0, iV 0] h26 (fun r32 _ h34 => ⟨kd [rd 0 5 3 1 3 h34, rd 0 3 1 1 1 h34], ?_⟩)
   refine actG ?_
   refine act_law (d := 22) (.tuple #[.agg #[.string (St ((kget E20 (x, y, z)).tag)), iV ((kget E20 (x, y, z)).ord), iV ((kget E20 (x, y, z)).at_), iV ((kget E20 (x, y, z)).why), iV ((kget E20 (x, y, z)).st)], .bool ((gget E20 (x, y, z)).isSome)]) (by kernel_rfl) rfl (law_lookupK (t := 62) (z := .agg #[.string (St []), iV 0, iV 0, iV 0, iV 0]) (m := (Operand.tmp 19)) (x := (Operand.tmp 21)) (kv := kv) (ve := vKn) (by kernel_rfl) Tryz.underlying62 kyO (by kernel_rfl) (x, y, z) (by kernel_rfl) (by kernel_rfl) (j := 2) h34 rfl (.agg #[.string (St ((kget E20 (x, y, z)).tag)), iV ((kget E20 (x, y, z)).ord), iV ((kget E20 (x, y, z)).at_), iV ((kget E20 (x, y, z)).why), iV ((kget E20 (x, y, z)).st)]) ((gget E20 (x, y, z)).isSome) (fun _ => kn_lk1) kn_lk0) ?_
   refine ⟨kd [], nxG ?_⟩
   refine go [] <| sG [(0, .string (St ((kget E20 (x, y, z)).tag))), (1, iV ((kget E20 (x, y, z)).ord)), (2, iV ((kget E20 (x, y, z)).at_)), (3, iV ((kget E20 (x, y, z)).why)), (4, iV ((kget E20 (x, y, z)).st))] [.string (St ((kget E20 (x, y, z)).tag)), iV ((kget E20 (x, y, z)).ord), iV ((kget E20 (x, y, z)).at_), iV ((kget E20 (x, y, z)).why), iV ((kget E20 (x, y, z)).st)] h34 fun _ h36 => ⟨kd [], ?_⟩
   refine go [] ?_
   refine enL ?_
   exact ⟨r32, _, (lvF [.k 0 (pV b), .k 3 (pV r10), .k 5 (pV r32), .k 6 (.bool ((gget E20 (x, y, z)).isSome))]), h36⟩
  rintro a37 w38 ⟨rk, lr40, rfl, h39⟩
  refine ga <| go [.s 6 100000] ?_
  refine jnS (fun a w => ∃ ko_ : Int, ∃ ka_ : Int, ∃ kw_ : Int, ∃ lr : Fr, (ko_ = if (kget E20 (x, y, z)).ord < 0 then (S.A.length : Int) else (kget E20 (x, y, z)).ord) ∧ (ka_ = if (kget E20 (x, y, z)).ord < 0 then ta else (kget E20 (x, y, z)).at_) ∧ (kw_ = if (kget E20 (x, y, z)).ord < 0 then wy else (kget E20 (x, y, z)).why) ∧ ((kget E20 (x, y, z)).st = 2) ∧ ((gget E20 (x, y, z)).isSome = true) ∧ a = mk 69 (([(0, pV b), (3, pV r10), (5, pV rk)] : Fr) ++ lr) ∧ sat g w [Cl rk [.string (St ((kget E20 (x, y, z)).tag)), iV ko_, iV ka_, iV kw_, iV ((kget E20 (x, y, z)).st)] 70, Cl b [iV (((S.A.length : Nat) : Int)), .map (some m19)] 64, Gp kv vKn m19 E20, Cl r10 [iV ta, iV x, iV y, uV z, iV wy, iV an] 33, R]) ?_ ?_
  ·
   refine go [.s 6 1] ?_
   rcases Bool.eq_false_or_eq_true ((gget E20 (x, y, z)).isSome) with cb41 | cb41
   ·
    refine go [.v 6 1 (⟨.bool (!((gget E20 (x, y, z)).isSome)), .bool false, (by rw [cb41]; rfl)⟩), rd 8 1 0 4 1 h39, .s 8 2] ?_
    by_cases c42 : (kget E20 (x, y, z)).st = 2
    ·
     refine go [.v 8 2 (qnF ((kget E20 (x, y, z)).st) 2), rd 10 1 0 1 1 h39, .s 10 2] ?_
     by_cases c43 : (kget E20 (x, y, z)).ord < 0
     ·
      refine go [.v 10 2 (oT ((kget E20 (x, y, z)).ord < 0))] <| dw (fls [0, 1, 2, 3, 4, 5, 6, 7, 8] (Tr.an 9 (Tr.fl 10 (Tr.an 11 (Tr.fl 12 (Tr.an 13 Tr.nil)))))) h39 fun _ h45 => go [rd 11 3 1 0 1 h45, rd 11 5 3 0 1 h45, rd 11 7 3 4 1 h45] <| sG [(1, iV (((S.A.length : Nat) : Int)))] [.string (St ((kget E20 (x, y, z)).tag)), iV (((S.A.length : Nat) : Int)), iV ((kget E20 (x, y, z)).at_), iV ((kget E20 (x, y, z)).why), iV ((kget E20 (x, y, z)).st)] h45 fun _ h47 => ⟨kd [rd 0 7 3 4 1 h47, rd 0 5 3 0 1 h47], ?_⟩
      refine go [] <| sG [(2, iV ta)] [.string (St ((kget E20 (x, y, z)).tag)), iV (((S.A.length : Nat) : Int)), iV ta, iV ((kget E20 (x, y, z)).why), iV ((kget E20 (x, y, z)).st)] h47 fun _ h49 => ⟨kd [rd 0 7 3 4 1 h49], ?_⟩
      refine go [] <| sG [(3, iV wy)] [.string (St ((kget E20 (x, y, z)).tag)), iV (((S.A.length : Nat) : Int)), iV ta, iV wy, iV ((kget E20 (x, y, z)).st)] h49 fun _ h51 => ⟨kd [], ?_⟩
      refine go [] ?_
      refine enL ?_
      exact ⟨((S.A.length : Nat) : Int), ta, wy, _, (by split <;> omega), (by split <;> omega), (by split <;> omega), (by omega), cb41, (lvF [.k 0 (pV b), .k 3 (pV r10), .k 5 (pV rk)]), h51⟩
     refine go [.v 10 2 (oF ((kget E20 (x, y, z)).ord < 0))] ?_
     refine enL ?_
     exact ⟨(kget E20 (x, y, z)).ord, (kget E20 (x, y, z)).at_, (kget E20 (x, y, z)).why, _, (by split <;> omega), (by split <;> omega), (by split <;> omega), (by omega), cb41, (lvF [.k 0 (pV b), .k 3 (pV r10), .k 5 (pV rk)]), h39⟩
    refine go [.v 8 2 (qnT ((kget E20 (x, y, z)).st) 2)] <| up <| go [] ?_
    have hk52 := rm_kget hM21 cb41; have hk52b := hk52.2.1
    have he53 : trE S ⟨ta, (x, y, z), wy, an⟩ = 8 := trE_state (by omega) ((rm_some hM21 (x, y, z)).symm.trans cb41) (by show ¬ stOf S.A (x, y, z) = 2; omega)
    have h55 : sat g w38 [Rpt b S, Cl rk [.string (St ((kget E20 (x, y, z)).tag)), iV ((kget E20 (x, y, z)).ord), iV ((kget E20 (x, y, z)).at_), iV ((kget E20 (x, y, z)).why), iV ((kget E20 (x, y, z)).st)] 70, Cl r10 [iV ta, iV x, iV y, uV z, iV wy, iV an] 33, R] := rp_close hM21 hW22 rfl (tk5 (sf4 (sf4 (sf2 (sf4 (sf4 h39))))))
    have h56 : sat g w38 [Rpt b (trS S ⟨ta, (x, y, z), wy, an⟩), Cl rk [.string (St ((kget E20 (x, y, z)).tag)), iV ((kget E20 (x, y, z)).ord), iV ((kget E20 (x, y, z)).at_), iV ((kget E20 (x, y, z)).why), iV ((kget E20 (x, y, z)).st)] 70, Cl r10 [iV ta, iV x, iV y, uV z, iV wy, iV an] 33, R] := by rw [trS_no he53 (by decide)]; exact h55
    exact en (iV 8) [] ⟨_, _, rfl, ⟨by rw [he53], rfl⟩, (tk2 (sf1 (sf3 h56)))⟩
   refine go [.v 6 1 (⟨.bool (!((gget E20 (x, y, z)).isSome)), .bool true, (by rw [cb41]; rfl)⟩)] ?_
   refine up <| go [] ?_
   have he58 : trE S ⟨ta, (x, y, z), wy, an⟩ = 5 := trE_none (by omega) ((rm_some hM21 (x, y, z)).symm.trans cb41)
   have h60 : sat g w38 [Rpt b S, Cl rk [.string (St ((kget E20 (x, y, z)).tag)), iV ((kget E20 (x, y, z)).ord), iV ((kget E20 (x, y, z)).at_), iV ((kget E20 (x, y, z)).why), iV ((kget E20 (x, y, z)).st)] 70, Cl r10 [iV ta, iV x, iV y, uV z, iV wy, iV an] 33, R] := rp_close hM21 hW22 rfl (tk5 (sf4 (sf4 (sf2 (sf4 (sf4 h39))))))
   have h61 : sat g w38 [Rpt b (trS S ⟨ta, (x, y, z), wy, an⟩), Cl rk [.string (St ((kget E20 (x, y, z)).tag)), iV ((kget E20 (x, y, z)).ord), iV ((kget E20 (x, y, z)).at_), iV ((kget E20 (x, y, z)).why), iV ((kget E20 (x, y, z)).st)] 70, Cl r10 [iV ta, iV x, iV y, uV z, iV wy, iV an] 33, R] := by rw [trS_no he58 (by decide)]; exact h60
   exact en (iV 5) [] ⟨_, _, rfl, ⟨by rw [he58], rfl⟩, (tk2 (sf1 (sf3 h61)))⟩
  rintro a63 w64 ⟨ko_, ka_, kw_, lr66, ho1_, ho2_, ho3_, hst_, his_, rfl, h65⟩
  refine ga <| go [rd 12 1 3 5 1 h65, .s 13 0] ?_
  by_cases c67 : an = 1
  ·
   refine go [.v 13 0 (qeT an 1)] <| sP [(4, iV 3)] [.string (St ((kget E20 (x, y, z)).tag)), iV ko_, iV ka_, iV kw_, iV 3] h65 fun _ h69 => ?_
   have h70 := tk5 (sf4 (sf3 (sf4 (sf4 (sf4 h69)))))
   refine go [rd 17 3 1 0 1 h69, .v 17 4 (oIr ((((S.A.length : Nat) : Int)) + 1))] <| sP [(0, iV (((S.A.length : Nat) : Int) + 1))] [iV (((S.A.length : Nat) : Int) + 1), .map (some m19)] h70 fun _ h72 => go [] <| dw (fls [0, 1, 2, 3, 4, 5, 6] (Tr.an 7 Tr.nil)) h72 fun _ h74 => ?_
   have h75 := tk5 (sf4 (sf3 (sf3 (sf4 (sf4 h74)))))
   refine go [rd 18 3 0 1 1 h74, rd 18 5 3 1 3 h74, rd 18 6 1 0 5 h74] ?_
   refine actG ?_
   refine ag_mapUpdate (t := 62) (m := (Operand.tmp 65)) (x := (Operand.tmp 67)) (y := (Operand.tmp 68)) (kv := kv) (ve := vKn) (by kernel_rfl) (by kernel_rfl) Tryz.underlying62 kyO (x, y, z) (⟨(kget E20 (x, y, z)).tag, ko_, ka_, kw_, 3⟩ : Kn) (by kernel_rfl) (by kernel_rfl) (by kernel_rfl) h75 (gset E20 (x, y, z) ⟨(kget E20 (x, y, z)).tag, ko_, ka_, kw_, 3⟩) rfl ?_
   intro w76 h77
   refine ⟨kd [], nxN ?_⟩
   refine go [] ?_
   have hk78 := rm_kget hM21 his_; have hk78b := hk78.2.1
   have he79 : trE S ⟨ta, (x, y, z), wy, an⟩ = 0 := trE_ok (by omega) ((rm_some hM21 (x, y, z)).symm.trans his_) (by show stOf S.A (x, y, z) = 2; omega)
   have h80 : sat g w76 [Gp kv vKn m19 (gset E20 (x, y, z) (stepK S.A.length (kget E20 (x, y, z)) ⟨ta, (x, y, z), wy, an⟩)), Cl b [iV (((S.A.length : Nat) : Int) + 1), .map (some m19)] 64, Cl rk [.string (St ((kget E20 (x, y, z)).tag)), iV ko_, iV ka_, iV kw_, iV 3] 70, Cl r10 [iV ta, iV x, iV y, uV z, iV wy, iV an] 33, R] := by rw [show stepK S.A.length (kget E20 (x, y, z)) ⟨ta, (x, y, z), wy, an⟩ = ⟨(kget E20 (x, y, z)).tag, ko_, ka_, kw_, 3⟩ from step_eq ho1_ ho2_ ho3_ (by split <;> (try split) <;> omega)]; exact h77
   have h82 : sat g w76 [Rpt b (trS S ⟨ta, (x, y, z), wy, an⟩), Cl rk [.string (St ((kget E20 (x, y, z)).tag)), iV ko_, iV ka_, iV kw_, iV 3] 70, Cl r10 [iV ta, iV x, iV y, uV z, iV wy, iV an] 33, R] := rp_close (rm_try hM21 he79 hk78.1) (rw_try hW22 (by omega)) (by rw [trS_len he79]; omega) (tk5 (sf4 (sf3 (sf4 (sf4 (sf4 h80))))))
   exact en (iV 0) [] ⟨_, _, rfl, ⟨by rw [he79], rfl⟩, (tk2 (sf1 (sf3 h82)))⟩
  refine go [.v 13 0 (qeF an 1), .s 15 0] ?_
  by_cases c84 : an = 3
  ·
   refine go [.v 15 0 (qeT an 3)] <| sP [(4, iV 4)] [.string (St ((kget E20 (x, y, z)).tag)), iV ko_, iV ka_, iV kw_, iV 4] h65 fun _ h86 => ?_
   have h87 := tk5 (sf4 (sf3 (sf4 (sf4 (sf4 h86)))))
   refine go [rd 17 3 1 0 1 h86, .v 17 4 (oIr ((((S.A.length : Nat) : Int)) + 1))] <| sP [(0, iV (((S.A.length : Nat) : Int) + 1))] [iV (((S.A.length : Nat) : Int) + 1), .map (some m19)] h87 fun _ h89 => go [] <| dw (fls [0, 1, 2, 3, 4, 5, 6] (Tr.an 7 Tr.nil)) h89 fun _ h91 => ?_
   have h92 := tk5 (sf4 (sf3 (sf3 (sf4 (sf4 h91)))))
   refine go [rd 18 3 0 1 1 h91, rd 18 5 3 1 3 h91, rd 18 6 1 0 5 h91] ?_
   refine actG ?_
   refine ag_mapUpdate (t := 62) (m := (Operand.tmp 65)) (x := (Operand.tmp 67)) (y := (Operand.tmp 68)) (kv := kv) (ve := vKn) (by kernel_rfl) (by kernel_rfl) Tryz.underlying62 kyO (x, y, z) (⟨(kget E20 (x, y, z)).tag, ko_, ka_, kw_, 4⟩ : Kn) (by kernel_rfl) (by kernel_rfl) (by kernel_rfl) h92 (gset E20 (x, y, z) ⟨(kget E20 (x, y, z)).tag, ko_, ka_, kw_, 4⟩) rfl ?_
   intro w93 h94
   refine ⟨kd [], nxN ?_⟩
   refine go [] ?_
   have hk95 := rm_kget hM21 his_; have hk95b := hk95.2.1
   have he96 : trE S ⟨ta, (x, y, z), wy, an⟩ = 0 := trE_ok (by omega) ((rm_some hM21 (x, y, z)).symm.trans his_) (by show stOf S.A (x, y, z) = 2; omega)
   have h97 : sat g w93 [Gp kv vKn m19 (gset E20 (x, y, z) (stepK S.A.length (kget E20 (x, y, z)) ⟨ta, (x, y, z), wy, an⟩)), Cl b [iV (((S.A.length : Nat) : Int) + 1), .map (some m19)] 64, Cl rk [.string (St ((kget E20 (x, y, z)).tag)), iV ko_, iV ka_, iV kw_, iV 4] 70, Cl r10 [iV ta, iV x, iV y, uV z, iV wy, iV an] 33, R] := by rw [show stepK S.A.length (kget E20 (x, y, z)) ⟨ta, (x, y, z), wy, an⟩ = ⟨(kget E20 (x, y, z)).tag, ko_, ka_, kw_, 4⟩ from step_eq ho1_ ho2_ ho3_ (by split <;> (try split) <;> omega)]; exact h94
   have h99 : sat g w93 [Rpt b (trS S ⟨ta, (x, y, z), wy, an⟩), Cl rk [.string (St ((kget E20 (x, y, z)).tag)), iV ko_, iV ka_, iV kw_, iV 4] 70, Cl r10 [iV ta, iV x, iV y, uV z, iV wy, iV an] 33, R] := rp_close (rm_try hM21 he96 hk95.1) (rw_try hW22 (by omega)) (by rw [trS_len he96]; omega) (tk5 (sf4 (sf3 (sf4 (sf4 (sf4 h97))))))
   exact en (iV 0) [] ⟨_, _, rfl, ⟨by rw [he96], rfl⟩, (tk2 (sf1 (sf3 h99)))⟩
  have h101 := tk5 (sf4 (sf3 (sf4 (sf4 (sf4 h65)))))
  refine go [.v 15 0 (qeF an 3), rd 17 3 1 0 1 h65, .v 17 4 (oIr ((((S.A.length : Nat) : Int)) + 1))] <| sP [(0, iV (((S.A.length : Nat) : Int) + 1))] [iV (((S.A.length : Nat) : Int) + 1), .map (some m19)] h101 fun _ h103 => go [] <| dw (fls [0, 1, 2, 3, 4, 5, 6] (Tr.an 7 Tr.nil)) h103 fun _ h105 => ?_
  have h106 := tk5 (sf4 (sf3 (sf3 (sf4 (sf4 h105)))))
  refine go [rd 18 3 0 1 1 h105, rd 18 5 3 1 3 h105, rd 18 6 1 0 5 h105] ?_
  refine actG ?_
  refine ag_mapUpdate (t := 62) (m := (Operand.tmp 65)) (x := (Operand.tmp 67)) (y := (Operand.tmp 68)) (kv := kv) (ve := vKn) (by kernel_rfl) (by kernel_rfl) Tryz.underlying62 kyO (x, y, z) (⟨(kget E20 (x, y, z)).tag, ko_, ka_, kw_, (kget E20 (x, y, z)).st⟩ : Kn) (by kernel_rfl) (by kernel_rfl) (by kernel_rfl) h106 (gset E20 (x, y, z) ⟨(kget E20 (x, y, z)).tag, ko_, ka_, kw_, (kget E20 (x, y, z)).st⟩) rfl ?_
  intro w107 h108
  refine ⟨kd [], nxN ?_⟩
  refine go [] ?_
  have hk109 := rm_kget hM21 his_; have hk109b := hk109.2.1
  have he110 : trE S ⟨ta, (x, y, z), wy, an⟩ = 0 := trE_ok (by omega) ((rm_some hM21 (x, y, z)).symm.trans his_) (by show stOf S.A (x, y, z) = 2; omega)
  have h111 : sat g w107 [Gp kv vKn m19 (gset E20 (x, y, z) (stepK S.A.length (kget E20 (x, y, z)) ⟨ta, (x, y, z), wy, an⟩)), Cl b [iV (((S.A.length : Nat) : Int) + 1), .map (some m19)] 64, Cl rk [.string (St ((kget E20 (x, y, z)).tag)), iV ko_, iV ka_, iV kw_, iV ((kget E20 (x, y, z)).st)] 70, Cl r10 [iV ta, iV x, iV y, uV z, iV wy, iV an] 33, R] := by rw [show stepK S.A.length (kget E20 (x, y, z)) ⟨ta, (x, y, z), wy, an⟩ = ⟨(kget E20 (x, y, z)).tag, ko_, ka_, kw_, (kget E20 (x, y, z)).st⟩ from step_eq ho1_ ho2_ ho3_ (by split <;> (try split) <;> omega)]; exact h108
  have h113 : sat g w107 [Rpt b (trS S ⟨ta, (x, y, z), wy, an⟩), Cl rk [.string (St ((kget E20 (x, y, z)).tag)), iV ko_, iV ka_, iV kw_, iV ((kget E20 (x, y, z)).st)] 70, Cl r10 [iV ta, iV x, iV y, uV z, iV wy, iV an] 33, R] := rp_close (rm_try hM21 he110 hk109.1) (rw_try hW22 (by omega)) (by rw [trS_len he110]; omega) (tk5 (sf4 (sf3 (sf4 (sf4 (sf4 h111))))))
  exact en (iV 0) [] ⟨_, _, rfl, ⟨by rw [he110], rfl⟩, (tk2 (sf1 (sf3 h113)))⟩
 refine go [.v 3 2 (qnT ((attE ⟨ta, (x, y, z), wy, an⟩)) 0)] ?_
 have he115 : trE S ⟨ta, (x, y, z), wy, an⟩ = 2 := trE_arg (by omega)
 have h116 : sat g w16 [Rpt b (trS S ⟨ta, (x, y, z), wy, an⟩), Cl r10 [iV ta, iV x, iV y, uV z, iV wy, iV an] 33, R] := by rw [trS_no he115 (by decide)]; exact h17
 exact en (iV 2) [] ⟨_, _, rfl, ⟨by rw [he115], rfl⟩, (tk2 (sf1 (sf2 h116)))⟩

end Go.Proofs.YtfoliffeieeihaaGreatDoor

/-
  Comparisons, and a range over a report's map. No program in sight.
-/
namespace Go.Proofs.YtfoliffeieeihaaGreatDoor
def cmpI (a b : Int) : Int := if a < b then -1 else if b < a then 1 else 0
theorem cmpI_lt {a b : Int} : cmpI a b < 0 ↔ a < b := by
  unfold cmpI
  split
  · simp_all
  · split <;> simp_all
theorem ord_kget (E : Km) (k : Ky) : (kget E k).ord = ordE E k := by
  unfold kget ordE
  cases gget E k <;> rfl
theorem erase_perm {α : Type} : ∀ {L : List α} {i : Nat} {q : α}, L[i]? = some q → L.Perm (q :: L.eraseIdx i)
  | [], _, _, h => by simp at h
  | a :: L, 0, q, h => by
    rw [List.getElem?_cons_zero] at h
    obtain rfl := Option.some.inj h
    exact List.Perm.refl _
  | a :: L, i + 1, q, h => by
    rw [List.getElem?_cons_succ] at h
    exact ((erase_perm h).cons a).trans (List.Perm.swap q a _)
theorem toLk_t {q : Ky × Kn} (h : 0 ≤ q.2.ord ∧ q.2.why = 3) : toLk q = some ⟨q.2.tag, (q.1.1, q.1.2.1, q.1.2.2), q.2.at_, q.2.st⟩ := if_pos h
theorem toLk_f {q : Ky × Kn} (h : ¬ (0 ≤ q.2.ord ∧ q.2.why = 3)) : toLk q = none := if_neg h
theorem lk_go1 {E S : Km} {acc : List Lk} {i : Nat} {q : Ky × Kn} {x : Lk} (hP : (acc ++ S.filterMap toLk).Perm (E.filterMap toLk)) (hq : S[i]? = some q) (hx : toLk q = some x) : ((acc ++ [x]) ++ (S.eraseIdx i).filterMap toLk).Perm (E.filterMap toLk) := by
  refine List.Perm.trans ?_ hP
  rw [List.append_assoc]
  refine List.Perm.append_left _ ?_
  have h1 := (erase_perm hq).filterMap toLk
  rw [List.filterMap_cons, hx] at h1
  exact h1.symm
theorem lk_go0 {E S : Km} {acc : List Lk} {i : Nat} {q : Ky × Kn} (hP : (acc ++ S.filterMap toLk).Perm (E.filterMap toLk)) (hq : S[i]? = some q) (hx : toLk q = none) : (acc ++ (S.eraseIdx i).filterMap toLk).Perm (E.filterMap toLk) := by
  refine List.Perm.trans ?_ hP
  refine List.Perm.append_left _ ?_
  have h1 := (erase_perm hq).filterMap toLk
  rw [List.filterMap_cons, hx] at h1
  exact h1.symm
theorem lk_end {E : Km} {acc : List Lk} (hP : (acc ++ ([] : Km).filterMap toLk).Perm (E.filterMap toLk)) : acc.Perm (E.filterMap toLk) := by simpa using hP
theorem lkp_len {E S : Km} {acc : List Lk} (hP : (acc ++ S.filterMap toLk).Perm (E.filterMap toLk)) : acc.length ≤ E.length := by
  have h1 := hP.length_eq
  rw [List.length_append] at h1
  have h2 := List.length_filterMap_le toLk E
  omega
theorem erase_len {α : Type} {S : List α} {i : Nat} {q : α} (h : S[i]? = some q) : (S.eraseIdx i).length + 1 = S.length := by
  have := (List.getElem?_eq_some_iff.1 h).1
  rw [List.length_eraseIdx, if_pos this]
  omega
/-- A copy of a report's map, entry by entry. -/
structure Pk (E S C : Km) : Prop where
  kc : (C.map (·.1)).Nodup
  nd : (E.map (·.1)).Nodup
  pm : E.Perm (S ++ C)
theorem pk_start {E : Km} (h : (E.map (·.1)).Nodup) : Pk E E [] := ⟨List.nodup_nil, h, by rw [List.append_nil]⟩
theorem pk_go {E S C : Km} {i : Nat} {q : Ky × Kn} (h : Pk E S C) (hq : S[i]? = some q) : Pk E (S.eraseIdx i) (gset C q.1 q.2) := by
  have hp := erase_perm hq
  have hp2 : E.Perm (S.eraseIdx i ++ (C ++ [q])) := by
    refine h.pm.trans ((hp.append_right C).trans ?_)
    rw [← List.append_assoc]
    exact List.perm_append_comm (l₁ := [q]) (l₂ := S.eraseIdx i ++ C)
  have hn : gget C q.1 = none := by
    rw [gn_none]
    intro hm
    have h1 : ((S.eraseIdx i ++ (C ++ [q])).map (·.1)).Nodup := (hp2.map (·.1)).nodup_iff.1 h.nd
    rw [List.map_append, List.map_append, List.nodup_append] at h1
    have h2 := (List.nodup_append.1 h1.2.1).2.2 q.1 hm q.1 (by simp)
    exact h2 rfl
  rw [gn_set_new hn]
  refine ⟨?_, h.nd, hp2⟩
  have h1 : ((S.eraseIdx i ++ (C ++ [q])).map (·.1)).Nodup := (hp2.map (·.1)).nodup_iff.1 h.nd
  rw [List.map_append, List.nodup_append] at h1
  exact h1.2.1
theorem rm_perm {E C : Km} {S : Rp} (hm : Rm E S) (h : E.Perm C) : Rm C S := by
  have hn : (C.map (·.1)).Nodup := (h.map (·.1)).nodup_iff.1 hm.nd
  refine ⟨hn, fun k => ?_, h.length_eq.symm.trans hm.len⟩
  rw [← hm.get k]
  cases hc : gget C k with
  | some v => rw [(gn_mem hm.nd).2 (h.mem_iff.2 ((gn_mem hn).1 hc))]
  | none =>
    cases he : gget E k with
    | none => rfl
    | some v =>
      rw [(gn_mem hn).2 (h.mem_iff.1 ((gn_mem hm.nd).1 he))] at hc
      cases hc
theorem pk_end {E C : Km} {S : Rp} (hm : Rm E S) (h : Pk E [] C) : Rm C S := rm_perm hm h.pm
end Go.Proofs.YtfoliffeieeihaaGreatDoor

/- Walks, printed by my generator l3.py. -/
namespace Go.Proofs.YtfoliffeieeihaaGreatDoor
set_option maxHeartbeats 4000000 in
theorem nan_i (za : Int) : HT Tryz.prog 60 [iV za] [] (fun v K => v = .bool false ∧ K = []) := by
 refine hiS Tryz.func60 Tryz.ntmps60 fun g w0 R h0 => go [.v 1 2 (qnF za za)] ?_
 exact en (.bool false) [] ⟨_, _, rfl, ⟨rfl, rfl⟩, h0⟩

set_option maxHeartbeats 4000000 in
theorem cmpi_ht (za zb : Int) : HT Tryz.prog 42 [iV za, iV zb] [] (fun v K => v = iV (cmpI za zb) ∧ K = []) := by
 refine hiS Tryz.func42 Tryz.ntmps42 fun g w0 R h0 => go [] <| cl0 Tryz.call60 (nan_i za) h0 fun _ h11 => go [] <| cl0 Tryz.call60 (nan_i zb) h11 fun _ h13 => go [.s 9 2] ?_
 by_cases c14 : za < zb
 ·
  refine go [.v 9 2 (oT (za < zb))] ?_
  exact en (iV (-1)) [] ⟨_, _, rfl, ⟨by unfold cmpI; rw [if_pos (by omega)], rfl⟩, h13⟩
 refine go [.v 9 2 (oF (za < zb)), .s 11 2] ?_
 by_cases c15 : za > zb
 ·
  refine go [.v 11 2 (oT (za > zb))] ?_
  exact en (iV 1) [] ⟨_, _, rfl, ⟨by unfold cmpI; rw [if_neg (by omega), if_pos (by omega)], rfl⟩, h13⟩
 refine go [.v 11 2 (oF (za > zb))] ?_
 exact en (iV 0) [] ⟨_, _, rfl, ⟨by unfold cmpI; rw [if_neg (by omega), if_neg (by omega)], rfl⟩, h13⟩

set_option maxHeartbeats 4000000 in
theorem all1_ht (W : World) (c b m : Nat) (es : Array MapEntry) (clk : Nat) (E : Km) (hc : W.cell? ⟨c, 0, none⟩ = some (pV b)) (hb : W.cell? ⟨b, 1, none⟩ = some (.map (some m))) (hm : W.heap[m]? = some (.map es clk)) (he : MOk kv vKn E es clk) (x y : Lk) : HT Tryz.prog 41 [.agg #[.string (St x.tag), iV x.out.1, iV x.out.2.1, uV x.out.2.2, iV x.at_, iV x.st], .agg #[.string (St y.tag), iV y.out.1, iV y.out.2.1, uV y.out.2.2, iV y.at_, iV y.st], pV c] [Old W] (fun v K => v = iV (cmpI (ordE E x.out) (ordE E y.out)) ∧ K = [Old W]) := by
 refine hiS Tryz.func41 Tryz.ntmps41 fun g w0 R h0 => go [] <| nP 61 [.string (St x.tag), iV x.out.1, iV x.out.2.1, uV x.out.2.2, iV x.at_, iV x.st] h0 (fun _ _ h12 => ?_)
 refine nP 61 [.string (St y.tag), iV y.out.1, iV y.out.2.1, uV y.out.2.2, iV y.at_, iV y.st] h12 (fun _ _ h15 => ?_)
 refine go [] <| dw (fls [0, 1, 2, 3, 4, 5, 8, 9, 10, 11, 12, 13] (Tr.an2 6 (Tr.fl 7 (Tr.an 14 (Tr.fl 15 (Tr.an 16 (Tr.fl 17 Tr.nil))))) 14 (Tr.fl 15 (Tr.an 6 (Tr.fl 7 (Tr.an 16 (Tr.fl 17 Tr.nil))))))) h15 fun _ h17 => go [.r 1 0 c 0 [pV b] ⟨sat_cellOld h17 2 rfl hc, trivial⟩, .r 1 3 b 1 [.map (some m)] ⟨sat_cellOld h17 2 rfl hb, trivial⟩, rd 1 5 1 1 3 h17, .r 1 8 c 0 [pV b] ⟨sat_cellOld h17 2 rfl hc, trivial⟩, .r 1 11 b 1 [.map (some m)] ⟨sat_cellOld h17 2 rfl hb, trivial⟩, rd 1 13 0 1 3 h17] ?_
 refine br2 ?_ ?_
 ·
  refine actG ?_
  refine act_law (d := 12) (.agg #[.string (St ((kget E (x.out.1, x.out.2.1, x.out.2.2)).tag)), iV ((kget E (x.out.1, x.out.2.1, x.out.2.2)).ord), iV ((kget E (x.out.1, x.out.2.1, x.out.2.2)).at_), iV ((kget E (x.out.1, x.out.2.1, x.out.2.2)).why), iV ((kget E (x.out.1, x.out.2.1, x.out.2.2)).st)]) (by kernel_rfl) rfl (law_lookupO (t := 62) (z := .agg #[.string (St []), iV 0, iV 0, iV 0, iV 0]) (m := (Operand.tmp 9)) (x := (Operand.tmp 11)) (kv := kv) (ve := vKn) (by kernel_rfl) Tryz.underlying62 kyO (by kernel_rfl) (x.out.1, x.out.2.1, x.out.2.2) (by kernel_rfl) (by kernel_rfl) (j := 2) h17 rfl hm he (.agg #[.string (St ((kget E (x.out.1, x.out.2.1, x.out.2.2)).tag)), iV ((kget E (x.out.1, x.out.2.1, x.out.2.2)).ord), iV ((kget E (x.out.1, x.out.2.1, x.out.2.2)).at_), iV ((kget E (x.out.1, x.out.2.1, x.out.2.2)).why), iV ((kget E (x.out.1, x.out.2.1, x.out.2.2)).st)]) (fun _ => kn_lg1) kn_lg0) ?_
  refine ⟨kd [rd 0 13 0 1 3 h17, .r 0 11 b 1 [.map (some m)] ⟨sat_cellOld h17 2 rfl hb, trivial⟩, .r 0 8 c 0 [pV b] ⟨sat_cellOld h17 2 rfl hc, trivial⟩], nxG ?_⟩
  refine go [] ?_
  refine actG ?_
  refine act_law (d := 20) (.agg #[.string (St ((kget E (y.out.1, y.out.2.1, y.out.2.2)).tag)), iV ((kget E (y.out.1, y.out.2.1, y.out.2.2)).ord), iV ((kget E (y.out.1, y.out.2.1, y.out.2.2)).at_), iV ((kget E (y.out.1, y.out.2.1, y.out.2.2)).why), iV ((kget E (y.out.1, y.out.2.1, y.out.2.2)).st)]) (by kernel_rfl) rfl (law_lookupO (t := 62) (z := .agg #[.string (St []), iV 0, iV 0, iV 0, iV 0]) (m := (Operand.tmp 17)) (x := (Operand.tmp 19)) (kv := kv) (ve := vKn) (by kernel_rfl) Tryz.underlying62 kyO (by kernel_rfl) (y.out.1, y.out.2.1, y.out.2.2) (by kernel_rfl) (by kernel_rfl) (j := 2) h17 rfl hm he (.agg #[.string (St ((kget E (y.out.1, y.out.2.1, y.out.2.2)).tag)), iV ((kget E (y.out.1, y.out.2.1, y.out.2.2)).ord), iV ((kget E (y.out.1, y.out.2.1, y.out.2.2)).at_), iV ((kget E (y.out.1, y.out.2.1, y.out.2.2)).why), iV ((kget E (y.out.1, y.out.2.1, y.out.2.2)).st)]) (fun _ => kn_lg1) kn_lg0) ?_
  refine ⟨kd [], nxG ?_⟩
  refine go [] <| cw0 Tryz.call42 (cmpi_ht ((kget E (x.out.1, x.out.2.1, x.out.2.2)).ord) ((kget E (y.out.1, y.out.2.1, y.out.2.2)).ord)) h17 fun _ h19 => ⟨kd [], ?_⟩
  refine go [] ?_
  exact en (iV ((cmpI ((kget E (x.out.1, x.out.2.1, x.out.2.2)).ord) ((kget E (y.out.1, y.out.2.1, y.out.2.2)).ord)))) [] ⟨_, _, rfl, ⟨by rw [show cmpI (kget E (x.out.1, x.out.2.1, x.out.2.2)).ord (kget E (y.out.1, y.out.2.1, y.out.2.2)).ord = cmpI (ordE E x.out) (ordE E y.out) from by rw [ord_kget, ord_kget]], rfl⟩, (tk2 (sf1 (sf3 (tk4 (sf3 (sf2 (sf2 (sf3 h19))))))))⟩
 refine actG ?_
 refine act_law (d := 20) (.agg #[.string (St ((kget E (y.out.1, y.out.2.1, y.out.2.2)).tag)), iV ((kget E (y.out.1, y.out.2.1, y.out.2.2)).ord), iV ((kget E (y.out.1, y.out.2.1, y.out.2.2)).at_), iV ((kget E (y.out.1, y.out.2.1, y.out.2.2)).why), iV ((kget E (y.out.1, y.out.2.1, y.out.2.2)).st)]) (by kernel_rfl) rfl (law_lookupO (t := 62) (z := .agg #[.string (St []), iV 0, iV 0, iV 0, iV 0]) (m := (Operand.tmp 17)) (x := (Operand.tmp 19)) (kv := kv) (ve := vKn) (by kernel_rfl) Tryz.underlying62 kyO (by kernel_rfl) (y.out.1, y.out.2.1, y.out.2.2) (by kernel_rfl) (by kernel_rfl) (j := 2) h17 rfl hm he (.agg #[.string (St ((kget E (y.out.1, y.out.2.1, y.out.2.2)).tag)), iV ((kget E (y.out.1, y.out.2.1, y.out.2.2)).ord), iV ((kget E (y.out.1, y.out.2.1, y.out.2.2)).at_), iV ((kget E (y.out.1, y.out.2.1, y.out.2.2)).why), iV ((kget E (y.out.1, y.out.2.1, y.out.2.2)).st)]) (fun _ => kn_lg1) kn_lg0) ?_
 refine ⟨kd [rd 0 5 1 1 3 h17, .r 0 3 b 1 [.map (some m)] ⟨sat_cellOld h17 2 rfl hb, trivial⟩, .r 0 0 c 0 [pV b] ⟨sat_cellOld h17 2 rfl hc, trivial⟩], nxG ?_⟩
 refine go [] ?_
 refine actG ?_
 refine act_law (d := 12) (.agg #[.string (St ((kget E (x.out.1, x.out.2.1, x.out.2.2)).tag)), iV ((kget E (x.out.1, x.out.2.1, x.out.2.2)).ord), iV ((kget E (x.out.1, x.out.2.1, x.out.2.2)).at_), iV ((kget E (x.out.1, x.out.2.1, x.out.2.2)).why), iV ((kget E (x.out.1, x.out.2.1, x.out.2.2)).st)]) (by kernel_rfl) rfl (law_lookupO (t := 62) (z := .agg #[.string (St []), iV 0, iV 0, iV 0, iV 0]) (m := (Operand.tmp 9)) (x := (Operand.tmp 11)) (kv := kv) (ve := vKn) (by kernel_rfl) Tryz.underlying62 kyO (by kernel_rfl) (x.out.1, x.out.2.1, x.out.2.2) (by kernel_rfl) (by kernel_rfl) (j := 2) h17 rfl hm he (.agg #[.string (St ((kget E (x.out.1, x.out.2.1, x.out.2.2)).tag)), iV ((kget E (x.out.1, x.out.2.1, x.out.2.2)).ord), iV ((kget E (x.out.1, x.out.2.1, x.out.2.2)).at_), iV ((kget E (x.out.1, x.out.2.1, x.out.2.2)).why), iV ((kget E (x.out.1, x.out.2.1, x.out.2.2)).st)]) (fun _ => kn_lg1) kn_lg0) ?_
 refine ⟨kd [], nxG ?_⟩
 refine go [] <| cw0 Tryz.call42 (cmpi_ht ((kget E (x.out.1, x.out.2.1, x.out.2.2)).ord) ((kget E (y.out.1, y.out.2.1, y.out.2.2)).ord)) h17 fun _ h23 => ⟨kd [], ?_⟩
 refine go [] ?_
 exact en (iV ((cmpI ((kget E (x.out.1, x.out.2.1, x.out.2.2)).ord) ((kget E (y.out.1, y.out.2.1, y.out.2.2)).ord)))) [] ⟨_, _, rfl, ⟨by rw [show cmpI (kget E (x.out.1, x.out.2.1, x.out.2.2)).ord (kget E (y.out.1, y.out.2.1, y.out.2.2)).ord = cmpI (ordE E x.out) (ordE E y.out) from by rw [ord_kget, ord_kget]], rfl⟩, (tk2 (sf1 (sf3 (tk4 (sf3 (sf2 (sf2 (sf3 h23))))))))⟩

set_option maxHeartbeats 4000000 in
theorem len64_z  : HT Tryz.prog 82 [.int .u64 0] [] (fun v K => v = iV 0 ∧ K = []) := by
 refine hiS Tryz.func82 Tryz.ntmps82 fun g w0 R h0 => go [.v 10 2 (oYr 0), .s 10 3] <| lwP (yV 0) (law_idxStr (x := (Operand.const (.string (St [0, 1, 2, 2, 3, 3, 3, 3, 4, 4, 4, 4, 4, 4, 4, 4, 5, 5, 5, 5, 5, 5, 5, 5, 5, 5, 5, 5, 5, 5, 5, 5, 6, 6, 6, 6, 6, 6, 6, 6, 6, 6, 6, 6, 6, 6, 6, 6, 6, 6, 6, 6, 6, 6, 6, 6, 6, 6, 6, 6, 6, 6, 6, 6, 7, 7, 7, 7, 7, 7, 7, 7, 7, 7, 7, 7, 7, 7, 7, 7, 7, 7, 7, 7, 7, 7, 7, 7, 7, 7, 7, 7, 7, 7, 7, 7, 7, 7, 7, 7, 7, 7, 7, 7, 7, 7, 7, 7, 7, 7, 7, 7, 7, 7, 7, 7, 7, 7, 7, 7, 7, 7, 7, 7, 7, 7, 7, 7, 8, 8, 8, 8, 8, 8, 8, 8, 8, 8, 8, 8, 8, 8, 8, 8, 8, 8, 8, 8, 8, 8, 8, 8, 8, 8, 8, 8, 8, 8, 8, 8, 8, 8, 8, 8, 8, 8, 8, 8, 8, 8, 8, 8, 8, 8, 8, 8, 8, 8, 8, 8, 8, 8, 8, 8, 8, 8, 8, 8, 8, 8, 8, 8, 8, 8, 8, 8, 8, 8, 8, 8, 8, 8, 8, 8, 8, 8, 8, 8, 8, 8, 8, 8, 8, 8, 8, 8, 8, 8, 8, 8, 8, 8, 8, 8, 8, 8, 8, 8, 8, 8, 8, 8, 8, 8, 8, 8, 8, 8, 8, 8, 8, 8, 8, 8, 8, 8, 8, 8, 8, 8, 8, 8, 8, 8, 8, 8])))) (i := (Operand.tmp 21)) (k := .u8) (s := [0, 1, 2, 2, 3, 3, 3, 3, 4, 4, 4, 4, 4, 4, 4, 4, 5, 5, 5, 5, 5, 5, 5, 5, 5, 5, 5, 5, 5, 5, 5, 5, 6, 6, 6, 6, 6, 6, 6, 6, 6, 6, 6, 6, 6, 6, 6, 6, 6, 6, 6, 6, 6, 6, 6, 6, 6, 6, 6, 6, 6, 6, 6, 6, 7, 7, 7, 7, 7, 7, 7, 7, 7, 7, 7, 7, 7, 7, 7, 7, 7, 7, 7, 7, 7, 7, 7, 7, 7, 7, 7, 7, 7, 7, 7, 7, 7, 7, 7, 7, 7, 7, 7, 7, 7, 7, 7, 7, 7, 7, 7, 7, 7, 7, 7, 7, 7, 7, 7, 7, 7, 7, 7, 7, 7, 7, 7, 7, 8, 8, 8, 8, 8, 8, 8, 8, 8, 8, 8, 8, 8, 8, 8, 8, 8, 8, 8, 8, 8, 8, 8, 8, 8, 8, 8, 8, 8, 8, 8, 8, 8, 8, 8, 8, 8, 8, 8, 8, 8, 8, 8, 8, 8, 8, 8, 8, 8, 8, 8, 8, 8, 8, 8, 8, 8, 8, 8, 8, 8, 8, 8, 8, 8, 8, 8, 8, 8, 8, 8, 8, 8, 8, 8, 8, 8, 8, 8, 8, 8, 8, 8, 8, 8, 8, 8, 8, 8, 8, 8, 8, 8, 8, 8, 8, 8, 8, 8, 8, 8, 8, 8, 8, 8, 8, 8, 8, 8, 8, 8, 8, 8, 8, 8, 8, 8, 8, 8, 8, 8, 8, 8, 8, 8, 8, 8, 8]) (z := 0) (b := 0) (by kernel_rfl) Tryz.underlying9 (by kernel_rfl) (by kernel_rfl) 0 (by omega) rfl _) <| go [.v 10 4 (oIr 0)] ?_
 exact en (iV 0) [] ⟨_, _, rfl, ⟨rfl, rfl⟩, h0⟩

set_option maxHeartbeats 4000000 in
theorem len_z  : HT Tryz.prog 59 [.int .u64 0] [] (fun v K => v = iV 0 ∧ K = []) := by
 refine hiS Tryz.func59 Tryz.ntmps59 fun g w0 R h0 => go [] <| cl0 Tryz.call82 (len64_z) h0 fun _ h11 => go [] ?_
 exact en (iV 0) [] ⟨_, _, rfl, ⟨rfl, rfl⟩, h11⟩

set_option maxHeartbeats 4000000 in
theorem ins_z (p : Option Addr) (c r : Nat) : HT Tryz.prog 73 [.slice p 0 c, iV 0, iV 0, .func (Fn.func 41) #[] #[pV r]] [] (fun v K => v = .tuple #[] ∧ K = []) := by
 refine hiS Tryz.func73 Tryz.ntmps73 fun g w0 R h0 => go [] <| unS 1 <| go [] <| up <| go [] ?_
 exact en (.tuple #[]) [] ⟨_, _, rfl, ⟨rfl, rfl⟩, h0⟩

set_option maxHeartbeats 4000000 in
theorem pdq_z (p : Option Addr) (c r : Nat) : HT Tryz.prog 58 [.slice p 0 c, iV 0, iV 0, iV 0, .func (Fn.func 41) #[] #[pV r]] [] (fun v K => v = .tuple #[] ∧ K = []) := by
 refine hiS Tryz.func58 Tryz.ntmps58 fun g w0 R h0 => go [] <| unS 1 <| go [] <| cl0 Tryz.call73 (ins_z p c r) h0 fun _ h11 => go [] <| up <| go [] ?_
 exact en (.tuple #[]) [] ⟨_, _, rfl, ⟨rfl, rfl⟩, h11⟩

set_option maxHeartbeats 4000000 in
theorem sort_z (p : Option Addr) (c r : Nat) : HT Tryz.prog 40 [.slice p 0 c, .func (Fn.func 41) #[] #[pV r]] [] (fun v K => v = .tuple #[] ∧ K = []) := by
 refine hiS Tryz.func40 Tryz.ntmps40 fun g w0 R h0 => go [.v 1 3 (oLr 0)] <| cl0 Tryz.call59 (len_z) h0 fun _ h11 => go [] <| cl0 Tryz.call58 (pdq_z p c r) h11 fun _ h13 => go [] ?_
 exact en (.tuple #[]) [] ⟨_, _, rfl, ⟨rfl, rfl⟩, h13⟩

end Go.Proofs.YtfoliffeieeihaaGreatDoor
