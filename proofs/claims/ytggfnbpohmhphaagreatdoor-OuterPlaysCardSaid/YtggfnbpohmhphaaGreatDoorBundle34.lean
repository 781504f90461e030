/- Walks, printed by my generator o21.py. -/
import Derived.Test.YtggfnbpohmhphaaGreatDoorBundle33
import Derived.Test.YtggfnbpohmhphaaGreatDoorBundle32
namespace Go.Proofs.YtggfnbpohmhphaaGreatDoor
set_option maxHeartbeats 4000000 in
theorem wz_Acquire_n (kz az : Int) : HT Tryz.prog 28 [.pointer none, iV kz, iV az] [] (fun v K => v = .tuple #[.agg #[iV 0, iV 0, uV 0], iV 1] ∧ K = []) := by
 refine hiS Tryz.func28 Tryz.ntmps28 fun g w0 R h0 => go [] <| nP 32 [iV 0, iV 0, uV 0] h0 (fun _ _ h12 => ?_)
 refine go [] <| cl0 Tryz.call56 (wvalid_n) h12 fun _ h14 => go [] <| sP [(0, iV 0), (1, iV 0), (2, uV 0)] [iV 0, iV 0, uV 0] h14 fun _ h16 => go [] ?_
 exact en (.tuple #[.agg #[iV 0, iV 0, uV 0], iV 1]) [rd 0 0 0 0 3 h16] ⟨_, _, rfl, ⟨rfl, rfl⟩, (tk1 (sf1 h16))⟩

set_option maxHeartbeats 4000000 in
theorem wz_Release_n (x y z : Int) (hz0 : 0 ≤ z) (hz1 : z ≤ 4294967295) (wy : Int) : HT Tryz.prog 27 [.pointer none, .agg #[iV x, iV y, uV z], iV wy] [] (fun v K => v = .tuple #[iV 0, iV 1] ∧ K = []) := by
 refine hiS Tryz.func27 Tryz.ntmps27 fun g w0 R h0 => go [] <| nP 32 [iV x, iV y, uV z] h0 (fun _ _ h12 => ?_)
 refine go [] <| cl0 Tryz.call56 (wvalid_n) h12 fun _ h14 => go [] ?_
 exact en (.tuple #[iV 0, iV 1]) [] ⟨_, _, rfl, ⟨rfl, rfl⟩, (tk1 (sf1 h14))⟩

set_option maxHeartbeats 4000000 in
theorem wz_Until_n (x y z : Int) (hz0 : 0 ≤ z) (hz1 : z ≤ 4294967295) : HT Tryz.prog 24 [.pointer none, .agg #[iV x, iV y, uV z]] [] (fun v K => v = .tuple #[iV 0, iV 1] ∧ K = []) := by
 refine hiS Tryz.func24 Tryz.ntmps24 fun g w0 R h0 => go [] <| nP 32 [iV x, iV y, uV z] h0 (fun _ _ h12 => ?_)
 refine go [] <| cl0 Tryz.call56 (wvalid_n) h12 fun _ h14 => go [] ?_
 exact en (.tuple #[iV 0, iV 1]) [] ⟨_, _, rfl, ⟨rfl, rfl⟩, (tk1 (sf1 h14))⟩

set_option maxHeartbeats 4000000 in
theorem wz_Renew_n (x y z : Int) (hz0 : 0 ≤ z) (hz1 : z ≤ 4294967295) (tk : Int) : HT Tryz.prog 25 [.pointer none, .agg #[iV x, iV y, uV z], iV tk] [] (fun v K => v = iV 1 ∧ K = []) := by
 refine hiS Tryz.func25 Tryz.ntmps25 fun g w0 R h0 => go [] <| nP 32 [iV x, iV y, uV z] h0 (fun _ _ h12 => ?_)
 refine go [] <| cl0 Tryz.call56 (wvalid_n) h12 fun _ h14 => go [] ?_
 exact en (iV 1) [] ⟨_, _, rfl, ⟨rfl, rfl⟩, (tk1 (sf1 h14))⟩

set_option maxHeartbeats 4000000 in
theorem wz_Tick_n (tk : Int) : HT Tryz.prog 29 [.pointer none, iV tk] [] (fun v K => v = iV 1 ∧ K = []) := by
 refine hiS Tryz.func29 Tryz.ntmps29 fun g w0 R h0 => go [] <| cl0 Tryz.call56 (wvalid_n) h0 fun _ h11 => go [] ?_
 exact en (iV 1) [] ⟨_, _, rfl, ⟨rfl, rfl⟩, h11⟩

set_option maxHeartbeats 4000000 in
theorem wz_Answer_n (l : List UInt8) : HT Tryz.prog 30 [.pointer none, .string (St l)] [] (fun v K => v = iV 1 ∧ K = []) := by
 refine hiS Tryz.func30 Tryz.ntmps30 fun g w0 R h0 => go [] <| cl0 Tryz.call56 (wvalid_n) h0 fun _ h11 => go [] ?_
 exact en (iV 1) [] ⟨_, _, rfl, ⟨rfl, rfl⟩, h11⟩

set_option maxHeartbeats 4000000 in
theorem wz_Now_n  : HT Tryz.prog 20 [.pointer none] [] (fun v K => v = iV 0 ∧ K = []) := by
 refine hiS Tryz.func20 Tryz.ntmps20 fun g w0 R h0 => go [] <| cl0 Tryz.call56 (wvalid_n) h0 fun _ h11 => go [] ?_
 exact en (iV 0) [] ⟨_, _, rfl, ⟨rfl, rfl⟩, h11⟩

set_option maxHeartbeats 4000000 in
theorem wz_Has_n (x y z : Int) (hz0 : 0 ≤ z) (hz1 : z ≤ 4294967295) : HT Tryz.prog 16 [.pointer none, .agg #[iV x, iV y, uV z]] [] (fun v K => v = .bool false ∧ K = []) := by
 refine hiS Tryz.func16 Tryz.ntmps16 fun g w0 R h0 => go [] <| nP 32 [iV x, iV y, uV z] h0 (fun _ _ h12 => ?_)
 refine go [] <| dw (Tr.fl 0 (Tr.an 1 (fls [2, 3] (Tr.an 4 (fls [5, 6, 7, 8, 9, 10, 11, 12, 13, 14, 16] (Tr.an 15 (Tr.an 17 (fls [18, 19] Tr.nil)))))))) h12 fun _ h14 => go [] <| cw0 Tryz.call56 (wvalid_n) h14 fun _ h16 => ⟨kd [], ?_⟩
 refine go [] <| dsk [] <| go [] <| dsk [] <| dsk [] <| go [] ?_
 exact en (.bool false) [] ⟨_, _, rfl, ⟨rfl, rfl⟩, (tk1 (sf1 h16))⟩

set_option maxHeartbeats 4000000 in
theorem wz_Ledger_n  : HT Tryz.prog 17 [.pointer none] [] (fun v K => v = .pointer none ∧ K = []) := by
 refine hiS Tryz.func17 Tryz.ntmps17 fun g w0 R h0 => go [] <| cl0 Tryz.call56 (wvalid_n) h0 fun _ h11 => go [] ?_
 exact en (.pointer none) [] ⟨_, _, rfl, ⟨rfl, rfl⟩, h11⟩

set_option maxHeartbeats 4000000 in
theorem wz_All_n  : HT Tryz.prog 19 [.pointer none] [] (fun v K => v = .slice none 0 0 ∧ K = []) := by
 refine hiS Tryz.func19 Tryz.ntmps19 fun g w0 R h0 => go [] <| cl0 Tryz.call56 (wvalid_n) h0 fun _ h11 => go [] ?_
 exact en (.slice none 0 0) [] ⟨_, _, rfl, ⟨rfl, rfl⟩, h11⟩

set_option maxHeartbeats 4000000 in
theorem wz_Copy_n  : HT Tryz.prog 31 [.pointer none] [] (fun v K => v = .pointer none ∧ K = []) := by
 refine hiS Tryz.func31 Tryz.ntmps31 fun g w0 R h0 => go [] <| cl0 Tryz.call56 (wvalid_n) h0 fun _ h11 => go [] ?_
 exact en (.pointer none) [] ⟨_, _, rfl, ⟨rfl, rfl⟩, h11⟩

end Go.Proofs.YtggfnbpohmhphaaGreatDoor

/- Walks, printed by my generator r7.py. -/
namespace Go.Proofs.YtggfnbpohmhphaaGreatDoor
theorem q37e32_neq_t {n : Nat} {l : Fr} {o : Oper} {x y : Operand} (a0 : Int) (a1 : Int) (a2 : Int) (c0 : Int) (c1 : Int) (c2 : Int) (ho : o.op = .binOp .neq 32 x y 32) (hx : fe n l x = .agg #[.int .i64 a0, .int .i64 a1, .int .u32 a2]) (hy : fe n l y = .agg #[.int .i64 c0, .int .i64 c1, .int .u32 c2]) (h : a0 = c0 ∧ a1 = c1 ∧ a2 = c2) (w : World) : (execOp (fe n l) o).run Tryz.prog w = .ok (.value (.bool false)) w := by
  obtain ⟨rfl, rfl, rfl⟩ := h
  simp [execOp, ho, hx, hy, go_sem]
set_option maxHeartbeats 4000000 in
theorem r12v_n  : HT Tryz.prog 81 [.pointer none] [] (fun v K => v = .bool false ∧ K = []) := by
 refine hiS Tryz.func81 Tryz.ntmps81 fun g w0 R h0 => go [] ?_
 exact en (.bool false) [] ⟨_, _, rfl, ⟨rfl, rfl⟩, h0⟩

set_option maxHeartbeats 4000000 in
theorem r7v_n  : HT Tryz.prog 104 [.pointer none] [] (fun v K => v = .bool false ∧ K = []) := by
 refine hiS Tryz.func104 Tryz.ntmps104 fun g w0 R h0 => go [] ?_
 exact en (.bool false) [] ⟨_, _, rfl, ⟨rfl, rfl⟩, h0⟩

set_option maxHeartbeats 4000000 in
theorem rz_Acquire_n (kz az : Int) : HT Tryz.prog 33 [.pointer none, iV kz, iV az] [] (fun v K => v = .tuple #[.agg #[iV 0, iV 0, uV 0], iV 1] ∧ K = []) := by
 refine hiS Tryz.func33 Tryz.ntmps33 fun g w0 R h0 => go [] <| nP 32 [iV 0, iV 0, uV 0] h0 (fun _ _ h12 => ?_)
 refine go [] <| cl0 Tryz.call81 (r12v_n) h12 fun _ h14 => go [] <| sP [(0, iV 0), (1, iV 0), (2, uV 0)] [iV 0, iV 0, uV 0] h14 fun _ h16 => go [] ?_
 exact en (.tuple #[.agg #[iV 0, iV 0, uV 0], iV 1]) [rd 0 0 0 0 3 h16] ⟨_, _, rfl, ⟨rfl, rfl⟩, (tk1 (sf1 h16))⟩

set_option maxHeartbeats 4000000 in
theorem rz_Release_n (x y z : Int) (wy : Int) : HT Tryz.prog 34 [.pointer none, .agg #[iV x, iV y, uV z], iV wy] [] (fun v K => v = .tuple #[iV 0, iV 1] ∧ K = []) := by
 refine hiS Tryz.func34 Tryz.ntmps34 fun g w0 R h0 => go [] <| nP 32 [iV x, iV y, uV z] h0 (fun _ _ h12 => ?_)
 refine go [] <| cl0 Tryz.call81 (r12v_n) h12 fun _ h14 => go [] ?_
 exact en (.tuple #[iV 0, iV 1]) [] ⟨_, _, rfl, ⟨rfl, rfl⟩, (tk1 (sf1 h14))⟩

set_option maxHeartbeats 4000000 in
theorem rz_Until_n (x y z : Int) : HT Tryz.prog 39 [.pointer none, .agg #[iV x, iV y, uV z]] [] (fun v K => v = .tuple #[iV 0, iV 1] ∧ K = []) := by
 refine hiS Tryz.func39 Tryz.ntmps39 fun g w0 R h0 => go [] <| nP 32 [iV x, iV y, uV z] h0 (fun _ _ h12 => ?_)
 refine go [] <| cl0 Tryz.call81 (r12v_n) h12 fun _ h14 => go [] ?_
 exact en (.tuple #[iV 0, iV 1]) [] ⟨_, _, rfl, ⟨rfl, rfl⟩, (tk1 (sf1 h14))⟩

set_option maxHeartbeats 4000000 in
theorem rz_Renew_n (x y z : Int) (tk : Int) : HT Tryz.prog 35 [.pointer none, .agg #[iV x, iV y, uV z], iV tk] [] (fun v K => v = iV 1 ∧ K = []) := by
 refine hiS Tryz.func35 Tryz.ntmps35 fun g w0 R h0 => go [] <| nP 32 [iV x, iV y, uV z] h0 (fun _ _ h12 => ?_)
 refine go [] <| cl0 Tryz.call81 (r12v_n) h12 fun _ h14 => go [] ?_
 exact en (iV 1) [] ⟨_, _, rfl, ⟨rfl, rfl⟩, (tk1 (sf1 h14))⟩

set_option maxHeartbeats 4000000 in
theorem rz_Tick_n (tk : Int) : HT Tryz.prog 36 [.pointer none, iV tk] [] (fun v K => v = iV 1 ∧ K = []) := by
 refine hiS Tryz.func36 Tryz.ntmps36 fun g w0 R h0 => go [] <| cl0 Tryz.call81 (r12v_n) h0 fun _ h11 => go [] ?_
 exact en (iV 1) [] ⟨_, _, rfl, ⟨rfl, rfl⟩, h11⟩

set_option maxHeartbeats 4000000 in
theorem rz_Answer_n (l : List UInt8) : HT Tryz.prog 37 [.pointer none, .string (St l)] [] (fun v K => v = iV 1 ∧ K = []) := by
 refine hiS Tryz.func37 Tryz.ntmps37 fun g w0 R h0 => go [] <| cl0 Tryz.call81 (r12v_n) h0 fun _ h11 => go [] ?_
 exact en (iV 1) [] ⟨_, _, rfl, ⟨rfl, rfl⟩, h11⟩

set_option maxHeartbeats 4000000 in
theorem rz_Now_n  : HT Tryz.prog 41 [.pointer none] [] (fun v K => v = iV 0 ∧ K = []) := by
 refine hiS Tryz.func41 Tryz.ntmps41 fun g w0 R h0 => go [] <| cl0 Tryz.call81 (r12v_n) h0 fun _ h11 => go [] ?_
 exact en (iV 0) [] ⟨_, _, rfl, ⟨rfl, rfl⟩, h11⟩

set_option maxHeartbeats 4000000 in
theorem rz_All_n  : HT Tryz.prog 43 [.pointer none] [] (fun v K => v = .slice none 0 0 ∧ K = []) := by
 refine hiS Tryz.func43 Tryz.ntmps43 fun g w0 R h0 => go [] <| cl0 Tryz.call81 (r12v_n) h0 fun _ h11 => go [] ?_
 exact en (.slice none 0 0) [] ⟨_, _, rfl, ⟨rfl, rfl⟩, h11⟩

set_option maxHeartbeats 4000000 in
theorem rz_Has_n (x y z : Int) : HT Tryz.prog 40 [.pointer none, .agg #[iV x, iV y, uV z]] [] (fun v K => v = .bool false ∧ K = []) := by
 refine hiS Tryz.func40 Tryz.ntmps40 fun g w0 R h0 => go [] <| nP 32 [iV x, iV y, uV z] h0 (fun _ _ h12 => ?_)
 refine go [] <| cl0 Tryz.call43 (rz_All_n ) h12 fun _ h14 => go [] <| unS 1 <| go [] <| up <| go [] ?_
 exact en (.bool false) [] ⟨_, _, rfl, ⟨rfl, rfl⟩, (tk1 (sf1 h14))⟩

set_option maxHeartbeats 4000000 in
theorem rz_Ledger_n  : HT Tryz.prog 44 [.pointer none] [] (fun v K => v = .pointer none ∧ K = []) := by
 refine hiS Tryz.func44 Tryz.ntmps44 fun g w0 R h0 => go [] <| cl0 Tryz.call81 (r12v_n) h0 fun _ h11 => go [] ?_
 exact en (.pointer none) [] ⟨_, _, rfl, ⟨rfl, rfl⟩, h11⟩

set_option maxHeartbeats 4000000 in
theorem rz_Copy_n  : HT Tryz.prog 38 [.pointer none] [] (fun v K => v = .pointer none ∧ K = []) := by
 refine hiS Tryz.func38 Tryz.ntmps38 fun g w0 R h0 => go [] <| cl0 Tryz.call81 (r12v_n) h0 fun _ h11 => go [] ?_
 exact en (.pointer none) [] ⟨_, _, rfl, ⟨rfl, rfl⟩, h11⟩

set_option maxHeartbeats 4000000 in
theorem r7all_n  : HT Tryz.prog 46 [.pointer none] [] (fun v K => v = .slice none 0 0 ∧ K = []) := by
 refine hiS Tryz.func46 Tryz.ntmps46 fun g w0 R h0 => go [] <| cl0 Tryz.call104 (r7v_n) h0 fun _ h11 => go [] ?_
 exact en (.slice none 0 0) [] ⟨_, _, rfl, ⟨rfl, rfl⟩, h11⟩

set_option maxHeartbeats 4000000 in
theorem plays_y (wo : World) (hg : Lett wo) (gn : Int) (hgn : 1 ≤ gn ∧ gn ≤ 4294967295) (p0 : Option Addr) (n0 c0 : Nat) (T0 : List Sq) (hr0 : Rd wo p0 n0 (fl eSq T0)) (hT0 : T0.length = n0) (hO0 : ∀ x ∈ T0, SqOk x) (x y z : Int) (hz0 : 0 ≤ z) (hz1 : z ≤ 4294967295) : HT Tryz.prog 9 [uV gn, .slice p0 n0 c0, .agg #[iV x, iV y, uV z]] [Old wo] (fun v K => v = .bool true ∧ K = [Old wo]) := by
 refine hiS Tryz.func9 Tryz.ntmps9 fun g w0 R h0 => go [] <| nP 32 [iV x, iV y, uV z] h0 (fun r10 _ h12 => ?_)
 refine go [] ?_
 by_cases c13 : (n0 : Int) ≤ 120
 ·
  rcases Bool.eq_false_or_eq_true (decide (Sho T0 120)) with cb14 | cb14
  ·
   refine cl1 Tryz.call11 ((by have h_ := short_ht p0 n0 c0 T0 (Old wo) (gv_old hr0) hT0 (by omega) 120; rw [cb14] at h_; exact h_)) (tk3 (sf2 (sf1 (sf2 h12)))) fun _ h17 => ?_
   have hsh18 : Sho T0 120 := of_decide_eq_true cb14; have hsh18l := hsh18.1; rw [hT0] at hsh18l
   refine go [] <| cP Tryz.call13 (wnew_ht gn (by omega)) h17 ?_
   rintro v K _ (⟨b19, rfl, rfl⟩) h21
   have h22 := ap1 h21
   refine go [] <| cP Tryz.call32 (r12new_y gn (by omega)) h22 ?_
   rintro v K _ (⟨b23, rfl, rfl⟩) h25
   have h26 := ap1 h25
   refine go [.s 5 8] <| lwP (.bool false) (law_neBool (t := 4) (x := (Operand.tmp 50)) (y := (Operand.tmp 52)) false false false (by kernel_rfl) Tryz.underlying4 (by kernel_rfl) (by kernel_rfl) rfl _) <| go [] ?_
   refine lpS (fun mz_ a w => ∃ i : Nat, ∃ W_ : Wst, ∃ bw : Nat, ∃ br : Nat, ∃ lr : Fr, mz_ = n0 - i ∧ (i ≤ n0) ∧ a = mk 264 (([(1, .slice p0 n0 c0), (5, pV r10), (7, pV bw), (9, pV br), (11, iV (i : Int))] : Fr) ++ lr) ∧ sat g w [Wd bw W_, WdR br W_, Cl r10 [iV x, iV y, uV z] 32, Old wo, R]) (n0 - 0) ⟨0, (wnew gn), b19, b23, _, rfl, (Nat.zero_le _), (lvF [.k 1 (.slice p0 n0 c0), .k 5 (pV r10), .k 7 (pV b19), .k 9 (pV b23), .o 11 (oJ .i64 0 (0 : Int))]), (tk5 (sf4 (sf3 (sf4 (sf3 (sf4 h26))))))⟩ ?_
   rintro m29 a30 w31 ⟨i, W_, bw, br, lr28, rfl, hi, rfl, h32⟩
   refine ga <| go [.s 8 3] ?_
   by_cases c33 : (i : Int) < (n0 : Int)
   ·
    obtain ⟨b34, off36, hp35⟩ := gv_ptr (j := 3) h32 rfl (gv_old hr0) (by omega)
    refine go [.v 8 3 (oT ((i : Int) < (n0 : Int))), .s 10 2] <| lwP (.pointer (some ⟨b34, off36 + i * 9, none⟩)) (law_indexSlP (x := (Operand.tmp 61)) (i := (Operand.tmp 62)) (p := p0) (b := b34) (off := off36) (z := (i : Int)) (len := n0) (cap := c0) (by kernel_rfl) Tryz.underlying22 9 (by kernel_rfl) i (by kernel_rfl) hp35 (by kernel_rfl) (by omega) (by omega) (off36 + i * 9) (by omega) _) ?_
    obtain ⟨x37, hx38⟩ : ∃ x, T0[i]? = some x := ⟨_, List.getElem?_eq_getElem (by rw [hT0]; omega)⟩
    have ho39 := hO0 _ (List.mem_of_getElem? hx38); have ho39a := ho39.1; have ho39b := ho39.2
    have ho39t := hsh18.2 _ (List.mem_of_getElem? hx38)
    refine go [.r 10 3 b34 (off36 + i * 9) [iV x37.d, iV x37.k, iV x37.a, iV x37.o.1, iV x37.o.2.1, uV x37.o.2.2, iV x37.wy, iV x37.tk, .string (St x37.tx)] ⟨gv_cell (j := 3) h32 rfl (gv_old hr0) hp35 (fl_get eSq_ok (j := 0) (v := iV x37.d) hx38 rfl) (off36 + i * 9) (by omega), gv_cell (j := 3) h32 rfl (gv_old hr0) hp35 (fl_get eSq_ok (j := 1) (v := iV x37.k) hx38 rfl) (off36 + i * 9 + 1) (by omega), gv_cell (j := 3) h32 rfl (gv_old hr0) hp35 (fl_get eSq_ok (j := 2) (v := iV x37.a) hx38 rfl) (off36 + i * 9 + 2) (by omega), gv_cell (j := 3) h32 rfl (gv_old hr0) hp35 (fl_get eSq_ok (j := 3) (v := iV x37.o.1) hx38 rfl) (off36 + i * 9 + 3) (by omega), gv_cell (j := 3) h32 rfl (gv_old hr0) hp35 (fl_get eSq_ok (j := 4) (v := iV x37.o.2.1) hx38 rfl) (off36 + i * 9 + 4) (by omega), gv_cell (j := 3) h32 rfl (gv_old hr0) hp35 (fl_get eSq_ok (j := 5) (v := uV x37.o.2.2) hx38 rfl) (off36 + i * 9 + 5) (by omega), gv_cell (j := 3) h32 rfl (gv_old hr0) hp35 (fl_get eSq_ok (j := 6) (v := iV x37.wy) hx38 rfl) (off36 + i * 9 + 6) (by omega), gv_cell (j := 3) h32 rfl (gv_old hr0) hp35 (fl_get eSq_ok (j := 7) (v := iV x37.tk) hx38 rfl) (off36 + i * 9 + 7) (by omega), gv_cell (j := 3) h32 rfl (gv_old hr0) hp35 (fl_get eSq_ok (j := 8) (v := .string (St x37.tx)) hx38 rfl) (off36 + i * 9 + 8) (by omega), trivial⟩] <| nP 36 [iV 0, iV 0, iV 0, iV 0, iV 0, uV 0, iV 0, iV 0, .string (St [])] h32 (fun r40 _ h42 => ?_)
    refine sP [(0, iV x37.d), (1, iV x37.k), (2, iV x37.a), (3, iV x37.o.1), (4, iV x37.o.2.1), (5, uV x37.o.2.2), (6, iV x37.wy), (7, iV x37.tk), (8, .string (St x37.tx))] [iV x37.d, iV x37.k, iV x37.a, iV x37.o.1, iV x37.o.2.1, uV x37.o.2.2, iV x37.wy, iV x37.tk, .string (St x37.tx)] h42 fun _ h44 => go [.s 11 100002] ?_
    refine jnS (fun a w => ∃ W2 : Wst, ∃ bw2 : Nat, ∃ br2 : Nat, ∃ lr : Fr, a = mk 264 (([(1, .slice p0 n0 c0), (5, pV r10), (7, pV bw2), (9, pV br2), (11, iV (i : Int)), (12, pV r40)] : Fr) ++ lr) ∧ sat g w [Wd bw2 W2, WdR br2 W2, Cl r10 [iV x, iV y, uV z] 32, Cl r40 [iV x37.d, iV x37.k, iV x37.a, iV x37.o.1, iV x37.o.2.1, uV x37.o.2.2, iV x37.wy, iV x37.tk, .string (St x37.tx)] 36, Old wo, R]) ?_ ?_
    ·
     refine go [rd 11 1 0 0 1 h44, .s 12 0] ?_
     by_cases c45 : x37.d = 0
     ·
      have h46 := tk6 (sf5 (sf4 (sf5 (sf5 (sf5 (sf5 h44))))))
      refine go [.v 12 0 (qeT x37.d 0), rd 13 2 0 1 1 h44, rd 13 4 0 2 1 h44] <| cl1 Tryz.call28 (wacq_ht bw W_ x37.k x37.a) h46 fun _ h48 => go [] <| nP 32 [iV 0, iV 0, uV 0] h48 (fun _ _ h51 => ?_)
      refine sP [(0, iV ((acqO W_ x37.k x37.a).1)), (1, iV ((acqO W_ x37.k x37.a).2.1)), (2, uV ((acqO W_ x37.k x37.a).2.2))] [iV ((acqO W_ x37.k x37.a).1), iV ((acqO W_ x37.k x37.a).2.1), uV ((acqO W_ x37.k x37.a).2.2)] h51 fun _ h53 => ?_
      have h54 := tk7 (sf6 (sf5 (sf5 (sf5 (sf6 (sf6 (sf6 h53)))))))
      refine go [rd 14 2 2 1 1 h53, rd 14 4 2 2 1 h53] <| cl1 Tryz.call33 (racq_ht br W_ x37.k x37.a) h54 fun _ h56 => go [] <| nP 32 [iV 0, iV 0, uV 0] h56 (fun _ _ h59 => ?_)
      refine sP [(0, iV ((acqO W_ x37.k x37.a).1)), (1, iV ((acqO W_ x37.k x37.a).2.1)), (2, uV ((acqO W_ x37.k x37.a).2.2))] [iV ((acqO W_ x37.k x37.a).1), iV ((acqO W_ x37.k x37.a).2.1), uV ((acqO W_ x37.k x37.a).2.2)] h59 fun _ h61 => go [rd 15 0 2 0 3 h61, rd 15 1 0 0 3 h61, .s 15 2] <| lwP (.bool false) (q37e32_neq_t (x := (Operand.tmp 87)) (y := (Operand.tmp 88)) ((acqO W_ x37.k x37.a).1) ((acqO W_ x37.k x37.a).2.1) ((acqO W_ x37.k x37.a).2.2) ((acqO W_ x37.k x37.a).1) ((acqO W_ x37.k x37.a).2.1) ((acqO W_ x37.k x37.a).2.2) (by kernel_rfl) (by kernel_rfl) (by kernel_rfl) ⟨rfl, rfl, rfl⟩ _) <| go [.v 15 6 (qnF ((acqE W_ x37.k x37.a)) ((acqE W_ x37.k x37.a)))] ?_
      refine enL ?_
      exact ⟨(acqS W_ x37.k x37.a), bw, br, _, (lvF [.k 1 (.slice p0 n0 c0), .k 5 (pV r10), .k 7 (pV bw), .k 9 (pV br), .k 11 (iV (i : Int)), .k 12 (pV r40)]), (tk6 (tk8 (sf7 (sf6 (sf7 (sf6 (sf7 (sf7 (sf1 (sf2 h61))))))))))⟩
     refine go [.v 12 0 (qeF x37.d 0), .s 17 0] ?_
     by_cases c64 : x37.d = 1
     ·
      have h65 := tk6 (sf5 (sf4 (sf5 (sf5 (sf5 (sf5 h44))))))
      refine go [.v 17 0 (qeT x37.d 1), rd 18 2 0 3 3 h44, rd 18 4 0 6 1 h44] <| cl1 Tryz.call27 (wrel_ht bw W_ x37.o.1 x37.o.2.1 x37.o.2.2 x37.wy (by omega) (by omega)) h65 fun _ h67 => ?_
      have h68 := tk6 (sf5 (sf4 (sf4 (sf5 (sf5 (sf5 h67))))))
      refine go [rd 19 2 1 3 3 h67, rd 19 4 1 6 1 h67] <| cl1 Tryz.call34 (rrel_ht br W_ x37.o.1 x37.o.2.1 x37.o.2.2 x37.wy (by omega) (by omega)) h68 fun _ h70 => go [.v 20 2 (qnF ((relA W_ ((x37.o.1, x37.o.2.1, x37.o.2.2) : Ky) x37.wy)) ((relA W_ ((x37.o.1, x37.o.2.1, x37.o.2.2) : Ky) x37.wy))), .v 20 6 (qnF ((relE W_ ((x37.o.1, x37.o.2.1, x37.o.2.2) : Ky) x37.wy)) ((relE W_ ((x37.o.1, x37.o.2.1, x37.o.2.2) : Ky) x37.wy)))] ?_
      refine enL ?_
      exact ⟨(relS W_ ((x37.o.1, x37.o.2.1, x37.o.2.2) : Ky) x37.wy), bw, br, _, (lvF [.k 1 (.slice p0 n0 c0), .k 5 (pV r10), .k 7 (pV bw), .k 9 (pV br), .k 11 (iV (i : Int)), .k 12 (pV r40)]), (tk6 (sf5 (sf4 (sf5 (sf4 (sf5 (sf5 h70)))))))⟩
     refine go [.v 17 0 (qeF x37.d 1), .s 22 0] ?_
     by_cases c72 : x37.d = 2
     ·
      refine go [.v 22 0 (qeT x37.d 2)] <| dw (fls [0, 1, 2, 3, 4, 6, 7, 8, 9, 10] (Tr.an 5 (Tr.an 11 (Tr.fl 12 Tr.nil)))) h44 fun _ h74 => ?_
      have h75 := tk6 (sf5 (sf4 (sf5 (sf5 (sf5 (sf5 h74))))))
      refine go [rd 23 2 0 3 3 h74, rd 23 4 0 7 1 h74, rd 23 8 0 3 3 h74, rd 23 10 0 7 1 h74] <| cw1 Tryz.call25 (wrenew_ht bw W_ x37.o.1 x37.o.2.1 x37.o.2.2 x37.tk (by omega) (by omega)) h75 fun _ h77 => ⟨kd [rd 0 10 1 7 1 h77, rd 0 8 1 3 3 h77], ?_⟩
      refine cw1 Tryz.call35 (rrenew_ht br W_ x37.o.1 x37.o.2.1 x37.o.2.2 x37.tk (by omega) (by omega)) (tk6 (sf5 (sf4 (sf4 (sf5 (sf5 (sf5 h77))))))) fun _ h80 => ⟨kd [], ?_⟩
      refine go [.v 23 12 (qnF ((renE W_ ((x37.o.1, x37.o.2.1, x37.o.2.2) : Ky) x37.tk)) ((renE W_ ((x37.o.1, x37.o.2.1, x37.o.2.2) : Ky) x37.tk)))] ?_
      refine enL ?_
      exact ⟨(renS W_ ((x37.o.1, x37.o.2.1, x37.o.2.2) : Ky) x37.tk), bw, br, _, (lvF [.k 1 (.slice p0 n0 c0), .k 5 (pV r10), .k 7 (pV bw), .k 9 (pV br), .k 11 (iV (i : Int)), .k 12 (pV r40)]), (tk6 (sf5 (sf4 (sf5 (sf4 (sf5 (sf5 h80)))))))⟩
     refine go [.v 22 0 (qeF x37.d 2), .s 25 0] ?_
     by_cases c82 : x37.d = 3
     ·
      refine go [.v 25 0 (qeT x37.d 3)] <| dw (fls [0, 1, 2, 4, 5, 6] (Tr.an 3 (Tr.an 7 (Tr.fl 8 Tr.nil)))) h44 fun _ h84 => ?_
      have h85 := tk6 (sf5 (sf4 (sf5 (sf5 (sf5 (sf5 h84))))))
      refine go [rd 26 2 0 7 1 h84, rd 26 6 0 7 1 h84] <| cw1 Tryz.call29 (wtick_ht bw W_ x37.tk) h85 fun _ h87 => ⟨kd [rd 0 6 1 7 1 h87], ?_⟩
      refine cw1 Tryz.call36 (r12tck_ht br W_ x37.tk) (tk6 (sf5 (sf4 (sf4 (sf5 (sf5 (sf5 h87))))))) fun _ h90 => ⟨kd [], ?_⟩
      refine go [.v 26 8 (qnF ((tckE W_ x37.tk)) ((tckE W_ x37.tk)))] ?_
      refine enL ?_
      exact ⟨(tckS W_ x37.tk), bw, br, _, (lvF [.k 1 (.slice p0 n0 c0), .k 5 (pV r10), .k 7 (pV bw), .k 9 (pV br), .k 11 (iV (i : Int)), .k 12 (pV r40)]), (tk6 (sf5 (sf4 (sf5 (sf4 (sf5 (sf5 h90)))))))⟩
     refine go [.v 25 0 (qeF x37.d 3), .s 28 0] ?_
     by_cases c92 : x37.d = 4
     ·
      refine go [.v 28 0 (qeT x37.d 4)] <| dw (fls [0, 1, 2, 4, 5, 6] (Tr.an 3 (Tr.an 7 (Tr.fl 8 Tr.nil)))) h44 fun _ h94 => ?_
      have h95 := tk6 (sf5 (sf5 (sf3 (sf4 (sf4 (sf5 h94))))))
      refine go [rd 29 2 0 8 1 h94, rd 29 6 0 8 1 h94] <| cw2 Tryz.call30 (wansw_ht wo hg bw W_ x37.tx (by omega)) h95 fun _ h97 => ⟨kd [rd 0 6 2 8 1 h97], ?_⟩
      refine cw1 Tryz.call37 (r12asw_ht br W_ x37.tx (by omega)) (tk6 (sf5 (sf4 (sf4 (sf4 (sf5 (sf5 h97))))))) fun _ h100 => ⟨kd [], ?_⟩
      refine go [.v 29 8 (qnF ((aswE W_ x37.tx)) ((aswE W_ x37.tx)))] ?_
      refine enL ?_
      exact ⟨(aswS W_ x37.tx), bw, br, _, (lvF [.k 1 (.slice p0 n0 c0), .k 5 (pV r10), .k 7 (pV bw), .k 9 (pV br), .k 11 (iV (i : Int)), .k 12 (pV r40)]), (tk6 (sf5 (sf4 (sf5 (sf4 (sf3 (sf5 h100)))))))⟩
     refine go [.v 28 0 (qeF x37.d 4), .s 31 0] ?_
     by_cases c102 : x37.d = 5
     ·
      have h104 := tk6 (sf5 (sf4 (sf5 (sf5 (sf5 (sf5 h44))))))
      refine go [.v 31 0 (qeT x37.d 5)] <| cP Tryz.call31 (wcopy_ht bw W_) h104 ?_
      rintro v K _ (⟨b103, rfl, rfl⟩) h106
      have h109 := tk7 (sf6 (sf5 (sf5 (sf5 (sf6 (sf6 (sf6 (ap2 h106))))))))
      refine go [] <| cP Tryz.call38 (r12copy_ht br W_) h109 ?_
      rintro v K _ (⟨b108, rfl, rfl⟩) h111
      have h112 := ap2 h111
      refine go [] ?_
      refine enL ?_
      exact ⟨W_, b103, b108, _, (lvF [.k 1 (.slice p0 n0 c0), .k 5 (pV r10), .k 7 (pV b103), .k 9 (pV b108), .k 11 (iV (i : Int)), .k 12 (pV r40)]), (tk6 (tk8 (sf7 (sf6 (sf7 (sf6 (sf7 (sf7 (sf1 (sf2 h112))))))))))⟩
     refine go [.v 31 0 (qeF x37.d 5)] ?_
     refine enL ?_
     exact ⟨W_, bw, br, _, (lvF [.k 1 (.slice p0 n0 c0), .k 5 (pV r10), .k 7 (pV bw), .k 9 (pV br), .k 11 (iV (i : Int)), .k 12 (pV r40)]), (tk6 (sf5 (sf5 (sf5 (sf2 (sf5 (sf5 h44)))))))⟩
    rintro a116 w117 ⟨W2, bw2, br2, lr119, rfl, h118⟩
    refine ga <| go [rd 34 2 3 3 3 h118] <| cl1 Tryz.call24 (wuntil_ht bw2 W2 x37.o.1 x37.o.2.1 x37.o.2.2 (by omega) (by omega)) h118 fun _ h121 => ?_
    have h122 := tk6 (sf5 (sf4 (sf5 (sf5 (sf5 (sf5 h121))))))
    refine go [rd 35 2 3 3 3 h121] <| cl1 Tryz.call39 (runtil_ht br2 W2 x37.o.1 x37.o.2.1 x37.o.2.2 (by omega) (by omega)) h122 fun _ h124 => ?_
    have h125 := tk6 (sf5 (sf4 (sf5 (sf5 (sf5 (sf5 h124))))))
    refine go [rd 36 1 2 0 3 h124] <| cl1 Tryz.call24 (wuntil_ht bw2 W2 x y z (by omega) (by omega)) h125 fun _ h127 => ?_
    have h128 := tk6 (sf5 (sf4 (sf5 (sf5 (sf5 (sf5 h127))))))
    refine go [rd 37 1 2 0 3 h127] <| cl1 Tryz.call39 (runtil_ht br2 W2 x y z (by omega) (by omega)) h128 fun _ h130 => go [] <| dw (fls [0, 1, 2, 3, 4, 5, 6, 7, 8, 9, 10, 11, 12, 13, 14, 15, 16, 17, 18, 19, 20, 22, 23] (Tr.an 21 (Tr.an 24 (fls [25, 26, 27, 28, 29, 30, 32, 33, 34] (Tr.an 31 (Tr.an 35 (fls [36, 37, 38, 39, 41] (Tr.an 40 (Tr.an 42 (fls [43, 44, 45, 46, 48] (Tr.an 47 (Tr.an 49 (Tr.an 50 (fls [51, 52] Tr.nil)))))))))))))) h130 fun _ h132 => ?_
    have h133 := tk6 (sf5 (sf4 (sf5 (sf5 (sf5 (sf5 h132))))))
    refine go [.v 38 2 (qnF ((untV W2 ((x37.o.1, x37.o.2.1, x37.o.2.2) : Ky))) ((untV W2 ((x37.o.1, x37.o.2.1, x37.o.2.2) : Ky)))), .v 38 6 (qnF ((untE W2 ((x37.o.1, x37.o.2.1, x37.o.2.2) : Ky))) ((untE W2 ((x37.o.1, x37.o.2.1, x37.o.2.2) : Ky)))), .v 38 11 (qnF ((untV W2 ((x, y, z) : Ky))) ((untV W2 ((x, y, z) : Ky)))), .v 38 16 (qnF ((untE W2 ((x, y, z) : Ky))) ((untE W2 ((x, y, z) : Ky)))), rd 38 20 2 0 3 h132, rd 38 23 2 0 3 h132] <| cw1 Tryz.call16 (whas_ht bw2 W2 x y z (by omega) (by omega)) h133 fun _ h135 => ⟨kd [rd 0 23 2 0 3 h135], ?_⟩
    refine cw1 Tryz.call40 (r12has_ht br2 W2 x y z) (tk6 (sf5 (sf4 (sf5 (sf5 (sf5 (sf5 h135))))))) fun _ h138 => ⟨kd [], ?_⟩
    have h139 := tk6 (sf5 (sf4 (sf5 (sf5 (sf5 (sf5 h138))))))
    refine go [.v 38 25 (⟨.bool (decide (Thr W2 ((x, y, z) : Ky)) != decide (Thr W2 ((x, y, z) : Ky))), .bool false, (ov_b (by simp))⟩), rd 38 30 3 3 3 h138, rd 38 34 3 3 3 h138] ?_
    refine cw1 Tryz.call16 (whas_ht bw2 W2 x37.o.1 x37.o.2.1 x37.o.2.2 (by omega) (by omega)) h139 fun _ h141 => ⟨kd [rd 0 34 3 3 3 h141], ?_⟩
    refine cw1 Tryz.call40 (r12has_ht br2 W2 x37.o.1 x37.o.2.1 x37.o.2.2) (tk6 (sf5 (sf4 (sf5 (sf5 (sf5 (sf5 h141))))))) fun _ h144 => ⟨kd [], ?_⟩
    have h145 := tk6 (sf5 (sf4 (sf5 (sf5 (sf5 (sf5 h144))))))
    refine go [.v 38 36 (⟨.bool (decide (Thr W2 ((x37.o.1, x37.o.2.1, x37.o.2.2) : Ky)) != decide (Thr W2 ((x37.o.1, x37.o.2.1, x37.o.2.2) : Ky))), .bool false, (ov_b (by simp))⟩)] ?_
    refine cw1 Tryz.call20 (wnow_ht bw2 W2) h145 fun _ h147 => ⟨kd [], ?_⟩
    refine cw1 Tryz.call41 (r12now_ht br2 W2) (tk6 (sf5 (sf4 (sf5 (sf5 (sf5 (sf5 h147))))))) fun _ h150 => ⟨kd [], ?_⟩
    have h153 := tk6 (sf5 (sf4 (sf5 (sf5 (sf5 (sf5 h150))))))
    refine go [.v 38 43 (qnF W2.now W2.now)] <| cG Tryz.call19 (wall_ht bw2 W2) h153 ?_
    rintro v K _ (⟨p151, c152, rfl, rfl⟩) h155
    have h156 := ap2 h155
    have hl157 := allS_le (wd_get (j := 1) h156 rfl)
    refine ⟨kd [], ?_⟩
    refine cG Tryz.call43 (r12all_ht br2 W2) (tk7 (sf6 (sf5 (sf5 (sf6 (sf6 (sf6 (sf6 h156)))))))) ?_
    rintro v K _ (⟨p158, c159, rfl, rfl⟩) h162
    have h163 := ap2 h162
    have hl164 := allS_le (rw_get (j := 1) h163 rfl).1
    refine ⟨kd [], ?_⟩
    refine cw2 Tryz.call42 ((by have h_ := routs_ht p151 p158 (((allS W2).length)) (((allS W2).length)) c152 c159 (allS W2) (allS W2) (Sl 32 3 p151 (((allS W2).length)) c152 (fl eO (allS W2))) (Sl 32 3 p158 (((allS W2).length)) c159 (fl eO (allS W2))) (gv_sl _ _ _) (gv_sl _ _ _) rfl rfl (by omega); rw [decide_eq_true (rfl : ((allS W2) : List Ky) = (allS W2))] at h_; exact h_)) (tk8 (sf7 (sf6 (sf6 (sf7 (sf7 (sf7 (sf7 (sf7 h163))))))))) fun _ h167 => ⟨kd [], ?_⟩
    refine go [.v 9 1 (oIr ((i : Int) + 1))] ?_
    refine enL ?_
    have h169 := tk5 (tk8 (sf7 (sf6 (sf7 (sf7 (sf7 (sf2 (sf2 (sf5 h167)))))))))
    change ∃ n', n' < _ ∧ _
    refine ⟨(n0 - (i + 1)), by omega, (i + 1), W2, bw2, br2, _, rfl, (by omega), (lvF [.k 1 (.slice p0 n0 c0), .k 5 (pV r10), .k 7 (pV bw2), .k 9 (pV br2), .o 11 (oJ .i64 ((i : Int) + 1) ((((i + 1) : Nat) : Int)))]), h169⟩
   refine go [.v 8 3 (oF ((i : Int) < (n0 : Int)))] <| up <| go [] <| cP Tryz.call17 (wledg_ht bw W_) h32 ?_
   rintro v K _ (⟨b170, rfl, rfl⟩) h172
   have h175 := tk6 (sf5 (sf4 (sf4 (sf5 (sf5 (sf5 (ap2 h172)))))))
   refine go [] <| cP Tryz.call44 (r12led_ht br W_) h175 ?_
   rintro v K _ (⟨b174, rfl, rfl⟩) h177
   have h178 := ap2 h177
   refine go [.s 41 4] <| lwP (.bool true) (law_eqBool (t := 4) (x := (Operand.tmp 250)) (y := (Operand.tmp 252)) false false true (by kernel_rfl) Tryz.underlying4 (by kernel_rfl) (by kernel_rfl) rfl _) ?_
   have h181 := tk7 (sf6 (sf5 (sf5 (sf5 (sf6 (sf6 (sf6 h178)))))))
   refine go [] <| cP Tryz.call18 (lgall_ht b170 W_.T) h181 ?_
   rintro v K _ (⟨p179, c180, rfl, rfl⟩) h183
   have h187 := tk8 (sf7 (sf6 (sf6 (sf6 (sf7 (sf7 (sf7 (sf7 (ap2 h183)))))))))
   refine go [] <| cP Tryz.call46 (r7all_ht b174 W_.T) h187 ?_
   rintro v K _ (⟨p185, c186, rfl, rfl⟩) h189
   have h190 := ap2 h189
   have htn191 := (wd_get (j := 5) h190 rfl).tn
   refine cl2 Tryz.call45 ((by have h_ := ratts_ht p179 p185 W_.T.length W_.T.length c180 c186 W_.T W_.T (Sl 44 6 p179 W_.T.length c180 (fl eAt W_.T)) (Sl 44 6 p185 W_.T.length c186 (fl eAt W_.T)) (gv_sl _ _ _) (gv_sl _ _ _) rfl rfl (by omega); rw [decide_eq_true (rfl : (W_.T : List At) = W_.T)] at h_; exact h_)) (tk9 (sf8 (sf7 (sf6 (sf8 (sf8 (sf8 (sf8 (sf8 (sf8 h190)))))))))) fun _ h194 => ?_
   have h195 := tk9 (sf8 (sf7 (sf7 (sf7 (sf7 (sf7 (sf7 (sf7 (sf8 h194)))))))))
   refine go [] <| cl1 Tryz.call12 (works_ht wo hg) h195 fun _ h197 => go [] ?_
   exact en (.bool true) [] ⟨_, _, rfl, ⟨rfl, rfl⟩, (tk2 (sf1 (sf8 h197)))⟩
  refine cl1 Tryz.call11 ((by have h_ := short_ht p0 n0 c0 T0 (Old wo) (gv_old hr0) hT0 (by omega) 120; rw [cb14] at h_; exact h_)) (tk3 (sf2 (sf1 (sf2 h12)))) fun _ h201 => ?_
  refine go [] <| cl1 Tryz.call12 (works_ht wo hg) h201 fun _ h203 => go [] ?_
  exact en (.bool true) [] ⟨_, _, rfl, ⟨rfl, rfl⟩, (tk2 (sf1 (sf2 h203)))⟩
 refine cl0 Tryz.call11 (short_no p0 n0 c0 120 (by omega)) h12 fun _ h206 => ?_
 have h207 := tk3 (sf2 (sf1 (sf2 h206)))
 refine go [] <| cl1 Tryz.call12 (works_ht wo hg) h207 fun _ h209 => go [] ?_
 exact en (.bool true) [] ⟨_, _, rfl, ⟨rfl, rfl⟩, (tk2 (sf1 (sf2 h209)))⟩

set_option maxHeartbeats 4000000 in
theorem plays_n (wo : World) (hg : Lett wo) (gn : Int) (hgn : gn = 0) (p0 : Option Addr) (n0 c0 : Nat) (T0 : List Sq) (hr0 : Rd wo p0 n0 (fl eSq T0)) (hT0 : T0.length = n0) (hO0 : ∀ x ∈ T0, SqOk x) (x y z : Int) (hz0 : 0 ≤ z) (hz1 : z ≤ 4294967295) : HT Tryz.prog 9 [uV gn, .slice p0 n0 c0, .agg #[iV x, iV y, uV z]] [Old wo] (fun v K => v = .bool true ∧ K = [Old wo]) := by
 refine hiS Tryz.func9 Tryz.ntmps9 fun g w0 R h0 => go [] <| nP 32 [iV x, iV y, uV z] h0 (fun r10 _ h12 => ?_)
 refine go [] ?_
 by_cases c13 : (n0 : Int) ≤ 120
 ·
  rcases Bool.eq_false_or_eq_true (decide (Sho T0 120)) with cb14 | cb14
  ·
   refine cl1 Tryz.call11 ((by have h_ := short_ht p0 n0 c0 T0 (Old wo) (gv_old hr0) hT0 (by omega) 120; rw [cb14] at h_; exact h_)) (tk3 (sf2 (sf1 (sf2 h12)))) fun _ h17 => ?_
   have hsh18 : Sho T0 120 := of_decide_eq_true cb14; have hsh18l := hsh18.1; rw [hT0] at hsh18l
   refine go [] <| cl0 Tryz.call13 (wnew_no gn (by omega)) h17 fun _ h21 => go [] <| cl0 Tryz.call32 (r12new_n gn (by omega)) h21 fun _ h24 => go [.s 5 8] <| lwP (.bool false) (law_neBool (t := 4) (x := (Operand.tmp 50)) (y := (Operand.tmp 52)) true true false (by kernel_rfl) Tryz.underlying4 (by kernel_rfl) (by kernel_rfl) rfl _) <| go [] ?_
   refine lpS (fun mz_ a w => ∃ i : Nat, ∃ lr : Fr, mz_ = n0 - i ∧ (i ≤ n0) ∧ a = mk 264 (([(1, .slice p0 n0 c0), (5, pV r10), (7, .pointer none), (9, .pointer none), (11, iV (i : Int))] : Fr) ++ lr) ∧ sat g w [Cl r10 [iV x, iV y, uV z] 32, Old wo, R]) (n0 - 0) ⟨0, _, rfl, (Nat.zero_le _), (lvF [.k 1 (.slice p0 n0 c0), .k 5 (pV r10), .k 7 (.pointer none), .k 9 (.pointer none), .o 11 (oJ .i64 0 (0 : Int))]), (tk3 (sf2 (sf1 (sf2 h24))))⟩ ?_
   rintro m27 a28 w29 ⟨i, lr26, rfl, hi, rfl, h30⟩
   refine ga <| go [.s 8 3] ?_
   by_cases c31 : (i : Int) < (n0 : Int)
   ·
    obtain ⟨b32, off34, hp33⟩ := gv_ptr (j := 1) h30 rfl (gv_old hr0) (by omega)
    refine go [.v 8 3 (oT ((i : Int) < (n0 : Int))), .s 10 2] <| lwP (.pointer (some ⟨b32, off34 + i * 9, none⟩)) (law_indexSlP (x := (Operand.tmp 61)) (i := (Operand.tmp 62)) (p := p0) (b := b32) (off := off34) (z := (i : Int)) (len := n0) (cap := c0) (by kernel_rfl) Tryz.underlying22 9 (by kernel_rfl) i (by kernel_rfl) hp33 (by kernel_rfl) (by omega) (by omega) (off34 + i * 9) (by omega) _) ?_
    obtain ⟨x35, hx36⟩ : ∃ x, T0[i]? = some x := ⟨_, List.getElem?_eq_getElem (by rw [hT0]; omega)⟩
    have ho37 := hO0 _ (List.mem_of_getElem? hx36); have ho37a := ho37.1; have ho37b := ho37.2
    have ho37t := hsh18.2 _ (List.mem_of_getElem? hx36)
    refine go [.r 10 3 b32 (off34 + i * 9) [iV x35.d, iV x35.k, iV x35.a, iV x35.o.1, iV x35.o.2.1, uV x35.o.2.2, iV x35.wy, iV x35.tk, .string (St x35.tx)] ⟨gv_cell (j := 1) h30 rfl (gv_old hr0) hp33 (fl_get eSq_ok (j := 0) (v := iV x35.d) hx36 rfl) (off34 + i * 9) (by omega), gv_cell (j := 1) h30 rfl (gv_old hr0) hp33 (fl_get eSq_ok (j := 1) (v := iV x35.k) hx36 rfl) (off34 + i * 9 + 1) (by omega), gv_cell (j := 1) h30 rfl (gv_old hr0) hp33 (fl_get eSq_ok (j := 2) (v := iV x35.a) hx36 rfl) (off34 + i * 9 + 2) (by omega), gv_cell (j := 1) h30 rfl (gv_old hr0) hp33 (fl_get eSq_ok (j := 3) (v := iV x35.o.1) hx36 rfl) (off34 + i * 9 + 3) (by omega), gv_cell (j := 1) h30 rfl (gv_old hr0) hp33 (fl_get eSq_ok (j := 4) (v := iV x35.o.2.1) hx36 rfl) (off34 + i * 9 + 4) (by omega), gv_cell (j := 1) h30 rfl (gv_old hr0) hp33 (fl_get eSq_ok (j := 5) (v := uV x35.o.2.2) hx36 rfl) (off34 + i * 9 + 5) (by omega), gv_cell (j := 1) h30 rfl (gv_old hr0) hp33 (fl_get eSq_ok (j := 6) (v := iV x35.wy) hx36 rfl) (off34 + i * 9 + 6) (by omega), gv_cell (j := 1) h30 rfl (gv_old hr0) hp33 (fl_get eSq_ok (j := 7) (v := iV x35.tk) hx36 rfl) (off34 + i * 9 + 7) (by omega), gv_cell (j := 1) h30 rfl (gv_old hr0) hp33 (fl_get eSq_ok (j := 8) (v := .string (St x35.tx)) hx36 rfl) (off34 + i * 9 + 8) (by omega), trivial⟩] <| nP 36 [iV 0, iV 0, iV 0, iV 0, iV 0, uV 0, iV 0, iV 0, .string (St [])] h30 (fun r38 _ h40 => ?_)
    refine sP [(0, iV x35.d), (1, iV x35.k), (2, iV x35.a), (3, iV x35.o.1), (4, iV x35.o.2.1), (5, uV x35.o.2.2), (6, iV x35.wy), (7, iV x35.tk), (8, .string (St x35.tx))] [iV x35.d, iV x35.k, iV x35.a, iV x35.o.1, iV x35.o.2.1, uV x35.o.2.2, iV x35.wy, iV x35.tk, .string (St x35.tx)] h40 fun _ h42 => go [.s 11 100002] ?_
    refine jnS (fun a w => ∃ lr : Fr, a = mk 264 (([(1, .slice p0 n0 c0), (5, pV r10), (7, .pointer none), (9, .pointer none), (11, iV (i : Int)), (12, pV r38)] : Fr) ++ lr) ∧ sat g w [Cl r10 [iV x, iV y, uV z] 32, Cl r38 [iV x35.d, iV x35.k, iV x35.a, iV x35.o.1, iV x35.o.2.1, uV x35.o.2.2, iV x35.wy, iV x35.tk, .string (St x35.tx)] 36, Old wo, R]) ?_ ?_
    ·
     refine go [rd 11 1 0 0 1 h42, .s 12 0] ?_
     by_cases c43 : x35.d = 0
     ·
      refine go [.v 12 0 (qeT x35.d 0), rd 13 2 0 1 1 h42, rd 13 4 0 2 1 h42] <| cl0 Tryz.call28 (wz_Acquire_n x35.k x35.a) h42 fun _ h45 => go [] <| nP 32 [iV 0, iV 0, uV 0] h45 (fun _ _ h48 => ?_)
      refine sP [(0, iV 0), (1, iV 0), (2, uV 0)] [iV 0, iV 0, uV 0] h48 fun _ h50 => go [rd 14 2 1 1 1 h50, rd 14 4 1 2 1 h50] <| cl0 Tryz.call33 (rz_Acquire_n x35.k x35.a) h50 fun _ h52 => go [] <| nP 32 [iV 0, iV 0, uV 0] h52 (fun _ _ h55 => ?_)
      refine sP [(0, iV 0), (1, iV 0), (2, uV 0)] [iV 0, iV 0, uV 0] h55 fun _ h57 => go [rd 15 0 1 0 3 h57, rd 15 1 0 0 3 h57, .s 15 2] <| lwP (.bool false) (q37e32_neq_t (x := (Operand.tmp 87)) (y := (Operand.tmp 88)) 0 0 0 0 0 0 (by kernel_rfl) (by kernel_rfl) (by kernel_rfl) ⟨rfl, rfl, rfl⟩ _) <| go [] ?_
      refine enL ?_
      exact ⟨_, (lvF [.k 1 (.slice p0 n0 c0), .k 5 (pV r10), .k 7 (.pointer none), .k 9 (.pointer none), .k 11 (iV (i : Int)), .k 12 (pV r38)]), (tk4 (tk6 (sf5 (sf4 (sf5 (sf5 (sf1 (sf1 h57))))))))⟩
     refine go [.v 12 0 (qeF x35.d 0), .s 17 0] ?_
     by_cases c60 : x35.d = 1
     ·
      refine go [.v 17 0 (qeT x35.d 1), rd 18 2 0 3 3 h42, rd 18 4 0 6 1 h42] <| cl0 Tryz.call27 (wz_Release_n x35.o.1 x35.o.2.1 x35.o.2.2 (by omega) (by omega) x35.wy) h42 fun _ h62 => go [rd 19 2 0 3 3 h62, rd 19 4 0 6 1 h62] <| cl0 Tryz.call34 (rz_Release_n x35.o.1 x35.o.2.1 x35.o.2.2 x35.wy) h62 fun _ h64 => go [] ?_
      refine enL ?_
      exact ⟨_, (lvF [.k 1 (.slice p0 n0 c0), .k 5 (pV r10), .k 7 (.pointer none), .k 9 (.pointer none), .k 11 (iV (i : Int)), .k 12 (pV r38)]), (tk4 (sf3 (sf2 (sf3 (sf3 h64)))))⟩
     refine go [.v 17 0 (qeF x35.d 1), .s 22 0] ?_
     by_cases c66 : x35.d = 2
     ·
      refine go [.v 22 0 (qeT x35.d 2)] <| dw (fls [0, 1, 2, 3, 4, 6, 7, 8, 9, 10] (Tr.an 5 (Tr.an 11 (Tr.fl 12 Tr.nil)))) h42 fun _ h68 => go [rd 23 2 0 3 3 h68, rd 23 4 0 7 1 h68, rd 23 8 0 3 3 h68, rd 23 10 0 7 1 h68] <| cw0 Tryz.call25 (wz_Renew_n x35.o.1 x35.o.2.1 x35.o.2.2 (by omega) (by omega) x35.tk) h68 fun _ h70 => ⟨kd [rd 0 10 0 7 1 h70, rd 0 8 0 3 3 h70], ?_⟩
      refine cw0 Tryz.call35 (rz_Renew_n x35.o.1 x35.o.2.1 x35.o.2.2 x35.tk) h70 fun _ h72 => ⟨kd [], ?_⟩
      refine go [] ?_
      refine enL ?_
      exact ⟨_, (lvF [.k 1 (.slice p0 n0 c0), .k 5 (pV r10), .k 7 (.pointer none), .k 9 (.pointer none), .k 11 (iV (i : Int)), .k 12 (pV r38)]), (tk4 (sf3 (sf2 (sf3 (sf3 h72)))))⟩
     refine go [.v 22 0 (qeF x35.d 2), .s 25 0] ?_
     by_cases c74 : x35.d = 3
     ·
      refine go [.v 25 0 (qeT x35.d 3)] <| dw (fls [0, 1, 2, 4, 5, 6] (Tr.an 3 (Tr.an 7 (Tr.fl 8 Tr.nil)))) h42 fun _ h76 => go [rd 26 2 0 7 1 h76, rd 26 6 0 7 1 h76] <| cw0 Tryz.call29 (wz_Tick_n x35.tk) h76 fun _ h78 => ⟨kd [rd 0 6 0 7 1 h78], ?_⟩
      refine cw0 Tryz.call36 (rz_Tick_n x35.tk) h78 fun _ h80 => ⟨kd [], ?_⟩
      refine go [] ?_
      refine enL ?_
      exact ⟨_, (lvF [.k 1 (.slice p0 n0 c0), .k 5 (pV r10), .k 7 (.pointer none), .k 9 (.pointer none), .k 11 (iV (i : Int)), .k 12 (pV r38)]), (tk4 (sf3 (sf2 (sf3 (sf3 h80)))))⟩
     refine go [.v 25 0 (qeF x35.d 3), .s 28 0] ?_
     by_cases c82 : x35.d = 4
     ·
      refine go [.v 28 0 (qeT x35.d 4)] <| dw (fls [0, 1, 2, 4, 5, 6] (Tr.an 3 (Tr.an 7 (Tr.fl 8 Tr.nil)))) h42 fun _ h84 => go [rd 29 2 0 8 1 h84, rd 29 6 0 8 1 h84] <| cw0 Tryz.call30 (wz_Answer_n x35.tx) h84 fun _ h86 => ⟨kd [rd 0 6 0 8 1 h86], ?_⟩
      refine cw0 Tryz.call37 (rz_Answer_n x35.tx) h86 fun _ h88 => ⟨kd [], ?_⟩
      refine go [] ?_
      refine enL ?_
      exact ⟨_, (lvF [.k 1 (.slice p0 n0 c0), .k 5 (pV r10), .k 7 (.pointer none), .k 9 (.pointer none), .k 11 (iV (i : Int)), .k 12 (pV r38)]), (tk4 (sf3 (sf2 (sf3 (sf3 h88)))))⟩
     refine go [.v 28 0 (qeF x35.d 4), .s 31 0] ?_
     by_cases c90 : x35.d = 5
     ·
      refine go [.v 31 0 (qeT x35.d 5)] <| cl0 Tryz.call31 (wz_Copy_n ) h42 fun _ h92 => go [] <| cl0 Tryz.call38 (rz_Copy_n ) h92 fun _ h94 => go [] ?_
      refine enL ?_
      exact ⟨_, (lvF [.k 1 (.slice p0 n0 c0), .k 5 (pV r10), .k 7 (.pointer none), .k 9 (.pointer none), .k 11 (iV (i : Int)), .k 12 (pV r38)]), (tk4 (sf3 (sf2 (sf3 (sf3 h94)))))⟩
     refine go [.v 31 0 (qeF x35.d 5)] ?_
     refine enL ?_
     exact ⟨_, (lvF [.k 1 (.slice p0 n0 c0), .k 5 (pV r10), .k 7 (.pointer none), .k 9 (.pointer none), .k 11 (iV (i : Int)), .k 12 (pV r38)]), (tk4 (sf3 (sf2 (sf3 (sf3 h42)))))⟩
    rintro a97 w98 ⟨lr100, rfl, h99⟩
    refine ga <| go [rd 34 2 1 3 3 h99] <| cl0 Tryz.call24 (wz_Until_n x35.o.1 x35.o.2.1 x35.o.2.2 (by omega) (by omega)) h99 fun _ h102 => go [rd 35 2 1 3 3 h102] <| cl0 Tryz.call39 (rz_Until_n x35.o.1 x35.o.2.1 x35.o.2.2) h102 fun _ h104 => go [rd 36 1 0 0 3 h104] <| cl0 Tryz.call24 (wz_Until_n x y z (by omega) (by omega)) h104 fun _ h106 => go [rd 37 1 0 0 3 h106] <| cl0 Tryz.call39 (rz_Until_n x y z) h106 fun _ h108 => go [] <| dw (fls [0, 1, 2, 3, 4, 5, 6, 7, 8, 9, 10, 11, 12, 13, 14, 15, 16, 17, 18, 19, 20, 22, 23] (Tr.an 21 (Tr.an 24 (fls [25, 26, 27, 28, 29, 30, 32, 33, 34] (Tr.an 31 (Tr.an 35 (fls [36, 37, 38, 39, 41] (Tr.an 40 (Tr.an 42 (fls [43, 44, 45, 46, 48] (Tr.an 47 (Tr.an 49 (Tr.an 50 (fls [51, 52] Tr.nil)))))))))))))) h108 fun _ h110 => go [rd 38 20 0 0 3 h110, rd 38 23 0 0 3 h110] <| cw0 Tryz.call16 (wz_Has_n x y z (by omega) (by omega)) h110 fun _ h112 => ⟨kd [rd 0 23 0 0 3 h112], ?_⟩
    refine cw0 Tryz.call40 (rz_Has_n x y z) h112 fun _ h114 => ⟨kd [], ?_⟩
    refine lw (.bool false) (fun _ => law_neBool (t := 4) (x := (Operand.tmp 213)) (y := (Operand.tmp 216)) false false false (by kernel_rfl) Tryz.underlying4 (by kernel_rfl) (by kernel_rfl) rfl _) <| go [rd 38 30 1 3 3 h114, rd 38 34 1 3 3 h114] <| cw0 Tryz.call16 (wz_Has_n x35.o.1 x35.o.2.1 x35.o.2.2 (by omega) (by omega)) h114 fun _ h116 => ⟨kd [rd 0 34 1 3 3 h116], ?_⟩
    refine cw0 Tryz.call40 (rz_Has_n x35.o.1 x35.o.2.1 x35.o.2.2) h116 fun _ h118 => ⟨kd [], ?_⟩
    refine lw (.bool false) (fun _ => law_neBool (t := 4) (x := (Operand.tmp 223)) (y := (Operand.tmp 227)) false false false (by kernel_rfl) Tryz.underlying4 (by kernel_rfl) (by kernel_rfl) rfl _) <| go [] <| cw0 Tryz.call20 (wz_Now_n ) h118 fun _ h120 => ⟨kd [], ?_⟩
    refine cw0 Tryz.call41 (rz_Now_n ) h120 fun _ h122 => ⟨kd [], ?_⟩
    refine go [] <| cw0 Tryz.call19 (wz_All_n ) h122 fun _ h124 => ⟨kd [], ?_⟩
    refine cw0 Tryz.call43 (rz_All_n ) h124 fun w125 h126 => ⟨kd [], ?_⟩
    have h127 : sat g w125 [Sl 32 3 none 0 0 (fl eO []), Cl r10 [iV x, iV y, uV z] 32, Cl r38 [iV x35.d, iV x35.k, iV x35.a, iV x35.o.1, iV x35.o.2.1, uV x35.o.2.2, iV x35.wy, iV x35.tk, .string (St x35.tx)] 36, Old wo, R] := sl_nil 32 3 h126
    have h128 : sat g w125 [Sl 32 3 none 0 0 (fl eO []), Sl 32 3 none 0 0 (fl eO []), Cl r10 [iV x, iV y, uV z] 32, Cl r38 [iV x35.d, iV x35.k, iV x35.a, iV x35.o.1, iV x35.o.2.1, uV x35.o.2.2, iV x35.wy, iV x35.tk, .string (St x35.tx)] 36, Old wo, R] := sl_nil 32 3 h127
    refine cw2 Tryz.call42 ((by have h_ := routs_ht none none 0 0 0 0 [] [] (Sl 32 3 none 0 0 (fl eO [])) (Sl 32 3 none 0 0 (fl eO [])) (gv_sl _ _ _) (gv_sl _ _ _) rfl rfl (by omega); rw [decide_eq_true (rfl : ([] : List Ky) = [])] at h_; exact h_)) (tk6 (sf5 (sf4 (sf5 (sf5 (sf5 (sf5 h128))))))) fun _ h131 => ⟨kd [], ?_⟩
    refine go [.v 9 1 (oIr ((i : Int) + 1))] ?_
    refine enL ?_
    have h133 := tk3 (tk6 (sf5 (sf5 (sf5 (sf2 (sf2 (sf3 h131)))))))
    change ∃ n', n' < _ ∧ _
    refine ⟨(n0 - (i + 1)), by omega, (i + 1), _, rfl, (by omega), (lvF [.k 1 (.slice p0 n0 c0), .k 5 (pV r10), .k 7 (.pointer none), .k 9 (.pointer none), .o 11 (oJ .i64 ((i : Int) + 1) ((((i + 1) : Nat) : Int)))]), h133⟩
   refine go [.v 8 3 (oF ((i : Int) < (n0 : Int)))] <| up <| go [] <| cl0 Tryz.call17 (wz_Ledger_n ) h30 fun _ h135 => go [] <| cl0 Tryz.call44 (rz_Ledger_n ) h135 fun _ h137 => go [.s 41 4] <| lwP (.bool true) (law_eqBool (t := 4) (x := (Operand.tmp 250)) (y := (Operand.tmp 252)) true true true (by kernel_rfl) Tryz.underlying4 (by kernel_rfl) (by kernel_rfl) rfl _) <| go [] <| cl0 Tryz.call18 (lgall_n) h137 fun _ h139 => go [] <| cl0 Tryz.call46 (r7all_n) h139 fun w140 h141 => ?_
   have h142 : sat g w140 [Sl 44 6 none 0 0 (fl eAt []), Cl r10 [iV x, iV y, uV z] 32, Old wo, R] := sl_nil 44 6 h141
   have h143 : sat g w140 [Sl 44 6 none 0 0 (fl eAt []), Sl 44 6 none 0 0 (fl eAt []), Cl r10 [iV x, iV y, uV z] 32, Old wo, R] := sl_nil 44 6 h142
   refine cl2 Tryz.call45 ((by have h_ := ratts_ht none none 0 0 0 0 [] [] (Sl 44 6 none 0 0 (fl eAt [])) (Sl 44 6 none 0 0 (fl eAt [])) (gv_sl _ _ _) (gv_sl _ _ _) rfl rfl (by omega); rw [decide_eq_true (rfl : ([] : List At) = [])] at h_; exact h_)) (tk5 (sf4 (sf3 (sf4 (sf4 (sf4 h143)))))) fun _ h146 => ?_
   have h147 := tk5 (sf4 (sf3 (sf3 (sf3 (sf4 h146)))))
   refine go [] <| cl1 Tryz.call12 (works_ht wo hg) h147 fun _ h149 => go [] ?_
   exact en (.bool true) [] ⟨_, _, rfl, ⟨rfl, rfl⟩, (tk2 (sf1 (sf4 h149)))⟩
  refine cl1 Tryz.call11 ((by have h_ := short_ht p0 n0 c0 T0 (Old wo) (gv_old hr0) hT0 (by omega) 120; rw [cb14] at h_; exact h_)) (tk3 (sf2 (sf1 (sf2 h12)))) fun _ h153 => ?_
  refine go [] <| cl1 Tryz.call12 (works_ht wo hg) h153 fun _ h155 => go [] ?_
  exact en (.bool true) [] ⟨_, _, rfl, ⟨rfl, rfl⟩, (tk2 (sf1 (sf2 h155)))⟩
 refine cl0 Tryz.call11 (short_no p0 n0 c0 120 (by omega)) h12 fun _ h158 => ?_
 have h159 := tk3 (sf2 (sf1 (sf2 h158)))
 refine go [] <| cl1 Tryz.call12 (works_ht wo hg) h159 fun _ h161 => go [] ?_
 exact en (.bool true) [] ⟨_, _, rfl, ⟨rfl, rfl⟩, (tk2 (sf1 (sf2 h161)))⟩

theorem plays_law (wo : World) (hg : Lett wo) (gn : Int) (hg0 : 0 ≤ gn) (hg1 : gn ≤ 4294967295) (p0 : Option Addr) (n0 c0 : Nat) (T0 : List Sq) (hr0 : Rd wo p0 n0 (fl eSq T0)) (hT0 : T0.length = n0) (hO0 : ∀ x ∈ T0, SqOk x) (x y z : Int) (hz0 : 0 ≤ z) (hz1 : z ≤ 4294967295) : HT Tryz.prog 9 [Value.int IntKind.u32 gn, Value.slice p0 n0 c0, Value.agg #[Value.int IntKind.i64 x, Value.int IntKind.i64 y, Value.int IntKind.u32 z]] [Old wo] (fun v K => v = Value.bool true ∧ K = [Old wo]) := by
  by_cases h : 1 ≤ gn
  · exact plays_y wo hg gn ⟨h, hg1⟩ p0 n0 c0 T0 hr0 hT0 hO0 x y z hz0 hz1
  · exact plays_n wo hg gn (by omega) p0 n0 c0 T0 hr0 hT0 hO0 x y z hz0 hz1
end Go.Proofs.YtggfnbpohmhphaaGreatDoor
