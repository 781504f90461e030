/- Walks, printed by my generator o9.py. -/
import Derived.Test.YtggfnbpohmhphaaGreatDoorBundle34
import Derived.Test.YtggfnbpohmhphaaGreatDoorInv
namespace Go.Proofs.YtggfnbpohmhphaaGreatDoor
abbrev wsix (b f p d s l : Nat) (S : Wst) : List Assn := [Cl b [Value.nilIface, Value.iface 84 (Value.pointer (some ⟨f, 0, none⟩)), Value.iface 87 (Value.pointer (some ⟨p, 0, none⟩)), Value.iface 90 (Value.pointer (some ⟨d, 0, none⟩)), Value.pointer (some ⟨s, 0, none⟩), Value.pointer (some ⟨l, 0, none⟩), Value.int IntKind.i64 S.now] 79, Fd f 64 S.F, Pl p S.B, Dk d S.D, Sr 146 s S.q, Lg l S.T]
set_option maxHeartbeats 4000000 in
theorem wvalid_cl (b l : Nat) (v0 v1 v2 v3 v4 v5 : Value) : HT Tryz.prog 56 [pV b] [Cl b [v0, v1, v2, v3, v4, pV l, v5] 79] (fun v K => v = .bool true ∧ K = [Cl b [v0, v1, v2, v3, v4, pV l, v5] 79]) := by
 refine hiS Tryz.func56 Tryz.ntmps56 fun g w0 R h0 => go [rd 1 6 0 5 1 h0] ?_
 exact en (.bool true) [] ⟨_, _, rfl, ⟨rfl, rfl⟩, h0⟩

set_option maxHeartbeats 4000000 in
theorem wvalid_n  : HT Tryz.prog 56 [.pointer none] [] (fun v K => v = .bool false ∧ K = []) := by
 refine hiS Tryz.func56 Tryz.ntmps56 fun g w0 R h0 => go [] ?_
 exact en (.bool false) [] ⟨_, _, rfl, ⟨rfl, rfl⟩, h0⟩

set_option maxHeartbeats 4000000 in
theorem wvalid_z (b : Nat) : HT Tryz.prog 56 [pV b] [Cl b [Value.nilIface, Value.nilIface, Value.nilIface, Value.nilIface, .pointer none, .pointer none, iV 0] 79] (fun v K => v = .bool false ∧ K = [Cl b [Value.nilIface, Value.nilIface, Value.nilIface, Value.nilIface, .pointer none, .pointer none, iV 0] 79]) := by
 refine hiS Tryz.func56 Tryz.ntmps56 fun g w0 R h0 => go [rd 1 6 0 5 1 h0] ?_
 exact en (.bool false) [] ⟨_, _, rfl, ⟨rfl, rfl⟩, h0⟩

set_option maxHeartbeats 4000000 in
theorem wnew_ht (gn : Int) (hgn : 1 ≤ gn ∧ gn ≤ 4294967295) : HT Tryz.prog 13 [uV gn] [] (fun v K => ∃ b : Nat, v = .tuple #[pV b, iV 0] ∧ K = [Wd b (wnew gn)]) := by
 refine hiS Tryz.func13 Tryz.ntmps13 fun g w0 R h0 => go [] <| cl0 Tryz.call48 (gcheck_ok gn (by omega) (by omega)) h0 fun _ h11 => go [] <| cP Tryz.call49 ((by have h_ := fnew_ok 64 gn (by decide) (by omega); exact h_)) h11 ?_
 rintro v K _ (⟨b12, rfl, rfl⟩) h14
 have h15 := ap1 h14
 refine go [] <| cP Tryz.call50 (pnew_ht gn (by omega)) h15 ?_
 rintro v K _ (⟨b16, rfl, rfl⟩) h18
 have h19 := ap1 h18
 refine go [] <| cP Tryz.call51 (lnew_ht gn (by omega)) h19 ?_
 rintro v K _ (⟨b20, rfl, rfl⟩) h22
 have h23 := ap1 h22
 refine go [] <| cP Tryz.call52 (new_ht) h23 ?_
 rintro v K _ (⟨b24, rfl, rfl⟩) h26
 refine cP Tryz.call53 (lgnew_ht) (ap1 h26) ?_
 rintro v K _ (⟨b28, rfl, rfl⟩) h30
 have h31 := ap1 h30
 refine go [] <| nP 79 [Value.nilIface, Value.nilIface, Value.nilIface, Value.nilIface, pV b24, pV b28, iV 0] h31 (fun r32 _ h34 => ?_)
 refine go [] <| dw (fls [0, 1, 2, 3, 4, 5, 6, 7, 8, 9, 10, 11, 13, 14, 17, 18] (Tr.an 12 (Tr.fl 15 (Tr.an 16 (Tr.fl 19 (Tr.an 20 Tr.nil)))))) h34 fun _ h36 => go [.s 13 4] <| lw (.iface 84 (pV b12)) (fun _ => law_mkIface (t := 84) (x := (Operand.tmp 43)) (by kernel_rfl) Tryz.underlying84 rfl (pV b12) (by kernel_rfl) _) <| go [.s 13 6] <| lw (.iface 87 (pV b16)) (fun _ => law_mkIface (t := 87) (x := (Operand.tmp 45)) (by kernel_rfl) Tryz.underlying87 rfl (pV b16) (by kernel_rfl) _) <| go [.s 13 8] <| lw (.iface 90 (pV b20)) (fun _ => law_mkIface (t := 90) (x := (Operand.tmp 47)) (by kernel_rfl) Tryz.underlying90 rfl (pV b20) (by kernel_rfl) _) <| go [.s 13 11] <| lw (.pointer (some ⟨r32, 1, none⟩)) (fun _ => law_indexArr (x := (Operand.tmp 50)) (i := (Operand.const (iV 1))) (b := r32) (off := 0) (z := 1) (by kernel_rfl) Tryz.underlying76 1 (by kernel_rfl) 1 (by kernel_rfl) (by kernel_rfl) (by omega) (by omega) 1 (by omega) _) <| go [] <| sG [(1, .iface 84 (pV b12))] [Value.nilIface, .iface 84 (pV b12), Value.nilIface, Value.nilIface, pV b24, pV b28, iV 0] h36 fun _ h38 => ⟨kd [], ?_⟩
 refine lw (.pointer (some ⟨r32, 2, none⟩)) (fun _ => law_indexArr (x := (Operand.tmp 53)) (i := (Operand.const (iV 2))) (b := r32) (off := 0) (z := 2) (by kernel_rfl) Tryz.underlying76 1 (by kernel_rfl) 2 (by kernel_rfl) (by kernel_rfl) (by omega) (by omega) 2 (by omega) _) <| sG [(2, .iface 87 (pV b16))] [Value.nilIface, .iface 84 (pV b12), .iface 87 (pV b16), Value.nilIface, pV b24, pV b28, iV 0] h38 fun _ h40 => ⟨kd [], ?_⟩
 refine lw (.pointer (some ⟨r32, 3, none⟩)) (fun _ => law_indexArr (x := (Operand.tmp 56)) (i := (Operand.const (iV 3))) (b := r32) (off := 0) (z := 3) (by kernel_rfl) Tryz.underlying76 1 (by kernel_rfl) 3 (by kernel_rfl) (by kernel_rfl) (by omega) (by omega) 3 (by omega) _) <| sG [(3, .iface 90 (pV b20))] [Value.nilIface, .iface 84 (pV b12), .iface 87 (pV b16), .iface 90 (pV b20), pV b24, pV b28, iV 0] h40 fun w41 h42 => ⟨kd [], ?_⟩
 refine go [] ?_
 have h44 : sat g w41 [Wd r32 (wnew gn), R] := wd_close (wok_new hgn) (tk7 (sf6 (sf6 (sf5 (sf4 (sf3 (sf2 (sf6 h42))))))))
 exact en (.tuple #[pV r32, iV 0]) [] ⟨_, _, rfl, ⟨r32, rfl, rfl⟩, h44⟩

set_option maxHeartbeats 4000000 in
theorem has_no (b f p d s l : Nat) (S : Wst) (hW : WOk S) (x y z : Int) (hz0 : 0 ≤ z) (hz1 : z ≤ 4294967295) (hg : ¬ (1 ≤ x ∧ x ≤ 3 ∧ 0 ≤ y ∧ y ≤ 63 ∧ 1 ≤ z)) : HT Tryz.prog 16 [pV b, .agg #[iV x, iV y, uV z]] [Cl b [Value.nilIface, .iface 84 (pV f), .iface 87 (pV p), .iface 90 (pV d), pV s, pV l, iV S.now] 79, Fd f 64 S.F, Pl p S.B, Dk d S.D, Sr 146 s S.q, Lg l S.T] (fun v K => v = .bool false ∧ K = [Cl b [Value.nilIface, .iface 84 (pV f), .iface 87 (pV p), .iface 90 (pV d), pV s, pV l, iV S.now] 79, Fd f 64 S.F, Pl p S.B, Dk d S.D, Sr 146 s S.q, Lg l S.T]) := by
 refine hiS Tryz.func16 Tryz.ntmps16 fun g w0 R h0 => go [] <| nP 32 [iV x, iV y, uV z] h0 (fun _ _ h12 => ?_)
 refine go [] <| dw (Tr.fl 0 (Tr.an 1 (fls [2, 3] (Tr.an 4 (fls [5, 6, 7, 8, 9, 10, 11, 12, 13, 14, 16] (Tr.an 15 (Tr.an 17 (fls [18, 19] Tr.nil)))))))) h12 fun _ h14 => ?_
 have h15 := tk8 (sf7 (sf6 (sf7 (sf7 (sf7 (sf7 (sf7 (sf7 h14))))))))
 refine go [] <| cw1 Tryz.call56 (wvalid_cl b l Value.nilIface (.iface 84 (pV f)) (.iface 87 (pV p)) (.iface 90 (pV d)) (pV s) (iV S.now)) h15 fun _ h17 => ⟨kd [], ?_⟩
 refine go [rd 1 3 1 0 3 h17] ?_
 by_cases c18 : 1 ≤ x
 ·
  by_cases c19 : x ≤ 3
  ·
   by_cases c20 : 0 ≤ y
   ·
    by_cases c21 : y ≤ 63
    ·
     refine cw0 Tryz.call15 (couter_no x y z (by omega) (by omega) (by omega)) h17 fun _ h23 => ⟨kd [], ?_⟩
     refine go [] <| dsk [] <| dsk [] <| go [] ?_
     exact en (.bool false) [] ⟨_, _, rfl, ⟨rfl, rfl⟩, (tk7 (sf6 (sf6 (sf6 (sf6 (sf6 (sf6 (sf7 (tk8 (sf7 (sf7 (sf7 (sf7 (sf7 (sf7 (sf2 (sf7 h23)))))))))))))))))⟩
    refine cw0 Tryz.call15 (couter_no x y z (by omega) (by omega) (by omega)) h17 fun _ h27 => ⟨kd [], ?_⟩
    refine go [] <| dsk [] <| dsk [] <| go [] ?_
    exact en (.bool false) [] ⟨_, _, rfl, ⟨rfl, rfl⟩, (tk7 (sf6 (sf6 (sf6 (sf6 (sf6 (sf6 (sf7 (tk8 (sf7 (sf7 (sf7 (sf7 (sf7 (sf7 (sf2 (sf7 h27)))))))))))))))))⟩
   refine cw0 Tryz.call15 (couter_no x y z (by omega) (by omega) (by omega)) h17 fun _ h31 => ⟨kd [], ?_⟩
   refine go [] <| dsk [] <| dsk [] <| go [] ?_
   exact en (.bool false) [] ⟨_, _, rfl, ⟨rfl, rfl⟩, (tk7 (sf6 (sf6 (sf6 (sf6 (sf6 (sf6 (sf7 (tk8 (sf7 (sf7 (sf7 (sf7 (sf7 (sf7 (sf2 (sf7 h31)))))))))))))))))⟩
  refine cw0 Tryz.call15 (couter_no x y z (by omega) (by omega) (by omega)) h17 fun _ h35 => ⟨kd [], ?_⟩
  refine go [] <| dsk [] <| dsk [] <| go [] ?_
  exact en (.bool false) [] ⟨_, _, rfl, ⟨rfl, rfl⟩, (tk7 (sf6 (sf6 (sf6 (sf6 (sf6 (sf6 (sf7 (tk8 (sf7 (sf7 (sf7 (sf7 (sf7 (sf7 (sf2 (sf7 h35)))))))))))))))))⟩
 refine cw0 Tryz.call15 (couter_no x y z (by omega) (by omega) (by omega)) h17 fun _ h39 => ⟨kd [], ?_⟩
 refine go [] <| dsk [] <| dsk [] <| go [] ?_
 exact en (.bool false) [] ⟨_, _, rfl, ⟨rfl, rfl⟩, (tk7 (sf6 (sf6 (sf6 (sf6 (sf6 (sf6 (sf7 (tk8 (sf7 (sf7 (sf7 (sf7 (sf7 (sf7 (sf2 (sf7 h39)))))))))))))))))⟩

set_option maxHeartbeats 4000000 in
theorem has_1 (b f p d s l : Nat) (S : Wst) (hW : WOk S) (y z : Int) (hz0 : 0 ≤ z) (hz1 : z ≤ 4294967295) (hg : KGood (1, y, z)) (hy0 : 0 ≤ y) (hy1 : y ≤ 63) (hz : 1 ≤ z) : HT Tryz.prog 16 [pV b, .agg #[iV 1, iV y, uV z]] [Cl b [Value.nilIface, .iface 84 (pV f), .iface 87 (pV p), .iface 90 (pV d), pV s, pV l, iV S.now] 79, Fd f 64 S.F, Pl p S.B, Dk d S.D, Sr 146 s S.q, Lg l S.T] (fun v K => v = .bool (decide (Thr S (1, y, z))) ∧ K = [Cl b [Value.nilIface, .iface 84 (pV f), .iface 87 (pV p), .iface 90 (pV d), pV s, pV l, iV S.now] 79, Fd f 64 S.F, Pl p S.B, Dk d S.D, Sr 146 s S.q, Lg l S.T]) := by
 refine hiS Tryz.func16 Tryz.ntmps16 fun g w0 R h0 => go [] <| nP 32 [iV 1, iV y, uV z] h0 (fun _ _ h12 => ?_)
 refine go [] <| dw (Tr.fl 0 (Tr.an 1 (fls [2, 3] (Tr.an 4 (fls [5, 6, 7, 8, 9, 10, 11, 12, 13, 14, 16] (Tr.an 15 (Tr.an 17 (fls [18, 19] Tr.nil)))))))) h12 fun _ h14 => ?_
 have h15 := tk8 (sf7 (sf6 (sf7 (sf7 (sf7 (sf7 (sf7 (sf7 h14))))))))
 refine go [] <| cw1 Tryz.call56 (wvalid_cl b l Value.nilIface (.iface 84 (pV f)) (.iface 87 (pV p)) (.iface 90 (pV d)) (pV s) (iV S.now)) h15 fun _ h17 => ⟨kd [], ?_⟩
 refine go [rd 1 3 1 0 3 h17] <| cw0 Tryz.call15 (couter_ok 1 y z (by omega) (by omega) (by omega)) h17 fun _ h19 => ⟨kd [], ?_⟩
 refine go [rd 1 10 1 0 1 h19, .s 1 13] <| lw (.pointer (some ⟨b, 1, none⟩)) (fun _ => law_indexArr (x := (Operand.tmp 17)) (i := (Operand.tmp 15)) (b := b) (off := 0) (z := 1) (by kernel_rfl) Tryz.underlying76 1 (by kernel_rfl) 1 (by kernel_rfl) (by kernel_rfl) (by omega) (by omega) 1 (by omega) _) ?_
 have h22 := tk8 (sf7 (sf6 (sf6 (sf7 (sf7 (sf7 (sf7 (sf7 h19))))))))
 refine go [rd 1 14 0 1 1 h19, rd 1 16 1 0 3 h19] ?_
 refine iG 84 (pV f) "All" [] 193 ((by have h_ := fall_ht f 64 S.F; exact h_)) h22 ?_
 rintro v K _ (⟨p20, c21, rfl, rfl⟩) h24
 have h25 := ap2 h24
 have hl26 : ((inS 1 (As S.F) 0).length) ≤ 64 := by have h_ := inS_len 1 (As S.F) 0; rw [as_len, hW.fl] at h_; exact h_
 refine ⟨kd [rd 0 16 3 0 3 h25], ?_⟩
 refine cw1 Tryz.call57 (oct_ht p20 (((inS 1 (As S.F) 0).length)) c21 (allK 1 S.F) (Sl 32 3 p20 (((inS 1 (As S.F) 0).length)) c21 (fl eO (allK 1 S.F))) (gv_sl _ _ _) (allK_len _ _) (by omega) 1 y z) (tk9 (sf8 (sf7 (sf8 (sf8 (sf8 (sf8 (sf8 (sf8 (sf8 h25)))))))))) fun _ h29 => ⟨kd [], ?_⟩
 refine go [] ?_
 exact en (.bool (decide ((1, y, z) ∈ (allK 1 S.F)))) [] ⟨_, _, rfl, ⟨by rw [← thr_dec hg]; rfl, rfl⟩, (tk7 (sf6 (sf6 (sf6 (sf6 (sf6 (sf6 (sf8 (tk9 (sf8 (sf7 (sf8 (sf8 (sf8 (sf8 (sf2 (sf4 (sf8 h29))))))))))))))))))⟩

set_option maxHeartbeats 4000000 in
theorem has_2 (b f p d s l : Nat) (S : Wst) (hW : WOk S) (y z : Int) (hz0 : 0 ≤ z) (hz1 : z ≤ 4294967295) (hg : KGood (2, y, z)) (hy0 : 0 ≤ y) (hy1 : y ≤ 63) (hz : 1 ≤ z) : HT Tryz.prog 16 [pV b, .agg #[iV 2, iV y, uV z]] [Cl b [Value.nilIface, .iface 84 (pV f), .iface 87 (pV p), .iface 90 (pV d), pV s, pV l, iV S.now] 79, Fd f 64 S.F, Pl p S.B, Dk d S.D, Sr 146 s S.q, Lg l S.T] (fun v K => v = .bool (decide (Thr S (2, y, z))) ∧ K = [Cl b [Value.nilIface, .iface 84 (pV f), .iface 87 (pV p), .iface 90 (pV d), pV s, pV l, iV S.now] 79, Fd f 64 S.F, Pl p S.B, Dk d S.D, Sr 146 s S.q, Lg l S.T]) := by
 refine hiS Tryz.func16 Tryz.ntmps16 fun g w0 R h0 => go [] <| nP 32 [iV 2, iV y, uV z] h0 (fun _ _ h12 => ?_)
 refine go [] <| dw (Tr.fl 0 (Tr.an 1 (fls [2, 3] (Tr.an 4 (fls [5, 6, 7, 8, 9, 10, 11, 12, 13, 14, 16] (Tr.an 15 (Tr.an 17 (fls [18, 19] Tr.nil)))))))) h12 fun _ h14 => ?_
 have h15 := tk8 (sf7 (sf6 (sf7 (sf7 (sf7 (sf7 (sf7 (sf7 h14))))))))
 refine go [] <| cw1 Tryz.call56 (wvalid_cl b l Value.nilIface (.iface 84 (pV f)) (.iface 87 (pV p)) (.iface 90 (pV d)) (pV s) (iV S.now)) h15 fun _ h17 => ⟨kd [], ?_⟩
 refine go [rd 1 3 1 0 3 h17] <| cw0 Tryz.call15 (couter_ok 2 y z (by omega) (by omega) (by omega)) h17 fun _ h19 => ⟨kd [], ?_⟩
 refine go [rd 1 10 1 0 1 h19, .s 1 13] <| lw (.pointer (some ⟨b, 2, none⟩)) (fun _ => law_indexArr (x := (Operand.tmp 17)) (i := (Operand.tmp 15)) (b := b) (off := 0) (z := 2) (by kernel_rfl) Tryz.underlying76 1 (by kernel_rfl) 2 (by kernel_rfl) (by kernel_rfl) (by omega) (by omega) 2 (by omega) _) ?_
 have h22 := tk8 (sf7 (sf6 (sf6 (sf6 (sf7 (sf7 (sf7 (sf7 h19))))))))
 refine go [rd 1 14 0 2 1 h19, rd 1 16 1 0 3 h19] ?_
 refine iG 87 (pV p) "All" [] 195 (pall_ht p S.B) h22 ?_
 rintro v K _ (⟨p20, c21, rfl, rfl⟩) h24
 have h25 := ap2 h24
 have hl26 : ((inS 1 (As S.B) 0).length) ≤ 64 := by have h_ := inS_len 1 (As S.B) 0; rw [as_len, hW.bl] at h_; exact h_
 refine ⟨kd [rd 0 16 3 0 3 h25], ?_⟩
 refine cw1 Tryz.call57 (oct_ht p20 (((inS 1 (As S.B) 0).length)) c21 (allK 2 S.B) (Sl 32 3 p20 (((inS 1 (As S.B) 0).length)) c21 (fl eO (allK 2 S.B))) (gv_sl _ _ _) (allK_len _ _) (by omega) 2 y z) (tk9 (sf8 (sf7 (sf8 (sf8 (sf8 (sf8 (sf8 (sf8 (sf8 h25)))))))))) fun _ h29 => ⟨kd [], ?_⟩
 refine go [] ?_
 exact en (.bool (decide ((2, y, z) ∈ (allK 2 S.B)))) [] ⟨_, _, rfl, ⟨by rw [← thr_dec hg]; rfl, rfl⟩, (tk7 (sf6 (sf6 (sf6 (sf6 (sf6 (sf6 (sf8 (tk9 (sf8 (sf8 (sf6 (sf8 (sf8 (sf8 (sf2 (sf4 (sf8 h29))))))))))))))))))⟩

set_option maxHeartbeats 4000000 in
theorem has_3 (b f p d s l : Nat) (S : Wst) (hW : WOk S) (y z : Int) (hz0 : 0 ≤ z) (hz1 : z ≤ 4294967295) (hg : KGood (3, y, z)) (hy0 : 0 ≤ y) (hy1 : y ≤ 63) (hz : 1 ≤ z) : HT Tryz.prog 16 [pV b, .agg #[iV 3, iV y, uV z]] [Cl b [Value.nilIface, .iface 84 (pV f), .iface 87 (pV p), .iface 90 (pV d), pV s, pV l, iV S.now] 79, Fd f 64 S.F, Pl p S.B, Dk d S.D, Sr 146 s S.q, Lg l S.T] (fun v K => v = .bool (decide (Thr S (3, y, z))) ∧ K = [Cl b [Value.nilIface, .iface 84 (pV f), .iface 87 (pV p), .iface 90 (pV d), pV s, pV l, iV S.now] 79, Fd f 64 S.F, Pl p S.B, Dk d S.D, Sr 146 s S.q, Lg l S.T]) := by
 refine hiS Tryz.func16 Tryz.ntmps16 fun g w0 R h0 => go [] <| nP 32 [iV 3, iV y, uV z] h0 (fun _ _ h12 => ?_)
 refine go [] <| dw (Tr.fl 0 (Tr.an 1 (fls [2, 3] (Tr.an 4 (fls [5, 6, 7, 8, 9, 10, 11, 12, 13, 14, 16] (Tr.an 15 (Tr.an 17 (fls [18, 19] Tr.nil)))))))) h12 fun _ h14 => ?_
 have h15 := tk8 (sf7 (sf6 (sf7 (sf7 (sf7 (sf7 (sf7 (sf7 h14))))))))
 refine go [] <| cw1 Tryz.call56 (wvalid_cl b l Value.nilIface (.iface 84 (pV f)) (.iface 87 (pV p)) (.iface 90 (pV d)) (pV s) (iV S.now)) h15 fun _ h17 => ⟨kd [], ?_⟩
 refine go [rd 1 3 1 0 3 h17] <| cw0 Tryz.call15 (couter_ok 3 y z (by omega) (by omega) (by omega)) h17 fun _ h19 => ⟨kd [], ?_⟩
 refine go [rd 1 10 1 0 1 h19, .s 1 13] <| lw (.pointer (some ⟨b, 3, none⟩)) (fun _ => law_indexArr (x := (Operand.tmp 17)) (i := (Operand.tmp 15)) (b := b) (off := 0) (z := 3) (by kernel_rfl) Tryz.underlying76 1 (by kernel_rfl) 3 (by kernel_rfl) (by kernel_rfl) (by omega) (by omega) 3 (by omega) _) ?_
 have h22 := tk8 (sf7 (sf6 (sf6 (sf6 (sf6 (sf7 (sf7 (sf7 h19))))))))
 refine go [rd 1 14 0 3 1 h19, rd 1 16 1 0 3 h19] ?_
 refine iG 90 (pV d) "All" [] 198 (dall_ht d S.D) h22 ?_
 rintro v K _ (⟨p20, c21, rfl, rfl⟩) h24
 have h25 := ap2 h24
 have hl26 : ((inS 1 (As S.D) 0).length) ≤ 64 := by have h_ := inS_len 1 (As S.D) 0; rw [as_len, hW.dl] at h_; exact h_
 refine ⟨kd [rd 0 16 3 0 3 h25], ?_⟩
 refine cw1 Tryz.call57 (oct_ht p20 (((inS 1 (As S.D) 0).length)) c21 (allK 3 S.D) (Sl 32 3 p20 (((inS 1 (As S.D) 0).length)) c21 (fl eO (allK 3 S.D))) (gv_sl _ _ _) (allK_len _ _) (by omega) 3 y z) (tk9 (sf8 (sf7 (sf8 (sf8 (sf8 (sf8 (sf8 (sf8 (sf8 h25)))))))))) fun _ h29 => ⟨kd [], ?_⟩
 refine go [] ?_
 exact en (.bool (decide ((3, y, z) ∈ (allK 3 S.D)))) [] ⟨_, _, rfl, ⟨by rw [← thr_dec hg]; rfl, rfl⟩, (tk7 (sf6 (sf6 (sf6 (sf6 (sf6 (sf6 (sf8 (tk9 (sf8 (sf8 (sf8 (sf5 (sf8 (sf8 (sf2 (sf4 (sf8 h29))))))))))))))))))⟩

theorem has_ht (b f p d s l : Nat) (S : Wst) (hW : WOk S) (x y z : Int) (hz0 : 0 ≤ z) (hz1 : z ≤ 4294967295) : HT Tryz.prog 16 [pV b, .agg #[iV x, iV y, uV z]] (wsix b f p d s l S) (fun v K => v = .bool (decide (Thr S (x, y, z))) ∧ K = wsix b f p d s l S) := by
  by_cases h : KGood (x, y, z)
  · rcases kgood_k h with h1 | h1 | h1
    · have h2 : x = 1 := h1
      subst h2
      exact has_1 b f p d s l S hW y z hz0 hz1 h h.2.2.1 h.2.2.2.1 h.2.2.2.2
    · have h2 : x = 2 := h1
      subst h2
      exact has_2 b f p d s l S hW y z hz0 hz1 h h.2.2.1 h.2.2.2.1 h.2.2.2.2
    · have h2 : x = 3 := h1
      subst h2
      exact has_3 b f p d s l S hW y z hz0 hz1 h h.2.2.1 h.2.2.2.1 h.2.2.2.2
  · rw [decide_eq_false (fun h1 : Thr S (x, y, z) => h h1.1)]
    exact has_no b f p d s l S hW x y z hz0 hz1 h
end Go.Proofs.YtggfnbpohmhphaaGreatDoor

/-
  What the calls of a world answer, case by case. No program in sight.
-/
namespace Go.Proofs.YtggfnbpohmhphaaGreatDoor
section
variable {S : Wst} {k y z t : Int} {o : Ky}
theorem tck_arg (h : t < 1 ∨ 1048576 < t) : tckE S t = 2 ∧ tckS S t = S := by
  have e : tckE S t = 2 := if_pos h
  exact ⟨e, if_neg (by rw [e]; decide)⟩
theorem tck_over (h : 1 ≤ t ∧ t ≤ 1048576) (h2 : 1099511627776 < S.now + t) : tckE S t = 17 ∧ tckS S t = S := by
  have e : tckE S t = 17 := by unfold tckE; rw [if_neg (by omega), if_pos h2]
  exact ⟨e, if_neg (by rw [e]; decide)⟩
theorem tck_ok (h : 1 ≤ t ∧ t ≤ 1048576) (h2 : S.now + t ≤ 1099511627776) : tckE S t = 0 ∧ tckS S t = { S with now := S.now + t } := by
  have e : tckE S t = 0 := by unfold tckE; rw [if_neg (by omega), if_neg (by omega)]
  exact ⟨e, if_pos e⟩
theorem thr_at (h : Thr S (k, y, z)) : (As (S.tab k))[y.toNat]? = some (1, z) := h.2
theorem thr_nat (h : KGood (k, y, z)) : y = ((y.toNat : Nat) : Int) := by have h1 : 0 ≤ y := h.2.2.1; omega
end
end Go.Proofs.YtggfnbpohmhphaaGreatDoor

/- Walks, printed by my generator o10.py. -/
namespace Go.Proofs.YtggfnbpohmhphaaGreatDoor
set_option maxHeartbeats 4000000 in
theorem ospan_y (t : Int) (ht : 1 ≤ t ∧ t ≤ 1048576) : HT Tryz.prog 63 [iV t] [] (fun v K => v = .bool true ∧ K = []) := by
 refine hiS Tryz.func63 Tryz.ntmps63 fun g w0 R h0 => go [.v 1 1 (oT (t ≥ 1)), .v 1 4 (oT (t ≤ 1048576))] ?_
 exact en (.bool true) [] ⟨_, _, rfl, ⟨rfl, rfl⟩, h0⟩

set_option maxHeartbeats 4000000 in
theorem ospan_n (t : Int) (ht : t < 1 ∨ 1048576 < t) : HT Tryz.prog 63 [iV t] [] (fun v K => v = .bool false ∧ K = []) := by
 refine hiS Tryz.func63 Tryz.ntmps63 fun g w0 R h0 => go [.s 1 1] ?_
 by_cases c10 : t ≥ 1
 ·
  refine go [.v 1 1 (oT (t ≥ 1)), .v 1 4 (oF (t ≤ 1048576))] ?_
  exact en (.bool false) [] ⟨_, _, rfl, ⟨rfl, rfl⟩, h0⟩
 refine go [.v 1 1 (oF (t ≥ 1))] ?_
 exact en (.bool false) [] ⟨_, _, rfl, ⟨rfl, rfl⟩, h0⟩

end Go.Proofs.YtggfnbpohmhphaaGreatDoor

/- Walks, printed by my generator o11.py. -/
namespace Go.Proofs.YtggfnbpohmhphaaGreatDoor
set_option maxHeartbeats 4000000 in
theorem wtick_ht (b : Nat) (S : Wst) (t : Int) : HT Tryz.prog 29 [pV b, iV t] [Wd b S] (fun v K => v = iV (tckE S t) ∧ K = [Wd b (tckS S t)]) := by
 refine hiS Tryz.func29 Tryz.ntmps29 fun g w0 R h0 => ?_
 obtain ⟨f10, p11, d12, s13, l14, hW15, h16⟩ := wd_open h0
 have hW15n := hW15.nl; have hW15m := hW15.nh; have hW15t := hW15.tn
 refine go [] <| cl1 Tryz.call56 (wvalid_cl b l14 Value.nilIface (.iface 84 (pV f10)) (.iface 87 (pV p11)) (.iface 90 (pV d12)) (pV s13) (iV S.now)) h16 fun _ h18 => go [] ?_
 by_cases c19 : 1 ≤ t
 ·
  by_cases c20 : t ≤ 1048576
  ·
   refine cl0 Tryz.call63 (ospan_y t (by omega)) h18 fun w21 h22 => go [rd 5 3 0 6 1 h22, .v 5 5 (oIr (S.now + t)), .s 5 6] ?_
   by_cases c23 : S.now + t > 1099511627776
   ·
    refine go [.v 5 6 (oT (S.now + t > 1099511627776))] ?_
    have ht_ := tck_over (S := S) (t := t) (by omega) (by omega)
    have h24 : sat g w21 [Wd b S, R] := wd_close hW15 h22
    exact en (iV 17) [] ⟨_, [Wd b S], rfl, ⟨by rw [ht_.1], by rw [ht_.2]⟩, h24⟩
   refine go [.v 5 6 (oF (S.now + t > 1099511627776)), rd 7 3 0 6 1 h22, .v 7 5 (oIr (S.now + t))] <| sP [(6, iV (S.now + t))] [Value.nilIface, .iface 84 (pV f10), .iface 87 (pV p11), .iface 90 (pV d12), pV s13, pV l14, iV (S.now + t)] h22 fun w25 h26 => go [] ?_
   have ht_ := tck_ok (S := S) (t := t) (by omega) (by omega)
   have h27 : sat g w25 [Wd b ({ S with now := S.now + t } : Wst), R] := wd_close (ht_.2 ▸ wok_tck hW15 t) h26
   exact en (iV 0) [] ⟨_, [Wd b ({ S with now := S.now + t } : Wst)], rfl, ⟨by rw [ht_.1], by rw [ht_.2]⟩, h27⟩
  refine cl0 Tryz.call63 (ospan_n t (by omega)) h18 fun w28 h29 => go [] ?_
  have ht_ := tck_arg (S := S) (t := t) (by omega)
  have h30 : sat g w28 [Wd b S, R] := wd_close hW15 h29
  exact en (iV 2) [] ⟨_, [Wd b S], rfl, ⟨by rw [ht_.1], by rw [ht_.2]⟩, h30⟩
 refine cl0 Tryz.call63 (ospan_n t (by omega)) h18 fun w31 h32 => go [] ?_
 have ht_ := tck_arg (S := S) (t := t) (by omega)
 have h33 : sat g w31 [Wd b S, R] := wd_close hW15 h32
 exact en (iV 2) [] ⟨_, [Wd b S], rfl, ⟨by rw [ht_.1], by rw [ht_.2]⟩, h33⟩

set_option maxHeartbeats 4000000 in
theorem wnow_ht (b : Nat) (S : Wst) : HT Tryz.prog 20 [pV b] [Wd b S] (fun v K => v = iV S.now ∧ K = [Wd b S]) := by
 refine hiS Tryz.func20 Tryz.ntmps20 fun g w0 R h0 => ?_
 obtain ⟨f10, p11, d12, s13, l14, hW15, h16⟩ := wd_open h0
 have hW15n := hW15.nl; have hW15m := hW15.nh; have hW15t := hW15.tn
 refine go [] <| cl1 Tryz.call56 (wvalid_cl b l14 Value.nilIface (.iface 84 (pV f10)) (.iface 87 (pV p11)) (.iface 90 (pV d12)) (pV s13) (iV S.now)) h16 fun w17 h18 => go [rd 3 3 0 6 1 h18] ?_
 have h19 : sat g w17 [Wd b S, R] := wd_close hW15 h18
 exact en (iV S.now) [] ⟨_, _, rfl, ⟨rfl, rfl⟩, h19⟩

set_option maxHeartbeats 4000000 in
theorem wansw_ht (wo : World) (hg : Lett wo) (b : Nat) (S : Wst) (l : List UInt8) (hl : l.length ≤ 1099511627776) : HT Tryz.prog 30 [pV b, .string (St l)] [Wd b S, Old wo] (fun v K => v = iV (aswE S l) ∧ K = [Wd b (aswS S l), Old wo]) := by
 refine hiS Tryz.func30 Tryz.ntmps30 fun g w0 R h0 => ?_
 obtain ⟨f10, p11, d12, s13, l14, hW15, h16⟩ := wd_open h0
 have hW15n := hW15.nl; have hW15m := hW15.nh; have hW15t := hW15.tn
 refine go [] <| cl1 Tryz.call56 (wvalid_cl b l14 Value.nilIface (.iface 84 (pV f10)) (.iface 87 (pV p11)) (.iface 90 (pV d12)) (pV s13) (iV S.now)) h16 fun _ h18 => ?_
 have h19 := tk8 (sf7 (sf7 (sf5 (sf5 (sf5 (sf5 (sf6 (sf7 h18))))))))
 refine go [rd 3 3 0 4 1 h18] <| cl2 Tryz.call70 (add_ht wo hg s13 S.q l hl) h19 fun w20 h21 => go [] ?_
 have h23 : sat g w20 [Wd b (aswS S l), Old wo, R] := wd_close (wok_asw hW15 l) (tk8 (sf7 (sf7 (sf7 (sf7 (sf3 (sf7 (sf2 (sf7 h21)))))))))
 exact en (iV ((addE S.q l))) [] ⟨_, _, rfl, ⟨rfl, rfl⟩, h23⟩

set_option maxHeartbeats 4000000 in
theorem wledg_ht (b : Nat) (S : Wst) : HT Tryz.prog 17 [pV b] [Wd b S] (fun v K => ∃ b2 : Nat, v = pV b2 ∧ K = [Wd b S, Lg b2 S.T]) := by
 refine hiS Tryz.func17 Tryz.ntmps17 fun g w0 R h0 => ?_
 obtain ⟨f10, p11, d12, s13, l14, hW15, h16⟩ := wd_open h0
 have hW15n := hW15.nl; have hW15m := hW15.nh; have hW15t := hW15.tn
 refine go [] <| cl1 Tryz.call56 (wvalid_cl b l14 Value.nilIface (.iface 84 (pV f10)) (.iface 87 (pV p11)) (.iface 90 (pV d12)) (pV s13) (iV S.now)) h16 fun _ h18 => ?_
 have h20 := tk7 (sf6 (sf5 (sf5 (sf5 (sf5 (sf5 (sf6 h18)))))))
 refine go [rd 3 3 0 5 1 h18] <| cP Tryz.call58 (lgcopy_ht l14 S.T) h20 ?_
 rintro v K w21 (⟨b19, rfl, rfl⟩) h22
 have h23 := ap2 h22
 refine go [] ?_
 have h25 : sat g w21 [Wd b S, Lg b19 S.T, R] := wd_close hW15 (tk8 (sf7 (sf7 (sf7 (sf7 (sf7 (sf2 (sf2 (sf7 h23)))))))))
 exact en (pV b19) [] ⟨_, _, rfl, ⟨b19, rfl, rfl⟩, h25⟩

end Go.Proofs.YtggfnbpohmhphaaGreatDoor

/-
  Acquiring and releasing, case by case. No program in sight.
-/
namespace Go.Proofs.YtggfnbpohmhphaaGreatDoor
section
variable {S : Wst} {k a y z wy : Int} {o : Ky}
theorem acq_arg (h : ¬ godP k a) : acqE S k a = 2 ∧ acqO S k a = (0, 0, 0) ∧ acqS S k a = S := by
  have e : acqE S k a = 2 := if_pos h
  exact ⟨e, if_neg (by rw [e]; decide), if_pos (.inl h)⟩
theorem acq_err (h : godP k a) {e : Int} (he : grwE S k a = e) (h0 : e ≠ 0) : acqE S k a = e ∧ acqO S k a = (0, 0, 0) ∧ acqS S k a = S := by
  have e1 : acqE S k a = e := by unfold acqE; rw [if_neg (fun q => q h), if_pos (by rw [he]; exact h0), he]
  exact ⟨e1, if_neg (by rw [e1]; exact h0), if_pos (.inr (by rw [he]; exact h0))⟩
theorem acq_later (h : godP k a) (he : grwE S k a = 0) (hq : S.q.headD 1 = 2) : acqE S k a = 15 ∧ acqO S k a = (0, 0, 0) ∧ acqS S k a = { S with q := S.q.tail } := by
  have e1 : acqE S k a = 15 := by unfold acqE; rw [if_neg (fun q => q h), if_neg (fun q => q he), if_pos hq]
  refine ⟨e1, if_neg (by rw [e1]; decide), ?_⟩
  unfold acqS
  rw [if_neg (by rintro (q | q); exact q h; exact q he), if_neg (by rw [e1]; decide)]
theorem acq_fail (h : godP k a) (he : grwE S k a = 0) (hq2 : S.q.headD 1 ≠ 2) (hq : S.q.headD 1 = 3) : acqE S k a = 14 ∧ acqO S k a = (0, 0, 0) ∧ acqS S k a = { S with q := S.q.tail } := by
  have e1 : acqE S k a = 14 := by unfold acqE; rw [if_neg (fun q => q h), if_neg (fun q => q he), if_neg hq2, if_pos hq]
  refine ⟨e1, if_neg (by rw [e1]; decide), ?_⟩
  unfold acqS
  rw [if_neg (by rintro (q | q); exact q h; exact q he), if_neg (by rw [e1]; decide)]
theorem acq_ok (h : godP k a) (he : grwE S k a = 0) (hq2 : S.q.headD 1 ≠ 2) (hq : S.q.headD 1 ≠ 3) : acqE S k a = 0 ∧ acqO S k a = nam k (S.tab k) ∧ acqS S k a = ({ S with q := S.q.tail } : Wst).put k (grw (S.tab k) (valO S k a)) := by
  have e1 : acqE S k a = 0 := by unfold acqE; rw [if_neg (fun q => q h), if_neg (fun q => q he), if_neg hq2, if_neg hq]
  refine ⟨e1, if_pos e1, ?_⟩
  unfold acqS
  rw [if_neg (by rintro (q | q); exact q h; exact q he), if_pos e1]
theorem god1 (h : 0 ≤ a ∧ a ≤ 65535) : godP 1 a := .inl ⟨rfl, h.1, h.2⟩
theorem god2 (h : 1 ≤ a ∧ a ≤ 65536) : godP 2 a := .inr (.inl ⟨rfl, h.1, h.2⟩)
theorem god3 (h : 1 ≤ a ∧ a ≤ 1048576) : godP 3 a := .inr (.inr ⟨rfl, h.1, h.2⟩)
theorem god_no1 (h : ¬ (0 ≤ a ∧ a ≤ 65535)) : ¬ godP 1 a := by unfold godP; omega
theorem god_no2 (h : ¬ (1 ≤ a ∧ a ≤ 65536)) : ¬ godP 2 a := by unfold godP; omega
theorem god_no3 (h : ¬ (1 ≤ a ∧ a ≤ 1048576)) : ¬ godP 3 a := by unfold godP; omega
theorem god_no (h : k < 1 ∨ 3 < k) : ¬ godP k a := by unfold godP; omega
/-- The tables' own words for growing. -/
theorem fre_pos' {X : Xs} (h : ¬ fre X = none) : 0 < (inS 0 (As X) 0).length := by
  rcases Nat.eq_zero_or_pos (inS 0 (As X) 0).length with h0 | h0
  · exact absurd (fre_none.2 h0) h
  · exact h0
theorem opn_grw (h : 0 ≤ a ∧ a ≤ 65535) : opnE S.F a = grwE S 1 a ∧ (opnE S.F a = 0 → opnO S.F a = nam 1 S.F ∧ opnX S.F a = grw S.F a) := by
  have e : grwE S 1 a = if fre S.F = none then 4 else 0 := by
    unfold grwE
    rw [if_neg (by rintro ⟨q, _⟩; exact absurd q (by decide)), if_neg (by rintro ⟨q, _⟩; exact absurd q (by decide))]
    rfl
  rw [e]
  by_cases hf : fre S.F = none
  · rw [if_pos hf]
    have h1 := opn_full (X := S.F) h (fre_none.1 hf)
    exact ⟨h1.2.1, fun q => absurd (h1.2.1.symm.trans q) (by decide)⟩
  · rw [if_neg hf]
    have hp := fre_pos (fre_pos' hf)
    have h1 := opn_ok (X := S.F) (v := a) h hp
    refine ⟨h1.2.1, fun _ => ⟨?_, ?_⟩⟩
    · rw [h1.1]; unfold nam; rw [hp]
    · rw [h1.2.2]; unfold grw; rw [hp]
theorem pin_grw (h : 1 ≤ a ∧ a ≤ 65536) : pinE S.B a = grwE S 2 a ∧ (pinE S.B a = 0 → pinO S.B a = nam 2 S.B ∧ pinX S.B a = grw S.B a) := by
  refine ⟨?_, fun q => ⟨if_pos q, if_pos q⟩⟩
  unfold grwE pinE
  by_cases h1 : 1048576 < used S.B + a
  · rw [if_pos h1, if_pos ⟨rfl, h1⟩]
  · rw [if_neg h1, if_neg (fun q => h1 q.2), if_neg (by rintro ⟨q, _⟩; exact absurd q (by decide))]
    rfl
theorem gnt_grw (h : 1 ≤ a ∧ a ≤ 1048576) : gntE S.D a S.now = grwE S 3 a ∧ (gntE S.D a S.now = 0 → gntO S.D a S.now = nam 3 S.D ∧ gntX S.D a S.now = grw S.D (S.now + a)) := by
  refine ⟨?_, fun q => ⟨if_pos q, if_pos q⟩⟩
  have e1 : ¬ ((3 : Int) = 2 ∧ 1048576 < used S.B + a) := fun q => absurd q.1 (by decide)
  by_cases h1 : 1099511627776 - a < S.now
  · exact (if_pos h1 : gntE S.D a S.now = 17).trans ((if_neg e1).trans (if_pos ⟨rfl, h1⟩)).symm
  · exact (if_neg h1 : gntE S.D a S.now = tkE S.D).trans ((if_neg e1).trans (if_neg (fun q => h1 q.2))).symm
theorem acq_ok1 (h : 0 ≤ a ∧ a ≤ 65535) (he : opnE S.F a = 0) (hq2 : S.q.headD 1 ≠ 2) (hq : S.q.headD 1 ≠ 3) : acqE S 1 a = 0 ∧ acqO S 1 a = opnO S.F a ∧ acqS S 1 a = { S with q := S.q.tail, F := opnX S.F a } := by
  obtain ⟨h1, h2⟩ := opn_grw (S := S) h
  obtain ⟨h3, h4⟩ := h2 he
  obtain ⟨h5, h6, h7⟩ := acq_ok (S := S) (god1 h) (h1 ▸ he) hq2 hq
  exact ⟨h5, h6.trans h3.symm, h7.trans (by rw [h4]; rfl)⟩
theorem acq_ok2 (h : 1 ≤ a ∧ a ≤ 65536) (he : pinE S.B a = 0) (hq2 : S.q.headD 1 ≠ 2) (hq : S.q.headD 1 ≠ 3) : acqE S 2 a = 0 ∧ acqO S 2 a = pinO S.B a ∧ acqS S 2 a = { S with q := S.q.tail, B := pinX S.B a } := by
  obtain ⟨h1, h2⟩ := pin_grw (S := S) h
  obtain ⟨h3, h4⟩ := h2 he
  obtain ⟨h5, h6, h7⟩ := acq_ok (S := S) (god2 h) (h1 ▸ he) hq2 hq
  exact ⟨h5, h6.trans h3.symm, h7.trans (by rw [h4]; rfl)⟩
theorem acq_ok3 (h : 1 ≤ a ∧ a ≤ 1048576) (he : gntE S.D a S.now = 0) (hq2 : S.q.headD 1 ≠ 2) (hq : S.q.headD 1 ≠ 3) : acqE S 3 a = 0 ∧ acqO S 3 a = gntO S.D a S.now ∧ acqS S 3 a = { S with q := S.q.tail, D := gntX S.D a S.now } := by
  obtain ⟨h1, h2⟩ := gnt_grw (S := S) h
  obtain ⟨h3, h4⟩ := h2 he
  obtain ⟨h5, h6, h7⟩ := acq_ok (S := S) (god3 h) (h1 ▸ he) hq2 hq
  exact ⟨h5, h6.trans h3.symm, h7.trans (by rw [h4]; rfl)⟩
/-- Releasing. -/
theorem rel_arg (h : ¬ KGood o ∨ wy < 1 ∨ 3 < wy) : relE S o wy = 2 ∧ relA S o wy = 0 ∧ relS S o wy = S := by
  have e : relE S o wy = 2 := if_pos h
  exact ⟨e, if_neg (by rw [e]; decide), if_pos (by rw [e]; decide)⟩
theorem rel_none (h : KGood o) (hw : 1 ≤ wy ∧ wy ≤ 3) (hT : ¬ Thr S o) : relE S o wy = 5 ∧ relA S o wy = 0 ∧ relS S o wy = S := by
  have e : relE S o wy = 5 := by unfold relE; rw [if_neg (by rintro (q | q); exact q h; omega), if_pos hT]
  exact ⟨e, if_neg (by rw [e]; decide), if_pos (by rw [e]; decide)⟩
theorem rel_full (hw : 1 ≤ wy ∧ wy ≤ 3) (hT : Thr S o) (hn : 10000 ≤ S.T.length) : relE S o wy = 4 ∧ relA S o wy = 0 ∧ relS S o wy = S := by
  have e : relE S o wy = 4 := by unfold relE; rw [if_neg (by rintro (q | q); exact q hT.1; omega), if_neg (fun q => q hT), if_pos hn]
  exact ⟨e, if_neg (by rw [e]; decide), if_pos (by rw [e]; decide)⟩
theorem rel_ok (hw : 1 ≤ wy ∧ wy ≤ 3) (hT : Thr S o) (hn : S.T.length < 10000) : relE S o wy = 0 ∧ relA S o wy = S.q.headD 1 ∧ relS S o wy = if S.q.headD 1 = 1 then ({ S with q := S.q.tail, T := S.T ++ [⟨S.now, o, wy, S.q.headD 1⟩] } : Wst).put o.1 (giv (S.tab o.1) o) else { S with q := S.q.tail, T := S.T ++ [⟨S.now, o, wy, S.q.headD 1⟩] } := by
  have e : relE S o wy = 0 := by unfold relE; rw [if_neg (by rintro (q | q); exact q hT.1; omega), if_neg (fun q => q hT), if_neg (by omega)]
  exact ⟨e, if_pos e, if_neg (by rw [e]; decide)⟩
theorem rel_attP (hW : WOk S) (h : KGood o) (hw : 1 ≤ wy ∧ wy ≤ 3) : attP ⟨S.now, o, wy, S.q.headD 1⟩ := by
  have := headD_bd hW.qb
  exact ⟨hW.nl, hW.nh, kgood_iff.2 h, hw.1, hw.2, this.1, this.2⟩
theorem cls_giv (hT : Thr S (1, y, z)) : clsX S.F (1, y, z) = giv S.F (1, y, z) := by
  obtain ⟨hg, h1⟩ := hT
  have h2 : errA (As S.F) (1, y, z) = 0 := chk_ok (As S.F) (q := y.toNat) (s := (1, z)) rfl hg.2.2.2.1 hg.2.2.2.2 (thr_nat hg) h1 ⟨rfl, rfl⟩
  unfold clsX giv
  rw [if_pos h2]
end
end Go.Proofs.YtggfnbpohmhphaaGreatDoor

/- Walks, printed by my generator o12.py. -/
namespace Go.Proofs.YtggfnbpohmhphaaGreatDoor
set_option maxHeartbeats 4000000 in
theorem god_1y (a : Int) (ha : 0 ≤ a ∧ a ≤ 65535) : HT Tryz.prog 68 [iV 1, iV a] [] (fun v K => v = .bool true ∧ K = []) := by
 refine hiS Tryz.func68 Tryz.ntmps68 fun g w0 R h0 => go [.v 3 1 (oT (a ≥ 0)), .v 3 4 (oT (a ≤ 65535))] ?_
 exact en (.bool true) [] ⟨_, _, rfl, ⟨rfl, rfl⟩, h0⟩

set_option maxHeartbeats 4000000 in
theorem god_1n (a : Int) (ha : a < 0 ∨ 65535 < a) : HT Tryz.prog 68 [iV 1, iV a] [] (fun v K => v = .bool false ∧ K = []) := by
 refine hiS Tryz.func68 Tryz.ntmps68 fun g w0 R h0 => go [.s 3 1] ?_
 by_cases c10 : a ≥ 0
 ·
  refine go [.v 3 1 (oT (a ≥ 0)), .v 3 4 (oF (a ≤ 65535))] ?_
  exact en (.bool false) [] ⟨_, _, rfl, ⟨rfl, rfl⟩, h0⟩
 refine go [.v 3 1 (oF (a ≥ 0))] ?_
 exact en (.bool false) [] ⟨_, _, rfl, ⟨rfl, rfl⟩, h0⟩

set_option maxHeartbeats 4000000 in
theorem god_2y (a : Int) (ha : 1 ≤ a ∧ a ≤ 65536) : HT Tryz.prog 68 [iV 2, iV a] [] (fun v K => v = .bool true ∧ K = []) := by
 refine hiS Tryz.func68 Tryz.ntmps68 fun g w0 R h0 => go [.v 5 1 (oT (a ≥ 1)), .v 5 4 (oT (a ≤ 65536))] ?_
 exact en (.bool true) [] ⟨_, _, rfl, ⟨rfl, rfl⟩, h0⟩

set_option maxHeartbeats 4000000 in
theorem god_2n (a : Int) (ha : a < 1 ∨ 65536 < a) : HT Tryz.prog 68 [iV 2, iV a] [] (fun v K => v = .bool false ∧ K = []) := by
 refine hiS Tryz.func68 Tryz.ntmps68 fun g w0 R h0 => go [.s 5 1] ?_
 by_cases c10 : a ≥ 1
 ·
  refine go [.v 5 1 (oT (a ≥ 1)), .v 5 4 (oF (a ≤ 65536))] ?_
  exact en (.bool false) [] ⟨_, _, rfl, ⟨rfl, rfl⟩, h0⟩
 refine go [.v 5 1 (oF (a ≥ 1))] ?_
 exact en (.bool false) [] ⟨_, _, rfl, ⟨rfl, rfl⟩, h0⟩

set_option maxHeartbeats 4000000 in
theorem god_3y (a : Int) (ha : 1 ≤ a ∧ a ≤ 1048576) : HT Tryz.prog 68 [iV 3, iV a] [] (fun v K => v = .bool true ∧ K = []) := by
 refine hiS Tryz.func68 Tryz.ntmps68 fun g w0 R h0 => go [] <| cl0 Tryz.call63 (ospan_y a (by omega)) h0 fun _ h11 => go [] ?_
 exact en (.bool true) [] ⟨_, _, rfl, ⟨rfl, rfl⟩, h11⟩

set_option maxHeartbeats 4000000 in
theorem god_3n (a : Int) (ha : a < 1 ∨ 1048576 < a) : HT Tryz.prog 68 [iV 3, iV a] [] (fun v K => v = .bool false ∧ K = []) := by
 refine hiS Tryz.func68 Tryz.ntmps68 fun g w0 R h0 => go [] ?_
 by_cases c10 : 1 ≤ a
 ·
  refine cl0 Tryz.call63 (ospan_n a (by omega)) h0 fun _ h12 => go [] ?_
  exact en (.bool false) [] ⟨_, _, rfl, ⟨rfl, rfl⟩, h12⟩
 refine cl0 Tryz.call63 (ospan_n a (by omega)) h0 fun _ h14 => go [] ?_
 exact en (.bool false) [] ⟨_, _, rfl, ⟨rfl, rfl⟩, h14⟩

set_option maxHeartbeats 4000000 in
theorem god_0 (k a : Int) (hk : k < 1 ∨ 3 < k) : HT Tryz.prog 68 [iV k, iV a] [] (fun v K => v = .bool false ∧ K = []) := by
 refine hiS Tryz.func68 Tryz.ntmps68 fun g w0 R h0 => go [.v 2 0 (qeF k 1), .v 4 0 (qeF k 2), .v 6 0 (qeF k 3)] ?_
 exact en (.bool false) [] ⟨_, _, rfl, ⟨rfl, rfl⟩, h0⟩

set_option maxHeartbeats 4000000 in
theorem grown_1 (b f p d s l : Nat) (S : Wst) (hW : WOk S) (a : Int) (ha : 0 ≤ a ∧ a ≤ 65535) : HT Tryz.prog 69 [pV b, iV 1, iV a] [Cl b [Value.nilIface, .iface 84 (pV f), .iface 87 (pV p), .iface 90 (pV d), pV s, pV l, iV S.now] 79, Fd f 64 S.F, Pl p S.B, Dk d S.D, Sr 146 s S.q, Lg l S.T] (fun v K => ∃ c : Nat, v = .tuple #[.iface 84 (pV c), .agg #[iV ((opnO S.F a).1), iV ((opnO S.F a).2.1), uV ((opnO S.F a).2.2)], iV ((opnE S.F a))] ∧ K = [Cl b [Value.nilIface, .iface 84 (pV f), .iface 87 (pV p), .iface 90 (pV d), pV s, pV l, iV S.now] 79, Fd f 64 S.F, Pl p S.B, Dk d S.D, Sr 146 s S.q, Lg l S.T, Fd c 64 (opnX S.F a)]) := by
 refine hiS Tryz.func69 Tryz.ntmps69 fun g w0 R h0 => ?_
 have hWn := hW.nl; have hWm := hW.nh; have hWt := hW.tn
 refine go [] <| nP 32 [iV 0, iV 0, uV 0] h0 (fun _ _ h12 => ?_)
 refine go [.s 1 4] <| lwP (.pointer (some ⟨b, 1, none⟩)) (law_indexArr (x := (Operand.tmp 24)) (i := (Operand.tmp 22)) (b := b) (off := 0) (z := 1) (by kernel_rfl) Tryz.underlying76 1 (by kernel_rfl) 1 (by kernel_rfl) (by kernel_rfl) (by omega) (by omega) 1 (by omega) _) ?_
 have h14 := tk8 (sf7 (sf6 (sf6 (sf7 (sf7 (sf7 (sf7 (sf7 h12))))))))
 refine go [rd 1 5 1 1 1 h12] <| cP Tryz.call72 (fcopy_ht f 64 S.F) h14 ?_
 rintro v K _ (⟨b13, rfl, rfl⟩) h16
 have h18 := tk9 (sf8 (sf7 (sf8 (sf8 (sf8 (sf8 (sf8 (sf8 (sf8 (ap2 h16))))))))))
 refine go [] <| cl1 Tryz.call118 (fopen_ht b13 64 S.F a) h18 fun _ h20 => go [] <| nP 32 [iV 0, iV 0, uV 0] h20 (fun _ _ h23 => ?_)
 refine sP [(0, iV ((opnO S.F a).1)), (1, iV ((opnO S.F a).2.1)), (2, uV ((opnO S.F a).2.2))] [iV ((opnO S.F a).1), iV ((opnO S.F a).2.1), uV ((opnO S.F a).2.2)] h23 fun _ h25 => go [] <| dw (fls [0, 1, 2, 3, 4] (Tr.an 5 (Tr.fl 6 Tr.nil))) h25 fun _ h27 => go [.s 6 1] <| lw (.iface 84 (pV b13)) (fun _ => law_mkIface (t := 84) (x := (Operand.tmp 38)) (by kernel_rfl) Tryz.underlying84 rfl (pV b13) (by kernel_rfl) _) ?_
 have h28 := tk10 (sf9 (sf8 (sf8 (sf8 (sf9 (sf9 (sf9 (sf9 (sf9 (sf9 h27))))))))))
 refine go [rd 6 2 0 0 3 h27] <| sG [(0, iV ((opnO S.F a).1)), (1, iV ((opnO S.F a).2.1)), (2, uV ((opnO S.F a).2.2))] [iV ((opnO S.F a).1), iV ((opnO S.F a).2.1), uV ((opnO S.F a).2.2)] h28 fun _ h30 => ⟨kd [], ?_⟩
 refine go [] ?_
 exact en (.tuple #[.iface 84 (pV b13), .agg #[iV ((opnO S.F a).1), iV ((opnO S.F a).2.1), uV ((opnO S.F a).2.2)], iV ((opnE S.F a))]) [rd 0 0 0 0 3 h30] ⟨_, _, rfl, ⟨b13, rfl, rfl⟩, (tk8 (sf7 (sf7 (sf7 (sf7 (sf7 (sf7 (sf7 (sf9 (tk10 (sf9 (sf8 (sf9 (sf9 (sf9 (sf9 (sf3 (sf2 (sf2 (sf9 h30))))))))))))))))))))⟩

set_option maxHeartbeats 4000000 in
theorem grown_2 (b f p d s l : Nat) (S : Wst) (hW : WOk S) (a : Int) (ha : 1 ≤ a ∧ a ≤ 65536) : HT Tryz.prog 69 [pV b, iV 2, iV a] [Cl b [Value.nilIface, .iface 84 (pV f), .iface 87 (pV p), .iface 90 (pV d), pV s, pV l, iV S.now] 79, Fd f 64 S.F, Pl p S.B, Dk d S.D, Sr 146 s S.q, Lg l S.T] (fun v K => ∃ c : Nat, v = .tuple #[.iface 87 (pV c), .agg #[iV ((pinO S.B a).1), iV ((pinO S.B a).2.1), uV ((pinO S.B a).2.2)], iV ((pinE S.B a))] ∧ K = [Cl b [Value.nilIface, .iface 84 (pV f), .iface 87 (pV p), .iface 90 (pV d), pV s, pV l, iV S.now] 79, Fd f 64 S.F, Pl p S.B, Dk d S.D, Sr 146 s S.q, Lg l S.T, Pl c (pinX S.B a)]) := by
 refine hiS Tryz.func69 Tryz.ntmps69 fun g w0 R h0 => ?_
 have hWn := hW.nl; have hWm := hW.nh; have hWt := hW.tn
 refine go [] <| nP 32 [iV 0, iV 0, uV 0] h0 (fun _ _ h12 => ?_)
 refine go [.s 1 4] <| lwP (.pointer (some ⟨b, 2, none⟩)) (law_indexArr (x := (Operand.tmp 24)) (i := (Operand.tmp 22)) (b := b) (off := 0) (z := 2) (by kernel_rfl) Tryz.underlying76 1 (by kernel_rfl) 2 (by kernel_rfl) (by kernel_rfl) (by omega) (by omega) 2 (by omega) _) ?_
 have h14 := tk8 (sf7 (sf6 (sf6 (sf6 (sf7 (sf7 (sf7 (sf7 h12))))))))
 refine go [rd 1 5 1 2 1 h12] <| cP Tryz.call73 (pcopy_ht p S.B) h14 ?_
 rintro v K _ (⟨b13, rfl, rfl⟩) h16
 have h18 := tk9 (sf8 (sf7 (sf8 (sf8 (sf8 (sf8 (sf8 (sf8 (sf8 (ap2 h16))))))))))
 refine go [] <| cl1 Tryz.call119 (pin_ht b13 S.B a (by omega)) h18 fun _ h20 => go [] <| nP 32 [iV 0, iV 0, uV 0] h20 (fun _ _ h23 => ?_)
 refine sP [(0, iV ((pinO S.B a).1)), (1, iV ((pinO S.B a).2.1)), (2, uV ((pinO S.B a).2.2))] [iV ((pinO S.B a).1), iV ((pinO S.B a).2.1), uV ((pinO S.B a).2.2)] h23 fun _ h25 => go [] <| dw (fls [0, 1, 2, 3, 4] (Tr.an 5 (Tr.fl 6 Tr.nil))) h25 fun _ h27 => go [.s 11 1] <| lw (.iface 87 (pV b13)) (fun _ => law_mkIface (t := 87) (x := (Operand.tmp 53)) (by kernel_rfl) Tryz.underlying87 rfl (pV b13) (by kernel_rfl) _) ?_
 have h28 := tk10 (sf9 (sf8 (sf8 (sf8 (sf9 (sf9 (sf9 (sf9 (sf9 (sf9 h27))))))))))
 refine go [rd 11 2 0 0 3 h27] <| sG [(0, iV ((pinO S.B a).1)), (1, iV ((pinO S.B a).2.1)), (2, uV ((pinO S.B a).2.2))] [iV ((pinO S.B a).1), iV ((pinO S.B a).2.1), uV ((pinO S.B a).2.2)] h28 fun _ h30 => ⟨kd [], ?_⟩
 refine go [] ?_
 exact en (.tuple #[.iface 87 (pV b13), .agg #[iV ((pinO S.B a).1), iV ((pinO S.B a).2.1), uV ((pinO S.B a).2.2)], iV ((pinE S.B a))]) [rd 0 0 0 0 3 h30] ⟨_, _, rfl, ⟨b13, rfl, rfl⟩, (tk8 (sf7 (sf7 (sf7 (sf7 (sf7 (sf7 (sf7 (sf9 (tk10 (sf9 (sf9 (sf7 (sf9 (sf9 (sf9 (sf3 (sf2 (sf2 (sf9 h30))))))))))))))))))))⟩

set_option maxHeartbeats 4000000 in
theorem grown_3 (b f p d s l : Nat) (S : Wst) (hW : WOk S) (a : Int) (ha : 1 ≤ a ∧ a ≤ 1048576) : HT Tryz.prog 69 [pV b, iV 3, iV a] [Cl b [Value.nilIface, .iface 84 (pV f), .iface 87 (pV p), .iface 90 (pV d), pV s, pV l, iV S.now] 79, Fd f 64 S.F, Pl p S.B, Dk d S.D, Sr 146 s S.q, Lg l S.T] (fun v K => ∃ c : Nat, v = .tuple #[.iface 90 (pV c), .agg #[iV ((gntO S.D a S.now).1), iV ((gntO S.D a S.now).2.1), uV ((gntO S.D a S.now).2.2)], iV ((gntE S.D a S.now))] ∧ K = [Cl b [Value.nilIface, .iface 84 (pV f), .iface 87 (pV p), .iface 90 (pV d), pV s, pV l, iV S.now] 79, Fd f 64 S.F, Pl p S.B, Dk d S.D, Sr 146 s S.q, Lg l S.T, Dk c (gntX S.D a S.now)]) := by
 refine hiS Tryz.func69 Tryz.ntmps69 fun g w0 R h0 => ?_
 have hWn := hW.nl; have hWm := hW.nh; have hWt := hW.tn
 refine go [] <| nP 32 [iV 0, iV 0, uV 0] h0 (fun _ _ h12 => ?_)
 refine go [.s 1 4] <| lwP (.pointer (some ⟨b, 3, none⟩)) (law_indexArr (x := (Operand.tmp 24)) (i := (Operand.tmp 22)) (b := b) (off := 0) (z := 3) (by kernel_rfl) Tryz.underlying76 1 (by kernel_rfl) 3 (by kernel_rfl) (by kernel_rfl) (by omega) (by omega) 3 (by omega) _) ?_
 have h14 := tk8 (sf7 (sf6 (sf6 (sf6 (sf6 (sf7 (sf7 (sf7 h12))))))))
 refine go [rd 1 5 1 3 1 h12] <| cP Tryz.call74 (lcopy_ht d S.D) h14 ?_
 rintro v K _ (⟨b13, rfl, rfl⟩) h16
 have h17 := ap2 h16
 have h18 := tk9 (sf8 (sf7 (sf8 (sf8 (sf8 (sf8 (sf8 (sf8 (sf8 h17)))))))))
 refine go [rd 15 5 3 6 1 h17] <| cl1 Tryz.call120 (grant_ht b13 S.D a S.now (by omega) (by omega)) h18 fun _ h20 => go [] <| nP 32 [iV 0, iV 0, uV 0] h20 (fun _ _ h23 => ?_)
 refine sP [(0, iV ((gntO S.D a S.now).1)), (1, iV ((gntO S.D a S.now).2.1)), (2, uV ((gntO S.D a S.now).2.2))] [iV ((gntO S.D a S.now).1), iV ((gntO S.D a S.now).2.1), uV ((gntO S.D a S.now).2.2)] h23 fun _ h25 => go [] <| dw (fls [0, 1, 2, 3, 4] (Tr.an 5 (Tr.fl 6 Tr.nil))) h25 fun _ h27 => go [.s 16 1] <| lw (.iface 90 (pV b13)) (fun _ => law_mkIface (t := 90) (x := (Operand.tmp 72)) (by kernel_rfl) Tryz.underlying90 rfl (pV b13) (by kernel_rfl) _) ?_
 have h28 := tk10 (sf9 (sf8 (sf8 (sf8 (sf9 (sf9 (sf9 (sf9 (sf9 (sf9 h27))))))))))
 refine go [rd 16 2 0 0 3 h27] <| sG [(0, iV ((gntO S.D a S.now).1)), (1, iV ((gntO S.D a S.now).2.1)), (2, uV ((gntO S.D a S.now).2.2))] [iV ((gntO S.D a S.now).1), iV ((gntO S.D a S.now).2.1), uV ((gntO S.D a S.now).2.2)] h28 fun _ h30 => ⟨kd [], ?_⟩
 refine go [] ?_
 exact en (.tuple #[.iface 90 (pV b13), .agg #[iV ((gntO S.D a S.now).1), iV ((gntO S.D a S.now).2.1), uV ((gntO S.D a S.now).2.2)], iV ((gntE S.D a S.now))]) [rd 0 0 0 0 3 h30] ⟨_, _, rfl, ⟨b13, rfl, rfl⟩, (tk8 (sf7 (sf7 (sf7 (sf7 (sf7 (sf7 (sf7 (sf9 (tk10 (sf9 (sf9 (sf9 (sf6 (sf9 (sf9 (sf3 (sf2 (sf2 (sf9 h30))))))))))))))))))))⟩

set_option maxHeartbeats 4000000 in
theorem wacq_1 (b : Nat) (S : Wst) (a : Int) (ha : 0 ≤ a ∧ a ≤ 65535) : HT Tryz.prog 28 [pV b, iV 1, iV a] [Wd b S] (fun v K => v = .tuple #[.agg #[iV (acqO S 1 a).1, iV (acqO S 1 a).2.1, uV (acqO S 1 a).2.2], iV (acqE S 1 a)] ∧ K = [Wd b (acqS S 1 a)]) := by
 refine hiS Tryz.func28 Tryz.ntmps28 fun g w0 R h0 => ?_
 obtain ⟨f10, p11, d12, s13, l14, hW15, h16⟩ := wd_open h0
 have hW15n := hW15.nl; have hW15m := hW15.nh; have hW15t := hW15.tn
 refine go [] <| nP 32 [iV 0, iV 0, uV 0] h16 (fun r17 _ h19 => ?_)
 have h20 := tk8 (sf7 (sf6 (sf7 (sf7 (sf7 (sf7 (sf7 (sf7 h19))))))))
 refine go [] <| cl1 Tryz.call56 (wvalid_cl b l14 Value.nilIface (.iface 84 (pV f10)) (.iface 87 (pV p11)) (.iface 90 (pV d12)) (pV s13) (iV S.now)) h20 fun _ h22 => go [] <| cl0 Tryz.call68 (god_1y a (by omega)) h22 fun _ h24 => ?_
 have h26 := tk8 (sf7 (sf7 (sf7 (sf7 (sf7 (sf7 (sf2 (sf7 h24))))))))
 refine go [] <| cP Tryz.call69 (grown_1 b f10 p11 d12 s13 l14 S hW15 a (by omega)) h26 ?_
 rintro v K _ (⟨c25, rfl, rfl⟩) h28
 have h29 := ap7 h28
 refine go [] <| nP 32 [iV 0, iV 0, uV 0] h29 (fun r30 _ h32 => ?_)
 refine go [] <| sP [(0, iV ((opnO S.F a).1)), (1, iV ((opnO S.F a).2.1)), (2, uV ((opnO S.F a).2.2))] [iV ((opnO S.F a).1), iV ((opnO S.F a).2.1), uV ((opnO S.F a).2.2)] h32 fun _ h34 => go [.s 6 1] ?_
 by_cases c35 : (opnE S.F a) = 0
 ·
  have h36 := tk10 (sf9 (sf8 (sf8 (sf8 (sf8 (sf8 (sf9 (sf9 (sf9 (sf9 h34))))))))))
  refine go [.v 6 1 (qnF ((opnE S.F a)) 0), rd 8 3 1 4 1 h34] <| cl1 Tryz.call65 (next_ht s13 S.q) h36 fun _ h38 => go [.s 9 0] ?_
  by_cases c39 : (S.q.headD 1) = 2
  ·
   have h40 := tk10 (sf9 (sf8 (sf8 (sf8 (sf8 (sf8 (sf8 (sf8 (sf8 (sf9 h38))))))))))
   refine go [.v 9 0 (qeT ((S.q.headD 1)) 2)] <| sP [(0, iV 0), (1, iV 0), (2, uV 0)] [iV 0, iV 0, uV 0] h40 fun w41 h42 => go [] ?_
   have hp_ := acq_later (S := S) (god1 ha) ((opn_grw (S := S) ha).1.symm.trans (by omega)) (by omega)
   have h43 := tk10 (sf9 (sf9 (sf9 (sf9 (sf5 (sf9 (sf3 (sf4 (sf9 (sf9 h42))))))))))
   have h44 : sat g w41 [Wd b ({ S with q := S.q.tail } : Wst), Cl r17 [iV 0, iV 0, uV 0] 32, Cl r30 [iV ((opnO S.F a).1), iV ((opnO S.F a).2.1), uV ((opnO S.F a).2.2)] 32, Fd c25 64 (opnX S.F a), R] := wd_close (hp_.2.2 ▸ wok_acq hW15 1 a) h43
   exact en (.tuple #[.agg #[iV 0, iV 0, uV 0], iV 15]) [rd 0 0 0 0 3 h42] ⟨_, [Wd b ({ S with q := S.q.tail } : Wst)], rfl, ⟨by rw [hp_.1, hp_.2.1], by rw [hp_.2.2]⟩, (tk2 (sf1 (sf4 h44)))⟩
  refine go [.v 9 0 (qeF ((S.q.headD 1)) 2), .s 11 0] ?_
  by_cases c46 : (S.q.headD 1) = 3
  ·
   have h47 := tk10 (sf9 (sf8 (sf8 (sf8 (sf8 (sf8 (sf8 (sf8 (sf8 (sf9 h38))))))))))
   refine go [.v 11 0 (qeT ((S.q.headD 1)) 3)] <| sP [(0, iV 0), (1, iV 0), (2, uV 0)] [iV 0, iV 0, uV 0] h47 fun w48 h49 => go [] ?_
   have hp_ := acq_fail (S := S) (god1 ha) ((opn_grw (S := S) ha).1.symm.trans (by omega)) (by omega) (by omega)
   have h50 := tk10 (sf9 (sf9 (sf9 (sf9 (sf5 (sf9 (sf3 (sf4 (sf9 (sf9 h49))))))))))
   have h51 : sat g w48 [Wd b ({ S with q := S.q.tail } : Wst), Cl r17 [iV 0, iV 0, uV 0] 32, Cl r30 [iV ((opnO S.F a).1), iV ((opnO S.F a).2.1), uV ((opnO S.F a).2.2)] 32, Fd c25 64 (opnX S.F a), R] := wd_close (hp_.2.2 ▸ wok_acq hW15 1 a) h50
   exact en (.tuple #[.agg #[iV 0, iV 0, uV 0], iV 14]) [rd 0 0 0 0 3 h49] ⟨_, [Wd b ({ S with q := S.q.tail } : Wst)], rfl, ⟨by rw [hp_.1, hp_.2.1], by rw [hp_.2.2]⟩, (tk2 (sf1 (sf4 h51)))⟩
  refine go [.v 11 0 (qeF ((S.q.headD 1)) 3), .s 13 5] <| lwP (.pointer (some ⟨b, 1, none⟩)) (law_indexArr (x := (Operand.tmp 49)) (i := (Operand.tmp 46)) (b := b) (off := 0) (z := 1) (by kernel_rfl) Tryz.underlying76 1 (by kernel_rfl) 1 (by kernel_rfl) (by kernel_rfl) (by omega) (by omega) 1 (by omega) _) <| sP [(1, .iface 84 (pV c25))] [Value.nilIface, .iface 84 (pV c25), .iface 87 (pV p11), .iface 90 (pV d12), pV s13, pV l14, iV S.now] (tk10 (sf9 (sf8 (sf8 (sf9 (sf9 (sf9 (sf9 (sf9 (sf9 (sf9 h38))))))))))) fun _ h55 => ?_
  have h56 := tk10 (sf9 (sf8 (sf8 (sf8 (sf8 (sf8 (sf8 (sf8 (sf8 (sf9 h55))))))))))
  refine go [rd 14 0 2 0 3 h55] <| sP [(0, iV ((opnO S.F a).1)), (1, iV ((opnO S.F a).2.1)), (2, uV ((opnO S.F a).2.2))] [iV ((opnO S.F a).1), iV ((opnO S.F a).2.1), uV ((opnO S.F a).2.2)] h56 fun w57 h58 => go [] ?_
  have hp_ := acq_ok1 (S := S) ha (by omega) (by omega) (by omega)
  have h59 := tk10 (sf9 (sf9 (sf8 (sf8 (sf6 (sf8 (sf3 (sf5 (sf5 (sf9 h58))))))))))
  have h60 : sat g w57 [Wd b ({ S with q := S.q.tail, F := opnX S.F a } : Wst), Cl r17 [iV ((opnO S.F a).1), iV ((opnO S.F a).2.1), uV ((opnO S.F a).2.2)] 32, Cl r30 [iV ((opnO S.F a).1), iV ((opnO S.F a).2.1), uV ((opnO S.F a).2.2)] 32, Fd f10 64 S.F, R] := wd_close (hp_.2.2 ▸ wok_acq hW15 1 a) h59
  exact en (.tuple #[.agg #[iV ((opnO S.F a).1), iV ((opnO S.F a).2.1), uV ((opnO S.F a).2.2)], iV 0]) [rd 0 0 0 0 3 h58] ⟨_, [Wd b ({ S with q := S.q.tail, F := opnX S.F a } : Wst)], rfl, ⟨by rw [hp_.1, hp_.2.1], by rw [hp_.2.2]⟩, (tk2 (sf1 (sf4 h60)))⟩
 have h62 := tk10 (sf9 (sf8 (sf8 (sf8 (sf8 (sf8 (sf8 (sf8 (sf8 (sf9 h34))))))))))
 refine go [.v 6 1 (qnT ((opnE S.F a)) 0)] <| sP [(0, iV 0), (1, iV 0), (2, uV 0)] [iV 0, iV 0, uV 0] h62 fun w63 h64 => go [] ?_
 have hp_ := acq_err (S := S) (god1 ha) (opn_grw (S := S) ha).1.symm (by omega)
 have h66 : sat g w63 [Wd b S, Cl r17 [iV 0, iV 0, uV 0] 32, Cl r30 [iV ((opnO S.F a).1), iV ((opnO S.F a).2.1), uV ((opnO S.F a).2.2)] 32, Fd c25 64 (opnX S.F a), R] := wd_close hW15 (tk10 (sf9 (sf9 (sf9 (sf9 (sf9 (sf9 (sf3 (sf3 (sf9 (sf9 h64)))))))))))
 exact en (.tuple #[.agg #[iV 0, iV 0, uV 0], iV ((opnE S.F a))]) [rd 0 0 0 0 3 h64] ⟨_, [Wd b S], rfl, ⟨by rw [hp_.1, hp_.2.1], by rw [hp_.2.2]⟩, (tk2 (sf1 (sf4 h66)))⟩

set_option maxHeartbeats 4000000 in
theorem wacq_1n (b : Nat) (S : Wst) (a : Int) (ha : a < 0 ∨ 65535 < a) (hng : ¬ godP 1 a) : HT Tryz.prog 28 [pV b, iV 1, iV a] [Wd b S] (fun v K => v = .tuple #[.agg #[iV (acqO S 1 a).1, iV (acqO S 1 a).2.1, uV (acqO S 1 a).2.2], iV (acqE S 1 a)] ∧ K = [Wd b (acqS S 1 a)]) := by
 refine hiS Tryz.func28 Tryz.ntmps28 fun g w0 R h0 => ?_
 obtain ⟨f10, p11, d12, s13, l14, hW15, h16⟩ := wd_open h0
 have hW15n := hW15.nl; have hW15m := hW15.nh; have hW15t := hW15.tn
 refine go [] <| nP 32 [iV 0, iV 0, uV 0] h16 (fun r17 _ h19 => ?_)
 have h20 := tk8 (sf7 (sf6 (sf7 (sf7 (sf7 (sf7 (sf7 (sf7 h19))))))))
 refine go [] <| cl1 Tryz.call56 (wvalid_cl b l14 Value.nilIface (.iface 84 (pV f10)) (.iface 87 (pV p11)) (.iface 90 (pV d12)) (pV s13) (iV S.now)) h20 fun _ h22 => go [] ?_
 by_cases c23 : 0 ≤ a
 ·
  refine cl0 Tryz.call68 (god_1n a (by omega)) h22 fun _ h25 => ?_
  have h26 := tk8 (sf7 (sf6 (sf7 (sf7 (sf7 (sf7 (sf7 (sf7 h25))))))))
  refine go [] <| sP [(0, iV 0), (1, iV 0), (2, uV 0)] [iV 0, iV 0, uV 0] h26 fun w27 h28 => go [] ?_
  have hp_ := acq_arg (S := S) (k := 1) (a := a) hng
  have h30 : sat g w27 [Wd b S, Cl r17 [iV 0, iV 0, uV 0] 32, R] := wd_close hW15 (tk8 (sf7 (sf7 (sf7 (sf7 (sf7 (sf7 (sf1 (sf7 h28)))))))))
  exact en (.tuple #[.agg #[iV 0, iV 0, uV 0], iV 2]) [rd 0 0 0 0 3 h28] ⟨_, [Wd b S], rfl, ⟨by rw [hp_.1, hp_.2.1], by rw [hp_.2.2]⟩, (tk2 (sf1 (sf2 h30)))⟩
 refine cl0 Tryz.call68 (god_1n a (by omega)) h22 fun _ h33 => ?_
 have h34 := tk8 (sf7 (sf6 (sf7 (sf7 (sf7 (sf7 (sf7 (sf7 h33))))))))
 refine go [] <| sP [(0, iV 0), (1, iV 0), (2, uV 0)] [iV 0, iV 0, uV 0] h34 fun w35 h36 => go [] ?_
 have hp_ := acq_arg (S := S) (k := 1) (a := a) hng
 have h38 : sat g w35 [Wd b S, Cl r17 [iV 0, iV 0, uV 0] 32, R] := wd_close hW15 (tk8 (sf7 (sf7 (sf7 (sf7 (sf7 (sf7 (sf1 (sf7 h36)))))))))
 exact en (.tuple #[.agg #[iV 0, iV 0, uV 0], iV 2]) [rd 0 0 0 0 3 h36] ⟨_, [Wd b S], rfl, ⟨by rw [hp_.1, hp_.2.1], by rw [hp_.2.2]⟩, (tk2 (sf1 (sf2 h38)))⟩

set_option maxHeartbeats 4000000 in
theorem wacq_2 (b : Nat) (S : Wst) (a : Int) (ha : 1 ≤ a ∧ a ≤ 65536) : HT Tryz.prog 28 [pV b, iV 2, iV a] [Wd b S] (fun v K => v = .tuple #[.agg #[iV (acqO S 2 a).1, iV (acqO S 2 a).2.1, uV (acqO S 2 a).2.2], iV (acqE S 2 a)] ∧ K = [Wd b (acqS S 2 a)]) := by
 refine hiS Tryz.func28 Tryz.ntmps28 fun g w0 R h0 => ?_
 obtain ⟨f10, p11, d12, s13, l14, hW15, h16⟩ := wd_open h0
 have hW15n := hW15.nl; have hW15m := hW15.nh; have hW15t := hW15.tn
 refine go [] <| nP 32 [iV 0, iV 0, uV 0] h16 (fun r17 _ h19 => ?_)
 have h20 := tk8 (sf7 (sf6 (sf7 (sf7 (sf7 (sf7 (sf7 (sf7 h19))))))))
 refine go [] <| cl1 Tryz.call56 (wvalid_cl b l14 Value.nilIface (.iface 84 (pV f10)) (.iface 87 (pV p11)) (.iface 90 (pV d12)) (pV s13) (iV S.now)) h20 fun _ h22 => go [] <| cl0 Tryz.call68 (god_2y a (by omega)) h22 fun _ h24 => ?_
 have h26 := tk8 (sf7 (sf7 (sf7 (sf7 (sf7 (sf7 (sf2 (sf7 h24))))))))
 refine go [] <| cP Tryz.call69 (grown_2 b f10 p11 d12 s13 l14 S hW15 a (by omega)) h26 ?_
 rintro v K _ (⟨c25, rfl, rfl⟩) h28
 have h29 := ap7 h28
 refine go [] <| nP 32 [iV 0, iV 0, uV 0] h29 (fun r30 _ h32 => ?_)
 refine go [] <| sP [(0, iV ((pinO S.B a).1)), (1, iV ((pinO S.B a).2.1)), (2, uV ((pinO S.B a).2.2))] [iV ((pinO S.B a).1), iV ((pinO S.B a).2.1), uV ((pinO S.B a).2.2)] h32 fun _ h34 => go [.s 6 1] ?_
 by_cases c35 : (pinE S.B a) = 0
 ·
  have h36 := tk10 (sf9 (sf8 (sf8 (sf8 (sf8 (sf8 (sf9 (sf9 (sf9 (sf9 h34))))))))))
  refine go [.v 6 1 (qnF ((pinE S.B a)) 0), rd 8 3 1 4 1 h34] <| cl1 Tryz.call65 (next_ht s13 S.q) h36 fun _ h38 => go [.s 9 0] ?_
  by_cases c39 : (S.q.headD 1) = 2
  ·
   have h40 := tk10 (sf9 (sf8 (sf8 (sf8 (sf8 (sf8 (sf8 (sf8 (sf8 (sf9 h38))))))))))
   refine go [.v 9 0 (qeT ((S.q.headD 1)) 2)] <| sP [(0, iV 0), (1, iV 0), (2, uV 0)] [iV 0, iV 0, uV 0] h40 fun w41 h42 => go [] ?_
   have hp_ := acq_later (S := S) (god2 ha) ((pin_grw (S := S) ha).1.symm.trans (by omega)) (by omega)
   have h43 := tk10 (sf9 (sf9 (sf9 (sf9 (sf5 (sf9 (sf3 (sf4 (sf9 (sf9 h42))))))))))
   have h44 : sat g w41 [Wd b ({ S with q := S.q.tail } : Wst), Cl r17 [iV 0, iV 0, uV 0] 32, Cl r30 [iV ((pinO S.B a).1), iV ((pinO S.B a).2.1), uV ((pinO S.B a).2.2)] 32, Pl c25 (pinX S.B a), R] := wd_close (hp_.2.2 ▸ wok_acq hW15 2 a) h43
   exact en (.tuple #[.agg #[iV 0, iV 0, uV 0], iV 15]) [rd 0 0 0 0 3 h42] ⟨_, [Wd b ({ S with q := S.q.tail } : Wst)], rfl, ⟨by rw [hp_.1, hp_.2.1], by rw [hp_.2.2]⟩, (tk2 (sf1 (sf4 h44)))⟩
  refine go [.v 9 0 (qeF ((S.q.headD 1)) 2), .s 11 0] ?_
  by_cases c46 : (S.q.headD 1) = 3
  ·
   have h47 := tk10 (sf9 (sf8 (sf8 (sf8 (sf8 (sf8 (sf8 (sf8 (sf8 (sf9 h38))))))))))
   refine go [.v 11 0 (qeT ((S.q.headD 1)) 3)] <| sP [(0, iV 0), (1, iV 0), (2, uV 0)] [iV 0, iV 0, uV 0] h47 fun w48 h49 => go [] ?_
   have hp_ := acq_fail (S := S) (god2 ha) ((pin_grw (S := S) ha).1.symm.trans (by omega)) (by omega) (by omega)
   have h50 := tk10 (sf9 (sf9 (sf9 (sf9 (sf5 (sf9 (sf3 (sf4 (sf9 (sf9 h49))))))))))
   have h51 : sat g w48 [Wd b ({ S with q := S.q.tail } : Wst), Cl r17 [iV 0, iV 0, uV 0] 32, Cl r30 [iV ((pinO S.B a).1), iV ((pinO S.B a).2.1), uV ((pinO S.B a).2.2)] 32, Pl c25 (pinX S.B a), R] := wd_close (hp_.2.2 ▸ wok_acq hW15 2 a) h50
   exact en (.tuple #[.agg #[iV 0, iV 0, uV 0], iV 14]) [rd 0 0 0 0 3 h49] ⟨_, [Wd b ({ S with q := S.q.tail } : Wst)], rfl, ⟨by rw [hp_.1, hp_.2.1], by rw [hp_.2.2]⟩, (tk2 (sf1 (sf4 h51)))⟩
  refine go [.v 11 0 (qeF ((S.q.headD 1)) 3), .s 13 5] <| lwP (.pointer (some ⟨b, 2, none⟩)) (law_indexArr (x := (Operand.tmp 49)) (i := (Operand.tmp 46)) (b := b) (off := 0) (z := 2) (by kernel_rfl) Tryz.underlying76 1 (by kernel_rfl) 2 (by kernel_rfl) (by kernel_rfl) (by omega) (by omega) 2 (by omega) _) <| sP [(2, .iface 87 (pV c25))] [Value.nilIface, .iface 84 (pV f10), .iface 87 (pV c25), .iface 90 (pV d12), pV s13, pV l14, iV S.now] (tk10 (sf9 (sf8 (sf8 (sf9 (sf9 (sf9 (sf9 (sf9 (sf9 (sf9 h38))))))))))) fun _ h55 => ?_
  have h56 := tk10 (sf9 (sf8 (sf8 (sf8 (sf8 (sf8 (sf8 (sf8 (sf8 (sf9 h55))))))))))
  refine go [rd 14 0 2 0 3 h55] <| sP [(0, iV ((pinO S.B a).1)), (1, iV ((pinO S.B a).2.1)), (2, uV ((pinO S.B a).2.2))] [iV ((pinO S.B a).1), iV ((pinO S.B a).2.1), uV ((pinO S.B a).2.2)] h56 fun w57 h58 => go [] ?_
  have hp_ := acq_ok2 (S := S) ha (by omega) (by omega) (by omega)
  have h59 := tk10 (sf9 (sf9 (sf9 (sf8 (sf6 (sf8 (sf3 (sf5 (sf6 (sf9 h58))))))))))
  have h60 : sat g w57 [Wd b ({ S with q := S.q.tail, B := pinX S.B a } : Wst), Cl r17 [iV ((pinO S.B a).1), iV ((pinO S.B a).2.1), uV ((pinO S.B a).2.2)] 32, Cl r30 [iV ((pinO S.B a).1), iV ((pinO S.B a).2.1), uV ((pinO S.B a).2.2)] 32, Pl p11 S.B, R] := wd_close (hp_.2.2 ▸ wok_acq hW15 2 a) h59
  exact en (.tuple #[.agg #[iV ((pinO S.B a).1), iV ((pinO S.B a).2.1), uV ((pinO S.B a).2.2)], iV 0]) [rd 0 0 0 0 3 h58] ⟨_, [Wd b ({ S with q := S.q.tail, B := pinX S.B a } : Wst)], rfl, ⟨by rw [hp_.1, hp_.2.1], by rw [hp_.2.2]⟩, (tk2 (sf1 (sf4 h60)))⟩
 have h62 := tk10 (sf9 (sf8 (sf8 (sf8 (sf8 (sf8 (sf8 (sf8 (sf8 (sf9 h34))))))))))
 refine go [.v 6 1 (qnT ((pinE S.B a)) 0)] <| sP [(0, iV 0), (1, iV 0), (2, uV 0)] [iV 0, iV 0, uV 0] h62 fun w63 h64 => go [] ?_
 have hp_ := acq_err (S := S) (god2 ha) (pin_grw (S := S) ha).1.symm (by omega)
 have h66 : sat g w63 [Wd b S, Cl r17 [iV 0, iV 0, uV 0] 32, Cl r30 [iV ((pinO S.B a).1), iV ((pinO S.B a).2.1), uV ((pinO S.B a).2.2)] 32, Pl c25 (pinX S.B a), R] := wd_close hW15 (tk10 (sf9 (sf9 (sf9 (sf9 (sf9 (sf9 (sf3 (sf3 (sf9 (sf9 h64)))))))))))
 exact en (.tuple #[.agg #[iV 0, iV 0, uV 0], iV ((pinE S.B a))]) [rd 0 0 0 0 3 h64] ⟨_, [Wd b S], rfl, ⟨by rw [hp_.1, hp_.2.1], by rw [hp_.2.2]⟩, (tk2 (sf1 (sf4 h66)))⟩

set_option maxHeartbeats 4000000 in
theorem wacq_2n (b : Nat) (S : Wst) (a : Int) (ha : a < 1 ∨ 65536 < a) (hng : ¬ godP 2 a) : HT Tryz.prog 28 [pV b, iV 2, iV a] [Wd b S] (fun v K => v = .tuple #[.agg #[iV (acqO S 2 a).1, iV (acqO S 2 a).2.1, uV (acqO S 2 a).2.2], iV (acqE S 2 a)] ∧ K = [Wd b (acqS S 2 a)]) := by
 refine hiS Tryz.func28 Tryz.ntmps28 fun g w0 R h0 => ?_
 obtain ⟨f10, p11, d12, s13, l14, hW15, h16⟩ := wd_open h0
 have hW15n := hW15.nl; have hW15m := hW15.nh; have hW15t := hW15.tn
 refine go [] <| nP 32 [iV 0, iV 0, uV 0] h16 (fun r17 _ h19 => ?_)
 have h20 := tk8 (sf7 (sf6 (sf7 (sf7 (sf7 (sf7 (sf7 (sf7 h19))))))))
 refine go [] <| cl1 Tryz.call56 (wvalid_cl b l14 Value.nilIface (.iface 84 (pV f10)) (.iface 87 (pV p11)) (.iface 90 (pV d12)) (pV s13) (iV S.now)) h20 fun _ h22 => go [] ?_
 by_cases c23 : 1 ≤ a
 ·
  refine cl0 Tryz.call68 (god_2n a (by omega)) h22 fun _ h25 => ?_
  have h26 := tk8 (sf7 (sf6 (sf7 (sf7 (sf7 (sf7 (sf7 (sf7 h25))))))))
  refine go [] <| sP [(0, iV 0), (1, iV 0), (2, uV 0)] [iV 0, iV 0, uV 0] h26 fun w27 h28 => go [] ?_
  have hp_ := acq_arg (S := S) (k := 2) (a := a) hng
  have h30 : sat g w27 [Wd b S, Cl r17 [iV 0, iV 0, uV 0] 32, R] := wd_close hW15 (tk8 (sf7 (sf7 (sf7 (sf7 (sf7 (sf7 (sf1 (sf7 h28)))))))))
  exact en (.tuple #[.agg #[iV 0, iV 0, uV 0], iV 2]) [rd 0 0 0 0 3 h28] ⟨_, [Wd b S], rfl, ⟨by rw [hp_.1, hp_.2.1], by rw [hp_.2.2]⟩, (tk2 (sf1 (sf2 h30)))⟩
 refine cl0 Tryz.call68 (god_2n a (by omega)) h22 fun _ h33 => ?_
 have h34 := tk8 (sf7 (sf6 (sf7 (sf7 (sf7 (sf7 (sf7 (sf7 h33))))))))
 refine go [] <| sP [(0, iV 0), (1, iV 0), (2, uV 0)] [iV 0, iV 0, uV 0] h34 fun w35 h36 => go [] ?_
 have hp_ := acq_arg (S := S) (k := 2) (a := a) hng
 have h38 : sat g w35 [Wd b S, Cl r17 [iV 0, iV 0, uV 0] 32, R] := wd_close hW15 (tk8 (sf7 (sf7 (sf7 (sf7 (sf7 (sf7 (sf1 (sf7 h36)))))))))
 exact en (.tuple #[.agg #[iV 0, iV 0, uV 0], iV 2]) [rd 0 0 0 0 3 h36] ⟨_, [Wd b S], rfl, ⟨by rw [hp_.1, hp_.2.1], by rw [hp_.2.2]⟩, (tk2 (sf1 (sf2 h38)))⟩

set_option maxHeartbeats 4000000 in
theorem wacq_3 (b : Nat) (S : Wst) (a : Int) (ha : 1 ≤ a ∧ a ≤ 1048576) : HT Tryz.prog 28 [pV b, iV 3, iV a] [Wd b S] (fun v K => v = .tuple #[.agg #[iV (acqO S 3 a).1, iV (acqO S 3 a).2.1, uV (acqO S 3 a).2.2], iV (acqE S 3 a)] ∧ K = [Wd b (acqS S 3 a)]) := by
 refine hiS Tryz.func28 Tryz.ntmps28 fun g w0 R h0 => ?_
 obtain ⟨f10, p11, d12, s13, l14, hW15, h16⟩ := wd_open h0
 have hW15n := hW15.nl; have hW15m := hW15.nh; have hW15t := hW15.tn
 refine go [] <| nP 32 [iV 0, iV 0, uV 0] h16 (fun r17 _ h19 => ?_)
 have h20 := tk8 (sf7 (sf6 (sf7 (sf7 (sf7 (sf7 (sf7 (sf7 h19))))))))
 refine go [] <| cl1 Tryz.call56 (wvalid_cl b l14 Value.nilIface (.iface 84 (pV f10)) (.iface 87 (pV p11)) (.iface 90 (pV d12)) (pV s13) (iV S.now)) h20 fun _ h22 => go [] <| cl0 Tryz.call68 (god_3y a (by omega)) h22 fun _ h24 => ?_
 have h26 := tk8 (sf7 (sf7 (sf7 (sf7 (sf7 (sf7 (sf2 (sf7 h24))))))))
 refine go [] <| cP Tryz.call69 (grown_3 b f10 p11 d12 s13 l14 S hW15 a (by omega)) h26 ?_
 rintro v K _ (⟨c25, rfl, rfl⟩) h28
 have h29 := ap7 h28
 refine go [] <| nP 32 [iV 0, iV 0, uV 0] h29 (fun r30 _ h32 => ?_)
 refine go [] <| sP [(0, iV ((gntO S.D a S.now).1)), (1, iV ((gntO S.D a S.now).2.1)), (2, uV ((gntO S.D a S.now).2.2))] [iV ((gntO S.D a S.now).1), iV ((gntO S.D a S.now).2.1), uV ((gntO S.D a S.now).2.2)] h32 fun _ h34 => go [.s 6 1] ?_
 by_cases c35 : (gntE S.D a S.now) = 0
 ·
  have h36 := tk10 (sf9 (sf8 (sf8 (sf8 (sf8 (sf8 (sf9 (sf9 (sf9 (sf9 h34))))))))))
  refine go [.v 6 1 (qnF ((gntE S.D a S.now)) 0), rd 8 3 1 4 1 h34] <| cl1 Tryz.call65 (next_ht s13 S.q) h36 fun _ h38 => go [.s 9 0] ?_
  by_cases c39 : (S.q.headD 1) = 2
  ·
   have h40 := tk10 (sf9 (sf8 (sf8 (sf8 (sf8 (sf8 (sf8 (sf8 (sf8 (sf9 h38))))))))))
   refine go [.v 9 0 (qeT ((S.q.headD 1)) 2)] <| sP [(0, iV 0), (1, iV 0), (2, uV 0)] [iV 0, iV 0, uV 0] h40 fun w41 h42 => go [] ?_
   have hp_ := acq_later (S := S) (god3 ha) ((gnt_grw (S := S) ha).1.symm.trans (by omega)) (by omega)
   have h43 := tk10 (sf9 (sf9 (sf9 (sf9 (sf5 (sf9 (sf3 (sf4 (sf9 (sf9 h42))))))))))
   have h44 : sat g w41 [Wd b ({ S with q := S.q.tail } : Wst), Cl r17 [iV 0, iV 0, uV 0] 32, Cl r30 [iV ((gntO S.D a S.now).1), iV ((gntO S.D a S.now).2.1), uV ((gntO S.D a S.now).2.2)] 32, Dk c25 (gntX S.D a S.now), R] := wd_close (hp_.2.2 ▸ wok_acq hW15 3 a) h43
   exact en (.tuple #[.agg #[iV 0, iV 0, uV 0], iV 15]) [rd 0 0 0 0 3 h42] ⟨_, [Wd b ({ S with q := S.q.tail } : Wst)], rfl, ⟨by rw [hp_.1, hp_.2.1], by rw [hp_.2.2]⟩, (tk2 (sf1 (sf4 h44)))⟩
  refine go [.v 9 0 (qeF ((S.q.headD 1)) 2), .s 11 0] ?_
  by_cases c46 : (S.q.headD 1) = 3
  ·
   have h47 := tk10 (sf9 (sf8 (sf8 (sf8 (sf8 (sf8 (sf8 (sf8 (sf8 (sf9 h38))))))))))
   refine go [.v 11 0 (qeT ((S.q.headD 1)) 3)] <| sP [(0, iV 0), (1, iV 0), (2, uV 0)] [iV 0, iV 0, uV 0] h47 fun w48 h49 => go [] ?_
   have hp_ := acq_fail (S := S) (god3 ha) ((gnt_grw (S := S) ha).1.symm.trans (by omega)) (by omega) (by omega)
   have h50 := tk10 (sf9 (sf9 (sf9 (sf9 (sf5 (sf9 (sf3 (sf4 (sf9 (sf9 h49))))))))))
   have h51 : sat g w48 [Wd b ({ S with q := S.q.tail } : Wst), Cl r17 [iV 0, iV 0, uV 0] 32, Cl r30 [iV ((gntO S.D a S.now).1), iV ((gntO S.D a S.now).2.1), uV ((gntO S.D a S.now).2.2)] 32, Dk c25 (gntX S.D a S.now), R] := wd_close (hp_.2.2 ▸ wok_acq hW15 3 a) h50
   exact en (.tuple #[.agg #[iV 0, iV 0, uV 0], iV 14]) [rd 0 0 0 0 3 h49] ⟨_, [Wd b ({ S with q := S.q.tail } : Wst)], rfl, ⟨by rw [hp_.1, hp_.2.1], by rw [hp_.2.2]⟩, (tk2 (sf1 (sf4 h51)))⟩
  refine go [.v 11 0 (qeF ((S.q.headD 1)) 3), .s 13 5] <| lwP (.pointer (some ⟨b, 3, none⟩)) (law_indexArr (x := (Operand.tmp 49)) (i := (Operand.tmp 46)) (b := b) (off := 0) (z := 3) (by kernel_rfl) Tryz.underlying76 1 (by kernel_rfl) 3 (by kernel_rfl) (by kernel_rfl) (by omega) (by omega) 3 (by omega) _) <| sP [(3, .iface 90 (pV c25))] [Value.nilIface, .iface 84 (pV f10), .iface 87 (pV p11), .iface 90 (pV c25), pV s13, pV l14, iV S.now] (tk10 (sf9 (sf8 (sf8 (sf9 (sf9 (sf9 (sf9 (sf9 (sf9 (sf9 h38))))))))))) fun _ h55 => ?_
  have h56 := tk10 (sf9 (sf8 (sf8 (sf8 (sf8 (sf8 (sf8 (sf8 (sf8 (sf9 h55))))))))))
  refine go [rd 14 0 2 0 3 h55] <| sP [(0, iV ((gntO S.D a S.now).1)), (1, iV ((gntO S.D a S.now).2.1)), (2, uV ((gntO S.D a S.now).2.2))] [iV ((gntO S.D a S.now).1), iV ((gntO S.D a S.now).2.1), uV ((gntO S.D a S.now).2.2)] h56 fun w57 h58 => go [] ?_
  have hp_ := acq_ok3 (S := S) ha (by omega) (by omega) (by omega)
  have h59 := tk10 (sf9 (sf9 (sf9 (sf9 (sf6 (sf8 (sf3 (sf5 (sf7 (sf9 h58))))))))))
  have h60 : sat g w57 [Wd b ({ S with q := S.q.tail, D := gntX S.D a S.now } : Wst), Cl r17 [iV ((gntO S.D a S.now).1), iV ((gntO S.D a S.now).2.1), uV ((gntO S.D a S.now).2.2)] 32, Cl r30 [iV ((gntO S.D a S.now).1), iV ((gntO S.D a S.now).2.1), uV ((gntO S.D a S.now).2.2)] 32, Dk d12 S.D, R] := wd_close (hp_.2.2 ▸ wok_acq hW15 3 a) h59
  exact en (.tuple #[.agg #[iV ((gntO S.D a S.now).1), iV ((gntO S.D a S.now).2.1), uV ((gntO S.D a S.now).2.2)], iV 0]) [rd 0 0 0 0 3 h58] ⟨_, [Wd b ({ S with q := S.q.tail, D := gntX S.D a S.now } : Wst)], rfl, ⟨by rw [hp_.1, hp_.2.1], by rw [hp_.2.2]⟩, (tk2 (sf1 (sf4 h60)))⟩
 have h62 := tk10 (sf9 (sf8 (sf8 (sf8 (sf8 (sf8 (sf8 (sf8 (sf8 (sf9 h34))))))))))
 refine go [.v 6 1 (qnT ((gntE S.D a S.now)) 0)] <| sP [(0, iV 0), (1, iV 0), (2, uV 0)] [iV 0, iV 0, uV 0] h62 fun w63 h64 => go [] ?_
 have hp_ := acq_err (S := S) (god3 ha) (gnt_grw (S := S) ha).1.symm (by omega)
 have h66 : sat g w63 [Wd b S, Cl r17 [iV 0, iV 0, uV 0] 32, Cl r30 [iV ((gntO S.D a S.now).1), iV ((gntO S.D a S.now).2.1), uV ((gntO S.D a S.now).2.2)] 32, Dk c25 (gntX S.D a S.now), R] := wd_close hW15 (tk10 (sf9 (sf9 (sf9 (sf9 (sf9 (sf9 (sf3 (sf3 (sf9 (sf9 h64)))))))))))
 exact en (.tuple #[.agg #[iV 0, iV 0, uV 0], iV ((gntE S.D a S.now))]) [rd 0 0 0 0 3 h64] ⟨_, [Wd b S], rfl, ⟨by rw [hp_.1, hp_.2.1], by rw [hp_.2.2]⟩, (tk2 (sf1 (sf4 h66)))⟩

set_option maxHeartbeats 4000000 in
theorem wacq_3n (b : Nat) (S : Wst) (a : Int) (ha : a < 1 ∨ 1048576 < a) (hng : ¬ godP 3 a) : HT Tryz.prog 28 [pV b, iV 3, iV a] [Wd b S] (fun v K => v = .tuple #[.agg #[iV (acqO S 3 a).1, iV (acqO S 3 a).2.1, uV (acqO S 3 a).2.2], iV (acqE S 3 a)] ∧ K = [Wd b (acqS S 3 a)]) := by
 refine hiS Tryz.func28 Tryz.ntmps28 fun g w0 R h0 => ?_
 obtain ⟨f10, p11, d12, s13, l14, hW15, h16⟩ := wd_open h0
 have hW15n := hW15.nl; have hW15m := hW15.nh; have hW15t := hW15.tn
 refine go [] <| nP 32 [iV 0, iV 0, uV 0] h16 (fun r17 _ h19 => ?_)
 have h20 := tk8 (sf7 (sf6 (sf7 (sf7 (sf7 (sf7 (sf7 (sf7 h19))))))))
 refine go [] <| cl1 Tryz.call56 (wvalid_cl b l14 Value.nilIface (.iface 84 (pV f10)) (.iface 87 (pV p11)) (.iface 90 (pV d12)) (pV s13) (iV S.now)) h20 fun _ h22 => go [] ?_
 by_cases c23 : 1 ≤ a
 ·
  refine cl0 Tryz.call68 (god_3n a (by omega)) h22 fun _ h25 => ?_
  have h26 := tk8 (sf7 (sf6 (sf7 (sf7 (sf7 (sf7 (sf7 (sf7 h25))))))))
  refine go [] <| sP [(0, iV 0), (1, iV 0), (2, uV 0)] [iV 0, iV 0, uV 0] h26 fun w27 h28 => go [] ?_
  have hp_ := acq_arg (S := S) (k := 3) (a := a) hng
  have h30 : sat g w27 [Wd b S, Cl r17 [iV 0, iV 0, uV 0] 32, R] := wd_close hW15 (tk8 (sf7 (sf7 (sf7 (sf7 (sf7 (sf7 (sf1 (sf7 h28)))))))))
  exact en (.tuple #[.agg #[iV 0, iV 0, uV 0], iV 2]) [rd 0 0 0 0 3 h28] ⟨_, [Wd b S], rfl, ⟨by rw [hp_.1, hp_.2.1], by rw [hp_.2.2]⟩, (tk2 (sf1 (sf2 h30)))⟩
 refine cl0 Tryz.call68 (god_3n a (by omega)) h22 fun _ h33 => ?_
 have h34 := tk8 (sf7 (sf6 (sf7 (sf7 (sf7 (sf7 (sf7 (sf7 h33))))))))
 refine go [] <| sP [(0, iV 0), (1, iV 0), (2, uV 0)] [iV 0, iV 0, uV 0] h34 fun w35 h36 => go [] ?_
 have hp_ := acq_arg (S := S) (k := 3) (a := a) hng
 have h38 : sat g w35 [Wd b S, Cl r17 [iV 0, iV 0, uV 0] 32, R] := wd_close hW15 (tk8 (sf7 (sf7 (sf7 (sf7 (sf7 (sf7 (sf1 (sf7 h36)))))))))
 exact en (.tuple #[.agg #[iV 0, iV 0, uV 0], iV 2]) [rd 0 0 0 0 3 h36] ⟨_, [Wd b S], rfl, ⟨by rw [hp_.1, hp_.2.1], by rw [hp_.2.2]⟩, (tk2 (sf1 (sf2 h38)))⟩

set_option maxHeartbeats 4000000 in
theorem wacq_0 (b : Nat) (S : Wst) (k a : Int) (hk : k < 1 ∨ 3 < k) (hng : ¬ godP k a) : HT Tryz.prog 28 [pV b, iV k, iV a] [Wd b S] (fun v K => v = .tuple #[.agg #[iV (acqO S k a).1, iV (acqO S k a).2.1, uV (acqO S k a).2.2], iV (acqE S k a)] ∧ K = [Wd b (acqS S k a)]) := by
 refine hiS Tryz.func28 Tryz.ntmps28 fun g w0 R h0 => ?_
 obtain ⟨f10, p11, d12, s13, l14, hW15, h16⟩ := wd_open h0
 have hW15n := hW15.nl; have hW15m := hW15.nh; have hW15t := hW15.tn
 refine go [] <| nP 32 [iV 0, iV 0, uV 0] h16 (fun r17 _ h19 => ?_)
 have h20 := tk8 (sf7 (sf6 (sf7 (sf7 (sf7 (sf7 (sf7 (sf7 h19))))))))
 refine go [] <| cl1 Tryz.call56 (wvalid_cl b l14 Value.nilIface (.iface 84 (pV f10)) (.iface 87 (pV p11)) (.iface 90 (pV d12)) (pV s13) (iV S.now)) h20 fun _ h22 => go [] <| cl0 Tryz.call68 (god_0 k a (by omega)) h22 fun _ h24 => ?_
 have h25 := tk8 (sf7 (sf6 (sf7 (sf7 (sf7 (sf7 (sf7 (sf7 h24))))))))
 refine go [] <| sP [(0, iV 0), (1, iV 0), (2, uV 0)] [iV 0, iV 0, uV 0] h25 fun w26 h27 => go [] ?_
 have hp_ := acq_arg (S := S) (k := k) (a := a) hng
 have h29 : sat g w26 [Wd b S, Cl r17 [iV 0, iV 0, uV 0] 32, R] := wd_close hW15 (tk8 (sf7 (sf7 (sf7 (sf7 (sf7 (sf7 (sf1 (sf7 h27)))))))))
 exact en (.tuple #[.agg #[iV 0, iV 0, uV 0], iV 2]) [rd 0 0 0 0 3 h27] ⟨_, [Wd b S], rfl, ⟨by rw [hp_.1, hp_.2.1], by rw [hp_.2.2]⟩, (tk2 (sf1 (sf2 h29)))⟩

theorem wacq_ht (b : Nat) (S : Wst) (k a : Int) : HT Tryz.prog 28 [pV b, iV k, iV a] [Wd b S] (fun v K => v = Value.tuple #[Value.agg #[Value.int .i64 (acqO S k a).1, Value.int .i64 (acqO S k a).2.1, Value.int .u32 (acqO S k a).2.2], Value.int .i64 (acqE S k a)] ∧ K = [Wd b (acqS S k a)]) := by
  by_cases h1 : k = 1
  · subst h1
    by_cases h : 0 ≤ a ∧ a ≤ 65535
    · exact wacq_1 b S a h
    · exact wacq_1n b S a (by omega) (god_no1 h)
  · by_cases h2 : k = 2
    · subst h2
      by_cases h : 1 ≤ a ∧ a ≤ 65536
      · exact wacq_2 b S a h
      · exact wacq_2n b S a (by omega) (god_no2 h)
    · by_cases h3 : k = 3
      · subst h3
        by_cases h : 1 ≤ a ∧ a ≤ 1048576
        · exact wacq_3 b S a h
        · exact wacq_3n b S a (by omega) (god_no3 h)
      · exact wacq_0 b S k a (by omega) (god_no (by omega))

end Go.Proofs.YtggfnbpohmhphaaGreatDoor

/- Walks, printed by my generator o13.py. -/
namespace Go.Proofs.YtggfnbpohmhphaaGreatDoor
set_option maxHeartbeats 4000000 in
theorem back_1 (b f p d s l : Nat) (z0 : Int) : HT Tryz.prog 67 [pV b, iV 1] [Cl b [Value.nilIface, .iface 84 (pV f), .iface 87 (pV p), .iface 90 (pV d), pV s, pV l, iV z0] 79] (fun v K => v = .func (Fn.func 115) #[pV f] #[] ∧ K = [Cl b [Value.nilIface, .iface 84 (pV f), .iface 87 (pV p), .iface 90 (pV d), pV s, pV l, iV z0] 79]) := by
 refine hiS Tryz.func67 Tryz.ntmps67 fun g w0 R h0 => go [.s 1 4] <| lwP (.pointer (some ⟨b, 1, none⟩)) (law_indexArr (x := (Operand.tmp 11)) (i := (Operand.tmp 9)) (b := b) (off := 0) (z := 1) (by kernel_rfl) Tryz.underlying76 1 (by kernel_rfl) 1 (by kernel_rfl) (by kernel_rfl) (by omega) (by omega) 1 (by omega) _) <| go [rd 1 5 0 1 1 h0] ?_
 exact en (.func (Fn.func 115) #[pV f] #[]) [] ⟨_, _, rfl, ⟨rfl, rfl⟩, h0⟩

set_option maxHeartbeats 4000000 in
theorem back_2 (b f p d s l : Nat) (z0 : Int) : HT Tryz.prog 67 [pV b, iV 2] [Cl b [Value.nilIface, .iface 84 (pV f), .iface 87 (pV p), .iface 90 (pV d), pV s, pV l, iV z0] 79] (fun v K => v = .func (Fn.func 116) #[pV p] #[] ∧ K = [Cl b [Value.nilIface, .iface 84 (pV f), .iface 87 (pV p), .iface 90 (pV d), pV s, pV l, iV z0] 79]) := by
 refine hiS Tryz.func67 Tryz.ntmps67 fun g w0 R h0 => go [.s 1 4] <| lwP (.pointer (some ⟨b, 2, none⟩)) (law_indexArr (x := (Operand.tmp 11)) (i := (Operand.tmp 9)) (b := b) (off := 0) (z := 2) (by kernel_rfl) Tryz.underlying76 1 (by kernel_rfl) 2 (by kernel_rfl) (by kernel_rfl) (by omega) (by omega) 2 (by omega) _) <| go [rd 1 5 0 2 1 h0] ?_
 exact en (.func (Fn.func 116) #[pV p] #[]) [] ⟨_, _, rfl, ⟨rfl, rfl⟩, h0⟩

set_option maxHeartbeats 4000000 in
theorem back_3 (b f p d s l : Nat) (z0 : Int) : HT Tryz.prog 67 [pV b, iV 3] [Cl b [Value.nilIface, .iface 84 (pV f), .iface 87 (pV p), .iface 90 (pV d), pV s, pV l, iV z0] 79] (fun v K => v = .func (Fn.func 117) #[pV d] #[] ∧ K = [Cl b [Value.nilIface, .iface 84 (pV f), .iface 87 (pV p), .iface 90 (pV d), pV s, pV l, iV z0] 79]) := by
 refine hiS Tryz.func67 Tryz.ntmps67 fun g w0 R h0 => go [.s 1 4] <| lwP (.pointer (some ⟨b, 3, none⟩)) (law_indexArr (x := (Operand.tmp 11)) (i := (Operand.tmp 9)) (b := b) (off := 0) (z := 3) (by kernel_rfl) Tryz.underlying76 1 (by kernel_rfl) 3 (by kernel_rfl) (by kernel_rfl) (by omega) (by omega) 3 (by omega) _) <| go [rd 1 5 0 3 1 h0] ?_
 exact en (.func (Fn.func 117) #[pV d] #[]) [] ⟨_, _, rfl, ⟨rfl, rfl⟩, h0⟩

set_option maxHeartbeats 4000000 in
theorem wrel_no (b : Nat) (S : Wst) (x y z wy : Int) (hz0 : 0 ≤ z) (hz1 : z ≤ 4294967295) (hg : ¬ (1 ≤ x ∧ x ≤ 3 ∧ 0 ≤ y ∧ y ≤ 63 ∧ 1 ≤ z)) : HT Tryz.prog 27 [pV b, .agg #[iV x, iV y, uV z], iV wy] [Wd b S] (fun v K => v = .tuple #[iV (relA S (x, y, z) wy), iV (relE S (x, y, z) wy)] ∧ K = [Wd b (relS S (x, y, z) wy)]) := by
 refine hiS Tryz.func27 Tryz.ntmps27 fun g w0 R h0 => ?_
 obtain ⟨f10, p11, d12, s13, l14, hW15, h16⟩ := wd_open h0
 have hW15n := hW15.nl; have hW15m := hW15.nh; have hW15t := hW15.tn
 refine go [] <| nP 32 [iV x, iV y, uV z] h16 (fun r17 _ h19 => ?_)
 have h20 := tk8 (sf7 (sf6 (sf7 (sf7 (sf7 (sf7 (sf7 (sf7 h19))))))))
 refine go [] <| cl1 Tryz.call56 (wvalid_cl b l14 Value.nilIface (.iface 84 (pV f10)) (.iface 87 (pV p11)) (.iface 90 (pV d12)) (pV s13) (iV S.now)) h20 fun _ h22 => go [rd 3 0 1 0 3 h22] ?_
 by_cases c23 : 1 ≤ x
 ·
  by_cases c24 : x ≤ 3
  ·
   by_cases c25 : 0 ≤ y
   ·
    by_cases c26 : y ≤ 63
    ·
     refine cl0 Tryz.call15 (couter_no x y z (by omega) (by omega) (by omega)) h22 fun w27 h28 => go [] ?_
     have hp_ := rel_arg (S := S) (o := (x, y, z)) (wy := wy) (.inl hg)
     have h30 : sat g w27 [Wd b S, Cl r17 [iV x, iV y, uV z] 32, R] := wd_close hW15 (tk8 (sf7 (sf7 (sf7 (sf7 (sf7 (sf7 (sf2 (sf7 h28)))))))))
     exact en (.tuple #[iV 0, iV 2]) [] ⟨_, [Wd b S], rfl, ⟨by rw [hp_.1, hp_.2.1], by rw [hp_.2.2]⟩, (tk2 (sf1 (sf2 h30)))⟩
    refine cl0 Tryz.call15 (couter_no x y z (by omega) (by omega) (by omega)) h22 fun w32 h33 => go [] ?_
    have hp_ := rel_arg (S := S) (o := (x, y, z)) (wy := wy) (.inl hg)
    have h35 : sat g w32 [Wd b S, Cl r17 [iV x, iV y, uV z] 32, R] := wd_close hW15 (tk8 (sf7 (sf7 (sf7 (sf7 (sf7 (sf7 (sf2 (sf7 h33)))))))))
    exact en (.tuple #[iV 0, iV 2]) [] ⟨_, [Wd b S], rfl, ⟨by rw [hp_.1, hp_.2.1], by rw [hp_.2.2]⟩, (tk2 (sf1 (sf2 h35)))⟩
   refine cl0 Tryz.call15 (couter_no x y z (by omega) (by omega) (by omega)) h22 fun w37 h38 => go [] ?_
   have hp_ := rel_arg (S := S) (o := (x, y, z)) (wy := wy) (.inl hg)
   have h40 : sat g w37 [Wd b S, Cl r17 [iV x, iV y, uV z] 32, R] := wd_close hW15 (tk8 (sf7 (sf7 (sf7 (sf7 (sf7 (sf7 (sf2 (sf7 h38)))))))))
   exact en (.tuple #[iV 0, iV 2]) [] ⟨_, [Wd b S], rfl, ⟨by rw [hp_.1, hp_.2.1], by rw [hp_.2.2]⟩, (tk2 (sf1 (sf2 h40)))⟩
  refine cl0 Tryz.call15 (couter_no x y z (by omega) (by omega) (by omega)) h22 fun w42 h43 => go [] ?_
  have hp_ := rel_arg (S := S) (o := (x, y, z)) (wy := wy) (.inl hg)
  have h45 : sat g w42 [Wd b S, Cl r17 [iV x, iV y, uV z] 32, R] := wd_close hW15 (tk8 (sf7 (sf7 (sf7 (sf7 (sf7 (sf7 (sf2 (sf7 h43)))))))))
  exact en (.tuple #[iV 0, iV 2]) [] ⟨_, [Wd b S], rfl, ⟨by rw [hp_.1, hp_.2.1], by rw [hp_.2.2]⟩, (tk2 (sf1 (sf2 h45)))⟩
 refine cl0 Tryz.call15 (couter_no x y z (by omega) (by omega) (by omega)) h22 fun w47 h48 => go [] ?_
 have hp_ := rel_arg (S := S) (o := (x, y, z)) (wy := wy) (.inl hg)
 have h50 : sat g w47 [Wd b S, Cl r17 [iV x, iV y, uV z] 32, R] := wd_close hW15 (tk8 (sf7 (sf7 (sf7 (sf7 (sf7 (sf7 (sf2 (sf7 h48)))))))))
 exact en (.tuple #[iV 0, iV 2]) [] ⟨_, [Wd b S], rfl, ⟨by rw [hp_.1, hp_.2.1], by rw [hp_.2.2]⟩, (tk2 (sf1 (sf2 h50)))⟩

set_option maxHeartbeats 4000000 in
theorem wrel_wy (b : Nat) (S : Wst) (x y z : Int) (hz0 : 0 ≤ z) (hz1 : z ≤ 4294967295) (hg : KGood (x, y, z)) (hy0 : 0 ≤ y) (hy1 : y ≤ 63) (hz : 1 ≤ z) (hx : 1 ≤ x ∧ x ≤ 3) (wy : Int) (hwy : wy < 1 ∨ 3 < wy) : HT Tryz.prog 27 [pV b, .agg #[iV x, iV y, uV z], iV wy] [Wd b S] (fun v K => v = .tuple #[iV (relA S (x, y, z) wy), iV (relE S (x, y, z) wy)] ∧ K = [Wd b (relS S (x, y, z) wy)]) := by
 refine hiS Tryz.func27 Tryz.ntmps27 fun g w0 R h0 => ?_
 obtain ⟨f10, p11, d12, s13, l14, hW15, h16⟩ := wd_open h0
 have hW15n := hW15.nl; have hW15m := hW15.nh; have hW15t := hW15.tn
 refine go [] <| nP 32 [iV x, iV y, uV z] h16 (fun r17 _ h19 => ?_)
 have h20 := tk8 (sf7 (sf6 (sf7 (sf7 (sf7 (sf7 (sf7 (sf7 h19))))))))
 refine go [] <| cl1 Tryz.call56 (wvalid_cl b l14 Value.nilIface (.iface 84 (pV f10)) (.iface 87 (pV p11)) (.iface 90 (pV d12)) (pV s13) (iV S.now)) h20 fun _ h22 => go [rd 3 0 1 0 3 h22] <| cl0 Tryz.call15 (couter_ok x y z (by omega) (by omega) (by omega)) h22 fun w23 h24 => go [.s 3 5] ?_
 by_cases c25 : wy < 1
 ·
  refine go [.v 3 5 (oT (wy < 1))] ?_
  have hp_ := rel_arg (S := S) (o := (x, y, z)) (wy := wy) (.inr hwy)
  have h27 : sat g w23 [Wd b S, Cl r17 [iV x, iV y, uV z] 32, R] := wd_close hW15 (tk8 (sf7 (sf7 (sf7 (sf7 (sf7 (sf7 (sf2 (sf7 h24)))))))))
  exact en (.tuple #[iV 0, iV 2]) [] ⟨_, [Wd b S], rfl, ⟨by rw [hp_.1, hp_.2.1], by rw [hp_.2.2]⟩, (tk2 (sf1 (sf2 h27)))⟩
 refine go [.v 3 5 (oF (wy < 1)), .v 3 9 (oT (wy > 3))] ?_
 have hp_ := rel_arg (S := S) (o := (x, y, z)) (wy := wy) (.inr hwy)
 have h30 : sat g w23 [Wd b S, Cl r17 [iV x, iV y, uV z] 32, R] := wd_close hW15 (tk8 (sf7 (sf7 (sf7 (sf7 (sf7 (sf7 (sf2 (sf7 h24)))))))))
 exact en (.tuple #[iV 0, iV 2]) [] ⟨_, [Wd b S], rfl, ⟨by rw [hp_.1, hp_.2.1], by rw [hp_.2.2]⟩, (tk2 (sf1 (sf2 h30)))⟩

set_option maxHeartbeats 4000000 in
theorem wrel_none (b : Nat) (S : Wst) (x y z : Int) (hz0 : 0 ≤ z) (hz1 : z ≤ 4294967295) (hg : KGood (x, y, z)) (hy0 : 0 ≤ y) (hy1 : y ≤ 63) (hz : 1 ≤ z) (hx : 1 ≤ x ∧ x ≤ 3) (hT : ¬ Thr S (x, y, z)) (wy : Int) (hwy : 1 ≤ wy ∧ wy ≤ 3) : HT Tryz.prog 27 [pV b, .agg #[iV x, iV y, uV z], iV wy] [Wd b S] (fun v K => v = .tuple #[iV (relA S (x, y, z) wy), iV (relE S (x, y, z) wy)] ∧ K = [Wd b (relS S (x, y, z) wy)]) := by
 refine hiS Tryz.func27 Tryz.ntmps27 fun g w0 R h0 => ?_
 obtain ⟨f10, p11, d12, s13, l14, hW15, h16⟩ := wd_open h0
 have hW15n := hW15.nl; have hW15m := hW15.nh; have hW15t := hW15.tn
 refine go [] <| nP 32 [iV x, iV y, uV z] h16 (fun r17 _ h19 => ?_)
 have h20 := tk8 (sf7 (sf6 (sf7 (sf7 (sf7 (sf7 (sf7 (sf7 h19))))))))
 refine go [] <| cl1 Tryz.call56 (wvalid_cl b l14 Value.nilIface (.iface 84 (pV f10)) (.iface 87 (pV p11)) (.iface 90 (pV d12)) (pV s13) (iV S.now)) h20 fun _ h22 => go [rd 3 0 1 0 3 h22] <| cl0 Tryz.call15 (couter_ok x y z (by omega) (by omega) (by omega)) h22 fun _ h24 => ?_
 have h25 := tk8 (sf7 (sf7 (sf7 (sf7 (sf7 (sf7 (sf2 (sf7 h24))))))))
 refine go [.v 3 5 (oF (wy < 1)), .v 3 9 (oF (wy > 3)), rd 5 1 1 0 3 h24] <| cl6 Tryz.call16 ((by have h_ := has_ht b f10 p11 d12 s13 l14 S hW15 x y z (by omega) (by omega); rw [decide_eq_false hT] at h_; exact h_)) h25 fun w26 h27 => ?_
 refine go [] ?_
 have hp_ := rel_none (S := S) (o := (x, y, z)) hg hwy hT
 have h28 : sat g w26 [Wd b S, Cl r17 [iV x, iV y, uV z] 32, R] := wd_close hW15 h27
 exact en (.tuple #[iV 0, iV 5]) [] ⟨_, [Wd b S], rfl, ⟨by rw [hp_.1, hp_.2.1], by rw [hp_.2.2]⟩, (tk2 (sf1 (sf2 h28)))⟩

set_option maxHeartbeats 4000000 in
theorem wrel_full (b : Nat) (S : Wst) (x y z : Int) (hz0 : 0 ≤ z) (hz1 : z ≤ 4294967295) (hg : KGood (x, y, z)) (hy0 : 0 ≤ y) (hy1 : y ≤ 63) (hz : 1 ≤ z) (hx : 1 ≤ x ∧ x ≤ 3) (hT : Thr S (x, y, z)) (wy : Int) (hwy : 1 ≤ wy ∧ wy ≤ 3) (hn : 10000 ≤ S.T.length) : HT Tryz.prog 27 [pV b, .agg #[iV x, iV y, uV z], iV wy] [Wd b S] (fun v K => v = .tuple #[iV (relA S (x, y, z) wy), iV (relE S (x, y, z) wy)] ∧ K = [Wd b (relS S (x, y, z) wy)]) := by
 refine hiS Tryz.func27 Tryz.ntmps27 fun g w0 R h0 => ?_
 obtain ⟨f10, p11, d12, s13, l14, hW15, h16⟩ := wd_open h0
 have hW15n := hW15.nl; have hW15m := hW15.nh; have hW15t := hW15.tn
 refine go [] <| nP 32 [iV x, iV y, uV z] h16 (fun r17 _ h19 => ?_)
 have h20 := tk8 (sf7 (sf6 (sf7 (sf7 (sf7 (sf7 (sf7 (sf7 h19))))))))
 refine go [] <| cl1 Tryz.call56 (wvalid_cl b l14 Value.nilIface (.iface 84 (pV f10)) (.iface 87 (pV p11)) (.iface 90 (pV d12)) (pV s13) (iV S.now)) h20 fun _ h22 => go [rd 3 0 1 0 3 h22] <| cl0 Tryz.call15 (couter_ok x y z (by omega) (by omega) (by omega)) h22 fun _ h24 => ?_
 have h25 := tk8 (sf7 (sf7 (sf7 (sf7 (sf7 (sf7 (sf2 (sf7 h24))))))))
 refine go [.v 3 5 (oF (wy < 1)), .v 3 9 (oF (wy > 3)), rd 5 1 1 0 3 h24] <| cl6 Tryz.call16 ((by have h_ := has_ht b f10 p11 d12 s13 l14 S hW15 x y z (by omega) (by omega); rw [decide_eq_true hT] at h_; exact h_)) h25 fun _ h27 => ?_
 have h28 := tk8 (sf7 (sf6 (sf6 (sf6 (sf6 (sf6 (sf7 (sf7 h27))))))))
 refine go [rd 7 3 0 5 1 h27] <| cl1 Tryz.call23 (lglen_ht l14 S.T) h28 fun w29 h30 => go [.v 7 5 (oT (((S.T.length : Nat) : Int) ≥ 10000))] ?_
 have hp_ := rel_full (S := S) (o := (x, y, z)) hwy hT hn
 have h32 : sat g w29 [Wd b S, Cl r17 [iV x, iV y, uV z] 32, R] := wd_close hW15 (tk8 (sf7 (sf7 (sf7 (sf7 (sf7 (sf2 (sf7 (sf7 h30)))))))))
 exact en (.tuple #[iV 0, iV 4]) [] ⟨_, [Wd b S], rfl, ⟨by rw [hp_.1, hp_.2.1], by rw [hp_.2.2]⟩, (tk2 (sf1 (sf2 h32)))⟩

set_option maxHeartbeats 4000000 in
theorem wrel_1 (b : Nat) (S : Wst) (y z : Int) (hz0 : 0 ≤ z) (hz1 : z ≤ 4294967295) (hg : KGood (1, y, z)) (hy0 : 0 ≤ y) (hy1 : y ≤ 63) (hz : 1 ≤ z) (hT : Thr S (1, y, z)) (wy : Int) (hwy : 1 ≤ wy ∧ wy ≤ 3) (hn : S.T.length < 10000) : HT Tryz.prog 27 [pV b, .agg #[iV 1, iV y, uV z], iV wy] [Wd b S] (fun v K => v = .tuple #[iV (relA S (1, y, z) wy), iV (relE S (1, y, z) wy)] ∧ K = [Wd b (relS S (1, y, z) wy)]) := by
 refine hiS Tryz.func27 Tryz.ntmps27 fun g w0 R h0 => ?_
 obtain ⟨f10, p11, d12, s13, l14, hW15, h16⟩ := wd_open h0
 have hW15n := hW15.nl; have hW15m := hW15.nh; have hW15t := hW15.tn
 refine go [] <| nP 32 [iV 1, iV y, uV z] h16 (fun r17 _ h19 => ?_)
 have h20 := tk8 (sf7 (sf6 (sf7 (sf7 (sf7 (sf7 (sf7 (sf7 h19))))))))
 refine go [] <| cl1 Tryz.call56 (wvalid_cl b l14 Value.nilIface (.iface 84 (pV f10)) (.iface 87 (pV p11)) (.iface 90 (pV d12)) (pV s13) (iV S.now)) h20 fun _ h22 => go [rd 3 0 1 0 3 h22] <| cl0 Tryz.call15 (couter_ok 1 y z (by omega) (by omega) (by omega)) h22 fun _ h24 => ?_
 have h25 := tk8 (sf7 (sf7 (sf7 (sf7 (sf7 (sf7 (sf2 (sf7 h24))))))))
 refine go [.v 3 5 (oF (wy < 1)), .v 3 9 (oF (wy > 3)), rd 5 1 1 0 3 h24] <| cl6 Tryz.call16 ((by have h_ := has_ht b f10 p11 d12 s13 l14 S hW15 1 y z (by omega) (by omega); rw [decide_eq_true hT] at h_; exact h_)) h25 fun _ h27 => ?_
 have h28 := tk8 (sf7 (sf6 (sf6 (sf6 (sf6 (sf6 (sf7 (sf7 h27))))))))
 refine go [rd 7 3 0 5 1 h27] <| cl1 Tryz.call23 (lglen_ht l14 S.T) h28 fun _ h30 => ?_
 have h31 := tk8 (sf7 (sf6 (sf6 (sf6 (sf6 (sf6 (sf7 (sf7 h30))))))))
 refine go [.v 7 5 (oF (((S.T.length : Nat) : Int) ≥ 10000)), rd 9 3 1 4 1 h30] <| cl1 Tryz.call65 (next_ht s13 S.q) h31 fun _ h33 => go [] <| dw (fls [0, 1, 2, 3, 4, 5, 6, 7, 8, 9, 10, 11] (Tr.an 12 Tr.nil)) h33 fun _ h35 => ?_
 have h36 := tk8 (sf7 (sf6 (sf7 (sf7 (sf7 (sf7 (sf7 (sf7 h35))))))))
 refine go [rd 10 3 2 5 1 h35, rd 10 7 2 6 1 h35, rd 10 8 6 0 3 h35] <| cw1 Tryz.call66 (lgadd_ht l14 S.T S.now 1 y z wy ((S.q.headD 1)) (by omega) (by omega) (rel_attP hW15 hg hwy) hW15.ta (by omega)) h36 fun w37 h38 => ⟨kd [], ?_⟩
 refine go [.s 11 1] ?_
 by_cases c39 : (S.q.headD 1) = 1
 ·
  refine go [.v 11 1 (qeT ((S.q.headD 1)) 1)] <| dw (fls [0, 1, 2, 4] (Tr.an 3 (Tr.an 5 Tr.nil))) h38 fun _ h41 => ?_
  have h42 := tk8 (sf7 (sf6 (sf6 (sf7 (sf7 (sf7 (sf7 (sf7 h41))))))))
  refine go [rd 12 2 6 0 1 h41, rd 12 4 6 0 3 h41] <| cw1 Tryz.call67 (back_1 b f10 p11 d12 s13 l14 S.now) h42 fun _ h44 => ⟨kd [rd 0 4 6 0 3 h44], ?_⟩
  refine cw1 Tryz.call115 ((by have h_ := fclose_ht f10 64 S.F 1 y z (by omega) (by omega); rw [show clsX S.F (1, y, z) = giv S.F (1, y, z) from cls_giv hT] at h_; exact h_)) (tk8 (sf7 (sf6 (sf6 (sf6 (sf7 (sf7 (sf7 (sf7 h44))))))))) fun w46 h47 => ⟨kd [], ?_⟩
  refine go [] ?_
  have hp_ := rel_ok (S := S) (o := (1, y, z)) hwy hT hn
  have hp2_ : relS S (1, y, z) wy = ({ S with q := S.q.tail, T := S.T ++ [⟨S.now, (1, y, z), wy, S.q.headD 1⟩], F := giv S.F (1, y, z) } : Wst) := hp_.2.2.trans (if_pos (by omega))
  have h48 := tk8 (sf7 (sf6 (sf7 (sf7 (sf5 (sf4 (sf7 (sf7 h47))))))))
  have h49 : sat g w46 [Wd b ({ S with q := S.q.tail, T := S.T ++ [⟨S.now, (1, y, z), wy, S.q.headD 1⟩], F := giv S.F (1, y, z) } : Wst), Cl r17 [iV 1, iV y, uV z] 32, R] := wd_close (hp2_ ▸ wok_rel hW15 (1, y, z) wy) h48
  exact en (.tuple #[iV ((S.q.headD 1)), iV 0]) [] ⟨_, [Wd b ({ S with q := S.q.tail, T := S.T ++ [⟨S.now, (1, y, z), wy, S.q.headD 1⟩], F := giv S.F (1, y, z) } : Wst)], rfl, ⟨by rw [hp_.1, hp_.2.1], by rw [hp2_]⟩, (tk2 (sf1 (sf2 h49)))⟩
 refine go [.v 11 1 (qeF ((S.q.headD 1)) 1)] ?_
 have hp_ := rel_ok (S := S) (o := (1, y, z)) hwy hT hn
 have hp2_ : relS S (1, y, z) wy = ({ S with q := S.q.tail, T := S.T ++ [⟨S.now, (1, y, z), wy, S.q.headD 1⟩] } : Wst) := hp_.2.2.trans (if_neg (by omega))
 have h51 := tk8 (sf7 (sf7 (sf7 (sf7 (sf3 (sf2 (sf7 (sf7 h38))))))))
 have h52 : sat g w37 [Wd b ({ S with q := S.q.tail, T := S.T ++ [⟨S.now, (1, y, z), wy, S.q.headD 1⟩] } : Wst), Cl r17 [iV 1, iV y, uV z] 32, R] := wd_close (hp2_ ▸ wok_rel hW15 (1, y, z) wy) h51
 exact en (.tuple #[iV ((S.q.headD 1)), iV 0]) [] ⟨_, [Wd b ({ S with q := S.q.tail, T := S.T ++ [⟨S.now, (1, y, z), wy, S.q.headD 1⟩] } : Wst)], rfl, ⟨by rw [hp_.1, hp_.2.1], by rw [hp2_]⟩, (tk2 (sf1 (sf2 h52)))⟩

set_option maxHeartbeats 4000000 in
theorem wrel_2 (b : Nat) (S : Wst) (y z : Int) (hz0 : 0 ≤ z) (hz1 : z ≤ 4294967295) (hg : KGood (2, y, z)) (hy0 : 0 ≤ y) (hy1 : y ≤ 63) (hz : 1 ≤ z) (hT : Thr S (2, y, z)) (wy : Int) (hwy : 1 ≤ wy ∧ wy ≤ 3) (hn : S.T.length < 10000) : HT Tryz.prog 27 [pV b, .agg #[iV 2, iV y, uV z], iV wy] [Wd b S] (fun v K => v = .tuple #[iV (relA S (2, y, z) wy), iV (relE S (2, y, z) wy)] ∧ K = [Wd b (relS S (2, y, z) wy)]) := by
 refine hiS Tryz.func27 Tryz.ntmps27 fun g w0 R h0 => ?_
 obtain ⟨f10, p11, d12, s13, l14, hW15, h16⟩ := wd_open h0
 have hW15n := hW15.nl; have hW15m := hW15.nh; have hW15t := hW15.tn
 refine go [] <| nP 32 [iV 2, iV y, uV z] h16 (fun r17 _ h19 => ?_)
 have h20 := tk8 (sf7 (sf6 (sf7 (sf7 (sf7 (sf7 (sf7 (sf7 h19))))))))
 refine go [] <| cl1 Tryz.call56 (wvalid_cl b l14 Value.nilIface (.iface 84 (pV f10)) (.iface 87 (pV p11)) (.iface 90 (pV d12)) (pV s13) (iV S.now)) h20 fun _ h22 => go [rd 3 0 1 0 3 h22] <| cl0 Tryz.call15 (couter_ok 2 y z (by omega) (by omega) (by omega)) h22 fun _ h24 => ?_
 have h25 := tk8 (sf7 (sf7 (sf7 (sf7 (sf7 (sf7 (sf2 (sf7 h24))))))))
 refine go [.v 3 5 (oF (wy < 1)), .v 3 9 (oF (wy > 3)), rd 5 1 1 0 3 h24] <| cl6 Tryz.call16 ((by have h_ := has_ht b f10 p11 d12 s13 l14 S hW15 2 y z (by omega) (by omega); rw [decide_eq_true hT] at h_; exact h_)) h25 fun _ h27 => ?_
 have h28 := tk8 (sf7 (sf6 (sf6 (sf6 (sf6 (sf6 (sf7 (sf7 h27))))))))
 refine go [rd 7 3 0 5 1 h27] <| cl1 Tryz.call23 (lglen_ht l14 S.T) h28 fun _ h30 => ?_
 have h31 := tk8 (sf7 (sf6 (sf6 (sf6 (sf6 (sf6 (sf7 (sf7 h30))))))))
 refine go [.v 7 5 (oF (((S.T.length : Nat) : Int) ≥ 10000)), rd 9 3 1 4 1 h30] <| cl1 Tryz.call65 (next_ht s13 S.q) h31 fun _ h33 => go [] <| dw (fls [0, 1, 2, 3, 4, 5, 6, 7, 8, 9, 10, 11] (Tr.an 12 Tr.nil)) h33 fun _ h35 => ?_
 have h36 := tk8 (sf7 (sf6 (sf7 (sf7 (sf7 (sf7 (sf7 (sf7 h35))))))))
 refine go [rd 10 3 2 5 1 h35, rd 10 7 2 6 1 h35, rd 10 8 6 0 3 h35] <| cw1 Tryz.call66 (lgadd_ht l14 S.T S.now 2 y z wy ((S.q.headD 1)) (by omega) (by omega) (rel_attP hW15 hg hwy) hW15.ta (by omega)) h36 fun w37 h38 => ⟨kd [], ?_⟩
 refine go [.s 11 1] ?_
 by_cases c39 : (S.q.headD 1) = 1
 ·
  refine go [.v 11 1 (qeT ((S.q.headD 1)) 1)] <| dw (fls [0, 1, 2, 4] (Tr.an 3 (Tr.an 5 Tr.nil))) h38 fun _ h41 => ?_
  have h42 := tk8 (sf7 (sf6 (sf6 (sf7 (sf7 (sf7 (sf7 (sf7 h41))))))))
  refine go [rd 12 2 6 0 1 h41, rd 12 4 6 0 3 h41] <| cw1 Tryz.call67 (back_2 b f10 p11 d12 s13 l14 S.now) h42 fun _ h44 => ⟨kd [rd 0 4 6 0 3 h44], ?_⟩
  refine cw1 Tryz.call116 (punpin_ht p11 S.B y z y.toNat (thr_at hT) (thr_nat hg)) (tk8 (sf7 (sf6 (sf6 (sf6 (sf6 (sf7 (sf7 (sf7 h44))))))))) fun w46 h47 => ⟨kd [], ?_⟩
  refine go [] ?_
  have hp_ := rel_ok (S := S) (o := (2, y, z)) hwy hT hn
  have hp2_ : relS S (2, y, z) wy = ({ S with q := S.q.tail, T := S.T ++ [⟨S.now, (2, y, z), wy, S.q.headD 1⟩], B := giv S.B (2, y, z) } : Wst) := hp_.2.2.trans (if_pos (by omega))
  have h48 := tk8 (sf7 (sf7 (sf5 (sf7 (sf5 (sf4 (sf7 (sf7 h47))))))))
  have h49 : sat g w46 [Wd b ({ S with q := S.q.tail, T := S.T ++ [⟨S.now, (2, y, z), wy, S.q.headD 1⟩], B := giv S.B (2, y, z) } : Wst), Cl r17 [iV 2, iV y, uV z] 32, R] := wd_close (hp2_ ▸ wok_rel hW15 (2, y, z) wy) h48
  exact en (.tuple #[iV ((S.q.headD 1)), iV 0]) [] ⟨_, [Wd b ({ S with q := S.q.tail, T := S.T ++ [⟨S.now, (2, y, z), wy, S.q.headD 1⟩], B := giv S.B (2, y, z) } : Wst)], rfl, ⟨by rw [hp_.1, hp_.2.1], by rw [hp2_]⟩, (tk2 (sf1 (sf2 h49)))⟩
 refine go [.v 11 1 (qeF ((S.q.headD 1)) 1)] ?_
 have hp_ := rel_ok (S := S) (o := (2, y, z)) hwy hT hn
 have hp2_ : relS S (2, y, z) wy = ({ S with q := S.q.tail, T := S.T ++ [⟨S.now, (2, y, z), wy, S.q.headD 1⟩] } : Wst) := hp_.2.2.trans (if_neg (by omega))
 have h51 := tk8 (sf7 (sf7 (sf7 (sf7 (sf3 (sf2 (sf7 (sf7 h38))))))))
 have h52 : sat g w37 [Wd b ({ S with q := S.q.tail, T := S.T ++ [⟨S.now, (2, y, z), wy, S.q.headD 1⟩] } : Wst), Cl r17 [iV 2, iV y, uV z] 32, R] := wd_close (hp2_ ▸ wok_rel hW15 (2, y, z) wy) h51
 exact en (.tuple #[iV ((S.q.headD 1)), iV 0]) [] ⟨_, [Wd b ({ S with q := S.q.tail, T := S.T ++ [⟨S.now, (2, y, z), wy, S.q.headD 1⟩] } : Wst)], rfl, ⟨by rw [hp_.1, hp_.2.1], by rw [hp2_]⟩, (tk2 (sf1 (sf2 h52)))⟩

set_option maxHeartbeats 4000000 in
theorem wrel_3 (b : Nat) (S : Wst) (y z : Int) (hz0 : 0 ≤ z) (hz1 : z ≤ 4294967295) (hg : KGood (3, y, z)) (hy0 : 0 ≤ y) (hy1 : y ≤ 63) (hz : 1 ≤ z) (hT : Thr S (3, y, z)) (wy : Int) (hwy : 1 ≤ wy ∧ wy ≤ 3) (hn : S.T.length < 10000) : HT Tryz.prog 27 [pV b, .agg #[iV 3, iV y, uV z], iV wy] [Wd b S] (fun v K => v = .tuple #[iV (relA S (3, y, z) wy), iV (relE S (3, y, z) wy)] ∧ K = [Wd b (relS S (3, y, z) wy)]) := by
 refine hiS Tryz.func27 Tryz.ntmps27 fun g w0 R h0 => ?_
 obtain ⟨f10, p11, d12, s13, l14, hW15, h16⟩ := wd_open h0
 have hW15n := hW15.nl; have hW15m := hW15.nh; have hW15t := hW15.tn
 refine go [] <| nP 32 [iV 3, iV y, uV z] h16 (fun r17 _ h19 => ?_)
 have h20 := tk8 (sf7 (sf6 (sf7 (sf7 (sf7 (sf7 (sf7 (sf7 h19))))))))
 refine go [] <| cl1 Tryz.call56 (wvalid_cl b l14 Value.nilIface (.iface 84 (pV f10)) (.iface 87 (pV p11)) (.iface 90 (pV d12)) (pV s13) (iV S.now)) h20 fun _ h22 => go [rd 3 0 1 0 3 h22] <| cl0 Tryz.call15 (couter_ok 3 y z (by omega) (by omega) (by omega)) h22 fun _ h24 => ?_
 have h25 := tk8 (sf7 (sf7 (sf7 (sf7 (sf7 (sf7 (sf2 (sf7 h24))))))))
 refine go [.v 3 5 (oF (wy < 1)), .v 3 9 (oF (wy > 3)), rd 5 1 1 0 3 h24] <| cl6 Tryz.call16 ((by have h_ := has_ht b f10 p11 d12 s13 l14 S hW15 3 y z (by omega) (by omega); rw [decide_eq_true hT] at h_; exact h_)) h25 fun _ h27 => ?_
 have h28 := tk8 (sf7 (sf6 (sf6 (sf6 (sf6 (sf6 (sf7 (sf7 h27))))))))
 refine go [rd 7 3 0 5 1 h27] <| cl1 Tryz.call23 (lglen_ht l14 S.T) h28 fun _ h30 => ?_
 have h31 := tk8 (sf7 (sf6 (sf6 (sf6 (sf6 (sf6 (sf7 (sf7 h30))))))))
 refine go [.v 7 5 (oF (((S.T.length : Nat) : Int) ≥ 10000)), rd 9 3 1 4 1 h30] <| cl1 Tryz.call65 (next_ht s13 S.q) h31 fun _ h33 => go [] <| dw (fls [0, 1, 2, 3, 4, 5, 6, 7, 8, 9, 10, 11] (Tr.an 12 Tr.nil)) h33 fun _ h35 => ?_
 have h36 := tk8 (sf7 (sf6 (sf7 (sf7 (sf7 (sf7 (sf7 (sf7 h35))))))))
 refine go [rd 10 3 2 5 1 h35, rd 10 7 2 6 1 h35, rd 10 8 6 0 3 h35] <| cw1 Tryz.call66 (lgadd_ht l14 S.T S.now 3 y z wy ((S.q.headD 1)) (by omega) (by omega) (rel_attP hW15 hg hwy) hW15.ta (by omega)) h36 fun w37 h38 => ⟨kd [], ?_⟩
 refine go [.s 11 1] ?_
 by_cases c39 : (S.q.headD 1) = 1
 ·
  refine go [.v 11 1 (qeT ((S.q.headD 1)) 1)] <| dw (fls [0, 1, 2, 4] (Tr.an 3 (Tr.an 5 Tr.nil))) h38 fun _ h41 => ?_
  have h42 := tk8 (sf7 (sf6 (sf6 (sf7 (sf7 (sf7 (sf7 (sf7 h41))))))))
  refine go [rd 12 2 6 0 1 h41, rd 12 4 6 0 3 h41] <| cw1 Tryz.call67 (back_3 b f10 p11 d12 s13 l14 S.now) h42 fun _ h44 => ⟨kd [rd 0 4 6 0 3 h44], ?_⟩
  refine cw1 Tryz.call117 (dreturn_ht d12 S.D y z y.toNat (thr_at hT) (thr_nat hg) (by omega)) (tk8 (sf7 (sf6 (sf6 (sf6 (sf6 (sf6 (sf7 (sf7 h44))))))))) fun w46 h47 => ⟨kd [], ?_⟩
  refine go [] ?_
  have hp_ := rel_ok (S := S) (o := (3, y, z)) hwy hT hn
  have hp2_ : relS S (3, y, z) wy = ({ S with q := S.q.tail, T := S.T ++ [⟨S.now, (3, y, z), wy, S.q.headD 1⟩], D := giv S.D (3, y, z) } : Wst) := hp_.2.2.trans (if_pos (by omega))
  have h48 := tk8 (sf7 (sf7 (sf7 (sf4 (sf5 (sf4 (sf7 (sf7 h47))))))))
  have h49 : sat g w46 [Wd b ({ S with q := S.q.tail, T := S.T ++ [⟨S.now, (3, y, z), wy, S.q.headD 1⟩], D := giv S.D (3, y, z) } : Wst), Cl r17 [iV 3, iV y, uV z] 32, R] := wd_close (hp2_ ▸ wok_rel hW15 (3, y, z) wy) h48
  exact en (.tuple #[iV ((S.q.headD 1)), iV 0]) [] ⟨_, [Wd b ({ S with q := S.q.tail, T := S.T ++ [⟨S.now, (3, y, z), wy, S.q.headD 1⟩], D := giv S.D (3, y, z) } : Wst)], rfl, ⟨by rw [hp_.1, hp_.2.1], by rw [hp2_]⟩, (tk2 (sf1 (sf2 h49)))⟩
 refine go [.v 11 1 (qeF ((S.q.headD 1)) 1)] ?_
 have hp_ := rel_ok (S := S) (o := (3, y, z)) hwy hT hn
 have hp2_ : relS S (3, y, z) wy = ({ S with q := S.q.tail, T := S.T ++ [⟨S.now, (3, y, z), wy, S.q.headD 1⟩] } : Wst) := hp_.2.2.trans (if_neg (by omega))
 have h51 := tk8 (sf7 (sf7 (sf7 (sf7 (sf3 (sf2 (sf7 (sf7 h38))))))))
 have h52 : sat g w37 [Wd b ({ S with q := S.q.tail, T := S.T ++ [⟨S.now, (3, y, z), wy, S.q.headD 1⟩] } : Wst), Cl r17 [iV 3, iV y, uV z] 32, R] := wd_close (hp2_ ▸ wok_rel hW15 (3, y, z) wy) h51
 exact en (.tuple #[iV ((S.q.headD 1)), iV 0]) [] ⟨_, [Wd b ({ S with q := S.q.tail, T := S.T ++ [⟨S.now, (3, y, z), wy, S.q.headD 1⟩] } : Wst)], rfl, ⟨by rw [hp_.1, hp_.2.1], by rw [hp2_]⟩, (tk2 (sf1 (sf2 h52)))⟩

theorem wrel_ht (b : Nat) (S : Wst) (x y z wy : Int) (hz0 : 0 ≤ z) (hz1 : z ≤ 4294967295) : HT Tryz.prog 27 [pV b, .agg #[iV x, iV y, uV z], iV wy] [Wd b S] (fun v K => v = Value.tuple #[Value.int .i64 (relA S (x, y, z) wy), Value.int .i64 (relE S (x, y, z) wy)] ∧ K = [Wd b (relS S (x, y, z) wy)]) := by
  by_cases h : KGood (x, y, z)
  · by_cases hw : 1 ≤ wy ∧ wy ≤ 3
    · by_cases hT : Thr S (x, y, z)
      · by_cases hn : S.T.length < 10000
        · rcases kgood_k h with h1 | h1 | h1
          · have h2 : x = 1 := h1
            subst h2
            exact wrel_1 b S y z hz0 hz1 h h.2.2.1 h.2.2.2.1 h.2.2.2.2 hT wy hw hn
          · have h2 : x = 2 := h1
            subst h2
            exact wrel_2 b S y z hz0 hz1 h h.2.2.1 h.2.2.2.1 h.2.2.2.2 hT wy hw hn
          · have h2 : x = 3 := h1
            subst h2
            exact wrel_3 b S y z hz0 hz1 h h.2.2.1 h.2.2.2.1 h.2.2.2.2 hT wy hw hn
        · exact wrel_full b S x y z hz0 hz1 h h.2.2.1 h.2.2.2.1 h.2.2.2.2 ⟨h.1, h.2.1⟩ hT wy hw (by omega)
      · exact wrel_none b S x y z hz0 hz1 h h.2.2.1 h.2.2.2.1 h.2.2.2.2 ⟨h.1, h.2.1⟩ hT wy hw
    · exact wrel_wy b S x y z hz0 hz1 h h.2.2.1 h.2.2.2.1 h.2.2.2.2 ⟨h.1, h.2.1⟩ wy (by omega)
  · exact wrel_no b S x y z wy hz0 hz1 h

end Go.Proofs.YtggfnbpohmhphaaGreatDoor

/-
  Steps of scripts, and what they do. No program in sight.
-/
namespace Go.Proofs.YtggfnbpohmhphaaGreatDoor
structure Sq where
  d : Int
  k : Int
  a : Int
  o : Ky
  wy : Int
  tk : Int
  tx : List UInt8
def eSq (s : Sq) : List Value := [.int .i64 s.d, .int .i64 s.k, .int .i64 s.a, .int .i64 s.o.1, .int .i64 s.o.2.1, .int .u32 s.o.2.2, .int .i64 s.wy, .int .i64 s.tk, .string (St s.tx)]
theorem eSq_ok : Enc 9 eSq := ⟨fun _ => rfl, fun x v hv => by simp [eSq] at hv; rcases hv with rfl | rfl | rfl | rfl | rfl | rfl | rfl | rfl | rfl <;> rfl⟩
/-- Short scripts. -/
def Sho (L : List Sq) (m : Int) : Prop := (L.length : Int) ≤ m ∧ ∀ s ∈ L, s.tx.length ≤ 40
instance (L : List Sq) (m : Int) : Decidable (Sho L m) := by unfold Sho; infer_instance
theorem sho_no {L : List Sq} {m : Int} (h : m < (L.length : Int)) : decide (Sho L m) = false := decide_eq_false fun q => by have := q.1; omega
theorem sho_long {L : List Sq} {m : Int} {i : Nat} {s : Sq} (hs : L[i]? = some s) (h : 40 < s.tx.length) : decide (Sho L m) = false := decide_eq_false fun q => by have := q.2 s (List.mem_of_getElem? hs); omega
theorem sho_yes {L : List Sq} {m : Int} {i : Nat} (h : (L.length : Int) ≤ m) (h2 : ∀ s ∈ L.take i, s.tx.length ≤ 40) (hi : L.length ≤ i) : decide (Sho L m) = true := decide_eq_true ⟨h, fun s hs => h2 s (by rw [List.take_of_length_le hi]; exact hs)⟩
theorem tk_all2 {α : Type} {p : α → Prop} {L : List α} {i : Nat} {x : α} (h : ∀ s ∈ L.take i, p s) (hx : L[i]? = some x) (hp : p x) : ∀ s ∈ L.take (i + 1), p s := fun s hs => by
  rw [List.take_add_one, hx] at hs
  rcases List.mem_append.1 hs with hs | hs
  · exact h s hs
  · rw [Option.toList_some, List.mem_singleton] at hs
    rw [hs]
    exact hp
section
variable {S : Wst} {s : Sq}
end
end Go.Proofs.YtggfnbpohmhphaaGreatDoor

/- Walks, printed by my generator o14.py. -/
namespace Go.Proofs.YtggfnbpohmhphaaGreatDoor
theorem q14e32_eql_t {n : Nat} {l : Fr} {o : Oper} {x y : Operand} (a0 : Int) (a1 : Int) (a2 : Int) (c0 : Int) (c1 : Int) (c2 : Int) (ho : o.op = .binOp .eql 32 x y 32) (hx : fe n l x = .agg #[.int .i64 a0, .int .i64 a1, .int .u32 a2]) (hy : fe n l y = .agg #[.int .i64 c0, .int .i64 c1, .int .u32 c2]) (h : a0 = c0 ∧ a1 = c1 ∧ a2 = c2) (w : World) : (execOp (fe n l) o).run Tryz.prog w = .ok (.value (.bool true)) w := by
  obtain ⟨rfl, rfl, rfl⟩ := h
  simp [execOp, ho, hx, hy, go_sem]
theorem q14e32_neq_t {n : Nat} {l : Fr} {o : Oper} {x y : Operand} (a0 : Int) (a1 : Int) (a2 : Int) (c0 : Int) (c1 : Int) (c2 : Int) (ho : o.op = .binOp .neq 32 x y 32) (hx : fe n l x = .agg #[.int .i64 a0, .int .i64 a1, .int .u32 a2]) (hy : fe n l y = .agg #[.int .i64 c0, .int .i64 c1, .int .u32 c2]) (h : a0 = c0 ∧ a1 = c1 ∧ a2 = c2) (w : World) : (execOp (fe n l) o).run Tryz.prog w = .ok (.value (.bool false)) w := by
  obtain ⟨rfl, rfl, rfl⟩ := h
  simp [execOp, ho, hx, hy, go_sem]
set_option maxHeartbeats 4000000 in
theorem lfile_ht (y z : Int) : HT Tryz.prog 47 [iV y, uV z] [] (fun v K => v = .agg #[iV 1, iV y, uV z] ∧ K = []) := by
 refine hiS Tryz.func47 Tryz.ntmps47 fun g w0 R h0 => go [] <| nP 32 [iV 0, iV 0, uV 0] h0 (fun _ _ h12 => ?_)
 refine go [] <| sP [(0, iV 1), (1, iV y), (2, uV z)] [iV 1, iV y, uV z] h12 fun _ h14 => go [] ?_
 exact en (.agg #[iV 1, iV y, uV z]) [rd 0 0 0 0 3 h14] ⟨_, _, rfl, ⟨rfl, rfl⟩, (tk1 (sf1 h14))⟩

set_option maxHeartbeats 4000000 in
theorem works_ht (wo : World) (hg : Lett wo) : HT Tryz.prog 12 [] [Old wo] (fun v K => v = .bool true ∧ K = [Old wo]) := by
 refine hiS Tryz.func12 Tryz.ntmps12 fun g w0 R h0 => go [] <| cP Tryz.call13 (wnew_ht 1 (by omega)) h0 ?_
 rintro v K _ (⟨b10, rfl, rfl⟩) h12
 have h13 := ap1 h12
 refine go [] <| cl2 Tryz.call30 ((by have h_ := wansw_ht wo hg b10 (wnew 1) [108, 111, 111, 102, 111] (by decide); rw [show aswE (wnew 1) [108, 111, 111, 102, 111] = 0 from by kernel_rfl] at h_; exact h_)) h13 fun _ h15 => ?_
 refine go [] <| cl1 Tryz.call28 ((by have h_ := wacq_ht b10 (aswS (wnew 1) [108, 111, 111, 102, 111]) 1 5; rw [show acqO (aswS (wnew 1) [108, 111, 111, 102, 111]) 1 5 = ((0, 0, 0) : Ky) from by kernel_rfl, show acqE (aswS (wnew 1) [108, 111, 111, 102, 111]) 1 5 = 15 from by kernel_rfl] at h_; exact h_)) h15 fun _ h17 => ?_
 refine go [] <| nP 32 [iV 0, iV 0, uV 0] h17 (fun _ _ h20 => ?_)
 refine sP [(0, iV 0), (1, iV 0), (2, uV 0)] [iV 0, iV 0, uV 0] h20 fun _ h22 => ?_
 have h23 := tk4 (sf3 (sf2 (sf3 (sf3 h22))))
 refine go [] <| cl1 Tryz.call28 ((by have h_ := wacq_ht b10 (acqS (aswS (wnew 1) [108, 111, 111, 102, 111]) 1 5) 1 5; rw [show acqO (acqS (aswS (wnew 1) [108, 111, 111, 102, 111]) 1 5) 1 5 = ((1, 0, 1) : Ky) from by kernel_rfl, show acqE (acqS (aswS (wnew 1) [108, 111, 111, 102, 111]) 1 5) 1 5 = 0 from by kernel_rfl] at h_; exact h_)) h23 fun _ h25 => ?_
 refine go [] <| nP 32 [iV 0, iV 0, uV 0] h25 (fun _ _ h28 => ?_)
 refine sP [(0, iV 1), (1, iV 0), (2, uV 1)] [iV 1, iV 0, uV 1] h28 fun _ h30 => ?_
 have h31 := tk5 (sf4 (sf3 (sf4 (sf4 (sf4 h30)))))
 refine go [] <| cl1 Tryz.call28 ((by have h_ := wacq_ht b10 (acqS (acqS (aswS (wnew 1) [108, 111, 111, 102, 111]) 1 5) 1 5) 2 100; rw [show acqO (acqS (acqS (aswS (wnew 1) [108, 111, 111, 102, 111]) 1 5) 1 5) 2 100 = ((2, 0, 1) : Ky) from by kernel_rfl, show acqE (acqS (acqS (aswS (wnew 1) [108, 111, 111, 102, 111]) 1 5) 1 5) 2 100 = 0 from by kernel_rfl] at h_; exact h_)) h31 fun _ h33 => ?_
 refine go [] <| nP 32 [iV 0, iV 0, uV 0] h33 (fun _ _ h36 => ?_)
 refine sP [(0, iV 2), (1, iV 0), (2, uV 1)] [iV 2, iV 0, uV 1] h36 fun _ h38 => go [] <| dw (fls [0, 1, 2, 3, 4, 5, 6, 7] (Tr.an 8 (fls [9, 10, 11, 12, 13, 14, 15, 16, 17, 18, 19, 20, 21] (Tr.an 22 (fls [23, 24] Tr.nil))))) h38 fun _ h40 => go [rd 7 7 2 0 3 h40] <| cw0 Tryz.call47 (lfile_ht 0 1) h40 fun _ h42 => ⟨kd [rd 0 7 2 0 3 h42], ?_⟩
 refine lw (.bool false) (fun _ => q14e32_neq_t (x := (Operand.tmp 54)) (y := (Operand.tmp 55)) 1 0 1 1 0 1 (by kernel_rfl) (by kernel_rfl) (by kernel_rfl) ⟨rfl, rfl, rfl⟩ _) ?_
 have h43 := tk6 (sf5 (sf4 (sf5 (sf5 (sf5 (sf5 h42))))))
 refine go [rd 7 17 0 0 1 h42] <| cw1 Tryz.call29 ((by have h_ := wtick_ht b10 (acqS (acqS (acqS (aswS (wnew 1) [108, 111, 111, 102, 111]) 1 5) 1 5) 2 100) 7; rw [show tckE (acqS (acqS (acqS (aswS (wnew 1) [108, 111, 111, 102, 111]) 1 5) 1 5) 2 100) 7 = 0 from by kernel_rfl] at h_; exact h_)) h43 fun _ h45 => ⟨kd [], ?_⟩
 refine go [rd 9 1 2 0 3 h45] <| cl1 Tryz.call27 ((by have h_ := wrel_ht b10 (tckS (acqS (acqS (acqS (aswS (wnew 1) [108, 111, 111, 102, 111]) 1 5) 1 5) 2 100) 7) 1 0 1 1 (by omega) (by omega); rw [show relA (tckS (acqS (acqS (acqS (aswS (wnew 1) [108, 111, 111, 102, 111]) 1 5) 1 5) 2 100) 7) ((1, 0, 1) : Ky) 1 = 3 from by kernel_rfl, show relE (tckS (acqS (acqS (acqS (aswS (wnew 1) [108, 111, 111, 102, 111]) 1 5) 1 5) 2 100) 7) ((1, 0, 1) : Ky) 1 = 0 from by kernel_rfl] at h_; exact h_)) h45 fun _ h47 => ?_
 refine go [rd 10 1 2 0 3 h47] <| cl1 Tryz.call27 ((by have h_ := wrel_ht b10 (relS (tckS (acqS (acqS (acqS (aswS (wnew 1) [108, 111, 111, 102, 111]) 1 5) 1 5) 2 100) 7) ((1, 0, 1) : Ky) 1) 1 0 1 1 (by omega) (by omega); rw [show relA (relS (tckS (acqS (acqS (acqS (aswS (wnew 1) [108, 111, 111, 102, 111]) 1 5) 1 5) 2 100) 7) ((1, 0, 1) : Ky) 1) ((1, 0, 1) : Ky) 1 = 1 from by kernel_rfl, show relE (relS (tckS (acqS (acqS (acqS (aswS (wnew 1) [108, 111, 111, 102, 111]) 1 5) 1 5) 2 100) 7) ((1, 0, 1) : Ky) 1) ((1, 0, 1) : Ky) 1 = 0 from by kernel_rfl] at h_; exact h_)) h47 fun _ h49 => ?_
 refine go [rd 11 1 2 0 3 h49] <| cl1 Tryz.call27 ((by have h_ := wrel_ht b10 (relS (relS (tckS (acqS (acqS (acqS (aswS (wnew 1) [108, 111, 111, 102, 111]) 1 5) 1 5) 2 100) 7) ((1, 0, 1) : Ky) 1) ((1, 0, 1) : Ky) 1) 1 0 1 1 (by omega) (by omega); rw [show relA (relS (relS (tckS (acqS (acqS (acqS (aswS (wnew 1) [108, 111, 111, 102, 111]) 1 5) 1 5) 2 100) 7) ((1, 0, 1) : Ky) 1) ((1, 0, 1) : Ky) 1) ((1, 0, 1) : Ky) 1 = 0 from by kernel_rfl, show relE (relS (relS (tckS (acqS (acqS (acqS (aswS (wnew 1) [108, 111, 111, 102, 111]) 1 5) 1 5) 2 100) 7) ((1, 0, 1) : Ky) 1) ((1, 0, 1) : Ky) 1) ((1, 0, 1) : Ky) 1 = 5 from by kernel_rfl] at h_; exact h_)) h49 fun _ h51 => ?_
 refine go [] <| cl1 Tryz.call28 ((by have h_ := wacq_ht b10 (relS (relS (relS (tckS (acqS (acqS (acqS (aswS (wnew 1) [108, 111, 111, 102, 111]) 1 5) 1 5) 2 100) 7) ((1, 0, 1) : Ky) 1) ((1, 0, 1) : Ky) 1) ((1, 0, 1) : Ky) 1) 1 5; rw [show acqO (relS (relS (relS (tckS (acqS (acqS (acqS (aswS (wnew 1) [108, 111, 111, 102, 111]) 1 5) 1 5) 2 100) 7) ((1, 0, 1) : Ky) 1) ((1, 0, 1) : Ky) 1) ((1, 0, 1) : Ky) 1) 1 5 = ((1, 0, 2) : Ky) from by kernel_rfl, show acqE (relS (relS (relS (tckS (acqS (acqS (acqS (aswS (wnew 1) [108, 111, 111, 102, 111]) 1 5) 1 5) 2 100) 7) ((1, 0, 1) : Ky) 1) ((1, 0, 1) : Ky) 1) ((1, 0, 1) : Ky) 1) 1 5 = 0 from by kernel_rfl] at h_; exact h_)) h51 fun _ h53 => ?_
 refine go [] <| nP 32 [iV 0, iV 0, uV 0] h53 (fun _ _ h56 => ?_)
 refine sP [(0, iV 1), (1, iV 0), (2, uV 2)] [iV 1, iV 0, uV 2] h56 fun _ h58 => go [] <| dw (fls [0, 1, 2, 3, 4, 5, 6, 7, 8, 9, 10, 11, 12, 13, 14, 15, 16, 17, 18, 19, 20, 21, 22, 23] (Tr.an 24 (fls [25, 26, 27, 28] (Tr.an 29 (Tr.an 30 (fls [31, 32, 33, 34] (Tr.an 35 (fls [36, 37, 38] Tr.nil)))))))) h58 fun _ h60 => go [rd 13 23 0 0 3 h60] <| cw0 Tryz.call47 (lfile_ht 0 2) h60 fun _ h62 => ⟨kd [rd 0 23 0 0 3 h62], ?_⟩
 refine lw (.bool true) (fun _ => q14e32_eql_t (x := (Operand.tmp 118)) (y := (Operand.tmp 119)) 1 0 2 1 0 2 (by kernel_rfl) (by kernel_rfl) (by kernel_rfl) ⟨rfl, rfl, rfl⟩ _) ?_
 have h64 := tk7 (sf6 (sf5 (sf6 (sf6 (sf6 (sf6 (sf6 h62)))))))
 refine go [] <| cG Tryz.call17 (wledg_ht b10 (acqS (relS (relS (relS (tckS (acqS (acqS (acqS (aswS (wnew 1) [108, 111, 111, 102, 111]) 1 5) 1 5) 2 100) 7) ((1, 0, 1) : Ky) 1) ((1, 0, 1) : Ky) 1) ((1, 0, 1) : Ky) 1) 1 5)) h64 ?_
 rintro v K _ (⟨b63, rfl, rfl⟩) h66
 have h67 := ap2 h66
 refine ⟨kd [], ?_⟩
 refine cw1 Tryz.call23 ((by have h_ := lglen_ht b63 ((acqS (relS (relS (relS (tckS (acqS (acqS (acqS (aswS (wnew 1) [108, 111, 111, 102, 111]) 1 5) 1 5) 2 100) 7) ((1, 0, 1) : Ky) 1) ((1, 0, 1) : Ky) 1) ((1, 0, 1) : Ky) 1) 1 5).T); rw [show List.length ((acqS (relS (relS (relS (tckS (acqS (acqS (acqS (aswS (wnew 1) [108, 111, 111, 102, 111]) 1 5) 1 5) 2 100) 7) ((1, 0, 1) : Ky) 1) ((1, 0, 1) : Ky) 1) ((1, 0, 1) : Ky) 1) 1 5).T) = 2 from by kernel_rfl] at h_; exact h_)) (tk8 (sf7 (sf6 (sf7 (sf7 (sf7 (sf7 (sf7 (sf7 h67))))))))) fun _ h70 => ⟨kd [], ?_⟩
 have h71 := tk8 (sf7 (sf6 (sf7 (sf7 (sf7 (sf7 (sf7 (sf7 h70))))))))
 refine go [] <| cw1 Tryz.call20 ((by have h_ := wnow_ht b10 (acqS (relS (relS (relS (tckS (acqS (acqS (acqS (aswS (wnew 1) [108, 111, 111, 102, 111]) 1 5) 1 5) 2 100) 7) ((1, 0, 1) : Ky) 1) ((1, 0, 1) : Ky) 1) ((1, 0, 1) : Ky) 1) 1 5); rw [show Wst.now (acqS (relS (relS (relS (tckS (acqS (acqS (acqS (aswS (wnew 1) [108, 111, 111, 102, 111]) 1 5) 1 5) 2 100) 7) ((1, 0, 1) : Ky) 1) ((1, 0, 1) : Ky) 1) ((1, 0, 1) : Ky) 1) 1 5) = 7 from by kernel_rfl] at h_; exact h_)) h71 fun _ h73 => ⟨kd [], ?_⟩
 refine go [] ?_
 exact en (.bool true) [] ⟨_, _, rfl, ⟨rfl, rfl⟩, (tk2 (sf1 (sf7 (tk8 (sf7 (sf6 (sf6 (sf6 (sf6 (sf6 (sf6 (sf7 h73))))))))))))⟩

end Go.Proofs.YtggfnbpohmhphaaGreatDoor

/- Walks, printed by my generator o15.py. -/
namespace Go.Proofs.YtggfnbpohmhphaaGreatDoor
set_option maxHeartbeats 4000000 in
theorem short_ht (p : Option Addr) (n c : Nat) (L : List Sq) (X : Assn) (hX : Gv X p n (fl eSq L)) (hL : L.length = n) (hn : n ≤ 1099511627776) (m : Int) : HT Tryz.prog 11 [.slice p n c, iV m] [X] (fun v K => v = .bool (decide (Sho L m)) ∧ K = [X]) := by
 refine hiS Tryz.func11 Tryz.ntmps11 fun g w0 R h0 => go [.s 1 3] ?_
 by_cases c10 : (n : Int) > m
 ·
  refine go [.v 1 3 (oT ((n : Int) > m))] ?_
  exact en (.bool false) [] ⟨_, _, rfl, ⟨by rw [sho_no (by omega)], rfl⟩, h0⟩
 refine go [.v 1 3 (oF ((n : Int) > m))] ?_
 refine lpS (fun mz_ a w => ∃ i : Nat, ∃ lr : Fr, mz_ = n - i ∧ (i ≤ n) ∧ (∀ s ∈ L.take i, s.tx.length ≤ 40) ∧ a = mk 23 (([(0, .slice p n c), (5, iV (i : Int))] : Fr) ++ lr) ∧ sat g w [X, R]) (n - 0) ⟨0, _, rfl, (Nat.zero_le _), (fun _ hb_ => nomatch hb_), (lvF [.k 0 (.slice p n c), .o 5 (oJ .i64 0 (0 : Int))]), h0⟩ ?_
 rintro m12 a13 w14 ⟨i, lr11, rfl, hi, hs_, rfl, h15⟩
 refine ga <| go [.s 4 3] ?_
 by_cases c16 : (i : Int) < (n : Int)
 ·
  obtain ⟨b17, off19, hp18⟩ := gv_ptr (j := 0) h15 rfl hX (by omega)
  refine go [.v 4 3 (oT ((i : Int) < (n : Int))), .s 6 2] <| lwP (.pointer (some ⟨b17, off19 + i * 9, none⟩)) (law_indexSlP (x := (Operand.tmp 16)) (i := (Operand.tmp 17)) (p := p) (b := b17) (off := off19) (z := (i : Int)) (len := n) (cap := c) (by kernel_rfl) Tryz.underlying22 9 (by kernel_rfl) i (by kernel_rfl) hp18 (by kernel_rfl) (by omega) (by omega) (off19 + i * 9) (by omega) _) ?_
  obtain ⟨x20, hx21⟩ : ∃ x, L[i]? = some x := ⟨_, List.getElem?_eq_getElem (by rw [hL]; omega)⟩
  refine go [.r 6 4 b17 (off19 + i * 9 + 8) [.string (St x20.tx)] ⟨gv_cell (j := 0) h15 rfl hX hp18 (fl_get eSq_ok (j := 8) (v := .string (St x20.tx)) hx21 rfl) (off19 + i * 9 + 8) (by omega), trivial⟩, .v 6 5 (⟨iV ((St x20.tx).size : Int), iV (((x20.tx.length : Nat) : Int)), (ov_int (st_len _))⟩), .s 6 6] ?_
  by_cases c22 : ((x20.tx.length : Nat) : Int) > 40
  ·
   refine go [.v 6 6 (oT (((x20.tx.length : Nat) : Int) > 40))] <| up <| go [] ?_
   exact en (.bool false) [] ⟨_, _, rfl, ⟨by rw [sho_long hx21 (by omega)], rfl⟩, h15⟩
  refine go [.v 6 6 (oF (((x20.tx.length : Nat) : Int) > 40)), .v 5 1 (oIr ((i : Int) + 1))] ?_
  refine enL ?_
  change ∃ n', n' < _ ∧ _
  refine ⟨(n - (i + 1)), by omega, (i + 1), _, rfl, (by omega), (tk_all2 hs_ hx21 (by omega)), (lvF [.k 0 (.slice p n c), .o 5 (oJ .i64 ((i : Int) + 1) ((((i + 1) : Nat) : Int)))]), h15⟩
 refine go [.v 4 3 (oF ((i : Int) < (n : Int)))] <| up <| go [] ?_
 exact en (.bool true) [] ⟨_, _, rfl, ⟨by rw [sho_yes (by omega) hs_ (by omega)], rfl⟩, h15⟩

end Go.Proofs.YtggfnbpohmhphaaGreatDoor

/- Walks, printed by my generator o16.py. -/
namespace Go.Proofs.YtggfnbpohmhphaaGreatDoor
end Go.Proofs.YtggfnbpohmhphaaGreatDoor

/-
  What steps do to what is there, to the attempts and to the time. No program in sight.
-/
namespace Go.Proofs.YtggfnbpohmhphaaGreatDoor
section
variable {X : Xs} {S : Wst} {s : Sq} {o o' : Ky} {k a y t : Int}
end
end Go.Proofs.YtggfnbpohmhphaaGreatDoor

/-
  Answers that are added, acquisitions with them, and a release. No program in sight.
-/
namespace Go.Proofs.YtggfnbpohmhphaaGreatDoor
section
variable {S : Wst} {o : Ky} {k a y : Int} {q : List Int}
end
end Go.Proofs.YtggfnbpohmhphaaGreatDoor

/- Walks, printed by my generator o21.py. -/
namespace Go.Proofs.YtggfnbpohmhphaaGreatDoor
theorem q21e32_neq_t {n : Nat} {l : Fr} {o : Oper} {x y : Operand} (a0 : Int) (a1 : Int) (a2 : Int) (c0 : Int) (c1 : Int) (c2 : Int) (ho : o.op = .binOp .neq 32 x y 32) (hx : fe n l x = .agg #[.int .i64 a0, .int .i64 a1, .int .u32 a2]) (hy : fe n l y = .agg #[.int .i64 c0, .int .i64 c1, .int .u32 c2]) (h : a0 = c0 ∧ a1 = c1 ∧ a2 = c2) (w : World) : (execOp (fe n l) o).run Tryz.prog w = .ok (.value (.bool false)) w := by
  obtain ⟨rfl, rfl, rfl⟩ := h
  simp [execOp, ho, hx, hy, go_sem]
set_option maxHeartbeats 4000000 in
theorem wz_Acquire_n (kz az : Int) : HT Tryz.prog 28 [.pointer none, iV kz, iV az] [] (fun v K => v = .tuple #[.agg #[iV 0, iV 0, uV 0], iV 1] ∧ K = []) := by
 refine hiS Tryz.func28 Tryz.ntmps28 fun g w0 R h0 => go [] <| nP 32 [iV 0, iV 0, uV 0] h0 (fun _ _ h12 => ?_)
 refine go [] <| cl0 Tryz.call56 (wvalid_n) h12 fun _ h14 => go [] <| sP [(0, iV 0), (1, iV 0), (2, uV 0)] [iV 0, iV 0, uV 0] h14 fun _ h16 => go [] ?_
 exact en (.tuple #[.agg #[iV 0, iV 0, uV 0], iV 1]) [rd 0 0 0 0 3 h16] ⟨_, _, rfl, ⟨rfl, rfl⟩, (tk1 (sf1 h16))⟩

set_option maxHeartbeats 4000000 in
theorem wz_Acquire_z (b : Nat) (kz az : Int) : HT Tryz.prog 28 [pV b, iV kz, iV az] [Cl b [Value.nilIface, Value.nilIface, Value.nilIface, Value.nilIface, .pointer none, .pointer none, iV 0] 79] (fun v K => v = .tuple #[.agg #[iV 0, iV 0, uV 0], iV 1] ∧ K = [Cl b [Value.nilIface, Value.nilIface, Value.nilIface, Value.nilIface, .pointer none, .pointer none, iV 0] 79]) := by
 refine hiS Tryz.func28 Tryz.ntmps28 fun g w0 R h0 => go [] <| nP 32 [iV 0, iV 0, uV 0] h0 (fun _ _ h12 => ?_)
 have h13 := tk3 (sf2 (sf1 (sf2 h12)))
 refine go [] <| cl1 Tryz.call56 (wvalid_z b) h13 fun _ h15 => ?_
 have h16 := tk3 (sf2 (sf1 (sf2 h15)))
 refine go [] <| sP [(0, iV 0), (1, iV 0), (2, uV 0)] [iV 0, iV 0, uV 0] h16 fun _ h18 => go [] ?_
 exact en (.tuple #[.agg #[iV 0, iV 0, uV 0], iV 1]) [rd 0 0 0 0 3 h18] ⟨_, _, rfl, ⟨rfl, rfl⟩, (tk2 (sf1 (sf2 (tk3 (sf2 (sf1 (sf2 h18)))))))⟩

set_option maxHeartbeats 4000000 in
theorem wz_Release_n (x y z : Int) (hz0 : 0 ≤ z) (hz1 : z ≤ 4294967295) (wy : Int) : HT Tryz.prog 27 [.pointer none, .agg #[iV x, iV y, uV z], iV wy] [] (fun v K => v = .tuple #[iV 0, iV 1] ∧ K = []) := by
 refine hiS Tryz.func27 Tryz.ntmps27 fun g w0 R h0 => go [] <| nP 32 [iV x, iV y, uV z] h0 (fun _ _ h12 => ?_)
 refine go [] <| cl0 Tryz.call56 (wvalid_n) h12 fun _ h14 => go [] ?_
 exact en (.tuple #[iV 0, iV 1]) [] ⟨_, _, rfl, ⟨rfl, rfl⟩, (tk1 (sf1 h14))⟩

set_option maxHeartbeats 4000000 in
theorem wz_Release_z (b : Nat) (x y z : Int) (hz0 : 0 ≤ z) (hz1 : z ≤ 4294967295) (wy : Int) : HT Tryz.prog 27 [pV b, .agg #[iV x, iV y, uV z], iV wy] [Cl b [Value.nilIface, Value.nilIface, Value.nilIface, Value.nilIface, .pointer none, .pointer none, iV 0] 79] (fun v K => v = .tuple #[iV 0, iV 1] ∧ K = [Cl b [Value.nilIface, Value.nilIface, Value.nilIface, Value.nilIface, .pointer none, .pointer none, iV 0] 79]) := by
 refine hiS Tryz.func27 Tryz.ntmps27 fun g w0 R h0 => go [] <| nP 32 [iV x, iV y, uV z] h0 (fun _ _ h12 => ?_)
 have h13 := tk3 (sf2 (sf1 (sf2 h12)))
 refine go [] <| cl1 Tryz.call56 (wvalid_z b) h13 fun _ h15 => go [] ?_
 exact en (.tuple #[iV 0, iV 1]) [] ⟨_, _, rfl, ⟨rfl, rfl⟩, (tk2 (sf1 (sf2 h15)))⟩

set_option maxHeartbeats 4000000 in
theorem wz_Until_n (x y z : Int) (hz0 : 0 ≤ z) (hz1 : z ≤ 4294967295) : HT Tryz.prog 24 [.pointer none, .agg #[iV x, iV y, uV z]] [] (fun v K => v = .tuple #[iV 0, iV 1] ∧ K = []) := by
 refine hiS Tryz.func24 Tryz.ntmps24 fun g w0 R h0 => go [] <| nP 32 [iV x, iV y, uV z] h0 (fun _ _ h12 => ?_)
 refine go [] <| cl0 Tryz.call56 (wvalid_n) h12 fun _ h14 => go [] ?_
 exact en (.tuple #[iV 0, iV 1]) [] ⟨_, _, rfl, ⟨rfl, rfl⟩, (tk1 (sf1 h14))⟩

set_option maxHeartbeats 4000000 in
theorem wz_Until_z (b : Nat) (x y z : Int) (hz0 : 0 ≤ z) (hz1 : z ≤ 4294967295) : HT Tryz.prog 24 [pV b, .agg #[iV x, iV y, uV z]] [Cl b [Value.nilIface, Value.nilIface, Value.nilIface, Value.nilIface, .pointer none, .pointer none, iV 0] 79] (fun v K => v = .tuple #[iV 0, iV 1] ∧ K = [Cl b [Value.nilIface, Value.nilIface, Value.nilIface, Value.nilIface, .pointer none, .pointer none, iV 0] 79]) := by
 refine hiS Tryz.func24 Tryz.ntmps24 fun g w0 R h0 => go [] <| nP 32 [iV x, iV y, uV z] h0 (fun _ _ h12 => ?_)
 have h13 := tk3 (sf2 (sf1 (sf2 h12)))
 refine go [] <| cl1 Tryz.call56 (wvalid_z b) h13 fun _ h15 => go [] ?_
 exact en (.tuple #[iV 0, iV 1]) [] ⟨_, _, rfl, ⟨rfl, rfl⟩, (tk2 (sf1 (sf2 h15)))⟩

set_option maxHeartbeats 4000000 in
theorem wz_Renew_n (x y z : Int) (hz0 : 0 ≤ z) (hz1 : z ≤ 4294967295) (tk : Int) : HT Tryz.prog 25 [.pointer none, .agg #[iV x, iV y, uV z], iV tk] [] (fun v K => v = iV 1 ∧ K = []) := by
 refine hiS Tryz.func25 Tryz.ntmps25 fun g w0 R h0 => go [] <| nP 32 [iV x, iV y, uV z] h0 (fun _ _ h12 => ?_)
 refine go [] <| cl0 Tryz.call56 (wvalid_n) h12 fun _ h14 => go [] ?_
 exact en (iV 1) [] ⟨_, _, rfl, ⟨rfl, rfl⟩, (tk1 (sf1 h14))⟩

set_option maxHeartbeats 4000000 in
theorem wz_Renew_z (b : Nat) (x y z : Int) (hz0 : 0 ≤ z) (hz1 : z ≤ 4294967295) (tk : Int) : HT Tryz.prog 25 [pV b, .agg #[iV x, iV y, uV z], iV tk] [Cl b [Value.nilIface, Value.nilIface, Value.nilIface, Value.nilIface, .pointer none, .pointer none, iV 0] 79] (fun v K => v = iV 1 ∧ K = [Cl b [Value.nilIface, Value.nilIface, Value.nilIface, Value.nilIface, .pointer none, .pointer none, iV 0] 79]) := by
 refine hiS Tryz.func25 Tryz.ntmps25 fun g w0 R h0 => go [] <| nP 32 [iV x, iV y, uV z] h0 (fun _ _ h12 => ?_)
 have h13 := tk3 (sf2 (sf1 (sf2 h12)))
 refine go [] <| cl1 Tryz.call56 (wvalid_z b) h13 fun _ h15 => go [] ?_
 exact en (iV 1) [] ⟨_, _, rfl, ⟨rfl, rfl⟩, (tk2 (sf1 (sf2 h15)))⟩

set_option maxHeartbeats 4000000 in
theorem wz_Tick_n (tk : Int) : HT Tryz.prog 29 [.pointer none, iV tk] [] (fun v K => v = iV 1 ∧ K = []) := by
 refine hiS Tryz.func29 Tryz.ntmps29 fun g w0 R h0 => go [] <| cl0 Tryz.call56 (wvalid_n) h0 fun _ h11 => go [] ?_
 exact en (iV 1) [] ⟨_, _, rfl, ⟨rfl, rfl⟩, h11⟩

set_option maxHeartbeats 4000000 in
theorem wz_Tick_z (b : Nat) (tk : Int) : HT Tryz.prog 29 [pV b, iV tk] [Cl b [Value.nilIface, Value.nilIface, Value.nilIface, Value.nilIface, .pointer none, .pointer none, iV 0] 79] (fun v K => v = iV 1 ∧ K = [Cl b [Value.nilIface, Value.nilIface, Value.nilIface, Value.nilIface, .pointer none, .pointer none, iV 0] 79]) := by
 refine hiS Tryz.func29 Tryz.ntmps29 fun g w0 R h0 => go [] <| cl1 Tryz.call56 (wvalid_z b) h0 fun _ h11 => go [] ?_
 exact en (iV 1) [] ⟨_, _, rfl, ⟨rfl, rfl⟩, h11⟩

set_option maxHeartbeats 4000000 in
theorem wz_Answer_n (l : List UInt8) : HT Tryz.prog 30 [.pointer none, .string (St l)] [] (fun v K => v = iV 1 ∧ K = []) := by
 refine hiS Tryz.func30 Tryz.ntmps30 fun g w0 R h0 => go [] <| cl0 Tryz.call56 (wvalid_n) h0 fun _ h11 => go [] ?_
 exact en (iV 1) [] ⟨_, _, rfl, ⟨rfl, rfl⟩, h11⟩

set_option maxHeartbeats 4000000 in
theorem wz_Answer_z (b : Nat) (l : List UInt8) : HT Tryz.prog 30 [pV b, .string (St l)] [Cl b [Value.nilIface, Value.nilIface, Value.nilIface, Value.nilIface, .pointer none, .pointer none, iV 0] 79] (fun v K => v = iV 1 ∧ K = [Cl b [Value.nilIface, Value.nilIface, Value.nilIface, Value.nilIface, .pointer none, .pointer none, iV 0] 79]) := by
 refine hiS Tryz.func30 Tryz.ntmps30 fun g w0 R h0 => go [] <| cl1 Tryz.call56 (wvalid_z b) h0 fun _ h11 => go [] ?_
 exact en (iV 1) [] ⟨_, _, rfl, ⟨rfl, rfl⟩, h11⟩

set_option maxHeartbeats 4000000 in
theorem wz_Now_n  : HT Tryz.prog 20 [.pointer none] [] (fun v K => v = iV 0 ∧ K = []) := by
 refine hiS Tryz.func20 Tryz.ntmps20 fun g w0 R h0 => go [] <| cl0 Tryz.call56 (wvalid_n) h0 fun _ h11 => go [] ?_
 exact en (iV 0) [] ⟨_, _, rfl, ⟨rfl, rfl⟩, h11⟩

set_option maxHeartbeats 4000000 in
theorem wz_Now_z (b : Nat)  : HT Tryz.prog 20 [pV b] [Cl b [Value.nilIface, Value.nilIface, Value.nilIface, Value.nilIface, .pointer none, .pointer none, iV 0] 79] (fun v K => v = iV 0 ∧ K = [Cl b [Value.nilIface, Value.nilIface, Value.nilIface, Value.nilIface, .pointer none, .pointer none, iV 0] 79]) := by
 refine hiS Tryz.func20 Tryz.ntmps20 fun g w0 R h0 => go [] <| cl1 Tryz.call56 (wvalid_z b) h0 fun _ h11 => go [] ?_
 exact en (iV 0) [] ⟨_, _, rfl, ⟨rfl, rfl⟩, h11⟩

set_option maxHeartbeats 4000000 in
theorem wz_Has_n (x y z : Int) (hz0 : 0 ≤ z) (hz1 : z ≤ 4294967295) : HT Tryz.prog 16 [.pointer none, .agg #[iV x, iV y, uV z]] [] (fun v K => v = .bool false ∧ K = []) := by
 refine hiS Tryz.func16 Tryz.ntmps16 fun g w0 R h0 => go [] <| nP 32 [iV x, iV y, uV z] h0 (fun _ _ h12 => ?_)
 refine go [] <| dw (Tr.fl 0 (Tr.an 1 (fls [2, 3] (Tr.an 4 (fls [5, 6, 7, 8, 9, 10, 11, 12, 13, 14, 16] (Tr.an 15 (Tr.an 17 (fls [18, 19] Tr.nil)))))))) h12 fun _ h14 => go [] <| cw0 Tryz.call56 (wvalid_n) h14 fun _ h16 => ⟨kd [], ?_⟩
 refine go [] <| dsk [] <| go [] <| dsk [] <| dsk [] <| go [] ?_
 exact en (.bool false) [] ⟨_, _, rfl, ⟨rfl, rfl⟩, (tk1 (sf1 h16))⟩

set_option maxHeartbeats 4000000 in
theorem wz_Has_z (b : Nat) (x y z : Int) (hz0 : 0 ≤ z) (hz1 : z ≤ 4294967295) : HT Tryz.prog 16 [pV b, .agg #[iV x, iV y, uV z]] [Cl b [Value.nilIface, Value.nilIface, Value.nilIface, Value.nilIface, .pointer none, .pointer none, iV 0] 79] (fun v K => v = .bool false ∧ K = [Cl b [Value.nilIface, Value.nilIface, Value.nilIface, Value.nilIface, .pointer none, .pointer none, iV 0] 79]) := by
 refine hiS Tryz.func16 Tryz.ntmps16 fun g w0 R h0 => go [] <| nP 32 [iV x, iV y, uV z] h0 (fun _ _ h12 => ?_)
 refine go [] <| dw (Tr.fl 0 (Tr.an 1 (fls [2, 3] (Tr.an 4 (fls [5, 6, 7, 8, 9, 10, 11, 12, 13, 14, 16] (Tr.an 15 (Tr.an 17 (fls [18, 19] Tr.nil)))))))) h12 fun _ h14 => ?_
 have h15 := tk3 (sf2 (sf1 (sf2 h14)))
 refine go [] <| cw1 Tryz.call56 (wvalid_z b) h15 fun _ h17 => ⟨kd [], ?_⟩
 refine go [] <| dsk [] <| go [] <| dsk [] <| dsk [] <| go [] ?_
 exact en (.bool false) [] ⟨_, _, rfl, ⟨rfl, rfl⟩, (tk2 (sf1 (sf2 h17)))⟩

set_option maxHeartbeats 4000000 in
theorem wz_Ledger_n  : HT Tryz.prog 17 [.pointer none] [] (fun v K => v = .pointer none ∧ K = []) := by
 refine hiS Tryz.func17 Tryz.ntmps17 fun g w0 R h0 => go [] <| cl0 Tryz.call56 (wvalid_n) h0 fun _ h11 => go [] ?_
 exact en (.pointer none) [] ⟨_, _, rfl, ⟨rfl, rfl⟩, h11⟩

set_option maxHeartbeats 4000000 in
theorem wz_Ledger_z (b : Nat)  : HT Tryz.prog 17 [pV b] [Cl b [Value.nilIface, Value.nilIface, Value.nilIface, Value.nilIface, .pointer none, .pointer none, iV 0] 79] (fun v K => v = .pointer none ∧ K = [Cl b [Value.nilIface, Value.nilIface, Value.nilIface, Value.nilIface, .pointer none, .pointer none, iV 0] 79]) := by
 refine hiS Tryz.func17 Tryz.ntmps17 fun g w0 R h0 => go [] <| cl1 Tryz.call56 (wvalid_z b) h0 fun _ h11 => go [] ?_
 exact en (.pointer none) [] ⟨_, _, rfl, ⟨rfl, rfl⟩, h11⟩

set_option maxHeartbeats 4000000 in
theorem wz_All_n  : HT Tryz.prog 19 [.pointer none] [] (fun v K => v = .slice none 0 0 ∧ K = []) := by
 refine hiS Tryz.func19 Tryz.ntmps19 fun g w0 R h0 => go [] <| cl0 Tryz.call56 (wvalid_n) h0 fun _ h11 => go [] ?_
 exact en (.slice none 0 0) [] ⟨_, _, rfl, ⟨rfl, rfl⟩, h11⟩

set_option maxHeartbeats 4000000 in
theorem wz_All_z (b : Nat)  : HT Tryz.prog 19 [pV b] [Cl b [Value.nilIface, Value.nilIface, Value.nilIface, Value.nilIface, .pointer none, .pointer none, iV 0] 79] (fun v K => v = .slice none 0 0 ∧ K = [Cl b [Value.nilIface, Value.nilIface, Value.nilIface, Value.nilIface, .pointer none, .pointer none, iV 0] 79]) := by
 refine hiS Tryz.func19 Tryz.ntmps19 fun g w0 R h0 => go [] <| cl1 Tryz.call56 (wvalid_z b) h0 fun _ h11 => go [] ?_
 exact en (.slice none 0 0) [] ⟨_, _, rfl, ⟨rfl, rfl⟩, h11⟩

set_option maxHeartbeats 4000000 in
theorem wz_Copy_n  : HT Tryz.prog 31 [.pointer none] [] (fun v K => v = .pointer none ∧ K = []) := by
 refine hiS Tryz.func31 Tryz.ntmps31 fun g w0 R h0 => go [] <| cl0 Tryz.call56 (wvalid_n) h0 fun _ h11 => go [] ?_
 exact en (.pointer none) [] ⟨_, _, rfl, ⟨rfl, rfl⟩, h11⟩

set_option maxHeartbeats 4000000 in
theorem wz_Copy_z (b : Nat)  : HT Tryz.prog 31 [pV b] [Cl b [Value.nilIface, Value.nilIface, Value.nilIface, Value.nilIface, .pointer none, .pointer none, iV 0] 79] (fun v K => v = .pointer none ∧ K = [Cl b [Value.nilIface, Value.nilIface, Value.nilIface, Value.nilIface, .pointer none, .pointer none, iV 0] 79]) := by
 refine hiS Tryz.func31 Tryz.ntmps31 fun g w0 R h0 => go [] <| cl1 Tryz.call56 (wvalid_z b) h0 fun _ h11 => go [] ?_
 exact en (.pointer none) [] ⟨_, _, rfl, ⟨rfl, rfl⟩, h11⟩

set_option maxHeartbeats 4000000 in
theorem nil_law (wo : World) (hg : Lett wo) (s : Sq) (hs0 : 0 ≤ s.o.2.2) (hs1 : s.o.2.2 ≤ 4294967295) : HT Tryz.prog 10 [.agg #[iV s.d, iV s.k, iV s.a, iV s.o.1, iV s.o.2.1, uV s.o.2.2, iV s.wy, iV s.tk, .string (St s.tx)]] [Old wo] (fun v K => v = .bool true ∧ K = [Old wo]) := by
 refine hiS Tryz.func10 Tryz.ntmps10 fun g w0 R h0 => go [] <| nP 36 [iV s.d, iV s.k, iV s.a, iV s.o.1, iV s.o.2.1, uV s.o.2.2, iV s.wy, iV s.tk, .string (St s.tx)] h0 (fun r10 _ h12 => ?_)
 refine go [rd 1 0 0 0 9 h12] <| nG (fun q_ => .slice (some ⟨q_, 0, none⟩) 1 1) 36 [iV s.d, iV s.k, iV s.a, iV s.o.1, iV s.o.2.1, uV s.o.2.2, iV s.wy, iV s.tk, .string (St s.tx)] h12 (fun r13 w14 h15 => ⟨kd [], ?_⟩)
 have h16 : sat g w14 [Sl 36 9 (some ⟨r13, 0, none⟩) 1 1 (fl eSq [(⟨s.d, s.k, s.a, (s.o.1, s.o.2.1, s.o.2.2), s.wy, s.tk, s.tx⟩ : Sq)]), Cl r10 [iV s.d, iV s.k, iV s.a, iV s.o.1, iV s.o.2.1, uV s.o.2.2, iV s.wy, iV s.tk, .string (St s.tx)] 36, Old wo, R] := sl_of_cl h15 rfl (by omega)
 rcases Bool.eq_false_or_eq_true (decide (Sho [(⟨s.d, s.k, s.a, (s.o.1, s.o.2.1, s.o.2.2), s.wy, s.tk, s.tx⟩ : Sq)] 1)) with cb17 | cb17
 ·
  refine cl1 Tryz.call11 ((by have h_ := short_ht (some ⟨r13, 0, none⟩) 1 1 [(⟨s.d, s.k, s.a, (s.o.1, s.o.2.1, s.o.2.2), s.wy, s.tk, s.tx⟩ : Sq)] (Sl 36 9 (some ⟨r13, 0, none⟩) 1 1 (fl eSq [(⟨s.d, s.k, s.a, (s.o.1, s.o.2.1, s.o.2.2), s.wy, s.tk, s.tx⟩ : Sq)])) (gv_sl _ _ _) rfl (by decide) 1; rw [cb17] at h_; exact h_)) h16 fun _ h19 => ?_
  refine go [] <| nP 79 [Value.nilIface, Value.nilIface, Value.nilIface, Value.nilIface, .pointer none, .pointer none, iV 0] h19 (fun r20 _ h22 => ?_)
  refine nG (fun q_ => .slice (some ⟨q_, 0, none⟩) 2 2) 25 [.pointer none, pV r20] h22 (fun r23 _ h25 => ⟨kd [], ?_⟩)
  refine go [] <| unS 2 <| go [.v 6 2 (oJ .i64 (2 : Int) 2), .s 8 2] <| lwP (pV r23) (law_indexSl (x := (Operand.tmp 28)) (i := (Operand.tmp 29)) (b := r23) (off := 0) (z := 0) (len := 2) (cap := 2) (by kernel_rfl) Tryz.underlying80 1 (by kernel_rfl) 0 (by kernel_rfl) (by kernel_rfl) (by omega) (by omega) 0 (by omega) _) <| go [rd 8 3 0 0 1 h25, rd 9 2 3 1 1 h25, rd 9 4 3 2 1 h25] <| cl0 Tryz.call28 (wz_Acquire_n s.k s.a) h25 fun _ h27 => go [] <| nP 32 [iV 0, iV 0, uV 0] h27 (fun _ _ h30 => ?_)
  refine sP [(0, iV 0), (1, iV 0), (2, uV 0)] [iV 0, iV 0, uV 0] h30 fun _ h32 => go [rd 10 2 4 3 3 h32, rd 10 4 4 6 1 h32] <| cl0 Tryz.call27 (wz_Release_n s.o.1 s.o.2.1 s.o.2.2 (by omega) (by omega) s.wy) h32 fun _ h34 => go [rd 11 2 4 3 3 h34] <| cl0 Tryz.call24 (wz_Until_n s.o.1 s.o.2.1 s.o.2.2 (by omega) (by omega)) h34 fun _ h36 => go [rd 12 0 0 0 3 h36, .s 12 2] <| lwP (.bool false) (q21e32_neq_t (x := (Operand.tmp 57)) (y := (Operand.tmp 58)) 0 0 0 0 0 0 (by kernel_rfl) (by kernel_rfl) (by kernel_rfl) ⟨rfl, rfl, rfl⟩ _) <| go [rd 12 26 4 3 3 h36, rd 12 28 4 7 1 h36] <| cl0 Tryz.call25 (wz_Renew_n s.o.1 s.o.2.1 s.o.2.2 (by omega) (by omega) s.tk) h36 fun _ h38 => go [rd 12 35 4 7 1 h38] <| cl0 Tryz.call29 (wz_Tick_n s.tk) h38 fun _ h40 => go [rd 12 42 4 8 1 h40] <| cl0 Tryz.call30 (wz_Answer_n s.tx) h40 fun _ h42 => ?_
  refine go [] <| cl0 Tryz.call20 (wz_Now_n ) h42 fun _ h44 => go [rd 12 54 4 3 3 h44] <| cl0 Tryz.call16 (wz_Has_n s.o.1 s.o.2.1 s.o.2.2 (by omega) (by omega)) h44 fun _ h46 => go [] <| cl0 Tryz.call17 (wz_Ledger_n ) h46 fun _ h48 => go [] <| cl0 Tryz.call19 (wz_All_n ) h48 fun _ h50 => go [] <| cl0 Tryz.call31 (wz_Copy_n ) h50 fun _ h52 => go [] <| unN <| go [.v 6 2 (oJ .i64 (2 : Int) 2), .s 8 2] ?_
  refine lwP (.pointer (some ⟨r23, 1, none⟩)) (law_indexSl (x := (Operand.tmp 28)) (i := (Operand.tmp 29)) (b := r23) (off := 0) (z := 1) (len := 2) (cap := 2) (by kernel_rfl) Tryz.underlying80 1 (by kernel_rfl) 1 (by kernel_rfl) (by kernel_rfl) (by omega) (by omega) 1 (by omega) _) ?_
  have h53 := tk7 (sf6 (sf5 (sf5 (sf6 (sf6 (sf6 (sf6 h52)))))))
  refine go [rd 8 3 1 1 1 h52, rd 9 2 4 1 1 h52, rd 9 4 4 2 1 h52] <| cl1 Tryz.call28 (wz_Acquire_z r20 s.k s.a) h53 fun _ h55 => go [] <| nP 32 [iV 0, iV 0, uV 0] h55 (fun _ _ h58 => ?_)
  refine sP [(0, iV 0), (1, iV 0), (2, uV 0)] [iV 0, iV 0, uV 0] h58 fun _ h60 => ?_
  have h61 := tk8 (sf7 (sf6 (sf7 (sf7 (sf7 (sf7 (sf7 (sf7 h60))))))))
  refine go [rd 10 2 5 3 3 h60, rd 10 4 5 6 1 h60] <| cl1 Tryz.call27 (wz_Release_z r20 s.o.1 s.o.2.1 s.o.2.2 (by omega) (by omega) s.wy) h61 fun _ h63 => go [rd 11 2 5 3 3 h63] <| cl1 Tryz.call24 (wz_Until_z r20 s.o.1 s.o.2.1 s.o.2.2 (by omega) (by omega)) h63 fun _ h65 => go [rd 12 0 1 0 3 h65, .s 12 2] <| lwP (.bool false) (q21e32_neq_t (x := (Operand.tmp 57)) (y := (Operand.tmp 58)) 0 0 0 0 0 0 (by kernel_rfl) (by kernel_rfl) (by kernel_rfl) ⟨rfl, rfl, rfl⟩ _) <| go [rd 12 26 5 3 3 h65, rd 12 28 5 7 1 h65] <| cl1 Tryz.call25 (wz_Renew_z r20 s.o.1 s.o.2.1 s.o.2.2 (by omega) (by omega) s.tk) h65 fun _ h67 => go [rd 12 35 5 7 1 h67] <| cl1 Tryz.call29 (wz_Tick_z r20 s.tk) h67 fun _ h69 => go [rd 12 42 5 8 1 h69] <| cl1 Tryz.call30 (wz_Answer_z r20 s.tx) h69 fun _ h71 => go [] ?_
  refine cl1 Tryz.call20 (wz_Now_z r20 ) h71 fun _ h73 => go [rd 12 54 5 3 3 h73] <| cl1 Tryz.call16 (wz_Has_z r20 s.o.1 s.o.2.1 s.o.2.2 (by omega) (by omega)) h73 fun _ h75 => go [] <| cl1 Tryz.call17 (wz_Ledger_z r20 ) h75 fun _ h77 => go [] <| cl1 Tryz.call19 (wz_All_z r20 ) h77 fun _ h79 => go [] <| cl1 Tryz.call31 (wz_Copy_z r20 ) h79 fun _ h81 => go [] <| unN <| go [.v 6 2 (oJ .i64 (2 : Int) 2)] <| up ?_
  have h82 := tk8 (sf7 (sf6 (sf6 (sf6 (sf6 (sf6 (sf6 (sf7 h81))))))))
  refine go [] <| cl1 Tryz.call12 (works_ht wo hg) h82 fun _ h84 => go [] ?_
  exact en (.bool true) [] ⟨_, _, rfl, ⟨rfl, rfl⟩, (tk2 (sf1 (sf7 h84)))⟩
 refine cl1 Tryz.call11 ((by have h_ := short_ht (some ⟨r13, 0, none⟩) 1 1 [(⟨s.d, s.k, s.a, (s.o.1, s.o.2.1, s.o.2.2), s.wy, s.tk, s.tx⟩ : Sq)] (Sl 36 9 (some ⟨r13, 0, none⟩) 1 1 (fl eSq [(⟨s.d, s.k, s.a, (s.o.1, s.o.2.1, s.o.2.2), s.wy, s.tk, s.tx⟩ : Sq)])) (gv_sl _ _ _) rfl (by decide) 1; rw [cb17] at h_; exact h_)) h16 fun _ h87 => ?_
 have h88 := tk4 (sf3 (sf2 (sf2 (sf3 h87))))
 refine go [] <| cl1 Tryz.call12 (works_ht wo hg) h88 fun _ h90 => go [] ?_
 exact en (.bool true) [] ⟨_, _, rfl, ⟨rfl, rfl⟩, (tk2 (sf1 (sf3 h90)))⟩

end Go.Proofs.YtggfnbpohmhphaaGreatDoor
