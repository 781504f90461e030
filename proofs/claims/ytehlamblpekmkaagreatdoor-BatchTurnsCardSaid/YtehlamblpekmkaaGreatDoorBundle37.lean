/- Walks, printed by my generator P:../out/o9.py. -/
import Derived.Test.YtehlamblpekmkaaGreatDoorBundle35
import Derived.Test.YtehlamblpekmkaaGreatDoorInv
namespace Go.Proofs.YtehlamblpekmkaaGreatDoor
set_option maxHeartbeats 4000000
abbrev wsix (b f p d s l : Nat) (S : Wst) : List Assn := [Cl b [Value.nilIface, Value.iface 177 (Value.pointer (some ⟨f, 0, none⟩)), Value.iface 180 (Value.pointer (some ⟨p, 0, none⟩)), Value.iface 183 (Value.pointer (some ⟨d, 0, none⟩)), Value.pointer (some ⟨s, 0, none⟩), Value.pointer (some ⟨l, 0, none⟩), Value.int IntKind.i64 S.now] 56, Fd f 64 S.F, Pl p S.B, Dk d S.D, Sr 239 s S.q, Lg l S.T]
theorem wvalid_cl (b l : Nat) (v0 v1 v2 v3 v4 v5 : Value) : HT Tryz.prog 57 [pV b] [Cl b [v0, v1, v2, v3, v4, pV l, v5] 56] (fun v K => v = .bool true ∧ K = [Cl b [v0, v1, v2, v3, v4, pV l, v5] 56]) := by
 refine hiS Tryz.func57 Tryz.ntmps57 fun g w0 R h0 => go [rd 1 6 0 5 1 h0] ?_
 exact en (.bool true) [] ⟨_, _, rfl, ⟨rfl, rfl⟩, h0⟩

theorem wnew_ht (gn : Int) (hgn : 1 ≤ gn ∧ gn ≤ 4294967295) : HT Tryz.prog 42 [uV gn] [] (fun v K => ∃ b : Nat, v = .tuple #[pV b, iV 0] ∧ K = [Wd b (wnew gn)]) := by
 refine hiS Tryz.func42 Tryz.ntmps42 fun g w0 R h0 => go [] <| cl0 Tryz.call97 (gcheck_ok gn (by omega) (by omega)) h0 fun _ h11 => go [] <| cP Tryz.call98 ((by have h_ := fnew_ok 64 gn (by decide) (by omega); exact h_)) h11 ?_
 rintro v K _ (⟨b12, rfl, rfl⟩) h14
 have h15 := ap1 h14
 refine go [] <| cP Tryz.call99 (pnew_ht gn (by omega)) h15 ?_
 rintro v K _ (⟨b16, rfl, rfl⟩) h18
 have h19 := ap1 h18
 refine go [] <| cP Tryz.call100 (lnew_ht gn (by omega)) h19 ?_
 rintro v K _ (⟨b20, rfl, rfl⟩) h22
 have h23 := ap1 h22
 refine go [] <| cP Tryz.call101 (new_ht) h23 ?_
 rintro v K _ (⟨b24, rfl, rfl⟩) h26
 refine cP Tryz.call102 (lgnew_ht) (ap1 h26) ?_
 rintro v K _ (⟨b28, rfl, rfl⟩) h30
 have h31 := ap1 h30
 refine go [] <| nP 56 [Value.nilIface, Value.nilIface, Value.nilIface, Value.nilIface, pV b24, pV b28, iV 0] h31 (fun r32 _ h34 => ?_)
 refine go [] <| dw (fls [0, 1, 2, 3, 4, 5, 6, 7, 8, 9, 10, 11, 13, 14, 17, 18] (Tr.an 12 (Tr.fl 15 (Tr.an 16 (Tr.fl 19 (Tr.an 20 Tr.nil)))))) h34 fun _ h36 => go [.s 13 4] <| lw (.iface 177 (pV b12)) (fun _ => law_mkIface (t := 177) (x := (Operand.tmp 43)) (by kernel_rfl) Tryz.underlying177 rfl (pV b12) (by kernel_rfl) _) <| go [.s 13 6] <| lw (.iface 180 (pV b16)) (fun _ => law_mkIface (t := 180) (x := (Operand.tmp 45)) (by kernel_rfl) Tryz.underlying180 rfl (pV b16) (by kernel_rfl) _) <| go [.s 13 8] <| lw (.iface 183 (pV b20)) (fun _ => law_mkIface (t := 183) (x := (Operand.tmp 47)) (by kernel_rfl) Tryz.underlying183 rfl (pV b20) (by kernel_rfl) _) <| go [.s 13 11] <| lw (.pointer (some ⟨r32, 1, none⟩)) (fun _ => law_indexArr (x := (Operand.tmp 50)) (i := (Operand.const (iV 1))) (b := r32) (off := 0) (z := 1) (by kernel_rfl) Tryz.underlying52 1 (by kernel_rfl) 1 (by kernel_rfl) (by kernel_rfl) (by omega) (by omega) 1 (by omega) _) <| go [] <| sG [(1, .iface 177 (pV b12))] [Value.nilIface, .iface 177 (pV b12), Value.nilIface, Value.nilIface, pV b24, pV b28, iV 0] h36 fun _ h38 => ⟨kd [], ?_⟩
 refine lw (.pointer (some ⟨r32, 2, none⟩)) (fun _ => law_indexArr (x := (Operand.tmp 53)) (i := (Operand.const (iV 2))) (b := r32) (off := 0) (z := 2) (by kernel_rfl) Tryz.underlying52 1 (by kernel_rfl) 2 (by kernel_rfl) (by kernel_rfl) (by omega) (by omega) 2 (by omega) _) <| sG [(2, .iface 180 (pV b16))] [Value.nilIface, .iface 177 (pV b12), .iface 180 (pV b16), Value.nilIface, pV b24, pV b28, iV 0] h38 fun _ h40 => ⟨kd [], ?_⟩
 refine lw (.pointer (some ⟨r32, 3, none⟩)) (fun _ => law_indexArr (x := (Operand.tmp 56)) (i := (Operand.const (iV 3))) (b := r32) (off := 0) (z := 3) (by kernel_rfl) Tryz.underlying52 1 (by kernel_rfl) 3 (by kernel_rfl) (by kernel_rfl) (by omega) (by omega) 3 (by omega) _) <| sG [(3, .iface 183 (pV b20))] [Value.nilIface, .iface 177 (pV b12), .iface 180 (pV b16), .iface 183 (pV b20), pV b24, pV b28, iV 0] h40 fun w41 h42 => ⟨kd [], ?_⟩
 refine go [] ?_
 have h44 : sat g w41 [Wd r32 (wnew gn), R] := wd_close (wok_new hgn) (tk7 (sf6 (sf6 (sf5 (sf4 (sf3 (sf2 (sf6 h42))))))))
 exact en (.tuple #[pV r32, iV 0]) [] ⟨_, _, rfl, ⟨r32, rfl, rfl⟩, h44⟩

theorem has_no (b f p d s l : Nat) (S : Wst) (hW : WOk S) (x y z : Int) (hz0 : 0 ≤ z) (hz1 : z ≤ 4294967295) (hg : ¬ (1 ≤ x ∧ x ≤ 3 ∧ 0 ≤ y ∧ y ≤ 63 ∧ 1 ≤ z)) : HT Tryz.prog 193 [pV b, .agg #[iV x, iV y, uV z]] [Cl b [Value.nilIface, .iface 177 (pV f), .iface 180 (pV p), .iface 183 (pV d), pV s, pV l, iV S.now] 56, Fd f 64 S.F, Pl p S.B, Dk d S.D, Sr 239 s S.q, Lg l S.T] (fun v K => v = .bool false ∧ K = [Cl b [Value.nilIface, .iface 177 (pV f), .iface 180 (pV p), .iface 183 (pV d), pV s, pV l, iV S.now] 56, Fd f 64 S.F, Pl p S.B, Dk d S.D, Sr 239 s S.q, Lg l S.T]) := by
 refine hiS Tryz.func193 Tryz.ntmps193 fun g w0 R h0 => go [] <| nP 72 [iV x, iV y, uV z] h0 (fun _ _ h12 => ?_)
 refine go [] <| dw (Tr.fl 0 (Tr.an 1 (fls [2, 3] (Tr.an 4 (fls [5, 6, 7, 8, 9, 10, 11, 12, 13, 14, 16] (Tr.an 15 (Tr.an 17 (fls [18, 19] Tr.nil)))))))) h12 fun _ h14 => ?_
 have h15 := tk8 (sf7 (sf6 (sf7 (sf7 (sf7 (sf7 (sf7 (sf7 h14))))))))
 refine go [] <| cw1 Tryz.call57 (wvalid_cl b l Value.nilIface (.iface 177 (pV f)) (.iface 180 (pV p)) (.iface 183 (pV d)) (pV s) (iV S.now)) h15 fun _ h17 => ⟨kd [], ?_⟩
 refine go [rd 1 3 1 0 3 h17] ?_
 by_cases c18 : 1 ≤ x
 ·
  by_cases c19 : x ≤ 3
  ·
   by_cases c20 : 0 ≤ y
   ·
    by_cases c21 : y ≤ 63
    ·
     refine cw0 Tryz.call192 (couter_no x y z (by omega) (by omega) (by omega)) h17 fun _ h23 => ⟨kd [], ?_⟩
     refine go [] <| dsk [] <| dsk [] <| go [] ?_
     exact en (.bool false) [] ⟨_, _, rfl, ⟨rfl, rfl⟩, (tk7 (sf6 (sf6 (sf6 (sf6 (sf6 (sf6 (sf7 (tk8 (sf7 (sf7 (sf7 (sf7 (sf7 (sf7 (sf2 (sf7 h23)))))))))))))))))⟩
    refine cw0 Tryz.call192 (couter_no x y z (by omega) (by omega) (by omega)) h17 fun _ h27 => ⟨kd [], ?_⟩
    refine go [] <| dsk [] <| dsk [] <| go [] ?_
    exact en (.bool false) [] ⟨_, _, rfl, ⟨rfl, rfl⟩, (tk7 (sf6 (sf6 (sf6 (sf6 (sf6 (sf6 (sf7 (tk8 (sf7 (sf7 (sf7 (sf7 (sf7 (sf7 (sf2 (sf7 h27)))))))))))))))))⟩
   refine cw0 Tryz.call192 (couter_no x y z (by omega) (by omega) (by omega)) h17 fun _ h31 => ⟨kd [], ?_⟩
   refine go [] <| dsk [] <| dsk [] <| go [] ?_
   exact en (.bool false) [] ⟨_, _, rfl, ⟨rfl, rfl⟩, (tk7 (sf6 (sf6 (sf6 (sf6 (sf6 (sf6 (sf7 (tk8 (sf7 (sf7 (sf7 (sf7 (sf7 (sf7 (sf2 (sf7 h31)))))))))))))))))⟩
  refine cw0 Tryz.call192 (couter_no x y z (by omega) (by omega) (by omega)) h17 fun _ h35 => ⟨kd [], ?_⟩
  refine go [] <| dsk [] <| dsk [] <| go [] ?_
  exact en (.bool false) [] ⟨_, _, rfl, ⟨rfl, rfl⟩, (tk7 (sf6 (sf6 (sf6 (sf6 (sf6 (sf6 (sf7 (tk8 (sf7 (sf7 (sf7 (sf7 (sf7 (sf7 (sf2 (sf7 h35)))))))))))))))))⟩
 refine cw0 Tryz.call192 (couter_no x y z (by omega) (by omega) (by omega)) h17 fun _ h39 => ⟨kd [], ?_⟩
 refine go [] <| dsk [] <| dsk [] <| go [] ?_
 exact en (.bool false) [] ⟨_, _, rfl, ⟨rfl, rfl⟩, (tk7 (sf6 (sf6 (sf6 (sf6 (sf6 (sf6 (sf7 (tk8 (sf7 (sf7 (sf7 (sf7 (sf7 (sf7 (sf2 (sf7 h39)))))))))))))))))⟩

theorem has_1 (b f p d s l : Nat) (S : Wst) (hW : WOk S) (y z : Int) (hz0 : 0 ≤ z) (hz1 : z ≤ 4294967295) (hg : KGood (1, y, z)) (hy0 : 0 ≤ y) (hy1 : y ≤ 63) (hz : 1 ≤ z) : HT Tryz.prog 193 [pV b, .agg #[iV 1, iV y, uV z]] [Cl b [Value.nilIface, .iface 177 (pV f), .iface 180 (pV p), .iface 183 (pV d), pV s, pV l, iV S.now] 56, Fd f 64 S.F, Pl p S.B, Dk d S.D, Sr 239 s S.q, Lg l S.T] (fun v K => v = .bool (decide (Thr S (1, y, z))) ∧ K = [Cl b [Value.nilIface, .iface 177 (pV f), .iface 180 (pV p), .iface 183 (pV d), pV s, pV l, iV S.now] 56, Fd f 64 S.F, Pl p S.B, Dk d S.D, Sr 239 s S.q, Lg l S.T]) := by
 refine hiS Tryz.func193 Tryz.ntmps193 fun g w0 R h0 => go [] <| nP 72 [iV 1, iV y, uV z] h0 (fun _ _ h12 => ?_)
 refine go [] <| dw (Tr.fl 0 (Tr.an 1 (fls [2, 3] (Tr.an 4 (fls [5, 6, 7, 8, 9, 10, 11, 12, 13, 14, 16] (Tr.an 15 (Tr.an 17 (fls [18, 19] Tr.nil)))))))) h12 fun _ h14 => ?_
 have h15 := tk8 (sf7 (sf6 (sf7 (sf7 (sf7 (sf7 (sf7 (sf7 h14))))))))
 refine go [] <| cw1 Tryz.call57 (wvalid_cl b l Value.nilIface (.iface 177 (pV f)) (.iface 180 (pV p)) (.iface 183 (pV d)) (pV s) (iV S.now)) h15 fun _ h17 => ⟨kd [], ?_⟩
 refine go [rd 1 3 1 0 3 h17] <| cw0 Tryz.call192 (couter_ok 1 y z (by omega) (by omega) (by omega)) h17 fun _ h19 => ⟨kd [], ?_⟩
 refine go [rd 1 10 1 0 1 h19, .s 1 13] <| lw (.pointer (some ⟨b, 1, none⟩)) (fun _ => law_indexArr (x := (Operand.tmp 17)) (i := (Operand.tmp 15)) (b := b) (off := 0) (z := 1) (by kernel_rfl) Tryz.underlying52 1 (by kernel_rfl) 1 (by kernel_rfl) (by kernel_rfl) (by omega) (by omega) 1 (by omega) _) ?_
 have h22 := tk8 (sf7 (sf6 (sf6 (sf7 (sf7 (sf7 (sf7 (sf7 h19))))))))
 refine go [rd 1 14 0 1 1 h19, rd 1 16 1 0 3 h19] ?_
 refine iG 177 (pV f) "All" [] 317 ((by have h_ := fall_ht f 64 S.F; exact h_)) h22 ?_
 rintro v K _ (⟨p20, c21, rfl, rfl⟩) h24
 have h25 := ap2 h24
 have hl26 : ((inS 1 (As S.F) 0).length) ≤ 64 := by have h_ := inS_len 1 (As S.F) 0; rw [as_len, hW.fl] at h_; exact h_
 refine ⟨kd [rd 0 16 3 0 3 h25], ?_⟩
 refine cw1 Tryz.call242 (oct_ht p20 (((inS 1 (As S.F) 0).length)) c21 (allK 1 S.F) (Sl 72 3 p20 (((inS 1 (As S.F) 0).length)) c21 (fl eO (allK 1 S.F))) (gv_sl _ _ _) (allK_len _ _) (by omega) 1 y z) (tk9 (sf8 (sf7 (sf8 (sf8 (sf8 (sf8 (sf8 (sf8 (sf8 h25)))))))))) fun _ h29 => ⟨kd [], ?_⟩
 refine go [] ?_
 exact en (.bool (decide ((1, y, z) ∈ (allK 1 S.F)))) [] ⟨_, _, rfl, ⟨by rw [← thr_dec hg]; rfl, rfl⟩, (tk7 (sf6 (sf6 (sf6 (sf6 (sf6 (sf6 (sf8 (tk9 (sf8 (sf7 (sf8 (sf8 (sf8 (sf8 (sf2 (sf4 (sf8 h29))))))))))))))))))⟩

theorem has_2 (b f p d s l : Nat) (S : Wst) (hW : WOk S) (y z : Int) (hz0 : 0 ≤ z) (hz1 : z ≤ 4294967295) (hg : KGood (2, y, z)) (hy0 : 0 ≤ y) (hy1 : y ≤ 63) (hz : 1 ≤ z) : HT Tryz.prog 193 [pV b, .agg #[iV 2, iV y, uV z]] [Cl b [Value.nilIface, .iface 177 (pV f), .iface 180 (pV p), .iface 183 (pV d), pV s, pV l, iV S.now] 56, Fd f 64 S.F, Pl p S.B, Dk d S.D, Sr 239 s S.q, Lg l S.T] (fun v K => v = .bool (decide (Thr S (2, y, z))) ∧ K = [Cl b [Value.nilIface, .iface 177 (pV f), .iface 180 (pV p), .iface 183 (pV d), pV s, pV l, iV S.now] 56, Fd f 64 S.F, Pl p S.B, Dk d S.D, Sr 239 s S.q, Lg l S.T]) := by
 refine hiS Tryz.func193 Tryz.ntmps193 fun g w0 R h0 => go [] <| nP 72 [iV 2, iV y, uV z] h0 (fun _ _ h12 => ?_)
 refine go [] <| dw (Tr.fl 0 (Tr.an 1 (fls [2, 3] (Tr.an 4 (fls [5, 6, 7, 8, 9, 10, 11, 12, 13, 14, 16] (Tr.an 15 (Tr.an 17 (fls [18, 19] Tr.nil)))))))) h12 fun _ h14 => ?_
 have h15 := tk8 (sf7 (sf6 (sf7 (sf7 (sf7 (sf7 (sf7 (sf7 h14))))))))
 refine go [] <| cw1 Tryz.call57 (wvalid_cl b l Value.nilIface (.iface 177 (pV f)) (.iface 180 (pV p)) (.iface 183 (pV d)) (pV s) (iV S.now)) h15 fun _ h17 => ⟨kd [], ?_⟩
 refine go [rd 1 3 1 0 3 h17] <| cw0 Tryz.call192 (couter_ok 2 y z (by omega) (by omega) (by omega)) h17 fun _ h19 => ⟨kd [], ?_⟩
 refine go [rd 1 10 1 0 1 h19, .s 1 13] <| lw (.pointer (some ⟨b, 2, none⟩)) (fun _ => law_indexArr (x := (Operand.tmp 17)) (i := (Operand.tmp 15)) (b := b) (off := 0) (z := 2) (by kernel_rfl) Tryz.underlying52 1 (by kernel_rfl) 2 (by kernel_rfl) (by kernel_rfl) (by omega) (by omega) 2 (by omega) _) ?_
 have h22 := tk8 (sf7 (sf6 (sf6 (sf6 (sf7 (sf7 (sf7 (sf7 h19))))))))
 refine go [rd 1 14 0 2 1 h19, rd 1 16 1 0 3 h19] ?_
 refine iG 180 (pV p) "All" [] 319 (pall_ht p S.B) h22 ?_
 rintro v K _ (⟨p20, c21, rfl, rfl⟩) h24
 have h25 := ap2 h24
 have hl26 : ((inS 1 (As S.B) 0).length) ≤ 64 := by have h_ := inS_len 1 (As S.B) 0; rw [as_len, hW.bl] at h_; exact h_
 refine ⟨kd [rd 0 16 3 0 3 h25], ?_⟩
 refine cw1 Tryz.call242 (oct_ht p20 (((inS 1 (As S.B) 0).length)) c21 (allK 2 S.B) (Sl 72 3 p20 (((inS 1 (As S.B) 0).length)) c21 (fl eO (allK 2 S.B))) (gv_sl _ _ _) (allK_len _ _) (by omega) 2 y z) (tk9 (sf8 (sf7 (sf8 (sf8 (sf8 (sf8 (sf8 (sf8 (sf8 h25)))))))))) fun _ h29 => ⟨kd [], ?_⟩
 refine go [] ?_
 exact en (.bool (decide ((2, y, z) ∈ (allK 2 S.B)))) [] ⟨_, _, rfl, ⟨by rw [← thr_dec hg]; rfl, rfl⟩, (tk7 (sf6 (sf6 (sf6 (sf6 (sf6 (sf6 (sf8 (tk9 (sf8 (sf8 (sf6 (sf8 (sf8 (sf8 (sf2 (sf4 (sf8 h29))))))))))))))))))⟩

theorem has_3 (b f p d s l : Nat) (S : Wst) (hW : WOk S) (y z : Int) (hz0 : 0 ≤ z) (hz1 : z ≤ 4294967295) (hg : KGood (3, y, z)) (hy0 : 0 ≤ y) (hy1 : y ≤ 63) (hz : 1 ≤ z) : HT Tryz.prog 193 [pV b, .agg #[iV 3, iV y, uV z]] [Cl b [Value.nilIface, .iface 177 (pV f), .iface 180 (pV p), .iface 183 (pV d), pV s, pV l, iV S.now] 56, Fd f 64 S.F, Pl p S.B, Dk d S.D, Sr 239 s S.q, Lg l S.T] (fun v K => v = .bool (decide (Thr S (3, y, z))) ∧ K = [Cl b [Value.nilIface, .iface 177 (pV f), .iface 180 (pV p), .iface 183 (pV d), pV s, pV l, iV S.now] 56, Fd f 64 S.F, Pl p S.B, Dk d S.D, Sr 239 s S.q, Lg l S.T]) := by
 refine hiS Tryz.func193 Tryz.ntmps193 fun g w0 R h0 => go [] <| nP 72 [iV 3, iV y, uV z] h0 (fun _ _ h12 => ?_)
 refine go [] <| dw (Tr.fl 0 (Tr.an 1 (fls [2, 3] (Tr.an 4 (fls [5, 6, 7, 8, 9, 10, 11, 12, 13, 14, 16] (Tr.an 15 (Tr.an 17 (fls [18, 19] Tr.nil)))))))) h12 fun _ h14 => ?_
 have h15 := tk8 (sf7 (sf6 (sf7 (sf7 (sf7 (sf7 (sf7 (sf7 h14))))))))
 refine go [] <| cw1 Tryz.call57 (wvalid_cl b l Value.nilIface (.iface 177 (pV f)) (.iface 180 (pV p)) (.iface 183 (pV d)) (pV s) (iV S.now)) h15 fun _ h17 => ⟨kd [], ?_⟩
 refine go [rd 1 3 1 0 3 h17] <| cw0 Tryz.call192 (couter_ok 3 y z (by omega) (by omega) (by omega)) h17 fun _ h19 => ⟨kd [], ?_⟩
 refine go [rd 1 10 1 0 1 h19, .s 1 13] <| lw (.pointer (some ⟨b, 3, none⟩)) (fun _ => law_indexArr (x := (Operand.tmp 17)) (i := (Operand.tmp 15)) (b := b) (off := 0) (z := 3) (by kernel_rfl) Tryz.underlying52 1 (by kernel_rfl) 3 (by kernel_rfl) (by kernel_rfl) (by omega) (by omega) 3 (by omega) _) ?_
 have h22 := tk8 (sf7 (sf6 (sf6 (sf6 (sf6 (sf7 (sf7 (sf7 h19))))))))
 refine go [rd 1 14 0 3 1 h19, rd 1 16 1 0 3 h19] ?_
 refine iG 183 (pV d) "All" [] 321 (dall_ht d S.D) h22 ?_
 rintro v K _ (⟨p20, c21, rfl, rfl⟩) h24
 have h25 := ap2 h24
 have hl26 : ((inS 1 (As S.D) 0).length) ≤ 64 := by have h_ := inS_len 1 (As S.D) 0; rw [as_len, hW.dl] at h_; exact h_
 refine ⟨kd [rd 0 16 3 0 3 h25], ?_⟩
 refine cw1 Tryz.call242 (oct_ht p20 (((inS 1 (As S.D) 0).length)) c21 (allK 3 S.D) (Sl 72 3 p20 (((inS 1 (As S.D) 0).length)) c21 (fl eO (allK 3 S.D))) (gv_sl _ _ _) (allK_len _ _) (by omega) 3 y z) (tk9 (sf8 (sf7 (sf8 (sf8 (sf8 (sf8 (sf8 (sf8 (sf8 h25)))))))))) fun _ h29 => ⟨kd [], ?_⟩
 refine go [] ?_
 exact en (.bool (decide ((3, y, z) ∈ (allK 3 S.D)))) [] ⟨_, _, rfl, ⟨by rw [← thr_dec hg]; rfl, rfl⟩, (tk7 (sf6 (sf6 (sf6 (sf6 (sf6 (sf6 (sf8 (tk9 (sf8 (sf8 (sf8 (sf5 (sf8 (sf8 (sf2 (sf4 (sf8 h29))))))))))))))))))⟩

theorem has_ht (b f p d s l : Nat) (S : Wst) (hW : WOk S) (x y z : Int) (hz0 : 0 ≤ z) (hz1 : z ≤ 4294967295) : HT Tryz.prog 193 [pV b, .agg #[iV x, iV y, uV z]] (wsix b f p d s l S) (fun v K => v = .bool (decide (Thr S (x, y, z))) ∧ K = wsix b f p d s l S) := by
  by_cases h : KGood (x, y, z)
  · rcases kgood_k h with h1 | h1 | h1
    · have h2 : x = 1 := h1
      subst h2
      exact has_1 b f p d s l S hW y z hz0 hz1 h h.2.2.1 h.2.2.2.1 h.2.2.2.2
    · have h2 : x = 2 := h1
      subst h2
      exact has_2 b f p d s l S hW y z hz0 hz1 h h.2.2.1 h.2.2.2.1 h.2.2.2.2
    · have h2 : x = 3 := h1
      subst h2
      exact has_3 b f p d s l S hW y z hz0 hz1 h h.2.2.1 h.2.2.2.1 h.2.2.2.2
  · rw [decide_eq_false (fun h1 : Thr S (x, y, z) => h h1.1)]
    exact has_no b f p d s l S hW x y z hz0 hz1 h
end Go.Proofs.YtehlamblpekmkaaGreatDoor

/-
  What the calls of a world answer, case by case. No program in sight.
-/
namespace Go.Proofs.YtehlamblpekmkaaGreatDoor
set_option maxHeartbeats 4000000
section
variable {S : Wst} {k y z t : Int} {o : Ky}
theorem tck_arg (h : t < 1 ∨ 1048576 < t) : tckE S t = 2 ∧ tckS S t = S := by
  have e : tckE S t = 2 := if_pos h
  exact ⟨e, if_neg (by rw [e]; decide)⟩
theorem tck_over (h : 1 ≤ t ∧ t ≤ 1048576) (h2 : 1099511627776 < S.now + t) : tckE S t = 17 ∧ tckS S t = S := by
  have e : tckE S t = 17 := by unfold tckE; rw [if_neg (by omega), if_pos h2]
  exact ⟨e, if_neg (by rw [e]; decide)⟩
theorem tck_ok (h : 1 ≤ t ∧ t ≤ 1048576) (h2 : S.now + t ≤ 1099511627776) : tckE S t = 0 ∧ tckS S t = { S with now := S.now + t } := by
  have e : tckE S t = 0 := by unfold tckE; rw [if_neg (by omega), if_neg (by omega)]
  exact ⟨e, if_pos e⟩
theorem thr_at (h : Thr S (k, y, z)) : (As (S.tab k))[y.toNat]? = some (1, z) := h.2
theorem thr_nat (h : KGood (k, y, z)) : y = ((y.toNat : Nat) : Int) := by have h1 : 0 ≤ y := h.2.2.1; omega
end
end Go.Proofs.YtehlamblpekmkaaGreatDoor

/- Walks, printed by my generator P:../out/o10.py. -/
namespace Go.Proofs.YtehlamblpekmkaaGreatDoor
set_option maxHeartbeats 4000000
theorem ospan_y (t : Int) (ht : 1 ≤ t ∧ t ≤ 1048576) : HT Tryz.prog 78 [iV t] [] (fun v K => v = .bool true ∧ K = []) := by
 refine hiS Tryz.func78 Tryz.ntmps78 fun g w0 R h0 => go [.v 1 1 (oT (t ≥ 1)), .v 1 4 (oT (t ≤ 1048576))] ?_
 exact en (.bool true) [] ⟨_, _, rfl, ⟨rfl, rfl⟩, h0⟩

theorem ospan_n (t : Int) (ht : t < 1 ∨ 1048576 < t) : HT Tryz.prog 78 [iV t] [] (fun v K => v = .bool false ∧ K = []) := by
 refine hiS Tryz.func78 Tryz.ntmps78 fun g w0 R h0 => go [.s 1 1] ?_
 by_cases c10 : t ≥ 1
 ·
  refine go [.v 1 1 (oT (t ≥ 1)), .v 1 4 (oF (t ≤ 1048576))] ?_
  exact en (.bool false) [] ⟨_, _, rfl, ⟨rfl, rfl⟩, h0⟩
 refine go [.v 1 1 (oF (t ≥ 1))] ?_
 exact en (.bool false) [] ⟨_, _, rfl, ⟨rfl, rfl⟩, h0⟩

end Go.Proofs.YtehlamblpekmkaaGreatDoor

/- Walks, printed by my generator P:../out/o11.py. -/
namespace Go.Proofs.YtehlamblpekmkaaGreatDoor
set_option maxHeartbeats 4000000
theorem wtick_ht (b : Nat) (S : Wst) (t : Int) : HT Tryz.prog 30 [pV b, iV t] [Wd b S] (fun v K => v = iV (tckE S t) ∧ K = [Wd b (tckS S t)]) := by
 refine hiS Tryz.func30 Tryz.ntmps30 fun g w0 R h0 => ?_
 obtain ⟨f10, p11, d12, s13, l14, hW15, h16⟩ := wd_open h0
 have hW15n := hW15.nl; have hW15m := hW15.nh; have hW15t := hW15.tn
 refine go [] <| cl1 Tryz.call57 (wvalid_cl b l14 Value.nilIface (.iface 177 (pV f10)) (.iface 180 (pV p11)) (.iface 183 (pV d12)) (pV s13) (iV S.now)) h16 fun _ h18 => go [] ?_
 by_cases c19 : 1 ≤ t
 ·
  by_cases c20 : t ≤ 1048576
  ·
   refine cl0 Tryz.call78 (ospan_y t (by omega)) h18 fun w21 h22 => go [rd 5 3 0 6 1 h22, .v 5 5 (oIr (S.now + t)), .s 5 6] ?_
   by_cases c23 : S.now + t > 1099511627776
   ·
    refine go [.v 5 6 (oT (S.now + t > 1099511627776))] ?_
    have ht_ := tck_over (S := S) (t := t) (by omega) (by omega)
    have h24 : sat g w21 [Wd b S, R] := wd_close hW15 h22
    exact en (iV 17) [] ⟨_, [Wd b S], rfl, ⟨by rw [ht_.1], by rw [ht_.2]⟩, h24⟩
   refine go [.v 5 6 (oF (S.now + t > 1099511627776)), rd 7 3 0 6 1 h22, .v 7 5 (oIr (S.now + t))] <| sP [(6, iV (S.now + t))] [Value.nilIface, .iface 177 (pV f10), .iface 180 (pV p11), .iface 183 (pV d12), pV s13, pV l14, iV (S.now + t)] h22 fun w25 h26 => go [] ?_
   have ht_ := tck_ok (S := S) (t := t) (by omega) (by omega)
   have h27 : sat g w25 [Wd b ({ S with now := S.now + t } : Wst), R] := wd_close (ht_.2 ▸ wok_tck hW15 t) h26
   exact en (iV 0) [] ⟨_, [Wd b ({ S with now := S.now + t } : Wst)], rfl, ⟨by rw [ht_.1], by rw [ht_.2]⟩, h27⟩
  refine cl0 Tryz.call78 (ospan_n t (by omega)) h18 fun w28 h29 => go [] ?_
  have ht_ := tck_arg (S := S) (t := t) (by omega)
  have h30 : sat g w28 [Wd b S, R] := wd_close hW15 h29
  exact en (iV 2) [] ⟨_, [Wd b S], rfl, ⟨by rw [ht_.1], by rw [ht_.2]⟩, h30⟩
 refine cl0 Tryz.call78 (ospan_n t (by omega)) h18 fun w31 h32 => go [] ?_
 have ht_ := tck_arg (S := S) (t := t) (by omega)
 have h33 : sat g w31 [Wd b S, R] := wd_close hW15 h32
 exact en (iV 2) [] ⟨_, [Wd b S], rfl, ⟨by rw [ht_.1], by rw [ht_.2]⟩, h33⟩

theorem wnow_ht (b : Nat) (S : Wst) : HT Tryz.prog 38 [pV b] [Wd b S] (fun v K => v = iV S.now ∧ K = [Wd b S]) := by
 refine hiS Tryz.func38 Tryz.ntmps38 fun g w0 R h0 => ?_
 obtain ⟨f10, p11, d12, s13, l14, hW15, h16⟩ := wd_open h0
 have hW15n := hW15.nl; have hW15m := hW15.nh; have hW15t := hW15.tn
 refine go [] <| cl1 Tryz.call57 (wvalid_cl b l14 Value.nilIface (.iface 177 (pV f10)) (.iface 180 (pV p11)) (.iface 183 (pV d12)) (pV s13) (iV S.now)) h16 fun w17 h18 => go [rd 3 3 0 6 1 h18] ?_
 have h19 : sat g w17 [Wd b S, R] := wd_close hW15 h18
 exact en (iV S.now) [] ⟨_, _, rfl, ⟨rfl, rfl⟩, h19⟩

theorem wansw_ht (wo : World) (hg : Lett wo) (b : Nat) (S : Wst) (l : List UInt8) (hl : l.length ≤ 1099511627776) : HT Tryz.prog 32 [pV b, .string (St l)] [Wd b S, Old wo] (fun v K => v = iV (aswE S l) ∧ K = [Wd b (aswS S l), Old wo]) := by
 refine hiS Tryz.func32 Tryz.ntmps32 fun g w0 R h0 => ?_
 obtain ⟨f10, p11, d12, s13, l14, hW15, h16⟩ := wd_open h0
 have hW15n := hW15.nl; have hW15m := hW15.nh; have hW15t := hW15.tn
 refine go [] <| cl1 Tryz.call57 (wvalid_cl b l14 Value.nilIface (.iface 177 (pV f10)) (.iface 180 (pV p11)) (.iface 183 (pV d12)) (pV s13) (iV S.now)) h16 fun _ h18 => ?_
 have h19 := tk8 (sf7 (sf7 (sf5 (sf5 (sf5 (sf5 (sf6 (sf7 h18))))))))
 refine go [rd 3 3 0 4 1 h18] <| cl2 Tryz.call81 (add_ht wo hg s13 S.q l hl) h19 fun w20 h21 => go [] ?_
 have h23 : sat g w20 [Wd b (aswS S l), Old wo, R] := wd_close (wok_asw hW15 l) (tk8 (sf7 (sf7 (sf7 (sf7 (sf3 (sf7 (sf2 (sf7 h21)))))))))
 exact en (iV ((addE S.q l))) [] ⟨_, _, rfl, ⟨rfl, rfl⟩, h23⟩

theorem wledg_ht (b : Nat) (S : Wst) : HT Tryz.prog 20 [pV b] [Wd b S] (fun v K => ∃ b2 : Nat, v = pV b2 ∧ K = [Wd b S, Lg b2 S.T]) := by
 refine hiS Tryz.func20 Tryz.ntmps20 fun g w0 R h0 => ?_
 obtain ⟨f10, p11, d12, s13, l14, hW15, h16⟩ := wd_open h0
 have hW15n := hW15.nl; have hW15m := hW15.nh; have hW15t := hW15.tn
 refine go [] <| cl1 Tryz.call57 (wvalid_cl b l14 Value.nilIface (.iface 177 (pV f10)) (.iface 180 (pV p11)) (.iface 183 (pV d12)) (pV s13) (iV S.now)) h16 fun _ h18 => ?_
 have h20 := tk7 (sf6 (sf5 (sf5 (sf5 (sf5 (sf5 (sf6 h18)))))))
 refine go [rd 3 3 0 5 1 h18] <| cP Tryz.call58 (lgcopy_ht l14 S.T) h20 ?_
 rintro v K w21 (⟨b19, rfl, rfl⟩) h22
 have h23 := ap2 h22
 refine go [] ?_
 have h25 : sat g w21 [Wd b S, Lg b19 S.T, R] := wd_close hW15 (tk8 (sf7 (sf7 (sf7 (sf7 (sf7 (sf2 (sf2 (sf7 h23)))))))))
 exact en (pV b19) [] ⟨_, _, rfl, ⟨b19, rfl, rfl⟩, h25⟩

theorem wcopy_ht (b : Nat) (S : Wst) : HT Tryz.prog 47 [pV b] [Wd b S] (fun v K => ∃ b2 : Nat, v = pV b2 ∧ K = [Wd b S, Wd b2 S]) := by
 refine hiS Tryz.func47 Tryz.ntmps47 fun g w0 R h0 => ?_
 obtain ⟨f10, p11, d12, s13, l14, hW15, h16⟩ := wd_open h0
 have hW15n := hW15.nl; have hW15m := hW15.nh; have hW15t := hW15.tn
 refine go [] <| cl1 Tryz.call57 (wvalid_cl b l14 Value.nilIface (.iface 177 (pV f10)) (.iface 180 (pV p11)) (.iface 183 (pV d12)) (pV s13) (iV S.now)) h16 fun _ h18 => go [] <| dw (fls [0, 1, 2, 3, 5, 6, 7, 8, 10, 11, 12, 13] (Tr.an 4 (Tr.an 9 (Tr.fl 14 (Tr.an 15 (Tr.fl 16 Tr.nil)))))) h18 fun _ h20 => ?_
 have h22 := tk7 (sf6 (sf5 (sf5 (sf5 (sf5 (sf6 (sf6 h20)))))))
 refine go [rd 3 3 0 4 1 h20, rd 3 8 0 5 1 h20, rd 3 13 0 6 1 h20] <| cG Tryz.call113 (copy_ht s13 S.q) h22 ?_
 rintro v K _ (⟨b21, rfl, rfl⟩) h24
 have h25 := ap2 h24
 refine ⟨kd [rd 0 13 2 6 1 h25, rd 0 8 2 5 1 h25], ?_⟩
 refine cG Tryz.call58 (lgcopy_ht l14 S.T) (tk8 (sf7 (sf6 (sf6 (sf6 (sf6 (sf6 (sf6 (sf7 h25))))))))) ?_
 rintro v K _ (⟨b26, rfl, rfl⟩) h29
 have h30 := ap2 h29
 refine ⟨kd [rd 0 13 4 6 1 h30], ?_⟩
 refine go [] <| nG (fun q_ => pV q_) 56 [Value.nilIface, Value.nilIface, Value.nilIface, Value.nilIface, pV b21, pV b26, iV S.now] h30 (fun r31 _ h33 => ⟨kd [], ?_⟩)
 refine go [rd 4 3 5 0 4 h33] <| unS 4 <| go [] <| unN <| go [] <| dw (fls [0, 1, 2, 5, 6] (Tr.an 3 (fls [4, 7] (Tr.an 8 Tr.nil)))) h33 fun _ h35 => ?_
 have h37 := tk10 (sf9 (sf8 (sf8 (sf8 (sf8 (sf8 (sf8 (sf9 (sf9 (sf9 h35))))))))))
 refine go [] <| cG Tryz.call114 (fcopy_ht f10 64 S.F) h37 ?_
 rintro v K _ (⟨b36, rfl, rfl⟩) h39
 have h40 := ap2 h39
 refine ⟨kd [], ?_⟩
 refine lw (.iface 177 (pV b36)) (fun _ => law_mkIface (t := 177) (x := (Operand.tmp 43)) (by kernel_rfl) Tryz.underlying177 rfl (pV b36) (by kernel_rfl) _) <| lw (.pointer (some ⟨r31, 1, none⟩)) (fun _ => law_indexArr (x := (Operand.tmp 46)) (i := (Operand.tmp 41)) (b := r31) (off := 0) (z := 1) (by kernel_rfl) Tryz.underlying52 1 (by kernel_rfl) 1 (by kernel_rfl) (by kernel_rfl) (by omega) (by omega) 1 (by omega) _) <| sG [(1, .iface 177 (pV b36))] [Value.nilIface, .iface 177 (pV b36), Value.nilIface, Value.nilIface, pV b21, pV b26, iV S.now] (tk11 (sf10 (sf9 (sf9 (sf10 (sf10 (sf10 (sf10 (sf10 (sf10 (sf10 (sf10 h40)))))))))))) fun _ h43 => ⟨kd [], ?_⟩
 refine go [] <| unN <| go [] <| dw (fls [0, 1, 2, 5, 6] (Tr.an 3 (fls [4, 7] (Tr.an 8 Tr.nil)))) h43 fun _ h45 => ?_
 have h47 := tk11 (sf10 (sf9 (sf9 (sf9 (sf9 (sf9 (sf9 (sf9 (sf9 (sf10 (sf10 h45)))))))))))
 refine go [] <| cG Tryz.call115 (pcopy_ht p11 S.B) h47 ?_
 rintro v K _ (⟨b46, rfl, rfl⟩) h49
 have h50 := ap2 h49
 refine ⟨kd [], ?_⟩
 refine lw (.iface 180 (pV b46)) (fun _ => law_mkIface (t := 180) (x := (Operand.tmp 54)) (by kernel_rfl) Tryz.underlying180 rfl (pV b46) (by kernel_rfl) _) <| lw (.pointer (some ⟨r31, 2, none⟩)) (fun _ => law_indexArr (x := (Operand.tmp 57)) (i := (Operand.tmp 52)) (b := r31) (off := 0) (z := 2) (by kernel_rfl) Tryz.underlying52 1 (by kernel_rfl) 2 (by kernel_rfl) (by kernel_rfl) (by omega) (by omega) 2 (by omega) _) <| sG [(2, .iface 180 (pV b46))] [Value.nilIface, .iface 177 (pV b36), .iface 180 (pV b46), Value.nilIface, pV b21, pV b26, iV S.now] (tk12 (sf11 (sf10 (sf10 (sf11 (sf11 (sf11 (sf11 (sf11 (sf11 (sf11 (sf11 (sf11 h50))))))))))))) fun _ h53 => ⟨kd [], ?_⟩
 refine go [] <| unN <| go [] <| dw (fls [0, 1, 2, 5, 6] (Tr.an 3 (fls [4, 7] (Tr.an 8 Tr.nil)))) h53 fun _ h55 => ?_
 have h57 := tk12 (sf11 (sf10 (sf10 (sf10 (sf10 (sf10 (sf10 (sf10 (sf10 (sf10 (sf10 (sf11 h55))))))))))))
 refine go [] <| cG Tryz.call116 (lcopy_ht d12 S.D) h57 ?_
 rintro v K _ (⟨b56, rfl, rfl⟩) h59
 have h60 := ap2 h59
 refine ⟨kd [], ?_⟩
 refine lw (.iface 183 (pV b56)) (fun _ => law_mkIface (t := 183) (x := (Operand.tmp 65)) (by kernel_rfl) Tryz.underlying183 rfl (pV b56) (by kernel_rfl) _) <| lw (.pointer (some ⟨r31, 3, none⟩)) (fun _ => law_indexArr (x := (Operand.tmp 68)) (i := (Operand.tmp 63)) (b := r31) (off := 0) (z := 3) (by kernel_rfl) Tryz.underlying52 1 (by kernel_rfl) 3 (by kernel_rfl) (by kernel_rfl) (by omega) (by omega) 3 (by omega) _) <| sG [(3, .iface 183 (pV b56))] [Value.nilIface, .iface 177 (pV b36), .iface 180 (pV b46), .iface 183 (pV b56), pV b21, pV b26, iV S.now] (tk13 (sf12 (sf11 (sf11 (sf12 (sf12 (sf12 (sf12 (sf12 (sf12 (sf12 (sf12 (sf12 (sf12 h60)))))))))))))) fun w62 h63 => ⟨kd [], ?_⟩
 refine go [] <| unN <| go [] <| up <| go [] ?_
 have h65 : sat g w62 [Wd b S, Cl r31 [Value.nilIface, .iface 177 (pV b36), .iface 180 (pV b46), .iface 183 (pV b56), pV b21, pV b26, iV S.now] 56, Dk b56 S.D, Pl b46 S.B, Fd b36 64 S.F, Lg b26 S.T, Sr 239 b21 S.q, R] := wd_close hW15 (tk13 (sf12 (sf11 (sf10 (sf9 (sf11 (sf10 (sf6 (sf7 (sf8 (sf9 (sf10 (sf10 (sf12 h63))))))))))))))
 have h67 : sat g w62 [Wd r31 S, Wd b S, R] := wd_close hW15 (tk8 (sf7 (sf7 (sf6 (sf5 (sf7 (sf6 (sf1 (sf7 h65)))))))))
 exact en (pV r31) [] ⟨_, _, rfl, ⟨r31, rfl, rfl⟩, (tk3 (sf2 (sf1 (sf2 h67))))⟩

end Go.Proofs.YtehlamblpekmkaaGreatDoor

/-
  Acquiring and releasing, case by case. No program in sight.
-/
namespace Go.Proofs.YtehlamblpekmkaaGreatDoor
set_option maxHeartbeats 4000000
section
variable {S : Wst} {k a y z wy : Int} {o : Ky}
theorem acq_arg (h : ¬ godP k a) : acqE S k a = 2 ∧ acqO S k a = (0, 0, 0) ∧ acqS S k a = S := by
  have e : acqE S k a = 2 := if_pos h
  exact ⟨e, if_neg (by rw [e]; decide), if_pos (.inl h)⟩
theorem acq_err (h : godP k a) {e : Int} (he : grwE S k a = e) (h0 : e ≠ 0) : acqE S k a = e ∧ acqO S k a = (0, 0, 0) ∧ acqS S k a = S := by
  have e1 : acqE S k a = e := by unfold acqE; rw [if_neg (fun q => q h), if_pos (by rw [he]; exact h0), he]
  exact ⟨e1, if_neg (by rw [e1]; exact h0), if_pos (.inr (by rw [he]; exact h0))⟩
theorem acq_later (h : godP k a) (he : grwE S k a = 0) (hq : S.q.headD 1 = 2) : acqE S k a = 15 ∧ acqO S k a = (0, 0, 0) ∧ acqS S k a = { S with q := S.q.tail } := by
  have e1 : acqE S k a = 15 := by unfold acqE; rw [if_neg (fun q => q h), if_neg (fun q => q he), if_pos hq]
  refine ⟨e1, if_neg (by rw [e1]; decide), ?_⟩
  unfold acqS
  rw [if_neg (by rintro (q | q); exact q h; exact q he), if_neg (by rw [e1]; decide)]
theorem acq_fail (h : godP k a) (he : grwE S k a = 0) (hq2 : S.q.headD 1 ≠ 2) (hq : S.q.headD 1 = 3) : acqE S k a = 14 ∧ acqO S k a = (0, 0, 0) ∧ acqS S k a = { S with q := S.q.tail } := by
  have e1 : acqE S k a = 14 := by unfold acqE; rw [if_neg (fun q => q h), if_neg (fun q => q he), if_neg hq2, if_pos hq]
  refine ⟨e1, if_neg (by rw [e1]; decide), ?_⟩
  unfold acqS
  rw [if_neg (by rintro (q | q); exact q h; exact q he), if_neg (by rw [e1]; decide)]
theorem acq_ok (h : godP k a) (he : grwE S k a = 0) (hq2 : S.q.headD 1 ≠ 2) (hq : S.q.headD 1 ≠ 3) : acqE S k a = 0 ∧ acqO S k a = nam k (S.tab k) ∧ acqS S k a = ({ S with q := S.q.tail } : Wst).put k (grw (S.tab k) (valO S k a)) := by
  have e1 : acqE S k a = 0 := by unfold acqE; rw [if_neg (fun q => q h), if_neg (fun q => q he), if_neg hq2, if_neg hq]
  refine ⟨e1, if_pos e1, ?_⟩
  unfold acqS
  rw [if_neg (by rintro (q | q); exact q h; exact q he), if_pos e1]
theorem god1 (h : 0 ≤ a ∧ a ≤ 65535) : godP 1 a := .inl ⟨rfl, h.1, h.2⟩
theorem god2 (h : 1 ≤ a ∧ a ≤ 65536) : godP 2 a := .inr (.inl ⟨rfl, h.1, h.2⟩)
theorem god3 (h : 1 ≤ a ∧ a ≤ 1048576) : godP 3 a := .inr (.inr ⟨rfl, h.1, h.2⟩)
theorem god_no1 (h : ¬ (0 ≤ a ∧ a ≤ 65535)) : ¬ godP 1 a := by unfold godP; omega
theorem god_no2 (h : ¬ (1 ≤ a ∧ a ≤ 65536)) : ¬ godP 2 a := by unfold godP; omega
theorem god_no3 (h : ¬ (1 ≤ a ∧ a ≤ 1048576)) : ¬ godP 3 a := by unfold godP; omega
theorem god_no (h : k < 1 ∨ 3 < k) : ¬ godP k a := by unfold godP; omega
theorem fre_pos' {X : Xs} (h : ¬ fre X = none) : 0 < (inS 0 (As X) 0).length := by
  rcases Nat.eq_zero_or_pos (inS 0 (As X) 0).length with h0 | h0
  · exact absurd (fre_none.2 h0) h
  · exact h0
theorem opn_grw (h : 0 ≤ a ∧ a ≤ 65535) : opnE S.F a = grwE S 1 a ∧ (opnE S.F a = 0 → opnO S.F a = nam 1 S.F ∧ opnX S.F a = grw S.F a) := by
  have e : grwE S 1 a = if fre S.F = none then 4 else 0 := by
    unfold grwE
    rw [if_neg (by rintro ⟨q, _⟩; exact absurd q (by decide)), if_neg (by rintro ⟨q, _⟩; exact absurd q (by decide))]
    rfl
  rw [e]
  by_cases hf : fre S.F = none
  · rw [if_pos hf]
    have h1 := opn_full (X := S.F) h (fre_none.1 hf)
    exact ⟨h1.2.1, fun q => absurd (h1.2.1.symm.trans q) (by decide)⟩
  · rw [if_neg hf]
    have hp := fre_pos (fre_pos' hf)
    have h1 := opn_ok (X := S.F) (v := a) h hp
    refine ⟨h1.2.1, fun _ => ⟨?_, ?_⟩⟩
    · rw [h1.1]; unfold nam; rw [hp]
    · rw [h1.2.2]; unfold grw; rw [hp]
theorem pin_grw (h : 1 ≤ a ∧ a ≤ 65536) : pinE S.B a = grwE S 2 a ∧ (pinE S.B a = 0 → pinO S.B a = nam 2 S.B ∧ pinX S.B a = grw S.B a) := by
  refine ⟨?_, fun q => ⟨if_pos q, if_pos q⟩⟩
  unfold grwE pinE
  by_cases h1 : 1048576 < used S.B + a
  · rw [if_pos h1, if_pos ⟨rfl, h1⟩]
  · rw [if_neg h1, if_neg (fun q => h1 q.2), if_neg (by rintro ⟨q, _⟩; exact absurd q (by decide))]
    rfl
theorem gnt_grw (h : 1 ≤ a ∧ a ≤ 1048576) : gntE S.D a S.now = grwE S 3 a ∧ (gntE S.D a S.now = 0 → gntO S.D a S.now = nam 3 S.D ∧ gntX S.D a S.now = grw S.D (S.now + a)) := by
  refine ⟨?_, fun q => ⟨if_pos q, if_pos q⟩⟩
  have e1 : ¬ ((3 : Int) = 2 ∧ 1048576 < used S.B + a) := fun q => absurd q.1 (by decide)
  by_cases h1 : 1099511627776 - a < S.now
  · exact (if_pos h1 : gntE S.D a S.now = 17).trans ((if_neg e1).trans (if_pos ⟨rfl, h1⟩)).symm
  · exact (if_neg h1 : gntE S.D a S.now = tkE S.D).trans ((if_neg e1).trans (if_neg (fun q => h1 q.2))).symm
theorem acq_ok1 (h : 0 ≤ a ∧ a ≤ 65535) (he : opnE S.F a = 0) (hq2 : S.q.headD 1 ≠ 2) (hq : S.q.headD 1 ≠ 3) : acqE S 1 a = 0 ∧ acqO S 1 a = opnO S.F a ∧ acqS S 1 a = { S with q := S.q.tail, F := opnX S.F a } := by
  obtain ⟨h1, h2⟩ := opn_grw (S := S) h
  obtain ⟨h3, h4⟩ := h2 he
  obtain ⟨h5, h6, h7⟩ := acq_ok (S := S) (god1 h) (h1 ▸ he) hq2 hq
  exact ⟨h5, h6.trans h3.symm, h7.trans (by rw [h4]; rfl)⟩
theorem acq_ok2 (h : 1 ≤ a ∧ a ≤ 65536) (he : pinE S.B a = 0) (hq2 : S.q.headD 1 ≠ 2) (hq : S.q.headD 1 ≠ 3) : acqE S 2 a = 0 ∧ acqO S 2 a = pinO S.B a ∧ acqS S 2 a = { S with q := S.q.tail, B := pinX S.B a } := by
  obtain ⟨h1, h2⟩ := pin_grw (S := S) h
  obtain ⟨h3, h4⟩ := h2 he
  obtain ⟨h5, h6, h7⟩ := acq_ok (S := S) (god2 h) (h1 ▸ he) hq2 hq
  exact ⟨h5, h6.trans h3.symm, h7.trans (by rw [h4]; rfl)⟩
theorem acq_ok3 (h : 1 ≤ a ∧ a ≤ 1048576) (he : gntE S.D a S.now = 0) (hq2 : S.q.headD 1 ≠ 2) (hq : S.q.headD 1 ≠ 3) : acqE S 3 a = 0 ∧ acqO S 3 a = gntO S.D a S.now ∧ acqS S 3 a = { S with q := S.q.tail, D := gntX S.D a S.now } := by
  obtain ⟨h1, h2⟩ := gnt_grw (S := S) h
  obtain ⟨h3, h4⟩ := h2 he
  obtain ⟨h5, h6, h7⟩ := acq_ok (S := S) (god3 h) (h1 ▸ he) hq2 hq
  exact ⟨h5, h6.trans h3.symm, h7.trans (by rw [h4]; rfl)⟩
theorem rel_arg (h : ¬ KGood o ∨ wy < 1 ∨ 3 < wy) : relE S o wy = 2 ∧ relA S o wy = 0 ∧ relS S o wy = S := by
  have e : relE S o wy = 2 := if_pos h
  exact ⟨e, if_neg (by rw [e]; decide), if_pos (by rw [e]; decide)⟩
theorem rel_none (h : KGood o) (hw : 1 ≤ wy ∧ wy ≤ 3) (hT : ¬ Thr S o) : relE S o wy = 5 ∧ relA S o wy = 0 ∧ relS S o wy = S := by
  have e : relE S o wy = 5 := by unfold relE; rw [if_neg (by rintro (q | q); exact q h; omega), if_pos hT]
  exact ⟨e, if_neg (by rw [e]; decide), if_pos (by rw [e]; decide)⟩
theorem rel_full (hw : 1 ≤ wy ∧ wy ≤ 3) (hT : Thr S o) (hn : 10000 ≤ S.T.length) : relE S o wy = 4 ∧ relA S o wy = 0 ∧ relS S o wy = S := by
  have e : relE S o wy = 4 := by unfold relE; rw [if_neg (by rintro (q | q); exact q hT.1; omega), if_neg (fun q => q hT), if_pos hn]
  exact ⟨e, if_neg (by rw [e]; decide), if_pos (by rw [e]; decide)⟩
theorem rel_ok (hw : 1 ≤ wy ∧ wy ≤ 3) (hT : Thr S o) (hn : S.T.length < 10000) : relE S o wy = 0 ∧ relA S o wy = S.q.headD 1 ∧ relS S o wy = if S.q.headD 1 = 1 then ({ S with q := S.q.tail, T := S.T ++ [⟨S.now, o, wy, S.q.headD 1⟩] } : Wst).put o.1 (giv (S.tab o.1) o) else { S with q := S.q.tail, T := S.T ++ [⟨S.now, o, wy, S.q.headD 1⟩] } := by
  have e : relE S o wy = 0 := by unfold relE; rw [if_neg (by rintro (q | q); exact q hT.1; omega), if_neg (fun q => q hT), if_neg (by omega)]
  exact ⟨e, if_pos e, if_neg (by rw [e]; decide)⟩
theorem rel_attP (hW : WOk S) (h : KGood o) (hw : 1 ≤ wy ∧ wy ≤ 3) : attP ⟨S.now, o, wy, S.q.headD 1⟩ := by
  have := headD_bd hW.qb
  exact ⟨hW.nl, hW.nh, kgood_iff.2 h, hw.1, hw.2, this.1, this.2⟩
theorem cls_giv (hT : Thr S (1, y, z)) : clsX S.F (1, y, z) = giv S.F (1, y, z) := by
  obtain ⟨hg, h1⟩ := hT
  have h2 : errA (As S.F) (1, y, z) = 0 := chk_ok (As S.F) (q := y.toNat) (s := (1, z)) rfl hg.2.2.2.1 hg.2.2.2.2 (thr_nat hg) h1 ⟨rfl, rfl⟩
  unfold clsX giv
  rw [if_pos h2]
end
end Go.Proofs.YtehlamblpekmkaaGreatDoor

/- Walks, printed by my generator P:../out/o12.py. -/
namespace Go.Proofs.YtehlamblpekmkaaGreatDoor
set_option maxHeartbeats 4000000
theorem god_1y (a : Int) (ha : 0 ≤ a ∧ a ≤ 65535) : HT Tryz.prog 135 [iV 1, iV a] [] (fun v K => v = .bool true ∧ K = []) := by
 refine hiS Tryz.func135 Tryz.ntmps135 fun g w0 R h0 => go [.v 3 1 (oT (a ≥ 0)), .v 3 4 (oT (a ≤ 65535))] ?_
 exact en (.bool true) [] ⟨_, _, rfl, ⟨rfl, rfl⟩, h0⟩

theorem god_1n (a : Int) (ha : a < 0 ∨ 65535 < a) : HT Tryz.prog 135 [iV 1, iV a] [] (fun v K => v = .bool false ∧ K = []) := by
 refine hiS Tryz.func135 Tryz.ntmps135 fun g w0 R h0 => go [.s 3 1] ?_
 by_cases c10 : a ≥ 0
 ·
  refine go [.v 3 1 (oT (a ≥ 0)), .v 3 4 (oF (a ≤ 65535))] ?_
  exact en (.bool false) [] ⟨_, _, rfl, ⟨rfl, rfl⟩, h0⟩
 refine go [.v 3 1 (oF (a ≥ 0))] ?_
 exact en (.bool false) [] ⟨_, _, rfl, ⟨rfl, rfl⟩, h0⟩

theorem god_2y (a : Int) (ha : 1 ≤ a ∧ a ≤ 65536) : HT Tryz.prog 135 [iV 2, iV a] [] (fun v K => v = .bool true ∧ K = []) := by
 refine hiS Tryz.func135 Tryz.ntmps135 fun g w0 R h0 => go [.v 5 1 (oT (a ≥ 1)), .v 5 4 (oT (a ≤ 65536))] ?_
 exact en (.bool true) [] ⟨_, _, rfl, ⟨rfl, rfl⟩, h0⟩

theorem god_2n (a : Int) (ha : a < 1 ∨ 65536 < a) : HT Tryz.prog 135 [iV 2, iV a] [] (fun v K => v = .bool false ∧ K = []) := by
 refine hiS Tryz.func135 Tryz.ntmps135 fun g w0 R h0 => go [.s 5 1] ?_
 by_cases c10 : a ≥ 1
 ·
  refine go [.v 5 1 (oT (a ≥ 1)), .v 5 4 (oF (a ≤ 65536))] ?_
  exact en (.bool false) [] ⟨_, _, rfl, ⟨rfl, rfl⟩, h0⟩
 refine go [.v 5 1 (oF (a ≥ 1))] ?_
 exact en (.bool false) [] ⟨_, _, rfl, ⟨rfl, rfl⟩, h0⟩

theorem god_3y (a : Int) (ha : 1 ≤ a ∧ a ≤ 1048576) : HT Tryz.prog 135 [iV 3, iV a] [] (fun v K => v = .bool true ∧ K = []) := by
 refine hiS Tryz.func135 Tryz.ntmps135 fun g w0 R h0 => go [] <| cl0 Tryz.call78 (ospan_y a (by omega)) h0 fun _ h11 => go [] ?_
 exact en (.bool true) [] ⟨_, _, rfl, ⟨rfl, rfl⟩, h11⟩

theorem god_3n (a : Int) (ha : a < 1 ∨ 1048576 < a) : HT Tryz.prog 135 [iV 3, iV a] [] (fun v K => v = .bool false ∧ K = []) := by
 refine hiS Tryz.func135 Tryz.ntmps135 fun g w0 R h0 => go [] ?_
 by_cases c10 : 1 ≤ a
 ·
  refine cl0 Tryz.call78 (ospan_n a (by omega)) h0 fun _ h12 => go [] ?_
  exact en (.bool false) [] ⟨_, _, rfl, ⟨rfl, rfl⟩, h12⟩
 refine cl0 Tryz.call78 (ospan_n a (by omega)) h0 fun _ h14 => go [] ?_
 exact en (.bool false) [] ⟨_, _, rfl, ⟨rfl, rfl⟩, h14⟩

theorem god_0 (k a : Int) (hk : k < 1 ∨ 3 < k) : HT Tryz.prog 135 [iV k, iV a] [] (fun v K => v = .bool false ∧ K = []) := by
 refine hiS Tryz.func135 Tryz.ntmps135 fun g w0 R h0 => go [.v 2 0 (qeF k 1), .v 4 0 (qeF k 2), .v 6 0 (qeF k 3)] ?_
 exact en (.bool false) [] ⟨_, _, rfl, ⟨rfl, rfl⟩, h0⟩

theorem grown_1 (b f p d s l : Nat) (S : Wst) (hW : WOk S) (a : Int) (ha : 0 ≤ a ∧ a ≤ 65535) : HT Tryz.prog 136 [pV b, iV 1, iV a] [Cl b [Value.nilIface, .iface 177 (pV f), .iface 180 (pV p), .iface 183 (pV d), pV s, pV l, iV S.now] 56, Fd f 64 S.F, Pl p S.B, Dk d S.D, Sr 239 s S.q, Lg l S.T] (fun v K => ∃ c : Nat, v = .tuple #[.iface 177 (pV c), .agg #[iV ((opnO S.F a).1), iV ((opnO S.F a).2.1), uV ((opnO S.F a).2.2)], iV ((opnE S.F a))] ∧ K = [Cl b [Value.nilIface, .iface 177 (pV f), .iface 180 (pV p), .iface 183 (pV d), pV s, pV l, iV S.now] 56, Fd f 64 S.F, Pl p S.B, Dk d S.D, Sr 239 s S.q, Lg l S.T, Fd c 64 (opnX S.F a)]) := by
 refine hiS Tryz.func136 Tryz.ntmps136 fun g w0 R h0 => ?_
 have hWn := hW.nl; have hWm := hW.nh; have hWt := hW.tn
 refine go [] <| nP 72 [iV 0, iV 0, uV 0] h0 (fun _ _ h12 => ?_)
 refine go [.s 1 4] <| lwP (.pointer (some ⟨b, 1, none⟩)) (law_indexArr (x := (Operand.tmp 24)) (i := (Operand.tmp 22)) (b := b) (off := 0) (z := 1) (by kernel_rfl) Tryz.underlying52 1 (by kernel_rfl) 1 (by kernel_rfl) (by kernel_rfl) (by omega) (by omega) 1 (by omega) _) ?_
 have h14 := tk8 (sf7 (sf6 (sf6 (sf7 (sf7 (sf7 (sf7 (sf7 h12))))))))
 refine go [rd 1 5 1 1 1 h12] <| cP Tryz.call114 (fcopy_ht f 64 S.F) h14 ?_
 rintro v K _ (⟨b13, rfl, rfl⟩) h16
 have h18 := tk9 (sf8 (sf7 (sf8 (sf8 (sf8 (sf8 (sf8 (sf8 (sf8 (ap2 h16))))))))))
 refine go [] <| cl1 Tryz.call201 (fopen_ht b13 64 S.F a) h18 fun _ h20 => go [] <| nP 72 [iV 0, iV 0, uV 0] h20 (fun _ _ h23 => ?_)
 refine sP [(0, iV ((opnO S.F a).1)), (1, iV ((opnO S.F a).2.1)), (2, uV ((opnO S.F a).2.2))] [iV ((opnO S.F a).1), iV ((opnO S.F a).2.1), uV ((opnO S.F a).2.2)] h23 fun _ h25 => go [] <| dw (fls [0, 1, 2, 3, 4] (Tr.an 5 (Tr.fl 6 Tr.nil))) h25 fun _ h27 => go [.s 6 1] <| lw (.iface 177 (pV b13)) (fun _ => law_mkIface (t := 177) (x := (Operand.tmp 38)) (by kernel_rfl) Tryz.underlying177 rfl (pV b13) (by kernel_rfl) _) ?_
 have h28 := tk10 (sf9 (sf8 (sf8 (sf8 (sf9 (sf9 (sf9 (sf9 (sf9 (sf9 h27))))))))))
 refine go [rd 6 2 0 0 3 h27] <| sG [(0, iV ((opnO S.F a).1)), (1, iV ((opnO S.F a).2.1)), (2, uV ((opnO S.F a).2.2))] [iV ((opnO S.F a).1), iV ((opnO S.F a).2.1), uV ((opnO S.F a).2.2)] h28 fun _ h30 => ⟨kd [], ?_⟩
 refine go [] ?_
 exact en (.tuple #[.iface 177 (pV b13), .agg #[iV ((opnO S.F a).1), iV ((opnO S.F a).2.1), uV ((opnO S.F a).2.2)], iV ((opnE S.F a))]) [rd 0 0 0 0 3 h30] ⟨_, _, rfl, ⟨b13, rfl, rfl⟩, (tk8 (sf7 (sf7 (sf7 (sf7 (sf7 (sf7 (sf7 (sf9 (tk10 (sf9 (sf8 (sf9 (sf9 (sf9 (sf9 (sf3 (sf2 (sf2 (sf9 h30))))))))))))))))))))⟩

theorem grown_2 (b f p d s l : Nat) (S : Wst) (hW : WOk S) (a : Int) (ha : 1 ≤ a ∧ a ≤ 65536) : HT Tryz.prog 136 [pV b, iV 2, iV a] [Cl b [Value.nilIface, .iface 177 (pV f), .iface 180 (pV p), .iface 183 (pV d), pV s, pV l, iV S.now] 56, Fd f 64 S.F, Pl p S.B, Dk d S.D, Sr 239 s S.q, Lg l S.T] (fun v K => ∃ c : Nat, v = .tuple #[.iface 180 (pV c), .agg #[iV ((pinO S.B a).1), iV ((pinO S.B a).2.1), uV ((pinO S.B a).2.2)], iV ((pinE S.B a))] ∧ K = [Cl b [Value.nilIface, .iface 177 (pV f), .iface 180 (pV p), .iface 183 (pV d), pV s, pV l, iV S.now] 56, Fd f 64 S.F, Pl p S.B, Dk d S.D, Sr 239 s S.q, Lg l S.T, Pl c (pinX S.B a)]) := by
 refine hiS Tryz.func136 Tryz.ntmps136 fun g w0 R h0 => ?_
 have hWn := hW.nl; have hWm := hW.nh; have hWt := hW.tn
 refine go [] <| nP 72 [iV 0, iV 0, uV 0] h0 (fun _ _ h12 => ?_)
 refine go [.s 1 4] <| lwP (.pointer (some ⟨b, 2, none⟩)) (law_indexArr (x := (Operand.tmp 24)) (i := (Operand.tmp 22)) (b := b) (off := 0) (z := 2) (by kernel_rfl) Tryz.underlying52 1 (by kernel_rfl) 2 (by kernel_rfl) (by kernel_rfl) (by omega) (by omega) 2 (by omega) _) ?_
 have h14 := tk8 (sf7 (sf6 (sf6 (sf6 (sf7 (sf7 (sf7 (sf7 h12))))))))
 refine go [rd 1 5 1 2 1 h12] <| cP Tryz.call115 (pcopy_ht p S.B) h14 ?_
 rintro v K _ (⟨b13, rfl, rfl⟩) h16
 have h18 := tk9 (sf8 (sf7 (sf8 (sf8 (sf8 (sf8 (sf8 (sf8 (sf8 (ap2 h16))))))))))
 refine go [] <| cl1 Tryz.call202 (pin_ht b13 S.B a (by omega)) h18 fun _ h20 => go [] <| nP 72 [iV 0, iV 0, uV 0] h20 (fun _ _ h23 => ?_)
 refine sP [(0, iV ((pinO S.B a).1)), (1, iV ((pinO S.B a).2.1)), (2, uV ((pinO S.B a).2.2))] [iV ((pinO S.B a).1), iV ((pinO S.B a).2.1), uV ((pinO S.B a).2.2)] h23 fun _ h25 => go [] <| dw (fls [0, 1, 2, 3, 4] (Tr.an 5 (Tr.fl 6 Tr.nil))) h25 fun _ h27 => go [.s 11 1] <| lw (.iface 180 (pV b13)) (fun _ => law_mkIface (t := 180) (x := (Operand.tmp 53)) (by kernel_rfl) Tryz.underlying180 rfl (pV b13) (by kernel_rfl) _) ?_
 have h28 := tk10 (sf9 (sf8 (sf8 (sf8 (sf9 (sf9 (sf9 (sf9 (sf9 (sf9 h27))))))))))
 refine go [rd 11 2 0 0 3 h27] <| sG [(0, iV ((pinO S.B a).1)), (1, iV ((pinO S.B a).2.1)), (2, uV ((pinO S.B a).2.2))] [iV ((pinO S.B a).1), iV ((pinO S.B a).2.1), uV ((pinO S.B a).2.2)] h28 fun _ h30 => ⟨kd [], ?_⟩
 refine go [] ?_
 exact en (.tuple #[.iface 180 (pV b13), .agg #[iV ((pinO S.B a).1), iV ((pinO S.B a).2.1), uV ((pinO S.B a).2.2)], iV ((pinE S.B a))]) [rd 0 0 0 0 3 h30] ⟨_, _, rfl, ⟨b13, rfl, rfl⟩, (tk8 (sf7 (sf7 (sf7 (sf7 (sf7 (sf7 (sf7 (sf9 (tk10 (sf9 (sf9 (sf7 (sf9 (sf9 (sf9 (sf3 (sf2 (sf2 (sf9 h30))))))))))))))))))))⟩

theorem grown_3 (b f p d s l : Nat) (S : Wst) (hW : WOk S) (a : Int) (ha : 1 ≤ a ∧ a ≤ 1048576) : HT Tryz.prog 136 [pV b, iV 3, iV a] [Cl b [Value.nilIface, .iface 177 (pV f), .iface 180 (pV p), .iface 183 (pV d), pV s, pV l, iV S.now] 56, Fd f 64 S.F, Pl p S.B, Dk d S.D, Sr 239 s S.q, Lg l S.T] (fun v K => ∃ c : Nat, v = .tuple #[.iface 183 (pV c), .agg #[iV ((gntO S.D a S.now).1), iV ((gntO S.D a S.now).2.1), uV ((gntO S.D a S.now).2.2)], iV ((gntE S.D a S.now))] ∧ K = [Cl b [Value.nilIface, .iface 177 (pV f), .iface 180 (pV p), .iface 183 (pV d), pV s, pV l, iV S.now] 56, Fd f 64 S.F, Pl p S.B, Dk d S.D, Sr 239 s S.q, Lg l S.T, Dk c (gntX S.D a S.now)]) := by
 refine hiS Tryz.func136 Tryz.ntmps136 fun g w0 R h0 => ?_
 have hWn := hW.nl; have hWm := hW.nh; have hWt := hW.tn
 refine go [] <| nP 72 [iV 0, iV 0, uV 0] h0 (fun _ _ h12 => ?_)
 refine go [.s 1 4] <| lwP (.pointer (some ⟨b, 3, none⟩)) (law_indexArr (x := (Operand.tmp 24)) (i := (Operand.tmp 22)) (b := b) (off := 0) (z := 3) (by kernel_rfl) Tryz.underlying52 1 (by kernel_rfl) 3 (by kernel_rfl) (by kernel_rfl) (by omega) (by omega) 3 (by omega) _) ?_
 have h14 := tk8 (sf7 (sf6 (sf6 (sf6 (sf6 (sf7 (sf7 (sf7 h12))))))))
 refine go [rd 1 5 1 3 1 h12] <| cP Tryz.call116 (lcopy_ht d S.D) h14 ?_
 rintro v K _ (⟨b13, rfl, rfl⟩) h16
 have h17 := ap2 h16
 have h18 := tk9 (sf8 (sf7 (sf8 (sf8 (sf8 (sf8 (sf8 (sf8 (sf8 h17)))))))))
 refine go [rd 15 5 3 6 1 h17] <| cl1 Tryz.call203 (grant_ht b13 S.D a S.now (by omega) (by omega)) h18 fun _ h20 => go [] <| nP 72 [iV 0, iV 0, uV 0] h20 (fun _ _ h23 => ?_)
 refine sP [(0, iV ((gntO S.D a S.now).1)), (1, iV ((gntO S.D a S.now).2.1)), (2, uV ((gntO S.D a S.now).2.2))] [iV ((gntO S.D a S.now).1), iV ((gntO S.D a S.now).2.1), uV ((gntO S.D a S.now).2.2)] h23 fun _ h25 => go [] <| dw (fls [0, 1, 2, 3, 4] (Tr.an 5 (Tr.fl 6 Tr.nil))) h25 fun _ h27 => go [.s 16 1] <| lw (.iface 183 (pV b13)) (fun _ => law_mkIface (t := 183) (x := (Operand.tmp 72)) (by kernel_rfl) Tryz.underlying183 rfl (pV b13) (by kernel_rfl) _) ?_
 have h28 := tk10 (sf9 (sf8 (sf8 (sf8 (sf9 (sf9 (sf9 (sf9 (sf9 (sf9 h27))))))))))
 refine go [rd 16 2 0 0 3 h27] <| sG [(0, iV ((gntO S.D a S.now).1)), (1, iV ((gntO S.D a S.now).2.1)), (2, uV ((gntO S.D a S.now).2.2))] [iV ((gntO S.D a S.now).1), iV ((gntO S.D a S.now).2.1), uV ((gntO S.D a S.now).2.2)] h28 fun _ h30 => ⟨kd [], ?_⟩
 refine go [] ?_
 exact en (.tuple #[.iface 183 (pV b13), .agg #[iV ((gntO S.D a S.now).1), iV ((gntO S.D a S.now).2.1), uV ((gntO S.D a S.now).2.2)], iV ((gntE S.D a S.now))]) [rd 0 0 0 0 3 h30] ⟨_, _, rfl, ⟨b13, rfl, rfl⟩, (tk8 (sf7 (sf7 (sf7 (sf7 (sf7 (sf7 (sf7 (sf9 (tk10 (sf9 (sf9 (sf9 (sf6 (sf9 (sf9 (sf3 (sf2 (sf2 (sf9 h30))))))))))))))))))))⟩

theorem wacq_1 (b : Nat) (S : Wst) (a : Int) (ha : 0 ≤ a ∧ a ≤ 65535) : HT Tryz.prog 68 [pV b, iV 1, iV a] [Wd b S] (fun v K => v = .tuple #[.agg #[iV (acqO S 1 a).1, iV (acqO S 1 a).2.1, uV (acqO S 1 a).2.2], iV (acqE S 1 a)] ∧ K = [Wd b (acqS S 1 a)]) := by
 refine hiS Tryz.func68 Tryz.ntmps68 fun g w0 R h0 => ?_
 obtain ⟨f10, p11, d12, s13, l14, hW15, h16⟩ := wd_open h0
 have hW15n := hW15.nl; have hW15m := hW15.nh; have hW15t := hW15.tn
 refine go [] <| nP 72 [iV 0, iV 0, uV 0] h16 (fun r17 _ h19 => ?_)
 have h20 := tk8 (sf7 (sf6 (sf7 (sf7 (sf7 (sf7 (sf7 (sf7 h19))))))))
 refine go [] <| cl1 Tryz.call57 (wvalid_cl b l14 Value.nilIface (.iface 177 (pV f10)) (.iface 180 (pV p11)) (.iface 183 (pV d12)) (pV s13) (iV S.now)) h20 fun _ h22 => go [] <| cl0 Tryz.call135 (god_1y a (by omega)) h22 fun _ h24 => ?_
 have h26 := tk8 (sf7 (sf7 (sf7 (sf7 (sf7 (sf7 (sf2 (sf7 h24))))))))
 refine go [] <| cP Tryz.call136 (grown_1 b f10 p11 d12 s13 l14 S hW15 a (by omega)) h26 ?_
 rintro v K _ (⟨c25, rfl, rfl⟩) h28
 have h29 := ap7 h28
 refine go [] <| nP 72 [iV 0, iV 0, uV 0] h29 (fun r30 _ h32 => ?_)
 refine go [] <| sP [(0, iV ((opnO S.F a).1)), (1, iV ((opnO S.F a).2.1)), (2, uV ((opnO S.F a).2.2))] [iV ((opnO S.F a).1), iV ((opnO S.F a).2.1), uV ((opnO S.F a).2.2)] h32 fun _ h34 => go [.s 6 1] ?_
 by_cases c35 : (opnE S.F a) = 0
 ·
  have h36 := tk10 (sf9 (sf8 (sf8 (sf8 (sf8 (sf8 (sf9 (sf9 (sf9 (sf9 h34))))))))))
  refine go [.v 6 1 (qnF ((opnE S.F a)) 0), rd 8 3 1 4 1 h34] <| cl1 Tryz.call137 (next_ht s13 S.q) h36 fun _ h38 => go [.s 9 0] ?_
  by_cases c39 : (S.q.headD 1) = 2
  ·
   have h40 := tk10 (sf9 (sf8 (sf8 (sf8 (sf8 (sf8 (sf8 (sf8 (sf8 (sf9 h38))))))))))
   refine go [.v 9 0 (qeT ((S.q.headD 1)) 2)] <| sP [(0, iV 0), (1, iV 0), (2, uV 0)] [iV 0, iV 0, uV 0] h40 fun w41 h42 => go [] ?_
   have hp_ := acq_later (S := S) (god1 ha) ((opn_grw (S := S) ha).1.symm.trans (by omega)) (by omega)
   have h43 := tk10 (sf9 (sf9 (sf9 (sf9 (sf5 (sf9 (sf3 (sf4 (sf9 (sf9 h42))))))))))
   have h44 : sat g w41 [Wd b ({ S with q := S.q.tail } : Wst), Cl r17 [iV 0, iV 0, uV 0] 72, Cl r30 [iV ((opnO S.F a).1), iV ((opnO S.F a).2.1), uV ((opnO S.F a).2.2)] 72, Fd c25 64 (opnX S.F a), R] := wd_close (hp_.2.2 ▸ wok_acq hW15 1 a) h43
   exact en (.tuple #[.agg #[iV 0, iV 0, uV 0], iV 15]) [rd 0 0 0 0 3 h42] ⟨_, [Wd b ({ S with q := S.q.tail } : Wst)], rfl, ⟨by rw [hp_.1, hp_.2.1], by rw [hp_.2.2]⟩, (tk2 (sf1 (sf4 h44)))⟩
  refine go [.v 9 0 (qeF ((S.q.headD 1)) 2), .s 11 0] ?_
  by_cases c46 : (S.q.headD 1) = 3
  ·
   have h47 := tk10 (sf9 (sf8 (sf8 (sf8 (sf8 (sf8 (sf8 (sf8 (sf8 (sf9 h38))))))))))
   refine go [.v 11 0 (qeT ((S.q.headD 1)) 3)] <| sP [(0, iV 0), (1, iV 0), (2, uV 0)] [iV 0, iV 0, uV 0] h47 fun w48 h49 => go [] ?_
   have hp_ := acq_fail (S := S) (god1 ha) ((opn_grw (S := S) ha).1.symm.trans (by omega)) (by omega) (by omega)
   have h50 := tk10 (sf9 (sf9 (sf9 (sf9 (sf5 (sf9 (sf3 (sf4 (sf9 (sf9 h49))))))))))
   have h51 : sat g w48 [Wd b ({ S with q := S.q.tail } : Wst), Cl r17 [iV 0, iV 0, uV 0] 72, Cl r30 [iV ((opnO S.F a).1), iV ((opnO S.F a).2.1), uV ((opnO S.F a).2.2)] 72, Fd c25 64 (opnX S.F a), R] := wd_close (hp_.2.2 ▸ wok_acq hW15 1 a) h50
   exact en (.tuple #[.agg #[iV 0, iV 0, uV 0], iV 14]) [rd 0 0 0 0 3 h49] ⟨_, [Wd b ({ S with q := S.q.tail } : Wst)], rfl, ⟨by rw [hp_.1, hp_.2.1], by rw [hp_.2.2]⟩, (tk2 (sf1 (sf4 h51)))⟩
  refine go [.v 11 0 (qeF ((S.q.headD 1)) 3), .s 13 5] <| lwP (.pointer (some ⟨b, 1, none⟩)) (law_indexArr (x := (Operand.tmp 49)) (i := (Operand.tmp 46)) (b := b) (off := 0) (z := 1) (by kernel_rfl) Tryz.underlying52 1 (by kernel_rfl) 1 (by kernel_rfl) (by kernel_rfl) (by omega) (by omega) 1 (by omega) _) <| sP [(1, .iface 177 (pV c25))] [Value.nilIface, .iface 177 (pV c25), .iface 180 (pV p11), .iface 183 (pV d12), pV s13, pV l14, iV S.now] (tk10 (sf9 (sf8 (sf8 (sf9 (sf9 (sf9 (sf9 (sf9 (sf9 (sf9 h38))))))))))) fun _ h55 => ?_
  have h56 := tk10 (sf9 (sf8 (sf8 (sf8 (sf8 (sf8 (sf8 (sf8 (sf8 (sf9 h55))))))))))
  refine go [rd 14 0 2 0 3 h55] <| sP [(0, iV ((opnO S.F a).1)), (1, iV ((opnO S.F a).2.1)), (2, uV ((opnO S.F a).2.2))] [iV ((opnO S.F a).1), iV ((opnO S.F a).2.1), uV ((opnO S.F a).2.2)] h56 fun w57 h58 => go [] ?_
  have hp_ := acq_ok1 (S := S) ha (by omega) (by omega) (by omega)
  have h59 := tk10 (sf9 (sf9 (sf8 (sf8 (sf6 (sf8 (sf3 (sf5 (sf5 (sf9 h58))))))))))
  have h60 : sat g w57 [Wd b ({ S with q := S.q.tail, F := opnX S.F a } : Wst), Cl r17 [iV ((opnO S.F a).1), iV ((opnO S.F a).2.1), uV ((opnO S.F a).2.2)] 72, Cl r30 [iV ((opnO S.F a).1), iV ((opnO S.F a).2.1), uV ((opnO S.F a).2.2)] 72, Fd f10 64 S.F, R] := wd_close (hp_.2.2 ▸ wok_acq hW15 1 a) h59
  exact en (.tuple #[.agg #[iV ((opnO S.F a).1), iV ((opnO S.F a).2.1), uV ((opnO S.F a).2.2)], iV 0]) [rd 0 0 0 0 3 h58] ⟨_, [Wd b ({ S with q := S.q.tail, F := opnX S.F a } : Wst)], rfl, ⟨by rw [hp_.1, hp_.2.1], by rw [hp_.2.2]⟩, (tk2 (sf1 (sf4 h60)))⟩
 have h62 := tk10 (sf9 (sf8 (sf8 (sf8 (sf8 (sf8 (sf8 (sf8 (sf8 (sf9 h34))))))))))
 refine go [.v 6 1 (qnT ((opnE S.F a)) 0)] <| sP [(0, iV 0), (1, iV 0), (2, uV 0)] [iV 0, iV 0, uV 0] h62 fun w63 h64 => go [] ?_
 have hp_ := acq_err (S := S) (god1 ha) (opn_grw (S := S) ha).1.symm (by omega)
 have h66 : sat g w63 [Wd b S, Cl r17 [iV 0, iV 0, uV 0] 72, Cl r30 [iV ((opnO S.F a).1), iV ((opnO S.F a).2.1), uV ((opnO S.F a).2.2)] 72, Fd c25 64 (opnX S.F a), R] := wd_close hW15 (tk10 (sf9 (sf9 (sf9 (sf9 (sf9 (sf9 (sf3 (sf3 (sf9 (sf9 h64)))))))))))
 exact en (.tuple #[.agg #[iV 0, iV 0, uV 0], iV ((opnE S.F a))]) [rd 0 0 0 0 3 h64] ⟨_, [Wd b S], rfl, ⟨by rw [hp_.1, hp_.2.1], by rw [hp_.2.2]⟩, (tk2 (sf1 (sf4 h66)))⟩

theorem wacq_1n (b : Nat) (S : Wst) (a : Int) (ha : a < 0 ∨ 65535 < a) (hng : ¬ godP 1 a) : HT Tryz.prog 68 [pV b, iV 1, iV a] [Wd b S] (fun v K => v = .tuple #[.agg #[iV (acqO S 1 a).1, iV (acqO S 1 a).2.1, uV (acqO S 1 a).2.2], iV (acqE S 1 a)] ∧ K = [Wd b (acqS S 1 a)]) := by
 refine hiS Tryz.func68 Tryz.ntmps68 fun g w0 R h0 => ?_
 obtain ⟨f10, p11, d12, s13, l14, hW15, h16⟩ := wd_open h0
 have hW15n := hW15.nl; have hW15m := hW15.nh; have hW15t := hW15.tn
 refine go [] <| nP 72 [iV 0, iV 0, uV 0] h16 (fun r17 _ h19 => ?_)
 have h20 := tk8 (sf7 (sf6 (sf7 (sf7 (sf7 (sf7 (sf7 (sf7 h19))))))))
 refine go [] <| cl1 Tryz.call57 (wvalid_cl b l14 Value.nilIface (.iface 177 (pV f10)) (.iface 180 (pV p11)) (.iface 183 (pV d12)) (pV s13) (iV S.now)) h20 fun _ h22 => go [] ?_
 by_cases c23 : 0 ≤ a
 ·
  refine cl0 Tryz.call135 (god_1n a (by omega)) h22 fun _ h25 => ?_
  have h26 := tk8 (sf7 (sf6 (sf7 (sf7 (sf7 (sf7 (sf7 (sf7 h25))))))))
  refine go [] <| sP [(0, iV 0), (1, iV 0), (2, uV 0)] [iV 0, iV 0, uV 0] h26 fun w27 h28 => go [] ?_
  have hp_ := acq_arg (S := S) (k := 1) (a := a) hng
  have h30 : sat g w27 [Wd b S, Cl r17 [iV 0, iV 0, uV 0] 72, R] := wd_close hW15 (tk8 (sf7 (sf7 (sf7 (sf7 (sf7 (sf7 (sf1 (sf7 h28)))))))))
  exact en (.tuple #[.agg #[iV 0, iV 0, uV 0], iV 2]) [rd 0 0 0 0 3 h28] ⟨_, [Wd b S], rfl, ⟨by rw [hp_.1, hp_.2.1], by rw [hp_.2.2]⟩, (tk2 (sf1 (sf2 h30)))⟩
 refine cl0 Tryz.call135 (god_1n a (by omega)) h22 fun _ h33 => ?_
 have h34 := tk8 (sf7 (sf6 (sf7 (sf7 (sf7 (sf7 (sf7 (sf7 h33))))))))
 refine go [] <| sP [(0, iV 0), (1, iV 0), (2, uV 0)] [iV 0, iV 0, uV 0] h34 fun w35 h36 => go [] ?_
 have hp_ := acq_arg (S := S) (k := 1) (a := a) hng
 have h38 : sat g w35 [Wd b S, Cl r17 [iV 0, iV 0, uV 0] 72, R] := wd_close hW15 (tk8 (sf7 (sf7 (sf7 (sf7 (sf7 (sf7 (sf1 (sf7 h36)))))))))
 exact en (.tuple #[.agg #[iV 0, iV 0, uV 0], iV 2]) [rd 0 0 0 0 3 h36] ⟨_, [Wd b S], rfl, ⟨by rw [hp_.1, hp_.2.1], by rw [hp_.2.2]⟩, (tk2 (sf1 (sf2 h38)))⟩

theorem wacq_2 (b : Nat) (S : Wst) (a : Int) (ha : 1 ≤ a ∧ a ≤ 65536) : HT Tryz.prog 68 [pV b, iV 2, iV a] [Wd b S] (fun v K => v = .tuple #[.agg #[iV (acqO S 2 a).1, iV (acqO S 2 a).2.1, uV (acqO S 2 a).2.2], iV (acqE S 2 a)] ∧ K = [Wd b (acqS S 2 a)]) := by
 refine hiS Tryz.func68 Tryz.ntmps68 fun g w0 R h0 => ?_
 obtain ⟨f10, p11, d12, s13, l14, hW15, h16⟩ := wd_open h0
 have hW15n := hW15.nl; have hW15m := hW15.nh; have hW15t := hW15.tn
 refine go [] <| nP 72 [iV 0, iV 0, uV 0] h16 (fun r17 _ h19 => ?_)
 have h20 := tk8 (sf7 (sf6 (sf7 (sf7 (sf7 (sf7 (sf7 (sf7 h19))))))))
 refine go [] <| cl1 Tryz.call57 (wvalid_cl b l14 Value.nilIface (.iface 177 (pV f10)) (.iface 180 (pV p11)) (.iface 183 (pV d12)) (pV s13) (iV S.now)) h20 fun _ h22 => go [] <| cl0 Tryz.call135 (god_2y a (by omega)) h22 fun _ h24 => ?_
 have h26 := tk8 (sf7 (sf7 (sf7 (sf7 (sf7 (sf7 (sf2 (sf7 h24))))))))
 refine go [] <| cP Tryz.call136 (grown_2 b f10 p11 d12 s13 l14 S hW15 a (by omega)) h26 ?_
 rintro v K _ (⟨c25, rfl, rfl⟩) h28
 have h29 := ap7 h28
 refine go [] <| nP 72 [iV 0, iV 0, uV 0] h29 (fun r30 _ h32 => ?_)
 refine go [] <| sP [(0, iV ((pinO S.B a).1)), (1, iV ((pinO S.B a).2.1)), (2, uV ((pinO S.B a).2.2))] [iV ((pinO S.B a).1), iV ((pinO S.B a).2.1), uV ((pinO S.B a).2.2)] h32 fun _ h34 => go [.s 6 1] ?_
 by_cases c35 : (pinE S.B a) = 0
 ·
  have h36 := tk10 (sf9 (sf8 (sf8 (sf8 (sf8 (sf8 (sf9 (sf9 (sf9 (sf9 h34))))))))))
  refine go [.v 6 1 (qnF ((pinE S.B a)) 0), rd 8 3 1 4 1 h34] <| cl1 Tryz.call137 (next_ht s13 S.q) h36 fun _ h38 => go [.s 9 0] ?_
  by_cases c39 : (S.q.headD 1) = 2
  ·
   have h40 := tk10 (sf9 (sf8 (sf8 (sf8 (sf8 (sf8 (sf8 (sf8 (sf8 (sf9 h38))))))))))
   refine go [.v 9 0 (qeT ((S.q.headD 1)) 2)] <| sP [(0, iV 0), (1, iV 0), (2, uV 0)] [iV 0, iV 0, uV 0] h40 fun w41 h42 => go [] ?_
   have hp_ := acq_later (S := S) (god2 ha) ((pin_grw (S := S) ha).1.symm.trans (by omega)) (by omega)
   have h43 := tk10 (sf9 (sf9 (sf9 (sf9 (sf5 (sf9 (sf3 (sf4 (sf9 (sf9 h42))))))))))
   have h44 : sat g w41 [Wd b ({ S with q := S.q.tail } : Wst), Cl r17 [iV 0, iV 0, uV 0] 72, Cl r30 [iV ((pinO S.B a).1), iV ((pinO S.B a).2.1), uV ((pinO S.B a).2.2)] 72, Pl c25 (pinX S.B a), R] := wd_close (hp_.2.2 ▸ wok_acq hW15 2 a) h43
   exact en (.tuple #[.agg #[iV 0, iV 0, uV 0], iV 15]) [rd 0 0 0 0 3 h42] ⟨_, [Wd b ({ S with q := S.q.tail } : Wst)], rfl, ⟨by rw [hp_.1, hp_.2.1], by rw [hp_.2.2]⟩, (tk2 (sf1 (sf4 h44)))⟩
  refine go [.v 9 0 (qeF ((S.q.headD 1)) 2), .s 11 0] ?_
  by_cases c46 : (S.q.headD 1) = 3
  ·
   have h47 := tk10 (sf9 (sf8 (sf8 (sf8 (sf8 (sf8 (sf8 (sf8 (sf8 (sf9 h38))))))))))
   refine go [.v 11 0 (qeT ((S.q.headD 1)) 3)] <| sP [(0, iV 0), (1, iV 0), (2, uV 0)] [iV 0, iV 0, uV 0] h47 fun w48 h49 => go [] ?_
   have hp_ := acq_fail (S := S) (god2 ha) ((pin_grw (S := S) ha).1.symm.trans (by omega)) (by omega) (by omega)
   have h50 := tk10 (sf9 (sf9 (sf9 (sf9 (sf5 (sf9 (sf3 (sf4 (sf9 (sf9 h49))))))))))
   have h51 : sat g w48 [Wd b ({ S with q := S.q.tail } : Wst), Cl r17 [iV 0, iV 0, uV 0] 72, Cl r30 [iV ((pinO S.B a).1), iV ((pinO S.B a).2.1), uV ((pinO S.B a).2.2)] 72, Pl c25 (pinX S.B a), R] := wd_close (hp_.2.2 ▸ wok_acq hW15 2 a) h50
   exact en (.tuple #[.agg #[iV 0, iV 0, uV 0], iV 14]) [rd 0 0 0 0 3 h49] ⟨_, [Wd b ({ S with q := S.q.tail } : Wst)], rfl, ⟨by rw [hp_.1, hp_.2.1], by rw [hp_.2.2]⟩, (tk2 (sf1 (sf4 h51)))⟩
  refine go [.v 11 0 (qeF ((S.q.headD 1)) 3), .s 13 5] <| lwP (.pointer (some ⟨b, 2, none⟩)) (law_indexArr (x := (Operand.tmp 49)) (i := (Operand.tmp 46)) (b := b) (off := 0) (z := 2) (by kernel_rfl) Tryz.underlying52 1 (by kernel_rfl) 2 (by kernel_rfl) (by kernel_rfl) (by omega) (by omega) 2 (by omega) _) <| sP [(2, .iface 180 (pV c25))] [Value.nilIface, .iface 177 (pV f10), .iface 180 (pV c25), .iface 183 (pV d12), pV s13, pV l14, iV S.now] (tk10 (sf9 (sf8 (sf8 (sf9 (sf9 (sf9 (sf9 (sf9 (sf9 (sf9 h38))))))))))) fun _ h55 => ?_
  have h56 := tk10 (sf9 (sf8 (sf8 (sf8 (sf8 (sf8 (sf8 (sf8 (sf8 (sf9 h55))))))))))
  refine go [rd 14 0 2 0 3 h55] <| sP [(0, iV ((pinO S.B a).1)), (1, iV ((pinO S.B a).2.1)), (2, uV ((pinO S.B a).2.2))] [iV ((pinO S.B a).1), iV ((pinO S.B a).2.1), uV ((pinO S.B a).2.2)] h56 fun w57 h58 => go [] ?_
  have hp_ := acq_ok2 (S := S) ha (by omega) (by omega) (by omega)
  have h59 := tk10 (sf9 (sf9 (sf9 (sf8 (sf6 (sf8 (sf3 (sf5 (sf6 (sf9 h58))))))))))
  have h60 : sat g w57 [Wd b ({ S with q := S.q.tail, B := pinX S.B a } : Wst), Cl r17 [iV ((pinO S.B a).1), iV ((pinO S.B a).2.1), uV ((pinO S.B a).2.2)] 72, Cl r30 [iV ((pinO S.B a).1), iV ((pinO S.B a).2.1), uV ((pinO S.B a).2.2)] 72, Pl p11 S.B, R] := wd_close (hp_.2.2 ▸ wok_acq hW15 2 a) h59
  exact en (.tuple #[.agg #[iV ((pinO S.B a).1), iV ((pinO S.B a).2.1), uV ((pinO S.B a).2.2)], iV 0]) [rd 0 0 0 0 3 h58] ⟨_, [Wd b ({ S with q := S.q.tail, B := pinX S.B a } : Wst)], rfl, ⟨by rw [hp_.1, hp_.2.1], by rw [hp_.2.2]⟩, (tk2 (sf1 (sf4 h60)))⟩
 have h62 := tk10 (sf9 (sf8 (sf8 (sf8 (sf8 (sf8 (sf8 (sf8 (sf8 (sf9 h34))))))))))
 refine go [.v 6 1 (qnT ((pinE S.B a)) 0)] <| sP [(0, iV 0), (1, iV 0), (2, uV 0)] [iV 0, iV 0, uV 0] h62 fun w63 h64 => go [] ?_
 have hp_ := acq_err (S := S) (god2 ha) (pin_grw (S := S) ha).1.symm (by omega)
 have h66 : sat g w63 [Wd b S, Cl r17 [iV 0, iV 0, uV 0] 72, Cl r30 [iV ((pinO S.B a).1), iV ((pinO S.B a).2.1), uV ((pinO S.B a).2.2)] 72, Pl c25 (pinX S.B a), R] := wd_close hW15 (tk10 (sf9 (sf9 (sf9 (sf9 (sf9 (sf9 (sf3 (sf3 (sf9 (sf9 h64)))))))))))
 exact en (.tuple #[.agg #[iV 0, iV 0, uV 0], iV ((pinE S.B a))]) [rd 0 0 0 0 3 h64] ⟨_, [Wd b S], rfl, ⟨by rw [hp_.1, hp_.2.1], by rw [hp_.2.2]⟩, (tk2 (sf1 (sf4 h66)))⟩

theorem wacq_2n (b : Nat) (S : Wst) (a : Int) (ha : a < 1 ∨ 65536 < a) (hng : ¬ godP 2 a) : HT Tryz.prog 68 [pV b, iV 2, iV a] [Wd b S] (fun v K => v = .tuple #[.agg #[iV (acqO S 2 a).1, iV (acqO S 2 a).2.1, uV (acqO S 2 a).2.2], iV (acqE S 2 a)] ∧ K = [Wd b (acqS S 2 a)]) := by
 refine hiS Tryz.func68 Tryz.ntmps68 fun g w0 R h0 => ?_
 obtain ⟨f10, p11, d12, s13, l14, hW15, h16⟩ := wd_open h0
 have hW15n := hW15.nl; have hW15m := hW15.nh; have hW15t := hW15.tn
 refine go [] <| nP 72 [iV 0, iV 0, uV 0] h16 (fun r17 _ h19 => ?_)
 have h20 := tk8 (sf7 (sf6 (sf7 (sf7 (sf7 (sf7 (sf7 (sf7 h19))))))))
 refine go [] <| cl1 Tryz.call57 (wvalid_cl b l14 Value.nilIface (.iface 177 (pV f10)) (.iface 180 (pV p11)) (.iface 183 (pV d12)) (pV s13) (iV S.now)) h20 fun _ h22 => go [] ?_
 by_cases c23 : 1 ≤ a
 ·
  refine cl0 Tryz.call135 (god_2n a (by omega)) h22 fun _ h25 => ?_
  have h26 := tk8 (sf7 (sf6 (sf7 (sf7 (sf7 (sf7 (sf7 (sf7 h25))))))))
  refine go [] <| sP [(0, iV 0), (1, iV 0), (2, uV 0)] [iV 0, iV 0, uV 0] h26 fun w27 h28 => go [] ?_
  have hp_ := acq_arg (S := S) (k := 2) (a := a) hng
  have h30 : sat g w27 [Wd b S, Cl r17 [iV 0, iV 0, uV 0] 72, R] := wd_close hW15 (tk8 (sf7 (sf7 (sf7 (sf7 (sf7 (sf7 (sf1 (sf7 h28)))))))))
  exact en (.tuple #[.agg #[iV 0, iV 0, uV 0], iV 2]) [rd 0 0 0 0 3 h28] ⟨_, [Wd b S], rfl, ⟨by rw [hp_.1, hp_.2.1], by rw [hp_.2.2]⟩, (tk2 (sf1 (sf2 h30)))⟩
 refine cl0 Tryz.call135 (god_2n a (by omega)) h22 fun _ h33 => ?_
 have h34 := tk8 (sf7 (sf6 (sf7 (sf7 (sf7 (sf7 (sf7 (sf7 h33))))))))
 refine go [] <| sP [(0, iV 0), (1, iV 0), (2, uV 0)] [iV 0, iV 0, uV 0] h34 fun w35 h36 => go [] ?_
 have hp_ := acq_arg (S := S) (k := 2) (a := a) hng
 have h38 : sat g w35 [Wd b S, Cl r17 [iV 0, iV 0, uV 0] 72, R] := wd_close hW15 (tk8 (sf7 (sf7 (sf7 (sf7 (sf7 (sf7 (sf1 (sf7 h36)))))))))
 exact en (.tuple #[.agg #[iV 0, iV 0, uV 0], iV 2]) [rd 0 0 0 0 3 h36] ⟨_, [Wd b S], rfl, ⟨by rw [hp_.1, hp_.2.1], by rw [hp_.2.2]⟩, (tk2 (sf1 (sf2 h38)))⟩

theorem wacq_3 (b : Nat) (S : Wst) (a : Int) (ha : 1 ≤ a ∧ a ≤ 1048576) : HT Tryz.prog 68 [pV b, iV 3, iV a] [Wd b S] (fun v K => v = .tuple #[.agg #[iV (acqO S 3 a).1, iV (acqO S 3 a).2.1, uV (acqO S 3 a).2.2], iV (acqE S 3 a)] ∧ K = [Wd b (acqS S 3 a)]) := by
 refine hiS Tryz.func68 Tryz.ntmps68 fun g w0 R h0 => ?_
 obtain ⟨f10, p11, d12, s13, l14, hW15, h16⟩ := wd_open h0
 have hW15n := hW15.nl; have hW15m := hW15.nh; have hW15t := hW15.tn
 refine go [] <| nP 72 [iV 0, iV 0, uV 0] h16 (fun r17 _ h19 => ?_)
 have h20 := tk8 (sf7 (sf6 (sf7 (sf7 (sf7 (sf7 (sf7 (sf7 h19))))))))
 refine go [] <| cl1 Tryz.call57 (wvalid_cl b l14 Value.nilIface (.iface 177 (pV f10)) (.iface 180 (pV p11)) (.iface 183 (pV d12)) (pV s13) (iV S.now)) h20 fun _ h22 => go [] <| cl0 Tryz.call135 (god_3y a (by omega)) h22 fun _ h24 => ?_
 have h26 := tk8 (sf7 (sf7 (sf7 (sf7 (sf7 (sf7 (sf2 (sf7 h24))))))))
 refine go [] <| cP Tryz.call136 (grown_3 b f10 p11 d12 s13 l14 S hW15 a (by omega)) h26 ?_
 rintro v K _ (⟨c25, rfl, rfl⟩) h28
 have h29 := ap7 h28
 refine go [] <| nP 72 [iV 0, iV 0, uV 0] h29 (fun r30 _ h32 => ?_)
 refine go [] <| sP [(0, iV ((gntO S.D a S.now).1)), (1, iV ((gntO S.D a S.now).2.1)), (2, uV ((gntO S.D a S.now).2.2))] [iV ((gntO S.D a S.now).1), iV ((gntO S.D a S.now).2.1), uV ((gntO S.D a S.now).2.2)] h32 fun _ h34 => go [.s 6 1] ?_
 by_cases c35 : (gntE S.D a S.now) = 0
 ·
  have h36 := tk10 (sf9 (sf8 (sf8 (sf8 (sf8 (sf8 (sf9 (sf9 (sf9 (sf9 h34))))))))))
  refine go [.v 6 1 (qnF ((gntE S.D a S.now)) 0), rd 8 3 1 4 1 h34] <| cl1 Tryz.call137 (next_ht s13 S.q) h36 fun _ h38 => go [.s 9 0] ?_
  by_cases c39 : (S.q.headD 1) = 2
  ·
   have h40 := tk10 (sf9 (sf8 (sf8 (sf8 (sf8 (sf8 (sf8 (sf8 (sf8 (sf9 h38))))))))))
   refine go [.v 9 0 (qeT ((S.q.headD 1)) 2)] <| sP [(0, iV 0), (1, iV 0), (2, uV 0)] [iV 0, iV 0, uV 0] h40 fun w41 h42 => go [] ?_
   have hp_ := acq_later (S := S) (god3 ha) ((gnt_grw (S := S) ha).1.symm.trans (by omega)) (by omega)
   have h43 := tk10 (sf9 (sf9 (sf9 (sf9 (sf5 (sf9 (sf3 (sf4 (sf9 (sf9 h42))))))))))
   have h44 : sat g w41 [Wd b ({ S with q := S.q.tail } : Wst), Cl r17 [iV 0, iV 0, uV 0] 72, Cl r30 [iV ((gntO S.D a S.now).1), iV ((gntO S.D a S.now).2.1), uV ((gntO S.D a S.now).2.2)] 72, Dk c25 (gntX S.D a S.now), R] := wd_close (hp_.2.2 ▸ wok_acq hW15 3 a) h43
   exact en (.tuple #[.agg #[iV 0, iV 0, uV 0], iV 15]) [rd 0 0 0 0 3 h42] ⟨_, [Wd b ({ S with q := S.q.tail } : Wst)], rfl, ⟨by rw [hp_.1, hp_.2.1], by rw [hp_.2.2]⟩, (tk2 (sf1 (sf4 h44)))⟩
  refine go [.v 9 0 (qeF ((S.q.headD 1)) 2), .s 11 0] ?_
  by_cases c46 : (S.q.headD 1) = 3
  ·
   have h47 := tk10 (sf9 (sf8 (sf8 (sf8 (sf8 (sf8 (sf8 (sf8 (sf8 (sf9 h38))))))))))
   refine go [.v 11 0 (qeT ((S.q.headD 1)) 3)] <| sP [(0, iV 0), (1, iV 0), (2, uV 0)] [iV 0, iV 0, uV 0] h47 fun w48 h49 => go [] ?_
   have hp_ := acq_fail (S := S) (god3 ha) ((gnt_grw (S := S) ha).1.symm.trans (by omega)) (by omega) (by omega)
   have h50 := tk10 (sf9 (sf9 (sf9 (sf9 (sf5 (sf9 (sf3 (sf4 (sf9 (sf9 h49))))))))))
   have h51 : sat g w48 [Wd b ({ S with q := S.q.tail } : Wst), Cl r17 [iV 0, iV 0, uV 0] 72, Cl r30 [iV ((gntO S.D a S.now).1), iV ((gntO S.D a S.now).2.1), uV ((gntO S.D a S.now).2.2)] 72, Dk c25 (gntX S.D a S.now), R] := wd_close (hp_.2.2 ▸ wok_acq hW15 3 a) h50
   exact en (.tuple #[.agg #[iV 0, iV 0, uV 0], iV 14]) [rd 0 0 0 0 3 h49] ⟨_, [Wd b ({ S with q := S.q.tail } : Wst)], rfl, ⟨by rw [hp_.1, hp_.2.1], by rw [hp_.2.2]⟩, (tk2 (sf1 (sf4 h51)))⟩
  refine go [.v 11 0 (qeF ((S.q.headD 1)) 3), .s 13 5] <| lwP (.pointer (some ⟨b, 3, none⟩)) (law_indexArr (x := (Operand.tmp 49)) (i := (Operand.tmp 46)) (b := b) (off := 0) (z := 3) (by kernel_rfl) Tryz.underlying52 1 (by kernel_rfl) 3 (by kernel_rfl) (by kernel_rfl) (by omega) (by omega) 3 (by omega) _) <| sP [(3, .iface 183 (pV c25))] [Value.nilIface, .iface 177 (pV f10), .iface 180 (pV p11), .iface 183 (pV c25), pV s13, pV l14, iV S.now] (tk10 (sf9 (sf8 (sf8 (sf9 (sf9 (sf9 (sf9 (sf9 (sf9 (sf9 h38))))))))))) fun _ h55 => ?_
  have h56 := tk10 (sf9 (sf8 (sf8 (sf8 (sf8 (sf8 (sf8 (sf8 (sf8 (sf9 h55))))))))))
  refine go [rd 14 0 2 0 3 h55] <| sP [(0, iV ((gntO S.D a S.now).1)), (1, iV ((gntO S.D a S.now).2.1)), (2, uV ((gntO S.D a S.now).2.2))] [iV ((gntO S.D a S.now).1), iV ((gntO S.D a S.now).2.1), uV ((gntO S.D a S.now).2.2)] h56 fun w57 h58 => go [] ?_
  have hp_ := acq_ok3 (S := S) ha (by omega) (by omega) (by omega)
  have h59 := tk10 (sf9 (sf9 (sf9 (sf9 (sf6 (sf8 (sf3 (sf5 (sf7 (sf9 h58))))))))))
  have h60 : sat g w57 [Wd b ({ S with q := S.q.tail, D := gntX S.D a S.now } : Wst), Cl r17 [iV ((gntO S.D a S.now).1), iV ((gntO S.D a S.now).2.1), uV ((gntO S.D a S.now).2.2)] 72, Cl r30 [iV ((gntO S.D a S.now).1), iV ((gntO S.D a S.now).2.1), uV ((gntO S.D a S.now).2.2)] 72, Dk d12 S.D, R] := wd_close (hp_.2.2 ▸ wok_acq hW15 3 a) h59
  exact en (.tuple #[.agg #[iV ((gntO S.D a S.now).1), iV ((gntO S.D a S.now).2.1), uV ((gntO S.D a S.now).2.2)], iV 0]) [rd 0 0 0 0 3 h58] ⟨_, [Wd b ({ S with q := S.q.tail, D := gntX S.D a S.now } : Wst)], rfl, ⟨by rw [hp_.1, hp_.2.1], by rw [hp_.2.2]⟩, (tk2 (sf1 (sf4 h60)))⟩
 have h62 := tk10 (sf9 (sf8 (sf8 (sf8 (sf8 (sf8 (sf8 (sf8 (sf8 (sf9 h34))))))))))
 refine go [.v 6 1 (qnT ((gntE S.D a S.now)) 0)] <| sP [(0, iV 0), (1, iV 0), (2, uV 0)] [iV 0, iV 0, uV 0] h62 fun w63 h64 => go [] ?_
 have hp_ := acq_err (S := S) (god3 ha) (gnt_grw (S := S) ha).1.symm (by omega)
 have h66 : sat g w63 [Wd b S, Cl r17 [iV 0, iV 0, uV 0] 72, Cl r30 [iV ((gntO S.D a S.now).1), iV ((gntO S.D a S.now).2.1), uV ((gntO S.D a S.now).2.2)] 72, Dk c25 (gntX S.D a S.now), R] := wd_close hW15 (tk10 (sf9 (sf9 (sf9 (sf9 (sf9 (sf9 (sf3 (sf3 (sf9 (sf9 h64)))))))))))
 exact en (.tuple #[.agg #[iV 0, iV 0, uV 0], iV ((gntE S.D a S.now))]) [rd 0 0 0 0 3 h64] ⟨_, [Wd b S], rfl, ⟨by rw [hp_.1, hp_.2.1], by rw [hp_.2.2]⟩, (tk2 (sf1 (sf4 h66)))⟩

theorem wacq_3n (b : Nat) (S : Wst) (a : Int) (ha : a < 1 ∨ 1048576 < a) (hng : ¬ godP 3 a) : HT Tryz.prog 68 [pV b, iV 3, iV a] [Wd b S] (fun v K => v = .tuple #[.agg #[iV (acqO S 3 a).1, iV (acqO S 3 a).2.1, uV (acqO S 3 a).2.2], iV (acqE S 3 a)] ∧ K = [Wd b (acqS S 3 a)]) := by
 refine hiS Tryz.func68 Tryz.ntmps68 fun g w0 R h0 => ?_
 obtain ⟨f10, p11, d12, s13, l14, hW15, h16⟩ := wd_open h0
 have hW15n := hW15.nl; have hW15m := hW15.nh; have hW15t := hW15.tn
 refine go [] <| nP 72 [iV 0, iV 0, uV 0] h16 (fun r17 _ h19 => ?_)
 have h20 := tk8 (sf7 (sf6 (sf7 (sf7 (sf7 (sf7 (sf7 (sf7 h19))))))))
 refine go [] <| cl1 Tryz.call57 (wvalid_cl b l14 Value.nilIface (.iface 177 (pV f10)) (.iface 180 (pV p11)) (.iface 183 (pV d12)) (pV s13) (iV S.now)) h20 fun _ h22 => go [] ?_
 by_cases c23 : 1 ≤ a
 ·
  refine cl0 Tryz.call135 (god_3n a (by omega)) h22 fun _ h25 => ?_
  have h26 := tk8 (sf7 (sf6 (sf7 (sf7 (sf7 (sf7 (sf7 (sf7 h25))))))))
  refine go [] <| sP [(0, iV 0), (1, iV 0), (2, uV 0)] [iV 0, iV 0, uV 0] h26 fun w27 h28 => go [] ?_
  have hp_ := acq_arg (S := S) (k := 3) (a := a) hng
  have h30 : sat g w27 [Wd b S, Cl r17 [iV 0, iV 0, uV 0] 72, R] := wd_close hW15 (tk8 (sf7 (sf7 (sf7 (sf7 (sf7 (sf7 (sf1 (sf7 h28)))))))))
  exact en (.tuple #[.agg #[iV 0, iV 0, uV 0], iV 2]) [rd 0 0 0 0 3 h28] ⟨_, [Wd b S], rfl, ⟨by rw [hp_.1, hp_.2.1], by rw [hp_.2.2]⟩, (tk2 (sf1 (sf2 h30)))⟩
 refine cl0 Tryz.call135 (god_3n a (by omega)) h22 fun _ h33 => ?_
 have h34 := tk8 (sf7 (sf6 (sf7 (sf7 (sf7 (sf7 (sf7 (sf7 h33))))))))
 refine go [] <| sP [(0, iV 0), (1, iV 0), (2, uV 0)] [iV 0, iV 0, uV 0] h34 fun w35 h36 => go [] ?_
 have hp_ := acq_arg (S := S) (k := 3) (a := a) hng
 have h38 : sat g w35 [Wd b S, Cl r17 [iV 0, iV 0, uV 0] 72, R] := wd_close hW15 (tk8 (sf7 (sf7 (sf7 (sf7 (sf7 (sf7 (sf1 (sf7 h36)))))))))
 exact en (.tuple #[.agg #[iV 0, iV 0, uV 0], iV 2]) [rd 0 0 0 0 3 h36] ⟨_, [Wd b S], rfl, ⟨by rw [hp_.1, hp_.2.1], by rw [hp_.2.2]⟩, (tk2 (sf1 (sf2 h38)))⟩

theorem wacq_0 (b : Nat) (S : Wst) (k a : Int) (hk : k < 1 ∨ 3 < k) (hng : ¬ godP k a) : HT Tryz.prog 68 [pV b, iV k, iV a] [Wd b S] (fun v K => v = .tuple #[.agg #[iV (acqO S k a).1, iV (acqO S k a).2.1, uV (acqO S k a).2.2], iV (acqE S k a)] ∧ K = [Wd b (acqS S k a)]) := by
 refine hiS Tryz.func68 Tryz.ntmps68 fun g w0 R h0 => ?_
 obtain ⟨f10, p11, d12, s13, l14, hW15, h16⟩ := wd_open h0
 have hW15n := hW15.nl; have hW15m := hW15.nh; have hW15t := hW15.tn
 refine go [] <| nP 72 [iV 0, iV 0, uV 0] h16 (fun r17 _ h19 => ?_)
 have h20 := tk8 (sf7 (sf6 (sf7 (sf7 (sf7 (sf7 (sf7 (sf7 h19))))))))
 refine go [] <| cl1 Tryz.call57 (wvalid_cl b l14 Value.nilIface (.iface 177 (pV f10)) (.iface 180 (pV p11)) (.iface 183 (pV d12)) (pV s13) (iV S.now)) h20 fun _ h22 => go [] <| cl0 Tryz.call135 (god_0 k a (by omega)) h22 fun _ h24 => ?_
 have h25 := tk8 (sf7 (sf6 (sf7 (sf7 (sf7 (sf7 (sf7 (sf7 h24))))))))
 refine go [] <| sP [(0, iV 0), (1, iV 0), (2, uV 0)] [iV 0, iV 0, uV 0] h25 fun w26 h27 => go [] ?_
 have hp_ := acq_arg (S := S) (k := k) (a := a) hng
 have h29 : sat g w26 [Wd b S, Cl r17 [iV 0, iV 0, uV 0] 72, R] := wd_close hW15 (tk8 (sf7 (sf7 (sf7 (sf7 (sf7 (sf7 (sf1 (sf7 h27)))))))))
 exact en (.tuple #[.agg #[iV 0, iV 0, uV 0], iV 2]) [rd 0 0 0 0 3 h27] ⟨_, [Wd b S], rfl, ⟨by rw [hp_.1, hp_.2.1], by rw [hp_.2.2]⟩, (tk2 (sf1 (sf2 h29)))⟩

theorem wacq_ht (b : Nat) (S : Wst) (k a : Int) : HT Tryz.prog 68 [pV b, iV k, iV a] [Wd b S] (fun v K => v = Value.tuple #[Value.agg #[Value.int .i64 (acqO S k a).1, Value.int .i64 (acqO S k a).2.1, Value.int .u32 (acqO S k a).2.2], Value.int .i64 (acqE S k a)] ∧ K = [Wd b (acqS S k a)]) := by
  by_cases h1 : k = 1
  · subst h1
    by_cases h : 0 ≤ a ∧ a ≤ 65535
    · exact wacq_1 b S a h
    · exact wacq_1n b S a (by omega) (god_no1 h)
  · by_cases h2 : k = 2
    · subst h2
      by_cases h : 1 ≤ a ∧ a ≤ 65536
      · exact wacq_2 b S a h
      · exact wacq_2n b S a (by omega) (god_no2 h)
    · by_cases h3 : k = 3
      · subst h3
        by_cases h : 1 ≤ a ∧ a ≤ 1048576
        · exact wacq_3 b S a h
        · exact wacq_3n b S a (by omega) (god_no3 h)
      · exact wacq_0 b S k a (by omega) (god_no (by omega))

end Go.Proofs.YtehlamblpekmkaaGreatDoor

/- Walks, printed by my generator P:../out/o13.py. -/
namespace Go.Proofs.YtehlamblpekmkaaGreatDoor
set_option maxHeartbeats 4000000
theorem back_1 (b f p d s l : Nat) (z0 : Int) : HT Tryz.prog 195 [pV b, iV 1] [Cl b [Value.nilIface, .iface 177 (pV f), .iface 180 (pV p), .iface 183 (pV d), pV s, pV l, iV z0] 56] (fun v K => v = .func (Fn.func 244) #[pV f] #[] ∧ K = [Cl b [Value.nilIface, .iface 177 (pV f), .iface 180 (pV p), .iface 183 (pV d), pV s, pV l, iV z0] 56]) := by
 refine hiS Tryz.func195 Tryz.ntmps195 fun g w0 R h0 => go [.s 1 4] <| lwP (.pointer (some ⟨b, 1, none⟩)) (law_indexArr (x := (Operand.tmp 11)) (i := (Operand.tmp 9)) (b := b) (off := 0) (z := 1) (by kernel_rfl) Tryz.underlying52 1 (by kernel_rfl) 1 (by kernel_rfl) (by kernel_rfl) (by omega) (by omega) 1 (by omega) _) <| go [rd 1 5 0 1 1 h0] ?_
 exact en (.func (Fn.func 244) #[pV f] #[]) [] ⟨_, _, rfl, ⟨rfl, rfl⟩, h0⟩

theorem back_2 (b f p d s l : Nat) (z0 : Int) : HT Tryz.prog 195 [pV b, iV 2] [Cl b [Value.nilIface, .iface 177 (pV f), .iface 180 (pV p), .iface 183 (pV d), pV s, pV l, iV z0] 56] (fun v K => v = .func (Fn.func 245) #[pV p] #[] ∧ K = [Cl b [Value.nilIface, .iface 177 (pV f), .iface 180 (pV p), .iface 183 (pV d), pV s, pV l, iV z0] 56]) := by
 refine hiS Tryz.func195 Tryz.ntmps195 fun g w0 R h0 => go [.s 1 4] <| lwP (.pointer (some ⟨b, 2, none⟩)) (law_indexArr (x := (Operand.tmp 11)) (i := (Operand.tmp 9)) (b := b) (off := 0) (z := 2) (by kernel_rfl) Tryz.underlying52 1 (by kernel_rfl) 2 (by kernel_rfl) (by kernel_rfl) (by omega) (by omega) 2 (by omega) _) <| go [rd 1 5 0 2 1 h0] ?_
 exact en (.func (Fn.func 245) #[pV p] #[]) [] ⟨_, _, rfl, ⟨rfl, rfl⟩, h0⟩

theorem back_3 (b f p d s l : Nat) (z0 : Int) : HT Tryz.prog 195 [pV b, iV 3] [Cl b [Value.nilIface, .iface 177 (pV f), .iface 180 (pV p), .iface 183 (pV d), pV s, pV l, iV z0] 56] (fun v K => v = .func (Fn.func 246) #[pV d] #[] ∧ K = [Cl b [Value.nilIface, .iface 177 (pV f), .iface 180 (pV p), .iface 183 (pV d), pV s, pV l, iV z0] 56]) := by
 refine hiS Tryz.func195 Tryz.ntmps195 fun g w0 R h0 => go [.s 1 4] <| lwP (.pointer (some ⟨b, 3, none⟩)) (law_indexArr (x := (Operand.tmp 11)) (i := (Operand.tmp 9)) (b := b) (off := 0) (z := 3) (by kernel_rfl) Tryz.underlying52 1 (by kernel_rfl) 3 (by kernel_rfl) (by kernel_rfl) (by omega) (by omega) 3 (by omega) _) <| go [rd 1 5 0 3 1 h0] ?_
 exact en (.func (Fn.func 246) #[pV d] #[]) [] ⟨_, _, rfl, ⟨rfl, rfl⟩, h0⟩

theorem wrel_no (b : Nat) (S : Wst) (x y z wy : Int) (hz0 : 0 ≤ z) (hz1 : z ≤ 4294967295) (hg : ¬ (1 ≤ x ∧ x ≤ 3 ∧ 0 ≤ y ∧ y ≤ 63 ∧ 1 ≤ z)) : HT Tryz.prog 119 [pV b, .agg #[iV x, iV y, uV z], iV wy] [Wd b S] (fun v K => v = .tuple #[iV (relA S (x, y, z) wy), iV (relE S (x, y, z) wy)] ∧ K = [Wd b (relS S (x, y, z) wy)]) := by
 refine hiS Tryz.func119 Tryz.ntmps119 fun g w0 R h0 => ?_
 obtain ⟨f10, p11, d12, s13, l14, hW15, h16⟩ := wd_open h0
 have hW15n := hW15.nl; have hW15m := hW15.nh; have hW15t := hW15.tn
 refine go [] <| nP 72 [iV x, iV y, uV z] h16 (fun r17 _ h19 => ?_)
 have h20 := tk8 (sf7 (sf6 (sf7 (sf7 (sf7 (sf7 (sf7 (sf7 h19))))))))
 refine go [] <| cl1 Tryz.call57 (wvalid_cl b l14 Value.nilIface (.iface 177 (pV f10)) (.iface 180 (pV p11)) (.iface 183 (pV d12)) (pV s13) (iV S.now)) h20 fun _ h22 => go [rd 3 0 1 0 3 h22] ?_
 by_cases c23 : 1 ≤ x
 ·
  by_cases c24 : x ≤ 3
  ·
   by_cases c25 : 0 ≤ y
   ·
    by_cases c26 : y ≤ 63
    ·
     refine cl0 Tryz.call192 (couter_no x y z (by omega) (by omega) (by omega)) h22 fun w27 h28 => go [] ?_
     have hp_ := rel_arg (S := S) (o := (x, y, z)) (wy := wy) (.inl hg)
     have h30 : sat g w27 [Wd b S, Cl r17 [iV x, iV y, uV z] 72, R] := wd_close hW15 (tk8 (sf7 (sf7 (sf7 (sf7 (sf7 (sf7 (sf2 (sf7 h28)))))))))
     exact en (.tuple #[iV 0, iV 2]) [] ⟨_, [Wd b S], rfl, ⟨by rw [hp_.1, hp_.2.1], by rw [hp_.2.2]⟩, (tk2 (sf1 (sf2 h30)))⟩
    refine cl0 Tryz.call192 (couter_no x y z (by omega) (by omega) (by omega)) h22 fun w32 h33 => go [] ?_
    have hp_ := rel_arg (S := S) (o := (x, y, z)) (wy := wy) (.inl hg)
    have h35 : sat g w32 [Wd b S, Cl r17 [iV x, iV y, uV z] 72, R] := wd_close hW15 (tk8 (sf7 (sf7 (sf7 (sf7 (sf7 (sf7 (sf2 (sf7 h33)))))))))
    exact en (.tuple #[iV 0, iV 2]) [] ⟨_, [Wd b S], rfl, ⟨by rw [hp_.1, hp_.2.1], by rw [hp_.2.2]⟩, (tk2 (sf1 (sf2 h35)))⟩
   refine cl0 Tryz.call192 (couter_no x y z (by omega) (by omega) (by omega)) h22 fun w37 h38 => go [] ?_
   have hp_ := rel_arg (S := S) (o := (x, y, z)) (wy := wy) (.inl hg)
   have h40 : sat g w37 [Wd b S, Cl r17 [iV x, iV y, uV z] 72, R] := wd_close hW15 (tk8 (sf7 (sf7 (sf7 (sf7 (sf7 (sf7 (sf2 (sf7 h38)))))))))
   exact en (.tuple #[iV 0, iV 2]) [] ⟨_, [Wd b S], rfl, ⟨by rw [hp_.1, hp_.2.1], by rw [hp_.2.2]⟩, (tk2 (sf1 (sf2 h40)))⟩
  refine cl0 Tryz.call192 (couter_no x y z (by omega) (by omega) (by omega)) h22 fun w42 h43 => go [] ?_
  have hp_ := rel_arg (S := S) (o := (x, y, z)) (wy := wy) (.inl hg)
  have h45 : sat g w42 [Wd b S, Cl r17 [iV x, iV y, uV z] 72, R] := wd_close hW15 (tk8 (sf7 (sf7 (sf7 (sf7 (sf7 (sf7 (sf2 (sf7 h43)))))))))
  exact en (.tuple #[iV 0, iV 2]) [] ⟨_, [Wd b S], rfl, ⟨by rw [hp_.1, hp_.2.1], by rw [hp_.2.2]⟩, (tk2 (sf1 (sf2 h45)))⟩
 refine cl0 Tryz.call192 (couter_no x y z (by omega) (by omega) (by omega)) h22 fun w47 h48 => go [] ?_
 have hp_ := rel_arg (S := S) (o := (x, y, z)) (wy := wy) (.inl hg)
 have h50 : sat g w47 [Wd b S, Cl r17 [iV x, iV y, uV z] 72, R] := wd_close hW15 (tk8 (sf7 (sf7 (sf7 (sf7 (sf7 (sf7 (sf2 (sf7 h48)))))))))
 exact en (.tuple #[iV 0, iV 2]) [] ⟨_, [Wd b S], rfl, ⟨by rw [hp_.1, hp_.2.1], by rw [hp_.2.2]⟩, (tk2 (sf1 (sf2 h50)))⟩

theorem wrel_wy (b : Nat) (S : Wst) (x y z : Int) (hz0 : 0 ≤ z) (hz1 : z ≤ 4294967295) (hg : KGood (x, y, z)) (hy0 : 0 ≤ y) (hy1 : y ≤ 63) (hz : 1 ≤ z) (hx : 1 ≤ x ∧ x ≤ 3) (wy : Int) (hwy : wy < 1 ∨ 3 < wy) : HT Tryz.prog 119 [pV b, .agg #[iV x, iV y, uV z], iV wy] [Wd b S] (fun v K => v = .tuple #[iV (relA S (x, y, z) wy), iV (relE S (x, y, z) wy)] ∧ K = [Wd b (relS S (x, y, z) wy)]) := by
 refine hiS Tryz.func119 Tryz.ntmps119 fun g w0 R h0 => ?_
 obtain ⟨f10, p11, d12, s13, l14, hW15, h16⟩ := wd_open h0
 have hW15n := hW15.nl; have hW15m := hW15.nh; have hW15t := hW15.tn
 refine go [] <| nP 72 [iV x, iV y, uV z] h16 (fun r17 _ h19 => ?_)
 have h20 := tk8 (sf7 (sf6 (sf7 (sf7 (sf7 (sf7 (sf7 (sf7 h19))))))))
 refine go [] <| cl1 Tryz.call57 (wvalid_cl b l14 Value.nilIface (.iface 177 (pV f10)) (.iface 180 (pV p11)) (.iface 183 (pV d12)) (pV s13) (iV S.now)) h20 fun _ h22 => go [rd 3 0 1 0 3 h22] <| cl0 Tryz.call192 (couter_ok x y z (by omega) (by omega) (by omega)) h22 fun w23 h24 => go [.s 3 5] ?_
 by_cases c25 : wy < 1
 ·
  refine go [.v 3 5 (oT (wy < 1))] ?_
  have hp_ := rel_arg (S := S) (o := (x, y, z)) (wy := wy) (.inr hwy)
  have h27 : sat g w23 [Wd b S, Cl r17 [iV x, iV y, uV z] 72, R] := wd_close hW15 (tk8 (sf7 (sf7 (sf7 (sf7 (sf7 (sf7 (sf2 (sf7 h24)))))))))
  exact en (.tuple #[iV 0, iV 2]) [] ⟨_, [Wd b S], rfl, ⟨by rw [hp_.1, hp_.2.1], by rw [hp_.2.2]⟩, (tk2 (sf1 (sf2 h27)))⟩
 refine go [.v 3 5 (oF (wy < 1)), .v 3 9 (oT (wy > 3))] ?_
 have hp_ := rel_arg (S := S) (o := (x, y, z)) (wy := wy) (.inr hwy)
 have h30 : sat g w23 [Wd b S, Cl r17 [iV x, iV y, uV z] 72, R] := wd_close hW15 (tk8 (sf7 (sf7 (sf7 (sf7 (sf7 (sf7 (sf2 (sf7 h24)))))))))
 exact en (.tuple #[iV 0, iV 2]) [] ⟨_, [Wd b S], rfl, ⟨by rw [hp_.1, hp_.2.1], by rw [hp_.2.2]⟩, (tk2 (sf1 (sf2 h30)))⟩

theorem wrel_none (b : Nat) (S : Wst) (x y z : Int) (hz0 : 0 ≤ z) (hz1 : z ≤ 4294967295) (hg : KGood (x, y, z)) (hy0 : 0 ≤ y) (hy1 : y ≤ 63) (hz : 1 ≤ z) (hx : 1 ≤ x ∧ x ≤ 3) (hT : ¬ Thr S (x, y, z)) (wy : Int) (hwy : 1 ≤ wy ∧ wy ≤ 3) : HT Tryz.prog 119 [pV b, .agg #[iV x, iV y, uV z], iV wy] [Wd b S] (fun v K => v = .tuple #[iV (relA S (x, y, z) wy), iV (relE S (x, y, z) wy)] ∧ K = [Wd b (relS S (x, y, z) wy)]) := by
 refine hiS Tryz.func119 Tryz.ntmps119 fun g w0 R h0 => ?_
 obtain ⟨f10, p11, d12, s13, l14, hW15, h16⟩ := wd_open h0
 have hW15n := hW15.nl; have hW15m := hW15.nh; have hW15t := hW15.tn
 refine go [] <| nP 72 [iV x, iV y, uV z] h16 (fun r17 _ h19 => ?_)
 have h20 := tk8 (sf7 (sf6 (sf7 (sf7 (sf7 (sf7 (sf7 (sf7 h19))))))))
 refine go [] <| cl1 Tryz.call57 (wvalid_cl b l14 Value.nilIface (.iface 177 (pV f10)) (.iface 180 (pV p11)) (.iface 183 (pV d12)) (pV s13) (iV S.now)) h20 fun _ h22 => go [rd 3 0 1 0 3 h22] <| cl0 Tryz.call192 (couter_ok x y z (by omega) (by omega) (by omega)) h22 fun _ h24 => ?_
 have h25 := tk8 (sf7 (sf7 (sf7 (sf7 (sf7 (sf7 (sf2 (sf7 h24))))))))
 refine go [.v 3 5 (oF (wy < 1)), .v 3 9 (oF (wy > 3)), rd 5 1 1 0 3 h24] <| cl6 Tryz.call193 ((by have h_ := has_ht b f10 p11 d12 s13 l14 S hW15 x y z (by omega) (by omega); rw [decide_eq_false hT] at h_; exact h_)) h25 fun w26 h27 => ?_
 refine go [] ?_
 have hp_ := rel_none (S := S) (o := (x, y, z)) hg hwy hT
 have h28 : sat g w26 [Wd b S, Cl r17 [iV x, iV y, uV z] 72, R] := wd_close hW15 h27
 exact en (.tuple #[iV 0, iV 5]) [] ⟨_, [Wd b S], rfl, ⟨by rw [hp_.1, hp_.2.1], by rw [hp_.2.2]⟩, (tk2 (sf1 (sf2 h28)))⟩

theorem wrel_full (b : Nat) (S : Wst) (x y z : Int) (hz0 : 0 ≤ z) (hz1 : z ≤ 4294967295) (hg : KGood (x, y, z)) (hy0 : 0 ≤ y) (hy1 : y ≤ 63) (hz : 1 ≤ z) (hx : 1 ≤ x ∧ x ≤ 3) (hT : Thr S (x, y, z)) (wy : Int) (hwy : 1 ≤ wy ∧ wy ≤ 3) (hn : 10000 ≤ S.T.length) : HT Tryz.prog 119 [pV b, .agg #[iV x, iV y, uV z], iV wy] [Wd b S] (fun v K => v = .tuple #[iV (relA S (x, y, z) wy), iV (relE S (x, y, z) wy)] ∧ K = [Wd b (relS S (x, y, z) wy)]) := by
 refine hiS Tryz.func119 Tryz.ntmps119 fun g w0 R h0 => ?_
 obtain ⟨f10, p11, d12, s13, l14, hW15, h16⟩ := wd_open h0
 have hW15n := hW15.nl; have hW15m := hW15.nh; have hW15t := hW15.tn
 refine go [] <| nP 72 [iV x, iV y, uV z] h16 (fun r17 _ h19 => ?_)
 have h20 := tk8 (sf7 (sf6 (sf7 (sf7 (sf7 (sf7 (sf7 (sf7 h19))))))))
 refine go [] <| cl1 Tryz.call57 (wvalid_cl b l14 Value.nilIface (.iface 177 (pV f10)) (.iface 180 (pV p11)) (.iface 183 (pV d12)) (pV s13) (iV S.now)) h20 fun _ h22 => go [rd 3 0 1 0 3 h22] <| cl0 Tryz.call192 (couter_ok x y z (by omega) (by omega) (by omega)) h22 fun _ h24 => ?_
 have h25 := tk8 (sf7 (sf7 (sf7 (sf7 (sf7 (sf7 (sf2 (sf7 h24))))))))
 refine go [.v 3 5 (oF (wy < 1)), .v 3 9 (oF (wy > 3)), rd 5 1 1 0 3 h24] <| cl6 Tryz.call193 ((by have h_ := has_ht b f10 p11 d12 s13 l14 S hW15 x y z (by omega) (by omega); rw [decide_eq_true hT] at h_; exact h_)) h25 fun _ h27 => ?_
 have h28 := tk8 (sf7 (sf6 (sf6 (sf6 (sf6 (sf6 (sf7 (sf7 h27))))))))
 refine go [rd 7 3 0 5 1 h27] <| cl1 Tryz.call23 (lglen_ht l14 S.T) h28 fun w29 h30 => go [.v 7 5 (oT (((S.T.length : Nat) : Int) ≥ 10000))] ?_
 have hp_ := rel_full (S := S) (o := (x, y, z)) hwy hT hn
 have h32 : sat g w29 [Wd b S, Cl r17 [iV x, iV y, uV z] 72, R] := wd_close hW15 (tk8 (sf7 (sf7 (sf7 (sf7 (sf7 (sf2 (sf7 (sf7 h30)))))))))
 exact en (.tuple #[iV 0, iV 4]) [] ⟨_, [Wd b S], rfl, ⟨by rw [hp_.1, hp_.2.1], by rw [hp_.2.2]⟩, (tk2 (sf1 (sf2 h32)))⟩

theorem wrel_1 (b : Nat) (S : Wst) (y z : Int) (hz0 : 0 ≤ z) (hz1 : z ≤ 4294967295) (hg : KGood (1, y, z)) (hy0 : 0 ≤ y) (hy1 : y ≤ 63) (hz : 1 ≤ z) (hT : Thr S (1, y, z)) (wy : Int) (hwy : 1 ≤ wy ∧ wy ≤ 3) (hn : S.T.length < 10000) : HT Tryz.prog 119 [pV b, .agg #[iV 1, iV y, uV z], iV wy] [Wd b S] (fun v K => v = .tuple #[iV (relA S (1, y, z) wy), iV (relE S (1, y, z) wy)] ∧ K = [Wd b (relS S (1, y, z) wy)]) := by
 refine hiS Tryz.func119 Tryz.ntmps119 fun g w0 R h0 => ?_
 obtain ⟨f10, p11, d12, s13, l14, hW15, h16⟩ := wd_open h0
 have hW15n := hW15.nl; have hW15m := hW15.nh; have hW15t := hW15.tn
 refine go [] <| nP 72 [iV 1, iV y, uV z] h16 (fun r17 _ h19 => ?_)
 have h20 := tk8 (sf7 (sf6 (sf7 (sf7 (sf7 (sf7 (sf7 (sf7 h19))))))))
 refine go [] <| cl1 Tryz.call57 (wvalid_cl b l14 Value.nilIface (.iface 177 (pV f10)) (.iface 180 (pV p11)) (.iface 183 (pV d12)) (pV s13) (iV S.now)) h20 fun _ h22 => go [rd 3 0 1 0 3 h22] <| cl0 Tryz.call192 (couter_ok 1 y z (by omega) (by omega) (by omega)) h22 fun _ h24 => ?_
 have h25 := tk8 (sf7 (sf7 (sf7 (sf7 (sf7 (sf7 (sf2 (sf7 h24))))))))
 refine go [.v 3 5 (oF (wy < 1)), .v 3 9 (oF (wy > 3)), rd 5 1 1 0 3 h24] <| cl6 Tryz.call193 ((by have h_ := has_ht b f10 p11 d12 s13 l14 S hW15 1 y z (by omega) (by omega); rw [decide_eq_true hT] at h_; exact h_)) h25 fun _ h27 => ?_
 have h28 := tk8 (sf7 (sf6 (sf6 (sf6 (sf6 (sf6 (sf7 (sf7 h27))))))))
 refine go [rd 7 3 0 5 1 h27] <| cl1 Tryz.call23 (lglen_ht l14 S.T) h28 fun _ h30 => ?_
 have h31 := tk8 (sf7 (sf6 (sf6 (sf6 (sf6 (sf6 (sf7 (sf7 h30))))))))
 refine go [.v 7 5 (oF (((S.T.length : Nat) : Int) ≥ 10000)), rd 9 3 1 4 1 h30] <| cl1 Tryz.call137 (next_ht s13 S.q) h31 fun _ h33 => go [] <| dw (fls [0, 1, 2, 3, 4, 5, 6, 7, 8, 9, 10, 11] (Tr.an 12 Tr.nil)) h33 fun _ h35 => ?_
 have h36 := tk8 (sf7 (sf6 (sf7 (sf7 (sf7 (sf7 (sf7 (sf7 h35))))))))
 refine go [rd 10 3 2 5 1 h35, rd 10 7 2 6 1 h35, rd 10 8 6 0 3 h35] <| cw1 Tryz.call194 (lgadd_ht l14 S.T S.now 1 y z wy ((S.q.headD 1)) (by omega) (by omega) (rel_attP hW15 hg hwy) hW15.ta (by omega)) h36 fun w37 h38 => ⟨kd [], ?_⟩
 refine go [.s 11 1] ?_
 by_cases c39 : (S.q.headD 1) = 1
 ·
  refine go [.v 11 1 (qeT ((S.q.headD 1)) 1)] <| dw (fls [0, 1, 2, 4] (Tr.an 3 (Tr.an 5 Tr.nil))) h38 fun _ h41 => ?_
  have h42 := tk8 (sf7 (sf6 (sf6 (sf7 (sf7 (sf7 (sf7 (sf7 h41))))))))
  refine go [rd 12 2 6 0 1 h41, rd 12 4 6 0 3 h41] <| cw1 Tryz.call195 (back_1 b f10 p11 d12 s13 l14 S.now) h42 fun _ h44 => ⟨kd [rd 0 4 6 0 3 h44], ?_⟩
  refine cw1 Tryz.call244 ((by have h_ := fclose_ht f10 64 S.F 1 y z (by omega) (by omega); rw [show clsX S.F (1, y, z) = giv S.F (1, y, z) from cls_giv hT] at h_; exact h_)) (tk8 (sf7 (sf6 (sf6 (sf6 (sf7 (sf7 (sf7 (sf7 h44))))))))) fun w46 h47 => ⟨kd [], ?_⟩
  refine go [] ?_
  have hp_ := rel_ok (S := S) (o := (1, y, z)) hwy hT hn
  have hp2_ : relS S (1, y, z) wy = ({ S with q := S.q.tail, T := S.T ++ [⟨S.now, (1, y, z), wy, S.q.headD 1⟩], F := giv S.F (1, y, z) } : Wst) := hp_.2.2.trans (if_pos (by omega))
  have h48 := tk8 (sf7 (sf6 (sf7 (sf7 (sf5 (sf4 (sf7 (sf7 h47))))))))
  have h49 : sat g w46 [Wd b ({ S with q := S.q.tail, T := S.T ++ [⟨S.now, (1, y, z), wy, S.q.headD 1⟩], F := giv S.F (1, y, z) } : Wst), Cl r17 [iV 1, iV y, uV z] 72, R] := wd_close (hp2_ ▸ wok_rel hW15 (1, y, z) wy) h48
  exact en (.tuple #[iV ((S.q.headD 1)), iV 0]) [] ⟨_, [Wd b ({ S with q := S.q.tail, T := S.T ++ [⟨S.now, (1, y, z), wy, S.q.headD 1⟩], F := giv S.F (1, y, z) } : Wst)], rfl, ⟨by rw [hp_.1, hp_.2.1], by rw [hp2_]⟩, (tk2 (sf1 (sf2 h49)))⟩
 refine go [.v 11 1 (qeF ((S.q.headD 1)) 1)] ?_
 have hp_ := rel_ok (S := S) (o := (1, y, z)) hwy hT hn
 have hp2_ : relS S (1, y, z) wy = ({ S with q := S.q.tail, T := S.T ++ [⟨S.now, (1, y, z), wy, S.q.headD 1⟩] } : Wst) := hp_.2.2.trans (if_neg (by omega))
 have h51 := tk8 (sf7 (sf7 (sf7 (sf7 (sf3 (sf2 (sf7 (sf7 h38))))))))
 have h52 : sat g w37 [Wd b ({ S with q := S.q.tail, T := S.T ++ [⟨S.now, (1, y, z), wy, S.q.headD 1⟩] } : Wst), Cl r17 [iV 1, iV y, uV z] 72, R] := wd_close (hp2_ ▸ wok_rel hW15 (1, y, z) wy) h51
 exact en (.tuple #[iV ((S.q.headD 1)), iV 0]) [] ⟨_, [Wd b ({ S with q := S.q.tail, T := S.T ++ [⟨S.now, (1, y, z), wy, S.q.headD 1⟩] } : Wst)], rfl, ⟨by rw [hp_.1, hp_.2.1], by rw [hp2_]⟩, (tk2 (sf1 (sf2 h52)))⟩

theorem wrel_2 (b : Nat) (S : Wst) (y z : Int) (hz0 : 0 ≤ z) (hz1 : z ≤ 4294967295) (hg : KGood (2, y, z)) (hy0 : 0 ≤ y) (hy1 : y ≤ 63) (hz : 1 ≤ z) (hT : Thr S (2, y, z)) (wy : Int) (hwy : 1 ≤ wy ∧ wy ≤ 3) (hn : S.T.length < 10000) : HT Tryz.prog 119 [pV b, .agg #[iV 2, iV y, uV z], iV wy] [Wd b S] (fun v K => v = .tuple #[iV (relA S (2, y, z) wy), iV (relE S (2, y, z) wy)] ∧ K = [Wd b (relS S (2, y, z) wy)]) := by
 refine hiS Tryz.func119 Tryz.ntmps119 fun g w0 R h0 => ?_
 obtain ⟨f10, p11, d12, s13, l14, hW15, h16⟩ := wd_open h0
 have hW15n := hW15.nl; have hW15m := hW15.nh; have hW15t := hW15.tn
 refine go [] <| nP 72 [iV 2, iV y, uV z] h16 (fun r17 _ h19 => ?_)
 have h20 := tk8 (sf7 (sf6 (sf7 (sf7 (sf7 (sf7 (sf7 (sf7 h19))))))))
 refine go [] <| cl1 Tryz.call57 (wvalid_cl b l14 Value.nilIface (.iface 177 (pV f10)) (.iface 180 (pV p11)) (.iface 183 (pV d12)) (pV s13) (iV S.now)) h20 fun _ h22 => go [rd 3 0 1 0 3 h22] <| cl0 Tryz.call192 (couter_ok 2 y z (by omega) (by omega) (by omega)) h22 fun _ h24 => ?_
 have h25 := tk8 (sf7 (sf7 (sf7 (sf7 (sf7 (sf7 (sf2 (sf7 h24))))))))
 refine go [.v 3 5 (oF (wy < 1)), .v 3 9 (oF (wy > 3)), rd 5 1 1 0 3 h24] <| cl6 Tryz.call193 ((by have h_ := has_ht b f10 p11 d12 s13 l14 S hW15 2 y z (by omega) (by omega); rw [decide_eq_true hT] at h_; exact h_)) h25 fun _ h27 => ?_
 have h28 := tk8 (sf7 (sf6 (sf6 (sf6 (sf6 (sf6 (sf7 (sf7 h27))))))))
 refine go [rd 7 3 0 5 1 h27] <| cl1 Tryz.call23 (lglen_ht l14 S.T) h28 fun _ h30 => ?_
 have h31 := tk8 (sf7 (sf6 (sf6 (sf6 (sf6 (sf6 (sf7 (sf7 h30))))))))
 refine go [.v 7 5 (oF (((S.T.length : Nat) : Int) ≥ 10000)), rd 9 3 1 4 1 h30] <| cl1 Tryz.call137 (next_ht s13 S.q) h31 fun _ h33 => go [] <| dw (fls [0, 1, 2, 3, 4, 5, 6, 7, 8, 9, 10, 11] (Tr.an 12 Tr.nil)) h33 fun _ h35 => ?_
 have h36 := tk8 (sf7 (sf6 (sf7 (sf7 (sf7 (sf7 (sf7 (sf7 h35))))))))
 refine go [rd 10 3 2 5 1 h35, rd 10 7 2 6 1 h35, rd 10 8 6 0 3 h35] <| cw1 Tryz.call194 (lgadd_ht l14 S.T S.now 2 y z wy ((S.q.headD 1)) (by omega) (by omega) (rel_attP hW15 hg hwy) hW15.ta (by omega)) h36 fun w37 h38 => ⟨kd [], ?_⟩
 refine go [.s 11 1] ?_
 by_cases c39 : (S.q.headD 1) = 1
 ·
  refine go [.v 11 1 (qeT ((S.q.headD 1)) 1)] <| dw (fls [0, 1, 2, 4] (Tr.an 3 (Tr.an 5 Tr.nil))) h38 fun _ h41 => ?_
  have h42 := tk8 (sf7 (sf6 (sf6 (sf7 (sf7 (sf7 (sf7 (sf7 h41))))))))
  refine go [rd 12 2 6 0 1 h41, rd 12 4 6 0 3 h41] <| cw1 Tryz.call195 (back_2 b f10 p11 d12 s13 l14 S.now) h42 fun _ h44 => ⟨kd [rd 0 4 6 0 3 h44], ?_⟩
  refine cw1 Tryz.call245 (punpin_ht p11 S.B y z y.toNat (thr_at hT) (thr_nat hg)) (tk8 (sf7 (sf6 (sf6 (sf6 (sf6 (sf7 (sf7 (sf7 h44))))))))) fun w46 h47 => ⟨kd [], ?_⟩
  refine go [] ?_
  have hp_ := rel_ok (S := S) (o := (2, y, z)) hwy hT hn
  have hp2_ : relS S (2, y, z) wy = ({ S with q := S.q.tail, T := S.T ++ [⟨S.now, (2, y, z), wy, S.q.headD 1⟩], B := giv S.B (2, y, z) } : Wst) := hp_.2.2.trans (if_pos (by omega))
  have h48 := tk8 (sf7 (sf7 (sf5 (sf7 (sf5 (sf4 (sf7 (sf7 h47))))))))
  have h49 : sat g w46 [Wd b ({ S with q := S.q.tail, T := S.T ++ [⟨S.now, (2, y, z), wy, S.q.headD 1⟩], B := giv S.B (2, y, z) } : Wst), Cl r17 [iV 2, iV y, uV z] 72, R] := wd_close (hp2_ ▸ wok_rel hW15 (2, y, z) wy) h48
  exact en (.tuple #[iV ((S.q.headD 1)), iV 0]) [] ⟨_, [Wd b ({ S with q := S.q.tail, T := S.T ++ [⟨S.now, (2, y, z), wy, S.q.headD 1⟩], B := giv S.B (2, y, z) } : Wst)], rfl, ⟨by rw [hp_.1, hp_.2.1], by rw [hp2_]⟩, (tk2 (sf1 (sf2 h49)))⟩
 refine go [.v 11 1 (qeF ((S.q.headD 1)) 1)] ?_
 have hp_ := rel_ok (S := S) (o := (2, y, z)) hwy hT hn
 have hp2_ : relS S (2, y, z) wy = ({ S with q := S.q.tail, T := S.T ++ [⟨S.now, (2, y, z), wy, S.q.headD 1⟩] } : Wst) := hp_.2.2.trans (if_neg (by omega))
 have h51 := tk8 (sf7 (sf7 (sf7 (sf7 (sf3 (sf2 (sf7 (sf7 h38))))))))
 have h52 : sat g w37 [Wd b ({ S with q := S.q.tail, T := S.T ++ [⟨S.now, (2, y, z), wy, S.q.headD 1⟩] } : Wst), Cl r17 [iV 2, iV y, uV z] 72, R] := wd_close (hp2_ ▸ wok_rel hW15 (2, y, z) wy) h51
 exact en (.tuple #[iV ((S.q.headD 1)), iV 0]) [] ⟨_, [Wd b ({ S with q := S.q.tail, T := S.T ++ [⟨S.now, (2, y, z), wy, S.q.headD 1⟩] } : Wst)], rfl, ⟨by rw [hp_.1, hp_.2.1], by rw [hp2_]⟩, (tk2 (sf1 (sf2 h52)))⟩

theorem wrel_3 (b : Nat) (S : Wst) (y z : Int) (hz0 : 0 ≤ z) (hz1 : z ≤ 4294967295) (hg : KGood (3, y, z)) (hy0 : 0 ≤ y) (hy1 : y ≤ 63) (hz : 1 ≤ z) (hT : Thr S (3, y, z)) (wy : Int) (hwy : 1 ≤ wy ∧ wy ≤ 3) (hn : S.T.length < 10000) : HT Tryz.prog 119 [pV b, .agg #[iV 3, iV y, uV z], iV wy] [Wd b S] (fun v K => v = .tuple #[iV (relA S (3, y, z) wy), iV (relE S (3, y, z) wy)] ∧ K = [Wd b (relS S (3, y, z) wy)]) := by
 refine hiS Tryz.func119 Tryz.ntmps119 fun g w0 R h0 => ?_
 obtain ⟨f10, p11, d12, s13, l14, hW15, h16⟩ := wd_open h0
 have hW15n := hW15.nl; have hW15m := hW15.nh; have hW15t := hW15.tn
 refine go [] <| nP 72 [iV 3, iV y, uV z] h16 (fun r17 _ h19 => ?_)
 have h20 := tk8 (sf7 (sf6 (sf7 (sf7 (sf7 (sf7 (sf7 (sf7 h19))))))))
 refine go [] <| cl1 Tryz.call57 (wvalid_cl b l14 Value.nilIface (.iface 177 (pV f10)) (.iface 180 (pV p11)) (.iface 183 (pV d12)) (pV s13) (iV S.now)) h20 fun _ h22 => go [rd 3 0 1 0 3 h22] <| cl0 Tryz.call192 (couter_ok 3 y z (by omega) (by omega) (by omega)) h22 fun _ h24 => ?_
 have h25 := tk8 (sf7 (sf7 (sf7 (sf7 (sf7 (sf7 (sf2 (sf7 h24))))))))
 refine go [.v 3 5 (oF (wy < 1)), .v 3 9 (oF (wy > 3)), rd 5 1 1 0 3 h24] <| cl6 Tryz.call193 ((by have h_ := has_ht b f10 p11 d12 s13 l14 S hW15 3 y z (by omega) (by omega); rw [decide_eq_true hT] at h_; exact h_)) h25 fun _ h27 => ?_
 have h28 := tk8 (sf7 (sf6 (sf6 (sf6 (sf6 (sf6 (sf7 (sf7 h27))))))))
 refine go [rd 7 3 0 5 1 h27] <| cl1 Tryz.call23 (lglen_ht l14 S.T) h28 fun _ h30 => ?_
 have h31 := tk8 (sf7 (sf6 (sf6 (sf6 (sf6 (sf6 (sf7 (sf7 h30))))))))
 refine go [.v 7 5 (oF (((S.T.length : Nat) : Int) ≥ 10000)), rd 9 3 1 4 1 h30] <| cl1 Tryz.call137 (next_ht s13 S.q) h31 fun _ h33 => go [] <| dw (fls [0, 1, 2, 3, 4, 5, 6, 7, 8, 9, 10, 11] (Tr.an 12 Tr.nil)) h33 fun _ h35 => ?_
 have h36 := tk8 (sf7 (sf6 (sf7 (sf7 (sf7 (sf7 (sf7 (sf7 h35))))))))
 refine go [rd 10 3 2 5 1 h35, rd 10 7 2 6 1 h35, rd 10 8 6 0 3 h35] <| cw1 Tryz.call194 (lgadd_ht l14 S.T S.now 3 y z wy ((S.q.headD 1)) (by omega) (by omega) (rel_attP hW15 hg hwy) hW15.ta (by omega)) h36 fun w37 h38 => ⟨kd [], ?_⟩
 refine go [.s 11 1] ?_
 by_cases c39 : (S.q.headD 1) = 1
 ·
  refine go [.v 11 1 (qeT ((S.q.headD 1)) 1)] <| dw (fls [0, 1, 2, 4] (Tr.an 3 (Tr.an 5 Tr.nil))) h38 fun _ h41 => ?_
  have h42 := tk8 (sf7 (sf6 (sf6 (sf7 (sf7 (sf7 (sf7 (sf7 h41))))))))
  refine go [rd 12 2 6 0 1 h41, rd 12 4 6 0 3 h41] <| cw1 Tryz.call195 (back_3 b f10 p11 d12 s13 l14 S.now) h42 fun _ h44 => ⟨kd [rd 0 4 6 0 3 h44], ?_⟩
  refine cw1 Tryz.call246 (dreturn_ht d12 S.D y z y.toNat (thr_at hT) (thr_nat hg) (by omega)) (tk8 (sf7 (sf6 (sf6 (sf6 (sf6 (sf6 (sf7 (sf7 h44))))))))) fun w46 h47 => ⟨kd [], ?_⟩
  refine go [] ?_
  have hp_ := rel_ok (S := S) (o := (3, y, z)) hwy hT hn
  have hp2_ : relS S (3, y, z) wy = ({ S with q := S.q.tail, T := S.T ++ [⟨S.now, (3, y, z), wy, S.q.headD 1⟩], D := giv S.D (3, y, z) } : Wst) := hp_.2.2.trans (if_pos (by omega))
  have h48 := tk8 (sf7 (sf7 (sf7 (sf4 (sf5 (sf4 (sf7 (sf7 h47))))))))
  have h49 : sat g w46 [Wd b ({ S with q := S.q.tail, T := S.T ++ [⟨S.now, (3, y, z), wy, S.q.headD 1⟩], D := giv S.D (3, y, z) } : Wst), Cl r17 [iV 3, iV y, uV z] 72, R] := wd_close (hp2_ ▸ wok_rel hW15 (3, y, z) wy) h48
  exact en (.tuple #[iV ((S.q.headD 1)), iV 0]) [] ⟨_, [Wd b ({ S with q := S.q.tail, T := S.T ++ [⟨S.now, (3, y, z), wy, S.q.headD 1⟩], D := giv S.D (3, y, z) } : Wst)], rfl, ⟨by rw [hp_.1, hp_.2.1], by rw [hp2_]⟩, (tk2 (sf1 (sf2 h49)))⟩
 refine go [.v 11 1 (qeF ((S.q.headD 1)) 1)] ?_
 have hp_ := rel_ok (S := S) (o := (3, y, z)) hwy hT hn
 have hp2_ : relS S (3, y, z) wy = ({ S with q := S.q.tail, T := S.T ++ [⟨S.now, (3, y, z), wy, S.q.headD 1⟩] } : Wst) := hp_.2.2.trans (if_neg (by omega))
 have h51 := tk8 (sf7 (sf7 (sf7 (sf7 (sf3 (sf2 (sf7 (sf7 h38))))))))
 have h52 : sat g w37 [Wd b ({ S with q := S.q.tail, T := S.T ++ [⟨S.now, (3, y, z), wy, S.q.headD 1⟩] } : Wst), Cl r17 [iV 3, iV y, uV z] 72, R] := wd_close (hp2_ ▸ wok_rel hW15 (3, y, z) wy) h51
 exact en (.tuple #[iV ((S.q.headD 1)), iV 0]) [] ⟨_, [Wd b ({ S with q := S.q.tail, T := S.T ++ [⟨S.now, (3, y, z), wy, S.q.headD 1⟩] } : Wst)], rfl, ⟨by rw [hp_.1, hp_.2.1], by rw [hp2_]⟩, (tk2 (sf1 (sf2 h52)))⟩

theorem wrel_ht (b : Nat) (S : Wst) (x y z wy : Int) (hz0 : 0 ≤ z) (hz1 : z ≤ 4294967295) : HT Tryz.prog 119 [pV b, .agg #[iV x, iV y, uV z], iV wy] [Wd b S] (fun v K => v = Value.tuple #[Value.int .i64 (relA S (x, y, z) wy), Value.int .i64 (relE S (x, y, z) wy)] ∧ K = [Wd b (relS S (x, y, z) wy)]) := by
  by_cases h : KGood (x, y, z)
  · by_cases hw : 1 ≤ wy ∧ wy ≤ 3
    · by_cases hT : Thr S (x, y, z)
      · by_cases hn : S.T.length < 10000
        · rcases kgood_k h with h1 | h1 | h1
          · have h2 : x = 1 := h1
            subst h2
            exact wrel_1 b S y z hz0 hz1 h h.2.2.1 h.2.2.2.1 h.2.2.2.2 hT wy hw hn
          · have h2 : x = 2 := h1
            subst h2
            exact wrel_2 b S y z hz0 hz1 h h.2.2.1 h.2.2.2.1 h.2.2.2.2 hT wy hw hn
          · have h2 : x = 3 := h1
            subst h2
            exact wrel_3 b S y z hz0 hz1 h h.2.2.1 h.2.2.2.1 h.2.2.2.2 hT wy hw hn
        · exact wrel_full b S x y z hz0 hz1 h h.2.2.1 h.2.2.2.1 h.2.2.2.2 ⟨h.1, h.2.1⟩ hT wy hw (by omega)
      · exact wrel_none b S x y z hz0 hz1 h h.2.2.1 h.2.2.2.1 h.2.2.2.2 ⟨h.1, h.2.1⟩ hT wy hw
    · exact wrel_wy b S x y z hz0 hz1 h h.2.2.1 h.2.2.2.1 h.2.2.2.2 ⟨h.1, h.2.1⟩ wy (by omega)
  · exact wrel_no b S x y z wy hz0 hz1 h

end Go.Proofs.YtehlamblpekmkaaGreatDoor
