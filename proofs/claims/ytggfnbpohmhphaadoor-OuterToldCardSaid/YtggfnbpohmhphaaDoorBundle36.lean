/- Walks, printed by my generator o9.py. -/
import Derived.Test.YtggfnbpohmhphaaDoorBundle34
import Derived.Test.YtggfnbpohmhphaaDoorInv
namespace Go.Proofs.YtggfnbpohmhphaaDoor
abbrev wsix (b f p d s l : Nat) (S : Wst) : List Assn := [Cl b [Value.nilIface, Value.iface 48 (Value.pointer (some ⟨f, 0, none⟩)), Value.iface 51 (Value.pointer (some ⟨p, 0, none⟩)), Value.iface 54 (Value.pointer (some ⟨d, 0, none⟩)), Value.pointer (some ⟨s, 0, none⟩), Value.pointer (some ⟨l, 0, none⟩), Value.int IntKind.i64 S.now] 63, Fd f 64 S.F, Pl p S.B, Dk d S.D, Sr 93 s S.q, Lg l S.T]
theorem wd_get {g w : World} {L : List Assn} {j b : Nat} {S : Wst} (h : sat g w L) (hj : L[j]? = some (Wd b S)) : WOk S := wd_ok h hj
set_option maxHeartbeats 4000000 in
theorem wvalid_cl (b l : Nat) (v0 v1 v2 v3 v4 v5 : Value) : HT Tryd.prog 22 [pV b] [Cl b [v0, v1, v2, v3, v4, pV l, v5] 63] (fun v K => v = .bool true ∧ K = [Cl b [v0, v1, v2, v3, v4, pV l, v5] 63]) := by
 refine hiS Tryd.func22 Tryd.ntmps22 fun g w0 R h0 => go [rd 1 6 0 5 1 h0] ?_
 exact en (.bool true) [] ⟨_, _, rfl, ⟨rfl, rfl⟩, h0⟩

set_option maxHeartbeats 4000000 in
theorem wnew_ht (gn : Int) (hgn : 1 ≤ gn ∧ gn ≤ 4294967295) : HT Tryd.prog 5 [uV gn] [] (fun v K => ∃ b : Nat, v = .tuple #[pV b, iV 0] ∧ K = [Wd b (wnew gn)]) := by
 refine hiS Tryd.func5 Tryd.ntmps5 fun g w0 R h0 => go [] <| cl0 Tryd.call16 (gcheck_ok gn (by omega) (by omega)) h0 fun _ h11 => go [] <| cP Tryd.call17 ((by have h_ := fnew_ok 64 gn (by decide) (by omega); exact h_)) h11 ?_
 rintro v K _ (⟨b12, rfl, rfl⟩) h14
 have h15 := ap1 h14
 refine go [] <| cP Tryd.call18 (pnew_ht gn (by omega)) h15 ?_
 rintro v K _ (⟨b16, rfl, rfl⟩) h18
 have h19 := ap1 h18
 refine go [] <| cP Tryd.call19 (lnew_ht gn (by omega)) h19 ?_
 rintro v K _ (⟨b20, rfl, rfl⟩) h22
 have h23 := ap1 h22
 refine go [] <| cP Tryd.call20 (new_ht) h23 ?_
 rintro v K _ (⟨b24, rfl, rfl⟩) h26
 refine cP Tryd.call21 (lgnew_ht) (ap1 h26) ?_
 rintro v K _ (⟨b28, rfl, rfl⟩) h30
 have h31 := ap1 h30
 refine go [] <| nP 63 [Value.nilIface, Value.nilIface, Value.nilIface, Value.nilIface, pV b24, pV b28, iV 0] h31 (fun r32 _ h34 => ?_)
 refine go [] <| dw (fls [0, 1, 2, 3, 4, 5, 6, 7, 8, 9, 10, 11, 13, 14, 17, 18] (Tr.an 12 (Tr.fl 15 (Tr.an 16 (Tr.fl 19 (Tr.an 20 Tr.nil)))))) h34 fun _ h36 => go [.s 13 4] <| lw (.iface 48 (pV b12)) (fun _ => law_mkIface (t := 48) (x := (Operand.tmp 43)) (by kernel_rfl) Tryd.underlying48 rfl (pV b12) (by kernel_rfl) _) <| go [.s 13 6] <| lw (.iface 51 (pV b16)) (fun _ => law_mkIface (t := 51) (x := (Operand.tmp 45)) (by kernel_rfl) Tryd.underlying51 rfl (pV b16) (by kernel_rfl) _) <| go [.s 13 8] <| lw (.iface 54 (pV b20)) (fun _ => law_mkIface (t := 54) (x := (Operand.tmp 47)) (by kernel_rfl) Tryd.underlying54 rfl (pV b20) (by kernel_rfl) _) <| go [.s 13 11] <| lw (.pointer (some ⟨r32, 1, none⟩)) (fun _ => law_indexArr (x := (Operand.tmp 50)) (i := (Operand.const (iV 1))) (b := r32) (off := 0) (z := 1) (by kernel_rfl) Tryd.underlying61 1 (by kernel_rfl) 1 (by kernel_rfl) (by kernel_rfl) (by omega) (by omega) 1 (by omega) _) <| go [] <| sG [(1, .iface 48 (pV b12))] [Value.nilIface, .iface 48 (pV b12), Value.nilIface, Value.nilIface, pV b24, pV b28, iV 0] h36 fun _ h38 => ⟨kd [], ?_⟩
 refine lw (.pointer (some ⟨r32, 2, none⟩)) (fun _ => law_indexArr (x := (Operand.tmp 53)) (i := (Operand.const (iV 2))) (b := r32) (off := 0) (z := 2) (by kernel_rfl) Tryd.underlying61 1 (by kernel_rfl) 2 (by kernel_rfl) (by kernel_rfl) (by omega) (by omega) 2 (by omega) _) <| sG [(2, .iface 51 (pV b16))] [Value.nilIface, .iface 48 (pV b12), .iface 51 (pV b16), Value.nilIface, pV b24, pV b28, iV 0] h38 fun _ h40 => ⟨kd [], ?_⟩
 refine lw (.pointer (some ⟨r32, 3, none⟩)) (fun _ => law_indexArr (x := (Operand.tmp 56)) (i := (Operand.const (iV 3))) (b := r32) (off := 0) (z := 3) (by kernel_rfl) Tryd.underlying61 1 (by kernel_rfl) 3 (by kernel_rfl) (by kernel_rfl) (by omega) (by omega) 3 (by omega) _) <| sG [(3, .iface 54 (pV b20))] [Value.nilIface, .iface 48 (pV b12), .iface 51 (pV b16), .iface 54 (pV b20), pV b24, pV b28, iV 0] h40 fun w41 h42 => ⟨kd [], ?_⟩
 refine go [] ?_
 have h44 : sat g w41 [Wd r32 (wnew gn), R] := wd_close (wok_new hgn) (tk7 (sf6 (sf6 (sf5 (sf4 (sf3 (sf2 (sf6 h42))))))))
 exact en (.tuple #[pV r32, iV 0]) [] ⟨_, _, rfl, ⟨r32, rfl, rfl⟩, h44⟩

set_option maxHeartbeats 4000000 in
theorem has_no (b f p d s l : Nat) (S : Wst) (hW : WOk S) (x y z : Int) (hz0 : 0 ≤ z) (hz1 : z ≤ 4294967295) (hg : ¬ (1 ≤ x ∧ x ≤ 3 ∧ 0 ≤ y ∧ y ≤ 63 ∧ 1 ≤ z)) : HT Tryd.prog 28 [pV b, .agg #[iV x, iV y, uV z]] [Cl b [Value.nilIface, .iface 48 (pV f), .iface 51 (pV p), .iface 54 (pV d), pV s, pV l, iV S.now] 63, Fd f 64 S.F, Pl p S.B, Dk d S.D, Sr 93 s S.q, Lg l S.T] (fun v K => v = .bool false ∧ K = [Cl b [Value.nilIface, .iface 48 (pV f), .iface 51 (pV p), .iface 54 (pV d), pV s, pV l, iV S.now] 63, Fd f 64 S.F, Pl p S.B, Dk d S.D, Sr 93 s S.q, Lg l S.T]) := by
 refine hiS Tryd.func28 Tryd.ntmps28 fun g w0 R h0 => go [] <| nP 35 [iV x, iV y, uV z] h0 (fun _ _ h12 => ?_)
 refine go [] <| dw (Tr.fl 0 (Tr.an 1 (fls [2, 3] (Tr.an 4 (fls [5, 6, 7, 8, 9, 10, 11, 12, 13, 14, 16] (Tr.an 15 (Tr.an 17 (fls [18, 19] Tr.nil)))))))) h12 fun _ h14 => ?_
 have h15 := tk8 (sf7 (sf6 (sf7 (sf7 (sf7 (sf7 (sf7 (sf7 h14))))))))
 refine go [] <| cw1 Tryd.call22 (wvalid_cl b l Value.nilIface (.iface 48 (pV f)) (.iface 51 (pV p)) (.iface 54 (pV d)) (pV s) (iV S.now)) h15 fun _ h17 => ⟨kd [], ?_⟩
 refine go [rd 1 3 1 0 3 h17] ?_
 by_cases c18 : 1 ≤ x
 ·
  by_cases c19 : x ≤ 3
  ·
   by_cases c20 : 0 ≤ y
   ·
    by_cases c21 : y ≤ 63
    ·
     refine cw0 Tryd.call27 (couter_no x y z (by omega) (by omega) (by omega)) h17 fun _ h23 => ⟨kd [], ?_⟩
     refine go [] <| dsk [] <| dsk [] <| go [] ?_
     exact en (.bool false) [] ⟨_, _, rfl, ⟨rfl, rfl⟩, (tk7 (sf6 (sf6 (sf6 (sf6 (sf6 (sf6 (sf7 (tk8 (sf7 (sf7 (sf7 (sf7 (sf7 (sf7 (sf2 (sf7 h23)))))))))))))))))⟩
    refine cw0 Tryd.call27 (couter_no x y z (by omega) (by omega) (by omega)) h17 fun _ h27 => ⟨kd [], ?_⟩
    refine go [] <| dsk [] <| dsk [] <| go [] ?_
    exact en (.bool false) [] ⟨_, _, rfl, ⟨rfl, rfl⟩, (tk7 (sf6 (sf6 (sf6 (sf6 (sf6 (sf6 (sf7 (tk8 (sf7 (sf7 (sf7 (sf7 (sf7 (sf7 (sf2 (sf7 h27)))))))))))))))))⟩
   refine cw0 Tryd.call27 (couter_no x y z (by omega) (by omega) (by omega)) h17 fun _ h31 => ⟨kd [], ?_⟩
   refine go [] <| dsk [] <| dsk [] <| go [] ?_
   exact en (.bool false) [] ⟨_, _, rfl, ⟨rfl, rfl⟩, (tk7 (sf6 (sf6 (sf6 (sf6 (sf6 (sf6 (sf7 (tk8 (sf7 (sf7 (sf7 (sf7 (sf7 (sf7 (sf2 (sf7 h31)))))))))))))))))⟩
  refine cw0 Tryd.call27 (couter_no x y z (by omega) (by omega) (by omega)) h17 fun _ h35 => ⟨kd [], ?_⟩
  refine go [] <| dsk [] <| dsk [] <| go [] ?_
  exact en (.bool false) [] ⟨_, _, rfl, ⟨rfl, rfl⟩, (tk7 (sf6 (sf6 (sf6 (sf6 (sf6 (sf6 (sf7 (tk8 (sf7 (sf7 (sf7 (sf7 (sf7 (sf7 (sf2 (sf7 h35)))))))))))))))))⟩
 refine cw0 Tryd.call27 (couter_no x y z (by omega) (by omega) (by omega)) h17 fun _ h39 => ⟨kd [], ?_⟩
 refine go [] <| dsk [] <| dsk [] <| go [] ?_
 exact en (.bool false) [] ⟨_, _, rfl, ⟨rfl, rfl⟩, (tk7 (sf6 (sf6 (sf6 (sf6 (sf6 (sf6 (sf7 (tk8 (sf7 (sf7 (sf7 (sf7 (sf7 (sf7 (sf2 (sf7 h39)))))))))))))))))⟩

set_option maxHeartbeats 4000000 in
theorem has_1 (b f p d s l : Nat) (S : Wst) (hW : WOk S) (y z : Int) (hz0 : 0 ≤ z) (hz1 : z ≤ 4294967295) (hg : KGood (1, y, z)) (hy0 : 0 ≤ y) (hy1 : y ≤ 63) (hz : 1 ≤ z) : HT Tryd.prog 28 [pV b, .agg #[iV 1, iV y, uV z]] [Cl b [Value.nilIface, .iface 48 (pV f), .iface 51 (pV p), .iface 54 (pV d), pV s, pV l, iV S.now] 63, Fd f 64 S.F, Pl p S.B, Dk d S.D, Sr 93 s S.q, Lg l S.T] (fun v K => v = .bool (decide (Thr S (1, y, z))) ∧ K = [Cl b [Value.nilIface, .iface 48 (pV f), .iface 51 (pV p), .iface 54 (pV d), pV s, pV l, iV S.now] 63, Fd f 64 S.F, Pl p S.B, Dk d S.D, Sr 93 s S.q, Lg l S.T]) := by
 refine hiS Tryd.func28 Tryd.ntmps28 fun g w0 R h0 => go [] <| nP 35 [iV 1, iV y, uV z] h0 (fun _ _ h12 => ?_)
 refine go [] <| dw (Tr.fl 0 (Tr.an 1 (fls [2, 3] (Tr.an 4 (fls [5, 6, 7, 8, 9, 10, 11, 12, 13, 14, 16] (Tr.an 15 (Tr.an 17 (fls [18, 19] Tr.nil)))))))) h12 fun _ h14 => ?_
 have h15 := tk8 (sf7 (sf6 (sf7 (sf7 (sf7 (sf7 (sf7 (sf7 h14))))))))
 refine go [] <| cw1 Tryd.call22 (wvalid_cl b l Value.nilIface (.iface 48 (pV f)) (.iface 51 (pV p)) (.iface 54 (pV d)) (pV s) (iV S.now)) h15 fun _ h17 => ⟨kd [], ?_⟩
 refine go [rd 1 3 1 0 3 h17] <| cw0 Tryd.call27 (couter_ok 1 y z (by omega) (by omega) (by omega)) h17 fun _ h19 => ⟨kd [], ?_⟩
 refine go [rd 1 10 1 0 1 h19, .s 1 13] <| lw (.pointer (some ⟨b, 1, none⟩)) (fun _ => law_indexArr (x := (Operand.tmp 17)) (i := (Operand.tmp 15)) (b := b) (off := 0) (z := 1) (by kernel_rfl) Tryd.underlying61 1 (by kernel_rfl) 1 (by kernel_rfl) (by kernel_rfl) (by omega) (by omega) 1 (by omega) _) ?_
 have h22 := tk8 (sf7 (sf6 (sf6 (sf7 (sf7 (sf7 (sf7 (sf7 h19))))))))
 refine go [rd 1 14 0 1 1 h19, rd 1 16 1 0 3 h19] ?_
 refine iG 48 (pV f) "All" [] 105 ((by have h_ := fall_ht f 64 S.F; exact h_)) h22 ?_
 rintro v K _ (⟨p20, c21, rfl, rfl⟩) h24
 have h25 := ap2 h24
 have hl26 : ((inS 1 (As S.F) 0).length) ≤ 64 := by have h_ := inS_len 1 (As S.F) 0; rw [as_len, hW.fl] at h_; exact h_
 refine ⟨kd [rd 0 16 3 0 3 h25], ?_⟩
 refine cw1 Tryd.call46 (oct_ht p20 (((inS 1 (As S.F) 0).length)) c21 (allK 1 S.F) (Sl 35 3 p20 (((inS 1 (As S.F) 0).length)) c21 (fl eO (allK 1 S.F))) (gv_sl _ _ _) (allK_len _ _) (by omega) 1 y z) (tk9 (sf8 (sf7 (sf8 (sf8 (sf8 (sf8 (sf8 (sf8 (sf8 h25)))))))))) fun _ h29 => ⟨kd [], ?_⟩
 refine go [] ?_
 exact en (.bool (decide ((1, y, z) ∈ (allK 1 S.F)))) [] ⟨_, _, rfl, ⟨by rw [← thr_dec hg]; rfl, rfl⟩, (tk7 (sf6 (sf6 (sf6 (sf6 (sf6 (sf6 (sf8 (tk9 (sf8 (sf7 (sf8 (sf8 (sf8 (sf8 (sf2 (sf4 (sf8 h29))))))))))))))))))⟩

set_option maxHeartbeats 4000000 in
theorem has_2 (b f p d s l : Nat) (S : Wst) (hW : WOk S) (y z : Int) (hz0 : 0 ≤ z) (hz1 : z ≤ 4294967295) (hg : KGood (2, y, z)) (hy0 : 0 ≤ y) (hy1 : y ≤ 63) (hz : 1 ≤ z) : HT Tryd.prog 28 [pV b, .agg #[iV 2, iV y, uV z]] [Cl b [Value.nilIface, .iface 48 (pV f), .iface 51 (pV p), .iface 54 (pV d), pV s, pV l, iV S.now] 63, Fd f 64 S.F, Pl p S.B, Dk d S.D, Sr 93 s S.q, Lg l S.T] (fun v K => v = .bool (decide (Thr S (2, y, z))) ∧ K = [Cl b [Value.nilIface, .iface 48 (pV f), .iface 51 (pV p), .iface 54 (pV d), pV s, pV l, iV S.now] 63, Fd f 64 S.F, Pl p S.B, Dk d S.D, Sr 93 s S.q, Lg l S.T]) := by
 refine hiS Tryd.func28 Tryd.ntmps28 fun g w0 R h0 => go [] <| nP 35 [iV 2, iV y, uV z] h0 (fun _ _ h12 => ?_)
 refine go [] <| dw (Tr.fl 0 (Tr.an 1 (fls [2, 3] (Tr.an 4 (fls [5, 6, 7, 8, 9, 10, 11, 12, 13, 14, 16] (Tr.an 15 (Tr.an 17 (fls [18, 19] Tr.nil)))))))) h12 fun _ h14 => ?_
 have h15 := tk8 (sf7 (sf6 (sf7 (sf7 (sf7 (sf7 (sf7 (sf7 h14))))))))
 refine go [] <| cw1 Tryd.call22 (wvalid_cl b l Value.nilIface (.iface 48 (pV f)) (.iface 51 (pV p)) (.iface 54 (pV d)) (pV s) (iV S.now)) h15 fun _ h17 => ⟨kd [], ?_⟩
 refine go [rd 1 3 1 0 3 h17] <| cw0 Tryd.call27 (couter_ok 2 y z (by omega) (by omega) (by omega)) h17 fun _ h19 => ⟨kd [], ?_⟩
 refine go [rd 1 10 1 0 1 h19, .s 1 13] <| lw (.pointer (some ⟨b, 2, none⟩)) (fun _ => law_indexArr (x := (Operand.tmp 17)) (i := (Operand.tmp 15)) (b := b) (off := 0) (z := 2) (by kernel_rfl) Tryd.underlying61 1 (by kernel_rfl) 2 (by kernel_rfl) (by kernel_rfl) (by omega) (by omega) 2 (by omega) _) ?_
 have h22 := tk8 (sf7 (sf6 (sf6 (sf6 (sf7 (sf7 (sf7 (sf7 h19))))))))
 refine go [rd 1 14 0 2 1 h19, rd 1 16 1 0 3 h19] ?_
 refine iG 51 (pV p) "All" [] 107 (pall_ht p S.B) h22 ?_
 rintro v K _ (⟨p20, c21, rfl, rfl⟩) h24
 have h25 := ap2 h24
 have hl26 : ((inS 1 (As S.B) 0).length) ≤ 64 := by have h_ := inS_len 1 (As S.B) 0; rw [as_len, hW.bl] at h_; exact h_
 refine ⟨kd [rd 0 16 3 0 3 h25], ?_⟩
 refine cw1 Tryd.call46 (oct_ht p20 (((inS 1 (As S.B) 0).length)) c21 (allK 2 S.B) (Sl 35 3 p20 (((inS 1 (As S.B) 0).length)) c21 (fl eO (allK 2 S.B))) (gv_sl _ _ _) (allK_len _ _) (by omega) 2 y z) (tk9 (sf8 (sf7 (sf8 (sf8 (sf8 (sf8 (sf8 (sf8 (sf8 h25)))))))))) fun _ h29 => ⟨kd [], ?_⟩
 refine go [] ?_
 exact en (.bool (decide ((2, y, z) ∈ (allK 2 S.B)))) [] ⟨_, _, rfl, ⟨by rw [← thr_dec hg]; rfl, rfl⟩, (tk7 (sf6 (sf6 (sf6 (sf6 (sf6 (sf6 (sf8 (tk9 (sf8 (sf8 (sf6 (sf8 (sf8 (sf8 (sf2 (sf4 (sf8 h29))))))))))))))))))⟩

set_option maxHeartbeats 4000000 in
theorem has_3 (b f p d s l : Nat) (S : Wst) (hW : WOk S) (y z : Int) (hz0 : 0 ≤ z) (hz1 : z ≤ 4294967295) (hg : KGood (3, y, z)) (hy0 : 0 ≤ y) (hy1 : y ≤ 63) (hz : 1 ≤ z) : HT Tryd.prog 28 [pV b, .agg #[iV 3, iV y, uV z]] [Cl b [Value.nilIface, .iface 48 (pV f), .iface 51 (pV p), .iface 54 (pV d), pV s, pV l, iV S.now] 63, Fd f 64 S.F, Pl p S.B, Dk d S.D, Sr 93 s S.q, Lg l S.T] (fun v K => v = .bool (decide (Thr S (3, y, z))) ∧ K = [Cl b [Value.nilIface, .iface 48 (pV f), .iface 51 (pV p), .iface 54 (pV d), pV s, pV l, iV S.now] 63, Fd f 64 S.F, Pl p S.B, Dk d S.D, Sr 93 s S.q, Lg l S.T]) := by
 refine hiS Tryd.func28 Tryd.ntmps28 fun g w0 R h0 => go [] <| nP 35 [iV 3, iV y, uV z] h0 (fun _ _ h12 => ?_)
 refine go [] <| dw (Tr.fl 0 (Tr.an 1 (fls [2, 3] (Tr.an 4 (fls [5, 6, 7, 8, 9, 10, 11, 12, 13, 14, 16] (Tr.an 15 (Tr.an 17 (fls [18, 19] Tr.nil)))))))) h12 fun _ h14 => ?_
 have h15 := tk8 (sf7 (sf6 (sf7 (sf7 (sf7 (sf7 (sf7 (sf7 h14))))))))
 refine go [] <| cw1 Tryd.call22 (wvalid_cl b l Value.nilIface (.iface 48 (pV f)) (.iface 51 (pV p)) (.iface 54 (pV d)) (pV s) (iV S.now)) h15 fun _ h17 => ⟨kd [], ?_⟩
 refine go [rd 1 3 1 0 3 h17] <| cw0 Tryd.call27 (couter_ok 3 y z (by omega) (by omega) (by omega)) h17 fun _ h19 => ⟨kd [], ?_⟩
 refine go [rd 1 10 1 0 1 h19, .s 1 13] <| lw (.pointer (some ⟨b, 3, none⟩)) (fun _ => law_indexArr (x := (Operand.tmp 17)) (i := (Operand.tmp 15)) (b := b) (off := 0) (z := 3) (by kernel_rfl) Tryd.underlying61 1 (by kernel_rfl) 3 (by kernel_rfl) (by kernel_rfl) (by omega) (by omega) 3 (by omega) _) ?_
 have h22 := tk8 (sf7 (sf6 (sf6 (sf6 (sf6 (sf7 (sf7 (sf7 h19))))))))
 refine go [rd 1 14 0 3 1 h19, rd 1 16 1 0 3 h19] ?_
 refine iG 54 (pV d) "All" [] 109 (dall_ht d S.D) h22 ?_
 rintro v K _ (⟨p20, c21, rfl, rfl⟩) h24
 have h25 := ap2 h24
 have hl26 : ((inS 1 (As S.D) 0).length) ≤ 64 := by have h_ := inS_len 1 (As S.D) 0; rw [as_len, hW.dl] at h_; exact h_
 refine ⟨kd [rd 0 16 3 0 3 h25], ?_⟩
 refine cw1 Tryd.call46 (oct_ht p20 (((inS 1 (As S.D) 0).length)) c21 (allK 3 S.D) (Sl 35 3 p20 (((inS 1 (As S.D) 0).length)) c21 (fl eO (allK 3 S.D))) (gv_sl _ _ _) (allK_len _ _) (by omega) 3 y z) (tk9 (sf8 (sf7 (sf8 (sf8 (sf8 (sf8 (sf8 (sf8 (sf8 h25)))))))))) fun _ h29 => ⟨kd [], ?_⟩
 refine go [] ?_
 exact en (.bool (decide ((3, y, z) ∈ (allK 3 S.D)))) [] ⟨_, _, rfl, ⟨by rw [← thr_dec hg]; rfl, rfl⟩, (tk7 (sf6 (sf6 (sf6 (sf6 (sf6 (sf6 (sf8 (tk9 (sf8 (sf8 (sf8 (sf5 (sf8 (sf8 (sf2 (sf4 (sf8 h29))))))))))))))))))⟩

theorem has_ht (b f p d s l : Nat) (S : Wst) (hW : WOk S) (x y z : Int) (hz0 : 0 ≤ z) (hz1 : z ≤ 4294967295) : HT Tryd.prog 28 [pV b, .agg #[iV x, iV y, uV z]] (wsix b f p d s l S) (fun v K => v = .bool (decide (Thr S (x, y, z))) ∧ K = wsix b f p d s l S) := by
  by_cases h : KGood (x, y, z)
  · rcases kgood_k h with h1 | h1 | h1
    · have h2 : x = 1 := h1
      subst h2
      exact has_1 b f p d s l S hW y z hz0 hz1 h h.2.2.1 h.2.2.2.1 h.2.2.2.2
    · have h2 : x = 2 := h1
      subst h2
      exact has_2 b f p d s l S hW y z hz0 hz1 h h.2.2.1 h.2.2.2.1 h.2.2.2.2
    · have h2 : x = 3 := h1
      subst h2
      exact has_3 b f p d s l S hW y z hz0 hz1 h h.2.2.1 h.2.2.2.1 h.2.2.2.2
  · rw [decide_eq_false (fun h1 : Thr S (x, y, z) => h h1.1)]
    exact has_no b f p d s l S hW x y z hz0 hz1 h
end Go.Proofs.YtggfnbpohmhphaaDoor

/-
  What the calls of a world answer, case by case. No program in sight.
-/
namespace Go.Proofs.YtggfnbpohmhphaaDoor
section
variable {S : Wst} {k y z t : Int} {o : Ky}
theorem tck_arg (h : t < 1 ∨ 1048576 < t) : tckE S t = 2 ∧ tckS S t = S := by
  have e : tckE S t = 2 := if_pos h
  exact ⟨e, if_neg (by rw [e]; decide)⟩
theorem tck_over (h : 1 ≤ t ∧ t ≤ 1048576) (h2 : 1099511627776 < S.now + t) : tckE S t = 17 ∧ tckS S t = S := by
  have e : tckE S t = 17 := by unfold tckE; rw [if_neg (by omega), if_pos h2]
  exact ⟨e, if_neg (by rw [e]; decide)⟩
theorem tck_ok (h : 1 ≤ t ∧ t ≤ 1048576) (h2 : S.now + t ≤ 1099511627776) : tckE S t = 0 ∧ tckS S t = { S with now := S.now + t } := by
  have e : tckE S t = 0 := by unfold tckE; rw [if_neg (by omega), if_neg (by omega)]
  exact ⟨e, if_pos e⟩
theorem thr_at (h : Thr S (k, y, z)) : (As (S.tab k))[y.toNat]? = some (1, z) := h.2
theorem thr_nat (h : KGood (k, y, z)) : y = ((y.toNat : Nat) : Int) := by have h1 : 0 ≤ y := h.2.2.1; omega
end
end Go.Proofs.YtggfnbpohmhphaaDoor

/- Walks, printed by my generator o10.py. -/
namespace Go.Proofs.YtggfnbpohmhphaaDoor
set_option maxHeartbeats 4000000 in
theorem ospan_y (t : Int) (ht : 1 ≤ t ∧ t ≤ 1048576) : HT Tryd.prog 31 [iV t] [] (fun v K => v = .bool true ∧ K = []) := by
 refine hiS Tryd.func31 Tryd.ntmps31 fun g w0 R h0 => go [.v 1 1 (oT (t ≥ 1)), .v 1 4 (oT (t ≤ 1048576))] ?_
 exact en (.bool true) [] ⟨_, _, rfl, ⟨rfl, rfl⟩, h0⟩

set_option maxHeartbeats 4000000 in
theorem ospan_n (t : Int) (ht : t < 1 ∨ 1048576 < t) : HT Tryd.prog 31 [iV t] [] (fun v K => v = .bool false ∧ K = []) := by
 refine hiS Tryd.func31 Tryd.ntmps31 fun g w0 R h0 => go [.s 1 1] ?_
 by_cases c10 : t ≥ 1
 ·
  refine go [.v 1 1 (oT (t ≥ 1)), .v 1 4 (oF (t ≤ 1048576))] ?_
  exact en (.bool false) [] ⟨_, _, rfl, ⟨rfl, rfl⟩, h0⟩
 refine go [.v 1 1 (oF (t ≥ 1))] ?_
 exact en (.bool false) [] ⟨_, _, rfl, ⟨rfl, rfl⟩, h0⟩

end Go.Proofs.YtggfnbpohmhphaaDoor

/- Walks, printed by my generator o11.py. -/
namespace Go.Proofs.YtggfnbpohmhphaaDoor
set_option maxHeartbeats 4000000 in
theorem wtick_ht (b : Nat) (S : Wst) (t : Int) : HT Tryd.prog 12 [pV b, iV t] [Wd b S] (fun v K => v = iV (tckE S t) ∧ K = [Wd b (tckS S t)]) := by
 refine hiS Tryd.func12 Tryd.ntmps12 fun g w0 R h0 => ?_
 obtain ⟨f10, p11, d12, s13, l14, hW15, h16⟩ := wd_open h0
 have hW15n := hW15.nl; have hW15m := hW15.nh; have hW15t := hW15.tn
 refine go [] <| cl1 Tryd.call22 (wvalid_cl b l14 Value.nilIface (.iface 48 (pV f10)) (.iface 51 (pV p11)) (.iface 54 (pV d12)) (pV s13) (iV S.now)) h16 fun _ h18 => go [] ?_
 by_cases c19 : 1 ≤ t
 ·
  by_cases c20 : t ≤ 1048576
  ·
   refine cl0 Tryd.call31 (ospan_y t (by omega)) h18 fun w21 h22 => go [rd 5 3 0 6 1 h22, .v 5 5 (oIr (S.now + t)), .s 5 6] ?_
   by_cases c23 : S.now + t > 1099511627776
   ·
    refine go [.v 5 6 (oT (S.now + t > 1099511627776))] ?_
    have ht_ := tck_over (S := S) (t := t) (by omega) (by omega)
    have h24 : sat g w21 [Wd b S, R] := wd_close hW15 h22
    exact en (iV 17) [] ⟨_, [Wd b S], rfl, ⟨by rw [ht_.1], by rw [ht_.2]⟩, h24⟩
   refine go [.v 5 6 (oF (S.now + t > 1099511627776)), rd 7 3 0 6 1 h22, .v 7 5 (oIr (S.now + t))] <| sP [(6, iV (S.now + t))] [Value.nilIface, .iface 48 (pV f10), .iface 51 (pV p11), .iface 54 (pV d12), pV s13, pV l14, iV (S.now + t)] h22 fun w25 h26 => go [] ?_
   have ht_ := tck_ok (S := S) (t := t) (by omega) (by omega)
   have h27 : sat g w25 [Wd b ({ S with now := S.now + t } : Wst), R] := wd_close (ht_.2 ▸ wok_tck hW15 t) h26
   exact en (iV 0) [] ⟨_, [Wd b ({ S with now := S.now + t } : Wst)], rfl, ⟨by rw [ht_.1], by rw [ht_.2]⟩, h27⟩
  refine cl0 Tryd.call31 (ospan_n t (by omega)) h18 fun w28 h29 => go [] ?_
  have ht_ := tck_arg (S := S) (t := t) (by omega)
  have h30 : sat g w28 [Wd b S, R] := wd_close hW15 h29
  exact en (iV 2) [] ⟨_, [Wd b S], rfl, ⟨by rw [ht_.1], by rw [ht_.2]⟩, h30⟩
 refine cl0 Tryd.call31 (ospan_n t (by omega)) h18 fun w31 h32 => go [] ?_
 have ht_ := tck_arg (S := S) (t := t) (by omega)
 have h33 : sat g w31 [Wd b S, R] := wd_close hW15 h32
 exact en (iV 2) [] ⟨_, [Wd b S], rfl, ⟨by rw [ht_.1], by rw [ht_.2]⟩, h33⟩

set_option maxHeartbeats 4000000 in
theorem wnow_ht (b : Nat) (S : Wst) : HT Tryd.prog 15 [pV b] [Wd b S] (fun v K => v = iV S.now ∧ K = [Wd b S]) := by
 refine hiS Tryd.func15 Tryd.ntmps15 fun g w0 R h0 => ?_
 obtain ⟨f10, p11, d12, s13, l14, hW15, h16⟩ := wd_open h0
 have hW15n := hW15.nl; have hW15m := hW15.nh; have hW15t := hW15.tn
 refine go [] <| cl1 Tryd.call22 (wvalid_cl b l14 Value.nilIface (.iface 48 (pV f10)) (.iface 51 (pV p11)) (.iface 54 (pV d12)) (pV s13) (iV S.now)) h16 fun w17 h18 => go [rd 3 3 0 6 1 h18] ?_
 have h19 : sat g w17 [Wd b S, R] := wd_close hW15 h18
 exact en (iV S.now) [] ⟨_, _, rfl, ⟨rfl, rfl⟩, h19⟩

set_option maxHeartbeats 4000000 in
theorem wansw_ht (wo : World) (hg : Lett wo) (b : Nat) (S : Wst) (l : List UInt8) (hl : l.length ≤ 1099511627776) : HT Tryd.prog 6 [pV b, .string (St l)] [Wd b S, Old wo] (fun v K => v = iV (aswE S l) ∧ K = [Wd b (aswS S l), Old wo]) := by
 refine hiS Tryd.func6 Tryd.ntmps6 fun g w0 R h0 => ?_
 obtain ⟨f10, p11, d12, s13, l14, hW15, h16⟩ := wd_open h0
 have hW15n := hW15.nl; have hW15m := hW15.nh; have hW15t := hW15.tn
 refine go [] <| cl1 Tryd.call22 (wvalid_cl b l14 Value.nilIface (.iface 48 (pV f10)) (.iface 51 (pV p11)) (.iface 54 (pV d12)) (pV s13) (iV S.now)) h16 fun _ h18 => ?_
 have h19 := tk8 (sf7 (sf7 (sf5 (sf5 (sf5 (sf5 (sf6 (sf7 h18))))))))
 refine go [rd 3 3 0 4 1 h18] <| cl2 Tryd.call23 (add_ht wo hg s13 S.q l hl) h19 fun w20 h21 => go [] ?_
 have h23 : sat g w20 [Wd b (aswS S l), Old wo, R] := wd_close (wok_asw hW15 l) (tk8 (sf7 (sf7 (sf7 (sf7 (sf3 (sf7 (sf2 (sf7 h21)))))))))
 exact en (iV ((addE S.q l))) [] ⟨_, _, rfl, ⟨rfl, rfl⟩, h23⟩

set_option maxHeartbeats 4000000 in
theorem wledg_ht (b : Nat) (S : Wst) : HT Tryd.prog 13 [pV b] [Wd b S] (fun v K => ∃ b2 : Nat, v = pV b2 ∧ K = [Wd b S, Lg b2 S.T]) := by
 refine hiS Tryd.func13 Tryd.ntmps13 fun g w0 R h0 => ?_
 obtain ⟨f10, p11, d12, s13, l14, hW15, h16⟩ := wd_open h0
 have hW15n := hW15.nl; have hW15m := hW15.nh; have hW15t := hW15.tn
 refine go [] <| cl1 Tryd.call22 (wvalid_cl b l14 Value.nilIface (.iface 48 (pV f10)) (.iface 51 (pV p11)) (.iface 54 (pV d12)) (pV s13) (iV S.now)) h16 fun _ h18 => ?_
 have h20 := tk7 (sf6 (sf5 (sf5 (sf5 (sf5 (sf5 (sf6 h18)))))))
 refine go [rd 3 3 0 5 1 h18] <| cP Tryd.call32 (lgcopy_ht l14 S.T) h20 ?_
 rintro v K w21 (⟨b19, rfl, rfl⟩) h22
 have h23 := ap2 h22
 refine go [] ?_
 have h25 : sat g w21 [Wd b S, Lg b19 S.T, R] := wd_close hW15 (tk8 (sf7 (sf7 (sf7 (sf7 (sf7 (sf2 (sf2 (sf7 h23)))))))))
 exact en (pV b19) [] ⟨_, _, rfl, ⟨b19, rfl, rfl⟩, h25⟩

set_option maxHeartbeats 4000000 in
theorem wall_ht (b : Nat) (S : Wst) : HT Tryd.prog 8 [pV b] [Wd b S] (fun v K => ∃ p c, v = .slice p (allS S).length c ∧ K = [Sl 35 3 p (((allS S).length)) c (fl eO (allS S)), Wd b S]) := by
 refine hiS Tryd.func8 Tryd.ntmps8 fun g w0 R h0 => ?_
 obtain ⟨f10, p11, d12, s13, l14, hW15, h16⟩ := wd_open h0
 have hW15n := hW15.nl; have hW15m := hW15.nh; have hW15t := hW15.tn
 refine go [] <| cl1 Tryd.call22 (wvalid_cl b l14 Value.nilIface (.iface 48 (pV f10)) (.iface 51 (pV p11)) (.iface 54 (pV d12)) (pV s13) (iV S.now)) h16 fun _ h18 => go [.s 4 3] <| lwP (.slice (some ⟨b, 1, none⟩) 3 3) (law_sliceArr (x := (Operand.tmp 11)) (lo := (some (Operand.const (iV 1)))) (hi := none) (b := b) (off := 0) (by kernel_rfl) Tryd.underlying61 1 (by kernel_rfl) 1 4 1 4 (by kernel_rfl) (show fe _ _ (Operand.const (iV 1)) = _ from by kernel_rfl) rfl (by omega) (by omega) (by omega) (by omega) 1 ((if_neg (by omega)).trans (by omega)) 3 3 (by omega) (by omega) _) <| go [.v 4 4 (oJ .i64 (3 : Int) 3)] <| unS 3 <| go [.s 6 0] <| lwP (.pointer (some ⟨b, 1, none⟩)) (law_indexSl (x := (Operand.tmp 12)) (i := (Operand.tmp 14)) (b := b) (off := 1) (z := 0) (len := 3) (cap := 3) (by kernel_rfl) Tryd.underlying64 1 (by kernel_rfl) 0 (by kernel_rfl) (by kernel_rfl) (by omega) (by omega) 1 (by omega) _) ?_
 have h21 := tk7 (sf6 (sf5 (sf6 (sf6 (sf6 (sf6 (sf6 h18)))))))
 refine go [rd 6 1 0 1 1 h18] ?_
 refine iP 48 (pV f10) "All" [] 105 ((by have h_ := fall_ht f10 64 S.F; exact h_)) h21 ?_
 rintro v K w22 (⟨p19, c20, rfl, rfl⟩) h23
 have h24 := ap2 h23
 have hl25 : ((inS 1 (As S.F) 0).length) ≤ 64 := by have h_ := inS_len 1 (As S.F) 0; rw [as_len, hW15.fl] at h_; exact h_
 have h26 : sat g w22 [Sl 35 3 none 0 0 (fl eO []), Fd f10 64 S.F, Sl 35 3 p19 (((inS 1 (As S.F) 0).length)) c20 (fl eO (allK 1 S.F)), Cl b [Value.nilIface, .iface 48 (pV f10), .iface 51 (pV p11), .iface 54 (pV d12), pV s13, pV l14, iV S.now] 63, Pl p11 S.B, Dk d12 S.D, Sr 93 s13 S.q, Lg l14 S.T, R] := sl_nil 35 3 h24
 refine actG ?_
 refine an_append_gv (d := 21) (sz := 3) (s := (Operand.tmp 18)) (x := (Operand.tmp 20)) (z := .agg #[iV 0, iV 0, uV 0]) (p := none) (p2 := p19) (m := 0) (c := 0) (k := (((inS 1 (As S.F) 0).length))) (c2 := c20) (by_ := 24) (by kernel_rfl) (by kernel_rfl) rfl Tryd.underlying32 (by kernel_rfl) rfl (by decide) (by kernel_rfl) (by kernel_rfl) h26 2 rfl (fl eO (allK 1 S.F)) (gv_sl _ _ _) (by rw [fl_len eO_ok, show ((allK 1 S.F)).length = ((inS 1 (As S.F) 0).length) from (allK_len _ _)]) (fl_one eO_ok _) (by omega) (by omega) (((inS 1 (As S.F) 0).length)) (by omega) ?_
 intro p27 cap28 w29 h30
 have h31 : sat g w29 [Sl 35 3 p27 (((inS 1 (As S.F) 0).length)) cap28 (fl eO (allK 1 S.F)), Fd f10 64 S.F, Sl 35 3 p19 (((inS 1 (As S.F) 0).length)) c20 (fl eO (allK 1 S.F)), Cl b [Value.nilIface, .iface 48 (pV f10), .iface 51 (pV p11), .iface 54 (pV d12), pV s13, pV l14, iV S.now] 63, Pl p11 S.B, Dk d12 S.D, Sr 93 s13 S.q, Lg l14 S.T, R] := sat_imp h30 (fun _ hh => by exact hh)
 obtain ⟨hn32, hn33⟩ := sl_le h31
 refine nxA <| go [] <| unN <| go [.s 6 0] <| lwP (.pointer (some ⟨b, 2, none⟩)) (law_indexSl (x := (Operand.tmp 12)) (i := (Operand.tmp 14)) (b := b) (off := 1) (z := 1) (len := 3) (cap := 3) (by kernel_rfl) Tryd.underlying64 1 (by kernel_rfl) 1 (by kernel_rfl) (by kernel_rfl) (by omega) (by omega) 2 (by omega) _) ?_
 have h36 := tk9 (sf8 (sf7 (sf7 (sf7 (sf7 (sf8 (sf8 (sf8 (sf8 h31)))))))))
 refine go [rd 6 1 3 2 1 h31] ?_
 refine iP 51 (pV p11) "All" [] 107 (pall_ht p11 S.B) h36 ?_
 rintro v K _ (⟨p34, c35, rfl, rfl⟩) h38
 have h39 := ap2 h38
 have hl40 : ((inS 1 (As S.B) 0).length) ≤ 64 := by have h_ := inS_len 1 (As S.B) 0; rw [as_len, hW15.bl] at h_; exact h_
 have h41 := tk10 (sf9 (sf8 (sf8 (sf9 (sf9 (sf9 (sf9 (sf9 (sf9 (sf9 h39))))))))))
 refine actG ?_
 refine an_append_gv (d := 21) (sz := 3) (s := (Operand.tmp 18)) (x := (Operand.tmp 20)) (z := .agg #[iV 0, iV 0, uV 0]) (p := p27) (p2 := p34) (m := (((inS 1 (As S.F) 0).length))) (c := cap28) (k := (((inS 1 (As S.B) 0).length))) (c2 := c35) (by_ := 24) (by kernel_rfl) (by kernel_rfl) rfl Tryd.underlying32 (by kernel_rfl) rfl (by decide) (by kernel_rfl) (by kernel_rfl) h41 2 rfl (fl eO (allK 2 S.B)) (gv_sl _ _ _) (by rw [fl_len eO_ok, show ((allK 2 S.B)).length = ((inS 1 (As S.B) 0).length) from (allK_len _ _)]) (fl_one eO_ok _) (by omega) (by omega) (((inS 1 (As S.F) 0).length) + ((inS 1 (As S.B) 0).length)) (by omega) ?_
 intro p42 cap43 w44 h45
 have h46 : sat g w44 [Sl 35 3 p42 (((inS 1 (As S.F) 0).length) + ((inS 1 (As S.B) 0).length)) cap43 (fl eO ((allK 1 S.F) ++ (allK 2 S.B))), Pl p11 S.B, Sl 35 3 p34 (((inS 1 (As S.B) 0).length)) c35 (fl eO (allK 2 S.B)), Fd f10 64 S.F, Sl 35 3 p19 (((inS 1 (As S.F) 0).length)) c20 (fl eO (allK 1 S.F)), Cl b [Value.nilIface, .iface 48 (pV f10), .iface 51 (pV p11), .iface 54 (pV d12), pV s13, pV l14, iV S.now] 63, Dk d12 S.D, Sr 93 s13 S.q, Lg l14 S.T, R] := sat_imp h45 (fun _ hh => by rw [fl_app]; exact hh)
 obtain ⟨hn47, hn48⟩ := sl_le h46
 refine nxA <| go [] <| unN <| go [.s 6 0] <| lwP (.pointer (some ⟨b, 3, none⟩)) (law_indexSl (x := (Operand.tmp 12)) (i := (Operand.tmp 14)) (b := b) (off := 1) (z := 2) (len := 3) (cap := 3) (by kernel_rfl) Tryd.underlying64 1 (by kernel_rfl) 2 (by kernel_rfl) (by kernel_rfl) (by omega) (by omega) 3 (by omega) _) ?_
 have h51 := tk10 (sf9 (sf8 (sf8 (sf8 (sf8 (sf8 (sf8 (sf9 (sf9 (sf9 h46))))))))))
 refine go [rd 6 1 5 3 1 h46] ?_
 refine iP 54 (pV d12) "All" [] 109 (dall_ht d12 S.D) h51 ?_
 rintro v K _ (⟨p49, c50, rfl, rfl⟩) h53
 have h54 := ap2 h53
 have hl55 : ((inS 1 (As S.D) 0).length) ≤ 64 := by have h_ := inS_len 1 (As S.D) 0; rw [as_len, hW15.dl] at h_; exact h_
 have h56 := tk11 (sf10 (sf9 (sf9 (sf10 (sf10 (sf10 (sf10 (sf10 (sf10 (sf10 (sf10 h54)))))))))))
 refine actG ?_
 refine an_append_gv (d := 21) (sz := 3) (s := (Operand.tmp 18)) (x := (Operand.tmp 20)) (z := .agg #[iV 0, iV 0, uV 0]) (p := p42) (p2 := p49) (m := (((inS 1 (As S.F) 0).length) + ((inS 1 (As S.B) 0).length))) (c := cap43) (k := (((inS 1 (As S.D) 0).length))) (c2 := c50) (by_ := 24) (by kernel_rfl) (by kernel_rfl) rfl Tryd.underlying32 (by kernel_rfl) rfl (by decide) (by kernel_rfl) (by kernel_rfl) h56 2 rfl (fl eO (allK 3 S.D)) (gv_sl _ _ _) (by rw [fl_len eO_ok, show ((allK 3 S.D)).length = ((inS 1 (As S.D) 0).length) from (allK_len _ _)]) (fl_one eO_ok _) (by omega) (by omega) (((inS 1 (As S.F) 0).length) + ((inS 1 (As S.B) 0).length) + ((inS 1 (As S.D) 0).length)) (by omega) ?_
 intro p57 cap58 w59 h60
 have h61 : sat g w59 [Sl 35 3 p57 (((inS 1 (As S.F) 0).length) + ((inS 1 (As S.B) 0).length) + ((inS 1 (As S.D) 0).length)) cap58 (fl eO (((allK 1 S.F) ++ (allK 2 S.B)) ++ (allK 3 S.D))), Dk d12 S.D, Sl 35 3 p49 (((inS 1 (As S.D) 0).length)) c50 (fl eO (allK 3 S.D)), Pl p11 S.B, Sl 35 3 p34 (((inS 1 (As S.B) 0).length)) c35 (fl eO (allK 2 S.B)), Fd f10 64 S.F, Sl 35 3 p19 (((inS 1 (As S.F) 0).length)) c20 (fl eO (allK 1 S.F)), Cl b [Value.nilIface, .iface 48 (pV f10), .iface 51 (pV p11), .iface 54 (pV d12), pV s13, pV l14, iV S.now] 63, Sr 93 s13 S.q, Lg l14 S.T, R] := sat_imp h60 (fun _ hh => by rw [fl_app]; exact hh)
 obtain ⟨hn62, hn63⟩ := sl_le h61
 refine nxA <| go [] <| unN <| go [] <| up <| go [] ?_
 have hn_ : ((inS 1 (As S.F) 0).length) + ((inS 1 (As S.B) 0).length) + ((inS 1 (As S.D) 0).length) = (allS S).length := by unfold allS; rw [List.length_append, List.length_append, allK_len, allK_len, allK_len]; omega
 have h64 : sat g w59 [Sl 35 3 p57 (((allS S).length)) cap58 (fl eO (allS S)), Dk d12 S.D, Sl 35 3 p49 (((inS 1 (As S.D) 0).length)) c50 (fl eO (allK 3 S.D)), Pl p11 S.B, Sl 35 3 p34 (((inS 1 (As S.B) 0).length)) c35 (fl eO (allK 2 S.B)), Fd f10 64 S.F, Sl 35 3 p19 (((inS 1 (As S.F) 0).length)) c20 (fl eO (allK 1 S.F)), Cl b [Value.nilIface, .iface 48 (pV f10), .iface 51 (pV p11), .iface 54 (pV d12), pV s13, pV l14, iV S.now] 63, Sr 93 s13 S.q, Lg l14 S.T, R] := sat_imp h61 (fun _ hh_ => by rw [hn_, show (((allK 1 S.F) ++ (allK 2 S.B)) ++ (allK 3 S.D)) = allS S from by unfold allS; simp only [List.append_assoc]] at hh_; exact hh_)
 have h66 : sat g w59 [Wd b S, Sl 35 3 p57 (((allS S).length)) cap58 (fl eO (allS S)), Sl 35 3 p49 (((inS 1 (As S.D) 0).length)) c50 (fl eO (allK 3 S.D)), Sl 35 3 p34 (((inS 1 (As S.B) 0).length)) c35 (fl eO (allK 2 S.B)), Sl 35 3 p19 (((inS 1 (As S.F) 0).length)) c20 (fl eO (allK 1 S.F)), R] := wd_close hW15 (tk11 (sf10 (sf9 (sf8 (sf7 (sf10 (sf10 (sf4 (sf5 (sf6 (sf7 (sf10 h64))))))))))))
 exact en (.slice p57 (((inS 1 (As S.F) 0).length) + ((inS 1 (As S.B) 0).length) + ((inS 1 (As S.D) 0).length)) cap58) [] ⟨_, _, rfl, ⟨p57, cap58, by rw [hn_], rfl⟩, (tk3 (sf2 (sf2 (sf5 (tk6 (sf5 (sf4 (sf5 (sf5 (sf5 (sf5 h66)))))))))))⟩

end Go.Proofs.YtggfnbpohmhphaaDoor

/-
  Acquiring and releasing, case by case. No program in sight.
-/
namespace Go.Proofs.YtggfnbpohmhphaaDoor
section
variable {S : Wst} {k a y z wy : Int} {o : Ky}
theorem acq_arg (h : ¬ godP k a) : acqE S k a = 2 ∧ acqO S k a = (0, 0, 0) ∧ acqS S k a = S := by
  have e : acqE S k a = 2 := if_pos h
  exact ⟨e, if_neg (by rw [e]; decide), if_pos (.inl h)⟩
theorem acq_err (h : godP k a) {e : Int} (he : grwE S k a = e) (h0 : e ≠ 0) : acqE S k a = e ∧ acqO S k a = (0, 0, 0) ∧ acqS S k a = S := by
  have e1 : acqE S k a = e := by unfold acqE; rw [if_neg (fun q => q h), if_pos (by rw [he]; exact h0), he]
  exact ⟨e1, if_neg (by rw [e1]; exact h0), if_pos (.inr (by rw [he]; exact h0))⟩
theorem acq_later (h : godP k a) (he : grwE S k a = 0) (hq : S.q.headD 1 = 2) : acqE S k a = 15 ∧ acqO S k a = (0, 0, 0) ∧ acqS S k a = { S with q := S.q.tail } := by
  have e1 : acqE S k a = 15 := by unfold acqE; rw [if_neg (fun q => q h), if_neg (fun q => q he), if_pos hq]
  refine ⟨e1, if_neg (by rw [e1]; decide), ?_⟩
  unfold acqS
  rw [if_neg (by rintro (q | q); exact q h; exact q he), if_neg (by rw [e1]; decide)]
theorem acq_fail (h : godP k a) (he : grwE S k a = 0) (hq2 : S.q.headD 1 ≠ 2) (hq : S.q.headD 1 = 3) : acqE S k a = 14 ∧ acqO S k a = (0, 0, 0) ∧ acqS S k a = { S with q := S.q.tail } := by
  have e1 : acqE S k a = 14 := by unfold acqE; rw [if_neg (fun q => q h), if_neg (fun q => q he), if_neg hq2, if_pos hq]
  refine ⟨e1, if_neg (by rw [e1]; decide), ?_⟩
  unfold acqS
  rw [if_neg (by rintro (q | q); exact q h; exact q he), if_neg (by rw [e1]; decide)]
theorem acq_ok (h : godP k a) (he : grwE S k a = 0) (hq2 : S.q.headD 1 ≠ 2) (hq : S.q.headD 1 ≠ 3) : acqE S k a = 0 ∧ acqO S k a = nam k (S.tab k) ∧ acqS S k a = ({ S with q := S.q.tail } : Wst).put k (grw (S.tab k) (valO S k a)) := by
  have e1 : acqE S k a = 0 := by unfold acqE; rw [if_neg (fun q => q h), if_neg (fun q => q he), if_neg hq2, if_neg hq]
  refine ⟨e1, if_pos e1, ?_⟩
  unfold acqS
  rw [if_neg (by rintro (q | q); exact q h; exact q he), if_pos e1]
theorem god1 (h : 0 ≤ a ∧ a ≤ 65535) : godP 1 a := .inl ⟨rfl, h.1, h.2⟩
theorem god2 (h : 1 ≤ a ∧ a ≤ 65536) : godP 2 a := .inr (.inl ⟨rfl, h.1, h.2⟩)
theorem god3 (h : 1 ≤ a ∧ a ≤ 1048576) : godP 3 a := .inr (.inr ⟨rfl, h.1, h.2⟩)
theorem god_no1 (h : ¬ (0 ≤ a ∧ a ≤ 65535)) : ¬ godP 1 a := by unfold godP; omega
theorem god_no2 (h : ¬ (1 ≤ a ∧ a ≤ 65536)) : ¬ godP 2 a := by unfold godP; omega
theorem god_no3 (h : ¬ (1 ≤ a ∧ a ≤ 1048576)) : ¬ godP 3 a := by unfold godP; omega
theorem god_no (h : k < 1 ∨ 3 < k) : ¬ godP k a := by unfold godP; omega
/-- The tables' own words for growing. -/
theorem fre_pos' {X : Xs} (h : ¬ fre X = none) : 0 < (inS 0 (As X) 0).length := by
  rcases Nat.eq_zero_or_pos (inS 0 (As X) 0).length with h0 | h0
  · exact absurd (fre_none.2 h0) h
  · exact h0
theorem opn_grw (h : 0 ≤ a ∧ a ≤ 65535) : opnE S.F a = grwE S 1 a ∧ (opnE S.F a = 0 → opnO S.F a = nam 1 S.F ∧ opnX S.F a = grw S.F a) := by
  have e : grwE S 1 a = if fre S.F = none then 4 else 0 := by
    unfold grwE
    rw [if_neg (by rintro ⟨q, _⟩; exact absurd q (by decide)), if_neg (by rintro ⟨q, _⟩; exact absurd q (by decide))]
    rfl
  rw [e]
  by_cases hf : fre S.F = none
  · rw [if_pos hf]
    have h1 := opn_full (X := S.F) h (fre_none.1 hf)
    exact ⟨h1.2.1, fun q => absurd (h1.2.1.symm.trans q) (by decide)⟩
  · rw [if_neg hf]
    have hp := fre_pos (fre_pos' hf)
    have h1 := opn_ok (X := S.F) (v := a) h hp
    refine ⟨h1.2.1, fun _ => ⟨?_, ?_⟩⟩
    · rw [h1.1]; unfold nam; rw [hp]
    · rw [h1.2.2]; unfold grw; rw [hp]
theorem pin_grw (h : 1 ≤ a ∧ a ≤ 65536) : pinE S.B a = grwE S 2 a ∧ (pinE S.B a = 0 → pinO S.B a = nam 2 S.B ∧ pinX S.B a = grw S.B a) := by
  refine ⟨?_, fun q => ⟨if_pos q, if_pos q⟩⟩
  unfold grwE pinE
  by_cases h1 : 1048576 < used S.B + a
  · rw [if_pos h1, if_pos ⟨rfl, h1⟩]
  · rw [if_neg h1, if_neg (fun q => h1 q.2), if_neg (by rintro ⟨q, _⟩; exact absurd q (by decide))]
    rfl
theorem gnt_grw (h : 1 ≤ a ∧ a ≤ 1048576) : gntE S.D a S.now = grwE S 3 a ∧ (gntE S.D a S.now = 0 → gntO S.D a S.now = nam 3 S.D ∧ gntX S.D a S.now = grw S.D (S.now + a)) := by
  refine ⟨?_, fun q => ⟨if_pos q, if_pos q⟩⟩
  have e1 : ¬ ((3 : Int) = 2 ∧ 1048576 < used S.B + a) := fun q => absurd q.1 (by decide)
  by_cases h1 : 1099511627776 - a < S.now
  · exact (if_pos h1 : gntE S.D a S.now = 17).trans ((if_neg e1).trans (if_pos ⟨rfl, h1⟩)).symm
  · exact (if_neg h1 : gntE S.D a S.now = tkE S.D).trans ((if_neg e1).trans (if_neg (fun q => h1 q.2))).symm
theorem acq_ok1 (h : 0 ≤ a ∧ a ≤ 65535) (he : opnE S.F a = 0) (hq2 : S.q.headD 1 ≠ 2) (hq : S.q.headD 1 ≠ 3) : acqE S 1 a = 0 ∧ acqO S 1 a = opnO S.F a ∧ acqS S 1 a = { S with q := S.q.tail, F := opnX S.F a } := by
  obtain ⟨h1, h2⟩ := opn_grw (S := S) h
  obtain ⟨h3, h4⟩ := h2 he
  obtain ⟨h5, h6, h7⟩ := acq_ok (S := S) (god1 h) (h1 ▸ he) hq2 hq
  exact ⟨h5, h6.trans h3.symm, h7.trans (by rw [h4]; rfl)⟩
theorem acq_ok2 (h : 1 ≤ a ∧ a ≤ 65536) (he : pinE S.B a = 0) (hq2 : S.q.headD 1 ≠ 2) (hq : S.q.headD 1 ≠ 3) : acqE S 2 a = 0 ∧ acqO S 2 a = pinO S.B a ∧ acqS S 2 a = { S with q := S.q.tail, B := pinX S.B a } := by
  obtain ⟨h1, h2⟩ := pin_grw (S := S) h
  obtain ⟨h3, h4⟩ := h2 he
  obtain ⟨h5, h6, h7⟩ := acq_ok (S := S) (god2 h) (h1 ▸ he) hq2 hq
  exact ⟨h5, h6.trans h3.symm, h7.trans (by rw [h4]; rfl)⟩
theorem acq_ok3 (h : 1 ≤ a ∧ a ≤ 1048576) (he : gntE S.D a S.now = 0) (hq2 : S.q.headD 1 ≠ 2) (hq : S.q.headD 1 ≠ 3) : acqE S 3 a = 0 ∧ acqO S 3 a = gntO S.D a S.now ∧ acqS S 3 a = { S with q := S.q.tail, D := gntX S.D a S.now } := by
  obtain ⟨h1, h2⟩ := gnt_grw (S := S) h
  obtain ⟨h3, h4⟩ := h2 he
  obtain ⟨h5, h6, h7⟩ := acq_ok (S := S) (god3 h) (h1 ▸ he) hq2 hq
  exact ⟨h5, h6.trans h3.symm, h7.trans (by rw [h4]; rfl)⟩
/-- Releasing. -/
theorem rel_arg (h : ¬ KGood o ∨ wy < 1 ∨ 3 < wy) : relE S o wy = 2 ∧ relA S o wy = 0 ∧ relS S o wy = S := by
  have e : relE S o wy = 2 := if_pos h
  exact ⟨e, if_neg (by rw [e]; decide), if_pos (by rw [e]; decide)⟩
theorem rel_none (h : KGood o) (hw : 1 ≤ wy ∧ wy ≤ 3) (hT : ¬ Thr S o) : relE S o wy = 5 ∧ relA S o wy = 0 ∧ relS S o wy = S := by
  have e : relE S o wy = 5 := by unfold relE; rw [if_neg (by rintro (q | q); exact q h; omega), if_pos hT]
  exact ⟨e, if_neg (by rw [e]; decide), if_pos (by rw [e]; decide)⟩
theorem rel_full (hw : 1 ≤ wy ∧ wy ≤ 3) (hT : Thr S o) (hn : 10000 ≤ S.T.length) : relE S o wy = 4 ∧ relA S o wy = 0 ∧ relS S o wy = S := by
  have e : relE S o wy = 4 := by unfold relE; rw [if_neg (by rintro (q | q); exact q hT.1; omega), if_neg (fun q => q hT), if_pos hn]
  exact ⟨e, if_neg (by rw [e]; decide), if_pos (by rw [e]; decide)⟩
theorem rel_ok (hw : 1 ≤ wy ∧ wy ≤ 3) (hT : Thr S o) (hn : S.T.length < 10000) : relE S o wy = 0 ∧ relA S o wy = S.q.headD 1 ∧ relS S o wy = if S.q.headD 1 = 1 then ({ S with q := S.q.tail, T := S.T ++ [⟨S.now, o, wy, S.q.headD 1⟩] } : Wst).put o.1 (giv (S.tab o.1) o) else { S with q := S.q.tail, T := S.T ++ [⟨S.now, o, wy, S.q.headD 1⟩] } := by
  have e : relE S o wy = 0 := by unfold relE; rw [if_neg (by rintro (q | q); exact q hT.1; omega), if_neg (fun q => q hT), if_neg (by omega)]
  exact ⟨e, if_pos e, if_neg (by rw [e]; decide)⟩
theorem rel_attP (hW : WOk S) (h : KGood o) (hw : 1 ≤ wy ∧ wy ≤ 3) : attP ⟨S.now, o, wy, S.q.headD 1⟩ := by
  have := headD_bd hW.qb
  exact ⟨hW.nl, hW.nh, kgood_iff.2 h, hw.1, hw.2, this.1, this.2⟩
theorem cls_giv (hT : Thr S (1, y, z)) : clsX S.F (1, y, z) = giv S.F (1, y, z) := by
  obtain ⟨hg, h1⟩ := hT
  have h2 : errA (As S.F) (1, y, z) = 0 := chk_ok (As S.F) (q := y.toNat) (s := (1, z)) rfl hg.2.2.2.1 hg.2.2.2.2 (thr_nat hg) h1 ⟨rfl, rfl⟩
  unfold clsX giv
  rw [if_pos h2]
end
end Go.Proofs.YtggfnbpohmhphaaDoor

/- Walks, printed by my generator o12.py. -/
namespace Go.Proofs.YtggfnbpohmhphaaDoor
set_option maxHeartbeats 4000000 in
theorem god_1y (a : Int) (ha : 0 ≤ a ∧ a ≤ 65535) : HT Tryd.prog 24 [iV 1, iV a] [] (fun v K => v = .bool true ∧ K = []) := by
 refine hiS Tryd.func24 Tryd.ntmps24 fun g w0 R h0 => go [.v 3 1 (oT (a ≥ 0)), .v 3 4 (oT (a ≤ 65535))] ?_
 exact en (.bool true) [] ⟨_, _, rfl, ⟨rfl, rfl⟩, h0⟩

set_option maxHeartbeats 4000000 in
theorem god_1n (a : Int) (ha : a < 0 ∨ 65535 < a) : HT Tryd.prog 24 [iV 1, iV a] [] (fun v K => v = .bool false ∧ K = []) := by
 refine hiS Tryd.func24 Tryd.ntmps24 fun g w0 R h0 => go [.s 3 1] ?_
 by_cases c10 : a ≥ 0
 ·
  refine go [.v 3 1 (oT (a ≥ 0)), .v 3 4 (oF (a ≤ 65535))] ?_
  exact en (.bool false) [] ⟨_, _, rfl, ⟨rfl, rfl⟩, h0⟩
 refine go [.v 3 1 (oF (a ≥ 0))] ?_
 exact en (.bool false) [] ⟨_, _, rfl, ⟨rfl, rfl⟩, h0⟩

set_option maxHeartbeats 4000000 in
theorem god_2y (a : Int) (ha : 1 ≤ a ∧ a ≤ 65536) : HT Tryd.prog 24 [iV 2, iV a] [] (fun v K => v = .bool true ∧ K = []) := by
 refine hiS Tryd.func24 Tryd.ntmps24 fun g w0 R h0 => go [.v 5 1 (oT (a ≥ 1)), .v 5 4 (oT (a ≤ 65536))] ?_
 exact en (.bool true) [] ⟨_, _, rfl, ⟨rfl, rfl⟩, h0⟩

set_option maxHeartbeats 4000000 in
theorem god_2n (a : Int) (ha : a < 1 ∨ 65536 < a) : HT Tryd.prog 24 [iV 2, iV a] [] (fun v K => v = .bool false ∧ K = []) := by
 refine hiS Tryd.func24 Tryd.ntmps24 fun g w0 R h0 => go [.s 5 1] ?_
 by_cases c10 : a ≥ 1
 ·
  refine go [.v 5 1 (oT (a ≥ 1)), .v 5 4 (oF (a ≤ 65536))] ?_
  exact en (.bool false) [] ⟨_, _, rfl, ⟨rfl, rfl⟩, h0⟩
 refine go [.v 5 1 (oF (a ≥ 1))] ?_
 exact en (.bool false) [] ⟨_, _, rfl, ⟨rfl, rfl⟩, h0⟩

set_option maxHeartbeats 4000000 in
theorem god_3y (a : Int) (ha : 1 ≤ a ∧ a ≤ 1048576) : HT Tryd.prog 24 [iV 3, iV a] [] (fun v K => v = .bool true ∧ K = []) := by
 refine hiS Tryd.func24 Tryd.ntmps24 fun g w0 R h0 => go [] <| cl0 Tryd.call31 (ospan_y a (by omega)) h0 fun _ h11 => go [] ?_
 exact en (.bool true) [] ⟨_, _, rfl, ⟨rfl, rfl⟩, h11⟩

set_option maxHeartbeats 4000000 in
theorem god_3n (a : Int) (ha : a < 1 ∨ 1048576 < a) : HT Tryd.prog 24 [iV 3, iV a] [] (fun v K => v = .bool false ∧ K = []) := by
 refine hiS Tryd.func24 Tryd.ntmps24 fun g w0 R h0 => go [] ?_
 by_cases c10 : 1 ≤ a
 ·
  refine cl0 Tryd.call31 (ospan_n a (by omega)) h0 fun _ h12 => go [] ?_
  exact en (.bool false) [] ⟨_, _, rfl, ⟨rfl, rfl⟩, h12⟩
 refine cl0 Tryd.call31 (ospan_n a (by omega)) h0 fun _ h14 => go [] ?_
 exact en (.bool false) [] ⟨_, _, rfl, ⟨rfl, rfl⟩, h14⟩

set_option maxHeartbeats 4000000 in
theorem god_0 (k a : Int) (hk : k < 1 ∨ 3 < k) : HT Tryd.prog 24 [iV k, iV a] [] (fun v K => v = .bool false ∧ K = []) := by
 refine hiS Tryd.func24 Tryd.ntmps24 fun g w0 R h0 => go [.v 2 0 (qeF k 1), .v 4 0 (qeF k 2), .v 6 0 (qeF k 3)] ?_
 exact en (.bool false) [] ⟨_, _, rfl, ⟨rfl, rfl⟩, h0⟩

set_option maxHeartbeats 4000000 in
theorem grown_1 (b f p d s l : Nat) (S : Wst) (hW : WOk S) (a : Int) (ha : 0 ≤ a ∧ a ≤ 65535) : HT Tryd.prog 25 [pV b, iV 1, iV a] [Cl b [Value.nilIface, .iface 48 (pV f), .iface 51 (pV p), .iface 54 (pV d), pV s, pV l, iV S.now] 63, Fd f 64 S.F, Pl p S.B, Dk d S.D, Sr 93 s S.q, Lg l S.T] (fun v K => ∃ c : Nat, v = .tuple #[.iface 48 (pV c), .agg #[iV ((opnO S.F a).1), iV ((opnO S.F a).2.1), uV ((opnO S.F a).2.2)], iV ((opnE S.F a))] ∧ K = [Cl b [Value.nilIface, .iface 48 (pV f), .iface 51 (pV p), .iface 54 (pV d), pV s, pV l, iV S.now] 63, Fd f 64 S.F, Pl p S.B, Dk d S.D, Sr 93 s S.q, Lg l S.T, Fd c 64 (opnX S.F a)]) := by
 refine hiS Tryd.func25 Tryd.ntmps25 fun g w0 R h0 => ?_
 have hWn := hW.nl; have hWm := hW.nh; have hWt := hW.tn
 refine go [] <| nP 35 [iV 0, iV 0, uV 0] h0 (fun _ _ h12 => ?_)
 refine go [.s 1 4] <| lwP (.pointer (some ⟨b, 1, none⟩)) (law_indexArr (x := (Operand.tmp 24)) (i := (Operand.tmp 22)) (b := b) (off := 0) (z := 1) (by kernel_rfl) Tryd.underlying61 1 (by kernel_rfl) 1 (by kernel_rfl) (by kernel_rfl) (by omega) (by omega) 1 (by omega) _) ?_
 have h14 := tk8 (sf7 (sf6 (sf6 (sf7 (sf7 (sf7 (sf7 (sf7 h12))))))))
 refine go [rd 1 5 1 1 1 h12] <| cP Tryd.call38 (fcopy_ht f 64 S.F) h14 ?_
 rintro v K _ (⟨b13, rfl, rfl⟩) h16
 have h18 := tk9 (sf8 (sf7 (sf8 (sf8 (sf8 (sf8 (sf8 (sf8 (sf8 (ap2 h16))))))))))
 refine go [] <| cl1 Tryd.call39 (fopen_ht b13 64 S.F a) h18 fun _ h20 => go [] <| nP 35 [iV 0, iV 0, uV 0] h20 (fun _ _ h23 => ?_)
 refine sP [(0, iV ((opnO S.F a).1)), (1, iV ((opnO S.F a).2.1)), (2, uV ((opnO S.F a).2.2))] [iV ((opnO S.F a).1), iV ((opnO S.F a).2.1), uV ((opnO S.F a).2.2)] h23 fun _ h25 => go [] <| dw (fls [0, 1, 2, 3, 4] (Tr.an 5 (Tr.fl 6 Tr.nil))) h25 fun _ h27 => go [.s 6 1] <| lw (.iface 48 (pV b13)) (fun _ => law_mkIface (t := 48) (x := (Operand.tmp 38)) (by kernel_rfl) Tryd.underlying48 rfl (pV b13) (by kernel_rfl) _) ?_
 have h28 := tk10 (sf9 (sf8 (sf8 (sf8 (sf9 (sf9 (sf9 (sf9 (sf9 (sf9 h27))))))))))
 refine go [rd 6 2 0 0 3 h27] <| sG [(0, iV ((opnO S.F a).1)), (1, iV ((opnO S.F a).2.1)), (2, uV ((opnO S.F a).2.2))] [iV ((opnO S.F a).1), iV ((opnO S.F a).2.1), uV ((opnO S.F a).2.2)] h28 fun _ h30 => ⟨kd [], ?_⟩
 refine go [] ?_
 exact en (.tuple #[.iface 48 (pV b13), .agg #[iV ((opnO S.F a).1), iV ((opnO S.F a).2.1), uV ((opnO S.F a).2.2)], iV ((opnE S.F a))]) [rd 0 0 0 0 3 h30] ⟨_, _, rfl, ⟨b13, rfl, rfl⟩, (tk8 (sf7 (sf7 (sf7 (sf7 (sf7 (sf7 (sf7 (sf9 (tk10 (sf9 (sf8 (sf9 (sf9 (sf9 (sf9 (sf3 (sf2 (sf2 (sf9 h30))))))))))))))))))))⟩

set_option maxHeartbeats 4000000 in
theorem grown_2 (b f p d s l : Nat) (S : Wst) (hW : WOk S) (a : Int) (ha : 1 ≤ a ∧ a ≤ 65536) : HT Tryd.prog 25 [pV b, iV 2, iV a] [Cl b [Value.nilIface, .iface 48 (pV f), .iface 51 (pV p), .iface 54 (pV d), pV s, pV l, iV S.now] 63, Fd f 64 S.F, Pl p S.B, Dk d S.D, Sr 93 s S.q, Lg l S.T] (fun v K => ∃ c : Nat, v = .tuple #[.iface 51 (pV c), .agg #[iV ((pinO S.B a).1), iV ((pinO S.B a).2.1), uV ((pinO S.B a).2.2)], iV ((pinE S.B a))] ∧ K = [Cl b [Value.nilIface, .iface 48 (pV f), .iface 51 (pV p), .iface 54 (pV d), pV s, pV l, iV S.now] 63, Fd f 64 S.F, Pl p S.B, Dk d S.D, Sr 93 s S.q, Lg l S.T, Pl c (pinX S.B a)]) := by
 refine hiS Tryd.func25 Tryd.ntmps25 fun g w0 R h0 => ?_
 have hWn := hW.nl; have hWm := hW.nh; have hWt := hW.tn
 refine go [] <| nP 35 [iV 0, iV 0, uV 0] h0 (fun _ _ h12 => ?_)
 refine go [.s 1 4] <| lwP (.pointer (some ⟨b, 2, none⟩)) (law_indexArr (x := (Operand.tmp 24)) (i := (Operand.tmp 22)) (b := b) (off := 0) (z := 2) (by kernel_rfl) Tryd.underlying61 1 (by kernel_rfl) 2 (by kernel_rfl) (by kernel_rfl) (by omega) (by omega) 2 (by omega) _) ?_
 have h14 := tk8 (sf7 (sf6 (sf6 (sf6 (sf7 (sf7 (sf7 (sf7 h12))))))))
 refine go [rd 1 5 1 2 1 h12] <| cP Tryd.call40 (pcopy_ht p S.B) h14 ?_
 rintro v K _ (⟨b13, rfl, rfl⟩) h16
 have h18 := tk9 (sf8 (sf7 (sf8 (sf8 (sf8 (sf8 (sf8 (sf8 (sf8 (ap2 h16))))))))))
 refine go [] <| cl1 Tryd.call41 (pin_ht b13 S.B a (by omega)) h18 fun _ h20 => go [] <| nP 35 [iV 0, iV 0, uV 0] h20 (fun _ _ h23 => ?_)
 refine sP [(0, iV ((pinO S.B a).1)), (1, iV ((pinO S.B a).2.1)), (2, uV ((pinO S.B a).2.2))] [iV ((pinO S.B a).1), iV ((pinO S.B a).2.1), uV ((pinO S.B a).2.2)] h23 fun _ h25 => go [] <| dw (fls [0, 1, 2, 3, 4] (Tr.an 5 (Tr.fl 6 Tr.nil))) h25 fun _ h27 => go [.s 11 1] <| lw (.iface 51 (pV b13)) (fun _ => law_mkIface (t := 51) (x := (Operand.tmp 53)) (by kernel_rfl) Tryd.underlying51 rfl (pV b13) (by kernel_rfl) _) ?_
 have h28 := tk10 (sf9 (sf8 (sf8 (sf8 (sf9 (sf9 (sf9 (sf9 (sf9 (sf9 h27))))))))))
 refine go [rd 11 2 0 0 3 h27] <| sG [(0, iV ((pinO S.B a).1)), (1, iV ((pinO S.B a).2.1)), (2, uV ((pinO S.B a).2.2))] [iV ((pinO S.B a).1), iV ((pinO S.B a).2.1), uV ((pinO S.B a).2.2)] h28 fun _ h30 => ⟨kd [], ?_⟩
 refine go [] ?_
 exact en (.tuple #[.iface 51 (pV b13), .agg #[iV ((pinO S.B a).1), iV ((pinO S.B a).2.1), uV ((pinO S.B a).2.2)], iV ((pinE S.B a))]) [rd 0 0 0 0 3 h30] ⟨_, _, rfl, ⟨b13, rfl, rfl⟩, (tk8 (sf7 (sf7 (sf7 (sf7 (sf7 (sf7 (sf7 (sf9 (tk10 (sf9 (sf9 (sf7 (sf9 (sf9 (sf9 (sf3 (sf2 (sf2 (sf9 h30))))))))))))))))))))⟩

set_option maxHeartbeats 4000000 in
theorem grown_3 (b f p d s l : Nat) (S : Wst) (hW : WOk S) (a : Int) (ha : 1 ≤ a ∧ a ≤ 1048576) : HT Tryd.prog 25 [pV b, iV 3, iV a] [Cl b [Value.nilIface, .iface 48 (pV f), .iface 51 (pV p), .iface 54 (pV d), pV s, pV l, iV S.now] 63, Fd f 64 S.F, Pl p S.B, Dk d S.D, Sr 93 s S.q, Lg l S.T] (fun v K => ∃ c : Nat, v = .tuple #[.iface 54 (pV c), .agg #[iV ((gntO S.D a S.now).1), iV ((gntO S.D a S.now).2.1), uV ((gntO S.D a S.now).2.2)], iV ((gntE S.D a S.now))] ∧ K = [Cl b [Value.nilIface, .iface 48 (pV f), .iface 51 (pV p), .iface 54 (pV d), pV s, pV l, iV S.now] 63, Fd f 64 S.F, Pl p S.B, Dk d S.D, Sr 93 s S.q, Lg l S.T, Dk c (gntX S.D a S.now)]) := by
 refine hiS Tryd.func25 Tryd.ntmps25 fun g w0 R h0 => ?_
 have hWn := hW.nl; have hWm := hW.nh; have hWt := hW.tn
 refine go [] <| nP 35 [iV 0, iV 0, uV 0] h0 (fun _ _ h12 => ?_)
 refine go [.s 1 4] <| lwP (.pointer (some ⟨b, 3, none⟩)) (law_indexArr (x := (Operand.tmp 24)) (i := (Operand.tmp 22)) (b := b) (off := 0) (z := 3) (by kernel_rfl) Tryd.underlying61 1 (by kernel_rfl) 3 (by kernel_rfl) (by kernel_rfl) (by omega) (by omega) 3 (by omega) _) ?_
 have h14 := tk8 (sf7 (sf6 (sf6 (sf6 (sf6 (sf7 (sf7 (sf7 h12))))))))
 refine go [rd 1 5 1 3 1 h12] <| cP Tryd.call42 (lcopy_ht d S.D) h14 ?_
 rintro v K _ (⟨b13, rfl, rfl⟩) h16
 have h17 := ap2 h16
 have h18 := tk9 (sf8 (sf7 (sf8 (sf8 (sf8 (sf8 (sf8 (sf8 (sf8 h17)))))))))
 refine go [rd 15 5 3 6 1 h17] <| cl1 Tryd.call43 (grant_ht b13 S.D a S.now (by omega) (by omega)) h18 fun _ h20 => go [] <| nP 35 [iV 0, iV 0, uV 0] h20 (fun _ _ h23 => ?_)
 refine sP [(0, iV ((gntO S.D a S.now).1)), (1, iV ((gntO S.D a S.now).2.1)), (2, uV ((gntO S.D a S.now).2.2))] [iV ((gntO S.D a S.now).1), iV ((gntO S.D a S.now).2.1), uV ((gntO S.D a S.now).2.2)] h23 fun _ h25 => go [] <| dw (fls [0, 1, 2, 3, 4] (Tr.an 5 (Tr.fl 6 Tr.nil))) h25 fun _ h27 => go [.s 16 1] <| lw (.iface 54 (pV b13)) (fun _ => law_mkIface (t := 54) (x := (Operand.tmp 72)) (by kernel_rfl) Tryd.underlying54 rfl (pV b13) (by kernel_rfl) _) ?_
 have h28 := tk10 (sf9 (sf8 (sf8 (sf8 (sf9 (sf9 (sf9 (sf9 (sf9 (sf9 h27))))))))))
 refine go [rd 16 2 0 0 3 h27] <| sG [(0, iV ((gntO S.D a S.now).1)), (1, iV ((gntO S.D a S.now).2.1)), (2, uV ((gntO S.D a S.now).2.2))] [iV ((gntO S.D a S.now).1), iV ((gntO S.D a S.now).2.1), uV ((gntO S.D a S.now).2.2)] h28 fun _ h30 => ⟨kd [], ?_⟩
 refine go [] ?_
 exact en (.tuple #[.iface 54 (pV b13), .agg #[iV ((gntO S.D a S.now).1), iV ((gntO S.D a S.now).2.1), uV ((gntO S.D a S.now).2.2)], iV ((gntE S.D a S.now))]) [rd 0 0 0 0 3 h30] ⟨_, _, rfl, ⟨b13, rfl, rfl⟩, (tk8 (sf7 (sf7 (sf7 (sf7 (sf7 (sf7 (sf7 (sf9 (tk10 (sf9 (sf9 (sf9 (sf6 (sf9 (sf9 (sf3 (sf2 (sf2 (sf9 h30))))))))))))))))))))⟩

set_option maxHeartbeats 4000000 in
theorem wacq_1 (b : Nat) (S : Wst) (a : Int) (ha : 0 ≤ a ∧ a ≤ 65535) : HT Tryd.prog 9 [pV b, iV 1, iV a] [Wd b S] (fun v K => v = .tuple #[.agg #[iV (acqO S 1 a).1, iV (acqO S 1 a).2.1, uV (acqO S 1 a).2.2], iV (acqE S 1 a)] ∧ K = [Wd b (acqS S 1 a)]) := by
 refine hiS Tryd.func9 Tryd.ntmps9 fun g w0 R h0 => ?_
 obtain ⟨f10, p11, d12, s13, l14, hW15, h16⟩ := wd_open h0
 have hW15n := hW15.nl; have hW15m := hW15.nh; have hW15t := hW15.tn
 refine go [] <| nP 35 [iV 0, iV 0, uV 0] h16 (fun r17 _ h19 => ?_)
 have h20 := tk8 (sf7 (sf6 (sf7 (sf7 (sf7 (sf7 (sf7 (sf7 h19))))))))
 refine go [] <| cl1 Tryd.call22 (wvalid_cl b l14 Value.nilIface (.iface 48 (pV f10)) (.iface 51 (pV p11)) (.iface 54 (pV d12)) (pV s13) (iV S.now)) h20 fun _ h22 => go [] <| cl0 Tryd.call24 (god_1y a (by omega)) h22 fun _ h24 => ?_
 have h26 := tk8 (sf7 (sf7 (sf7 (sf7 (sf7 (sf7 (sf2 (sf7 h24))))))))
 refine go [] <| cP Tryd.call25 (grown_1 b f10 p11 d12 s13 l14 S hW15 a (by omega)) h26 ?_
 rintro v K _ (⟨c25, rfl, rfl⟩) h28
 have h29 := ap7 h28
 refine go [] <| nP 35 [iV 0, iV 0, uV 0] h29 (fun r30 _ h32 => ?_)
 refine go [] <| sP [(0, iV ((opnO S.F a).1)), (1, iV ((opnO S.F a).2.1)), (2, uV ((opnO S.F a).2.2))] [iV ((opnO S.F a).1), iV ((opnO S.F a).2.1), uV ((opnO S.F a).2.2)] h32 fun _ h34 => go [.s 6 1] ?_
 by_cases c35 : (opnE S.F a) = 0
 ·
  have h36 := tk10 (sf9 (sf8 (sf8 (sf8 (sf8 (sf8 (sf9 (sf9 (sf9 (sf9 h34))))))))))
  refine go [.v 6 1 (qnF ((opnE S.F a)) 0), rd 8 3 1 4 1 h34] <| cl1 Tryd.call26 (next_ht s13 S.q) h36 fun _ h38 => go [.s 9 0] ?_
  by_cases c39 : (S.q.headD 1) = 2
  ·
   have h40 := tk10 (sf9 (sf8 (sf8 (sf8 (sf8 (sf8 (sf8 (sf8 (sf8 (sf9 h38))))))))))
   refine go [.v 9 0 (qeT ((S.q.headD 1)) 2)] <| sP [(0, iV 0), (1, iV 0), (2, uV 0)] [iV 0, iV 0, uV 0] h40 fun w41 h42 => go [] ?_
   have hp_ := acq_later (S := S) (god1 ha) ((opn_grw (S := S) ha).1.symm.trans (by omega)) (by omega)
   have h43 := tk10 (sf9 (sf9 (sf9 (sf9 (sf5 (sf9 (sf3 (sf4 (sf9 (sf9 h42))))))))))
   have h44 : sat g w41 [Wd b ({ S with q := S.q.tail } : Wst), Cl r17 [iV 0, iV 0, uV 0] 35, Cl r30 [iV ((opnO S.F a).1), iV ((opnO S.F a).2.1), uV ((opnO S.F a).2.2)] 35, Fd c25 64 (opnX S.F a), R] := wd_close (hp_.2.2 ▸ wok_acq hW15 1 a) h43
   exact en (.tuple #[.agg #[iV 0, iV 0, uV 0], iV 15]) [rd 0 0 0 0 3 h42] ⟨_, [Wd b ({ S with q := S.q.tail } : Wst)], rfl, ⟨by rw [hp_.1, hp_.2.1], by rw [hp_.2.2]⟩, (tk2 (sf1 (sf4 h44)))⟩
  refine go [.v 9 0 (qeF ((S.q.headD 1)) 2), .s 11 0] ?_
  by_cases c46 : (S.q.headD 1) = 3
  ·
   have h47 := tk10 (sf9 (sf8 (sf8 (sf8 (sf8 (sf8 (sf8 (sf8 (sf8 (sf9 h38))))))))))
   refine go [.v 11 0 (qeT ((S.q.headD 1)) 3)] <| sP [(0, iV 0), (1, iV 0), (2, uV 0)] [iV 0, iV 0, uV 0] h47 fun w48 h49 => go [] ?_
   have hp_ := acq_fail (S := S) (god1 ha) ((opn_grw (S := S) ha).1.symm.trans (by omega)) (by omega) (by omega)
   have h50 := tk10 (sf9 (sf9 (sf9 (sf9 (sf5 (sf9 (sf3 (sf4 (sf9 (sf9 h49))))))))))
   have h51 : sat g w48 [Wd b ({ S with q := S.q.tail } : Wst), Cl r17 [iV 0, iV 0, uV 0] 35, Cl r30 [iV ((opnO S.F a).1), iV ((opnO S.F a).2.1), uV ((opnO S.F a).2.2)] 35, Fd c25 64 (opnX S.F a), R] := wd_close (hp_.2.2 ▸ wok_acq hW15 1 a) h50
   exact en (.tuple #[.agg #[iV 0, iV 0, uV 0], iV 14]) [rd 0 0 0 0 3 h49] ⟨_, [Wd b ({ S with q := S.q.tail } : Wst)], rfl, ⟨by rw [hp_.1, hp_.2.1], by rw [hp_.2.2]⟩, (tk2 (sf1 (sf4 h51)))⟩
  refine go [.v 11 0 (qeF ((S.q.headD 1)) 3), .s 13 5] <| lwP (.pointer (some ⟨b, 1, none⟩)) (law_indexArr (x := (Operand.tmp 49)) (i := (Operand.tmp 46)) (b := b) (off := 0) (z := 1) (by kernel_rfl) Tryd.underlying61 1 (by kernel_rfl) 1 (by kernel_rfl) (by kernel_rfl) (by omega) (by omega) 1 (by omega) _) <| sP [(1, .iface 48 (pV c25))] [Value.nilIface, .iface 48 (pV c25), .iface 51 (pV p11), .iface 54 (pV d12), pV s13, pV l14, iV S.now] (tk10 (sf9 (sf8 (sf8 (sf9 (sf9 (sf9 (sf9 (sf9 (sf9 (sf9 h38))))))))))) fun _ h55 => ?_
  have h56 := tk10 (sf9 (sf8 (sf8 (sf8 (sf8 (sf8 (sf8 (sf8 (sf8 (sf9 h55))))))))))
  refine go [rd 14 0 2 0 3 h55] <| sP [(0, iV ((opnO S.F a).1)), (1, iV ((opnO S.F a).2.1)), (2, uV ((opnO S.F a).2.2))] [iV ((opnO S.F a).1), iV ((opnO S.F a).2.1), uV ((opnO S.F a).2.2)] h56 fun w57 h58 => go [] ?_
  have hp_ := acq_ok1 (S := S) ha (by omega) (by omega) (by omega)
  have h59 := tk10 (sf9 (sf9 (sf8 (sf8 (sf6 (sf8 (sf3 (sf5 (sf5 (sf9 h58))))))))))
  have h60 : sat g w57 [Wd b ({ S with q := S.q.tail, F := opnX S.F a } : Wst), Cl r17 [iV ((opnO S.F a).1), iV ((opnO S.F a).2.1), uV ((opnO S.F a).2.2)] 35, Cl r30 [iV ((opnO S.F a).1), iV ((opnO S.F a).2.1), uV ((opnO S.F a).2.2)] 35, Fd f10 64 S.F, R] := wd_close (hp_.2.2 ▸ wok_acq hW15 1 a) h59
  exact en (.tuple #[.agg #[iV ((opnO S.F a).1), iV ((opnO S.F a).2.1), uV ((opnO S.F a).2.2)], iV 0]) [rd 0 0 0 0 3 h58] ⟨_, [Wd b ({ S with q := S.q.tail, F := opnX S.F a } : Wst)], rfl, ⟨by rw [hp_.1, hp_.2.1], by rw [hp_.2.2]⟩, (tk2 (sf1 (sf4 h60)))⟩
 have h62 := tk10 (sf9 (sf8 (sf8 (sf8 (sf8 (sf8 (sf8 (sf8 (sf8 (sf9 h34))))))))))
 refine go [.v 6 1 (qnT ((opnE S.F a)) 0)] <| sP [(0, iV 0), (1, iV 0), (2, uV 0)] [iV 0, iV 0, uV 0] h62 fun w63 h64 => go [] ?_
 have hp_ := acq_err (S := S) (god1 ha) (opn_grw (S := S) ha).1.symm (by omega)
 have h66 : sat g w63 [Wd b S, Cl r17 [iV 0, iV 0, uV 0] 35, Cl r30 [iV ((opnO S.F a).1), iV ((opnO S.F a).2.1), uV ((opnO S.F a).2.2)] 35, Fd c25 64 (opnX S.F a), R] := wd_close hW15 (tk10 (sf9 (sf9 (sf9 (sf9 (sf9 (sf9 (sf3 (sf3 (sf9 (sf9 h64)))))))))))
 exact en (.tuple #[.agg #[iV 0, iV 0, uV 0], iV ((opnE S.F a))]) [rd 0 0 0 0 3 h64] ⟨_, [Wd b S], rfl, ⟨by rw [hp_.1, hp_.2.1], by rw [hp_.2.2]⟩, (tk2 (sf1 (sf4 h66)))⟩

set_option maxHeartbeats 4000000 in
theorem wacq_1n (b : Nat) (S : Wst) (a : Int) (ha : a < 0 ∨ 65535 < a) (hng : ¬ godP 1 a) : HT Tryd.prog 9 [pV b, iV 1, iV a] [Wd b S] (fun v K => v = .tuple #[.agg #[iV (acqO S 1 a).1, iV (acqO S 1 a).2.1, uV (acqO S 1 a).2.2], iV (acqE S 1 a)] ∧ K = [Wd b (acqS S 1 a)]) := by
 refine hiS Tryd.func9 Tryd.ntmps9 fun g w0 R h0 => ?_
 obtain ⟨f10, p11, d12, s13, l14, hW15, h16⟩ := wd_open h0
 have hW15n := hW15.nl; have hW15m := hW15.nh; have hW15t := hW15.tn
 refine go [] <| nP 35 [iV 0, iV 0, uV 0] h16 (fun r17 _ h19 => ?_)
 have h20 := tk8 (sf7 (sf6 (sf7 (sf7 (sf7 (sf7 (sf7 (sf7 h19))))))))
 refine go [] <| cl1 Tryd.call22 (wvalid_cl b l14 Value.nilIface (.iface 48 (pV f10)) (.iface 51 (pV p11)) (.iface 54 (pV d12)) (pV s13) (iV S.now)) h20 fun _ h22 => go [] ?_
 by_cases c23 : 0 ≤ a
 ·
  refine cl0 Tryd.call24 (god_1n a (by omega)) h22 fun _ h25 => ?_
  have h26 := tk8 (sf7 (sf6 (sf7 (sf7 (sf7 (sf7 (sf7 (sf7 h25))))))))
  refine go [] <| sP [(0, iV 0), (1, iV 0), (2, uV 0)] [iV 0, iV 0, uV 0] h26 fun w27 h28 => go [] ?_
  have hp_ := acq_arg (S := S) (k := 1) (a := a) hng
  have h30 : sat g w27 [Wd b S, Cl r17 [iV 0, iV 0, uV 0] 35, R] := wd_close hW15 (tk8 (sf7 (sf7 (sf7 (sf7 (sf7 (sf7 (sf1 (sf7 h28)))))))))
  exact en (.tuple #[.agg #[iV 0, iV 0, uV 0], iV 2]) [rd 0 0 0 0 3 h28] ⟨_, [Wd b S], rfl, ⟨by rw [hp_.1, hp_.2.1], by rw [hp_.2.2]⟩, (tk2 (sf1 (sf2 h30)))⟩
 refine cl0 Tryd.call24 (god_1n a (by omega)) h22 fun _ h33 => ?_
 have h34 := tk8 (sf7 (sf6 (sf7 (sf7 (sf7 (sf7 (sf7 (sf7 h33))))))))
 refine go [] <| sP [(0, iV 0), (1, iV 0), (2, uV 0)] [iV 0, iV 0, uV 0] h34 fun w35 h36 => go [] ?_
 have hp_ := acq_arg (S := S) (k := 1) (a := a) hng
 have h38 : sat g w35 [Wd b S, Cl r17 [iV 0, iV 0, uV 0] 35, R] := wd_close hW15 (tk8 (sf7 (sf7 (sf7 (sf7 (sf7 (sf7 (sf1 (sf7 h36)))))))))
 exact en (.tuple #[.agg #[iV 0, iV 0, uV 0], iV 2]) [rd 0 0 0 0 3 h36] ⟨_, [Wd b S], rfl, ⟨by rw [hp_.1, hp_.2.1], by rw [hp_.2.2]⟩, (tk2 (sf1 (sf2 h38)))⟩

set_option maxHeartbeats 4000000 in
theorem wacq_2 (b : Nat) (S : Wst) (a : Int) (ha : 1 ≤ a ∧ a ≤ 65536) : HT Tryd.prog 9 [pV b, iV 2, iV a] [Wd b S] (fun v K => v = .tuple #[.agg #[iV (acqO S 2 a).1, iV (acqO S 2 a).2.1, uV (acqO S 2 a).2.2], iV (acqE S 2 a)] ∧ K = [Wd b (acqS S 2 a)]) := by
 refine hiS Tryd.func9 Tryd.ntmps9 fun g w0 R h0 => ?_
 obtain ⟨f10, p11, d12, s13, l14, hW15, h16⟩ := wd_open h0
 have hW15n := hW15.nl; have hW15m := hW15.nh; have hW15t := hW15.tn
 refine go [] <| nP 35 [iV 0, iV 0, uV 0] h16 (fun r17 _ h19 => ?_)
 have h20 := tk8 (sf7 (sf6 (sf7 (sf7 (sf7 (sf7 (sf7 (sf7 h19))))))))
 refine go [] <| cl1 Tryd.call22 (wvalid_cl b l14 Value.nilIface (.iface 48 (pV f10)) (.iface 51 (pV p11)) (.iface 54 (pV d12)) (pV s13) (iV S.now)) h20 fun _ h22 => go [] <| cl0 Tryd.call24 (god_2y a (by omega)) h22 fun _ h24 => ?_
 have h26 := tk8 (sf7 (sf7 (sf7 (sf7 (sf7 (sf7 (sf2 (sf7 h24))))))))
 refine go [] <| cP Tryd.call25 (grown_2 b f10 p11 d12 s13 l14 S hW15 a (by omega)) h26 ?_
 rintro v K _ (⟨c25, rfl, rfl⟩) h28
 have h29 := ap7 h28
 refine go [] <| nP 35 [iV 0, iV 0, uV 0] h29 (fun r30 _ h32 => ?_)
 refine go [] <| sP [(0, iV ((pinO S.B a).1)), (1, iV ((pinO S.B a).2.1)), (2, uV ((pinO S.B a).2.2))] [iV ((pinO S.B a).1), iV ((pinO S.B a).2.1), uV ((pinO S.B a).2.2)] h32 fun _ h34 => go [.s 6 1] ?_
 by_cases c35 : (pinE S.B a) = 0
 ·
  have h36 := tk10 (sf9 (sf8 (sf8 (sf8 (sf8 (sf8 (sf9 (sf9 (sf9 (sf9 h34))))))))))
  refine go [.v 6 1 (qnF ((pinE S.B a)) 0), rd 8 3 1 4 1 h34] <| cl1 Tryd.call26 (next_ht s13 S.q) h36 fun _ h38 => go [.s 9 0] ?_
  by_cases c39 : (S.q.headD 1) = 2
  ·
   have h40 := tk10 (sf9 (sf8 (sf8 (sf8 (sf8 (sf8 (sf8 (sf8 (sf8 (sf9 h38))))))))))
   refine go [.v 9 0 (qeT ((S.q.headD 1)) 2)] <| sP [(0, iV 0), (1, iV 0), (2, uV 0)] [iV 0, iV 0, uV 0] h40 fun w41 h42 => go [] ?_
   have hp_ := acq_later (S := S) (god2 ha) ((pin_grw (S := S) ha).1.symm.trans (by omega)) (by omega)
   have h43 := tk10 (sf9 (sf9 (sf9 (sf9 (sf5 (sf9 (sf3 (sf4 (sf9 (sf9 h42))))))))))
   have h44 : sat g w41 [Wd b ({ S with q := S.q.tail } : Wst), Cl r17 [iV 0, iV 0, uV 0] 35, Cl r30 [iV ((pinO S.B a).1), iV ((pinO S.B a).2.1), uV ((pinO S.B a).2.2)] 35, Pl c25 (pinX S.B a), R] := wd_close (hp_.2.2 ▸ wok_acq hW15 2 a) h43
   exact en (.tuple #[.agg #[iV 0, iV 0, uV 0], iV 15]) [rd 0 0 0 0 3 h42] ⟨_, [Wd b ({ S with q := S.q.tail } : Wst)], rfl, ⟨by rw [hp_.1, hp_.2.1], by rw [hp_.2.2]⟩, (tk2 (sf1 (sf4 h44)))⟩
  refine go [.v 9 0 (qeF ((S.q.headD 1)) 2), .s 11 0] ?_
  by_cases c46 : (S.q.headD 1) = 3
  ·
   have h47 := tk10 (sf9 (sf8 (sf8 (sf8 (sf8 (sf8 (sf8 (sf8 (sf8 (sf9 h38))))))))))
   refine go [.v 11 0 (qeT ((S.q.headD 1)) 3)] <| sP [(0, iV 0), (1, iV 0), (2, uV 0)] [iV 0, iV 0, uV 0] h47 fun w48 h49 => go [] ?_
   have hp_ := acq_fail (S := S) (god2 ha) ((pin_grw (S := S) ha).1.symm.trans (by omega)) (by omega) (by omega)
   have h50 := tk10 (sf9 (sf9 (sf9 (sf9 (sf5 (sf9 (sf3 (sf4 (sf9 (sf9 h49))))))))))
   have h51 : sat g w48 [Wd b ({ S with q := S.q.tail } : Wst), Cl r17 [iV 0, iV 0, uV 0] 35, Cl r30 [iV ((pinO S.B a).1), iV ((pinO S.B a).2.1), uV ((pinO S.B a).2.2)] 35, Pl c25 (pinX S.B a), R] := wd_close (hp_.2.2 ▸ wok_acq hW15 2 a) h50
   exact en (.tuple #[.agg #[iV 0, iV 0, uV 0], iV 14]) [rd 0 0 0 0 3 h49] ⟨_, [Wd b ({ S with q := S.q.tail } : Wst)], rfl, ⟨by rw [hp_.1, hp_.2.1], by rw [hp_.2.2]⟩, (tk2 (sf1 (sf4 h51)))⟩
  refine go [.v 11 0 (qeF ((S.q.headD 1)) 3), .s 13 5] <| lwP (.pointer (some ⟨b, 2, none⟩)) (law_indexArr (x := (Operand.tmp 49)) (i := (Operand.tmp 46)) (b := b) (off := 0) (z := 2) (by kernel_rfl) Tryd.underlying61 1 (by kernel_rfl) 2 (by kernel_rfl) (by kernel_rfl) (by omega) (by omega) 2 (by omega) _) <| sP [(2, .iface 51 (pV c25))] [Value.nilIface, .iface 48 (pV f10), .iface 51 (pV c25), .iface 54 (pV d12), pV s13, pV l14, iV S.now] (tk10 (sf9 (sf8 (sf8 (sf9 (sf9 (sf9 (sf9 (sf9 (sf9 (sf9 h38))))))))))) fun _ h55 => ?_
  have h56 := tk10 (sf9 (sf8 (sf8 (sf8 (sf8 (sf8 (sf8 (sf8 (sf8 (sf9 h55))))))))))
  refine go [rd 14 0 2 0 3 h55] <| sP [(0, iV ((pinO S.B a).1)), (1, iV ((pinO S.B a).2.1)), (2, uV ((pinO S.B a).2.2))] [iV ((pinO S.B a).1), iV ((pinO S.B a).2.1), uV ((pinO S.B a).2.2)] h56 fun w57 h58 => go [] ?_
  have hp_ := acq_ok2 (S := S) ha (by omega) (by omega) (by omega)
  have h59 := tk10 (sf9 (sf9 (sf9 (sf8 (sf6 (sf8 (sf3 (sf5 (sf6 (sf9 h58))))))))))
  have h60 : sat g w57 [Wd b ({ S with q := S.q.tail, B := pinX S.B a } : Wst), Cl r17 [iV ((pinO S.B a).1), iV ((pinO S.B a).2.1), uV ((pinO S.B a).2.2)] 35, Cl r30 [iV ((pinO S.B a).1), iV ((pinO S.B a).2.1), uV ((pinO S.B a).2.2)] 35, Pl p11 S.B, R] := wd_close (hp_.2.2 ▸ wok_acq hW15 2 a) h59
  exact en (.tuple #[.agg #[iV ((pinO S.B a).1), iV ((pinO S.B a).2.1), uV ((pinO S.B a).2.2)], iV 0]) [rd 0 0 0 0 3 h58] ⟨_, [Wd b ({ S with q := S.q.tail, B := pinX S.B a } : Wst)], rfl, ⟨by rw [hp_.1, hp_.2.1], by rw [hp_.2.2]⟩, (tk2 (sf1 (sf4 h60)))⟩
 have h62 := tk10 (sf9 (sf8 (sf8 (sf8 (sf8 (sf8 (sf8 (sf8 (sf8 (sf9 h34))))))))))
 refine go [.v 6 1 (qnT ((pinE S.B a)) 0)] <| sP [(0, iV 0), (1, iV 0), (2, uV 0)] [iV 0, iV 0, uV 0] h62 fun w63 h64 => go [] ?_
 have hp_ := acq_err (S := S) (god2 ha) (pin_grw (S := S) ha).1.symm (by omega)
 have h66 : sat g w63 [Wd b S, Cl r17 [iV 0, iV 0, uV 0] 35, Cl r30 [iV ((pinO S.B a).1), iV ((pinO S.B a).2.1), uV ((pinO S.B a).2.2)] 35, Pl c25 (pinX S.B a), R] := wd_close hW15 (tk10 (sf9 (sf9 (sf9 (sf9 (sf9 (sf9 (sf3 (sf3 (sf9 (sf9 h64)))))))))))
 exact en (.tuple #[.agg #[iV 0, iV 0, uV 0], iV ((pinE S.B a))]) [rd 0 0 0 0 3 h64] ⟨_, [Wd b S], rfl, ⟨by rw [hp_.1, hp_.2.1], by rw [hp_.2.2]⟩, (tk2 (sf1 (sf4 h66)))⟩

set_option maxHeartbeats 4000000 in
theorem wacq_2n (b : Nat) (S : Wst) (a : Int) (ha : a < 1 ∨ 65536 < a) (hng : ¬ godP 2 a) : HT Tryd.prog 9 [pV b, iV 2, iV a] [Wd b S] (fun v K => v = .tuple #[.agg #[iV (acqO S 2 a).1, iV (acqO S 2 a).2.1, uV (acqO S 2 a).2.2], iV (acqE S 2 a)] ∧ K = [Wd b (acqS S 2 a)]) := by
 refine hiS Tryd.func9 Tryd.ntmps9 fun g w0 R h0 => ?_
 obtain ⟨f10, p11, d12, s13, l14, hW15, h16⟩ := wd_open h0
 have hW15n := hW15.nl; have hW15m := hW15.nh; have hW15t := hW15.tn
 refine go [] <| nP 35 [iV 0, iV 0, uV 0] h16 (fun r17 _ h19 => ?_)
 have h20 := tk8 (sf7 (sf6 (sf7 (sf7 (sf7 (sf7 (sf7 (sf7 h19))))))))
 refine go [] <| cl1 Tryd.call22 (wvalid_cl b l14 Value.nilIface (.iface 48 (pV f10)) (.iface 51 (pV p11)) (.iface 54 (pV d12)) (pV s13) (iV S.now)) h20 fun _ h22 => go [] ?_
 by_cases c23 : 1 ≤ a
 ·
  refine cl0 Tryd.call24 (god_2n a (by omega)) h22 fun _ h25 => ?_
  have h26 := tk8 (sf7 (sf6 (sf7 (sf7 (sf7 (sf7 (sf7 (sf7 h25))))))))
  refine go [] <| sP [(0, iV 0), (1, iV 0), (2, uV 0)] [iV 0, iV 0, uV 0] h26 fun w27 h28 => go [] ?_
  have hp_ := acq_arg (S := S) (k := 2) (a := a) hng
  have h30 : sat g w27 [Wd b S, Cl r17 [iV 0, iV 0, uV 0] 35, R] := wd_close hW15 (tk8 (sf7 (sf7 (sf7 (sf7 (sf7 (sf7 (sf1 (sf7 h28)))))))))
  exact en (.tuple #[.agg #[iV 0, iV 0, uV 0], iV 2]) [rd 0 0 0 0 3 h28] ⟨_, [Wd b S], rfl, ⟨by rw [hp_.1, hp_.2.1], by rw [hp_.2.2]⟩, (tk2 (sf1 (sf2 h30)))⟩
 refine cl0 Tryd.call24 (god_2n a (by omega)) h22 fun _ h33 => ?_
 have h34 := tk8 (sf7 (sf6 (sf7 (sf7 (sf7 (sf7 (sf7 (sf7 h33))))))))
 refine go [] <| sP [(0, iV 0), (1, iV 0), (2, uV 0)] [iV 0, iV 0, uV 0] h34 fun w35 h36 => go [] ?_
 have hp_ := acq_arg (S := S) (k := 2) (a := a) hng
 have h38 : sat g w35 [Wd b S, Cl r17 [iV 0, iV 0, uV 0] 35, R] := wd_close hW15 (tk8 (sf7 (sf7 (sf7 (sf7 (sf7 (sf7 (sf1 (sf7 h36)))))))))
 exact en (.tuple #[.agg #[iV 0, iV 0, uV 0], iV 2]) [rd 0 0 0 0 3 h36] ⟨_, [Wd b S], rfl, ⟨by rw [hp_.1, hp_.2.1], by rw [hp_.2.2]⟩, (tk2 (sf1 (sf2 h38)))⟩

set_option maxHeartbeats 4000000 in
theorem wacq_3 (b : Nat) (S : Wst) (a : Int) (ha : 1 ≤ a ∧ a ≤ 1048576) : HT Tryd.prog 9 [pV b, iV 3, iV a] [Wd b S] (fun v K => v = .tuple #[.agg #[iV (acqO S 3 a).1, iV (acqO S 3 a).2.1, uV (acqO S 3 a).2.2], iV (acqE S 3 a)] ∧ K = [Wd b (acqS S 3 a)]) := by
 refine hiS Tryd.func9 Tryd.ntmps9 fun g w0 R h0 => ?_
 obtain ⟨f10, p11, d12, s13, l14, hW15, h16⟩ := wd_open h0
 have hW15n := hW15.nl; have hW15m := hW15.nh; have hW15t := hW15.tn
 refine go [] <| nP 35 [iV 0, iV 0, uV 0] h16 (fun r17 _ h19 => ?_)
 have h20 := tk8 (sf7 (sf6 (sf7 (sf7 (sf7 (sf7 (sf7 (sf7 h19))))))))
 refine go [] <| cl1 Tryd.call22 (wvalid_cl b l14 Value.nilIface (.iface 48 (pV f10)) (.iface 51 (pV p11)) (.iface 54 (pV d12)) (pV s13) (iV S.now)) h20 fun _ h22 => go [] <| cl0 Tryd.call24 (god_3y a (by omega)) h22 fun _ h24 => ?_
 have h26 := tk8 (sf7 (sf7 (sf7 (sf7 (sf7 (sf7 (sf2 (sf7 h24))))))))
 refine go [] <| cP Tryd.call25 (grown_3 b f10 p11 d12 s13 l14 S hW15 a (by omega)) h26 ?_
 rintro v K _ (⟨c25, rfl, rfl⟩) h28
 have h29 := ap7 h28
 refine go [] <| nP 35 [iV 0, iV 0, uV 0] h29 (fun r30 _ h32 => ?_)
 refine go [] <| sP [(0, iV ((gntO S.D a S.now).1)), (1, iV ((gntO S.D a S.now).2.1)), (2, uV ((gntO S.D a S.now).2.2))] [iV ((gntO S.D a S.now).1), iV ((gntO S.D a S.now).2.1), uV ((gntO S.D a S.now).2.2)] h32 fun _ h34 => go [.s 6 1] ?_
 by_cases c35 : (gntE S.D a S.now) = 0
 ·
  have h36 := tk10 (sf9 (sf8 (sf8 (sf8 (sf8 (sf8 (sf9 (sf9 (sf9 (sf9 h34))))))))))
  refine go [.v 6 1 (qnF ((gntE S.D a S.now)) 0), rd 8 3 1 4 1 h34] <| cl1 Tryd.call26 (next_ht s13 S.q) h36 fun _ h38 => go [.s 9 0] ?_
  by_cases c39 : (S.q.headD 1) = 2
  ·
   have h40 := tk10 (sf9 (sf8 (sf8 (sf8 (sf8 (sf8 (sf8 (sf8 (sf8 (sf9 h38))))))))))
   refine go [.v 9 0 (qeT ((S.q.headD 1)) 2)] <| sP [(0, iV 0), (1, iV 0), (2, uV 0)] [iV 0, iV 0, uV 0] h40 fun w41 h42 => go [] ?_
   have hp_ := acq_later (S := S) (god3 ha) ((gnt_grw (S := S) ha).1.symm.trans (by omega)) (by omega)
   have h43 := tk10 (sf9 (sf9 (sf9 (sf9 (sf5 (sf9 (sf3 (sf4 (sf9 (sf9 h42))))))))))
   have h44 : sat g w41 [Wd b ({ S with q := S.q.tail } : Wst), Cl r17 [iV 0, iV 0, uV 0] 35, Cl r30 [iV ((gntO S.D a S.now).1), iV ((gntO S.D a S.now).2.1), uV ((gntO S.D a S.now).2.2)] 35, Dk c25 (gntX S.D a S.now), R] := wd_close (hp_.2.2 ▸ wok_acq hW15 3 a) h43
   exact en (.tuple #[.agg #[iV 0, iV 0, uV 0], iV 15]) [rd 0 0 0 0 3 h42] ⟨_, [Wd b ({ S with q := S.q.tail } : Wst)], rfl, ⟨by rw [hp_.1, hp_.2.1], by rw [hp_.2.2]⟩, (tk2 (sf1 (sf4 h44)))⟩
  refine go [.v 9 0 (qeF ((S.q.headD 1)) 2), .s 11 0] ?_
  by_cases c46 : (S.q.headD 1) = 3
  ·
   have h47 := tk10 (sf9 (sf8 (sf8 (sf8 (sf8 (sf8 (sf8 (sf8 (sf8 (sf9 h38))))))))))
   refine go [.v 11 0 (qeT ((S.q.headD 1)) 3)] <| sP [(0, iV 0), (1, iV 0), (2, uV 0)] [iV 0, iV 0, uV 0] h47 fun w48 h49 => go [] ?_
   have hp_ := acq_fail (S := S) (god3 ha) ((gnt_grw (S := S) ha).1.symm.trans (by omega)) (by omega) (by omega)
   have h50 := tk10 (sf9 (sf9 (sf9 (sf9 (sf5 (sf9 (sf3 (sf4 (sf9 (sf9 h49))))))))))
   have h51 : sat g w48 [Wd b ({ S with q := S.q.tail } : Wst), Cl r17 [iV 0, iV 0, uV 0] 35, Cl r30 [iV ((gntO S.D a S.now).1), iV ((gntO S.D a S.now).2.1), uV ((gntO S.D a S.now).2.2)] 35, Dk c25 (gntX S.D a S.now), R] := wd_close (hp_.2.2 ▸ wok_acq hW15 3 a) h50
   exact en (.tuple #[.agg #[iV 0, iV 0, uV 0], iV 14]) [rd 0 0 0 0 3 h49] ⟨_, [Wd b ({ S with q := S.q.tail } : Wst)], rfl, ⟨by rw [hp_.1, hp_.2.1], by rw [hp_.2.2]⟩, (tk2 (sf1 (sf4 h51)))⟩
  refine go [.v 11 0 (qeF ((S.q.headD 1)) 3), .s 13 5] <| lwP (.pointer (some ⟨b, 3, none⟩)) (law_indexArr (x := (Operand.tmp 49)) (i := (Operand.tmp 46)) (b := b) (off := 0) (z := 3) (by kernel_rfl) Tryd.underlying61 1 (by kernel_rfl) 3 (by kernel_rfl) (by kernel_rfl) (by omega) (by omega) 3 (by omega) _) <| sP [(3, .iface 54 (pV c25))] [Value.nilIface, .iface 48 (pV f10), .iface 51 (pV p11), .iface 54 (pV c25), pV s13, pV l14, iV S.now] (tk10 (sf9 (sf8 (sf8 (sf9 (sf9 (sf9 (sf9 (sf9 (sf9 (sf9 h38))))))))))) fun _ h55 => ?_
  have h56 := tk10 (sf9 (sf8 (sf8 (sf8 (sf8 (sf8 (sf8 (sf8 (sf8 (sf9 h55))))))))))
  refine go [rd 14 0 2 0 3 h55] <| sP [(0, iV ((gntO S.D a S.now).1)), (1, iV ((gntO S.D a S.now).2.1)), (2, uV ((gntO S.D a S.now).2.2))] [iV ((gntO S.D a S.now).1), iV ((gntO S.D a S.now).2.1), uV ((gntO S.D a S.now).2.2)] h56 fun w57 h58 => go [] ?_
  have hp_ := acq_ok3 (S := S) ha (by omega) (by omega) (by omega)
  have h59 := tk10 (sf9 (sf9 (sf9 (sf9 (sf6 (sf8 (sf3 (sf5 (sf7 (sf9 h58))))))))))
  have h60 : sat g w57 [Wd b ({ S with q := S.q.tail, D := gntX S.D a S.now } : Wst), Cl r17 [iV ((gntO S.D a S.now).1), iV ((gntO S.D a S.now).2.1), uV ((gntO S.D a S.now).2.2)] 35, Cl r30 [iV ((gntO S.D a S.now).1), iV ((gntO S.D a S.now).2.1), uV ((gntO S.D a S.now).2.2)] 35, Dk d12 S.D, R] := wd_close (hp_.2.2 ▸ wok_acq hW15 3 a) h59
  exact en (.tuple #[.agg #[iV ((gntO S.D a S.now).1), iV ((gntO S.D a S.now).2.1), uV ((gntO S.D a S.now).2.2)], iV 0]) [rd 0 0 0 0 3 h58] ⟨_, [Wd b ({ S with q := S.q.tail, D := gntX S.D a S.now } : Wst)], rfl, ⟨by rw [hp_.1, hp_.2.1], by rw [hp_.2.2]⟩, (tk2 (sf1 (sf4 h60)))⟩
 have h62 := tk10 (sf9 (sf8 (sf8 (sf8 (sf8 (sf8 (sf8 (sf8 (sf8 (sf9 h34))))))))))
 refine go [.v 6 1 (qnT ((gntE S.D a S.now)) 0)] <| sP [(0, iV 0), (1, iV 0), (2, uV 0)] [iV 0, iV 0, uV 0] h62 fun w63 h64 => go [] ?_
 have hp_ := acq_err (S := S) (god3 ha) (gnt_grw (S := S) ha).1.symm (by omega)
 have h66 : sat g w63 [Wd b S, Cl r17 [iV 0, iV 0, uV 0] 35, Cl r30 [iV ((gntO S.D a S.now).1), iV ((gntO S.D a S.now).2.1), uV ((gntO S.D a S.now).2.2)] 35, Dk c25 (gntX S.D a S.now), R] := wd_close hW15 (tk10 (sf9 (sf9 (sf9 (sf9 (sf9 (sf9 (sf3 (sf3 (sf9 (sf9 h64)))))))))))
 exact en (.tuple #[.agg #[iV 0, iV 0, uV 0], iV ((gntE S.D a S.now))]) [rd 0 0 0 0 3 h64] ⟨_, [Wd b S], rfl, ⟨by rw [hp_.1, hp_.2.1], by rw [hp_.2.2]⟩, (tk2 (sf1 (sf4 h66)))⟩

set_option maxHeartbeats 4000000 in
theorem wacq_3n (b : Nat) (S : Wst) (a : Int) (ha : a < 1 ∨ 1048576 < a) (hng : ¬ godP 3 a) : HT Tryd.prog 9 [pV b, iV 3, iV a] [Wd b S] (fun v K => v = .tuple #[.agg #[iV (acqO S 3 a).1, iV (acqO S 3 a).2.1, uV (acqO S 3 a).2.2], iV (acqE S 3 a)] ∧ K = [Wd b (acqS S 3 a)]) := by
 refine hiS Tryd.func9 Tryd.ntmps9 fun g w0 R h0 => ?_
 obtain ⟨f10, p11, d12, s13, l14, hW15, h16⟩ := wd_open h0
 have hW15n := hW15.nl; have hW15m := hW15.nh; have hW15t := hW15.tn
 refine go [] <| nP 35 [iV 0, iV 0, uV 0] h16 (fun r17 _ h19 => ?_)
 have h20 := tk8 (sf7 (sf6 (sf7 (sf7 (sf7 (sf7 (sf7 (sf7 h19))))))))
 refine go [] <| cl1 Tryd.call22 (wvalid_cl b l14 Value.nilIface (.iface 48 (pV f10)) (.iface 51 (pV p11)) (.iface 54 (pV d12)) (pV s13) (iV S.now)) h20 fun _ h22 => go [] ?_
 by_cases c23 : 1 ≤ a
 ·
  refine cl0 Tryd.call24 (god_3n a (by omega)) h22 fun _ h25 => ?_
  have h26 := tk8 (sf7 (sf6 (sf7 (sf7 (sf7 (sf7 (sf7 (sf7 h25))))))))
  refine go [] <| sP [(0, iV 0), (1, iV 0), (2, uV 0)] [iV 0, iV 0, uV 0] h26 fun w27 h28 => go [] ?_
  have hp_ := acq_arg (S := S) (k := 3) (a := a) hng
  have h30 : sat g w27 [Wd b S, Cl r17 [iV 0, iV 0, uV 0] 35, R] := wd_close hW15 (tk8 (sf7 (sf7 (sf7 (sf7 (sf7 (sf7 (sf1 (sf7 h28)))))))))
  exact en (.tuple #[.agg #[iV 0, iV 0, uV 0], iV 2]) [rd 0 0 0 0 3 h28] ⟨_, [Wd b S], rfl, ⟨by rw [hp_.1, hp_.2.1], by rw [hp_.2.2]⟩, (tk2 (sf1 (sf2 h30)))⟩
 refine cl0 Tryd.call24 (god_3n a (by omega)) h22 fun _ h33 => ?_
 have h34 := tk8 (sf7 (sf6 (sf7 (sf7 (sf7 (sf7 (sf7 (sf7 h33))))))))
 refine go [] <| sP [(0, iV 0), (1, iV 0), (2, uV 0)] [iV 0, iV 0, uV 0] h34 fun w35 h36 => go [] ?_
 have hp_ := acq_arg (S := S) (k := 3) (a := a) hng
 have h38 : sat g w35 [Wd b S, Cl r17 [iV 0, iV 0, uV 0] 35, R] := wd_close hW15 (tk8 (sf7 (sf7 (sf7 (sf7 (sf7 (sf7 (sf1 (sf7 h36)))))))))
 exact en (.tuple #[.agg #[iV 0, iV 0, uV 0], iV 2]) [rd 0 0 0 0 3 h36] ⟨_, [Wd b S], rfl, ⟨by rw [hp_.1, hp_.2.1], by rw [hp_.2.2]⟩, (tk2 (sf1 (sf2 h38)))⟩

set_option maxHeartbeats 4000000 in
theorem wacq_0 (b : Nat) (S : Wst) (k a : Int) (hk : k < 1 ∨ 3 < k) (hng : ¬ godP k a) : HT Tryd.prog 9 [pV b, iV k, iV a] [Wd b S] (fun v K => v = .tuple #[.agg #[iV (acqO S k a).1, iV (acqO S k a).2.1, uV (acqO S k a).2.2], iV (acqE S k a)] ∧ K = [Wd b (acqS S k a)]) := by
 refine hiS Tryd.func9 Tryd.ntmps9 fun g w0 R h0 => ?_
 obtain ⟨f10, p11, d12, s13, l14, hW15, h16⟩ := wd_open h0
 have hW15n := hW15.nl; have hW15m := hW15.nh; have hW15t := hW15.tn
 refine go [] <| nP 35 [iV 0, iV 0, uV 0] h16 (fun r17 _ h19 => ?_)
 have h20 := tk8 (sf7 (sf6 (sf7 (sf7 (sf7 (sf7 (sf7 (sf7 h19))))))))
 refine go [] <| cl1 Tryd.call22 (wvalid_cl b l14 Value.nilIface (.iface 48 (pV f10)) (.iface 51 (pV p11)) (.iface 54 (pV d12)) (pV s13) (iV S.now)) h20 fun _ h22 => go [] <| cl0 Tryd.call24 (god_0 k a (by omega)) h22 fun _ h24 => ?_
 have h25 := tk8 (sf7 (sf6 (sf7 (sf7 (sf7 (sf7 (sf7 (sf7 h24))))))))
 refine go [] <| sP [(0, iV 0), (1, iV 0), (2, uV 0)] [iV 0, iV 0, uV 0] h25 fun w26 h27 => go [] ?_
 have hp_ := acq_arg (S := S) (k := k) (a := a) hng
 have h29 : sat g w26 [Wd b S, Cl r17 [iV 0, iV 0, uV 0] 35, R] := wd_close hW15 (tk8 (sf7 (sf7 (sf7 (sf7 (sf7 (sf7 (sf1 (sf7 h27)))))))))
 exact en (.tuple #[.agg #[iV 0, iV 0, uV 0], iV 2]) [rd 0 0 0 0 3 h27] ⟨_, [Wd b S], rfl, ⟨by rw [hp_.1, hp_.2.1], by rw [hp_.2.2]⟩, (tk2 (sf1 (sf2 h29)))⟩

theorem wacq_ht (b : Nat) (S : Wst) (k a : Int) : HT Tryd.prog 9 [pV b, iV k, iV a] [Wd b S] (fun v K => v = Value.tuple #[Value.agg #[Value.int .i64 (acqO S k a).1, Value.int .i64 (acqO S k a).2.1, Value.int .u32 (acqO S k a).2.2], Value.int .i64 (acqE S k a)] ∧ K = [Wd b (acqS S k a)]) := by
  by_cases h1 : k = 1
  · subst h1
    by_cases h : 0 ≤ a ∧ a ≤ 65535
    · exact wacq_1 b S a h
    · exact wacq_1n b S a (by omega) (god_no1 h)
  · by_cases h2 : k = 2
    · subst h2
      by_cases h : 1 ≤ a ∧ a ≤ 65536
      · exact wacq_2 b S a h
      · exact wacq_2n b S a (by omega) (god_no2 h)
    · by_cases h3 : k = 3
      · subst h3
        by_cases h : 1 ≤ a ∧ a ≤ 1048576
        · exact wacq_3 b S a h
        · exact wacq_3n b S a (by omega) (god_no3 h)
      · exact wacq_0 b S k a (by omega) (god_no (by omega))

end Go.Proofs.YtggfnbpohmhphaaDoor

/- Walks, printed by my generator o13.py. -/
namespace Go.Proofs.YtggfnbpohmhphaaDoor
set_option maxHeartbeats 4000000 in
theorem back_1 (b f p d s l : Nat) (z0 : Int) : HT Tryd.prog 30 [pV b, iV 1] [Cl b [Value.nilIface, .iface 48 (pV f), .iface 51 (pV p), .iface 54 (pV d), pV s, pV l, iV z0] 63] (fun v K => v = .func (Fn.func 48) #[pV f] #[] ∧ K = [Cl b [Value.nilIface, .iface 48 (pV f), .iface 51 (pV p), .iface 54 (pV d), pV s, pV l, iV z0] 63]) := by
 refine hiS Tryd.func30 Tryd.ntmps30 fun g w0 R h0 => go [.s 1 4] <| lwP (.pointer (some ⟨b, 1, none⟩)) (law_indexArr (x := (Operand.tmp 11)) (i := (Operand.tmp 9)) (b := b) (off := 0) (z := 1) (by kernel_rfl) Tryd.underlying61 1 (by kernel_rfl) 1 (by kernel_rfl) (by kernel_rfl) (by omega) (by omega) 1 (by omega) _) <| go [rd 1 5 0 1 1 h0] ?_
 exact en (.func (Fn.func 48) #[pV f] #[]) [] ⟨_, _, rfl, ⟨rfl, rfl⟩, h0⟩

set_option maxHeartbeats 4000000 in
theorem back_2 (b f p d s l : Nat) (z0 : Int) : HT Tryd.prog 30 [pV b, iV 2] [Cl b [Value.nilIface, .iface 48 (pV f), .iface 51 (pV p), .iface 54 (pV d), pV s, pV l, iV z0] 63] (fun v K => v = .func (Fn.func 49) #[pV p] #[] ∧ K = [Cl b [Value.nilIface, .iface 48 (pV f), .iface 51 (pV p), .iface 54 (pV d), pV s, pV l, iV z0] 63]) := by
 refine hiS Tryd.func30 Tryd.ntmps30 fun g w0 R h0 => go [.s 1 4] <| lwP (.pointer (some ⟨b, 2, none⟩)) (law_indexArr (x := (Operand.tmp 11)) (i := (Operand.tmp 9)) (b := b) (off := 0) (z := 2) (by kernel_rfl) Tryd.underlying61 1 (by kernel_rfl) 2 (by kernel_rfl) (by kernel_rfl) (by omega) (by omega) 2 (by omega) _) <| go [rd 1 5 0 2 1 h0] ?_
 exact en (.func (Fn.func 49) #[pV p] #[]) [] ⟨_, _, rfl, ⟨rfl, rfl⟩, h0⟩

set_option maxHeartbeats 4000000 in
theorem back_3 (b f p d s l : Nat) (z0 : Int) : HT Tryd.prog 30 [pV b, iV 3] [Cl b [Value.nilIface, .iface 48 (pV f), .iface 51 (pV p), .iface 54 (pV d), pV s, pV l, iV z0] 63] (fun v K => v = .func (Fn.func 50) #[pV d] #[] ∧ K = [Cl b [Value.nilIface, .iface 48 (pV f), .iface 51 (pV p), .iface 54 (pV d), pV s, pV l, iV z0] 63]) := by
 refine hiS Tryd.func30 Tryd.ntmps30 fun g w0 R h0 => go [.s 1 4] <| lwP (.pointer (some ⟨b, 3, none⟩)) (law_indexArr (x := (Operand.tmp 11)) (i := (Operand.tmp 9)) (b := b) (off := 0) (z := 3) (by kernel_rfl) Tryd.underlying61 1 (by kernel_rfl) 3 (by kernel_rfl) (by kernel_rfl) (by omega) (by omega) 3 (by omega) _) <| go [rd 1 5 0 3 1 h0] ?_
 exact en (.func (Fn.func 50) #[pV d] #[]) [] ⟨_, _, rfl, ⟨rfl, rfl⟩, h0⟩

set_option maxHeartbeats 4000000 in
theorem wrel_no (b : Nat) (S : Wst) (x y z wy : Int) (hz0 : 0 ≤ z) (hz1 : z ≤ 4294967295) (hg : ¬ (1 ≤ x ∧ x ≤ 3 ∧ 0 ≤ y ∧ y ≤ 63 ∧ 1 ≤ z)) : HT Tryd.prog 10 [pV b, .agg #[iV x, iV y, uV z], iV wy] [Wd b S] (fun v K => v = .tuple #[iV (relA S (x, y, z) wy), iV (relE S (x, y, z) wy)] ∧ K = [Wd b (relS S (x, y, z) wy)]) := by
 refine hiS Tryd.func10 Tryd.ntmps10 fun g w0 R h0 => ?_
 obtain ⟨f10, p11, d12, s13, l14, hW15, h16⟩ := wd_open h0
 have hW15n := hW15.nl; have hW15m := hW15.nh; have hW15t := hW15.tn
 refine go [] <| nP 35 [iV x, iV y, uV z] h16 (fun r17 _ h19 => ?_)
 have h20 := tk8 (sf7 (sf6 (sf7 (sf7 (sf7 (sf7 (sf7 (sf7 h19))))))))
 refine go [] <| cl1 Tryd.call22 (wvalid_cl b l14 Value.nilIface (.iface 48 (pV f10)) (.iface 51 (pV p11)) (.iface 54 (pV d12)) (pV s13) (iV S.now)) h20 fun _ h22 => go [rd 3 0 1 0 3 h22] ?_
 by_cases c23 : 1 ≤ x
 ·
  by_cases c24 : x ≤ 3
  ·
   by_cases c25 : 0 ≤ y
   ·
    by_cases c26 : y ≤ 63
    ·
     refine cl0 Tryd.call27 (couter_no x y z (by omega) (by omega) (by omega)) h22 fun w27 h28 => go [] ?_
     have hp_ := rel_arg (S := S) (o := (x, y, z)) (wy := wy) (.inl hg)
     have h30 : sat g w27 [Wd b S, Cl r17 [iV x, iV y, uV z] 35, R] := wd_close hW15 (tk8 (sf7 (sf7 (sf7 (sf7 (sf7 (sf7 (sf2 (sf7 h28)))))))))
     exact en (.tuple #[iV 0, iV 2]) [] ⟨_, [Wd b S], rfl, ⟨by rw [hp_.1, hp_.2.1], by rw [hp_.2.2]⟩, (tk2 (sf1 (sf2 h30)))⟩
    refine cl0 Tryd.call27 (couter_no x y z (by omega) (by omega) (by omega)) h22 fun w32 h33 => go [] ?_
    have hp_ := rel_arg (S := S) (o := (x, y, z)) (wy := wy) (.inl hg)
    have h35 : sat g w32 [Wd b S, Cl r17 [iV x, iV y, uV z] 35, R] := wd_close hW15 (tk8 (sf7 (sf7 (sf7 (sf7 (sf7 (sf7 (sf2 (sf7 h33)))))))))
    exact en (.tuple #[iV 0, iV 2]) [] ⟨_, [Wd b S], rfl, ⟨by rw [hp_.1, hp_.2.1], by rw [hp_.2.2]⟩, (tk2 (sf1 (sf2 h35)))⟩
   refine cl0 Tryd.call27 (couter_no x y z (by omega) (by omega) (by omega)) h22 fun w37 h38 => go [] ?_
   have hp_ := rel_arg (S := S) (o := (x, y, z)) (wy := wy) (.inl hg)
   have h40 : sat g w37 [Wd b S, Cl r17 [iV x, iV y, uV z] 35, R] := wd_close hW15 (tk8 (sf7 (sf7 (sf7 (sf7 (sf7 (sf7 (sf2 (sf7 h38)))))))))
   exact en (.tuple #[iV 0, iV 2]) [] ⟨_, [Wd b S], rfl, ⟨by rw [hp_.1, hp_.2.1], by rw [hp_.2.2]⟩, (tk2 (sf1 (sf2 h40)))⟩
  refine cl0 Tryd.call27 (couter_no x y z (by omega) (by omega) (by omega)) h22 fun w42 h43 => go [] ?_
  have hp_ := rel_arg (S := S) (o := (x, y, z)) (wy := wy) (.inl hg)
  have h45 : sat g w42 [Wd b S, Cl r17 [iV x, iV y, uV z] 35, R] := wd_close hW15 (tk8 (sf7 (sf7 (sf7 (sf7 (sf7 (sf7 (sf2 (sf7 h43)))))))))
  exact en (.tuple #[iV 0, iV 2]) [] ⟨_, [Wd b S], rfl, ⟨by rw [hp_.1, hp_.2.1], by rw [hp_.2.2]⟩, (tk2 (sf1 (sf2 h45)))⟩
 refine cl0 Tryd.call27 (couter_no x y z (by omega) (by omega) (by omega)) h22 fun w47 h48 => go [] ?_
 have hp_ := rel_arg (S := S) (o := (x, y, z)) (wy := wy) (.inl hg)
 have h50 : sat g w47 [Wd b S, Cl r17 [iV x, iV y, uV z] 35, R] := wd_close hW15 (tk8 (sf7 (sf7 (sf7 (sf7 (sf7 (sf7 (sf2 (sf7 h48)))))))))
 exact en (.tuple #[iV 0, iV 2]) [] ⟨_, [Wd b S], rfl, ⟨by rw [hp_.1, hp_.2.1], by rw [hp_.2.2]⟩, (tk2 (sf1 (sf2 h50)))⟩

set_option maxHeartbeats 4000000 in
theorem wrel_wy (b : Nat) (S : Wst) (x y z : Int) (hz0 : 0 ≤ z) (hz1 : z ≤ 4294967295) (hg : KGood (x, y, z)) (hy0 : 0 ≤ y) (hy1 : y ≤ 63) (hz : 1 ≤ z) (hx : 1 ≤ x ∧ x ≤ 3) (wy : Int) (hwy : wy < 1 ∨ 3 < wy) : HT Tryd.prog 10 [pV b, .agg #[iV x, iV y, uV z], iV wy] [Wd b S] (fun v K => v = .tuple #[iV (relA S (x, y, z) wy), iV (relE S (x, y, z) wy)] ∧ K = [Wd b (relS S (x, y, z) wy)]) := by
 refine hiS Tryd.func10 Tryd.ntmps10 fun g w0 R h0 => ?_
 obtain ⟨f10, p11, d12, s13, l14, hW15, h16⟩ := wd_open h0
 have hW15n := hW15.nl; have hW15m := hW15.nh; have hW15t := hW15.tn
 refine go [] <| nP 35 [iV x, iV y, uV z] h16 (fun r17 _ h19 => ?_)
 have h20 := tk8 (sf7 (sf6 (sf7 (sf7 (sf7 (sf7 (sf7 (sf7 h19))))))))
 refine go [] <| cl1 Tryd.call22 (wvalid_cl b l14 Value.nilIface (.iface 48 (pV f10)) (.iface 51 (pV p11)) (.iface 54 (pV d12)) (pV s13) (iV S.now)) h20 fun _ h22 => go [rd 3 0 1 0 3 h22] <| cl0 Tryd.call27 (couter_ok x y z (by omega) (by omega) (by omega)) h22 fun w23 h24 => go [.s 3 5] ?_
 by_cases c25 : wy < 1
 ·
  refine go [.v 3 5 (oT (wy < 1))] ?_
  have hp_ := rel_arg (S := S) (o := (x, y, z)) (wy := wy) (.inr hwy)
  have h27 : sat g w23 [Wd b S, Cl r17 [iV x, iV y, uV z] 35, R] := wd_close hW15 (tk8 (sf7 (sf7 (sf7 (sf7 (sf7 (sf7 (sf2 (sf7 h24)))))))))
  exact en (.tuple #[iV 0, iV 2]) [] ⟨_, [Wd b S], rfl, ⟨by rw [hp_.1, hp_.2.1], by rw [hp_.2.2]⟩, (tk2 (sf1 (sf2 h27)))⟩
 refine go [.v 3 5 (oF (wy < 1)), .v 3 9 (oT (wy > 3))] ?_
 have hp_ := rel_arg (S := S) (o := (x, y, z)) (wy := wy) (.inr hwy)
 have h30 : sat g w23 [Wd b S, Cl r17 [iV x, iV y, uV z] 35, R] := wd_close hW15 (tk8 (sf7 (sf7 (sf7 (sf7 (sf7 (sf7 (sf2 (sf7 h24)))))))))
 exact en (.tuple #[iV 0, iV 2]) [] ⟨_, [Wd b S], rfl, ⟨by rw [hp_.1, hp_.2.1], by rw [hp_.2.2]⟩, (tk2 (sf1 (sf2 h30)))⟩

set_option maxHeartbeats 4000000 in
theorem wrel_none (b : Nat) (S : Wst) (x y z : Int) (hz0 : 0 ≤ z) (hz1 : z ≤ 4294967295) (hg : KGood (x, y, z)) (hy0 : 0 ≤ y) (hy1 : y ≤ 63) (hz : 1 ≤ z) (hx : 1 ≤ x ∧ x ≤ 3) (hT : ¬ Thr S (x, y, z)) (wy : Int) (hwy : 1 ≤ wy ∧ wy ≤ 3) : HT Tryd.prog 10 [pV b, .agg #[iV x, iV y, uV z], iV wy] [Wd b S] (fun v K => v = .tuple #[iV (relA S (x, y, z) wy), iV (relE S (x, y, z) wy)] ∧ K = [Wd b (relS S (x, y, z) wy)]) := by
 refine hiS Tryd.func10 Tryd.ntmps10 fun g w0 R h0 => ?_
 obtain ⟨f10, p11, d12, s13, l14, hW15, h16⟩ := wd_open h0
 have hW15n := hW15.nl; have hW15m := hW15.nh; have hW15t := hW15.tn
 refine go [] <| nP 35 [iV x, iV y, uV z] h16 (fun r17 _ h19 => ?_)
 have h20 := tk8 (sf7 (sf6 (sf7 (sf7 (sf7 (sf7 (sf7 (sf7 h19))))))))
 refine go [] <| cl1 Tryd.call22 (wvalid_cl b l14 Value.nilIface (.iface 48 (pV f10)) (.iface 51 (pV p11)) (.iface 54 (pV d12)) (pV s13) (iV S.now)) h20 fun _ h22 => go [rd 3 0 1 0 3 h22] <| cl0 Tryd.call27 (couter_ok x y z (by omega) (by omega) (by omega)) h22 fun _ h24 => ?_
 have h25 := tk8 (sf7 (sf7 (sf7 (sf7 (sf7 (sf7 (sf2 (sf7 h24))))))))
 refine go [.v 3 5 (oF (wy < 1)), .v 3 9 (oF (wy > 3)), rd 5 1 1 0 3 h24] <| cl6 Tryd.call28 ((by have h_ := has_ht b f10 p11 d12 s13 l14 S hW15 x y z (by omega) (by omega); rw [decide_eq_false hT] at h_; exact h_)) h25 fun w26 h27 => ?_
 refine go [] ?_
 have hp_ := rel_none (S := S) (o := (x, y, z)) hg hwy hT
 have h28 : sat g w26 [Wd b S, Cl r17 [iV x, iV y, uV z] 35, R] := wd_close hW15 h27
 exact en (.tuple #[iV 0, iV 5]) [] ⟨_, [Wd b S], rfl, ⟨by rw [hp_.1, hp_.2.1], by rw [hp_.2.2]⟩, (tk2 (sf1 (sf2 h28)))⟩

set_option maxHeartbeats 4000000 in
theorem wrel_full (b : Nat) (S : Wst) (x y z : Int) (hz0 : 0 ≤ z) (hz1 : z ≤ 4294967295) (hg : KGood (x, y, z)) (hy0 : 0 ≤ y) (hy1 : y ≤ 63) (hz : 1 ≤ z) (hx : 1 ≤ x ∧ x ≤ 3) (hT : Thr S (x, y, z)) (wy : Int) (hwy : 1 ≤ wy ∧ wy ≤ 3) (hn : 10000 ≤ S.T.length) : HT Tryd.prog 10 [pV b, .agg #[iV x, iV y, uV z], iV wy] [Wd b S] (fun v K => v = .tuple #[iV (relA S (x, y, z) wy), iV (relE S (x, y, z) wy)] ∧ K = [Wd b (relS S (x, y, z) wy)]) := by
 refine hiS Tryd.func10 Tryd.ntmps10 fun g w0 R h0 => ?_
 obtain ⟨f10, p11, d12, s13, l14, hW15, h16⟩ := wd_open h0
 have hW15n := hW15.nl; have hW15m := hW15.nh; have hW15t := hW15.tn
 refine go [] <| nP 35 [iV x, iV y, uV z] h16 (fun r17 _ h19 => ?_)
 have h20 := tk8 (sf7 (sf6 (sf7 (sf7 (sf7 (sf7 (sf7 (sf7 h19))))))))
 refine go [] <| cl1 Tryd.call22 (wvalid_cl b l14 Value.nilIface (.iface 48 (pV f10)) (.iface 51 (pV p11)) (.iface 54 (pV d12)) (pV s13) (iV S.now)) h20 fun _ h22 => go [rd 3 0 1 0 3 h22] <| cl0 Tryd.call27 (couter_ok x y z (by omega) (by omega) (by omega)) h22 fun _ h24 => ?_
 have h25 := tk8 (sf7 (sf7 (sf7 (sf7 (sf7 (sf7 (sf2 (sf7 h24))))))))
 refine go [.v 3 5 (oF (wy < 1)), .v 3 9 (oF (wy > 3)), rd 5 1 1 0 3 h24] <| cl6 Tryd.call28 ((by have h_ := has_ht b f10 p11 d12 s13 l14 S hW15 x y z (by omega) (by omega); rw [decide_eq_true hT] at h_; exact h_)) h25 fun _ h27 => ?_
 have h28 := tk8 (sf7 (sf6 (sf6 (sf6 (sf6 (sf6 (sf7 (sf7 h27))))))))
 refine go [rd 7 3 0 5 1 h27] <| cl1 Tryd.call14 (lglen_ht l14 S.T) h28 fun w29 h30 => go [.v 7 5 (oT (((S.T.length : Nat) : Int) ≥ 10000))] ?_
 have hp_ := rel_full (S := S) (o := (x, y, z)) hwy hT hn
 have h32 : sat g w29 [Wd b S, Cl r17 [iV x, iV y, uV z] 35, R] := wd_close hW15 (tk8 (sf7 (sf7 (sf7 (sf7 (sf7 (sf2 (sf7 (sf7 h30)))))))))
 exact en (.tuple #[iV 0, iV 4]) [] ⟨_, [Wd b S], rfl, ⟨by rw [hp_.1, hp_.2.1], by rw [hp_.2.2]⟩, (tk2 (sf1 (sf2 h32)))⟩

set_option maxHeartbeats 4000000 in
theorem wrel_1 (b : Nat) (S : Wst) (y z : Int) (hz0 : 0 ≤ z) (hz1 : z ≤ 4294967295) (hg : KGood (1, y, z)) (hy0 : 0 ≤ y) (hy1 : y ≤ 63) (hz : 1 ≤ z) (hT : Thr S (1, y, z)) (wy : Int) (hwy : 1 ≤ wy ∧ wy ≤ 3) (hn : S.T.length < 10000) : HT Tryd.prog 10 [pV b, .agg #[iV 1, iV y, uV z], iV wy] [Wd b S] (fun v K => v = .tuple #[iV (relA S (1, y, z) wy), iV (relE S (1, y, z) wy)] ∧ K = [Wd b (relS S (1, y, z) wy)]) := by
 refine hiS Tryd.func10 Tryd.ntmps10 fun g w0 R h0 => ?_
 obtain ⟨f10, p11, d12, s13, l14, hW15, h16⟩ := wd_open h0
 have hW15n := hW15.nl; have hW15m := hW15.nh; have hW15t := hW15.tn
 refine go [] <| nP 35 [iV 1, iV y, uV z] h16 (fun r17 _ h19 => ?_)
 have h20 := tk8 (sf7 (sf6 (sf7 (sf7 (sf7 (sf7 (sf7 (sf7 h19))))))))
 refine go [] <| cl1 Tryd.call22 (wvalid_cl b l14 Value.nilIface (.iface 48 (pV f10)) (.iface 51 (pV p11)) (.iface 54 (pV d12)) (pV s13) (iV S.now)) h20 fun _ h22 => go [rd 3 0 1 0 3 h22] <| cl0 Tryd.call27 (couter_ok 1 y z (by omega) (by omega) (by omega)) h22 fun _ h24 => ?_
 have h25 := tk8 (sf7 (sf7 (sf7 (sf7 (sf7 (sf7 (sf2 (sf7 h24))))))))
 refine go [.v 3 5 (oF (wy < 1)), .v 3 9 (oF (wy > 3)), rd 5 1 1 0 3 h24] <| cl6 Tryd.call28 ((by have h_ := has_ht b f10 p11 d12 s13 l14 S hW15 1 y z (by omega) (by omega); rw [decide_eq_true hT] at h_; exact h_)) h25 fun _ h27 => ?_
 have h28 := tk8 (sf7 (sf6 (sf6 (sf6 (sf6 (sf6 (sf7 (sf7 h27))))))))
 refine go [rd 7 3 0 5 1 h27] <| cl1 Tryd.call14 (lglen_ht l14 S.T) h28 fun _ h30 => ?_
 have h31 := tk8 (sf7 (sf6 (sf6 (sf6 (sf6 (sf6 (sf7 (sf7 h30))))))))
 refine go [.v 7 5 (oF (((S.T.length : Nat) : Int) ≥ 10000)), rd 9 3 1 4 1 h30] <| cl1 Tryd.call26 (next_ht s13 S.q) h31 fun _ h33 => go [] <| dw (fls [0, 1, 2, 3, 4, 5, 6, 7, 8, 9, 10, 11] (Tr.an 12 Tr.nil)) h33 fun _ h35 => ?_
 have h36 := tk8 (sf7 (sf6 (sf7 (sf7 (sf7 (sf7 (sf7 (sf7 h35))))))))
 refine go [rd 10 3 2 5 1 h35, rd 10 7 2 6 1 h35, rd 10 8 6 0 3 h35] <| cw1 Tryd.call29 (lgadd_ht l14 S.T S.now 1 y z wy ((S.q.headD 1)) (by omega) (by omega) (rel_attP hW15 hg hwy) hW15.ta (by omega)) h36 fun w37 h38 => ⟨kd [], ?_⟩
 refine go [.s 11 1] ?_
 by_cases c39 : (S.q.headD 1) = 1
 ·
  refine go [.v 11 1 (qeT ((S.q.headD 1)) 1)] <| dw (fls [0, 1, 2, 4] (Tr.an 3 (Tr.an 5 Tr.nil))) h38 fun _ h41 => ?_
  have h42 := tk8 (sf7 (sf6 (sf6 (sf7 (sf7 (sf7 (sf7 (sf7 h41))))))))
  refine go [rd 12 2 6 0 1 h41, rd 12 4 6 0 3 h41] <| cw1 Tryd.call30 (back_1 b f10 p11 d12 s13 l14 S.now) h42 fun _ h44 => ⟨kd [rd 0 4 6 0 3 h44], ?_⟩
  refine cw1 Tryd.call48 ((by have h_ := fclose_ht f10 64 S.F 1 y z (by omega) (by omega); rw [show clsX S.F (1, y, z) = giv S.F (1, y, z) from cls_giv hT] at h_; exact h_)) (tk8 (sf7 (sf6 (sf6 (sf6 (sf7 (sf7 (sf7 (sf7 h44))))))))) fun w46 h47 => ⟨kd [], ?_⟩
  refine go [] ?_
  have hp_ := rel_ok (S := S) (o := (1, y, z)) hwy hT hn
  have hp2_ : relS S (1, y, z) wy = ({ S with q := S.q.tail, T := S.T ++ [⟨S.now, (1, y, z), wy, S.q.headD 1⟩], F := giv S.F (1, y, z) } : Wst) := hp_.2.2.trans (if_pos (by omega))
  have h48 := tk8 (sf7 (sf6 (sf7 (sf7 (sf5 (sf4 (sf7 (sf7 h47))))))))
  have h49 : sat g w46 [Wd b ({ S with q := S.q.tail, T := S.T ++ [⟨S.now, (1, y, z), wy, S.q.headD 1⟩], F := giv S.F (1, y, z) } : Wst), Cl r17 [iV 1, iV y, uV z] 35, R] := wd_close (hp2_ ▸ wok_rel hW15 (1, y, z) wy) h48
  exact en (.tuple #[iV ((S.q.headD 1)), iV 0]) [] ⟨_, [Wd b ({ S with q := S.q.tail, T := S.T ++ [⟨S.now, (1, y, z), wy, S.q.headD 1⟩], F := giv S.F (1, y, z) } : Wst)], rfl, ⟨by rw [hp_.1, hp_.2.1], by rw [hp2_]⟩, (tk2 (sf1 (sf2 h49)))⟩
 refine go [.v 11 1 (qeF ((S.q.headD 1)) 1)] ?_
 have hp_ := rel_ok (S := S) (o := (1, y, z)) hwy hT hn
 have hp2_ : relS S (1, y, z) wy = ({ S with q := S.q.tail, T := S.T ++ [⟨S.now, (1, y, z), wy, S.q.headD 1⟩] } : Wst) := hp_.2.2.trans (if_neg (by omega))
 have h51 := tk8 (sf7 (sf7 (sf7 (sf7 (sf3 (sf2 (sf7 (sf7 h38))))))))
 have h52 : sat g w37 [Wd b ({ S with q := S.q.tail, T := S.T ++ [⟨S.now, (1, y, z), wy, S.q.headD 1⟩] } : Wst), Cl r17 [iV 1, iV y, uV z] 35, R] := wd_close (hp2_ ▸ wok_rel hW15 (1, y, z) wy) h51
 exact en (.tuple #[iV ((S.q.headD 1)), iV 0]) [] ⟨_, [Wd b ({ S with q := S.q.tail, T := S.T ++ [⟨S.now, (1, y, z), wy, S.q.headD 1⟩] } : Wst)], rfl, ⟨by rw [hp_.1, hp_.2.1], by rw [hp2_]⟩, (tk2 (sf1 (sf2 h52)))⟩

set_option maxHeartbeats 4000000 in
theorem wrel_2 (b : Nat) (S : Wst) (y z : Int) (hz0 : 0 ≤ z) (hz1 : z ≤ 4294967295) (hg : KGood (2, y, z)) (hy0 : 0 ≤ y) (hy1 : y ≤ 63) (hz : 1 ≤ z) (hT : Thr S (2, y, z)) (wy : Int) (hwy : 1 ≤ wy ∧ wy ≤ 3) (hn : S.T.length < 10000) : HT Tryd.prog 10 [pV b, .agg #[iV 2, iV y, uV z], iV wy] [Wd b S] (fun v K => v = .tuple #[iV (relA S (2, y, z) wy), iV (relE S (2, y, z) wy)] ∧ K = [Wd b (relS S (2, y, z) wy)]) := by
 refine hiS Tryd.func10 Tryd.ntmps10 fun g w0 R h0 => ?_
 obtain ⟨f10, p11, d12, s13, l14, hW15, h16⟩ := wd_open h0
 have hW15n := hW15.nl; have hW15m := hW15.nh; have hW15t := hW15.tn
 refine go [] <| nP 35 [iV 2, iV y, uV z] h16 (fun r17 _ h19 => ?_)
 have h20 := tk8 (sf7 (sf6 (sf7 (sf7 (sf7 (sf7 (sf7 (sf7 h19))))))))
 refine go [] <| cl1 Tryd.call22 (wvalid_cl b l14 Value.nilIface (.iface 48 (pV f10)) (.iface 51 (pV p11)) (.iface 54 (pV d12)) (pV s13) (iV S.now)) h20 fun _ h22 => go [rd 3 0 1 0 3 h22] <| cl0 Tryd.call27 (couter_ok 2 y z (by omega) (by omega) (by omega)) h22 fun _ h24 => ?_
 have h25 := tk8 (sf7 (sf7 (sf7 (sf7 (sf7 (sf7 (sf2 (sf7 h24))))))))
 refine go [.v 3 5 (oF (wy < 1)), .v 3 9 (oF (wy > 3)), rd 5 1 1 0 3 h24] <| cl6 Tryd.call28 ((by have h_ := has_ht b f10 p11 d12 s13 l14 S hW15 2 y z (by omega) (by omega); rw [decide_eq_true hT] at h_; exact h_)) h25 fun _ h27 => ?_
 have h28 := tk8 (sf7 (sf6 (sf6 (sf6 (sf6 (sf6 (sf7 (sf7 h27))))))))
 refine go [rd 7 3 0 5 1 h27] <| cl1 Tryd.call14 (lglen_ht l14 S.T) h28 fun _ h30 => ?_
 have h31 := tk8 (sf7 (sf6 (sf6 (sf6 (sf6 (sf6 (sf7 (sf7 h30))))))))
 refine go [.v 7 5 (oF (((S.T.length : Nat) : Int) ≥ 10000)), rd 9 3 1 4 1 h30] <| cl1 Tryd.call26 (next_ht s13 S.q) h31 fun _ h33 => go [] <| dw (fls [0, 1, 2, 3, 4, 5, 6, 7, 8, 9, 10, 11] (Tr.an 12 Tr.nil)) h33 fun _ h35 => ?_
 have h36 := tk8 (sf7 (sf6 (sf7 (sf7 (sf7 (sf7 (sf7 (sf7 h35))))))))
 refine go [rd 10 3 2 5 1 h35, rd 10 7 2 6 1 h35, rd 10 8 6 0 3 h35] <| cw1 Tryd.call29 (lgadd_ht l14 S.T S.now 2 y z wy ((S.q.headD 1)) (by omega) (by omega) (rel_attP hW15 hg hwy) hW15.ta (by omega)) h36 fun w37 h38 => ⟨kd [], ?_⟩
 refine go [.s 11 1] ?_
 by_cases c39 : (S.q.headD 1) = 1
 ·
  refine go [.v 11 1 (qeT ((S.q.headD 1)) 1)] <| dw (fls [0, 1, 2, 4] (Tr.an 3 (Tr.an 5 Tr.nil))) h38 fun _ h41 => ?_
  have h42 := tk8 (sf7 (sf6 (sf6 (sf7 (sf7 (sf7 (sf7 (sf7 h41))))))))
  refine go [rd 12 2 6 0 1 h41, rd 12 4 6 0 3 h41] <| cw1 Tryd.call30 (back_2 b f10 p11 d12 s13 l14 S.now) h42 fun _ h44 => ⟨kd [rd 0 4 6 0 3 h44], ?_⟩
  refine cw1 Tryd.call49 (punpin_ht p11 S.B y z y.toNat (thr_at hT) (thr_nat hg)) (tk8 (sf7 (sf6 (sf6 (sf6 (sf6 (sf7 (sf7 (sf7 h44))))))))) fun w46 h47 => ⟨kd [], ?_⟩
  refine go [] ?_
  have hp_ := rel_ok (S := S) (o := (2, y, z)) hwy hT hn
  have hp2_ : relS S (2, y, z) wy = ({ S with q := S.q.tail, T := S.T ++ [⟨S.now, (2, y, z), wy, S.q.headD 1⟩], B := giv S.B (2, y, z) } : Wst) := hp_.2.2.trans (if_pos (by omega))
  have h48 := tk8 (sf7 (sf7 (sf5 (sf7 (sf5 (sf4 (sf7 (sf7 h47))))))))
  have h49 : sat g w46 [Wd b ({ S with q := S.q.tail, T := S.T ++ [⟨S.now, (2, y, z), wy, S.q.headD 1⟩], B := giv S.B (2, y, z) } : Wst), Cl r17 [iV 2, iV y, uV z] 35, R] := wd_close (hp2_ ▸ wok_rel hW15 (2, y, z) wy) h48
  exact en (.tuple #[iV ((S.q.headD 1)), iV 0]) [] ⟨_, [Wd b ({ S with q := S.q.tail, T := S.T ++ [⟨S.now, (2, y, z), wy, S.q.headD 1⟩], B := giv S.B (2, y, z) } : Wst)], rfl, ⟨by rw [hp_.1, hp_.2.1], by rw [hp2_]⟩, (tk2 (sf1 (sf2 h49)))⟩
 refine go [.v 11 1 (qeF ((S.q.headD 1)) 1)] ?_
 have hp_ := rel_ok (S := S) (o := (2, y, z)) hwy hT hn
 have hp2_ : relS S (2, y, z) wy = ({ S with q := S.q.tail, T := S.T ++ [⟨S.now, (2, y, z), wy, S.q.headD 1⟩] } : Wst) := hp_.2.2.trans (if_neg (by omega))
 have h51 := tk8 (sf7 (sf7 (sf7 (sf7 (sf3 (sf2 (sf7 (sf7 h38))))))))
 have h52 : sat g w37 [Wd b ({ S with q := S.q.tail, T := S.T ++ [⟨S.now, (2, y, z), wy, S.q.headD 1⟩] } : Wst), Cl r17 [iV 2, iV y, uV z] 35, R] := wd_close (hp2_ ▸ wok_rel hW15 (2, y, z) wy) h51
 exact en (.tuple #[iV ((S.q.headD 1)), iV 0]) [] ⟨_, [Wd b ({ S with q := S.q.tail, T := S.T ++ [⟨S.now, (2, y, z), wy, S.q.headD 1⟩] } : Wst)], rfl, ⟨by rw [hp_.1, hp_.2.1], by rw [hp2_]⟩, (tk2 (sf1 (sf2 h52)))⟩

set_option maxHeartbeats 4000000 in
theorem wrel_3 (b : Nat) (S : Wst) (y z : Int) (hz0 : 0 ≤ z) (hz1 : z ≤ 4294967295) (hg : KGood (3, y, z)) (hy0 : 0 ≤ y) (hy1 : y ≤ 63) (hz : 1 ≤ z) (hT : Thr S (3, y, z)) (wy : Int) (hwy : 1 ≤ wy ∧ wy ≤ 3) (hn : S.T.length < 10000) : HT Tryd.prog 10 [pV b, .agg #[iV 3, iV y, uV z], iV wy] [Wd b S] (fun v K => v = .tuple #[iV (relA S (3, y, z) wy), iV (relE S (3, y, z) wy)] ∧ K = [Wd b (relS S (3, y, z) wy)]) := by
 refine hiS Tryd.func10 Tryd.ntmps10 fun g w0 R h0 => ?_
 obtain ⟨f10, p11, d12, s13, l14, hW15, h16⟩ := wd_open h0
 have hW15n := hW15.nl; have hW15m := hW15.nh; have hW15t := hW15.tn
 refine go [] <| nP 35 [iV 3, iV y, uV z] h16 (fun r17 _ h19 => ?_)
 have h20 := tk8 (sf7 (sf6 (sf7 (sf7 (sf7 (sf7 (sf7 (sf7 h19))))))))
 refine go [] <| cl1 Tryd.call22 (wvalid_cl b l14 Value.nilIface (.iface 48 (pV f10)) (.iface 51 (pV p11)) (.iface 54 (pV d12)) (pV s13) (iV S.now)) h20 fun _ h22 => go [rd 3 0 1 0 3 h22] <| cl0 Tryd.call27 (couter_ok 3 y z (by omega) (by omega) (by omega)) h22 fun _ h24 => ?_
 have h25 := tk8 (sf7 (sf7 (sf7 (sf7 (sf7 (sf7 (sf2 (sf7 h24))))))))
 refine go [.v 3 5 (oF (wy < 1)), .v 3 9 (oF (wy > 3)), rd 5 1 1 0 3 h24] <| cl6 Tryd.call28 ((by have h_ := has_ht b f10 p11 d12 s13 l14 S hW15 3 y z (by omega) (by omega); rw [decide_eq_true hT] at h_; exact h_)) h25 fun _ h27 => ?_
 have h28 := tk8 (sf7 (sf6 (sf6 (sf6 (sf6 (sf6 (sf7 (sf7 h27))))))))
 refine go [rd 7 3 0 5 1 h27] <| cl1 Tryd.call14 (lglen_ht l14 S.T) h28 fun _ h30 => ?_
 have h31 := tk8 (sf7 (sf6 (sf6 (sf6 (sf6 (sf6 (sf7 (sf7 h30))))))))
 refine go [.v 7 5 (oF (((S.T.length : Nat) : Int) ≥ 10000)), rd 9 3 1 4 1 h30] <| cl1 Tryd.call26 (next_ht s13 S.q) h31 fun _ h33 => go [] <| dw (fls [0, 1, 2, 3, 4, 5, 6, 7, 8, 9, 10, 11] (Tr.an 12 Tr.nil)) h33 fun _ h35 => ?_
 have h36 := tk8 (sf7 (sf6 (sf7 (sf7 (sf7 (sf7 (sf7 (sf7 h35))))))))
 refine go [rd 10 3 2 5 1 h35, rd 10 7 2 6 1 h35, rd 10 8 6 0 3 h35] <| cw1 Tryd.call29 (lgadd_ht l14 S.T S.now 3 y z wy ((S.q.headD 1)) (by omega) (by omega) (rel_attP hW15 hg hwy) hW15.ta (by omega)) h36 fun w37 h38 => ⟨kd [], ?_⟩
 refine go [.s 11 1] ?_
 by_cases c39 : (S.q.headD 1) = 1
 ·
  refine go [.v 11 1 (qeT ((S.q.headD 1)) 1)] <| dw (fls [0, 1, 2, 4] (Tr.an 3 (Tr.an 5 Tr.nil))) h38 fun _ h41 => ?_
  have h42 := tk8 (sf7 (sf6 (sf6 (sf7 (sf7 (sf7 (sf7 (sf7 h41))))))))
  refine go [rd 12 2 6 0 1 h41, rd 12 4 6 0 3 h41] <| cw1 Tryd.call30 (back_3 b f10 p11 d12 s13 l14 S.now) h42 fun _ h44 => ⟨kd [rd 0 4 6 0 3 h44], ?_⟩
  refine cw1 Tryd.call50 (dreturn_ht d12 S.D y z y.toNat (thr_at hT) (thr_nat hg) (by omega)) (tk8 (sf7 (sf6 (sf6 (sf6 (sf6 (sf6 (sf7 (sf7 h44))))))))) fun w46 h47 => ⟨kd [], ?_⟩
  refine go [] ?_
  have hp_ := rel_ok (S := S) (o := (3, y, z)) hwy hT hn
  have hp2_ : relS S (3, y, z) wy = ({ S with q := S.q.tail, T := S.T ++ [⟨S.now, (3, y, z), wy, S.q.headD 1⟩], D := giv S.D (3, y, z) } : Wst) := hp_.2.2.trans (if_pos (by omega))
  have h48 := tk8 (sf7 (sf7 (sf7 (sf4 (sf5 (sf4 (sf7 (sf7 h47))))))))
  have h49 : sat g w46 [Wd b ({ S with q := S.q.tail, T := S.T ++ [⟨S.now, (3, y, z), wy, S.q.headD 1⟩], D := giv S.D (3, y, z) } : Wst), Cl r17 [iV 3, iV y, uV z] 35, R] := wd_close (hp2_ ▸ wok_rel hW15 (3, y, z) wy) h48
  exact en (.tuple #[iV ((S.q.headD 1)), iV 0]) [] ⟨_, [Wd b ({ S with q := S.q.tail, T := S.T ++ [⟨S.now, (3, y, z), wy, S.q.headD 1⟩], D := giv S.D (3, y, z) } : Wst)], rfl, ⟨by rw [hp_.1, hp_.2.1], by rw [hp2_]⟩, (tk2 (sf1 (sf2 h49)))⟩
 refine go [.v 11 1 (qeF ((S.q.headD 1)) 1)] ?_
 have hp_ := rel_ok (S := S) (o := (3, y, z)) hwy hT hn
 have hp2_ : relS S (3, y, z) wy = ({ S with q := S.q.tail, T := S.T ++ [⟨S.now, (3, y, z), wy, S.q.headD 1⟩] } : Wst) := hp_.2.2.trans (if_neg (by omega))
 have h51 := tk8 (sf7 (sf7 (sf7 (sf7 (sf3 (sf2 (sf7 (sf7 h38))))))))
 have h52 : sat g w37 [Wd b ({ S with q := S.q.tail, T := S.T ++ [⟨S.now, (3, y, z), wy, S.q.headD 1⟩] } : Wst), Cl r17 [iV 3, iV y, uV z] 35, R] := wd_close (hp2_ ▸ wok_rel hW15 (3, y, z) wy) h51
 exact en (.tuple #[iV ((S.q.headD 1)), iV 0]) [] ⟨_, [Wd b ({ S with q := S.q.tail, T := S.T ++ [⟨S.now, (3, y, z), wy, S.q.headD 1⟩] } : Wst)], rfl, ⟨by rw [hp_.1, hp_.2.1], by rw [hp2_]⟩, (tk2 (sf1 (sf2 h52)))⟩

theorem wrel_ht (b : Nat) (S : Wst) (x y z wy : Int) (hz0 : 0 ≤ z) (hz1 : z ≤ 4294967295) : HT Tryd.prog 10 [pV b, .agg #[iV x, iV y, uV z], iV wy] [Wd b S] (fun v K => v = Value.tuple #[Value.int .i64 (relA S (x, y, z) wy), Value.int .i64 (relE S (x, y, z) wy)] ∧ K = [Wd b (relS S (x, y, z) wy)]) := by
  by_cases h : KGood (x, y, z)
  · by_cases hw : 1 ≤ wy ∧ wy ≤ 3
    · by_cases hT : Thr S (x, y, z)
      · by_cases hn : S.T.length < 10000
        · rcases kgood_k h with h1 | h1 | h1
          · have h2 : x = 1 := h1
            subst h2
            exact wrel_1 b S y z hz0 hz1 h h.2.2.1 h.2.2.2.1 h.2.2.2.2 hT wy hw hn
          · have h2 : x = 2 := h1
            subst h2
            exact wrel_2 b S y z hz0 hz1 h h.2.2.1 h.2.2.2.1 h.2.2.2.2 hT wy hw hn
          · have h2 : x = 3 := h1
            subst h2
            exact wrel_3 b S y z hz0 hz1 h h.2.2.1 h.2.2.2.1 h.2.2.2.2 hT wy hw hn
        · exact wrel_full b S x y z hz0 hz1 h h.2.2.1 h.2.2.2.1 h.2.2.2.2 ⟨h.1, h.2.1⟩ hT wy hw (by omega)
      · exact wrel_none b S x y z hz0 hz1 h h.2.2.1 h.2.2.2.1 h.2.2.2.2 ⟨h.1, h.2.1⟩ hT wy hw
    · exact wrel_wy b S x y z hz0 hz1 h h.2.2.1 h.2.2.2.1 h.2.2.2.2 ⟨h.1, h.2.1⟩ wy (by omega)
  · exact wrel_no b S x y z wy hz0 hz1 h

end Go.Proofs.YtggfnbpohmhphaaDoor

/-
  Steps of scripts, and what they do. No program in sight.
-/
namespace Go.Proofs.YtggfnbpohmhphaaDoor
structure Sq where
  d : Int
  k : Int
  a : Int
  o : Ky
  wy : Int
  tk : Int
  tx : List UInt8
/-- Short scripts. -/
def Sho (L : List Sq) (m : Int) : Prop := (L.length : Int) ≤ m ∧ ∀ s ∈ L, s.tx.length ≤ 40
instance (L : List Sq) (m : Int) : Decidable (Sho L m) := by unfold Sho; infer_instance
section
variable {S : Wst} {s : Sq}
end
theorem allK_le (k : Int) {X : Xs} (h : X.length = 64) : (allK k X).length ≤ 64 := by
  rw [allK_len]
  have := inS_len 1 (As X) 0
  rw [as_len, h] at this
  exact this
theorem allS_le {S : Wst} (h : WOk S) : (allS S).length ≤ 192 := by
  have h1 := allK_le 1 h.fl
  have h2 := allK_le 2 h.bl
  have h3 := allK_le 3 h.dl
  unfold allS
  rw [List.length_append, List.length_append]
  omega
end Go.Proofs.YtggfnbpohmhphaaDoor

/- Walks, printed by my generator o14.py. -/
namespace Go.Proofs.YtggfnbpohmhphaaDoor
theorem q14e35_eql_t {n : Nat} {l : Fr} {o : Oper} {x y : Operand} (a0 : Int) (a1 : Int) (a2 : Int) (c0 : Int) (c1 : Int) (c2 : Int) (ho : o.op = .binOp .eql 35 x y 35) (hx : fe n l x = .agg #[.int .i64 a0, .int .i64 a1, .int .u32 a2]) (hy : fe n l y = .agg #[.int .i64 c0, .int .i64 c1, .int .u32 c2]) (h : a0 = c0 ∧ a1 = c1 ∧ a2 = c2) (w : World) : (execOp (fe n l) o).run Tryd.prog w = .ok (.value (.bool true)) w := by
  obtain ⟨rfl, rfl, rfl⟩ := h
  simp [execOp, ho, hx, hy, go_sem]
theorem q14e35_neq_t {n : Nat} {l : Fr} {o : Oper} {x y : Operand} (a0 : Int) (a1 : Int) (a2 : Int) (c0 : Int) (c1 : Int) (c2 : Int) (ho : o.op = .binOp .neq 35 x y 35) (hx : fe n l x = .agg #[.int .i64 a0, .int .i64 a1, .int .u32 a2]) (hy : fe n l y = .agg #[.int .i64 c0, .int .i64 c1, .int .u32 c2]) (h : a0 = c0 ∧ a1 = c1 ∧ a2 = c2) (w : World) : (execOp (fe n l) o).run Tryd.prog w = .ok (.value (.bool false)) w := by
  obtain ⟨rfl, rfl, rfl⟩ := h
  simp [execOp, ho, hx, hy, go_sem]
set_option maxHeartbeats 4000000 in
theorem lfile_ht (y z : Int) : HT Tryd.prog 11 [iV y, uV z] [] (fun v K => v = .agg #[iV 1, iV y, uV z] ∧ K = []) := by
 refine hiS Tryd.func11 Tryd.ntmps11 fun g w0 R h0 => go [] <| nP 35 [iV 0, iV 0, uV 0] h0 (fun _ _ h12 => ?_)
 refine go [] <| sP [(0, iV 1), (1, iV y), (2, uV z)] [iV 1, iV y, uV z] h12 fun _ h14 => go [] ?_
 exact en (.agg #[iV 1, iV y, uV z]) [rd 0 0 0 0 3 h14] ⟨_, _, rfl, ⟨rfl, rfl⟩, (tk1 (sf1 h14))⟩

set_option maxHeartbeats 4000000 in
theorem works_ht (wo : World) (hg : Lett wo) : HT Tryd.prog 4 [] [Old wo] (fun v K => v = .bool true ∧ K = [Old wo]) := by
 refine hiS Tryd.func4 Tryd.ntmps4 fun g w0 R h0 => go [] <| cP Tryd.call5 (wnew_ht 1 (by omega)) h0 ?_
 rintro v K _ (⟨b10, rfl, rfl⟩) h12
 have h13 := ap1 h12
 refine go [] <| cl2 Tryd.call6 ((by have h_ := wansw_ht wo hg b10 (wnew 1) [108, 111, 111, 102, 111] (by decide); rw [show aswE (wnew 1) [108, 111, 111, 102, 111] = 0 from by kernel_rfl] at h_; exact h_)) h13 fun _ h15 => ?_
 refine go [] <| cl1 Tryd.call9 ((by have h_ := wacq_ht b10 (aswS (wnew 1) [108, 111, 111, 102, 111]) 1 5; rw [show acqO (aswS (wnew 1) [108, 111, 111, 102, 111]) 1 5 = ((0, 0, 0) : Ky) from by kernel_rfl, show acqE (aswS (wnew 1) [108, 111, 111, 102, 111]) 1 5 = 15 from by kernel_rfl] at h_; exact h_)) h15 fun _ h17 => ?_
 refine go [] <| nP 35 [iV 0, iV 0, uV 0] h17 (fun _ _ h20 => ?_)
 refine sP [(0, iV 0), (1, iV 0), (2, uV 0)] [iV 0, iV 0, uV 0] h20 fun _ h22 => ?_
 have h23 := tk4 (sf3 (sf2 (sf3 (sf3 h22))))
 refine go [] <| cl1 Tryd.call9 ((by have h_ := wacq_ht b10 (acqS (aswS (wnew 1) [108, 111, 111, 102, 111]) 1 5) 1 5; rw [show acqO (acqS (aswS (wnew 1) [108, 111, 111, 102, 111]) 1 5) 1 5 = ((1, 0, 1) : Ky) from by kernel_rfl, show acqE (acqS (aswS (wnew 1) [108, 111, 111, 102, 111]) 1 5) 1 5 = 0 from by kernel_rfl] at h_; exact h_)) h23 fun _ h25 => ?_
 refine go [] <| nP 35 [iV 0, iV 0, uV 0] h25 (fun _ _ h28 => ?_)
 refine sP [(0, iV 1), (1, iV 0), (2, uV 1)] [iV 1, iV 0, uV 1] h28 fun _ h30 => ?_
 have h31 := tk5 (sf4 (sf3 (sf4 (sf4 (sf4 h30)))))
 refine go [] <| cl1 Tryd.call9 ((by have h_ := wacq_ht b10 (acqS (acqS (aswS (wnew 1) [108, 111, 111, 102, 111]) 1 5) 1 5) 2 100; rw [show acqO (acqS (acqS (aswS (wnew 1) [108, 111, 111, 102, 111]) 1 5) 1 5) 2 100 = ((2, 0, 1) : Ky) from by kernel_rfl, show acqE (acqS (acqS (aswS (wnew 1) [108, 111, 111, 102, 111]) 1 5) 1 5) 2 100 = 0 from by kernel_rfl] at h_; exact h_)) h31 fun _ h33 => ?_
 refine go [] <| nP 35 [iV 0, iV 0, uV 0] h33 (fun _ _ h36 => ?_)
 refine sP [(0, iV 2), (1, iV 0), (2, uV 1)] [iV 2, iV 0, uV 1] h36 fun _ h38 => go [] <| dw (fls [0, 1, 2, 3, 4, 5, 6, 7] (Tr.an 8 (fls [9, 10, 11, 12, 13, 14, 15, 16, 17, 18, 19, 20, 21] (Tr.an 22 (fls [23, 24] Tr.nil))))) h38 fun _ h40 => go [rd 7 7 2 0 3 h40] <| cw0 Tryd.call11 (lfile_ht 0 1) h40 fun _ h42 => ⟨kd [rd 0 7 2 0 3 h42], ?_⟩
 refine lw (.bool false) (fun _ => q14e35_neq_t (x := (Operand.tmp 54)) (y := (Operand.tmp 55)) 1 0 1 1 0 1 (by kernel_rfl) (by kernel_rfl) (by kernel_rfl) ⟨rfl, rfl, rfl⟩ _) ?_
 have h43 := tk6 (sf5 (sf4 (sf5 (sf5 (sf5 (sf5 h42))))))
 refine go [rd 7 17 0 0 1 h42] <| cw1 Tryd.call12 ((by have h_ := wtick_ht b10 (acqS (acqS (acqS (aswS (wnew 1) [108, 111, 111, 102, 111]) 1 5) 1 5) 2 100) 7; rw [show tckE (acqS (acqS (acqS (aswS (wnew 1) [108, 111, 111, 102, 111]) 1 5) 1 5) 2 100) 7 = 0 from by kernel_rfl] at h_; exact h_)) h43 fun _ h45 => ⟨kd [], ?_⟩
 refine go [rd 9 1 2 0 3 h45] <| cl1 Tryd.call10 ((by have h_ := wrel_ht b10 (tckS (acqS (acqS (acqS (aswS (wnew 1) [108, 111, 111, 102, 111]) 1 5) 1 5) 2 100) 7) 1 0 1 1 (by omega) (by omega); rw [show relA (tckS (acqS (acqS (acqS (aswS (wnew 1) [108, 111, 111, 102, 111]) 1 5) 1 5) 2 100) 7) ((1, 0, 1) : Ky) 1 = 3 from by kernel_rfl, show relE (tckS (acqS (acqS (acqS (aswS (wnew 1) [108, 111, 111, 102, 111]) 1 5) 1 5) 2 100) 7) ((1, 0, 1) : Ky) 1 = 0 from by kernel_rfl] at h_; exact h_)) h45 fun _ h47 => ?_
 refine go [rd 10 1 2 0 3 h47] <| cl1 Tryd.call10 ((by have h_ := wrel_ht b10 (relS (tckS (acqS (acqS (acqS (aswS (wnew 1) [108, 111, 111, 102, 111]) 1 5) 1 5) 2 100) 7) ((1, 0, 1) : Ky) 1) 1 0 1 1 (by omega) (by omega); rw [show relA (relS (tckS (acqS (acqS (acqS (aswS (wnew 1) [108, 111, 111, 102, 111]) 1 5) 1 5) 2 100) 7) ((1, 0, 1) : Ky) 1) ((1, 0, 1) : Ky) 1 = 1 from by kernel_rfl, show relE (relS (tckS (acqS (acqS (acqS (aswS (wnew 1) [108, 111, 111, 102, 111]) 1 5) 1 5) 2 100) 7) ((1, 0, 1) : Ky) 1) ((1, 0, 1) : Ky) 1 = 0 from by kernel_rfl] at h_; exact h_)) h47 fun _ h49 => ?_
 refine go [rd 11 1 2 0 3 h49] <| cl1 Tryd.call10 ((by have h_ := wrel_ht b10 (relS (relS (tckS (acqS (acqS (acqS (aswS (wnew 1) [108, 111, 111, 102, 111]) 1 5) 1 5) 2 100) 7) ((1, 0, 1) : Ky) 1) ((1, 0, 1) : Ky) 1) 1 0 1 1 (by omega) (by omega); rw [show relA (relS (relS (tckS (acqS (acqS (acqS (aswS (wnew 1) [108, 111, 111, 102, 111]) 1 5) 1 5) 2 100) 7) ((1, 0, 1) : Ky) 1) ((1, 0, 1) : Ky) 1) ((1, 0, 1) : Ky) 1 = 0 from by kernel_rfl, show relE (relS (relS (tckS (acqS (acqS (acqS (aswS (wnew 1) [108, 111, 111, 102, 111]) 1 5) 1 5) 2 100) 7) ((1, 0, 1) : Ky) 1) ((1, 0, 1) : Ky) 1) ((1, 0, 1) : Ky) 1 = 5 from by kernel_rfl] at h_; exact h_)) h49 fun _ h51 => ?_
 refine go [] <| cl1 Tryd.call9 ((by have h_ := wacq_ht b10 (relS (relS (relS (tckS (acqS (acqS (acqS (aswS (wnew 1) [108, 111, 111, 102, 111]) 1 5) 1 5) 2 100) 7) ((1, 0, 1) : Ky) 1) ((1, 0, 1) : Ky) 1) ((1, 0, 1) : Ky) 1) 1 5; rw [show acqO (relS (relS (relS (tckS (acqS (acqS (acqS (aswS (wnew 1) [108, 111, 111, 102, 111]) 1 5) 1 5) 2 100) 7) ((1, 0, 1) : Ky) 1) ((1, 0, 1) : Ky) 1) ((1, 0, 1) : Ky) 1) 1 5 = ((1, 0, 2) : Ky) from by kernel_rfl, show acqE (relS (relS (relS (tckS (acqS (acqS (acqS (aswS (wnew 1) [108, 111, 111, 102, 111]) 1 5) 1 5) 2 100) 7) ((1, 0, 1) : Ky) 1) ((1, 0, 1) : Ky) 1) ((1, 0, 1) : Ky) 1) 1 5 = 0 from by kernel_rfl] at h_; exact h_)) h51 fun _ h53 => ?_
 refine go [] <| nP 35 [iV 0, iV 0, uV 0] h53 (fun _ _ h56 => ?_)
 refine sP [(0, iV 1), (1, iV 0), (2, uV 2)] [iV 1, iV 0, uV 2] h56 fun _ h58 => go [] <| dw (fls [0, 1, 2, 3, 4, 5, 6, 7, 8, 9, 10, 11, 12, 13, 14, 15, 16, 17, 18, 19, 20, 21, 22, 23] (Tr.an 24 (fls [25, 26, 27, 28] (Tr.an 29 (Tr.an 30 (fls [31, 32, 33, 34] (Tr.an 35 (fls [36, 37, 38] Tr.nil)))))))) h58 fun _ h60 => go [rd 13 23 0 0 3 h60] <| cw0 Tryd.call11 (lfile_ht 0 2) h60 fun _ h62 => ⟨kd [rd 0 23 0 0 3 h62], ?_⟩
 refine lw (.bool true) (fun _ => q14e35_eql_t (x := (Operand.tmp 118)) (y := (Operand.tmp 119)) 1 0 2 1 0 2 (by kernel_rfl) (by kernel_rfl) (by kernel_rfl) ⟨rfl, rfl, rfl⟩ _) ?_
 have h64 := tk7 (sf6 (sf5 (sf6 (sf6 (sf6 (sf6 (sf6 h62)))))))
 refine go [] <| cG Tryd.call13 (wledg_ht b10 (acqS (relS (relS (relS (tckS (acqS (acqS (acqS (aswS (wnew 1) [108, 111, 111, 102, 111]) 1 5) 1 5) 2 100) 7) ((1, 0, 1) : Ky) 1) ((1, 0, 1) : Ky) 1) ((1, 0, 1) : Ky) 1) 1 5)) h64 ?_
 rintro v K _ (⟨b63, rfl, rfl⟩) h66
 have h67 := ap2 h66
 refine ⟨kd [], ?_⟩
 refine cw1 Tryd.call14 ((by have h_ := lglen_ht b63 ((acqS (relS (relS (relS (tckS (acqS (acqS (acqS (aswS (wnew 1) [108, 111, 111, 102, 111]) 1 5) 1 5) 2 100) 7) ((1, 0, 1) : Ky) 1) ((1, 0, 1) : Ky) 1) ((1, 0, 1) : Ky) 1) 1 5).T); rw [show List.length ((acqS (relS (relS (relS (tckS (acqS (acqS (acqS (aswS (wnew 1) [108, 111, 111, 102, 111]) 1 5) 1 5) 2 100) 7) ((1, 0, 1) : Ky) 1) ((1, 0, 1) : Ky) 1) ((1, 0, 1) : Ky) 1) 1 5).T) = 2 from by kernel_rfl] at h_; exact h_)) (tk8 (sf7 (sf6 (sf7 (sf7 (sf7 (sf7 (sf7 (sf7 h67))))))))) fun _ h70 => ⟨kd [], ?_⟩
 have h71 := tk8 (sf7 (sf6 (sf7 (sf7 (sf7 (sf7 (sf7 (sf7 h70))))))))
 refine go [] <| cw1 Tryd.call15 ((by have h_ := wnow_ht b10 (acqS (relS (relS (relS (tckS (acqS (acqS (acqS (aswS (wnew 1) [108, 111, 111, 102, 111]) 1 5) 1 5) 2 100) 7) ((1, 0, 1) : Ky) 1) ((1, 0, 1) : Ky) 1) ((1, 0, 1) : Ky) 1) 1 5); rw [show Wst.now (acqS (relS (relS (relS (tckS (acqS (acqS (acqS (aswS (wnew 1) [108, 111, 111, 102, 111]) 1 5) 1 5) 2 100) 7) ((1, 0, 1) : Ky) 1) ((1, 0, 1) : Ky) 1) ((1, 0, 1) : Ky) 1) 1 5) = 7 from by kernel_rfl] at h_; exact h_)) h71 fun _ h73 => ⟨kd [], ?_⟩
 refine go [] ?_
 exact en (.bool true) [] ⟨_, _, rfl, ⟨rfl, rfl⟩, (tk2 (sf1 (sf7 (tk8 (sf7 (sf6 (sf6 (sf6 (sf6 (sf6 (sf6 (sf7 h73))))))))))))⟩

end Go.Proofs.YtggfnbpohmhphaaDoor

/- Walks, printed by my generator o15.py. -/
namespace Go.Proofs.YtggfnbpohmhphaaDoor

end Go.Proofs.YtggfnbpohmhphaaDoor

/- Walks, printed by my generator o16.py. -/
namespace Go.Proofs.YtggfnbpohmhphaaDoor

end Go.Proofs.YtggfnbpohmhphaaDoor

/-
  What steps do to what is there, to the attempts and to the time. No program in sight.
-/
namespace Go.Proofs.YtggfnbpohmhphaaDoor
theorem inS_cnt : ∀ (A : List Sl2) (k : Nat), (inS 1 A k).length = A.countP (fun s => decide (s.1 = 1))
  | [], _ => rfl
  | s :: A, k => by
    have := inS_cnt A (k + 1)
    unfold inS
    by_cases hs : s.1 = 1
    · rw [if_pos hs, List.length_cons, this, List.countP_cons_of_pos (by simpa using hs)]
    · rw [if_neg hs, this, List.countP_cons_of_neg (by simpa using hs)]
def nT (X : Xs) : Nat := (inS 1 (As X) 0).length
section
variable {X : Xs} {S : Wst} {s : Sq} {o o' : Ky} {k a y t : Int}
theorem nT_pos {i : Nat} {g : Int} (h : (As X)[i]? = some (1, g)) : 1 ≤ nT X := by
  unfold nT
  rw [inS_cnt]
  exact List.countP_pos_iff.2 ⟨_, List.mem_of_getElem? h, by simp⟩
theorem fre_as {i : Nat} {g : Int} (h : fre X = some (i, g)) : (As X)[i]? = some (0, g) := by
  obtain ⟨v, hv⟩ := fre_some h
  exact as_get hv
theorem all_len (S : Wst) : (allS S).length = nT S.F + (nT S.B + nT S.D) := by
  unfold allS nT
  rw [List.length_append, List.length_append, allK_len, allK_len, allK_len]
theorem tab_len (h : WOk S) (k : Int) : (S.tab k).length = 64 := by
  unfold Wst.tab
  split
  · exact h.fl
  · split
    · exact h.bl
    · exact h.dl
theorem tab_ok (h : WOk S) (k : Int) : Sok (As (S.tab k)) := by
  unfold Wst.tab
  split
  · exact h.fk
  · split
    · exact h.bk
    · exact h.dk
/-- Members. -/
theorem mem_all (hW : WOk S) (h : o ∈ allS S) : Thr S o := by
  have key : ∀ {k : Int} {X : Xs}, X = S.tab k → (k = 1 ∨ k = 2 ∨ k = 3) → o ∈ allK k X → Thr S o := by
    intro k X hX hk hm
    subst hX
    unfold allK at hm
    obtain ⟨⟨j, g⟩, h1, rfl⟩ := List.mem_map.1 hm
    obtain ⟨i, hi⟩ := List.getElem?_of_mem h1
    have h3 := (inS_mem hi).2
    rw [Nat.sub_zero] at h3
    have h4 := (List.getElem?_eq_some_iff.1 h3).1
    rw [as_len, tab_len hW] at h4
    have h5 := (tab_ok hW k) _ (List.mem_of_getElem? h3)
    refine ⟨⟨by show 1 ≤ k; omega, by show k ≤ 3; omega, by show (0 : Int) ≤ (j : Int); omega, by show (j : Int) ≤ 63; omega, h5.2.2.1⟩, ?_⟩
    show (As (S.tab k))[((j : Int)).toNat]? = some (1, g)
    rw [Int.toNat_natCast]
    exact h3
  unfold allS at h
  rcases List.mem_append.1 h with h | h
  · exact key (tab1 S).symm (.inl rfl) h
  · rcases List.mem_append.1 h with h | h
    · exact key (tab2 S).symm (.inr (.inl rfl)) h
    · exact key (tab3 S).symm (.inr (.inr rfl)) h
theorem all_at (hW : WOk S) {i : Nat} (h : (allS S)[i]? = some o) : Thr S o := mem_all hW (List.mem_of_getElem? h)
end
end Go.Proofs.YtggfnbpohmhphaaDoor

/-
  Answers that are added, acquisitions with them, and a release. No program in sight.
-/
namespace Go.Proofs.YtggfnbpohmhphaaDoor
section
variable {S : Wst} {o : Ky} {k a y : Int} {q : List Int}
theorem thr_gen (hW : WOk S) (h : Thr S o) : 0 ≤ o.2.2 ∧ o.2.2 ≤ 4294967295 := by
  have := (tab_ok hW o.1) _ (List.mem_of_getElem? h.2)
  exact ⟨by have h1 : 1 ≤ o.2.2 := this.2.2.1; omega, this.2.2.2⟩
end
end Go.Proofs.YtggfnbpohmhphaaDoor

/-
  Answers that are told in their order. No program in sight.
-/
namespace Go.Proofs.YtggfnbpohmhphaaDoor
def eBl (b : Bool) : List Value := [.bool b]
theorem eBl_ok : Enc 1 eBl := ⟨fun _ => rfl, fun x v hv => by simp [eBl] at hv; subst hv; rfl⟩
def cdL (L : List UInt8) : List Int := (L.map lq).map cd
/-- The next answer. -/
def nxV (L : List UInt8) (u : Nat) : Int := ((cdL L).drop u).headD 1
structure Tol (S : Wst) (L : List UInt8) (i u : Nat) : Prop where
  ok : WOk S
  q : S.q = (cdL L).drop u
  b : nT S.B = 0
  d : nT S.D = 0
  f : ∀ s ∈ As S.F, (s.1 = 0 ∨ s.1 = 1) ∧ s.2 ≤ 1 + (i : Int)
  t : S.T.length ≤ i
section
variable {S : Wst} {L : List UInt8} {i u j : Nat} {x : UInt8} {o : Ky}
theorem nx_end (h : L.length ≤ u) : nxV L u = 1 := by
  unfold nxV cdL
  rw [List.drop_of_length_le (by rw [List.length_map, List.length_map]; exact h)]
  rfl
theorem nx_at (h : L[u]? = some x) : nxV L u = cd (lq x) := by
  unfold nxV
  have h1 : (cdL L)[u]? = some (cd (lq x)) := by unfold cdL; rw [List.getElem?_map, List.getElem?_map, h]; rfl
  have h2 : ((cdL L).drop u)[0]? = some (cd (lq x)) := by rw [List.getElem?_drop]; exact h1
  cases hq : (cdL L).drop u with
  | nil => rw [hq] at h2; exact nomatch h2
  | cons y M => rw [hq] at h2; exact Option.some.inj h2
theorem nx_bd (L : List UInt8) (u : Nat) : 1 ≤ nxV L u ∧ nxV L u ≤ 3 := by
  rcases Nat.lt_or_ge u L.length with h | h
  · rw [nx_at (List.getElem?_eq_getElem h), cd_lq]; omega
  · rw [nx_end h]; decide
theorem dr_tl (h : S.q = (cdL L).drop u) : S.q.tail = (cdL L).drop (u + 1) := by
  rw [h, List.tail_drop]
theorem tol_no (h : Tol S L i u) : Tol S L (i + 1) u := { h with f := fun s hs => by have := h.f s hs; omega, t := Nat.le_succ_of_le h.t }
theorem tol_tl (h : Tol S L i u) : Tol { S with q := S.q.tail } L i (u + 1) := { h with ok := wok_tl h.ok, q := dr_tl h.q }
theorem nT_all1 {X : Xs} (h : ∀ s ∈ As X, s.1 = 0 ∨ s.1 = 1) (hf : fre X = none) : nT X = X.length := by
  unfold nT
  rw [inS_cnt, ← as_len X]
  refine List.countP_eq_length.2 fun s hs => ?_
  rcases h s hs with h0 | h1
  · exfalso
    obtain ⟨k, hk⟩ := List.getElem?_of_mem hs
    have := inS_at (q := 0) hk h0
    have h2 := fre_none.1 hf
    rw [List.length_eq_zero_iff.1 h2] at this
    exact nomatch this
  · exact decide_eq_true h1
theorem tol_acq (h : Tol S L i u) (hi : i ≤ 1000) (hn : (allS S).length < 64) : ((nxV L u = 1 ∧ acqE S 1 i = 0) ∨ (nxV L u = 2 ∧ acqE S 1 i = 15) ∨ (nxV L u = 3 ∧ acqE S 1 i = 14)) ∧ Tol (acqS S 1 i) L (i + 1) (u + 1) := by
  have hg : godP 1 (i : Int) := god1 (by omega)
  have hf : fre S.F ≠ none := fun q => by
    have h1 := nT_all1 (fun s hs => (h.f s hs).1) q
    rw [all_len, h1, h.ok.fl] at hn
    omega
  have he : grwE S 1 i = 0 := by
    unfold grwE
    rw [if_neg (by rintro ⟨q, _⟩; exact absurd q (by decide)), if_neg (by rintro ⟨q, _⟩; exact absurd q (by decide)), if_neg (show ¬ fre (S.tab 1) = none from hf)]
  have hh : nxV L u = S.q.headD 1 := by rw [h.q]; rfl
  have hb := nx_bd L u
  have h3 := tol_no (tol_tl h)
  by_cases h1 : S.q.headD 1 = 2
  · obtain ⟨e, _, e2⟩ := acq_later hg he h1
    exact ⟨.inr (.inl ⟨hh.trans h1, e⟩), by rw [e2]; exact h3⟩
  · by_cases h2 : S.q.headD 1 = 3
    · obtain ⟨e, _, e2⟩ := acq_fail hg he h1 h2
      exact ⟨.inr (.inr ⟨hh.trans h2, e⟩), by rw [e2]; exact h3⟩
    · obtain ⟨e, _, e2⟩ := acq_ok hg he h1 h2
      refine ⟨.inl ⟨by omega, e⟩, ?_⟩
      have ho := wok_acq h.ok 1 i
      rw [e2] at ho ⊢
      rw [put1, tab1] at ho ⊢
      refine { h3 with ok := ho, f := fun s hs => ?_ }
      cases hf2 : fre S.F with
      | none => exact absurd hf2 hf
      | some r =>
        obtain ⟨q, g⟩ := r
        have hs2 : s ∈ As (grw S.F (valO S 1 i)) := hs
        unfold grw at hs2
        rw [hf2] at hs2
        have hs3 : s ∈ As (S.F.set q (1, g, valO S 1 i)) := hs2
        rw [as_set] at hs3
        rcases List.mem_or_eq_of_mem_set hs3 with hs3 | rfl
        · exact h3.f s hs3
        · exact ⟨.inr rfl, (h3.f _ (List.mem_of_getElem? (fre_as hf2))).2⟩
theorem tol_rel (h : Tol S L i u) (hx : (allS S)[j]? = some o) (hi : i ≤ 1000) : relE S o 1 = 0 ∧ relA S o 1 = nxV L u ∧ Tol (relS S o 1) L (i + 1) (u + 1) ∧ 0 ≤ o.2.2 ∧ o.2.2 ≤ 4294967295 := by
  have hT := all_at h.ok hx
  obtain ⟨e1, e2, e3⟩ := rel_ok (S := S) (o := o) (wy := 1) (by decide) hT (by have := h.t; omega)
  have hh : nxV L u = S.q.headD 1 := by rw [h.q]; rfl
  refine ⟨e1, e2.trans hh.symm, ?_, thr_gen h.ok hT⟩
  have ho := wok_rel h.ok o 1
  have hk : o.1 = 1 := by
    rcases kgood_k hT.1 with hk | hk | hk
    · exact hk
    · have := hT.2; rw [hk, tab2] at this; have := nT_pos this; have := h.b; omega
    · have := hT.2; rw [hk, tab3] at this; have := nT_pos this; have := h.d; omega
  have h3 := tol_no (tol_tl h)
  have h4 : (S.T ++ [(⟨S.now, o, 1, S.q.headD 1⟩ : At)]).length ≤ i + 1 := by rw [List.length_append, List.length_singleton]; have := h.t; omega
  rw [e3] at ho ⊢
  by_cases h1 : S.q.headD 1 = 1
  · rw [if_pos h1] at ho ⊢
    rw [hk, put1, tab1] at ho ⊢
    refine { h3 with ok := ho, t := h4, f := fun s hs => ?_ }
    have hs2 : s ∈ As (giv S.F o) := hs
    unfold giv at hs2
    rw [as_set] at hs2
    rcases List.mem_or_eq_of_mem_set hs2 with hs3 | rfl
    · exact h3.f s hs3
    · have h5 := hT.2
      rw [hk, tab1] at h5
      have h6 : o.2.2 ≤ 1 + (i : Int) := (h.f _ (List.mem_of_getElem? h5)).2
      unfold shut
      rw [if_pos (by omega)]
      exact ⟨.inl rfl, by show o.2.2 + 1 ≤ 1 + ((i + 1 : Nat) : Int); omega⟩
  · rw [if_neg h1] at ho ⊢
    exact { h3 with ok := ho, t := h4 }
theorem nT_rep (n : Nat) (g : Int) : nT (List.replicate n (0, g, 0)) = 0 := by
  unfold nT
  rw [inS_cnt]
  unfold As
  rw [List.map_replicate, List.countP_replicate, if_neg (by simp [sl2])]
theorem tol_new (hl : L.length ≤ 1000) : aswE (wnew 1) (L.map lq) = 0 ∧ Tol (aswS (wnew 1) (L.map lq)) L 0 0 := by
  have hp := prs_lq (l := L) (by omega)
  have h1 := add_ok (L := []) (l := L.map lq) (by rw [hp]) (by rw [hp]; simp; omega)
  refine ⟨h1.1, { ok := wok_asw (wok_new (by decide)) _, q := ?_, b := nT_rep 64 1, d := nT_rep 64 1, f := fun s hs => ?_, t := Nat.le_refl _ }⟩
  · show addL [] (L.map lq) = _
    rw [h1.2, hp]
    rfl
  · have hs2 : s ∈ As (List.replicate 64 (0, 1, 0)) := hs
    unfold As at hs2
    rw [List.map_replicate] at hs2
    rw [List.eq_of_mem_replicate hs2]
    exact ⟨.inl rfl, by show (1 : Int) ≤ 1 + ((0 : Nat) : Int); decide⟩
end
theorem u8_row {cs : List Value} {a : Int} (h : cs = [.int .u8 a]) (hb : (0) ≤ a ∧ a ≤ 255) : cs = eB (UInt8.ofNat a.toNat) := by
  subst h
  have h1 : (UInt8.ofNat a.toNat).toNat = a.toNat := UInt8.toNat_ofNat_of_lt (by show a.toNat < 256; omega)
  rw [eB, h1, Int.toNat_of_nonneg hb.1]
/-! ### Rows of one letter -/
end Go.Proofs.YtggfnbpohmhphaaDoor

/- Walks, printed by my generator o24.py. -/
namespace Go.Proofs.YtggfnbpohmhphaaDoor
set_option maxHeartbeats 4000000 in
theorem tnx_ht (wo : World) (p0 : Option Addr) (n0 c0 : Nat) (T0 : List UInt8) (hr0 : Rd wo p0 n0 (fl eB T0)) (hT0 : T0.length = n0) (b r u : Nat) (hu : u ≤ 1000000) (hn : n0 ≤ 1000000) : HT Tryd.prog 7 [pV b, pV r] [Cl b [iV (((u : Nat) : Int))] 3, Cl r [.slice p0 n0 c0] 22, Old wo] (fun v K => v = iV (nxV T0 u) ∧ K = [Cl b [iV (((u + 1 : Nat) : Int))] 3, Cl r [.slice p0 n0 c0] 22, Old wo]) := by
 refine hiS Tryd.func7 Tryd.ntmps7 fun g w0 R h0 => go [rd 1 0 0 0 1 h0, .v 1 1 (oIr ((u : Int) + 1))] <| sP [(0, iV ((u : Int) + 1))] [iV ((u : Int) + 1)] h0 fun _ h11 => go [rd 2 0 0 0 1 h11, rd 2 1 1 0 1 h11, .s 2 3] ?_
 by_cases c12 : (u : Int) + 1 > (n0 : Int)
 ·
  refine go [.v 2 3 (oT ((u : Int) + 1 > (n0 : Int)))] ?_
  exact en (iV 1) [] ⟨_, [Cl b [iV ((u : Int) + 1)] 3, Cl r [.slice p0 n0 c0] 22, Old wo], rfl, ⟨by rw [show nxV T0 u = 1 from nx_end (by omega)], by rw [show (((u + 1 : Nat)) : Int) = (u : Int) + 1 by omega]⟩, h11⟩
 obtain ⟨b13, off15, hp14⟩ := gv_ptr (j := 2) h11 rfl (gv_old hr0) (by omega)
 refine go [.v 2 3 (oF ((u : Int) + 1 > (n0 : Int))), rd 4 0 1 0 1 h11, rd 4 1 0 0 1 h11, .v 4 2 (oI (((u : Int) + 1) - 1) (u : Int)), .s 4 3] <| lwP (.pointer (some ⟨b13, off15 + u, none⟩)) (law_indexSlP (x := (Operand.tmp 9)) (i := (Operand.tmp 11)) (p := p0) (b := b13) (off := off15) (z := (u : Int)) (len := n0) (cap := c0) (by kernel_rfl) Tryd.underlying22 1 (by kernel_rfl) u (by kernel_rfl) hp14 (by kernel_rfl) (by omega) (by omega) (off15 + u) (by omega) _) ?_
 obtain ⟨x16, hx17⟩ : ∃ x, T0[u]? = some x := ⟨_, List.getElem?_eq_getElem (by rw [hT0]; omega)⟩
 obtain ⟨q18, hq19⟩ : ∃ q : Nat, TMod (((x16.toNat : Nat) : Int)) 3 q ∧ (q : Int) < 3 ∧ (q : Int) ≤ ((x16.toNat : Nat) : Int) := rem_nat (by omega) (by omega)
 refine go [.r 4 4 b13 (off15 + u) [yV (((x16.toNat : Nat) : Int))] ⟨gv_cell (j := 2) h11 rfl (gv_old hr0) hp14 (fl_get eB_ok (j := 0) (v := yV (((x16.toNat : Nat) : Int))) hx17 rfl) (off15 + u) (by omega), trivial⟩, .s 4 5] <| lwP (yV (q18 : Int)) (law_rem (t := 5) (x := (Operand.tmp 13)) (y := (Operand.const (yV 3))) (by kernel_rfl) (((x16.toNat : Nat) : Int)) 3 (by kernel_rfl) (by kernel_rfl) (by omega) (q18 : Int) hq19.1 _) <| go [.v 4 6 (oIr (q18 : Int)), .v 4 7 (oI (1 + (q18 : Int)) ((q18 : Int) + 1))] ?_
 have hcd_ := cd_tmod (b := x16) hq19.1
 exact en (iV ((q18 : Int) + 1)) [] ⟨_, [Cl b [iV ((u : Int) + 1)] 3, Cl r [.slice p0 n0 c0] 22, Old wo], rfl, ⟨by rw [show nxV T0 u = (q18 : Int) + 1 from (nx_at hx17).trans (by omega)], by rw [show (((u + 1 : Nat)) : Int) = (u : Int) + 1 by omega]⟩, h11⟩

set_option maxHeartbeats 4000000 in
theorem told_law (wo : World) (hg : Lett wo) (p0 : Option Addr) (n0 c0 : Nat) (T0 : List UInt8) (hr0 : Rd wo p0 n0 (fl eB T0)) (hT0 : T0.length = n0) (p1 : Option Addr) (n1 c1 : Nat) (T1 : List Bool) (hr1 : Rd wo p1 n1 (fl eBl T1)) (hT1 : T1.length = n1) : HT Tryd.prog 3 [.slice p0 n0 c0, .slice p1 n1 c1] [Old wo] (fun v K => v = .bool true ∧ K = [Old wo]) := by
 refine hiS Tryd.func3 Tryd.ntmps3 fun g w0 R h0 => go [] <| nP 22 [.slice p0 n0 c0] h0 (fun r10 _ h12 => ?_)
 refine go [rd 1 0 0 0 1 h12, .s 1 2] ?_
 by_cases c13 : (n0 : Int) > 100
 ·
  have h14 := tk3 (sf2 (sf1 (sf2 h12)))
  refine go [.v 1 2 (oT ((n0 : Int) > 100))] <| cl1 Tryd.call4 (works_ht wo hg) h14 fun _ h16 => go [] ?_
  exact en (.bool true) [] ⟨_, _, rfl, ⟨rfl, rfl⟩, (tk2 (sf1 (sf2 h16)))⟩
 refine go [.v 1 2 (oF ((n0 : Int) > 100)), .s 1 6] ?_
 by_cases c18 : (n1 : Int) > 150
 ·
  have h19 := tk3 (sf2 (sf1 (sf2 h12)))
  refine go [.v 1 6 (oT ((n1 : Int) > 150))] <| cl1 Tryd.call4 (works_ht wo hg) h19 fun _ h21 => go [] ?_
  exact en (.bool true) [] ⟨_, _, rfl, ⟨rfl, rfl⟩, (tk2 (sf1 (sf2 h21)))⟩
 refine go [.v 1 6 (oF ((n1 : Int) > 150))] <| cP Tryd.call5 (wnew_ht 1 (by omega)) h12 ?_
 rintro v K w24 (⟨b23, rfl, rfl⟩) h25
 have h26 := ap1 h25
 refine go [] ?_
 have h27 : sat g w24 [Sl 5 1 none 0 0 (fl eB []), Wd b23 (wnew 1), Cl r10 [.slice p0 n0 c0] 22, Old wo, R] := sl_nil 5 1 h26
 refine lpS (fun mz_ a w => ∃ i : Nat, ∃ p2 : Option Addr, ∃ c2 : Nat, ∃ lr : Fr, mz_ = n0 - i ∧ (i ≤ n0) ∧ a = mk 109 (([(1, .slice p1 n1 c1), (2, pV r10), (5, pV b23), (7, .slice p2 i c2), (8, iV (i : Int))] : Fr) ++ lr) ∧ sat g w [Sl 5 1 p2 i c2 (fl eB ((T0.take i).map lq)), Wd b23 (wnew 1), Cl r10 [.slice p0 n0 c0] 22, Old wo, R]) (n0 - 0) ⟨0, none, 0, _, rfl, (Nat.zero_le _), (lvF [.k 1 (.slice p1 n1 c1), .k 2 (pV r10), .k 5 (pV b23), .k 7 (.slice none 0 0), .o 8 (oJ .i64 0 (0 : Int))]), h27⟩ ?_
 rintro m29 a30 w31 ⟨i, p2, c2, lr28, rfl, hi, rfl, h32⟩
 refine ga ?_
 obtain ⟨_, _⟩ := sl_le h32
 refine go [rd 8 1 2 0 1 h32, .s 8 3] ?_
 by_cases c33 : (i : Int) < (n0 : Int)
 ·
  obtain ⟨b34, off36, hp35⟩ := gv_ptr (j := 3) h32 rfl (gv_old hr0) (by omega)
  refine go [.v 8 3 (oT ((i : Int) < (n0 : Int))), rd 10 1 2 0 1 h32, .s 10 3] <| lwP (.pointer (some ⟨b34, off36 + i, none⟩)) (law_indexSlP (x := (Operand.tmp 40)) (i := (Operand.tmp 41)) (p := p0) (b := b34) (off := off36) (z := (i : Int)) (len := n0) (cap := c0) (by kernel_rfl) Tryd.underlying22 1 (by kernel_rfl) i (by kernel_rfl) hp35 (by kernel_rfl) (by omega) (by omega) (off36 + i) (by omega) _) ?_
  obtain ⟨x37, hx38⟩ : ∃ x, T0[i]? = some x := ⟨_, List.getElem?_eq_getElem (by rw [hT0]; omega)⟩
  obtain ⟨q39, hq40⟩ : ∃ q : Nat, TMod (((x37.toNat : Nat) : Int)) 3 q ∧ (q : Int) < 3 ∧ (q : Int) ≤ ((x37.toNat : Nat) : Int) := rem_nat (by omega) (by omega)
  refine go [.r 10 4 b34 (off36 + i) [yV (((x37.toNat : Nat) : Int))] ⟨gv_cell (j := 3) h32 rfl (gv_old hr0) hp35 (fl_get eB_ok (j := 0) (v := yV (((x37.toNat : Nat) : Int))) hx38 rfl) (off36 + i) (by omega), trivial⟩, .s 10 5] <| lwP (yV (q39 : Int)) (law_rem (t := 5) (x := (Operand.tmp 43)) (y := (Operand.const (yV 3))) (by kernel_rfl) (((x37.toNat : Nat) : Int)) 3 (by kernel_rfl) (by kernel_rfl) (by omega) (q39 : Int) hq40.1 _) ?_
  obtain ⟨x41, hx42⟩ : ∃ x, ([111, 108, 102] : List UInt8)[q39]? = some x := ⟨_, List.getElem?_eq_getElem (by simp only [List.length_cons, List.length_nil]; omega)⟩
  refine lwP (yV (((x41.toNat : Nat) : Int))) (law_idxStr (x := (Operand.const (.string (St [111, 108, 102])))) (i := (Operand.tmp 44)) (k := .u8) (s := [111, 108, 102]) (z := (q39 : Int)) (b := x41) (by kernel_rfl) Tryd.underlying9 (by kernel_rfl) (by kernel_rfl) q39 (by omega) hx42 _) <| nG (fun q_ => .slice (some ⟨q_, 0, none⟩) 1 1) 5 [yV (((x41.toNat : Nat) : Int))] h32 (fun r43 _ h45 => ⟨kd [], ?_⟩)
  have h46 := tk6 (sf5 (sf4 (sf5 (sf5 (sf5 (sf5 h45))))))
  refine actG ?_
  refine an_append (d := 47) (sz := 1) (s := (Operand.tmp 39)) (x := (Operand.tmp 46)) (z := yV 0) (p := p2) (m := i) (c := c2) (k := 1) (c2 := 1) (a := ⟨r43, 0, none⟩) (by_ := 1) (by kernel_rfl) (by kernel_rfl) rfl Tryd.underlying22 (by kernel_rfl) rfl (by decide) (by kernel_rfl) (by kernel_rfl) h46 (fl eB [x41]) rfl (fun j u hj => by rw [add_off]; exact sat_cell h46 1 rfl (by rw [Nat.zero_add]; exact hj)) (fl_one eB_ok _) (by omega) (by omega) (i + 1) (by omega) ?_
  intro p47 cap48 w49 h50
  have h51 : sat g w49 [Sl 5 1 p47 (i + 1) cap48 (fl eB (((T0.take i).map lq) ++ [x41])), Cl r43 [yV (((x41.toNat : Nat) : Int))] 5, Wd b23 (wnew 1), Cl r10 [.slice p0 n0 c0] 22, Old wo, R] := sat_imp h50 (fun _ hh => by rw [fl_app]; exact hh)
  obtain ⟨hn52, hn53⟩ := sl_le h51
  refine nxA <| go [.v 9 1 (oIr ((i : Int) + 1))] ?_
  refine enL ?_
  have h54 : sat g w49 [Sl 5 1 p47 (i + 1) cap48 (fl eB ((T0.take (i + 1)).map lq)), Cl r43 [yV (((x41.toNat : Nat) : Int))] 5, Wd b23 (wnew 1), Cl r10 [.slice p0 n0 c0] 22, Old wo, R] := (show (((T0.take i).map lq) ++ [x41]) = ((T0.take (i + 1)).map lq) from (tk_eq hx38 (lq_at hq40.1 hx42))) ▸ h51
  have h56 := tk5 (tk6 (sf5 (sf5 (sf5 (sf5 (sf5 (sf1 h54)))))))
  change ∃ n', n' < _ ∧ _
  refine ⟨(n0 - (i + 1)), by omega, (i + 1), p47, cap48, _, rfl, (by omega), (lvF [.k 1 (.slice p1 n1 c1), .k 2 (pV r10), .k 5 (pV b23), .k 7 (.slice p47 (i + 1) cap48), .o 8 (oJ .i64 ((i : Int) + 1) ((((i + 1) : Nat) : Int)))]), h56⟩
 refine go [.v 8 3 (oF ((i : Int) < (n0 : Int)))] <| up ?_
 have hl57 := fl_n eB_ok (by decide) h32
 refine go [.s 11 2] <| lwP (.string (St ((T0.take i).map lq))) (law_bts (x := (Operand.tmp 49)) (p := p2) (m := i) (c := c2) (by kernel_rfl) Tryd.underlying22 Tryd.underlying5 Tryd.underlying9 (by kernel_rfl) 0 h32 rfl (gv_sl _ _ _) hl57) ?_
 have htl0_ : aswE (wnew 1) ((T0.take i).map lq) = 0 ∧ Tol (aswS (wnew 1) ((T0.take i).map lq)) T0 0 0 := by rw [show T0.take i = T0 from List.take_of_length_le (by omega)]; exact tol_new (by omega)
 refine cl2 Tryd.call6 ((by have h_ := wansw_ht wo hg b23 (wnew 1) ((T0.take i).map lq) (by rw [List.length_map, List.length_take]; omega); rw [htl0_.1] at h_; exact h_)) (tk5 (sf4 (sf4 (sf2 (sf3 (sf4 h32)))))) fun _ h60 => ?_
 refine go [] <| nP 3 [iV 0] h60 (fun r61 _ h63 => ?_)
 refine sP [(0, iV 0)] [iV 0] h63 fun _ h65 => go [] ?_
 refine lpS (fun mz_ a w => ∃ j : Nat, ∃ u : Nat, ∃ W_ : Wst, ∃ lr : Fr, mz_ = n1 - j ∧ (j ≤ n1) ∧ (u ≤ j) ∧ (Tol W_ T0 j u) ∧ a = mk 109 (([(1, .slice p1 n1 c1), (5, pV b23), (10, .func (Fn.func 7) #[] #[pV r61, pV r10]), (11, iV (j : Int))] : Fr) ++ lr) ∧ sat g w [Wd b23 W_, Cl r61 [iV (u : Int)] 3, Cl r10 [.slice p0 n0 c0] 22, Old wo, R]) (n1 - 0) ⟨0, 0, (aswS (wnew 1) ((T0.take i).map lq)), _, rfl, (Nat.zero_le _), (Nat.le_refl _), htl0_.2, (lvF [.k 1 (.slice p1 n1 c1), .k 5 (pV b23), .k 10 (.func (Fn.func 7) #[] #[pV r61, pV r10]), .o 11 (oJ .i64 0 (0 : Int))]), (tk5 (tk6 (sf5 (sf4 (sf5 (sf4 (sf5 (sf3 h65))))))))⟩ ?_
 rintro m69 a70 w71 ⟨j, u, W_, lr68, rfl, hj_, hu_, htl_, rfl, h72⟩
 refine ga ?_
 have htt_ := htl_.t
 refine go [.s 16 3] ?_
 by_cases c73 : (j : Int) < (n1 : Int)
 ·
  refine go [.v 16 3 (oT ((j : Int) < (n1 : Int)))] <| cP Tryd.call8 (wall_ht b23 W_) h72 ?_
  rintro v K _ (⟨p74, c75, rfl, rfl⟩) h77
  have h78 := ap2 h77
  have hl79 := allS_le (wd_get (j := 1) h78 rfl)
  obtain ⟨b80, off82, hp81⟩ := gv_ptr (j := 4) h78 rfl (gv_old hr1) (by omega)
  refine go [.s 19 2] <| lwP (.pointer (some ⟨b80, off82 + j, none⟩)) (law_indexSlP (x := (Operand.tmp 62)) (i := (Operand.tmp 63)) (p := p1) (b := b80) (off := off82) (z := (j : Int)) (len := n1) (cap := c1) (by kernel_rfl) Tryd.underlying23 1 (by kernel_rfl) j (by kernel_rfl) hp81 (by kernel_rfl) (by omega) (by omega) (off82 + j) (by omega) _) ?_
  obtain ⟨x83, hx84⟩ : ∃ x, T1[j]? = some x := ⟨_, List.getElem?_eq_getElem (by rw [hT1]; omega)⟩
  rcases Bool.eq_false_or_eq_true x83 with cb85 | cb85
  ·
   refine go [((Iq.r 19 3 b80 (off82 + j) [.bool (x83)] ⟨gv_cell (j := 4) h78 rfl (gv_old hr1) hp81 (fl_get eBl_ok (j := 0) (v := .bool (x83)) hx84 rfl) (off82 + j) (by omega), trivial⟩)).b (⟨.bool (x83), .bool true, (ov_b cb85)⟩), .s 19 7] ?_
   by_cases c86 : (((allS W_).length : Nat) : Int) < 64
   ·
    have hac_ := tol_acq htl_ (by omega) (by omega); have hace_ := hac_.1
    have h87 := tk6 (sf5 (sf4 (sf5 (sf5 (sf5 (sf5 h78))))))
    refine go [.v 19 7 (oT ((((allS W_).length : Nat) : Int) < 64))] <| cl1 Tryd.call9 (wacq_ht b23 W_ 1 j) h87 fun _ h89 => go [] <| nP 35 [iV 0, iV 0, uV 0] h89 (fun _ _ h92 => ?_)
    refine sP [(0, iV ((acqO W_ 1 j).1)), (1, iV ((acqO W_ 1 j).2.1)), (2, uV ((acqO W_ 1 j).2.2))] [iV ((acqO W_ 1 j).1), iV ((acqO W_ 1 j).2.1), uV ((acqO W_ 1 j).2.2)] h92 fun _ h94 => go [] <| nG (fun q_ => .slice (some ⟨q_, 0, none⟩) 4 4) 26 [iV 0, iV 0, iV 15, iV 14] h94 (fun r95 _ h97 => ⟨kd [], ?_⟩)
    have h98 := tk8 (sf7 (sf7 (sf7 (sf4 (sf4 (sf4 (sf4 (sf7 h97))))))))
    refine go [] <| cl3 Tryd.call7 (tnx_ht wo p0 n0 c0 T0 hr0 hT0 r61 r10 u (by omega) (by omega)) h98 fun _ h100 => ?_
    have hnx101 := nx_bd T0 u
    by_cases c102 : (nxV T0 u) = 3
    ·
     obtain ⟨kk103, hk104⟩ : ∃ z_ : Nat, (nxV T0 u) = (z_ : Int) := ⟨((nxV T0 u)).toNat, by omega⟩
     refine lwP (.pointer (some ⟨r95, kk103, none⟩)) (law_indexSl (x := (Operand.tmp 77)) (i := (Operand.tmp 79)) (b := r95) (off := 0) (z := ((nxV T0 u))) (len := 4) (cap := 4) (by kernel_rfl) Tryd.underlying38 1 (by kernel_rfl) kk103 (by kernel_rfl) (by kernel_rfl) (by omega) (by omega) kk103 (by omega) _) <| go [.r 21 4 r95 kk103 [iV 14] ⟨sat_cell h100 3 rfl (by rw [show kk103 = 3 by omega]; rfl), trivial⟩, .v 22 2 (qnF ((acqE W_ 1 j)) 14), .v 17 1 (oIr ((j : Int) + 1))] ?_
     refine enL ?_
     have h106 := tk5 (tk8 (sf7 (sf6 (sf6 (sf6 (sf7 (sf5 (sf5 (sf6 h100)))))))))
     change ∃ n', n' < _ ∧ _
     refine ⟨(n1 - (j + 1)), by omega, (j + 1), (u + 1), (acqS W_ 1 j), _, rfl, (by omega), (by omega), hac_.2, (lvF [.k 1 (.slice p1 n1 c1), .k 5 (pV b23), .k 10 (.func (Fn.func 7) #[] #[pV r61, pV r10]), .o 11 (oJ .i64 ((j : Int) + 1) ((((j + 1) : Nat) : Int)))]), h106⟩
    by_cases c107 : (nxV T0 u) = 2
    ·
     obtain ⟨kk108, hk109⟩ : ∃ z_ : Nat, (nxV T0 u) = (z_ : Int) := ⟨((nxV T0 u)).toNat, by omega⟩
     refine lwP (.pointer (some ⟨r95, kk108, none⟩)) (law_indexSl (x := (Operand.tmp 77)) (i := (Operand.tmp 79)) (b := r95) (off := 0) (z := ((nxV T0 u))) (len := 4) (cap := 4) (by kernel_rfl) Tryd.underlying38 1 (by kernel_rfl) kk108 (by kernel_rfl) (by kernel_rfl) (by omega) (by omega) kk108 (by omega) _) <| go [.r 21 4 r95 kk108 [iV 15] ⟨sat_cell h100 3 rfl (by rw [show kk108 = 2 by omega]; rfl), trivial⟩, .v 22 2 (qnF ((acqE W_ 1 j)) 15), .v 17 1 (oIr ((j : Int) + 1))] ?_
     refine enL ?_
     have h111 := tk5 (tk8 (sf7 (sf6 (sf6 (sf6 (sf7 (sf5 (sf5 (sf6 h100)))))))))
     change ∃ n', n' < _ ∧ _
     refine ⟨(n1 - (j + 1)), by omega, (j + 1), (u + 1), (acqS W_ 1 j), _, rfl, (by omega), (by omega), hac_.2, (lvF [.k 1 (.slice p1 n1 c1), .k 5 (pV b23), .k 10 (.func (Fn.func 7) #[] #[pV r61, pV r10]), .o 11 (oJ .i64 ((j : Int) + 1) ((((j + 1) : Nat) : Int)))]), h111⟩
    obtain ⟨kk112, hk113⟩ : ∃ z_ : Nat, (nxV T0 u) = (z_ : Int) := ⟨((nxV T0 u)).toNat, by omega⟩
    refine lwP (.pointer (some ⟨r95, kk112, none⟩)) (law_indexSl (x := (Operand.tmp 77)) (i := (Operand.tmp 79)) (b := r95) (off := 0) (z := ((nxV T0 u))) (len := 4) (cap := 4) (by kernel_rfl) Tryd.underlying38 1 (by kernel_rfl) kk112 (by kernel_rfl) (by kernel_rfl) (by omega) (by omega) kk112 (by omega) _) <| go [.r 21 4 r95 kk112 [iV 0] ⟨sat_cell h100 3 rfl (by rw [show kk112 = 1 by omega]; rfl), trivial⟩, .v 22 2 (qnF ((acqE W_ 1 j)) 0), .v 17 1 (oIr ((j : Int) + 1))] ?_
    refine enL ?_
    have h115 := tk5 (tk8 (sf7 (sf6 (sf6 (sf6 (sf7 (sf5 (sf5 (sf6 h100)))))))))
    change ∃ n', n' < _ ∧ _
    refine ⟨(n1 - (j + 1)), by omega, (j + 1), (u + 1), (acqS W_ 1 j), _, rfl, (by omega), (by omega), hac_.2, (lvF [.k 1 (.slice p1 n1 c1), .k 5 (pV b23), .k 10 (.func (Fn.func 7) #[] #[pV r61, pV r10]), .o 11 (oJ .i64 ((j : Int) + 1) ((((j + 1) : Nat) : Int)))]), h115⟩
   obtain ⟨q116, hq117⟩ : ∃ q : Nat, TMod (j : Int) ((((allS W_).length : Nat) : Int)) q ∧ (q : Int) < (((allS W_).length : Nat) : Int) ∧ (q : Int) ≤ (j : Int) := rem_nat (by omega) (by omega)
   refine go [.v 19 7 (oF ((((allS W_).length : Nat) : Int) < 64)), .v 24 2 (oT ((((allS W_).length : Nat) : Int) > 0)), .s 25 5] <| lwP (iV (q116 : Int)) (law_rem (t := 3) (x := (Operand.tmp 91)) (y := (Operand.tmp 93)) (by kernel_rfl) (j : Int) ((((allS W_).length : Nat) : Int)) (by kernel_rfl) (by kernel_rfl) (by omega) (q116 : Int) hq117.1 _) ?_
   obtain ⟨b118, hp119⟩ := sl_ptr0 (j := 0) h78 rfl (by omega)
   refine lwP (.pointer (some ⟨b118, q116 * 3, none⟩)) (law_indexSlP (x := (Operand.tmp 90)) (i := (Operand.tmp 94)) (p := p74) (b := b118) (off := 0) (z := (q116 : Int)) (len := (((allS W_).length))) (cap := c75) (by kernel_rfl) Tryd.underlying32 3 (by kernel_rfl) q116 (by kernel_rfl) hp119 (by kernel_rfl) (by omega) (by omega) (q116 * 3) (by omega) _) ?_
   obtain ⟨x120, hx121⟩ : ∃ x, (allS W_)[q116]? = some x := ⟨_, List.getElem?_eq_getElem (by omega)⟩
   have hrl_ := tol_rel htl_ hx121 (by omega); have hrla_ := hrl_.2.1; have hrlb_ := hrl_.2.2.2.1; have hrlc_ := hrl_.2.2.2.2
   have h122 := tk6 (sf5 (sf4 (sf5 (sf5 (sf5 (sf5 h78))))))
   refine go [.r 25 7 b118 (q116 * 3) [iV x120.1, iV x120.2.1, uV x120.2.2] ⟨gv_cell (j := 0) h78 rfl (gv_sl _ _ _) hp119 (fl_get eO_ok (j := 0) (v := iV x120.1) hx121 rfl) (q116 * 3) (by omega), gv_cell (j := 0) h78 rfl (gv_sl _ _ _) hp119 (fl_get eO_ok (j := 1) (v := iV x120.2.1) hx121 rfl) (q116 * 3 + 1) (by omega), gv_cell (j := 0) h78 rfl (gv_sl _ _ _) hp119 (fl_get eO_ok (j := 2) (v := uV x120.2.2) hx121 rfl) (q116 * 3 + 2) (by omega), trivial⟩] <| cl1 Tryd.call10 ((by have h_ := wrel_ht b23 W_ x120.1 x120.2.1 x120.2.2 1 (by omega) (by omega); rw [show relE W_ ((x120.1, x120.2.1, x120.2.2) : Ky) 1 = 0 from hrl_.1, show relA W_ ((x120.1, x120.2.1, x120.2.2) : Ky) 1 = nxV T0 u from hrl_.2.1] at h_; exact h_)) h122 fun _ h124 => ?_
   have h125 := tk6 (sf5 (sf5 (sf5 (sf2 (sf2 (sf5 h124))))))
   refine go [] <| cl3 Tryd.call7 (tnx_ht wo p0 n0 c0 T0 hr0 hT0 r61 r10 u (by omega) (by omega)) h125 fun _ h127 => ?_
   have hnx128 := nx_bd T0 u
   refine go [.v 26 6 (qnF ((nxV T0 u)) ((nxV T0 u))), .v 17 1 (oIr ((j : Int) + 1))] ?_
   refine enL ?_
   have h130 := tk5 (tk6 (sf5 (sf4 (sf4 (sf4 (sf5 (sf4 h127)))))))
   change ∃ n', n' < _ ∧ _
   refine ⟨(n1 - (j + 1)), by omega, (j + 1), (u + 1), (relS W_ ((x120.1, x120.2.1, x120.2.2) : Ky) 1), _, rfl, (by omega), (by omega), hrl_.2.2.1, (lvF [.k 1 (.slice p1 n1 c1), .k 5 (pV b23), .k 10 (.func (Fn.func 7) #[] #[pV r61, pV r10]), .o 11 (oJ .i64 ((j : Int) + 1) ((((j + 1) : Nat) : Int)))]), h130⟩
  refine go [((Iq.r 19 3 b80 (off82 + j) [.bool (x83)] ⟨gv_cell (j := 4) h78 rfl (gv_old hr1) hp81 (fl_get eBl_ok (j := 0) (v := .bool (x83)) hx84 rfl) (off82 + j) (by omega), trivial⟩)).b (⟨.bool (x83), .bool false, (ov_b cb85)⟩), .s 24 2] ?_
  by_cases c131 : (((allS W_).length : Nat) : Int) > 0
  ·
   obtain ⟨q132, hq133⟩ : ∃ q : Nat, TMod (j : Int) ((((allS W_).length : Nat) : Int)) q ∧ (q : Int) < (((allS W_).length : Nat) : Int) ∧ (q : Int) ≤ (j : Int) := rem_nat (by omega) (by omega)
   refine go [.v 24 2 (oT ((((allS W_).length : Nat) : Int) > 0)), .s 25 5] <| lwP (iV (q132 : Int)) (law_rem (t := 3) (x := (Operand.tmp 91)) (y := (Operand.tmp 93)) (by kernel_rfl) (j : Int) ((((allS W_).length : Nat) : Int)) (by kernel_rfl) (by kernel_rfl) (by omega) (q132 : Int) hq133.1 _) ?_
   obtain ⟨b134, hp135⟩ := sl_ptr0 (j := 0) h78 rfl (by omega)
   refine lwP (.pointer (some ⟨b134, q132 * 3, none⟩)) (law_indexSlP (x := (Operand.tmp 90)) (i := (Operand.tmp 94)) (p := p74) (b := b134) (off := 0) (z := (q132 : Int)) (len := (((allS W_).length))) (cap := c75) (by kernel_rfl) Tryd.underlying32 3 (by kernel_rfl) q132 (by kernel_rfl) hp135 (by kernel_rfl) (by omega) (by omega) (q132 * 3) (by omega) _) ?_
   obtain ⟨x136, hx137⟩ : ∃ x, (allS W_)[q132]? = some x := ⟨_, List.getElem?_eq_getElem (by omega)⟩
   have hrl_ := tol_rel htl_ hx137 (by omega); have hrla_ := hrl_.2.1; have hrlb_ := hrl_.2.2.2.1; have hrlc_ := hrl_.2.2.2.2
   have h138 := tk6 (sf5 (sf4 (sf5 (sf5 (sf5 (sf5 h78))))))
   refine go [.r 25 7 b134 (q132 * 3) [iV x136.1, iV x136.2.1, uV x136.2.2] ⟨gv_cell (j := 0) h78 rfl (gv_sl _ _ _) hp135 (fl_get eO_ok (j := 0) (v := iV x136.1) hx137 rfl) (q132 * 3) (by omega), gv_cell (j := 0) h78 rfl (gv_sl _ _ _) hp135 (fl_get eO_ok (j := 1) (v := iV x136.2.1) hx137 rfl) (q132 * 3 + 1) (by omega), gv_cell (j := 0) h78 rfl (gv_sl _ _ _) hp135 (fl_get eO_ok (j := 2) (v := uV x136.2.2) hx137 rfl) (q132 * 3 + 2) (by omega), trivial⟩] <| cl1 Tryd.call10 ((by have h_ := wrel_ht b23 W_ x136.1 x136.2.1 x136.2.2 1 (by omega) (by omega); rw [show relE W_ ((x136.1, x136.2.1, x136.2.2) : Ky) 1 = 0 from hrl_.1, show relA W_ ((x136.1, x136.2.1, x136.2.2) : Ky) 1 = nxV T0 u from hrl_.2.1] at h_; exact h_)) h138 fun _ h140 => ?_
   have h141 := tk6 (sf5 (sf5 (sf5 (sf2 (sf2 (sf5 h140))))))
   refine go [] <| cl3 Tryd.call7 (tnx_ht wo p0 n0 c0 T0 hr0 hT0 r61 r10 u (by omega) (by omega)) h141 fun _ h143 => ?_
   have hnx144 := nx_bd T0 u
   refine go [.v 26 6 (qnF ((nxV T0 u)) ((nxV T0 u))), .v 17 1 (oIr ((j : Int) + 1))] ?_
   refine enL ?_
   have h146 := tk5 (tk6 (sf5 (sf4 (sf4 (sf4 (sf5 (sf4 h143)))))))
   change ∃ n', n' < _ ∧ _
   refine ⟨(n1 - (j + 1)), by omega, (j + 1), (u + 1), (relS W_ ((x136.1, x136.2.1, x136.2.2) : Ky) 1), _, rfl, (by omega), (by omega), hrl_.2.2.1, (lvF [.k 1 (.slice p1 n1 c1), .k 5 (pV b23), .k 10 (.func (Fn.func 7) #[] #[pV r61, pV r10]), .o 11 (oJ .i64 ((j : Int) + 1) ((((j + 1) : Nat) : Int)))]), h146⟩
  refine go [.v 24 2 (oF ((((allS W_).length : Nat) : Int) > 0)), .v 17 1 (oIr ((j : Int) + 1))] ?_
  refine enL ?_
  have h148 := tk5 (tk6 (sf5 (sf5 (sf5 (sf5 (sf5 h78))))))
  change ∃ n', n' < _ ∧ _
  refine ⟨(n1 - (j + 1)), by omega, (j + 1), u, W_, _, rfl, (by omega), (by omega), (tol_no htl_), (lvF [.k 1 (.slice p1 n1 c1), .k 5 (pV b23), .k 10 (.func (Fn.func 7) #[] #[pV r61, pV r10]), .o 11 (oJ .i64 ((j : Int) + 1) ((((j + 1) : Nat) : Int)))]), h148⟩
 refine go [.v 16 3 (oF ((j : Int) < (n1 : Int)))] <| up ?_
 have h149 := tk5 (sf4 (sf3 (sf3 (sf3 (sf4 h72)))))
 refine go [] <| cl1 Tryd.call4 (works_ht wo hg) h149 fun _ h151 => go [] ?_
 exact en (.bool true) [] ⟨_, _, rfl, ⟨rfl, rfl⟩, (tk2 (sf1 (sf4 h151)))⟩

end Go.Proofs.YtggfnbpohmhphaaDoor
