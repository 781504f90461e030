/- Walks, printed by my generator o9.py. -/
import Derived.Test.YtggfnbpohmhphaaGreatDoorBundle34
import Derived.Test.YtggfnbpohmhphaaGreatDoorInv
namespace Go.Proofs.YtggfnbpohmhphaaGreatDoor
abbrev wsix (b f p d s l : Nat) (S : Wst) : List Assn := [Cl b [Value.nilIface, Value.iface 84 (Value.pointer (some ⟨f, 0, none⟩)), Value.iface 87 (Value.pointer (some ⟨p, 0, none⟩)), Value.iface 90 (Value.pointer (some ⟨d, 0, none⟩)), Value.pointer (some ⟨s, 0, none⟩), Value.pointer (some ⟨l, 0, none⟩), Value.int IntKind.i64 S.now] 79, Fd f 64 S.F, Pl p S.B, Dk d S.D, Sr 146 s S.q, Lg l S.T]
theorem ht_open {fn : FuncId} {args : List Value} {b : Nat} {S : Wst} {Po : Value → Prop} (h : ∀ f p d s l, WOk S → HT Tryz.prog fn args (wsix b f p d s l S) (fun v K => Po v ∧ K = wsix b f p d s l S)) : HT Tryz.prog fn args [Wd b S] (fun v K => Po v ∧ K = [Wd b S]) := by
  intro g w F hs
  obtain ⟨f, p, d, s, l, hW, h1⟩ := wd_open hs
  refine (h f p d s l hW g w F h1).mono ?_
  rintro e w' ⟨v, K, he, ⟨hv, rfl⟩, h2⟩
  exact ⟨v, _, he, ⟨hv, rfl⟩, wd_close hW h2⟩
theorem wd_get {g w : World} {L : List Assn} {j b : Nat} {S : Wst} (h : sat g w L) (hj : L[j]? = some (Wd b S)) : WOk S := wd_ok h hj
set_option maxHeartbeats 4000000 in
theorem wvalid_cl (b l : Nat) (v0 v1 v2 v3 v4 v5 : Value) : HT Tryz.prog 56 [pV b] [Cl b [v0, v1, v2, v3, v4, pV l, v5] 79] (fun v K => v = .bool true ∧ K = [Cl b [v0, v1, v2, v3, v4, pV l, v5] 79]) := by
 refine hiS Tryz.func56 Tryz.ntmps56 fun g w0 R h0 => go [rd 1 6 0 5 1 h0] ?_
 exact en (.bool true) [] ⟨_, _, rfl, ⟨rfl, rfl⟩, h0⟩

set_option maxHeartbeats 4000000 in
theorem wnew_ht (gn : Int) (hgn : 1 ≤ gn ∧ gn ≤ 4294967295) : HT Tryz.prog 13 [uV gn] [] (fun v K => ∃ b : Nat, v = .tuple #[pV b, iV 0] ∧ K = [Wd b (wnew gn)]) := by
 refine hiS Tryz.func13 Tryz.ntmps13 fun g w0 R h0 => go [] <| cl0 Tryz.call48 (gcheck_ok gn (by omega) (by omega)) h0 fun _ h11 => go [] <| cP Tryz.call49 ((by have h_ := fnew_ok 64 gn (by decide) (by omega); exact h_)) h11 ?_
 rintro v K _ (⟨b12, rfl, rfl⟩) h14
 have h15 := ap1 h14
 refine go [] <| cP Tryz.call50 (pnew_ht gn (by omega)) h15 ?_
 rintro v K _ (⟨b16, rfl, rfl⟩) h18
 have h19 := ap1 h18
 refine go [] <| cP Tryz.call51 (lnew_ht gn (by omega)) h19 ?_
 rintro v K _ (⟨b20, rfl, rfl⟩) h22
 have h23 := ap1 h22
 refine go [] <| cP Tryz.call52 (new_ht) h23 ?_
 rintro v K _ (⟨b24, rfl, rfl⟩) h26
 refine cP Tryz.call53 (lgnew_ht) (ap1 h26) ?_
 rintro v K _ (⟨b28, rfl, rfl⟩) h30
 have h31 := ap1 h30
 refine go [] <| nP 79 [Value.nilIface, Value.nilIface, Value.nilIface, Value.nilIface, pV b24, pV b28, iV 0] h31 (fun r32 _ h34 => ?_)
 refine go [] <| dw (fls [0, 1, 2, 3, 4, 5, 6, 7, 8, 9, 10, 11, 13, 14, 17, 18] (Tr.an 12 (Tr.fl 15 (Tr.an 16 (Tr.fl 19 (Tr.an 20 Tr.nil)))))) h34 fun _ h36 => go [.s 13 4] <| lw (.iface 84 (pV b12)) (fun _ => law_mkIface (t := 84) (x := (Operand.tmp 43)) (by kernel_rfl) Tryz.underlying84 rfl (pV b12) (by kernel_rfl) _) <| go [.s 13 6] <| lw (.iface 87 (pV b16)) (fun _ => law_mkIface (t := 87) (x := (Operand.tmp 45)) (by kernel_rfl) Tryz.underlying87 rfl (pV b16) (by kernel_rfl) _) <| go [.s 13 8] <| lw (.iface 90 (pV b20)) (fun _ => law_mkIface (t := 90) (x := (Operand.tmp 47)) (by kernel_rfl) Tryz.underlying90 rfl (pV b20) (by kernel_rfl) _) <| go [.s 13 11] <| lw (.pointer (some ⟨r32, 1, none⟩)) (fun _ => law_indexArr (x := (Operand.tmp 50)) (i := (Operand.const (iV 1))) (b := r32) (off := 0) (z := 1) (by kernel_rfl) Tryz.underlying76 1 (by kernel_rfl) 1 (by kernel_rfl) (by kernel_rfl) (by omega) (by omega) 1 (by omega) _) <| go [] <| sG [(1, .iface 84 (pV b12))] [Value.nilIface, .iface 84 (pV b12), Value.nilIface, Value.nilIface, pV b24, pV b28, iV 0] h36 fun _ h38 => ⟨kd [], ?_⟩
 refine lw (.pointer (some ⟨r32, 2, none⟩)) (fun _ => law_indexArr (x := (Operand.tmp 53)) (i := (Operand.const (iV 2))) (b := r32) (off := 0) (z := 2) (by kernel_rfl) Tryz.underlying76 1 (by kernel_rfl) 2 (by kernel_rfl) (by kernel_rfl) (by omega) (by omega) 2 (by omega) _) <| sG [(2, .iface 87 (pV b16))] [Value.nilIface, .iface 84 (pV b12), .iface 87 (pV b16), Value.nilIface, pV b24, pV b28, iV 0] h38 fun _ h40 => ⟨kd [], ?_⟩
 refine lw (.pointer (some ⟨r32, 3, none⟩)) (fun _ => law_indexArr (x := (Operand.tmp 56)) (i := (Operand.const (iV 3))) (b := r32) (off := 0) (z := 3) (by kernel_rfl) Tryz.underlying76 1 (by kernel_rfl) 3 (by kernel_rfl) (by kernel_rfl) (by omega) (by omega) 3 (by omega) _) <| sG [(3, .iface 90 (pV b20))] [Value.nilIface, .iface 84 (pV b12), .iface 87 (pV b16), .iface 90 (pV b20), pV b24, pV b28, iV 0] h40 fun w41 h42 => ⟨kd [], ?_⟩
 refine go [] ?_
 have h44 : sat g w41 [Wd r32 (wnew gn), R] := wd_close (wok_new hgn) (tk7 (sf6 (sf6 (sf5 (sf4 (sf3 (sf2 (sf6 h42))))))))
 exact en (.tuple #[pV r32, iV 0]) [] ⟨_, _, rfl, ⟨r32, rfl, rfl⟩, h44⟩

set_option maxHeartbeats 4000000 in
theorem has_no (b f p d s l : Nat) (S : Wst) (hW : WOk S) (x y z : Int) (hz0 : 0 ≤ z) (hz1 : z ≤ 4294967295) (hg : ¬ (1 ≤ x ∧ x ≤ 3 ∧ 0 ≤ y ∧ y ≤ 63 ∧ 1 ≤ z)) : HT Tryz.prog 16 [pV b, .agg #[iV x, iV y, uV z]] [Cl b [Value.nilIface, .iface 84 (pV f), .iface 87 (pV p), .iface 90 (pV d), pV s, pV l, iV S.now] 79, Fd f 64 S.F, Pl p S.B, Dk d S.D, Sr 146 s S.q, Lg l S.T] (fun v K => v = .bool false ∧ K = [Cl b [Value.nilIface, .iface 84 (pV f), .iface 87 (pV p), .iface 90 (pV d), pV s, pV l, iV S.now] 79, Fd f 64 S.F, Pl p S.B, Dk d S.D, Sr 146 s S.q, Lg l S.T]) := by
 refine hiS Tryz.func16 Tryz.ntmps16 fun g w0 R h0 => go [] <| nP 32 [iV x, iV y, uV z] h0 (fun _ _ h12 => ?_)
 refine go [] <| dw (Tr.fl 0 (Tr.an 1 (fls [2, 3] (Tr.an 4 (fls [5, 6, 7, 8, 9, 10, 11, 12, 13, 14, 16] (Tr.an 15 (Tr.an 17 (fls [18, 19] Tr.nil)))))))) h12 fun _ h14 => ?_
 have h15 := tk8 (sf7 (sf6 (sf7 (sf7 (sf7 (sf7 (sf7 (sf7 h14))))))))
 refine go [] <| cw1 Tryz.call56 (wvalid_cl b l Value.nilIface (.iface 84 (pV f)) (.iface 87 (pV p)) (.iface 90 (pV d)) (pV s) (iV S.now)) h15 fun _ h17 => ⟨kd [], ?_⟩
 refine go [rd 1 3 1 0 3 h17] ?_
 by_cases c18 : 1 ≤ x
 ·
  by_cases c19 : x ≤ 3
  ·
   by_cases c20 : 0 ≤ y
   ·
    by_cases c21 : y ≤ 63
    ·
     refine cw0 Tryz.call15 (couter_no x y z (by omega) (by omega) (by omega)) h17 fun _ h23 => ⟨kd [], ?_⟩
     refine go [] <| dsk [] <| dsk [] <| go [] ?_
     exact en (.bool false) [] ⟨_, _, rfl, ⟨rfl, rfl⟩, (tk7 (sf6 (sf6 (sf6 (sf6 (sf6 (sf6 (sf7 (tk8 (sf7 (sf7 (sf7 (sf7 (sf7 (sf7 (sf2 (sf7 h23)))))))))))))))))⟩
    refine cw0 Tryz.call15 (couter_no x y z (by omega) (by omega) (by omega)) h17 fun _ h27 => ⟨kd [], ?_⟩
    refine go [] <| dsk [] <| dsk [] <| go [] ?_
    exact en (.bool false) [] ⟨_, _, rfl, ⟨rfl, rfl⟩, (tk7 (sf6 (sf6 (sf6 (sf6 (sf6 (sf6 (sf7 (tk8 (sf7 (sf7 (sf7 (sf7 (sf7 (sf7 (sf2 (sf7 h27)))))))))))))))))⟩
   refine cw0 Tryz.call15 (couter_no x y z (by omega) (by omega) (by omega)) h17 fun _ h31 => ⟨kd [], ?_⟩
   refine go [] <| dsk [] <| dsk [] <| go [] ?_
   exact en (.bool false) [] ⟨_, _, rfl, ⟨rfl, rfl⟩, (tk7 (sf6 (sf6 (sf6 (sf6 (sf6 (sf6 (sf7 (tk8 (sf7 (sf7 (sf7 (sf7 (sf7 (sf7 (sf2 (sf7 h31)))))))))))))))))⟩
  refine cw0 Tryz.call15 (couter_no x y z (by omega) (by omega) (by omega)) h17 fun _ h35 => ⟨kd [], ?_⟩
  refine go [] <| dsk [] <| dsk [] <| go [] ?_
  exact en (.bool false) [] ⟨_, _, rfl, ⟨rfl, rfl⟩, (tk7 (sf6 (sf6 (sf6 (sf6 (sf6 (sf6 (sf7 (tk8 (sf7 (sf7 (sf7 (sf7 (sf7 (sf7 (sf2 (sf7 h35)))))))))))))))))⟩
 refine cw0 Tryz.call15 (couter_no x y z (by omega) (by omega) (by omega)) h17 fun _ h39 => ⟨kd [], ?_⟩
 refine go [] <| dsk [] <| dsk [] <| go [] ?_
 exact en (.bool false) [] ⟨_, _, rfl, ⟨rfl, rfl⟩, (tk7 (sf6 (sf6 (sf6 (sf6 (sf6 (sf6 (sf7 (tk8 (sf7 (sf7 (sf7 (sf7 (sf7 (sf7 (sf2 (sf7 h39)))))))))))))))))⟩

set_option maxHeartbeats 4000000 in
theorem has_1 (b f p d s l : Nat) (S : Wst) (hW : WOk S) (y z : Int) (hz0 : 0 ≤ z) (hz1 : z ≤ 4294967295) (hg : KGood (1, y, z)) (hy0 : 0 ≤ y) (hy1 : y ≤ 63) (hz : 1 ≤ z) : HT Tryz.prog 16 [pV b, .agg #[iV 1, iV y, uV z]] [Cl b [Value.nilIface, .iface 84 (pV f), .iface 87 (pV p), .iface 90 (pV d), pV s, pV l, iV S.now] 79, Fd f 64 S.F, Pl p S.B, Dk d S.D, Sr 146 s S.q, Lg l S.T] (fun v K => v = .bool (decide (Thr S (1, y, z))) ∧ K = [Cl b [Value.nilIface, .iface 84 (pV f), .iface 87 (pV p), .iface 90 (pV d), pV s, pV l, iV S.now] 79, Fd f 64 S.F, Pl p S.B, Dk d S.D, Sr 146 s S.q, Lg l S.T]) := by
 refine hiS Tryz.func16 Tryz.ntmps16 fun g w0 R h0 => go [] <| nP 32 [iV 1, iV y, uV z] h0 (fun _ _ h12 => ?_)
 refine go [] <| dw (Tr.fl 0 (Tr.an 1 (fls [2, 3] (Tr.an 4 (fls [5, 6, 7, 8, 9, 10, 11, 12, 13, 14, 16] (Tr.an 15 (Tr.an 17 (fls [18, 19] Tr.nil)))))))) h12 fun _ h14 => ?_
 have h15 := tk8 (sf7 (sf6 (sf7 (sf7 (sf7 (sf7 (sf7 (sf7 h14))))))))
 refine go [] <| cw1 Tryz.call56 (wvalid_cl b l Value.nilIface (.iface 84 (pV f)) (.iface 87 (pV p)) (.iface 90 (pV d)) (pV s) (iV S.now)) h15 fun _ h17 => ⟨kd [], ?_⟩
 refine go [rd 1 3 1 0 3 h17] <| cw0 Tryz.call15 (couter_ok 1 y z (by omega) (by omega) (by omega)) h17 fun _ h19 => ⟨kd [], ?_⟩
 refine go [rd 1 10 1 0 1 h19, .s 1 13] <| lw (.pointer (some ⟨b, 1, none⟩)) (fun _ => law_indexArr (x := (Operand.tmp 17)) (i := (Operand.tmp 15)) (b := b) (off := 0) (z := 1) (by kernel_rfl) Tryz.underlying76 1 (by kernel_rfl) 1 (by kernel_rfl) (by kernel_rfl) (by omega) (by omega) 1 (by omega) _) ?_
 have h22 := tk8 (sf7 (sf6 (sf6 (sf7 (sf7 (sf7 (sf7 (sf7 h19))))))))
 refine go [rd 1 14 0 1 1 h19, rd 1 16 1 0 3 h19] ?_
 refine iG 84 (pV f) "All" [] 193 ((by have h_ := fall_ht f 64 S.F; exact h_)) h22 ?_
 rintro v K _ (⟨p20, c21, rfl, rfl⟩) h24
 have h25 := ap2 h24
 have hl26 : ((inS 1 (As S.F) 0).length) ≤ 64 := by have h_ := inS_len 1 (As S.F) 0; rw [as_len, hW.fl] at h_; exact h_
 refine ⟨kd [rd 0 16 3 0 3 h25], ?_⟩
 refine cw1 Tryz.call57 (oct_ht p20 (((inS 1 (As S.F) 0).length)) c21 (allK 1 S.F) (Sl 32 3 p20 (((inS 1 (As S.F) 0).length)) c21 (fl eO (allK 1 S.F))) (gv_sl _ _ _) (allK_len _ _) (by omega) 1 y z) (tk9 (sf8 (sf7 (sf8 (sf8 (sf8 (sf8 (sf8 (sf8 (sf8 h25)))))))))) fun _ h29 => ⟨kd [], ?_⟩
 refine go [] ?_
 exact en (.bool (decide ((1, y, z) ∈ (allK 1 S.F)))) [] ⟨_, _, rfl, ⟨by rw [← thr_dec hg]; rfl, rfl⟩, (tk7 (sf6 (sf6 (sf6 (sf6 (sf6 (sf6 (sf8 (tk9 (sf8 (sf7 (sf8 (sf8 (sf8 (sf8 (sf2 (sf4 (sf8 h29))))))))))))))))))⟩

set_option maxHeartbeats 4000000 in
theorem has_2 (b f p d s l : Nat) (S : Wst) (hW : WOk S) (y z : Int) (hz0 : 0 ≤ z) (hz1 : z ≤ 4294967295) (hg : KGood (2, y, z)) (hy0 : 0 ≤ y) (hy1 : y ≤ 63) (hz : 1 ≤ z) : HT Tryz.prog 16 [pV b, .agg #[iV 2, iV y, uV z]] [Cl b [Value.nilIface, .iface 84 (pV f), .iface 87 (pV p), .iface 90 (pV d), pV s, pV l, iV S.now] 79, Fd f 64 S.F, Pl p S.B, Dk d S.D, Sr 146 s S.q, Lg l S.T] (fun v K => v = .bool (decide (Thr S (2, y, z))) ∧ K = [Cl b [Value.nilIface, .iface 84 (pV f), .iface 87 (pV p), .iface 90 (pV d), pV s, pV l, iV S.now] 79, Fd f 64 S.F, Pl p S.B, Dk d S.D, Sr 146 s S.q, Lg l S.T]) := by
 refine hiS Tryz.func16 Tryz.ntmps16 fun g w0 R h0 => go [] <| nP 32 [iV 2, iV y, uV z] h0 (fun _ _ h12 => ?_)
 refine go [] <| dw (Tr.fl 0 (Tr.an 1 (fls [2, 3] (Tr.an 4 (fls [5, 6, 7, 8, 9, 10, 11, 12, 13, 14, 16] (Tr.an 15 (Tr.an 17 (fls [18, 19] Tr.nil)))))))) h12 fun _ h14 => ?_
 have h15 := tk8 (sf7 (sf6 (sf7 (sf7 (sf7 (sf7 (sf7 (sf7 h14))))))))
 refine go [] <| cw1 Tryz.call56 (wvalid_cl b l Value.nilIface (.iface 84 (pV f)) (.iface 87 (pV p)) (.iface 90 (pV d)) (pV s) (iV S.now)) h15 fun _ h17 => ⟨kd [], ?_⟩
 refine go [rd 1 3 1 0 3 h17] <| cw0 Tryz.call15 (couter_ok 2 y z (by omega) (by omega) (by omega)) h17 fun _ h19 => ⟨kd [], ?_⟩
 refine go [rd 1 10 1 0 1 h19, .s 1 13] <| lw (.pointer (some ⟨b, 2, none⟩)) (fun _ => law_indexArr (x := (Operand.tmp 17)) (i := (Operand.tmp 15)) (b := b) (off := 0) (z := 2) (by kernel_rfl) Tryz.underlying76 1 (by kernel_rfl) 2 (by kernel_rfl) (by kernel_rfl) (by omega) (by omega) 2 (by omega) _) ?_
 have h22 := tk8 (sf7 (sf6 (sf6 (sf6 (sf7 (sf7 (sf7 (sf7 h19))))))))
 refine go [rd 1 14 0 2 1 h19, rd 1 16 1 0 3 h19] ?_
 refine iG 87 (pV p) "All" [] 195 (pall_ht p S.B) h22 ?_
 rintro v K _ (⟨p20, c21, rfl, rfl⟩) h24
 have h25 := ap2 h24
 have hl26 : ((inS 1 (As S.B) 0).length) ≤ 64 := by have h_ := inS_len 1 (As S.B) 0; rw [as_len, hW.bl] at h_; exact h_
 refine ⟨kd [rd 0 16 3 0 3 h25], ?_⟩
 refine cw1 Tryz.call57 (oct_ht p20 (((inS 1 (As S.B) 0).length)) c21 (allK 2 S.B) (Sl 32 3 p20 (((inS 1 (As S.B) 0).length)) c21 (fl eO (allK 2 S.B))) (gv_sl _ _ _) (allK_len _ _) (by omega) 2 y z) (tk9 (sf8 (sf7 (sf8 (sf8 (sf8 (sf8 (sf8 (sf8 (sf8 h25)))))))))) fun _ h29 => ⟨kd [], ?_⟩
 refine go [] ?_
 exact en (.bool (decide ((2, y, z) ∈ (allK 2 S.B)))) [] ⟨_, _, rfl, ⟨by rw [← thr_dec hg]; rfl, rfl⟩, (tk7 (sf6 (sf6 (sf6 (sf6 (sf6 (sf6 (sf8 (tk9 (sf8 (sf8 (sf6 (sf8 (sf8 (sf8 (sf2 (sf4 (sf8 h29))))))))))))))))))⟩

set_option maxHeartbeats 4000000 in
theorem has_3 (b f p d s l : Nat) (S : Wst) (hW : WOk S) (y z : Int) (hz0 : 0 ≤ z) (hz1 : z ≤ 4294967295) (hg : KGood (3, y, z)) (hy0 : 0 ≤ y) (hy1 : y ≤ 63) (hz : 1 ≤ z) : HT Tryz.prog 16 [pV b, .agg #[iV 3, iV y, uV z]] [Cl b [Value.nilIface, .iface 84 (pV f), .iface 87 (pV p), .iface 90 (pV d), pV s, pV l, iV S.now] 79, Fd f 64 S.F, Pl p S.B, Dk d S.D, Sr 146 s S.q, Lg l S.T] (fun v K => v = .bool (decide (Thr S (3, y, z))) ∧ K = [Cl b [Value.nilIface, .iface 84 (pV f), .iface 87 (pV p), .iface 90 (pV d), pV s, pV l, iV S.now] 79, Fd f 64 S.F, Pl p S.B, Dk d S.D, Sr 146 s S.q, Lg l S.T]) := by
 refine hiS Tryz.func16 Tryz.ntmps16 fun g w0 R h0 => go [] <| nP 32 [iV 3, iV y, uV z] h0 (fun _ _ h12 => ?_)
 refine go [] <| dw (Tr.fl 0 (Tr.an 1 (fls [2, 3] (Tr.an 4 (fls [5, 6, 7, 8, 9, 10, 11, 12, 13, 14, 16] (Tr.an 15 (Tr.an 17 (fls [18, 19] Tr.nil)))))))) h12 fun _ h14 => ?_
 have h15 := tk8 (sf7 (sf6 (sf7 (sf7 (sf7 (sf7 (sf7 (sf7 h14))))))))
 refine go [] <| cw1 Tryz.call56 (wvalid_cl b l Value.nilIface (.iface 84 (pV f)) (.iface 87 (pV p)) (.iface 90 (pV d)) (pV s) (iV S.now)) h15 fun _ h17 => ⟨kd [], ?_⟩
 refine go [rd 1 3 1 0 3 h17] <| cw0 Tryz.call15 (couter_ok 3 y z (by omega) (by omega) (by omega)) h17 fun _ h19 => ⟨kd [], ?_⟩
 refine go [rd 1 10 1 0 1 h19, .s 1 13] <| lw (.pointer (some ⟨b, 3, none⟩)) (fun _ => law_indexArr (x := (Operand.tmp 17)) (i := (Operand.tmp 15)) (b := b) (off := 0) (z := 3) (by kernel_rfl) Tryz.underlying76 1 (by kernel_rfl) 3 (by kernel_rfl) (by kernel_rfl) (by omega) (by omega) 3 (by omega) _) ?_
 have h22 := tk8 (sf7 (sf6 (sf6 (sf6 (sf6 (sf7 (sf7 (sf7 h19))))))))
 refine go [rd 1 14 0 3 1 h19, rd 1 16 1 0 3 h19] ?_
 refine iG 90 (pV d) "All" [] 198 (dall_ht d S.D) h22 ?_
 rintro v K _ (⟨p20, c21, rfl, rfl⟩) h24
 have h25 := ap2 h24
 have hl26 : ((inS 1 (As S.D) 0).length) ≤ 64 := by have h_ := inS_len 1 (As S.D) 0; rw [as_len, hW.dl] at h_; exact h_
 refine ⟨kd [rd 0 16 3 0 3 h25], ?_⟩
 refine cw1 Tryz.call57 (oct_ht p20 (((inS 1 (As S.D) 0).length)) c21 (allK 3 S.D) (Sl 32 3 p20 (((inS 1 (As S.D) 0).length)) c21 (fl eO (allK 3 S.D))) (gv_sl _ _ _) (allK_len _ _) (by omega) 3 y z) (tk9 (sf8 (sf7 (sf8 (sf8 (sf8 (sf8 (sf8 (sf8 (sf8 h25)))))))))) fun _ h29 => ⟨kd [], ?_⟩
 refine go [] ?_
 exact en (.bool (decide ((3, y, z) ∈ (allK 3 S.D)))) [] ⟨_, _, rfl, ⟨by rw [← thr_dec hg]; rfl, rfl⟩, (tk7 (sf6 (sf6 (sf6 (sf6 (sf6 (sf6 (sf8 (tk9 (sf8 (sf8 (sf8 (sf5 (sf8 (sf8 (sf2 (sf4 (sf8 h29))))))))))))))))))⟩

theorem has_ht (b f p d s l : Nat) (S : Wst) (hW : WOk S) (x y z : Int) (hz0 : 0 ≤ z) (hz1 : z ≤ 4294967295) : HT Tryz.prog 16 [pV b, .agg #[iV x, iV y, uV z]] (wsix b f p d s l S) (fun v K => v = .bool (decide (Thr S (x, y, z))) ∧ K = wsix b f p d s l S) := by
  by_cases h : KGood (x, y, z)
  · rcases kgood_k h with h1 | h1 | h1
    · have h2 : x = 1 := h1
      subst h2
      exact has_1 b f p d s l S hW y z hz0 hz1 h h.2.2.1 h.2.2.2.1 h.2.2.2.2
    · have h2 : x = 2 := h1
      subst h2
      exact has_2 b f p d s l S hW y z hz0 hz1 h h.2.2.1 h.2.2.2.1 h.2.2.2.2
    · have h2 : x = 3 := h1
      subst h2
      exact has_3 b f p d s l S hW y z hz0 hz1 h h.2.2.1 h.2.2.2.1 h.2.2.2.2
  · rw [decide_eq_false (fun h1 : Thr S (x, y, z) => h h1.1)]
    exact has_no b f p d s l S hW x y z hz0 hz1 h
theorem whas_ht (b : Nat) (S : Wst) (x y z : Int) (hz0 : 0 ≤ z) (hz1 : z ≤ 4294967295) : HT Tryz.prog 16 [pV b, .agg #[iV x, iV y, uV z]] [Wd b S] (fun v K => v = .bool (decide (Thr S (x, y, z))) ∧ K = [Wd b S]) := ht_open fun f p d s l hW => has_ht b f p d s l S hW x y z hz0 hz1

end Go.Proofs.YtggfnbpohmhphaaGreatDoor

/-
  What the calls of a world answer, case by case. No program in sight.
-/
namespace Go.Proofs.YtggfnbpohmhphaaGreatDoor
section
variable {S : Wst} {k y z t : Int} {o : Ky}
theorem ren_keep (h : renE S o t ≠ 0) : renS S o t = S := if_neg h
theorem ren_arg (h : ¬ KGood o ∨ t < 1 ∨ 1048576 < t) : renE S o t = 2 := if_pos h
theorem ren_kind (h : KGood o) (ht : 1 ≤ t ∧ t ≤ 1048576) (hk : o.1 ≠ 3) : renE S o t = 8 := by unfold renE; rw [if_neg (by rintro (q | q); exact q h; omega), if_pos hk]
theorem ren_none (h : KGood o) (ht : 1 ≤ t ∧ t ≤ 1048576) (hk : o.1 = 3) (hT : ¬ Thr S o) : renE S o t = 5 := by unfold renE; rw [if_neg (by rintro (q | q); exact q h; omega), if_neg (fun q => q hk), if_pos hT]
theorem ren_ok (ht : 1 ≤ t ∧ t ≤ 1048576) (hk : o.1 = 3) (hT : Thr S o) : renE S o t = rnE (vaA S.D o.2.1.toNat) t S.now ∧ renS S o t = { S with D := rnX S.D o t S.now } := by
  have e : renE S o t = rnE (vaA S.D o.2.1.toNat) t S.now := by
    unfold renE
    rw [if_neg (by rintro (q | q); exact q hT.1; omega), if_neg (fun q => q hk), if_neg (fun q => q hT)]
    rfl
  refine ⟨e, ?_⟩
  unfold renS rnX
  rw [e]
  split <;> rfl
theorem tck_arg (h : t < 1 ∨ 1048576 < t) : tckE S t = 2 ∧ tckS S t = S := by
  have e : tckE S t = 2 := if_pos h
  exact ⟨e, if_neg (by rw [e]; decide)⟩
theorem tck_over (h : 1 ≤ t ∧ t ≤ 1048576) (h2 : 1099511627776 < S.now + t) : tckE S t = 17 ∧ tckS S t = S := by
  have e : tckE S t = 17 := by unfold tckE; rw [if_neg (by omega), if_pos h2]
  exact ⟨e, if_neg (by rw [e]; decide)⟩
theorem tck_ok (h : 1 ≤ t ∧ t ≤ 1048576) (h2 : S.now + t ≤ 1099511627776) : tckE S t = 0 ∧ tckS S t = { S with now := S.now + t } := by
  have e : tckE S t = 0 := by unfold tckE; rw [if_neg (by omega), if_neg (by omega)]
  exact ⟨e, if_pos e⟩
theorem thr_at (h : Thr S (k, y, z)) : (As (S.tab k))[y.toNat]? = some (1, z) := h.2
theorem thr_nat (h : KGood (k, y, z)) : y = ((y.toNat : Nat) : Int) := by have h1 : 0 ≤ y := h.2.2.1; omega
end
end Go.Proofs.YtggfnbpohmhphaaGreatDoor

/- Walks, printed by my generator o10.py. -/
namespace Go.Proofs.YtggfnbpohmhphaaGreatDoor
set_option maxHeartbeats 4000000 in
theorem ospan_y (t : Int) (ht : 1 ≤ t ∧ t ≤ 1048576) : HT Tryz.prog 63 [iV t] [] (fun v K => v = .bool true ∧ K = []) := by
 refine hiS Tryz.func63 Tryz.ntmps63 fun g w0 R h0 => go [.v 1 1 (oT (t ≥ 1)), .v 1 4 (oT (t ≤ 1048576))] ?_
 exact en (.bool true) [] ⟨_, _, rfl, ⟨rfl, rfl⟩, h0⟩

set_option maxHeartbeats 4000000 in
theorem ospan_n (t : Int) (ht : t < 1 ∨ 1048576 < t) : HT Tryz.prog 63 [iV t] [] (fun v K => v = .bool false ∧ K = []) := by
 refine hiS Tryz.func63 Tryz.ntmps63 fun g w0 R h0 => go [.s 1 1] ?_
 by_cases c10 : t ≥ 1
 ·
  refine go [.v 1 1 (oT (t ≥ 1)), .v 1 4 (oF (t ≤ 1048576))] ?_
  exact en (.bool false) [] ⟨_, _, rfl, ⟨rfl, rfl⟩, h0⟩
 refine go [.v 1 1 (oF (t ≥ 1))] ?_
 exact en (.bool false) [] ⟨_, _, rfl, ⟨rfl, rfl⟩, h0⟩

set_option maxHeartbeats 4000000 in
theorem lease_1 (b f p d s l : Nat) (S : Wst) (hW : WOk S) (y z : Int) (hz0 : 0 ≤ z) (hz1 : z ≤ 4294967295) (hg : KGood (1, y, z)) (hy0 : 0 ≤ y) (hy1 : y ≤ 63) (hz : 1 ≤ z) : HT Tryz.prog 61 [pV b, .agg #[iV 1, iV y, uV z]] [Cl b [Value.nilIface, .iface 84 (pV f), .iface 87 (pV p), .iface 90 (pV d), pV s, pV l, iV S.now] 79, Fd f 64 S.F, Pl p S.B, Dk d S.D, Sr 146 s S.q, Lg l S.T] (fun v K => v = .tuple #[.pointer none, iV 8] ∧ K = [Cl b [Value.nilIface, .iface 84 (pV f), .iface 87 (pV p), .iface 90 (pV d), pV s, pV l, iV S.now] 79, Fd f 64 S.F, Pl p S.B, Dk d S.D, Sr 146 s S.q, Lg l S.T]) := by
 refine hiS Tryz.func61 Tryz.ntmps61 fun g w0 R h0 => ?_
 have hWn := hW.nl; have hWm := hW.nh; have hWt := hW.tn
 refine go [] <| nP 32 [iV 1, iV y, uV z] h0 (fun _ _ h12 => ?_)
 refine go [] <| dw (fls [0, 1, 2, 3, 4, 5, 6, 7, 8, 9, 10, 11, 12] Tr.nil) h12 fun _ h14 => go [rd 1 2 0 0 1 h14, .s 1 5] <| lw (.pointer (some ⟨b, 1, none⟩)) (fun _ => law_indexArr (x := (Operand.tmp 13)) (i := (Operand.tmp 11)) (b := b) (off := 0) (z := 1) (by kernel_rfl) Tryz.underlying76 1 (by kernel_rfl) 1 (by kernel_rfl) (by kernel_rfl) (by omega) (by omega) 1 (by omega) _) <| go [rd 1 6 1 1 1 h14] ?_
 exact en (.tuple #[.pointer none, iV 8]) [] ⟨_, _, rfl, ⟨rfl, rfl⟩, (tk7 (sf6 (sf6 (sf6 (sf6 (sf6 (sf6 (sf7 (tk8 (sf7 (sf7 (sf7 (sf7 (sf7 (sf7 (sf1 (sf7 h14)))))))))))))))))⟩

set_option maxHeartbeats 4000000 in
theorem lease_2 (b f p d s l : Nat) (S : Wst) (hW : WOk S) (y z : Int) (hz0 : 0 ≤ z) (hz1 : z ≤ 4294967295) (hg : KGood (2, y, z)) (hy0 : 0 ≤ y) (hy1 : y ≤ 63) (hz : 1 ≤ z) : HT Tryz.prog 61 [pV b, .agg #[iV 2, iV y, uV z]] [Cl b [Value.nilIface, .iface 84 (pV f), .iface 87 (pV p), .iface 90 (pV d), pV s, pV l, iV S.now] 79, Fd f 64 S.F, Pl p S.B, Dk d S.D, Sr 146 s S.q, Lg l S.T] (fun v K => v = .tuple #[.pointer none, iV 8] ∧ K = [Cl b [Value.nilIface, .iface 84 (pV f), .iface 87 (pV p), .iface 90 (pV d), pV s, pV l, iV S.now] 79, Fd f 64 S.F, Pl p S.B, Dk d S.D, Sr 146 s S.q, Lg l S.T]) := by
 refine hiS Tryz.func61 Tryz.ntmps61 fun g w0 R h0 => ?_
 have hWn := hW.nl; have hWm := hW.nh; have hWt := hW.tn
 refine go [] <| nP 32 [iV 2, iV y, uV z] h0 (fun _ _ h12 => ?_)
 refine go [] <| dw (fls [0, 1, 2, 3, 4, 5, 6, 7, 8, 9, 10, 11, 12] Tr.nil) h12 fun _ h14 => go [rd 1 2 0 0 1 h14, .s 1 5] <| lw (.pointer (some ⟨b, 2, none⟩)) (fun _ => law_indexArr (x := (Operand.tmp 13)) (i := (Operand.tmp 11)) (b := b) (off := 0) (z := 2) (by kernel_rfl) Tryz.underlying76 1 (by kernel_rfl) 2 (by kernel_rfl) (by kernel_rfl) (by omega) (by omega) 2 (by omega) _) <| go [rd 1 6 1 2 1 h14] ?_
 exact en (.tuple #[.pointer none, iV 8]) [] ⟨_, _, rfl, ⟨rfl, rfl⟩, (tk7 (sf6 (sf6 (sf6 (sf6 (sf6 (sf6 (sf7 (tk8 (sf7 (sf7 (sf7 (sf7 (sf7 (sf7 (sf1 (sf7 h14)))))))))))))))))⟩

set_option maxHeartbeats 4000000 in
theorem lease_n (b f p d s l : Nat) (S : Wst) (hW : WOk S) (y z : Int) (hz0 : 0 ≤ z) (hz1 : z ≤ 4294967295) (hg : KGood (3, y, z)) (hy0 : 0 ≤ y) (hy1 : y ≤ 63) (hz : 1 ≤ z) (hT : ¬ Thr S (3, y, z)) : HT Tryz.prog 61 [pV b, .agg #[iV 3, iV y, uV z]] [Cl b [Value.nilIface, .iface 84 (pV f), .iface 87 (pV p), .iface 90 (pV d), pV s, pV l, iV S.now] 79, Fd f 64 S.F, Pl p S.B, Dk d S.D, Sr 146 s S.q, Lg l S.T] (fun v K => v = .tuple #[.pointer none, iV 5] ∧ K = [Cl b [Value.nilIface, .iface 84 (pV f), .iface 87 (pV p), .iface 90 (pV d), pV s, pV l, iV S.now] 79, Fd f 64 S.F, Pl p S.B, Dk d S.D, Sr 146 s S.q, Lg l S.T]) := by
 refine hiS Tryz.func61 Tryz.ntmps61 fun g w0 R h0 => ?_
 have hWn := hW.nl; have hWm := hW.nh; have hWt := hW.tn
 refine go [] <| nP 32 [iV 3, iV y, uV z] h0 (fun _ _ h12 => ?_)
 refine go [] <| dw (fls [0, 1, 2, 3, 4, 5, 6, 7, 8, 9, 10, 11, 12] Tr.nil) h12 fun _ h14 => go [rd 1 2 0 0 1 h14, .s 1 5] <| lw (.pointer (some ⟨b, 3, none⟩)) (fun _ => law_indexArr (x := (Operand.tmp 13)) (i := (Operand.tmp 11)) (b := b) (off := 0) (z := 3) (by kernel_rfl) Tryz.underlying76 1 (by kernel_rfl) 3 (by kernel_rfl) (by kernel_rfl) (by omega) (by omega) 3 (by omega) _) ?_
 have h15 := tk8 (sf7 (sf7 (sf7 (sf7 (sf7 (sf7 (sf1 (sf7 h14))))))))
 refine go [rd 1 6 1 3 1 h14, rd 4 1 0 0 3 h14] <| cl6 Tryz.call16 ((by have h_ := has_ht b f p d s l S hW 3 y z (by omega) (by omega); rw [decide_eq_false hT] at h_; exact h_)) h15 fun _ h17 => ?_
 refine go [] ?_
 exact en (.tuple #[.pointer none, iV 5]) [] ⟨_, _, rfl, ⟨rfl, rfl⟩, (tk7 (sf6 (sf6 (sf6 (sf6 (sf6 (sf6 (sf7 h17))))))))⟩

set_option maxHeartbeats 4000000 in
theorem lease_y (b f p d s l : Nat) (S : Wst) (hW : WOk S) (y z : Int) (hz0 : 0 ≤ z) (hz1 : z ≤ 4294967295) (hg : KGood (3, y, z)) (hy0 : 0 ≤ y) (hy1 : y ≤ 63) (hz : 1 ≤ z) (hT : Thr S (3, y, z)) : HT Tryz.prog 61 [pV b, .agg #[iV 3, iV y, uV z]] [Cl b [Value.nilIface, .iface 84 (pV f), .iface 87 (pV p), .iface 90 (pV d), pV s, pV l, iV S.now] 79, Fd f 64 S.F, Pl p S.B, Dk d S.D, Sr 146 s S.q, Lg l S.T] (fun v K => v = .tuple #[pV d, iV 0] ∧ K = [Cl b [Value.nilIface, .iface 84 (pV f), .iface 87 (pV p), .iface 90 (pV d), pV s, pV l, iV S.now] 79, Fd f 64 S.F, Pl p S.B, Dk d S.D, Sr 146 s S.q, Lg l S.T]) := by
 refine hiS Tryz.func61 Tryz.ntmps61 fun g w0 R h0 => ?_
 have hWn := hW.nl; have hWm := hW.nh; have hWt := hW.tn
 refine go [] <| nP 32 [iV 3, iV y, uV z] h0 (fun _ _ h12 => ?_)
 refine go [] <| dw (fls [0, 1, 2, 3, 4, 5, 6, 7, 8, 9, 10, 11, 12] Tr.nil) h12 fun _ h14 => go [rd 1 2 0 0 1 h14, .s 1 5] <| lw (.pointer (some ⟨b, 3, none⟩)) (fun _ => law_indexArr (x := (Operand.tmp 13)) (i := (Operand.tmp 11)) (b := b) (off := 0) (z := 3) (by kernel_rfl) Tryz.underlying76 1 (by kernel_rfl) 3 (by kernel_rfl) (by kernel_rfl) (by omega) (by omega) 3 (by omega) _) ?_
 have h15 := tk8 (sf7 (sf7 (sf7 (sf7 (sf7 (sf7 (sf1 (sf7 h14))))))))
 refine go [rd 1 6 1 3 1 h14, rd 4 1 0 0 3 h14] <| cl6 Tryz.call16 ((by have h_ := has_ht b f p d s l S hW 3 y z (by omega) (by omega); rw [decide_eq_true hT] at h_; exact h_)) h15 fun _ h17 => ?_
 refine go [] ?_
 exact en (.tuple #[pV d, iV 0]) [] ⟨_, _, rfl, ⟨rfl, rfl⟩, (tk7 (sf6 (sf6 (sf6 (sf6 (sf6 (sf6 (sf7 h17))))))))⟩

set_option maxHeartbeats 4000000 in
theorem wren_no (b : Nat) (S : Wst) (x y z : Int) (hz0 : 0 ≤ z) (hz1 : z ≤ 4294967295) (hg : ¬ (1 ≤ x ∧ x ≤ 3 ∧ 0 ≤ y ∧ y ≤ 63 ∧ 1 ≤ z)) (t : Int) : HT Tryz.prog 25 [pV b, .agg #[iV x, iV y, uV z], iV t] [Wd b S] (fun v K => v = iV 2 ∧ K = [Wd b S]) := by
 refine hiS Tryz.func25 Tryz.ntmps25 fun g w0 R h0 => ?_
 obtain ⟨f10, p11, d12, s13, l14, hW15, h16⟩ := wd_open h0
 have hW15n := hW15.nl; have hW15m := hW15.nh; have hW15t := hW15.tn
 refine go [] <| nP 32 [iV x, iV y, uV z] h16 (fun r17 _ h19 => ?_)
 have h20 := tk8 (sf7 (sf6 (sf7 (sf7 (sf7 (sf7 (sf7 (sf7 h19))))))))
 refine go [] <| cl1 Tryz.call56 (wvalid_cl b l14 Value.nilIface (.iface 84 (pV f10)) (.iface 87 (pV p11)) (.iface 90 (pV d12)) (pV s13) (iV S.now)) h20 fun _ h22 => go [rd 3 0 1 0 3 h22] ?_
 by_cases c23 : 1 ≤ x
 ·
  by_cases c24 : x ≤ 3
  ·
   by_cases c25 : 0 ≤ y
   ·
    by_cases c26 : y ≤ 63
    ·
     refine cl0 Tryz.call15 (couter_no x y z (by omega) (by omega) (by omega)) h22 fun w27 h28 => go [] ?_
     have h30 : sat g w27 [Wd b S, Cl r17 [iV x, iV y, uV z] 32, R] := wd_close hW15 (tk8 (sf7 (sf7 (sf7 (sf7 (sf7 (sf7 (sf2 (sf7 h28)))))))))
     exact en (iV 2) [] ⟨_, _, rfl, ⟨rfl, rfl⟩, (tk2 (sf1 (sf2 h30)))⟩
    refine cl0 Tryz.call15 (couter_no x y z (by omega) (by omega) (by omega)) h22 fun w32 h33 => go [] ?_
    have h35 : sat g w32 [Wd b S, Cl r17 [iV x, iV y, uV z] 32, R] := wd_close hW15 (tk8 (sf7 (sf7 (sf7 (sf7 (sf7 (sf7 (sf2 (sf7 h33)))))))))
    exact en (iV 2) [] ⟨_, _, rfl, ⟨rfl, rfl⟩, (tk2 (sf1 (sf2 h35)))⟩
   refine cl0 Tryz.call15 (couter_no x y z (by omega) (by omega) (by omega)) h22 fun w37 h38 => go [] ?_
   have h40 : sat g w37 [Wd b S, Cl r17 [iV x, iV y, uV z] 32, R] := wd_close hW15 (tk8 (sf7 (sf7 (sf7 (sf7 (sf7 (sf7 (sf2 (sf7 h38)))))))))
   exact en (iV 2) [] ⟨_, _, rfl, ⟨rfl, rfl⟩, (tk2 (sf1 (sf2 h40)))⟩
  refine cl0 Tryz.call15 (couter_no x y z (by omega) (by omega) (by omega)) h22 fun w42 h43 => go [] ?_
  have h45 : sat g w42 [Wd b S, Cl r17 [iV x, iV y, uV z] 32, R] := wd_close hW15 (tk8 (sf7 (sf7 (sf7 (sf7 (sf7 (sf7 (sf2 (sf7 h43)))))))))
  exact en (iV 2) [] ⟨_, _, rfl, ⟨rfl, rfl⟩, (tk2 (sf1 (sf2 h45)))⟩
 refine cl0 Tryz.call15 (couter_no x y z (by omega) (by omega) (by omega)) h22 fun w47 h48 => go [] ?_
 have h50 : sat g w47 [Wd b S, Cl r17 [iV x, iV y, uV z] 32, R] := wd_close hW15 (tk8 (sf7 (sf7 (sf7 (sf7 (sf7 (sf7 (sf2 (sf7 h48)))))))))
 exact en (iV 2) [] ⟨_, _, rfl, ⟨rfl, rfl⟩, (tk2 (sf1 (sf2 h50)))⟩

set_option maxHeartbeats 4000000 in
theorem wren_sp (b : Nat) (S : Wst) (x y z : Int) (hz0 : 0 ≤ z) (hz1 : z ≤ 4294967295) (hg : KGood (x, y, z)) (hy0 : 0 ≤ y) (hy1 : y ≤ 63) (hz : 1 ≤ z) (hx : 1 ≤ x ∧ x ≤ 3) (t : Int) (ht : t < 1 ∨ 1048576 < t) : HT Tryz.prog 25 [pV b, .agg #[iV x, iV y, uV z], iV t] [Wd b S] (fun v K => v = iV 2 ∧ K = [Wd b S]) := by
 refine hiS Tryz.func25 Tryz.ntmps25 fun g w0 R h0 => ?_
 obtain ⟨f10, p11, d12, s13, l14, hW15, h16⟩ := wd_open h0
 have hW15n := hW15.nl; have hW15m := hW15.nh; have hW15t := hW15.tn
 refine go [] <| nP 32 [iV x, iV y, uV z] h16 (fun r17 _ h19 => ?_)
 have h20 := tk8 (sf7 (sf6 (sf7 (sf7 (sf7 (sf7 (sf7 (sf7 h19))))))))
 refine go [] <| cl1 Tryz.call56 (wvalid_cl b l14 Value.nilIface (.iface 84 (pV f10)) (.iface 87 (pV p11)) (.iface 90 (pV d12)) (pV s13) (iV S.now)) h20 fun _ h22 => go [rd 3 0 1 0 3 h22] <| cl0 Tryz.call15 (couter_ok x y z (by omega) (by omega) (by omega)) h22 fun _ h24 => go [] ?_
 by_cases c25 : 1 ≤ t
 ·
  refine cl0 Tryz.call63 (ospan_n t (by omega)) h24 fun w26 h27 => go [] ?_
  have h29 : sat g w26 [Wd b S, Cl r17 [iV x, iV y, uV z] 32, R] := wd_close hW15 (tk8 (sf7 (sf7 (sf7 (sf7 (sf7 (sf7 (sf2 (sf7 h27)))))))))
  exact en (iV 2) [] ⟨_, _, rfl, ⟨rfl, rfl⟩, (tk2 (sf1 (sf2 h29)))⟩
 refine cl0 Tryz.call63 (ospan_n t (by omega)) h24 fun w31 h32 => go [] ?_
 have h34 : sat g w31 [Wd b S, Cl r17 [iV x, iV y, uV z] 32, R] := wd_close hW15 (tk8 (sf7 (sf7 (sf7 (sf7 (sf7 (sf7 (sf2 (sf7 h32)))))))))
 exact en (iV 2) [] ⟨_, _, rfl, ⟨rfl, rfl⟩, (tk2 (sf1 (sf2 h34)))⟩

set_option maxHeartbeats 4000000 in
theorem wren_1 (b : Nat) (S : Wst) (y z : Int) (hz0 : 0 ≤ z) (hz1 : z ≤ 4294967295) (hg : KGood (1, y, z)) (hy0 : 0 ≤ y) (hy1 : y ≤ 63) (hz : 1 ≤ z) (t : Int) (ht : 1 ≤ t ∧ t ≤ 1048576) : HT Tryz.prog 25 [pV b, .agg #[iV 1, iV y, uV z], iV t] [Wd b S] (fun v K => v = iV 8 ∧ K = [Wd b S]) := by
 refine hiS Tryz.func25 Tryz.ntmps25 fun g w0 R h0 => ?_
 obtain ⟨f10, p11, d12, s13, l14, hW15, h16⟩ := wd_open h0
 have hW15n := hW15.nl; have hW15m := hW15.nh; have hW15t := hW15.tn
 refine go [] <| nP 32 [iV 1, iV y, uV z] h16 (fun r17 _ h19 => ?_)
 have h20 := tk8 (sf7 (sf6 (sf7 (sf7 (sf7 (sf7 (sf7 (sf7 h19))))))))
 refine go [] <| cl1 Tryz.call56 (wvalid_cl b l14 Value.nilIface (.iface 84 (pV f10)) (.iface 87 (pV p11)) (.iface 90 (pV d12)) (pV s13) (iV S.now)) h20 fun _ h22 => go [rd 3 0 1 0 3 h22] <| cl0 Tryz.call15 (couter_ok 1 y z (by omega) (by omega) (by omega)) h22 fun _ h24 => go [] <| cl0 Tryz.call63 (ospan_y t (by omega)) h24 fun _ h26 => ?_
 have h27 := tk8 (sf7 (sf7 (sf7 (sf7 (sf7 (sf7 (sf2 (sf7 h26))))))))
 refine go [rd 5 1 1 0 3 h26] <| cl6 Tryz.call61 (lease_1 b f10 p11 d12 s13 l14 S hW15 y z (by omega) (by omega) hg (by omega) (by omega) (by omega)) h27 fun w28 h29 => go [] ?_
 have h30 : sat g w28 [Wd b S, Cl r17 [iV 1, iV y, uV z] 32, R] := wd_close hW15 h29
 exact en (iV 8) [] ⟨_, _, rfl, ⟨rfl, rfl⟩, (tk2 (sf1 (sf2 h30)))⟩

set_option maxHeartbeats 4000000 in
theorem wren_2 (b : Nat) (S : Wst) (y z : Int) (hz0 : 0 ≤ z) (hz1 : z ≤ 4294967295) (hg : KGood (2, y, z)) (hy0 : 0 ≤ y) (hy1 : y ≤ 63) (hz : 1 ≤ z) (t : Int) (ht : 1 ≤ t ∧ t ≤ 1048576) : HT Tryz.prog 25 [pV b, .agg #[iV 2, iV y, uV z], iV t] [Wd b S] (fun v K => v = iV 8 ∧ K = [Wd b S]) := by
 refine hiS Tryz.func25 Tryz.ntmps25 fun g w0 R h0 => ?_
 obtain ⟨f10, p11, d12, s13, l14, hW15, h16⟩ := wd_open h0
 have hW15n := hW15.nl; have hW15m := hW15.nh; have hW15t := hW15.tn
 refine go [] <| nP 32 [iV 2, iV y, uV z] h16 (fun r17 _ h19 => ?_)
 have h20 := tk8 (sf7 (sf6 (sf7 (sf7 (sf7 (sf7 (sf7 (sf7 h19))))))))
 refine go [] <| cl1 Tryz.call56 (wvalid_cl b l14 Value.nilIface (.iface 84 (pV f10)) (.iface 87 (pV p11)) (.iface 90 (pV d12)) (pV s13) (iV S.now)) h20 fun _ h22 => go [rd 3 0 1 0 3 h22] <| cl0 Tryz.call15 (couter_ok 2 y z (by omega) (by omega) (by omega)) h22 fun _ h24 => go [] <| cl0 Tryz.call63 (ospan_y t (by omega)) h24 fun _ h26 => ?_
 have h27 := tk8 (sf7 (sf7 (sf7 (sf7 (sf7 (sf7 (sf2 (sf7 h26))))))))
 refine go [rd 5 1 1 0 3 h26] <| cl6 Tryz.call61 (lease_2 b f10 p11 d12 s13 l14 S hW15 y z (by omega) (by omega) hg (by omega) (by omega) (by omega)) h27 fun w28 h29 => go [] ?_
 have h30 : sat g w28 [Wd b S, Cl r17 [iV 2, iV y, uV z] 32, R] := wd_close hW15 h29
 exact en (iV 8) [] ⟨_, _, rfl, ⟨rfl, rfl⟩, (tk2 (sf1 (sf2 h30)))⟩

set_option maxHeartbeats 4000000 in
theorem wren_n (b : Nat) (S : Wst) (y z : Int) (hz0 : 0 ≤ z) (hz1 : z ≤ 4294967295) (hg : KGood (3, y, z)) (hy0 : 0 ≤ y) (hy1 : y ≤ 63) (hz : 1 ≤ z) (hT : ¬ Thr S (3, y, z)) (t : Int) (ht : 1 ≤ t ∧ t ≤ 1048576) : HT Tryz.prog 25 [pV b, .agg #[iV 3, iV y, uV z], iV t] [Wd b S] (fun v K => v = iV 5 ∧ K = [Wd b S]) := by
 refine hiS Tryz.func25 Tryz.ntmps25 fun g w0 R h0 => ?_
 obtain ⟨f10, p11, d12, s13, l14, hW15, h16⟩ := wd_open h0
 have hW15n := hW15.nl; have hW15m := hW15.nh; have hW15t := hW15.tn
 refine go [] <| nP 32 [iV 3, iV y, uV z] h16 (fun r17 _ h19 => ?_)
 have h20 := tk8 (sf7 (sf6 (sf7 (sf7 (sf7 (sf7 (sf7 (sf7 h19))))))))
 refine go [] <| cl1 Tryz.call56 (wvalid_cl b l14 Value.nilIface (.iface 84 (pV f10)) (.iface 87 (pV p11)) (.iface 90 (pV d12)) (pV s13) (iV S.now)) h20 fun _ h22 => go [rd 3 0 1 0 3 h22] <| cl0 Tryz.call15 (couter_ok 3 y z (by omega) (by omega) (by omega)) h22 fun _ h24 => go [] <| cl0 Tryz.call63 (ospan_y t (by omega)) h24 fun _ h26 => ?_
 have h27 := tk8 (sf7 (sf7 (sf7 (sf7 (sf7 (sf7 (sf2 (sf7 h26))))))))
 refine go [rd 5 1 1 0 3 h26] <| cl6 Tryz.call61 (lease_n b f10 p11 d12 s13 l14 S hW15 y z (by omega) (by omega) hg (by omega) (by omega) (by omega) hT) h27 fun w28 h29 => go [] ?_
 have h30 : sat g w28 [Wd b S, Cl r17 [iV 3, iV y, uV z] 32, R] := wd_close hW15 h29
 exact en (iV 5) [] ⟨_, _, rfl, ⟨rfl, rfl⟩, (tk2 (sf1 (sf2 h30)))⟩

set_option maxHeartbeats 4000000 in
theorem wren_y (b : Nat) (S : Wst) (y z : Int) (hz0 : 0 ≤ z) (hz1 : z ≤ 4294967295) (hg : KGood (3, y, z)) (hy0 : 0 ≤ y) (hy1 : y ≤ 63) (hz : 1 ≤ z) (hT : Thr S (3, y, z)) (t : Int) (ht : 1 ≤ t ∧ t ≤ 1048576) : HT Tryz.prog 25 [pV b, .agg #[iV 3, iV y, uV z], iV t] [Wd b S] (fun v K => v = iV (rnE (vaA S.D y.toNat) t S.now) ∧ K = [Wd b ({ S with D := rnX S.D (3, y, z) t S.now } : Wst)]) := by
 refine hiS Tryz.func25 Tryz.ntmps25 fun g w0 R h0 => ?_
 obtain ⟨f10, p11, d12, s13, l14, hW15, h16⟩ := wd_open h0
 have hW15n := hW15.nl; have hW15m := hW15.nh; have hW15t := hW15.tn
 refine go [] <| nP 32 [iV 3, iV y, uV z] h16 (fun r17 _ h19 => ?_)
 have h20 := tk8 (sf7 (sf6 (sf7 (sf7 (sf7 (sf7 (sf7 (sf7 h19))))))))
 refine go [] <| cl1 Tryz.call56 (wvalid_cl b l14 Value.nilIface (.iface 84 (pV f10)) (.iface 87 (pV p11)) (.iface 90 (pV d12)) (pV s13) (iV S.now)) h20 fun _ h22 => go [rd 3 0 1 0 3 h22] <| cl0 Tryz.call15 (couter_ok 3 y z (by omega) (by omega) (by omega)) h22 fun _ h24 => go [] <| cl0 Tryz.call63 (ospan_y t (by omega)) h24 fun _ h26 => ?_
 have h27 := tk8 (sf7 (sf7 (sf7 (sf7 (sf7 (sf7 (sf2 (sf7 h26))))))))
 refine go [rd 5 1 1 0 3 h26] <| cl6 Tryz.call61 (lease_y b f10 p11 d12 s13 l14 S hW15 y z (by omega) (by omega) hg (by omega) (by omega) (by omega) hT) h27 fun _ h29 => go [] <| dw (fls [0, 1, 2, 3, 4, 5, 6] (Tr.an 7 (Tr.fl 8 Tr.nil))) h29 fun _ h31 => ?_
 have h32 := tk8 (sf7 (sf6 (sf6 (sf6 (sf7 (sf7 (sf7 (sf7 h31))))))))
 refine go [rd 8 1 6 0 3 h31, rd 8 6 0 6 1 h31] <| cw1 Tryz.call64 (drenew_ht d12 S.D y z y.toNat (thr_at hT) (thr_nat hg) (by omega) t S.now (by omega) (by omega)) h32 fun w33 h34 => ⟨kd [], ?_⟩
 refine go [] ?_
 have h35 := tk8 (sf7 (sf7 (sf7 (sf4 (sf7 (sf7 (sf7 (sf7 h34))))))))
 have h36 : sat g w33 [Wd b ({ S with D := rnX S.D (3, y, z) t S.now } : Wst), Cl r17 [iV 3, iV y, uV z] 32, R] := wd_close ((ren_ok ht rfl hT).2 ▸ wok_ren hW15 (3, y, z) t) h35
 exact en (iV ((rnE (vaA S.D y.toNat) t S.now))) [] ⟨_, _, rfl, ⟨rfl, rfl⟩, (tk2 (sf1 (sf2 h36)))⟩

theorem wrenew_ht (b : Nat) (S : Wst) (x y z t : Int) (hz0 : 0 ≤ z) (hz1 : z ≤ 4294967295) : HT Tryz.prog 25 [pV b, .agg #[iV x, iV y, uV z], iV t] [Wd b S] (fun v K => v = iV (renE S (x, y, z) t) ∧ K = [Wd b (renS S (x, y, z) t)]) := by
  by_cases ht : 1 ≤ t ∧ t ≤ 1048576
  rotate_left
  · by_cases h : KGood (x, y, z)
    · have e_ : renE S (x, y, z) t = 2 := ren_arg (by omega)
      rw [ren_keep (by rw [e_]; decide), e_]; exact wren_sp b S x y z hz0 hz1 h h.2.2.1 h.2.2.2.1 h.2.2.2.2 ⟨h.1, h.2.1⟩ t (by omega)
    · have e_ : renE S (x, y, z) t = 2 := ren_arg (.inl h)
      rw [ren_keep (by rw [e_]; decide), e_]; exact wren_no b S x y z hz0 hz1 h t
  by_cases h : KGood (x, y, z)
  · rcases kgood_k h with h1 | h1 | h1
    · have h2 : x = 1 := h1
      subst h2
      have e_ : renE S (_, y, z) t = _ := ren_kind h ht (by show (1 : Int) ≠ 3; decide); rw [ren_keep (by rw [e_]; decide), e_]; exact wren_1 b S y z hz0 hz1 h h.2.2.1 h.2.2.2.1 h.2.2.2.2 t ht
    · have h2 : x = 2 := h1
      subst h2
      have e_ : renE S (_, y, z) t = _ := ren_kind h ht (by show (2 : Int) ≠ 3; decide); rw [ren_keep (by rw [e_]; decide), e_]; exact wren_2 b S y z hz0 hz1 h h.2.2.1 h.2.2.2.1 h.2.2.2.2 t ht
    · have h2 : x = 3 := h1
      subst h2
      by_cases hT : Thr S (3, y, z)
      · rw [(ren_ok ht rfl hT).1, (ren_ok ht rfl hT).2]; exact wren_y b S y z hz0 hz1 h h.2.2.1 h.2.2.2.1 h.2.2.2.2 hT t ht
      · have e_ : renE S (_, y, z) t = _ := ren_none h ht rfl hT; rw [ren_keep (by rw [e_]; decide), e_]; exact wren_n b S y z hz0 hz1 h h.2.2.1 h.2.2.2.1 h.2.2.2.2 hT t ht
  · have e_ : renE S (x, y, z) t = 2 := ren_arg (.inl h); rw [ren_keep (by rw [e_]; decide), e_]; exact wren_no b S x y z hz0 hz1 h t

end Go.Proofs.YtggfnbpohmhphaaGreatDoor

/- Walks, printed by my generator o11.py. -/
namespace Go.Proofs.YtggfnbpohmhphaaGreatDoor
set_option maxHeartbeats 4000000 in
theorem wtick_ht (b : Nat) (S : Wst) (t : Int) : HT Tryz.prog 29 [pV b, iV t] [Wd b S] (fun v K => v = iV (tckE S t) ∧ K = [Wd b (tckS S t)]) := by
 refine hiS Tryz.func29 Tryz.ntmps29 fun g w0 R h0 => ?_
 obtain ⟨f10, p11, d12, s13, l14, hW15, h16⟩ := wd_open h0
 have hW15n := hW15.nl; have hW15m := hW15.nh; have hW15t := hW15.tn
 refine go [] <| cl1 Tryz.call56 (wvalid_cl b l14 Value.nilIface (.iface 84 (pV f10)) (.iface 87 (pV p11)) (.iface 90 (pV d12)) (pV s13) (iV S.now)) h16 fun _ h18 => go [] ?_
 by_cases c19 : 1 ≤ t
 ·
  by_cases c20 : t ≤ 1048576
  ·
   refine cl0 Tryz.call63 (ospan_y t (by omega)) h18 fun w21 h22 => go [rd 5 3 0 6 1 h22, .v 5 5 (oIr (S.now + t)), .s 5 6] ?_
   by_cases c23 : S.now + t > 1099511627776
   ·
    refine go [.v 5 6 (oT (S.now + t > 1099511627776))] ?_
    have ht_ := tck_over (S := S) (t := t) (by omega) (by omega)
    have h24 : sat g w21 [Wd b S, R] := wd_close hW15 h22
    exact en (iV 17) [] ⟨_, [Wd b S], rfl, ⟨by rw [ht_.1], by rw [ht_.2]⟩, h24⟩
   refine go [.v 5 6 (oF (S.now + t > 1099511627776)), rd 7 3 0 6 1 h22, .v 7 5 (oIr (S.now + t))] <| sP [(6, iV (S.now + t))] [Value.nilIface, .iface 84 (pV f10), .iface 87 (pV p11), .iface 90 (pV d12), pV s13, pV l14, iV (S.now + t)] h22 fun w25 h26 => go [] ?_
   have ht_ := tck_ok (S := S) (t := t) (by omega) (by omega)
   have h27 : sat g w25 [Wd b ({ S with now := S.now + t } : Wst), R] := wd_close (ht_.2 ▸ wok_tck hW15 t) h26
   exact en (iV 0) [] ⟨_, [Wd b ({ S with now := S.now + t } : Wst)], rfl, ⟨by rw [ht_.1], by rw [ht_.2]⟩, h27⟩
  refine cl0 Tryz.call63 (ospan_n t (by omega)) h18 fun w28 h29 => go [] ?_
  have ht_ := tck_arg (S := S) (t := t) (by omega)
  have h30 : sat g w28 [Wd b S, R] := wd_close hW15 h29
  exact en (iV 2) [] ⟨_, [Wd b S], rfl, ⟨by rw [ht_.1], by rw [ht_.2]⟩, h30⟩
 refine cl0 Tryz.call63 (ospan_n t (by omega)) h18 fun w31 h32 => go [] ?_
 have ht_ := tck_arg (S := S) (t := t) (by omega)
 have h33 : sat g w31 [Wd b S, R] := wd_close hW15 h32
 exact en (iV 2) [] ⟨_, [Wd b S], rfl, ⟨by rw [ht_.1], by rw [ht_.2]⟩, h33⟩

set_option maxHeartbeats 4000000 in
theorem wnow_ht (b : Nat) (S : Wst) : HT Tryz.prog 20 [pV b] [Wd b S] (fun v K => v = iV S.now ∧ K = [Wd b S]) := by
 refine hiS Tryz.func20 Tryz.ntmps20 fun g w0 R h0 => ?_
 obtain ⟨f10, p11, d12, s13, l14, hW15, h16⟩ := wd_open h0
 have hW15n := hW15.nl; have hW15m := hW15.nh; have hW15t := hW15.tn
 refine go [] <| cl1 Tryz.call56 (wvalid_cl b l14 Value.nilIface (.iface 84 (pV f10)) (.iface 87 (pV p11)) (.iface 90 (pV d12)) (pV s13) (iV S.now)) h16 fun w17 h18 => go [rd 3 3 0 6 1 h18] ?_
 have h19 : sat g w17 [Wd b S, R] := wd_close hW15 h18
 exact en (iV S.now) [] ⟨_, _, rfl, ⟨rfl, rfl⟩, h19⟩

set_option maxHeartbeats 4000000 in
theorem wansw_ht (wo : World) (hg : Lett wo) (b : Nat) (S : Wst) (l : List UInt8) (hl : l.length ≤ 1099511627776) : HT Tryz.prog 30 [pV b, .string (St l)] [Wd b S, Old wo] (fun v K => v = iV (aswE S l) ∧ K = [Wd b (aswS S l), Old wo]) := by
 refine hiS Tryz.func30 Tryz.ntmps30 fun g w0 R h0 => ?_
 obtain ⟨f10, p11, d12, s13, l14, hW15, h16⟩ := wd_open h0
 have hW15n := hW15.nl; have hW15m := hW15.nh; have hW15t := hW15.tn
 refine go [] <| cl1 Tryz.call56 (wvalid_cl b l14 Value.nilIface (.iface 84 (pV f10)) (.iface 87 (pV p11)) (.iface 90 (pV d12)) (pV s13) (iV S.now)) h16 fun _ h18 => ?_
 have h19 := tk8 (sf7 (sf7 (sf5 (sf5 (sf5 (sf5 (sf6 (sf7 h18))))))))
 refine go [rd 3 3 0 4 1 h18] <| cl2 Tryz.call70 (add_ht wo hg s13 S.q l hl) h19 fun w20 h21 => go [] ?_
 have h23 : sat g w20 [Wd b (aswS S l), Old wo, R] := wd_close (wok_asw hW15 l) (tk8 (sf7 (sf7 (sf7 (sf7 (sf3 (sf7 (sf2 (sf7 h21)))))))))
 exact en (iV ((addE S.q l))) [] ⟨_, _, rfl, ⟨rfl, rfl⟩, h23⟩

set_option maxHeartbeats 4000000 in
theorem wledg_ht (b : Nat) (S : Wst) : HT Tryz.prog 17 [pV b] [Wd b S] (fun v K => ∃ b2 : Nat, v = pV b2 ∧ K = [Wd b S, Lg b2 S.T]) := by
 refine hiS Tryz.func17 Tryz.ntmps17 fun g w0 R h0 => ?_
 obtain ⟨f10, p11, d12, s13, l14, hW15, h16⟩ := wd_open h0
 have hW15n := hW15.nl; have hW15m := hW15.nh; have hW15t := hW15.tn
 refine go [] <| cl1 Tryz.call56 (wvalid_cl b l14 Value.nilIface (.iface 84 (pV f10)) (.iface 87 (pV p11)) (.iface 90 (pV d12)) (pV s13) (iV S.now)) h16 fun _ h18 => ?_
 have h20 := tk7 (sf6 (sf5 (sf5 (sf5 (sf5 (sf5 (sf6 h18)))))))
 refine go [rd 3 3 0 5 1 h18] <| cP Tryz.call58 (lgcopy_ht l14 S.T) h20 ?_
 rintro v K w21 (⟨b19, rfl, rfl⟩) h22
 have h23 := ap2 h22
 refine go [] ?_
 have h25 : sat g w21 [Wd b S, Lg b19 S.T, R] := wd_close hW15 (tk8 (sf7 (sf7 (sf7 (sf7 (sf7 (sf2 (sf2 (sf7 h23)))))))))
 exact en (pV b19) [] ⟨_, _, rfl, ⟨b19, rfl, rfl⟩, h25⟩

set_option maxHeartbeats 4000000 in
theorem wall_ht (b : Nat) (S : Wst) : HT Tryz.prog 19 [pV b] [Wd b S] (fun v K => ∃ p c, v = .slice p (allS S).length c ∧ K = [Sl 32 3 p (((allS S).length)) c (fl eO (allS S)), Wd b S]) := by
 refine hiS Tryz.func19 Tryz.ntmps19 fun g w0 R h0 => ?_
 obtain ⟨f10, p11, d12, s13, l14, hW15, h16⟩ := wd_open h0
 have hW15n := hW15.nl; have hW15m := hW15.nh; have hW15t := hW15.tn
 refine go [] <| cl1 Tryz.call56 (wvalid_cl b l14 Value.nilIface (.iface 84 (pV f10)) (.iface 87 (pV p11)) (.iface 90 (pV d12)) (pV s13) (iV S.now)) h16 fun _ h18 => go [.s 4 3] <| lwP (.slice (some ⟨b, 1, none⟩) 3 3) (law_sliceArr (x := (Operand.tmp 11)) (lo := (some (Operand.const (iV 1)))) (hi := none) (b := b) (off := 0) (by kernel_rfl) Tryz.underlying76 1 (by kernel_rfl) 1 4 1 4 (by kernel_rfl) (show fe _ _ (Operand.const (iV 1)) = _ from by kernel_rfl) rfl (by omega) (by omega) (by omega) (by omega) 1 ((if_neg (by omega)).trans (by omega)) 3 3 (by omega) (by omega) _) <| go [.v 4 4 (oJ .i64 (3 : Int) 3)] <| unS 3 <| go [.s 6 0] <| lwP (.pointer (some ⟨b, 1, none⟩)) (law_indexSl (x := (Operand.tmp 12)) (i := (Operand.tmp 14)) (b := b) (off := 1) (z := 0) (len := 3) (cap := 3) (by kernel_rfl) Tryz.underlying103 1 (by kernel_rfl) 0 (by kernel_rfl) (by kernel_rfl) (by omega) (by omega) 1 (by omega) _) ?_
 have h21 := tk7 (sf6 (sf5 (sf6 (sf6 (sf6 (sf6 (sf6 h18)))))))
 refine go [rd 6 1 0 1 1 h18] ?_
 refine iP 84 (pV f10) "All" [] 193 ((by have h_ := fall_ht f10 64 S.F; exact h_)) h21 ?_
 rintro v K w22 (⟨p19, c20, rfl, rfl⟩) h23
 have h24 := ap2 h23
 have hl25 : ((inS 1 (As S.F) 0).length) ≤ 64 := by have h_ := inS_len 1 (As S.F) 0; rw [as_len, hW15.fl] at h_; exact h_
 have h26 : sat g w22 [Sl 32 3 none 0 0 (fl eO []), Fd f10 64 S.F, Sl 32 3 p19 (((inS 1 (As S.F) 0).length)) c20 (fl eO (allK 1 S.F)), Cl b [Value.nilIface, .iface 84 (pV f10), .iface 87 (pV p11), .iface 90 (pV d12), pV s13, pV l14, iV S.now] 79, Pl p11 S.B, Dk d12 S.D, Sr 146 s13 S.q, Lg l14 S.T, R] := sl_nil 32 3 h24
 refine actG ?_
 refine an_append_gv (d := 21) (sz := 3) (s := (Operand.tmp 18)) (x := (Operand.tmp 20)) (z := .agg #[iV 0, iV 0, uV 0]) (p := none) (p2 := p19) (m := 0) (c := 0) (k := (((inS 1 (As S.F) 0).length))) (c2 := c20) (by_ := 24) (by kernel_rfl) (by kernel_rfl) rfl Tryz.underlying30 (by kernel_rfl) rfl (by decide) (by kernel_rfl) (by kernel_rfl) h26 2 rfl (fl eO (allK 1 S.F)) (gv_sl _ _ _) (by rw [fl_len eO_ok, show ((allK 1 S.F)).length = ((inS 1 (As S.F) 0).length) from (allK_len _ _)]) (fl_one eO_ok _) (by omega) (by omega) (((inS 1 (As S.F) 0).length)) (by omega) ?_
 intro p27 cap28 w29 h30
 have h31 : sat g w29 [Sl 32 3 p27 (((inS 1 (As S.F) 0).length)) cap28 (fl eO (allK 1 S.F)), Fd f10 64 S.F, Sl 32 3 p19 (((inS 1 (As S.F) 0).length)) c20 (fl eO (allK 1 S.F)), Cl b [Value.nilIface, .iface 84 (pV f10), .iface 87 (pV p11), .iface 90 (pV d12), pV s13, pV l14, iV S.now] 79, Pl p11 S.B, Dk d12 S.D, Sr 146 s13 S.q, Lg l14 S.T, R] := sat_imp h30 (fun _ hh => by exact hh)
 obtain ⟨hn32, hn33⟩ := sl_le h31
 refine nxA <| go [] <| unN <| go [.s 6 0] <| lwP (.pointer (some ⟨b, 2, none⟩)) (law_indexSl (x := (Operand.tmp 12)) (i := (Operand.tmp 14)) (b := b) (off := 1) (z := 1) (len := 3) (cap := 3) (by kernel_rfl) Tryz.underlying103 1 (by kernel_rfl) 1 (by kernel_rfl) (by kernel_rfl) (by omega) (by omega) 2 (by omega) _) ?_
 have h36 := tk9 (sf8 (sf7 (sf7 (sf7 (sf7 (sf8 (sf8 (sf8 (sf8 h31)))))))))
 refine go [rd 6 1 3 2 1 h31] ?_
 refine iP 87 (pV p11) "All" [] 195 (pall_ht p11 S.B) h36 ?_
 rintro v K _ (⟨p34, c35, rfl, rfl⟩) h38
 have h39 := ap2 h38
 have hl40 : ((inS 1 (As S.B) 0).length) ≤ 64 := by have h_ := inS_len 1 (As S.B) 0; rw [as_len, hW15.bl] at h_; exact h_
 have h41 := tk10 (sf9 (sf8 (sf8 (sf9 (sf9 (sf9 (sf9 (sf9 (sf9 (sf9 h39))))))))))
 refine actG ?_
 refine an_append_gv (d := 21) (sz := 3) (s := (Operand.tmp 18)) (x := (Operand.tmp 20)) (z := .agg #[iV 0, iV 0, uV 0]) (p := p27) (p2 := p34) (m := (((inS 1 (As S.F) 0).length))) (c := cap28) (k := (((inS 1 (As S.B) 0).length))) (c2 := c35) (by_ := 24) (by kernel_rfl) (by kernel_rfl) rfl Tryz.underlying30 (by kernel_rfl) rfl (by decide) (by kernel_rfl) (by kernel_rfl) h41 2 rfl (fl eO (allK 2 S.B)) (gv_sl _ _ _) (by rw [fl_len eO_ok, show ((allK 2 S.B)).length = ((inS 1 (As S.B) 0).length) from (allK_len _ _)]) (fl_one eO_ok _) (by omega) (by omega) (((inS 1 (As S.F) 0).length) + ((inS 1 (As S.B) 0).length)) (by omega) ?_
 intro p42 cap43 w44 h45
 have h46 : sat g w44 [Sl 32 3 p42 (((inS 1 (As S.F) 0).length) + ((inS 1 (As S.B) 0).length)) cap43 (fl eO ((allK 1 S.F) ++ (allK 2 S.B))), Pl p11 S.B, Sl 32 3 p34 (((inS 1 (As S.B) 0).length)) c35 (fl eO (allK 2 S.B)), Fd f10 64 S.F, Sl 32 3 p19 (((inS 1 (As S.F) 0).length)) c20 (fl eO (allK 1 S.F)), Cl b [Value.nilIface, .iface 84 (pV f10), .iface 87 (pV p11), .iface 90 (pV d12), pV s13, pV l14, iV S.now] 79, Dk d12 S.D, Sr 146 s13 S.q, Lg l14 S.T, R] := sat_imp h45 (fun _ hh => by rw [fl_app]; exact hh)
 obtain ⟨hn47, hn48⟩ := sl_le h46
 refine nxA <| go [] <| unN <| go [.s 6 0] <| lwP (.pointer (some ⟨b, 3, none⟩)) (law_indexSl (x := (Operand.tmp 12)) (i := (Operand.tmp 14)) (b := b) (off := 1) (z := 2) (len := 3) (cap := 3) (by kernel_rfl) Tryz.underlying103 1 (by kernel_rfl) 2 (by kernel_rfl) (by kernel_rfl) (by omega) (by omega) 3 (by omega) _) ?_
 have h51 := tk10 (sf9 (sf8 (sf8 (sf8 (sf8 (sf8 (sf8 (sf9 (sf9 (sf9 h46))))))))))
 refine go [rd 6 1 5 3 1 h46] ?_
 refine iP 90 (pV d12) "All" [] 198 (dall_ht d12 S.D) h51 ?_
 rintro v K _ (⟨p49, c50, rfl, rfl⟩) h53
 have h54 := ap2 h53
 have hl55 : ((inS 1 (As S.D) 0).length) ≤ 64 := by have h_ := inS_len 1 (As S.D) 0; rw [as_len, hW15.dl] at h_; exact h_
 have h56 := tk11 (sf10 (sf9 (sf9 (sf10 (sf10 (sf10 (sf10 (sf10 (sf10 (sf10 (sf10 h54)))))))))))
 refine actG ?_
 refine an_append_gv (d := 21) (sz := 3) (s := (Operand.tmp 18)) (x := (Operand.tmp 20)) (z := .agg #[iV 0, iV 0, uV 0]) (p := p42) (p2 := p49) (m := (((inS 1 (As S.F) 0).length) + ((inS 1 (As S.B) 0).length))) (c := cap43) (k := (((inS 1 (As S.D) 0).length))) (c2 := c50) (by_ := 24) (by kernel_rfl) (by kernel_rfl) rfl Tryz.underlying30 (by kernel_rfl) rfl (by decide) (by kernel_rfl) (by kernel_rfl) h56 2 rfl (fl eO (allK 3 S.D)) (gv_sl _ _ _) (by rw [fl_len eO_ok, show ((allK 3 S.D)).length = ((inS 1 (As S.D) 0).length) from (allK_len _ _)]) (fl_one eO_ok _) (by omega) (by omega) (((inS 1 (As S.F) 0).length) + ((inS 1 (As S.B) 0).length) + ((inS 1 (As S.D) 0).length)) (by omega) ?_
 intro p57 cap58 w59 h60
 have h61 : sat g w59 [Sl 32 3 p57 (((inS 1 (As S.F) 0).length) + ((inS 1 (As S.B) 0).length) + ((inS 1 (As S.D) 0).length)) cap58 (fl eO (((allK 1 S.F) ++ (allK 2 S.B)) ++ (allK 3 S.D))), Dk d12 S.D, Sl 32 3 p49 (((inS 1 (As S.D) 0).length)) c50 (fl eO (allK 3 S.D)), Pl p11 S.B, Sl 32 3 p34 (((inS 1 (As S.B) 0).length)) c35 (fl eO (allK 2 S.B)), Fd f10 64 S.F, Sl 32 3 p19 (((inS 1 (As S.F) 0).length)) c20 (fl eO (allK 1 S.F)), Cl b [Value.nilIface, .iface 84 (pV f10), .iface 87 (pV p11), .iface 90 (pV d12), pV s13, pV l14, iV S.now] 79, Sr 146 s13 S.q, Lg l14 S.T, R] := sat_imp h60 (fun _ hh => by rw [fl_app]; exact hh)
 obtain ⟨hn62, hn63⟩ := sl_le h61
 refine nxA <| go [] <| unN <| go [] <| up <| go [] ?_
 have hn_ : ((inS 1 (As S.F) 0).length) + ((inS 1 (As S.B) 0).length) + ((inS 1 (As S.D) 0).length) = (allS S).length := by unfold allS; rw [List.length_append, List.length_append, allK_len, allK_len, allK_len]; omega
 have h64 : sat g w59 [Sl 32 3 p57 (((allS S).length)) cap58 (fl eO (allS S)), Dk d12 S.D, Sl 32 3 p49 (((inS 1 (As S.D) 0).length)) c50 (fl eO (allK 3 S.D)), Pl p11 S.B, Sl 32 3 p34 (((inS 1 (As S.B) 0).length)) c35 (fl eO (allK 2 S.B)), Fd f10 64 S.F, Sl 32 3 p19 (((inS 1 (As S.F) 0).length)) c20 (fl eO (allK 1 S.F)), Cl b [Value.nilIface, .iface 84 (pV f10), .iface 87 (pV p11), .iface 90 (pV d12), pV s13, pV l14, iV S.now] 79, Sr 146 s13 S.q, Lg l14 S.T, R] := sat_imp h61 (fun _ hh_ => by rw [hn_, show (((allK 1 S.F) ++ (allK 2 S.B)) ++ (allK 3 S.D)) = allS S from by unfold allS; simp only [List.append_assoc]] at hh_; exact hh_)
 have h66 : sat g w59 [Wd b S, Sl 32 3 p57 (((allS S).length)) cap58 (fl eO (allS S)), Sl 32 3 p49 (((inS 1 (As S.D) 0).length)) c50 (fl eO (allK 3 S.D)), Sl 32 3 p34 (((inS 1 (As S.B) 0).length)) c35 (fl eO (allK 2 S.B)), Sl 32 3 p19 (((inS 1 (As S.F) 0).length)) c20 (fl eO (allK 1 S.F)), R] := wd_close hW15 (tk11 (sf10 (sf9 (sf8 (sf7 (sf10 (sf10 (sf4 (sf5 (sf6 (sf7 (sf10 h64))))))))))))
 exact en (.slice p57 (((inS 1 (As S.F) 0).length) + ((inS 1 (As S.B) 0).length) + ((inS 1 (As S.D) 0).length)) cap58) [] ⟨_, _, rfl, ⟨p57, cap58, by rw [hn_], rfl⟩, (tk3 (sf2 (sf2 (sf5 (tk6 (sf5 (sf4 (sf5 (sf5 (sf5 (sf5 h66)))))))))))⟩

set_option maxHeartbeats 4000000 in
theorem wcopy_ht (b : Nat) (S : Wst) : HT Tryz.prog 31 [pV b] [Wd b S] (fun v K => ∃ b2 : Nat, v = pV b2 ∧ K = [Wd b S, Wd b2 S]) := by
 refine hiS Tryz.func31 Tryz.ntmps31 fun g w0 R h0 => ?_
 obtain ⟨f10, p11, d12, s13, l14, hW15, h16⟩ := wd_open h0
 have hW15n := hW15.nl; have hW15m := hW15.nh; have hW15t := hW15.tn
 refine go [] <| cl1 Tryz.call56 (wvalid_cl b l14 Value.nilIface (.iface 84 (pV f10)) (.iface 87 (pV p11)) (.iface 90 (pV d12)) (pV s13) (iV S.now)) h16 fun _ h18 => go [] <| dw (fls [0, 1, 2, 3, 5, 6, 7, 8, 10, 11, 12, 13] (Tr.an 4 (Tr.an 9 (Tr.fl 14 (Tr.an 15 (Tr.fl 16 Tr.nil)))))) h18 fun _ h20 => ?_
 have h22 := tk7 (sf6 (sf5 (sf5 (sf5 (sf5 (sf6 (sf6 h20)))))))
 refine go [rd 3 3 0 4 1 h20, rd 3 8 0 5 1 h20, rd 3 13 0 6 1 h20] <| cG Tryz.call71 (copy_ht s13 S.q) h22 ?_
 rintro v K _ (⟨b21, rfl, rfl⟩) h24
 have h25 := ap2 h24
 refine ⟨kd [rd 0 13 2 6 1 h25, rd 0 8 2 5 1 h25], ?_⟩
 refine cG Tryz.call58 (lgcopy_ht l14 S.T) (tk8 (sf7 (sf6 (sf6 (sf6 (sf6 (sf6 (sf6 (sf7 h25))))))))) ?_
 rintro v K _ (⟨b26, rfl, rfl⟩) h29
 have h30 := ap2 h29
 refine ⟨kd [rd 0 13 4 6 1 h30], ?_⟩
 refine go [] <| nG (fun q_ => pV q_) 79 [Value.nilIface, Value.nilIface, Value.nilIface, Value.nilIface, pV b21, pV b26, iV S.now] h30 (fun r31 _ h33 => ⟨kd [], ?_⟩)
 refine go [rd 4 3 5 0 4 h33] <| unS 4 <| go [] <| unN <| go [] <| dw (fls [0, 1, 2, 5, 6] (Tr.an 3 (fls [4, 7] (Tr.an 8 Tr.nil)))) h33 fun _ h35 => ?_
 have h37 := tk10 (sf9 (sf8 (sf8 (sf8 (sf8 (sf8 (sf8 (sf9 (sf9 (sf9 h35))))))))))
 refine go [] <| cG Tryz.call72 (fcopy_ht f10 64 S.F) h37 ?_
 rintro v K _ (⟨b36, rfl, rfl⟩) h39
 have h40 := ap2 h39
 refine ⟨kd [], ?_⟩
 refine lw (.iface 84 (pV b36)) (fun _ => law_mkIface (t := 84) (x := (Operand.tmp 43)) (by kernel_rfl) Tryz.underlying84 rfl (pV b36) (by kernel_rfl) _) <| lw (.pointer (some ⟨r31, 1, none⟩)) (fun _ => law_indexArr (x := (Operand.tmp 46)) (i := (Operand.tmp 41)) (b := r31) (off := 0) (z := 1) (by kernel_rfl) Tryz.underlying76 1 (by kernel_rfl) 1 (by kernel_rfl) (by kernel_rfl) (by omega) (by omega) 1 (by omega) _) <| sG [(1, .iface 84 (pV b36))] [Value.nilIface, .iface 84 (pV b36), Value.nilIface, Value.nilIface, pV b21, pV b26, iV S.now] (tk11 (sf10 (sf9 (sf9 (sf10 (sf10 (sf10 (sf10 (sf10 (sf10 (sf10 (sf10 h40)))))))))))) fun _ h43 => ⟨kd [], ?_⟩
 refine go [] <| unN <| go [] <| dw (fls [0, 1, 2, 5, 6] (Tr.an 3 (fls [4, 7] (Tr.an 8 Tr.nil)))) h43 fun _ h45 => ?_
 have h47 := tk11 (sf10 (sf9 (sf9 (sf9 (sf9 (sf9 (sf9 (sf9 (sf9 (sf10 (sf10 h45)))))))))))
 refine go [] <| cG Tryz.call73 (pcopy_ht p11 S.B) h47 ?_
 rintro v K _ (⟨b46, rfl, rfl⟩) h49
 have h50 := ap2 h49
 refine ⟨kd [], ?_⟩
 refine lw (.iface 87 (pV b46)) (fun _ => law_mkIface (t := 87) (x := (Operand.tmp 54)) (by kernel_rfl) Tryz.underlying87 rfl (pV b46) (by kernel_rfl) _) <| lw (.pointer (some ⟨r31, 2, none⟩)) (fun _ => law_indexArr (x := (Operand.tmp 57)) (i := (Operand.tmp 52)) (b := r31) (off := 0) (z := 2) (by kernel_rfl) Tryz.underlying76 1 (by kernel_rfl) 2 (by kernel_rfl) (by kernel_rfl) (by omega) (by omega) 2 (by omega) _) <| sG [(2, .iface 87 (pV b46))] [Value.nilIface, .iface 84 (pV b36), .iface 87 (pV b46), Value.nilIface, pV b21, pV b26, iV S.now] (tk12 (sf11 (sf10 (sf10 (sf11 (sf11 (sf11 (sf11 (sf11 (sf11 (sf11 (sf11 (sf11 h50))))))))))))) fun _ h53 => ⟨kd [], ?_⟩
 refine go [] <| unN <| go [] <| dw (fls [0, 1, 2, 5, 6] (Tr.an 3 (fls [4, 7] (Tr.an 8 Tr.nil)))) h53 fun _ h55 => ?_
 have h57 := tk12 (sf11 (sf10 (sf10 (sf10 (sf10 (sf10 (sf10 (sf10 (sf10 (sf10 (sf10 (sf11 h55))))))))))))
 refine go [] <| cG Tryz.call74 (lcopy_ht d12 S.D) h57 ?_
 rintro v K _ (⟨b56, rfl, rfl⟩) h59
 have h60 := ap2 h59
 refine ⟨kd [], ?_⟩
 refine lw (.iface 90 (pV b56)) (fun _ => law_mkIface (t := 90) (x := (Operand.tmp 65)) (by kernel_rfl) Tryz.underlying90 rfl (pV b56) (by kernel_rfl) _) <| lw (.pointer (some ⟨r31, 3, none⟩)) (fun _ => law_indexArr (x := (Operand.tmp 68)) (i := (Operand.tmp 63)) (b := r31) (off := 0) (z := 3) (by kernel_rfl) Tryz.underlying76 1 (by kernel_rfl) 3 (by kernel_rfl) (by kernel_rfl) (by omega) (by omega) 3 (by omega) _) <| sG [(3, .iface 90 (pV b56))] [Value.nilIface, .iface 84 (pV b36), .iface 87 (pV b46), .iface 90 (pV b56), pV b21, pV b26, iV S.now] (tk13 (sf12 (sf11 (sf11 (sf12 (sf12 (sf12 (sf12 (sf12 (sf12 (sf12 (sf12 (sf12 (sf12 h60)))))))))))))) fun w62 h63 => ⟨kd [], ?_⟩
 refine go [] <| unN <| go [] <| up <| go [] ?_
 have h65 : sat g w62 [Wd b S, Cl r31 [Value.nilIface, .iface 84 (pV b36), .iface 87 (pV b46), .iface 90 (pV b56), pV b21, pV b26, iV S.now] 79, Dk b56 S.D, Pl b46 S.B, Fd b36 64 S.F, Lg b26 S.T, Sr 146 b21 S.q, R] := wd_close hW15 (tk13 (sf12 (sf11 (sf10 (sf9 (sf11 (sf10 (sf6 (sf7 (sf8 (sf9 (sf10 (sf10 (sf12 h63))))))))))))))
 have h67 : sat g w62 [Wd r31 S, Wd b S, R] := wd_close hW15 (tk8 (sf7 (sf7 (sf6 (sf5 (sf7 (sf6 (sf1 (sf7 h65)))))))))
 exact en (pV r31) [] ⟨_, _, rfl, ⟨r31, rfl, rfl⟩, (tk3 (sf2 (sf1 (sf2 h67))))⟩

end Go.Proofs.YtggfnbpohmhphaaGreatDoor

/-
  Acquiring and releasing, case by case. No program in sight.
-/
namespace Go.Proofs.YtggfnbpohmhphaaGreatDoor
section
variable {S : Wst} {k a y z wy : Int} {o : Ky}
theorem acq_arg (h : ¬ godP k a) : acqE S k a = 2 ∧ acqO S k a = (0, 0, 0) ∧ acqS S k a = S := by
  have e : acqE S k a = 2 := if_pos h
  exact ⟨e, if_neg (by rw [e]; decide), if_pos (.inl h)⟩
theorem acq_err (h : godP k a) {e : Int} (he : grwE S k a = e) (h0 : e ≠ 0) : acqE S k a = e ∧ acqO S k a = (0, 0, 0) ∧ acqS S k a = S := by
  have e1 : acqE S k a = e := by unfold acqE; rw [if_neg (fun q => q h), if_pos (by rw [he]; exact h0), he]
  exact ⟨e1, if_neg (by rw [e1]; exact h0), if_pos (.inr (by rw [he]; exact h0))⟩
theorem acq_later (h : godP k a) (he : grwE S k a = 0) (hq : S.q.headD 1 = 2) : acqE S k a = 15 ∧ acqO S k a = (0, 0, 0) ∧ acqS S k a = { S with q := S.q.tail } := by
  have e1 : acqE S k a = 15 := by unfold acqE; rw [if_neg (fun q => q h), if_neg (fun q => q he), if_pos hq]
  refine ⟨e1, if_neg (by rw [e1]; decide), ?_⟩
  unfold acqS
  rw [if_neg (by rintro (q | q); exact q h; exact q he), if_neg (by rw [e1]; decide)]
theorem acq_fail (h : godP k a) (he : grwE S k a = 0) (hq2 : S.q.headD 1 ≠ 2) (hq : S.q.headD 1 = 3) : acqE S k a = 14 ∧ acqO S k a = (0, 0, 0) ∧ acqS S k a = { S with q := S.q.tail } := by
  have e1 : acqE S k a = 14 := by unfold acqE; rw [if_neg (fun q => q h), if_neg (fun q => q he), if_neg hq2, if_pos hq]
  refine ⟨e1, if_neg (by rw [e1]; decide), ?_⟩
  unfold acqS
  rw [if_neg (by rintro (q | q); exact q h; exact q he), if_neg (by rw [e1]; decide)]
theorem acq_ok (h : godP k a) (he : grwE S k a = 0) (hq2 : S.q.headD 1 ≠ 2) (hq : S.q.headD 1 ≠ 3) : acqE S k a = 0 ∧ acqO S k a = nam k (S.tab k) ∧ acqS S k a = ({ S with q := S.q.tail } : Wst).put k (grw (S.tab k) (valO S k a)) := by
  have e1 : acqE S k a = 0 := by unfold acqE; rw [if_neg (fun q => q h), if_neg (fun q => q he), if_neg hq2, if_neg hq]
  refine ⟨e1, if_pos e1, ?_⟩
  unfold acqS
  rw [if_neg (by rintro (q | q); exact q h; exact q he), if_pos e1]
theorem god1 (h : 0 ≤ a ∧ a ≤ 65535) : godP 1 a := .inl ⟨rfl, h.1, h.2⟩
theorem god2 (h : 1 ≤ a ∧ a ≤ 65536) : godP 2 a := .inr (.inl ⟨rfl, h.1, h.2⟩)
theorem god3 (h : 1 ≤ a ∧ a ≤ 1048576) : godP 3 a := .inr (.inr ⟨rfl, h.1, h.2⟩)
theorem god_no1 (h : ¬ (0 ≤ a ∧ a ≤ 65535)) : ¬ godP 1 a := by unfold godP; omega
theorem god_no2 (h : ¬ (1 ≤ a ∧ a ≤ 65536)) : ¬ godP 2 a := by unfold godP; omega
theorem god_no3 (h : ¬ (1 ≤ a ∧ a ≤ 1048576)) : ¬ godP 3 a := by unfold godP; omega
theorem god_no (h : k < 1 ∨ 3 < k) : ¬ godP k a := by unfold godP; omega
/-- The tables' own words for growing. -/
theorem fre_pos' {X : Xs} (h : ¬ fre X = none) : 0 < (inS 0 (As X) 0).length := by
  rcases Nat.eq_zero_or_pos (inS 0 (As X) 0).length with h0 | h0
  · exact absurd (fre_none.2 h0) h
  · exact h0
theorem opn_grw (h : 0 ≤ a ∧ a ≤ 65535) : opnE S.F a = grwE S 1 a ∧ (opnE S.F a = 0 → opnO S.F a = nam 1 S.F ∧ opnX S.F a = grw S.F a) := by
  have e : grwE S 1 a = if fre S.F = none then 4 else 0 := by
    unfold grwE
    rw [if_neg (by rintro ⟨q, _⟩; exact absurd q (by decide)), if_neg (by rintro ⟨q, _⟩; exact absurd q (by decide))]
    rfl
  rw [e]
  by_cases hf : fre S.F = none
  · rw [if_pos hf]
    have h1 := opn_full (X := S.F) h (fre_none.1 hf)
    exact ⟨h1.2.1, fun q => absurd (h1.2.1.symm.trans q) (by decide)⟩
  · rw [if_neg hf]
    have hp := fre_pos (fre_pos' hf)
    have h1 := opn_ok (X := S.F) (v := a) h hp
    refine ⟨h1.2.1, fun _ => ⟨?_, ?_⟩⟩
    · rw [h1.1]; unfold nam; rw [hp]
    · rw [h1.2.2]; unfold grw; rw [hp]
theorem pin_grw (h : 1 ≤ a ∧ a ≤ 65536) : pinE S.B a = grwE S 2 a ∧ (pinE S.B a = 0 → pinO S.B a = nam 2 S.B ∧ pinX S.B a = grw S.B a) := by
  refine ⟨?_, fun q => ⟨if_pos q, if_pos q⟩⟩
  unfold grwE pinE
  by_cases h1 : 1048576 < used S.B + a
  · rw [if_pos h1, if_pos ⟨rfl, h1⟩]
  · rw [if_neg h1, if_neg (fun q => h1 q.2), if_neg (by rintro ⟨q, _⟩; exact absurd q (by decide))]
    rfl
theorem gnt_grw (h : 1 ≤ a ∧ a ≤ 1048576) : gntE S.D a S.now = grwE S 3 a ∧ (gntE S.D a S.now = 0 → gntO S.D a S.now = nam 3 S.D ∧ gntX S.D a S.now = grw S.D (S.now + a)) := by
  refine ⟨?_, fun q => ⟨if_pos q, if_pos q⟩⟩
  have e1 : ¬ ((3 : Int) = 2 ∧ 1048576 < used S.B + a) := fun q => absurd q.1 (by decide)
  by_cases h1 : 1099511627776 - a < S.now
  · exact (if_pos h1 : gntE S.D a S.now = 17).trans ((if_neg e1).trans (if_pos ⟨rfl, h1⟩)).symm
  · exact (if_neg h1 : gntE S.D a S.now = tkE S.D).trans ((if_neg e1).trans (if_neg (fun q => h1 q.2))).symm
theorem acq_ok1 (h : 0 ≤ a ∧ a ≤ 65535) (he : opnE S.F a = 0) (hq2 : S.q.headD 1 ≠ 2) (hq : S.q.headD 1 ≠ 3) : acqE S 1 a = 0 ∧ acqO S 1 a = opnO S.F a ∧ acqS S 1 a = { S with q := S.q.tail, F := opnX S.F a } := by
  obtain ⟨h1, h2⟩ := opn_grw (S := S) h
  obtain ⟨h3, h4⟩ := h2 he
  obtain ⟨h5, h6, h7⟩ := acq_ok (S := S) (god1 h) (h1 ▸ he) hq2 hq
  exact ⟨h5, h6.trans h3.symm, h7.trans (by rw [h4]; rfl)⟩
theorem acq_ok2 (h : 1 ≤ a ∧ a ≤ 65536) (he : pinE S.B a = 0) (hq2 : S.q.headD 1 ≠ 2) (hq : S.q.headD 1 ≠ 3) : acqE S 2 a = 0 ∧ acqO S 2 a = pinO S.B a ∧ acqS S 2 a = { S with q := S.q.tail, B := pinX S.B a } := by
  obtain ⟨h1, h2⟩ := pin_grw (S := S) h
  obtain ⟨h3, h4⟩ := h2 he
  obtain ⟨h5, h6, h7⟩ := acq_ok (S := S) (god2 h) (h1 ▸ he) hq2 hq
  exact ⟨h5, h6.trans h3.symm, h7.trans (by rw [h4]; rfl)⟩
theorem acq_ok3 (h : 1 ≤ a ∧ a ≤ 1048576) (he : gntE S.D a S.now = 0) (hq2 : S.q.headD 1 ≠ 2) (hq : S.q.headD 1 ≠ 3) : acqE S 3 a = 0 ∧ acqO S 3 a = gntO S.D a S.now ∧ acqS S 3 a = { S with q := S.q.tail, D := gntX S.D a S.now } := by
  obtain ⟨h1, h2⟩ := gnt_grw (S := S) h
  obtain ⟨h3, h4⟩ := h2 he
  obtain ⟨h5, h6, h7⟩ := acq_ok (S := S) (god3 h) (h1 ▸ he) hq2 hq
  exact ⟨h5, h6.trans h3.symm, h7.trans (by rw [h4]; rfl)⟩
/-- Releasing. -/
theorem rel_arg (h : ¬ KGood o ∨ wy < 1 ∨ 3 < wy) : relE S o wy = 2 ∧ relA S o wy = 0 ∧ relS S o wy = S := by
  have e : relE S o wy = 2 := if_pos h
  exact ⟨e, if_neg (by rw [e]; decide), if_pos (by rw [e]; decide)⟩
theorem rel_none (h : KGood o) (hw : 1 ≤ wy ∧ wy ≤ 3) (hT : ¬ Thr S o) : relE S o wy = 5 ∧ relA S o wy = 0 ∧ relS S o wy = S := by
  have e : relE S o wy = 5 := by unfold relE; rw [if_neg (by rintro (q | q); exact q h; omega), if_pos hT]
  exact ⟨e, if_neg (by rw [e]; decide), if_pos (by rw [e]; decide)⟩
theorem rel_full (hw : 1 ≤ wy ∧ wy ≤ 3) (hT : Thr S o) (hn : 10000 ≤ S.T.length) : relE S o wy = 4 ∧ relA S o wy = 0 ∧ relS S o wy = S := by
  have e : relE S o wy = 4 := by unfold relE; rw [if_neg (by rintro (q | q); exact q hT.1; omega), if_neg (fun q => q hT), if_pos hn]
  exact ⟨e, if_neg (by rw [e]; decide), if_pos (by rw [e]; decide)⟩
theorem rel_ok (hw : 1 ≤ wy ∧ wy ≤ 3) (hT : Thr S o) (hn : S.T.length < 10000) : relE S o wy = 0 ∧ relA S o wy = S.q.headD 1 ∧ relS S o wy = if S.q.headD 1 = 1 then ({ S with q := S.q.tail, T := S.T ++ [⟨S.now, o, wy, S.q.headD 1⟩] } : Wst).put o.1 (giv (S.tab o.1) o) else { S with q := S.q.tail, T := S.T ++ [⟨S.now, o, wy, S.q.headD 1⟩] } := by
  have e : relE S o wy = 0 := by unfold relE; rw [if_neg (by rintro (q | q); exact q hT.1; omega), if_neg (fun q => q hT), if_neg (by omega)]
  exact ⟨e, if_pos e, if_neg (by rw [e]; decide)⟩
theorem rel_attP (hW : WOk S) (h : KGood o) (hw : 1 ≤ wy ∧ wy ≤ 3) : attP ⟨S.now, o, wy, S.q.headD 1⟩ := by
  have := headD_bd hW.qb
  exact ⟨hW.nl, hW.nh, kgood_iff.2 h, hw.1, hw.2, this.1, this.2⟩
theorem cls_giv (hT : Thr S (1, y, z)) : clsX S.F (1, y, z) = giv S.F (1, y, z) := by
  obtain ⟨hg, h1⟩ := hT
  have h2 : errA (As S.F) (1, y, z) = 0 := chk_ok (As S.F) (q := y.toNat) (s := (1, z)) rfl hg.2.2.2.1 hg.2.2.2.2 (thr_nat hg) h1 ⟨rfl, rfl⟩
  unfold clsX giv
  rw [if_pos h2]
end
end Go.Proofs.YtggfnbpohmhphaaGreatDoor

/- Walks, printed by my generator o12.py. -/
namespace Go.Proofs.YtggfnbpohmhphaaGreatDoor
set_option maxHeartbeats 4000000 in
theorem god_1y (a : Int) (ha : 0 ≤ a ∧ a ≤ 65535) : HT Tryz.prog 68 [iV 1, iV a] [] (fun v K => v = .bool true ∧ K = []) := by
 refine hiS Tryz.func68 Tryz.ntmps68 fun g w0 R h0 => go [.v 3 1 (oT (a ≥ 0)), .v 3 4 (oT (a ≤ 65535))] ?_
 exact en (.bool true) [] ⟨_, _, rfl, ⟨rfl, rfl⟩, h0⟩

set_option maxHeartbeats 4000000 in
theorem god_1n (a : Int) (ha : a < 0 ∨ 65535 < a) : HT Tryz.prog 68 [iV 1, iV a] [] (fun v K => v = .bool false ∧ K = []) := by
 refine hiS Tryz.func68 Tryz.ntmps68 fun g w0 R h0 => go [.s 3 1] ?_
 by_cases c10 : a ≥ 0
 ·
  refine go [.v 3 1 (oT (a ≥ 0)), .v 3 4 (oF (a ≤ 65535))] ?_
  exact en (.bool false) [] ⟨_, _, rfl, ⟨rfl, rfl⟩, h0⟩
 refine go [.v 3 1 (oF (a ≥ 0))] ?_
 exact en (.bool false) [] ⟨_, _, rfl, ⟨rfl, rfl⟩, h0⟩

set_option maxHeartbeats 4000000 in
theorem god_2y (a : Int) (ha : 1 ≤ a ∧ a ≤ 65536) : HT Tryz.prog 68 [iV 2, iV a] [] (fun v K => v = .bool true ∧ K = []) := by
 refine hiS Tryz.func68 Tryz.ntmps68 fun g w0 R h0 => go [.v 5 1 (oT (a ≥ 1)), .v 5 4 (oT (a ≤ 65536))] ?_
 exact en (.bool true) [] ⟨_, _, rfl, ⟨rfl, rfl⟩, h0⟩

set_option maxHeartbeats 4000000 in
theorem god_2n (a : Int) (ha : a < 1 ∨ 65536 < a) : HT Tryz.prog 68 [iV 2, iV a] [] (fun v K => v = .bool false ∧ K = []) := by
 refine hiS Tryz.func68 Tryz.ntmps68 fun g w0 R h0 => go [.s 5 1] ?_
 by_cases c10 : a ≥ 1
 ·
  refine go [.v 5 1 (oT (a ≥ 1)), .v 5 4 (oF (a ≤ 65536))] ?_
  exact en (.bool false) [] ⟨_, _, rfl, ⟨rfl, rfl⟩, h0⟩
 refine go [.v 5 1 (oF (a ≥ 1))] ?_
 exact en (.bool false) [] ⟨_, _, rfl, ⟨rfl, rfl⟩, h0⟩

set_option maxHeartbeats 4000000 in
theorem god_3y (a : Int) (ha : 1 ≤ a ∧ a ≤ 1048576) : HT Tryz.prog 68 [iV 3, iV a] [] (fun v K => v = .bool true ∧ K = []) := by
 refine hiS Tryz.func68 Tryz.ntmps68 fun g w0 R h0 => go [] <| cl0 Tryz.call63 (ospan_y a (by omega)) h0 fun _ h11 => go [] ?_
 exact en (.bool true) [] ⟨_, _, rfl, ⟨rfl, rfl⟩, h11⟩

set_option maxHeartbeats 4000000 in
theorem god_3n (a : Int) (ha : a < 1 ∨ 1048576 < a) : HT Tryz.prog 68 [iV 3, iV a] [] (fun v K => v = .bool false ∧ K = []) := by
 refine hiS Tryz.func68 Tryz.ntmps68 fun g w0 R h0 => go [] ?_
 by_cases c10 : 1 ≤ a
 ·
  refine cl0 Tryz.call63 (ospan_n a (by omega)) h0 fun _ h12 => go [] ?_
  exact en (.bool false) [] ⟨_, _, rfl, ⟨rfl, rfl⟩, h12⟩
 refine cl0 Tryz.call63 (ospan_n a (by omega)) h0 fun _ h14 => go [] ?_
 exact en (.bool false) [] ⟨_, _, rfl, ⟨rfl, rfl⟩, h14⟩

set_option maxHeartbeats 4000000 in
theorem god_0 (k a : Int) (hk : k < 1 ∨ 3 < k) : HT Tryz.prog 68 [iV k, iV a] [] (fun v K => v = .bool false ∧ K = []) := by
 refine hiS Tryz.func68 Tryz.ntmps68 fun g w0 R h0 => go [.v 2 0 (qeF k 1), .v 4 0 (qeF k 2), .v 6 0 (qeF k 3)] ?_
 exact en (.bool false) [] ⟨_, _, rfl, ⟨rfl, rfl⟩, h0⟩

set_option maxHeartbeats 4000000 in
theorem grown_1 (b f p d s l : Nat) (S : Wst) (hW : WOk S) (a : Int) (ha : 0 ≤ a ∧ a ≤ 65535) : HT Tryz.prog 69 [pV b, iV 1, iV a] [Cl b [Value.nilIface, .iface 84 (pV f), .iface 87 (pV p), .iface 90 (pV d), pV s, pV l, iV S.now] 79, Fd f 64 S.F, Pl p S.B, Dk d S.D, Sr 146 s S.q, Lg l S.T] (fun v K => ∃ c : Nat, v = .tuple #[.iface 84 (pV c), .agg #[iV ((opnO S.F a).1), iV ((opnO S.F a).2.1), uV ((opnO S.F a).2.2)], iV ((opnE S.F a))] ∧ K = [Cl b [Value.nilIface, .iface 84 (pV f), .iface 87 (pV p), .iface 90 (pV d), pV s, pV l, iV S.now] 79, Fd f 64 S.F, Pl p S.B, Dk d S.D, Sr 146 s S.q, Lg l S.T, Fd c 64 (opnX S.F a)]) := by
 refine hiS Tryz.func69 Tryz.ntmps69 fun g w0 R h0 => ?_
 have hWn := hW.nl; have hWm := hW.nh; have hWt := hW.tn
 refine go [] <| nP 32 [iV 0, iV 0, uV 0] h0 (fun _ _ h12 => ?_)
 refine go [.s 1 4] <| lwP (.pointer (some ⟨b, 1, none⟩)) (law_indexArr (x := (Operand.tmp 24)) (i := (Operand.tmp 22)) (b := b) (off := 0) (z := 1) (by kernel_rfl) Tryz.underlying76 1 (by kernel_rfl) 1 (by kernel_rfl) (by kernel_rfl) (by omega) (by omega) 1 (by omega) _) ?_
 have h14 := tk8 (sf7 (sf6 (sf6 (sf7 (sf7 (sf7 (sf7 (sf7 h12))))))))
 refine go [rd 1 5 1 1 1 h12] <| cP Tryz.call72 (fcopy_ht f 64 S.F) h14 ?_
 rintro v K _ (⟨b13, rfl, rfl⟩) h16
 have h18 := tk9 (sf8 (sf7 (sf8 (sf8 (sf8 (sf8 (sf8 (sf8 (sf8 (ap2 h16))))))))))
 refine go [] <| cl1 Tryz.call118 (fopen_ht b13 64 S.F a) h18 fun _ h20 => go [] <| nP 32 [iV 0, iV 0, uV 0] h20 (fun _ _ h23 => ?_)
 refine sP [(0, iV ((opnO S.F a).1)), (1, iV ((opnO S.F a).2.1)), (2, uV ((opnO S.F a).2.2))] [iV ((opnO S.F a).1), iV ((opnO S.F a).2.1), uV ((opnO S.F a).2.2)] h23 fun _ h25 => go [] <| dw (fls [0, 1, 2, 3, 4] (Tr.an 5 (Tr.fl 6 Tr.nil))) h25 fun _ h27 => go [.s 6 1] <| lw (.iface 84 (pV b13)) (fun _ => law_mkIface (t := 84) (x := (Operand.tmp 38)) (by kernel_rfl) Tryz.underlying84 rfl (pV b13) (by kernel_rfl) _) ?_
 have h28 := tk10 (sf9 (sf8 (sf8 (sf8 (sf9 (sf9 (sf9 (sf9 (sf9 (sf9 h27))))))))))
 refine go [rd 6 2 0 0 3 h27] <| sG [(0, iV ((opnO S.F a).1)), (1, iV ((opnO S.F a).2.1)), (2, uV ((opnO S.F a).2.2))] [iV ((opnO S.F a).1), iV ((opnO S.F a).2.1), uV ((opnO S.F a).2.2)] h28 fun _ h30 => ⟨kd [], ?_⟩
 refine go [] ?_
 exact en (.tuple #[.iface 84 (pV b13), .agg #[iV ((opnO S.F a).1), iV ((opnO S.F a).2.1), uV ((opnO S.F a).2.2)], iV ((opnE S.F a))]) [rd 0 0 0 0 3 h30] ⟨_, _, rfl, ⟨b13, rfl, rfl⟩, (tk8 (sf7 (sf7 (sf7 (sf7 (sf7 (sf7 (sf7 (sf9 (tk10 (sf9 (sf8 (sf9 (sf9 (sf9 (sf9 (sf3 (sf2 (sf2 (sf9 h30))))))))))))))))))))⟩

set_option maxHeartbeats 4000000 in
theorem grown_2 (b f p d s l : Nat) (S : Wst) (hW : WOk S) (a : Int) (ha : 1 ≤ a ∧ a ≤ 65536) : HT Tryz.prog 69 [pV b, iV 2, iV a] [Cl b [Value.nilIface, .iface 84 (pV f), .iface 87 (pV p), .iface 90 (pV d), pV s, pV l, iV S.now] 79, Fd f 64 S.F, Pl p S.B, Dk d S.D, Sr 146 s S.q, Lg l S.T] (fun v K => ∃ c : Nat, v = .tuple #[.iface 87 (pV c), .agg #[iV ((pinO S.B a).1), iV ((pinO S.B a).2.1), uV ((pinO S.B a).2.2)], iV ((pinE S.B a))] ∧ K = [Cl b [Value.nilIface, .iface 84 (pV f), .iface 87 (pV p), .iface 90 (pV d), pV s, pV l, iV S.now] 79, Fd f 64 S.F, Pl p S.B, Dk d S.D, Sr 146 s S.q, Lg l S.T, Pl c (pinX S.B a)]) := by
 refine hiS Tryz.func69 Tryz.ntmps69 fun g w0 R h0 => ?_
 have hWn := hW.nl; have hWm := hW.nh; have hWt := hW.tn
 refine go [] <| nP 32 [iV 0, iV 0, uV 0] h0 (fun _ _ h12 => ?_)
 refine go [.s 1 4] <| lwP (.pointer (some ⟨b, 2, none⟩)) (law_indexArr (x := (Operand.tmp 24)) (i := (Operand.tmp 22)) (b := b) (off := 0) (z := 2) (by kernel_rfl) Tryz.underlying76 1 (by kernel_rfl) 2 (by kernel_rfl) (by kernel_rfl) (by omega) (by omega) 2 (by omega) _) ?_
 have h14 := tk8 (sf7 (sf6 (sf6 (sf6 (sf7 (sf7 (sf7 (sf7 h12))))))))
 refine go [rd 1 5 1 2 1 h12] <| cP Tryz.call73 (pcopy_ht p S.B) h14 ?_
 rintro v K _ (⟨b13, rfl, rfl⟩) h16
 have h18 := tk9 (sf8 (sf7 (sf8 (sf8 (sf8 (sf8 (sf8 (sf8 (sf8 (ap2 h16))))))))))
 refine go [] <| cl1 Tryz.call119 (pin_ht b13 S.B a (by omega)) h18 fun _ h20 => go [] <| nP 32 [iV 0, iV 0, uV 0] h20 (fun _ _ h23 => ?_)
 refine sP [(0, iV ((pinO S.B a).1)), (1, iV ((pinO S.B a).2.1)), (2, uV ((pinO S.B a).2.2))] [iV ((pinO S.B a).1), iV ((pinO S.B a).2.1), uV ((pinO S.B a).2.2)] h23 fun _ h25 => go [] <| dw (fls [0, 1, 2, 3, 4] (Tr.an 5 (Tr.fl 6 Tr.nil))) h25 fun _ h27 => go [.s 11 1] <| lw (.iface 87 (pV b13)) (fun _ => law_mkIface (t := 87) (x := (Operand.tmp 53)) (by kernel_rfl) Tryz.underlying87 rfl (pV b13) (by kernel_rfl) _) ?_
 have h28 := tk10 (sf9 (sf8 (sf8 (sf8 (sf9 (sf9 (sf9 (sf9 (sf9 (sf9 h27))))))))))
 refine go [rd 11 2 0 0 3 h27] <| sG [(0, iV ((pinO S.B a).1)), (1, iV ((pinO S.B a).2.1)), (2, uV ((pinO S.B a).2.2))] [iV ((pinO S.B a).1), iV ((pinO S.B a).2.1), uV ((pinO S.B a).2.2)] h28 fun _ h30 => ⟨kd [], ?_⟩
 refine go [] ?_
 exact en (.tuple #[.iface 87 (pV b13), .agg #[iV ((pinO S.B a).1), iV ((pinO S.B a).2.1), uV ((pinO S.B a).2.2)], iV ((pinE S.B a))]) [rd 0 0 0 0 3 h30] ⟨_, _, rfl, ⟨b13, rfl, rfl⟩, (tk8 (sf7 (sf7 (sf7 (sf7 (sf7 (sf7 (sf7 (sf9 (tk10 (sf9 (sf9 (sf7 (sf9 (sf9 (sf9 (sf3 (sf2 (sf2 (sf9 h30))))))))))))))))))))⟩

set_option maxHeartbeats 4000000 in
theorem grown_3 (b f p d s l : Nat) (S : Wst) (hW : WOk S) (a : Int) (ha : 1 ≤ a ∧ a ≤ 1048576) : HT Tryz.prog 69 [pV b, iV 3, iV a] [Cl b [Value.nilIface, .iface 84 (pV f), .iface 87 (pV p), .iface 90 (pV d), pV s, pV l, iV S.now] 79, Fd f 64 S.F, Pl p S.B, Dk d S.D, Sr 146 s S.q, Lg l S.T] (fun v K => ∃ c : Nat, v = .tuple #[.iface 90 (pV c), .agg #[iV ((gntO S.D a S.now).1), iV ((gntO S.D a S.now).2.1), uV ((gntO S.D a S.now).2.2)], iV ((gntE S.D a S.now))] ∧ K = [Cl b [Value.nilIface, .iface 84 (pV f), .iface 87 (pV p), .iface 90 (pV d), pV s, pV l, iV S.now] 79, Fd f 64 S.F, Pl p S.B, Dk d S.D, Sr 146 s S.q, Lg l S.T, Dk c (gntX S.D a S.now)]) := by
 refine hiS Tryz.func69 Tryz.ntmps69 fun g w0 R h0 => ?_
 have hWn := hW.nl; have hWm := hW.nh; have hWt := hW.tn
 refine go [] <| nP 32 [iV 0, iV 0, uV 0] h0 (fun _ _ h12 => ?_)
 refine go [.s 1 4] <| lwP (.pointer (some ⟨b, 3, none⟩)) (law_indexArr (x := (Operand.tmp 24)) (i := (Operand.tmp 22)) (b := b) (off := 0) (z := 3) (by kernel_rfl) Tryz.underlying76 1 (by kernel_rfl) 3 (by kernel_rfl) (by kernel_rfl) (by omega) (by omega) 3 (by omega) _) ?_
 have h14 := tk8 (sf7 (sf6 (sf6 (sf6 (sf6 (sf7 (sf7 (sf7 h12))))))))
 refine go [rd 1 5 1 3 1 h12] <| cP Tryz.call74 (lcopy_ht d S.D) h14 ?_
 rintro v K _ (⟨b13, rfl, rfl⟩) h16
 have h17 := ap2 h16
 have h18 := tk9 (sf8 (sf7 (sf8 (sf8 (sf8 (sf8 (sf8 (sf8 (sf8 h17)))))))))
 refine go [rd 15 5 3 6 1 h17] <| cl1 Tryz.call120 (grant_ht b13 S.D a S.now (by omega) (by omega)) h18 fun _ h20 => go [] <| nP 32 [iV 0, iV 0, uV 0] h20 (fun _ _ h23 => ?_)
 refine sP [(0, iV ((gntO S.D a S.now).1)), (1, iV ((gntO S.D a S.now).2.1)), (2, uV ((gntO S.D a S.now).2.2))] [iV ((gntO S.D a S.now).1), iV ((gntO S.D a S.now).2.1), uV ((gntO S.D a S.now).2.2)] h23 fun _ h25 => go [] <| dw (fls [0, 1, 2, 3, 4] (Tr.an 5 (Tr.fl 6 Tr.nil))) h25 fun _ h27 => go [.s 16 1] <| lw (.iface 90 (pV b13)) (fun _ => law_mkIface (t := 90) (x := (Operand.tmp 72)) (by kernel_rfl) Tryz.underlying90 rfl (pV b13) (by kernel_rfl) _) ?_
 have h28 := tk10 (sf9 (sf8 (sf8 (sf8 (sf9 (sf9 (sf9 (sf9 (sf9 (sf9 h27))))))))))
 refine go [rd 16 2 0 0 3 h27] <| sG [(0, iV ((gntO S.D a S.now).1)), (1, iV ((gntO S.D a S.now).2.1)), (2, uV ((gntO S.D a S.now).2.2))] [iV ((gntO S.D a S.now).1), iV ((gntO S.D a S.now).2.1), uV ((gntO S.D a S.now).2.2)] h28 fun _ h30 => ⟨kd [], ?_⟩
 refine go [] ?_
 exact en (.tuple #[.iface 90 (pV b13), .agg #[iV ((gntO S.D a S.now).1), iV ((gntO S.D a S.now).2.1), uV ((gntO S.D a S.now).2.2)], iV ((gntE S.D a S.now))]) [rd 0 0 0 0 3 h30] ⟨_, _, rfl, ⟨b13, rfl, rfl⟩, (tk8 (sf7 (sf7 (sf7 (sf7 (sf7 (sf7 (sf7 (sf9 (tk10 (sf9 (sf9 (sf9 (sf6 (sf9 (sf9 (sf3 (sf2 (sf2 (sf9 h30))))))))))))))))))))⟩

set_option maxHeartbeats 4000000 in
theorem wacq_1 (b : Nat) (S : Wst) (a : Int) (ha : 0 ≤ a ∧ a ≤ 65535) : HT Tryz.prog 28 [pV b, iV 1, iV a] [Wd b S] (fun v K => v = .tuple #[.agg #[iV (acqO S 1 a).1, iV (acqO S 1 a).2.1, uV (acqO S 1 a).2.2], iV (acqE S 1 a)] ∧ K = [Wd b (acqS S 1 a)]) := by
 refine hiS Tryz.func28 Tryz.ntmps28 fun g w0 R h0 => ?_
 obtain ⟨f10, p11, d12, s13, l14, hW15, h16⟩ := wd_open h0
 have hW15n := hW15.nl; have hW15m := hW15.nh; have hW15t := hW15.tn
 refine go [] <| nP 32 [iV 0, iV 0, uV 0] h16 (fun r17 _ h19 => ?_)
 have h20 := tk8 (sf7 (sf6 (sf7 (sf7 (sf7 (sf7 (sf7 (sf7 h19))))))))
 refine go [] <| cl1 Tryz.call56 (wvalid_cl b l14 Value.nilIface (.iface 84 (pV f10)) (.iface 87 (pV p11)) (.iface 90 (pV d12)) (pV s13) (iV S.now)) h20 fun _ h22 => go [] <| cl0 Tryz.call68 (god_1y a (by omega)) h22 fun _ h24 => ?_
 have h26 := tk8 (sf7 (sf7 (sf7 (sf7 (sf7 (sf7 (sf2 (sf7 h24))))))))
 refine go [] <| cP Tryz.call69 (grown_1 b f10 p11 d12 s13 l14 S hW15 a (by omega)) h26 ?_
 rintro v K _ (⟨c25, rfl, rfl⟩) h28
 have h29 := ap7 h28
 refine go [] <| nP 32 [iV 0, iV 0, uV 0] h29 (fun r30 _ h32 => ?_)
 refine go [] <| sP [(0, iV ((opnO S.F a).1)), (1, iV ((opnO S.F a).2.1)), (2, uV ((opnO S.F a).2.2))] [iV ((opnO S.F a).1), iV ((opnO S.F a).2.1), uV ((opnO S.F a).2.2)] h32 fun _ h34 => go [.s 6 1] ?_
 by_cases c35 : (opnE S.F a) = 0
 ·
  have h36 := tk10 (sf9 (sf8 (sf8 (sf8 (sf8 (sf8 (sf9 (sf9 (sf9 (sf9 h34))))))))))
  refine go [.v 6 1 (qnF ((opnE S.F a)) 0), rd 8 3 1 4 1 h34] <| cl1 Tryz.call65 (next_ht s13 S.q) h36 fun _ h38 => go [.s 9 0] ?_
  by_cases c39 : (S.q.headD 1) = 2
  ·
   have h40 := tk10 (sf9 (sf8 (sf8 (sf8 (sf8 (sf8 (sf8 (sf8 (sf8 (sf9 h38))))))))))
   refine go [.v 9 0 (qeT ((S.q.headD 1)) 2)] <| sP [(0, iV 0), (1, iV 0), (2, uV 0)] [iV 0, iV 0, uV 0] h40 fun w41 h42 => go [] ?_
   have hp_ := acq_later (S := S) (god1 ha) ((opn_grw (S := S) ha).1.symm.trans (by omega)) (by omega)
   have h43 := tk10 (sf9 (sf9 (sf9 (sf9 (sf5 (sf9 (sf3 (sf4 (sf9 (sf9 h42))))))))))
   have h44 : sat g w41 [Wd b ({ S with q := S.q.tail } : Wst), Cl r17 [iV 0, iV 0, uV 0] 32, Cl r30 [iV ((opnO S.F a).1), iV ((opnO S.F a).2.1), uV ((opnO S.F a).2.2)] 32, Fd c25 64 (opnX S.F a), R] := wd_close (hp_.2.2 ▸ wok_acq hW15 1 a) h43
   exact en (.tuple #[.agg #[iV 0, iV 0, uV 0], iV 15]) [rd 0 0 0 0 3 h42] ⟨_, [Wd b ({ S with q := S.q.tail } : Wst)], rfl, ⟨by rw [hp_.1, hp_.2.1], by rw [hp_.2.2]⟩, (tk2 (sf1 (sf4 h44)))⟩
  refine go [.v 9 0 (qeF ((S.q.headD 1)) 2), .s 11 0] ?_
  by_cases c46 : (S.q.headD 1) = 3
  ·
   have h47 := tk10 (sf9 (sf8 (sf8 (sf8 (sf8 (sf8 (sf8 (sf8 (sf8 (sf9 h38))))))))))
   refine go [.v 11 0 (qeT ((S.q.headD 1)) 3)] <| sP [(0, iV 0), (1, iV 0), (2, uV 0)] [iV 0, iV 0, uV 0] h47 fun w48 h49 => go [] ?_
   have hp_ := acq_fail (S := S) (god1 ha) ((opn_grw (S := S) ha).1.symm.trans (by omega)) (by omega) (by omega)
   have h50 := tk10 (sf9 (sf9 (sf9 (sf9 (sf5 (sf9 (sf3 (sf4 (sf9 (sf9 h49))))))))))
   have h51 : sat g w48 [Wd b ({ S with q := S.q.tail } : Wst), Cl r17 [iV 0, iV 0, uV 0] 32, Cl r30 [iV ((opnO S.F a).1), iV ((opnO S.F a).2.1), uV ((opnO S.F a).2.2)] 32, Fd c25 64 (opnX S.F a), R] := wd_close (hp_.2.2 ▸ wok_acq hW15 1 a) h50
   exact en (.tuple #[.agg #[iV 0, iV 0, uV 0], iV 14]) [rd 0 0 0 0 3 h49] ⟨_, [Wd b ({ S with q := S.q.tail } : Wst)], rfl, ⟨by rw [hp_.1, hp_.2.1], by rw [hp_.2.2]⟩, (tk2 (sf1 (sf4 h51)))⟩
  refine go [.v 11 0 (qeF ((S.q.headD 1)) 3), .s 13 5] <| lwP (.pointer (some ⟨b, 1, none⟩)) (law_indexArr (x := (Operand.tmp 49)) (i := (Operand.tmp 46)) (b := b) (off := 0) (z := 1) (by kernel_rfl) Tryz.underlying76 1 (by kernel_rfl) 1 (by kernel_rfl) (by kernel_rfl) (by omega) (by omega) 1 (by omega) _) <| sP [(1, .iface 84 (pV c25))] [Value.nilIface, .iface 84 (pV c25), .iface 87 (pV p11), .iface 90 (pV d12), pV s13, pV l14, iV S.now] (tk10 (sf9 (sf8 (sf8 (sf9 (sf9 (sf9 (sf9 (sf9 (sf9 (sf9 h38))))))))))) fun _ h55 => ?_
  have h56 := tk10 (sf9 (sf8 (sf8 (sf8 (sf8 (sf8 (sf8 (sf8 (sf8 (sf9 h55))))))))))
  refine go [rd 14 0 2 0 3 h55] <| sP [(0, iV ((opnO S.F a).1)), (1, iV ((opnO S.F a).2.1)), (2, uV ((opnO S.F a).2.2))] [iV ((opnO S.F a).1), iV ((opnO S.F a).2.1), uV ((opnO S.F a).2.2)] h56 fun w57 h58 => go [] ?_
  have hp_ := acq_ok1 (S := S) ha (by omega) (by omega) (by omega)
  have h59 := tk10 (sf9 (sf9 (sf8 (sf8 (sf6 (sf8 (sf3 (sf5 (sf5 (sf9 h58))))))))))
  have h60 : sat g w57 [Wd b ({ S with q := S.q.tail, F := opnX S.F a } : Wst), Cl r17 [iV ((opnO S.F a).1), iV ((opnO S.F a).2.1), uV ((opnO S.F a).2.2)] 32, Cl r30 [iV ((opnO S.F a).1), iV ((opnO S.F a).2.1), uV ((opnO S.F a).2.2)] 32, Fd f10 64 S.F, R] := wd_close (hp_.2.2 ▸ wok_acq hW15 1 a) h59
  exact en (.tuple #[.agg #[iV ((opnO S.F a).1), iV ((opnO S.F a).2.1), uV ((opnO S.F a).2.2)], iV 0]) [rd 0 0 0 0 3 h58] ⟨_, [Wd b ({ S with q := S.q.tail, F := opnX S.F a } : Wst)], rfl, ⟨by rw [hp_.1, hp_.2.1], by rw [hp_.2.2]⟩, (tk2 (sf1 (sf4 h60)))⟩
 have h62 := tk10 (sf9 (sf8 (sf8 (sf8 (sf8 (sf8 (sf8 (sf8 (sf8 (sf9 h34))))))))))
 refine go [.v 6 1 (qnT ((opnE S.F a)) 0)] <| sP [(0, iV 0), (1, iV 0), (2, uV 0)] [iV 0, iV 0, uV 0] h62 fun w63 h64 => go [] ?_
 have hp_ := acq_err (S := S) (god1 ha) (opn_grw (S := S) ha).1.symm (by omega)
 have h66 : sat g w63 [Wd b S, Cl r17 [iV 0, iV 0, uV 0] 32, Cl r30 [iV ((opnO S.F a).1), iV ((opnO S.F a).2.1), uV ((opnO S.F a).2.2)] 32, Fd c25 64 (opnX S.F a), R] := wd_close hW15 (tk10 (sf9 (sf9 (sf9 (sf9 (sf9 (sf9 (sf3 (sf3 (sf9 (sf9 h64)))))))))))
 exact en (.tuple #[.agg #[iV 0, iV 0, uV 0], iV ((opnE S.F a))]) [rd 0 0 0 0 3 h64] ⟨_, [Wd b S], rfl, ⟨by rw [hp_.1, hp_.2.1], by rw [hp_.2.2]⟩, (tk2 (sf1 (sf4 h66)))⟩

set_option maxHeartbeats 4000000 in
theorem wacq_1n (b : Nat) (S : Wst) (a : Int) (ha : a < 0 ∨ 65535 < a) (hng : ¬ godP 1 a) : HT Tryz.prog 28 [pV b, iV 1, iV a] [Wd b S] (fun v K => v = .tuple #[.agg #[iV (acqO S 1 a).1, iV (acqO S 1 a).2.1, uV (acqO S 1 a).2.2], iV (acqE S 1 a)] ∧ K = [Wd b (acqS S 1 a)]) := by
 refine hiS Tryz.func28 Tryz.ntmps28 fun g w0 R h0 => ?_
 obtain ⟨f10, p11, d12, s13, l14, hW15, h16⟩ := wd_open h0
 have hW15n := hW15.nl; have hW15m := hW15.nh; have hW15t := hW15.tn
 refine go [] <| nP 32 [iV 0, iV 0, uV 0] h16 (fun r17 _ h19 => ?_)
 have h20 := tk8 (sf7 (sf6 (sf7 (sf7 (sf7 (sf7 (sf7 (sf7 h19))))))))
 refine go [] <| cl1 Tryz.call56 (wvalid_cl b l14 Value.nilIface (.iface 84 (pV f10)) (.iface 87 (pV p11)) (.iface 90 (pV d12)) (pV s13) (iV S.now)) h20 fun _ h22 => go [] ?_
 by_cases c23 : 0 ≤ a
 ·
  refine cl0 Tryz.call68 (god_1n a (by omega)) h22 fun _ h25 => ?_
  have h26 := tk8 (sf7 (sf6 (sf7 (sf7 (sf7 (sf7 (sf7 (sf7 h25))))))))
  refine go [] <| sP [(0, iV 0), (1, iV 0), (2, uV 0)] [iV 0, iV 0, uV 0] h26 fun w27 h28 => go [] ?_
  have hp_ := acq_arg (S := S) (k := 1) (a := a) hng
  have h30 : sat g w27 [Wd b S, Cl r17 [iV 0, iV 0, uV 0] 32, R] := wd_close hW15 (tk8 (sf7 (sf7 (sf7 (sf7 (sf7 (sf7 (sf1 (sf7 h28)))))))))
  exact en (.tuple #[.agg #[iV 0, iV 0, uV 0], iV 2]) [rd 0 0 0 0 3 h28] ⟨_, [Wd b S], rfl, ⟨by rw [hp_.1, hp_.2.1], by rw [hp_.2.2]⟩, (tk2 (sf1 (sf2 h30)))⟩
 refine cl0 Tryz.call68 (god_1n a (by omega)) h22 fun _ h33 => ?_
 have h34 := tk8 (sf7 (sf6 (sf7 (sf7 (sf7 (sf7 (sf7 (sf7 h33))))))))
 refine go [] <| sP [(0, iV 0), (1, iV 0), (2, uV 0)] [iV 0, iV 0, uV 0] h34 fun w35 h36 => go [] ?_
 have hp_ := acq_arg (S := S) (k := 1) (a := a) hng
 have h38 : sat g w35 [Wd b S, Cl r17 [iV 0, iV 0, uV 0] 32, R] := wd_close hW15 (tk8 (sf7 (sf7 (sf7 (sf7 (sf7 (sf7 (sf1 (sf7 h36)))))))))
 exact en (.tuple #[.agg #[iV 0, iV 0, uV 0], iV 2]) [rd 0 0 0 0 3 h36] ⟨_, [Wd b S], rfl, ⟨by rw [hp_.1, hp_.2.1], by rw [hp_.2.2]⟩, (tk2 (sf1 (sf2 h38)))⟩

set_option maxHeartbeats 4000000 in
theorem wacq_2 (b : Nat) (S : Wst) (a : Int) (ha : 1 ≤ a ∧ a ≤ 65536) : HT Tryz.prog 28 [pV b, iV 2, iV a] [Wd b S] (fun v K => v = .tuple #[.agg #[iV (acqO S 2 a).1, iV (acqO S 2 a).2.1, uV (acqO S 2 a).2.2], iV (acqE S 2 a)] ∧ K = [Wd b (acqS S 2 a)]) := by
 refine hiS Tryz.func28 Tryz.ntmps28 fun g w0 R h0 => ?_
 obtain ⟨f10, p11, d12, s13, l14, hW15, h16⟩ := wd_open h0
 have hW15n := hW15.nl; have hW15m := hW15.nh; have hW15t := hW15.tn
 refine go [] <| nP 32 [iV 0, iV 0, uV 0] h16 (fun r17 _ h19 => ?_)
 have h20 := tk8 (sf7 (sf6 (sf7 (sf7 (sf7 (sf7 (sf7 (sf7 h19))))))))
 refine go [] <| cl1 Tryz.call56 (wvalid_cl b l14 Value.nilIface (.iface 84 (pV f10)) (.iface 87 (pV p11)) (.iface 90 (pV d12)) (pV s13) (iV S.now)) h20 fun _ h22 => go [] <| cl0 Tryz.call68 (god_2y a (by omega)) h22 fun _ h24 => ?_
 have h26 := tk8 (sf7 (sf7 (sf7 (sf7 (sf7 (sf7 (sf2 (sf7 h24))))))))
 refine go [] <| cP Tryz.call69 (grown_2 b f10 p11 d12 s13 l14 S hW15 a (by omega)) h26 ?_
 rintro v K _ (⟨c25, rfl, rfl⟩) h28
 have h29 := ap7 h28
 refine go [] <| nP 32 [iV 0, iV 0, uV 0] h29 (fun r30 _ h32 => ?_)
 refine go [] <| sP [(0, iV ((pinO S.B a).1)), (1, iV ((pinO S.B a).2.1)), (2, uV ((pinO S.B a).2.2))] [iV ((pinO S.B a).1), iV ((pinO S.B a).2.1), uV ((pinO S.B a).2.2)] h32 fun _ h34 => go [.s 6 1] ?_
 by_cases c35 : (pinE S.B a) = 0
 ·
  have h36 := tk10 (sf9 (sf8 (sf8 (sf8 (sf8 (sf8 (sf9 (sf9 (sf9 (sf9 h34))))))))))
  refine go [.v 6 1 (qnF ((pinE S.B a)) 0), rd 8 3 1 4 1 h34] <| cl1 Tryz.call65 (next_ht s13 S.q) h36 fun _ h38 => go [.s 9 0] ?_
  by_cases c39 : (S.q.headD 1) = 2
  ·
   have h40 := tk10 (sf9 (sf8 (sf8 (sf8 (sf8 (sf8 (sf8 (sf8 (sf8 (sf9 h38))))))))))
   refine go [.v 9 0 (qeT ((S.q.headD 1)) 2)] <| sP [(0, iV 0), (1, iV 0), (2, uV 0)] [iV 0, iV 0, uV 0] h40 fun w41 h42 => go [] ?_
   have hp_ := acq_later (S := S) (god2 ha) ((pin_grw (S := S) ha).1.symm.trans (by omega)) (by omega)
   have h43 := tk10 (sf9 (sf9 (sf9 (sf9 (sf5 (sf9 (sf3 (sf4 (sf9 (sf9 h42))))))))))
   have h44 : sat g w41 [Wd b ({ S with q := S.q.tail } : Wst), Cl r17 [iV 0, iV 0, uV 0] 32, Cl r30 [iV ((pinO S.B a).1), iV ((pinO S.B a).2.1), uV ((pinO S.B a).2.2)] 32, Pl c25 (pinX S.B a), R] := wd_close (hp_.2.2 ▸ wok_acq hW15 2 a) h43
   exact en (.tuple #[.agg #[iV 0, iV 0, uV 0], iV 15]) [rd 0 0 0 0 3 h42] ⟨_, [Wd b ({ S with q := S.q.tail } : Wst)], rfl, ⟨by rw [hp_.1, hp_.2.1], by rw [hp_.2.2]⟩, (tk2 (sf1 (sf4 h44)))⟩
  refine go [.v 9 0 (qeF ((S.q.headD 1)) 2), .s 11 0] ?_
  by_cases c46 : (S.q.headD 1) = 3
  ·
   have h47 := tk10 (sf9 (sf8 (sf8 (sf8 (sf8 (sf8 (sf8 (sf8 (sf8 (sf9 h38))))))))))
   refine go [.v 11 0 (qeT ((S.q.headD 1)) 3)] <| sP [(0, iV 0), (1, iV 0), (2, uV 0)] [iV 0, iV 0, uV 0] h47 fun w48 h49 => go [] ?_
   have hp_ := acq_fail (S := S) (god2 ha) ((pin_grw (S := S) ha).1.symm.trans (by omega)) (by omega) (by omega)
   have h50 := tk10 (sf9 (sf9 (sf9 (sf9 (sf5 (sf9 (sf3 (sf4 (sf9 (sf9 h49))))))))))
   have h51 : sat g w48 [Wd b ({ S with q := S.q.tail } : Wst), Cl r17 [iV 0, iV 0, uV 0] 32, Cl r30 [iV ((pinO S.B a).1), iV ((pinO S.B a).2.1), uV ((pinO S.B a).2.2)] 32, Pl c25 (pinX S.B a), R] := wd_close (hp_.2.2 ▸ wok_acq hW15 2 a) h50
   exact en (.tuple #[.agg #[iV 0, iV 0, uV 0], iV 14]) [rd 0 0 0 0 3 h49] ⟨_, [Wd b ({ S with q := S.q.tail } : Wst)], rfl, ⟨by rw [hp_.1, hp_.2.1], by rw [hp_.2.2]⟩, (tk2 (sf1 (sf4 h51)))⟩
  refine go [.v 11 0 (qeF ((S.q.headD 1)) 3), .s 13 5] <| lwP (.pointer (some ⟨b, 2, none⟩)) (law_indexArr (x := (Operand.tmp 49)) (i := (Operand.tmp 46)) (b := b) (off := 0) (z := 2) (by kernel_rfl) Tryz.underlying76 1 (by kernel_rfl) 2 (by kernel_rfl) (by kernel_rfl) (by omega) (by omega) 2 (by omega) _) <| sP [(2, .iface 87 (pV c25))] [Value.nilIface, .iface 84 (pV f10), .iface 87 (pV c25), .iface 90 (pV d12), pV s13, pV l14, iV S.now] (tk10 (sf9 (sf8 (sf8 (sf9 (sf9 (sf9 (sf9 (sf9 (sf9 (sf9 h38))))))))))) fun _ h55 => ?_
  have h56 := tk10 (sf9 (sf8 (sf8 (sf8 (sf8 (sf8 (sf8 (sf8 (sf8 (sf9 h55))))))))))
  refine go [rd 14 0 2 0 3 h55] <| sP [(0, iV ((pinO S.B a).1)), (1, iV ((pinO S.B a).2.1)), (2, uV ((pinO S.B a).2.2))] [iV ((pinO S.B a).1), iV ((pinO S.B a).2.1), uV ((pinO S.B a).2.2)] h56 fun w57 h58 => go [] ?_
  have hp_ := acq_ok2 (S := S) ha (by omega) (by omega) (by omega)
  have h59 := tk10 (sf9 (sf9 (sf9 (sf8 (sf6 (sf8 (sf3 (sf5 (sf6 (sf9 h58))))))))))
  have h60 : sat g w57 [Wd b ({ S with q := S.q.tail, B := pinX S.B a } : Wst), Cl r17 [iV ((pinO S.B a).1), iV ((pinO S.B a).2.1), uV ((pinO S.B a).2.2)] 32, Cl r30 [iV ((pinO S.B a).1), iV ((pinO S.B a).2.1), uV ((pinO S.B a).2.2)] 32, Pl p11 S.B, R] := wd_close (hp_.2.2 ▸ wok_acq hW15 2 a) h59
  exact en (.tuple #[.agg #[iV ((pinO S.B a).1), iV ((pinO S.B a).2.1), uV ((pinO S.B a).2.2)], iV 0]) [rd 0 0 0 0 3 h58] ⟨_, [Wd b ({ S with q := S.q.tail, B := pinX S.B a } : Wst)], rfl, ⟨by rw [hp_.1, hp_.2.1], by rw [hp_.2.2]⟩, (tk2 (sf1 (sf4 h60)))⟩
 have h62 := tk10 (sf9 (sf8 (sf8 (sf8 (sf8 (sf8 (sf8 (sf8 (sf8 (sf9 h34))))))))))
 refine go [.v 6 1 (qnT ((pinE S.B a)) 0)] <| sP [(0, iV 0), (1, iV 0), (2, uV 0)] [iV 0, iV 0, uV 0] h62 fun w63 h64 => go [] ?_
 have hp_ := acq_err (S := S) (god2 ha) (pin_grw (S := S) ha).1.symm (by omega)
 have h66 : sat g w63 [Wd b S, Cl r17 [iV 0, iV 0, uV 0] 32, Cl r30 [iV ((pinO S.B a).1), iV ((pinO S.B a).2.1), uV ((pinO S.B a).2.2)] 32, Pl c25 (pinX S.B a), R] := wd_close hW15 (tk10 (sf9 (sf9 (sf9 (sf9 (sf9 (sf9 (sf3 (sf3 (sf9 (sf9 h64)))))))))))
 exact en (.tuple #[.agg #[iV 0, iV 0, uV 0], iV ((pinE S.B a))]) [rd 0 0 0 0 3 h64] ⟨_, [Wd b S], rfl, ⟨by rw [hp_.1, hp_.2.1], by rw [hp_.2.2]⟩, (tk2 (sf1 (sf4 h66)))⟩

set_option maxHeartbeats 4000000 in
theorem wacq_2n (b : Nat) (S : Wst) (a : Int) (ha : a < 1 ∨ 65536 < a) (hng : ¬ godP 2 a) : HT Tryz.prog 28 [pV b, iV 2, iV a] [Wd b S] (fun v K => v = .tuple #[.agg #[iV (acqO S 2 a).1, iV (acqO S 2 a).2.1, uV (acqO S 2 a).2.2], iV (acqE S 2 a)] ∧ K = [Wd b (acqS S 2 a)]) := by
 refine hiS Tryz.func28 Tryz.ntmps28 fun g w0 R h0 => ?_
 obtain ⟨f10, p11, d12, s13, l14, hW15, h16⟩ := wd_open h0
 have hW15n := hW15.nl; have hW15m := hW15.nh; have hW15t := hW15.tn
 refine go [] <| nP 32 [iV 0, iV 0, uV 0] h16 (fun r17 _ h19 => ?_)
 have h20 := tk8 (sf7 (sf6 (sf7 (sf7 (sf7 (sf7 (sf7 (sf7 h19))))))))
 refine go [] <| cl1 Tryz.call56 (wvalid_cl b l14 Value.nilIface (.iface 84 (pV f10)) (.iface 87 (pV p11)) (.iface 90 (pV d12)) (pV s13) (iV S.now)) h20 fun _ h22 => go [] ?_
 by_cases c23 : 1 ≤ a
 ·
  refine cl0 Tryz.call68 (god_2n a (by omega)) h22 fun _ h25 => ?_
  have h26 := tk8 (sf7 (sf6 (sf7 (sf7 (sf7 (sf7 (sf7 (sf7 h25))))))))
  refine go [] <| sP [(0, iV 0), (1, iV 0), (2, uV 0)] [iV 0, iV 0, uV 0] h26 fun w27 h28 => go [] ?_
  have hp_ := acq_arg (S := S) (k := 2) (a := a) hng
  have h30 : sat g w27 [Wd b S, Cl r17 [iV 0, iV 0, uV 0] 32, R] := wd_close hW15 (tk8 (sf7 (sf7 (sf7 (sf7 (sf7 (sf7 (sf1 (sf7 h28)))))))))
  exact en (.tuple #[.agg #[iV 0, iV 0, uV 0], iV 2]) [rd 0 0 0 0 3 h28] ⟨_, [Wd b S], rfl, ⟨by rw [hp_.1, hp_.2.1], by rw [hp_.2.2]⟩, (tk2 (sf1 (sf2 h30)))⟩
 refine cl0 Tryz.call68 (god_2n a (by omega)) h22 fun _ h33 => ?_
 have h34 := tk8 (sf7 (sf6 (sf7 (sf7 (sf7 (sf7 (sf7 (sf7 h33))))))))
 refine go [] <| sP [(0, iV 0), (1, iV 0), (2, uV 0)] [iV 0, iV 0, uV 0] h34 fun w35 h36 => go [] ?_
 have hp_ := acq_arg (S := S) (k := 2) (a := a) hng
 have h38 : sat g w35 [Wd b S, Cl r17 [iV 0, iV 0, uV 0] 32, R] := wd_close hW15 (tk8 (sf7 (sf7 (sf7 (sf7 (sf7 (sf7 (sf1 (sf7 h36)))))))))
 exact en (.tuple #[.agg #[iV 0, iV 0, uV 0], iV 2]) [rd 0 0 0 0 3 h36] ⟨_, [Wd b S], rfl, ⟨by rw [hp_.1, hp_.2.1], by rw [hp_.2.2]⟩, (tk2 (sf1 (sf2 h38)))⟩

set_option maxHeartbeats 4000000 in
theorem wacq_3 (b : Nat) (S : Wst) (a : Int) (ha : 1 ≤ a ∧ a ≤ 1048576) : HT Tryz.prog 28 [pV b, iV 3, iV a] [Wd b S] (fun v K => v = .tuple #[.agg #[iV (acqO S 3 a).1, iV (acqO S 3 a).2.1, uV (acqO S 3 a).2.2], iV (acqE S 3 a)] ∧ K = [Wd b (acqS S 3 a)]) := by
 refine hiS Tryz.func28 Tryz.ntmps28 fun g w0 R h0 => ?_
 obtain ⟨f10, p11, d12, s13, l14, hW15, h16⟩ := wd_open h0
 have hW15n := hW15.nl; have hW15m := hW15.nh; have hW15t := hW15.tn
 refine go [] <| nP 32 [iV 0, iV 0, uV 0] h16 (fun r17 _ h19 => ?_)
 have h20 := tk8 (sf7 (sf6 (sf7 (sf7 (sf7 (sf7 (sf7 (sf7 h19))))))))
 refine go [] <| cl1 Tryz.call56 (wvalid_cl b l14 Value.nilIface (.iface 84 (pV f10)) (.iface 87 (pV p11)) (.iface 90 (pV d12)) (pV s13) (iV S.now)) h20 fun _ h22 => go [] <| cl0 Tryz.call68 (god_3y a (by omega)) h22 fun _ h24 => ?_
 have h26 := tk8 (sf7 (sf7 (sf7 (sf7 (sf7 (sf7 (sf2 (sf7 h24))))))))
 refine go [] <| cP Tryz.call69 (grown_3 b f10 p11 d12 s13 l14 S hW15 a (by omega)) h26 ?_
 rintro v K _ (⟨c25, rfl, rfl⟩) h28
 have h29 := ap7 h28
 refine go [] <| nP 32 [iV 0, iV 0, uV 0] h29 (fun r30 _ h32 => ?_)
 refine go [] <| sP [(0, iV ((gntO S.D a S.now).1)), (1, iV ((gntO S.D a S.now).2.1)), (2, uV ((gntO S.D a S.now).2.2))] [iV ((gntO S.D a S.now).1), iV ((gntO S.D a S.now).2.1), uV ((gntO S.D a S.now).2.2)] h32 fun _ h34 => go [.s 6 1] ?_
 by_cases c35 : (gntE S.D a S.now) = 0
 ·
  have h36 := tk10 (sf9 (sf8 (sf8 (sf8 (sf8 (sf8 (sf9 (sf9 (sf9 (sf9 h34))))))))))
  refine go [.v 6 1 (qnF ((gntE S.D a S.now)) 0), rd 8 3 1 4 1 h34] <| cl1 Tryz.call65 (next_ht s13 S.q) h36 fun _ h38 => go [.s 9 0] ?_
  by_cases c39 : (S.q.headD 1) = 2
  ·
   have h40 := tk10 (sf9 (sf8 (sf8 (sf8 (sf8 (sf8 (sf8 (sf8 (sf8 (sf9 h38))))))))))
   refine go [.v 9 0 (qeT ((S.q.headD 1)) 2)] <| sP [(0, iV 0), (1, iV 0), (2, uV 0)] [iV 0, iV 0, uV 0] h40 fun w41 h42 => go [] ?_
   have hp_ := acq_later (S := S) (god3 ha) ((gnt_grw (S := S) ha).1.symm.trans (by omega)) (by omega)
   have h43 := tk10 (sf9 (sf9 (sf9 (sf9 (sf5 (sf9 (sf3 (sf4 (sf9 (sf9 h42))))))))))
   have h44 : sat g w41 [Wd b ({ S with q := S.q.tail } : Wst), Cl r17 [iV 0, iV 0, uV 0] 32, Cl r30 [iV ((gntO S.D a S.now).1), iV ((gntO S.D a S.now).2.1), uV ((gntO S.D a S.now).2.2)] 32, Dk c25 (gntX S.D a S.now), R] := wd_close (hp_.2.2 ▸ wok_acq hW15 3 a) h43
   exact en (.tuple #[.agg #[iV 0, iV 0, uV 0], iV 15]) [rd 0 0 0 0 3 h42] ⟨_, [Wd b ({ S with q := S.q.tail } : Wst)], rfl, ⟨by rw [hp_.1, hp_.2.1], by rw [hp_.2.2]⟩, (tk2 (sf1 (sf4 h44)))⟩
  refine go [.v 9 0 (qeF ((S.q.headD 1)) 2), .s 11 0] ?_
  by_cases c46 : (S.q.headD 1) = 3
  ·
   have h47 := tk10 (sf9 (sf8 (sf8 (sf8 (sf8 (sf8 (sf8 (sf8 (sf8 (sf9 h38))))))))))
   refine go [.v 11 0 (qeT ((S.q.headD 1)) 3)] <| sP [(0, iV 0), (1, iV 0), (2, uV 0)] [iV 0, iV 0, uV 0] h47 fun w48 h49 => go [] ?_
   have hp_ := acq_fail (S := S) (god3 ha) ((gnt_grw (S := S) ha).1.symm.trans (by omega)) (by omega) (by omega)
   have h50 := tk10 (sf9 (sf9 (sf9 (sf9 (sf5 (sf9 (sf3 (sf4 (sf9 (sf9 h49))))))))))
   have h51 : sat g w48 [Wd b ({ S with q := S.q.tail } : Wst), Cl r17 [iV 0, iV 0, uV 0] 32, Cl r30 [iV ((gntO S.D a S.now).1), iV ((gntO S.D a S.now).2.1), uV ((gntO S.D a S.now).2.2)] 32, Dk c25 (gntX S.D a S.now), R] := wd_close (hp_.2.2 ▸ wok_acq hW15 3 a) h50
   exact en (.tuple #[.agg #[iV 0, iV 0, uV 0], iV 14]) [rd 0 0 0 0 3 h49] ⟨_, [Wd b ({ S with q := S.q.tail } : Wst)], rfl, ⟨by rw [hp_.1, hp_.2.1], by rw [hp_.2.2]⟩, (tk2 (sf1 (sf4 h51)))⟩
  refine go [.v 11 0 (qeF ((S.q.headD 1)) 3), .s 13 5] <| lwP (.pointer (some ⟨b, 3, none⟩)) (law_indexArr (x := (Operand.tmp 49)) (i := (Operand.tmp 46)) (b := b) (off := 0) (z := 3) (by kernel_rfl) Tryz.underlying76 1 (by kernel_rfl) 3 (by kernel_rfl) (by kernel_rfl) (by omega) (by omega) 3 (by omega) _) <| sP [(3, .iface 90 (pV c25))] [Value.nilIface, .iface 84 (pV f10), .iface 87 (pV p11), .iface 90 (pV c25), pV s13, pV l14, iV S.now] (tk10 (sf9 (sf8 (sf8 (sf9 (sf9 (sf9 (sf9 (sf9 (sf9 (sf9 h38))))))))))) fun _ h55 => ?_
  have h56 := tk10 (sf9 (sf8 (sf8 (sf8 (sf8 (sf8 (sf8 (sf8 (sf8 (sf9 h55))))))))))
  refine go [rd 14 0 2 0 3 h55] <| sP [(0, iV ((gntO S.D a S.now).1)), (1, iV ((gntO S.D a S.now).2.1)), (2, uV ((gntO S.D a S.now).2.2))] [iV ((gntO S.D a S.now).1), iV ((gntO S.D a S.now).2.1), uV ((gntO S.D a S.now).2.2)] h56 fun w57 h58 => go [] ?_
  have hp_ := acq_ok3 (S := S) ha (by omega) (by omega) (by omega)
  have h59 := tk10 (sf9 (sf9 (sf9 (sf9 (sf6 (sf8 (sf3 (sf5 (sf7 (sf9 h58))))))))))
  have h60 : sat g w57 [Wd b ({ S with q := S.q.tail, D := gntX S.D a S.now } : Wst), Cl r17 [iV ((gntO S.D a S.now).1), iV ((gntO S.D a S.now).2.1), uV ((gntO S.D a S.now).2.2)] 32, Cl r30 [iV ((gntO S.D a S.now).1), iV ((gntO S.D a S.now).2.1), uV ((gntO S.D a S.now).2.2)] 32, Dk d12 S.D, R] := wd_close (hp_.2.2 ▸ wok_acq hW15 3 a) h59
  exact en (.tuple #[.agg #[iV ((gntO S.D a S.now).1), iV ((gntO S.D a S.now).2.1), uV ((gntO S.D a S.now).2.2)], iV 0]) [rd 0 0 0 0 3 h58] ⟨_, [Wd b ({ S with q := S.q.tail, D := gntX S.D a S.now } : Wst)], rfl, ⟨by rw [hp_.1, hp_.2.1], by rw [hp_.2.2]⟩, (tk2 (sf1 (sf4 h60)))⟩
 have h62 := tk10 (sf9 (sf8 (sf8 (sf8 (sf8 (sf8 (sf8 (sf8 (sf8 (sf9 h34))))))))))
 refine go [.v 6 1 (qnT ((gntE S.D a S.now)) 0)] <| sP [(0, iV 0), (1, iV 0), (2, uV 0)] [iV 0, iV 0, uV 0] h62 fun w63 h64 => go [] ?_
 have hp_ := acq_err (S := S) (god3 ha) (gnt_grw (S := S) ha).1.symm (by omega)
 have h66 : sat g w63 [Wd b S, Cl r17 [iV 0, iV 0, uV 0] 32, Cl r30 [iV ((gntO S.D a S.now).1), iV ((gntO S.D a S.now).2.1), uV ((gntO S.D a S.now).2.2)] 32, Dk c25 (gntX S.D a S.now), R] := wd_close hW15 (tk10 (sf9 (sf9 (sf9 (sf9 (sf9 (sf9 (sf3 (sf3 (sf9 (sf9 h64)))))))))))
 exact en (.tuple #[.agg #[iV 0, iV 0, uV 0], iV ((gntE S.D a S.now))]) [rd 0 0 0 0 3 h64] ⟨_, [Wd b S], rfl, ⟨by rw [hp_.1, hp_.2.1], by rw [hp_.2.2]⟩, (tk2 (sf1 (sf4 h66)))⟩

set_option maxHeartbeats 4000000 in
theorem wacq_3n (b : Nat) (S : Wst) (a : Int) (ha : a < 1 ∨ 1048576 < a) (hng : ¬ godP 3 a) : HT Tryz.prog 28 [pV b, iV 3, iV a] [Wd b S] (fun v K => v = .tuple #[.agg #[iV (acqO S 3 a).1, iV (acqO S 3 a).2.1, uV (acqO S 3 a).2.2], iV (acqE S 3 a)] ∧ K = [Wd b (acqS S 3 a)]) := by
 refine hiS Tryz.func28 Tryz.ntmps28 fun g w0 R h0 => ?_
 obtain ⟨f10, p11, d12, s13, l14, hW15, h16⟩ := wd_open h0
 have hW15n := hW15.nl; have hW15m := hW15.nh; have hW15t := hW15.tn
 refine go [] <| nP 32 [iV 0, iV 0, uV 0] h16 (fun r17 _ h19 => ?_)
 have h20 := tk8 (sf7 (sf6 (sf7 (sf7 (sf7 (sf7 (sf7 (sf7 h19))))))))
 refine go [] <| cl1 Tryz.call56 (wvalid_cl b l14 Value.nilIface (.iface 84 (pV f10)) (.iface 87 (pV p11)) (.iface 90 (pV d12)) (pV s13) (iV S.now)) h20 fun _ h22 => go [] ?_
 by_cases c23 : 1 ≤ a
 ·
  refine cl0 Tryz.call68 (god_3n a (by omega)) h22 fun _ h25 => ?_
  have h26 := tk8 (sf7 (sf6 (sf7 (sf7 (sf7 (sf7 (sf7 (sf7 h25))))))))
  refine go [] <| sP [(0, iV 0), (1, iV 0), (2, uV 0)] [iV 0, iV 0, uV 0] h26 fun w27 h28 => go [] ?_
  have hp_ := acq_arg (S := S) (k := 3) (a := a) hng
  have h30 : sat g w27 [Wd b S, Cl r17 [iV 0, iV 0, uV 0] 32, R] := wd_close hW15 (tk8 (sf7 (sf7 (sf7 (sf7 (sf7 (sf7 (sf1 (sf7 h28)))))))))
  exact en (.tuple #[.agg #[iV 0, iV 0, uV 0], iV 2]) [rd 0 0 0 0 3 h28] ⟨_, [Wd b S], rfl, ⟨by rw [hp_.1, hp_.2.1], by rw [hp_.2.2]⟩, (tk2 (sf1 (sf2 h30)))⟩
 refine cl0 Tryz.call68 (god_3n a (by omega)) h22 fun _ h33 => ?_
 have h34 := tk8 (sf7 (sf6 (sf7 (sf7 (sf7 (sf7 (sf7 (sf7 h33))))))))
 refine go [] <| sP [(0, iV 0), (1, iV 0), (2, uV 0)] [iV 0, iV 0, uV 0] h34 fun w35 h36 => go [] ?_
 have hp_ := acq_arg (S := S) (k := 3) (a := a) hng
 have h38 : sat g w35 [Wd b S, Cl r17 [iV 0, iV 0, uV 0] 32, R] := wd_close hW15 (tk8 (sf7 (sf7 (sf7 (sf7 (sf7 (sf7 (sf1 (sf7 h36)))))))))
 exact en (.tuple #[.agg #[iV 0, iV 0, uV 0], iV 2]) [rd 0 0 0 0 3 h36] ⟨_, [Wd b S], rfl, ⟨by rw [hp_.1, hp_.2.1], by rw [hp_.2.2]⟩, (tk2 (sf1 (sf2 h38)))⟩

set_option maxHeartbeats 4000000 in
theorem wacq_0 (b : Nat) (S : Wst) (k a : Int) (hk : k < 1 ∨ 3 < k) (hng : ¬ godP k a) : HT Tryz.prog 28 [pV b, iV k, iV a] [Wd b S] (fun v K => v = .tuple #[.agg #[iV (acqO S k a).1, iV (acqO S k a).2.1, uV (acqO S k a).2.2], iV (acqE S k a)] ∧ K = [Wd b (acqS S k a)]) := by
 refine hiS Tryz.func28 Tryz.ntmps28 fun g w0 R h0 => ?_
 obtain ⟨f10, p11, d12, s13, l14, hW15, h16⟩ := wd_open h0
 have hW15n := hW15.nl; have hW15m := hW15.nh; have hW15t := hW15.tn
 refine go [] <| nP 32 [iV 0, iV 0, uV 0] h16 (fun r17 _ h19 => ?_)
 have h20 := tk8 (sf7 (sf6 (sf7 (sf7 (sf7 (sf7 (sf7 (sf7 h19))))))))
 refine go [] <| cl1 Tryz.call56 (wvalid_cl b l14 Value.nilIface (.iface 84 (pV f10)) (.iface 87 (pV p11)) (.iface 90 (pV d12)) (pV s13) (iV S.now)) h20 fun _ h22 => go [] <| cl0 Tryz.call68 (god_0 k a (by omega)) h22 fun _ h24 => ?_
 have h25 := tk8 (sf7 (sf6 (sf7 (sf7 (sf7 (sf7 (sf7 (sf7 h24))))))))
 refine go [] <| sP [(0, iV 0), (1, iV 0), (2, uV 0)] [iV 0, iV 0, uV 0] h25 fun w26 h27 => go [] ?_
 have hp_ := acq_arg (S := S) (k := k) (a := a) hng
 have h29 : sat g w26 [Wd b S, Cl r17 [iV 0, iV 0, uV 0] 32, R] := wd_close hW15 (tk8 (sf7 (sf7 (sf7 (sf7 (sf7 (sf7 (sf1 (sf7 h27)))))))))
 exact en (.tuple #[.agg #[iV 0, iV 0, uV 0], iV 2]) [rd 0 0 0 0 3 h27] ⟨_, [Wd b S], rfl, ⟨by rw [hp_.1, hp_.2.1], by rw [hp_.2.2]⟩, (tk2 (sf1 (sf2 h29)))⟩

theorem wacq_ht (b : Nat) (S : Wst) (k a : Int) : HT Tryz.prog 28 [pV b, iV k, iV a] [Wd b S] (fun v K => v = Value.tuple #[Value.agg #[Value.int .i64 (acqO S k a).1, Value.int .i64 (acqO S k a).2.1, Value.int .u32 (acqO S k a).2.2], Value.int .i64 (acqE S k a)] ∧ K = [Wd b (acqS S k a)]) := by
  by_cases h1 : k = 1
  · subst h1
    by_cases h : 0 ≤ a ∧ a ≤ 65535
    · exact wacq_1 b S a h
    · exact wacq_1n b S a (by omega) (god_no1 h)
  · by_cases h2 : k = 2
    · subst h2
      by_cases h : 1 ≤ a ∧ a ≤ 65536
      · exact wacq_2 b S a h
      · exact wacq_2n b S a (by omega) (god_no2 h)
    · by_cases h3 : k = 3
      · subst h3
        by_cases h : 1 ≤ a ∧ a ≤ 1048576
        · exact wacq_3 b S a h
        · exact wacq_3n b S a (by omega) (god_no3 h)
      · exact wacq_0 b S k a (by omega) (god_no (by omega))

end Go.Proofs.YtggfnbpohmhphaaGreatDoor

/- Walks, printed by my generator o13.py. -/
namespace Go.Proofs.YtggfnbpohmhphaaGreatDoor
set_option maxHeartbeats 4000000 in
theorem back_1 (b f p d s l : Nat) (z0 : Int) : HT Tryz.prog 67 [pV b, iV 1] [Cl b [Value.nilIface, .iface 84 (pV f), .iface 87 (pV p), .iface 90 (pV d), pV s, pV l, iV z0] 79] (fun v K => v = .func (Fn.func 115) #[pV f] #[] ∧ K = [Cl b [Value.nilIface, .iface 84 (pV f), .iface 87 (pV p), .iface 90 (pV d), pV s, pV l, iV z0] 79]) := by
 refine hiS Tryz.func67 Tryz.ntmps67 fun g w0 R h0 => go [.s 1 4] <| lwP (.pointer (some ⟨b, 1, none⟩)) (law_indexArr (x := (Operand.tmp 11)) (i := (Operand.tmp 9)) (b := b) (off := 0) (z := 1) (by kernel_rfl) Tryz.underlying76 1 (by kernel_rfl) 1 (by kernel_rfl) (by kernel_rfl) (by omega) (by omega) 1 (by omega) _) <| go [rd 1 5 0 1 1 h0] ?_
 exact en (.func (Fn.func 115) #[pV f] #[]) [] ⟨_, _, rfl, ⟨rfl, rfl⟩, h0⟩

set_option maxHeartbeats 4000000 in
theorem back_2 (b f p d s l : Nat) (z0 : Int) : HT Tryz.prog 67 [pV b, iV 2] [Cl b [Value.nilIface, .iface 84 (pV f), .iface 87 (pV p), .iface 90 (pV d), pV s, pV l, iV z0] 79] (fun v K => v = .func (Fn.func 116) #[pV p] #[] ∧ K = [Cl b [Value.nilIface, .iface 84 (pV f), .iface 87 (pV p), .iface 90 (pV d), pV s, pV l, iV z0] 79]) := by
 refine hiS Tryz.func67 Tryz.ntmps67 fun g w0 R h0 => go [.s 1 4] <| lwP (.pointer (some ⟨b, 2, none⟩)) (law_indexArr (x := (Operand.tmp 11)) (i := (Operand.tmp 9)) (b := b) (off := 0) (z := 2) (by kernel_rfl) Tryz.underlying76 1 (by kernel_rfl) 2 (by kernel_rfl) (by kernel_rfl) (by omega) (by omega) 2 (by omega) _) <| go [rd 1 5 0 2 1 h0] ?_
 exact en (.func (Fn.func 116) #[pV p] #[]) [] ⟨_, _, rfl, ⟨rfl, rfl⟩, h0⟩

set_option maxHeartbeats 4000000 in
theorem back_3 (b f p d s l : Nat) (z0 : Int) : HT Tryz.prog 67 [pV b, iV 3] [Cl b [Value.nilIface, .iface 84 (pV f), .iface 87 (pV p), .iface 90 (pV d), pV s, pV l, iV z0] 79] (fun v K => v = .func (Fn.func 117) #[pV d] #[] ∧ K = [Cl b [Value.nilIface, .iface 84 (pV f), .iface 87 (pV p), .iface 90 (pV d), pV s, pV l, iV z0] 79]) := by
 refine hiS Tryz.func67 Tryz.ntmps67 fun g w0 R h0 => go [.s 1 4] <| lwP (.pointer (some ⟨b, 3, none⟩)) (law_indexArr (x := (Operand.tmp 11)) (i := (Operand.tmp 9)) (b := b) (off := 0) (z := 3) (by kernel_rfl) Tryz.underlying76 1 (by kernel_rfl) 3 (by kernel_rfl) (by kernel_rfl) (by omega) (by omega) 3 (by omega) _) <| go [rd 1 5 0 3 1 h0] ?_
 exact en (.func (Fn.func 117) #[pV d] #[]) [] ⟨_, _, rfl, ⟨rfl, rfl⟩, h0⟩

set_option maxHeartbeats 4000000 in
theorem wrel_no (b : Nat) (S : Wst) (x y z wy : Int) (hz0 : 0 ≤ z) (hz1 : z ≤ 4294967295) (hg : ¬ (1 ≤ x ∧ x ≤ 3 ∧ 0 ≤ y ∧ y ≤ 63 ∧ 1 ≤ z)) : HT Tryz.prog 27 [pV b, .agg #[iV x, iV y, uV z], iV wy] [Wd b S] (fun v K => v = .tuple #[iV (relA S (x, y, z) wy), iV (relE S (x, y, z) wy)] ∧ K = [Wd b (relS S (x, y, z) wy)]) := by
 refine hiS Tryz.func27 Tryz.ntmps27 fun g w0 R h0 => ?_
 obtain ⟨f10, p11, d12, s13, l14, hW15, h16⟩ := wd_open h0
 have hW15n := hW15.nl; have hW15m := hW15.nh; have hW15t := hW15.tn
 refine go [] <| nP 32 [iV x, iV y, uV z] h16 (fun r17 _ h19 => ?_)
 have h20 := tk8 (sf7 (sf6 (sf7 (sf7 (sf7 (sf7 (sf7 (sf7 h19))))))))
 refine go [] <| cl1 Tryz.call56 (wvalid_cl b l14 Value.nilIface (.iface 84 (pV f10)) (.iface 87 (pV p11)) (.iface 90 (pV d12)) (pV s13) (iV S.now)) h20 fun _ h22 => go [rd 3 0 1 0 3 h22] ?_
 by_cases c23 : 1 ≤ x
 ·
  by_cases c24 : x ≤ 3
  ·
   by_cases c25 : 0 ≤ y
   ·
    by_cases c26 : y ≤ 63
    ·
     refine cl0 Tryz.call15 (couter_no x y z (by omega) (by omega) (by omega)) h22 fun w27 h28 => go [] ?_
     have hp_ := rel_arg (S := S) (o := (x, y, z)) (wy := wy) (.inl hg)
     have h30 : sat g w27 [Wd b S, Cl r17 [iV x, iV y, uV z] 32, R] := wd_close hW15 (tk8 (sf7 (sf7 (sf7 (sf7 (sf7 (sf7 (sf2 (sf7 h28)))))))))
     exact en (.tuple #[iV 0, iV 2]) [] ⟨_, [Wd b S], rfl, ⟨by rw [hp_.1, hp_.2.1], by rw [hp_.2.2]⟩, (tk2 (sf1 (sf2 h30)))⟩
    refine cl0 Tryz.call15 (couter_no x y z (by omega) (by omega) (by omega)) h22 fun w32 h33 => go [] ?_
    have hp_ := rel_arg (S := S) (o := (x, y, z)) (wy := wy) (.inl hg)
    have h35 : sat g w32 [Wd b S, Cl r17 [iV x, iV y, uV z] 32, R] := wd_close hW15 (tk8 (sf7 (sf7 (sf7 (sf7 (sf7 (sf7 (sf2 (sf7 h33)))))))))
    exact en (.tuple #[iV 0, iV 2]) [] ⟨_, [Wd b S], rfl, ⟨by rw [hp_.1, hp_.2.1], by rw [hp_.2.2]⟩, (tk2 (sf1 (sf2 h35)))⟩
   refine cl0 Tryz.call15 (couter_no x y z (by omega) (by omega) (by omega)) h22 fun w37 h38 => go [] ?_
   have hp_ := rel_arg (S := S) (o := (x, y, z)) (wy := wy) (.inl hg)
   have h40 : sat g w37 [Wd b S, Cl r17 [iV x, iV y, uV z] 32, R] := wd_close hW15 (tk8 (sf7 (sf7 (sf7 (sf7 (sf7 (sf7 (sf2 (sf7 h38)))))))))
   exact en (.tuple #[iV 0, iV 2]) [] ⟨_, [Wd b S], rfl, ⟨by rw [hp_.1, hp_.2.1], by rw [hp_.2.2]⟩, (tk2 (sf1 (sf2 h40)))⟩
  refine cl0 Tryz.call15 (couter_no x y z (by omega) (by omega) (by omega)) h22 fun w42 h43 => go [] ?_
  have hp_ := rel_arg (S := S) (o := (x, y, z)) (wy := wy) (.inl hg)
  have h45 : sat g w42 [Wd b S, Cl r17 [iV x, iV y, uV z] 32, R] := wd_close hW15 (tk8 (sf7 (sf7 (sf7 (sf7 (sf7 (sf7 (sf2 (sf7 h43)))))))))
  exact en (.tuple #[iV 0, iV 2]) [] ⟨_, [Wd b S], rfl, ⟨by rw [hp_.1, hp_.2.1], by rw [hp_.2.2]⟩, (tk2 (sf1 (sf2 h45)))⟩
 refine cl0 Tryz.call15 (couter_no x y z (by omega) (by omega) (by omega)) h22 fun w47 h48 => go [] ?_
 have hp_ := rel_arg (S := S) (o := (x, y, z)) (wy := wy) (.inl hg)
 have h50 : sat g w47 [Wd b S, Cl r17 [iV x, iV y, uV z] 32, R] := wd_close hW15 (tk8 (sf7 (sf7 (sf7 (sf7 (sf7 (sf7 (sf2 (sf7 h48)))))))))
 exact en (.tuple #[iV 0, iV 2]) [] ⟨_, [Wd b S], rfl, ⟨by rw [hp_.1, hp_.2.1], by rw [hp_.2.2]⟩, (tk2 (sf1 (sf2 h50)))⟩

set_option maxHeartbeats 4000000 in
theorem wrel_wy (b : Nat) (S : Wst) (x y z : Int) (hz0 : 0 ≤ z) (hz1 : z ≤ 4294967295) (hg : KGood (x, y, z)) (hy0 : 0 ≤ y) (hy1 : y ≤ 63) (hz : 1 ≤ z) (hx : 1 ≤ x ∧ x ≤ 3) (wy : Int) (hwy : wy < 1 ∨ 3 < wy) : HT Tryz.prog 27 [pV b, .agg #[iV x, iV y, uV z], iV wy] [Wd b S] (fun v K => v = .tuple #[iV (relA S (x, y, z) wy), iV (relE S (x, y, z) wy)] ∧ K = [Wd b (relS S (x, y, z) wy)]) := by
 refine hiS Tryz.func27 Tryz.ntmps27 fun g w0 R h0 => ?_
 obtain ⟨f10, p11, d12, s13, l14, hW15, h16⟩ := wd_open h0
 have hW15n := hW15.nl; have hW15m := hW15.nh; have hW15t := hW15.tn
 refine go [] <| nP 32 [iV x, iV y, uV z] h16 (fun r17 _ h19 => ?_)
 have h20 := tk8 (sf7 (sf6 (sf7 (sf7 (sf7 (sf7 (sf7 (sf7 h19))))))))
 refine go [] <| cl1 Tryz.call56 (wvalid_cl b l14 Value.nilIface (.iface 84 (pV f10)) (.iface 87 (pV p11)) (.iface 90 (pV d12)) (pV s13) (iV S.now)) h20 fun _ h22 => go [rd 3 0 1 0 3 h22] <| cl0 Tryz.call15 (couter_ok x y z (by omega) (by omega) (by omega)) h22 fun w23 h24 => go [.s 3 5] ?_
 by_cases c25 : wy < 1
 ·
  refine go [.v 3 5 (oT (wy < 1))] ?_
  have hp_ := rel_arg (S := S) (o := (x, y, z)) (wy := wy) (.inr hwy)
  have h27 : sat g w23 [Wd b S, Cl r17 [iV x, iV y, uV z] 32, R] := wd_close hW15 (tk8 (sf7 (sf7 (sf7 (sf7 (sf7 (sf7 (sf2 (sf7 h24)))))))))
  exact en (.tuple #[iV 0, iV 2]) [] ⟨_, [Wd b S], rfl, ⟨by rw [hp_.1, hp_.2.1], by rw [hp_.2.2]⟩, (tk2 (sf1 (sf2 h27)))⟩
 refine go [.v 3 5 (oF (wy < 1)), .v 3 9 (oT (wy > 3))] ?_
 have hp_ := rel_arg (S := S) (o := (x, y, z)) (wy := wy) (.inr hwy)
 have h30 : sat g w23 [Wd b S, Cl r17 [iV x, iV y, uV z] 32, R] := wd_close hW15 (tk8 (sf7 (sf7 (sf7 (sf7 (sf7 (sf7 (sf2 (sf7 h24)))))))))
 exact en (.tuple #[iV 0, iV 2]) [] ⟨_, [Wd b S], rfl, ⟨by rw [hp_.1, hp_.2.1], by rw [hp_.2.2]⟩, (tk2 (sf1 (sf2 h30)))⟩

set_option maxHeartbeats 4000000 in
theorem wrel_none (b : Nat) (S : Wst) (x y z : Int) (hz0 : 0 ≤ z) (hz1 : z ≤ 4294967295) (hg : KGood (x, y, z)) (hy0 : 0 ≤ y) (hy1 : y ≤ 63) (hz : 1 ≤ z) (hx : 1 ≤ x ∧ x ≤ 3) (hT : ¬ Thr S (x, y, z)) (wy : Int) (hwy : 1 ≤ wy ∧ wy ≤ 3) : HT Tryz.prog 27 [pV b, .agg #[iV x, iV y, uV z], iV wy] [Wd b S] (fun v K => v = .tuple #[iV (relA S (x, y, z) wy), iV (relE S (x, y, z) wy)] ∧ K = [Wd b (relS S (x, y, z) wy)]) := by
 refine hiS Tryz.func27 Tryz.ntmps27 fun g w0 R h0 => ?_
 obtain ⟨f10, p11, d12, s13, l14, hW15, h16⟩ := wd_open h0
 have hW15n := hW15.nl; have hW15m := hW15.nh; have hW15t := hW15.tn
 refine go [] <| nP 32 [iV x, iV y, uV z] h16 (fun r17 _ h19 => ?_)
 have h20 := tk8 (sf7 (sf6 (sf7 (sf7 (sf7 (sf7 (sf7 (sf7 h19))))))))
 refine go [] <| cl1 Tryz.call56 (wvalid_cl b l14 Value.nilIface (.iface 84 (pV f10)) (.iface 87 (pV p11)) (.iface 90 (pV d12)) (pV s13) (iV S.now)) h20 fun _ h22 => go [rd 3 0 1 0 3 h22] <| cl0 Tryz.call15 (couter_ok x y z (by omega) (by omega) (by omega)) h22 fun _ h24 => ?_
 have h25 := tk8 (sf7 (sf7 (sf7 (sf7 (sf7 (sf7 (sf2 (sf7 h24))))))))
 refine go [.v 3 5 (oF (wy < 1)), .v 3 9 (oF (wy > 3)), rd 5 1 1 0 3 h24] <| cl6 Tryz.call16 ((by have h_ := has_ht b f10 p11 d12 s13 l14 S hW15 x y z (by omega) (by omega); rw [decide_eq_false hT] at h_; exact h_)) h25 fun w26 h27 => ?_
 refine go [] ?_
 have hp_ := rel_none (S := S) (o := (x, y, z)) hg hwy hT
 have h28 : sat g w26 [Wd b S, Cl r17 [iV x, iV y, uV z] 32, R] := wd_close hW15 h27
 exact en (.tuple #[iV 0, iV 5]) [] ⟨_, [Wd b S], rfl, ⟨by rw [hp_.1, hp_.2.1], by rw [hp_.2.2]⟩, (tk2 (sf1 (sf2 h28)))⟩

set_option maxHeartbeats 4000000 in
theorem wrel_full (b : Nat) (S : Wst) (x y z : Int) (hz0 : 0 ≤ z) (hz1 : z ≤ 4294967295) (hg : KGood (x, y, z)) (hy0 : 0 ≤ y) (hy1 : y ≤ 63) (hz : 1 ≤ z) (hx : 1 ≤ x ∧ x ≤ 3) (hT : Thr S (x, y, z)) (wy : Int) (hwy : 1 ≤ wy ∧ wy ≤ 3) (hn : 10000 ≤ S.T.length) : HT Tryz.prog 27 [pV b, .agg #[iV x, iV y, uV z], iV wy] [Wd b S] (fun v K => v = .tuple #[iV (relA S (x, y, z) wy), iV (relE S (x, y, z) wy)] ∧ K = [Wd b (relS S (x, y, z) wy)]) := by
 refine hiS Tryz.func27 Tryz.ntmps27 fun g w0 R h0 => ?_
 obtain ⟨f10, p11, d12, s13, l14, hW15, h16⟩ := wd_open h0
 have hW15n := hW15.nl; have hW15m := hW15.nh; have hW15t := hW15.tn
 refine go [] <| nP 32 [iV x, iV y, uV z] h16 (fun r17 _ h19 => ?_)
 have h20 := tk8 (sf7 (sf6 (sf7 (sf7 (sf7 (sf7 (sf7 (sf7 h19))))))))
 refine go [] <| cl1 Tryz.call56 (wvalid_cl b l14 Value.nilIface (.iface 84 (pV f10)) (.iface 87 (pV p11)) (.iface 90 (pV d12)) (pV s13) (iV S.now)) h20 fun _ h22 => go [rd 3 0 1 0 3 h22] <| cl0 Tryz.call15 (couter_ok x y z (by omega) (by omega) (by omega)) h22 fun _ h24 => ?_
 have h25 := tk8 (sf7 (sf7 (sf7 (sf7 (sf7 (sf7 (sf2 (sf7 h24))))))))
 refine go [.v 3 5 (oF (wy < 1)), .v 3 9 (oF (wy > 3)), rd 5 1 1 0 3 h24] <| cl6 Tryz.call16 ((by have h_ := has_ht b f10 p11 d12 s13 l14 S hW15 x y z (by omega) (by omega); rw [decide_eq_true hT] at h_; exact h_)) h25 fun _ h27 => ?_
 have h28 := tk8 (sf7 (sf6 (sf6 (sf6 (sf6 (sf6 (sf7 (sf7 h27))))))))
 refine go [rd 7 3 0 5 1 h27] <| cl1 Tryz.call23 (lglen_ht l14 S.T) h28 fun w29 h30 => go [.v 7 5 (oT (((S.T.length : Nat) : Int) ≥ 10000))] ?_
 have hp_ := rel_full (S := S) (o := (x, y, z)) hwy hT hn
 have h32 : sat g w29 [Wd b S, Cl r17 [iV x, iV y, uV z] 32, R] := wd_close hW15 (tk8 (sf7 (sf7 (sf7 (sf7 (sf7 (sf2 (sf7 (sf7 h30)))))))))
 exact en (.tuple #[iV 0, iV 4]) [] ⟨_, [Wd b S], rfl, ⟨by rw [hp_.1, hp_.2.1], by rw [hp_.2.2]⟩, (tk2 (sf1 (sf2 h32)))⟩

set_option maxHeartbeats 4000000 in
theorem wrel_1 (b : Nat) (S : Wst) (y z : Int) (hz0 : 0 ≤ z) (hz1 : z ≤ 4294967295) (hg : KGood (1, y, z)) (hy0 : 0 ≤ y) (hy1 : y ≤ 63) (hz : 1 ≤ z) (hT : Thr S (1, y, z)) (wy : Int) (hwy : 1 ≤ wy ∧ wy ≤ 3) (hn : S.T.length < 10000) : HT Tryz.prog 27 [pV b, .agg #[iV 1, iV y, uV z], iV wy] [Wd b S] (fun v K => v = .tuple #[iV (relA S (1, y, z) wy), iV (relE S (1, y, z) wy)] ∧ K = [Wd b (relS S (1, y, z) wy)]) := by
 refine hiS Tryz.func27 Tryz.ntmps27 fun g w0 R h0 => ?_
 obtain ⟨f10, p11, d12, s13, l14, hW15, h16⟩ := wd_open h0
 have hW15n := hW15.nl; have hW15m := hW15.nh; have hW15t := hW15.tn
 refine go [] <| nP 32 [iV 1, iV y, uV z] h16 (fun r17 _ h19 => ?_)
 have h20 := tk8 (sf7 (sf6 (sf7 (sf7 (sf7 (sf7 (sf7 (sf7 h19))))))))
 refine go [] <| cl1 Tryz.call56 (wvalid_cl b l14 Value.nilIface (.iface 84 (pV f10)) (.iface 87 (pV p11)) (.iface 90 (pV d12)) (pV s13) (iV S.now)) h20 fun _ h22 => go [rd 3 0 1 0 3 h22] <| cl0 Tryz.call15 (couter_ok 1 y z (by omega) (by omega) (by omega)) h22 fun _ h24 => ?_
 have h25 := tk8 (sf7 (sf7 (sf7 (sf7 (sf7 (sf7 (sf2 (sf7 h24))))))))
 refine go [.v 3 5 (oF (wy < 1)), .v 3 9 (oF (wy > 3)), rd 5 1 1 0 3 h24] <| cl6 Tryz.call16 ((by have h_ := has_ht b f10 p11 d12 s13 l14 S hW15 1 y z (by omega) (by omega); rw [decide_eq_true hT] at h_; exact h_)) h25 fun _ h27 => ?_
 have h28 := tk8 (sf7 (sf6 (sf6 (sf6 (sf6 (sf6 (sf7 (sf7 h27))))))))
 refine go [rd 7 3 0 5 1 h27] <| cl1 Tryz.call23 (lglen_ht l14 S.T) h28 fun _ h30 => ?_
 have h31 := tk8 (sf7 (sf6 (sf6 (sf6 (sf6 (sf6 (sf7 (sf7 h30))))))))
 refine go [.v 7 5 (oF (((S.T.length : Nat) : Int) ≥ 10000)), rd 9 3 1 4 1 h30] <| cl1 Tryz.call65 (next_ht s13 S.q) h31 fun _ h33 => go [] <| dw (fls [0, 1, 2, 3, 4, 5, 6, 7, 8, 9, 10, 11] (Tr.an 12 Tr.nil)) h33 fun _ h35 => ?_
 have h36 := tk8 (sf7 (sf6 (sf7 (sf7 (sf7 (sf7 (sf7 (sf7 h35))))))))
 refine go [rd 10 3 2 5 1 h35, rd 10 7 2 6 1 h35, rd 10 8 6 0 3 h35] <| cw1 Tryz.call66 (lgadd_ht l14 S.T S.now 1 y z wy ((S.q.headD 1)) (by omega) (by omega) (rel_attP hW15 hg hwy) hW15.ta (by omega)) h36 fun w37 h38 => ⟨kd [], ?_⟩
 refine go [.s 11 1] ?_
 by_cases c39 : (S.q.headD 1) = 1
 ·
  refine go [.v 11 1 (qeT ((S.q.headD 1)) 1)] <| dw (fls [0, 1, 2, 4] (Tr.an 3 (Tr.an 5 Tr.nil))) h38 fun _ h41 => ?_
  have h42 := tk8 (sf7 (sf6 (sf6 (sf7 (sf7 (sf7 (sf7 (sf7 h41))))))))
  refine go [rd 12 2 6 0 1 h41, rd 12 4 6 0 3 h41] <| cw1 Tryz.call67 (back_1 b f10 p11 d12 s13 l14 S.now) h42 fun _ h44 => ⟨kd [rd 0 4 6 0 3 h44], ?_⟩
  refine cw1 Tryz.call115 ((by have h_ := fclose_ht f10 64 S.F 1 y z (by omega) (by omega); rw [show clsX S.F (1, y, z) = giv S.F (1, y, z) from cls_giv hT] at h_; exact h_)) (tk8 (sf7 (sf6 (sf6 (sf6 (sf7 (sf7 (sf7 (sf7 h44))))))))) fun w46 h47 => ⟨kd [], ?_⟩
  refine go [] ?_
  have hp_ := rel_ok (S := S) (o := (1, y, z)) hwy hT hn
  have hp2_ : relS S (1, y, z) wy = ({ S with q := S.q.tail, T := S.T ++ [⟨S.now, (1, y, z), wy, S.q.headD 1⟩], F := giv S.F (1, y, z) } : Wst) := hp_.2.2.trans (if_pos (by omega))
  have h48 := tk8 (sf7 (sf6 (sf7 (sf7 (sf5 (sf4 (sf7 (sf7 h47))))))))
  have h49 : sat g w46 [Wd b ({ S with q := S.q.tail, T := S.T ++ [⟨S.now, (1, y, z), wy, S.q.headD 1⟩], F := giv S.F (1, y, z) } : Wst), Cl r17 [iV 1, iV y, uV z] 32, R] := wd_close (hp2_ ▸ wok_rel hW15 (1, y, z) wy) h48
  exact en (.tuple #[iV ((S.q.headD 1)), iV 0]) [] ⟨_, [Wd b ({ S with q := S.q.tail, T := S.T ++ [⟨S.now, (1, y, z), wy, S.q.headD 1⟩], F := giv S.F (1, y, z) } : Wst)], rfl, ⟨by rw [hp_.1, hp_.2.1], by rw [hp2_]⟩, (tk2 (sf1 (sf2 h49)))⟩
 refine go [.v 11 1 (qeF ((S.q.headD 1)) 1)] ?_
 have hp_ := rel_ok (S := S) (o := (1, y, z)) hwy hT hn
 have hp2_ : relS S (1, y, z) wy = ({ S with q := S.q.tail, T := S.T ++ [⟨S.now, (1, y, z), wy, S.q.headD 1⟩] } : Wst) := hp_.2.2.trans (if_neg (by omega))
 have h51 := tk8 (sf7 (sf7 (sf7 (sf7 (sf3 (sf2 (sf7 (sf7 h38))))))))
 have h52 : sat g w37 [Wd b ({ S with q := S.q.tail, T := S.T ++ [⟨S.now, (1, y, z), wy, S.q.headD 1⟩] } : Wst), Cl r17 [iV 1, iV y, uV z] 32, R] := wd_close (hp2_ ▸ wok_rel hW15 (1, y, z) wy) h51
 exact en (.tuple #[iV ((S.q.headD 1)), iV 0]) [] ⟨_, [Wd b ({ S with q := S.q.tail, T := S.T ++ [⟨S.now, (1, y, z), wy, S.q.headD 1⟩] } : Wst)], rfl, ⟨by rw [hp_.1, hp_.2.1], by rw [hp2_]⟩, (tk2 (sf1 (sf2 h52)))⟩

set_option maxHeartbeats 4000000 in
theorem wrel_2 (b : Nat) (S : Wst) (y z : Int) (hz0 : 0 ≤ z) (hz1 : z ≤ 4294967295) (hg : KGood (2, y, z)) (hy0 : 0 ≤ y) (hy1 : y ≤ 63) (hz : 1 ≤ z) (hT : Thr S (2, y, z)) (wy : Int) (hwy : 1 ≤ wy ∧ wy ≤ 3) (hn : S.T.length < 10000) : HT Tryz.prog 27 [pV b, .agg #[iV 2, iV y, uV z], iV wy] [Wd b S] (fun v K => v = .tuple #[iV (relA S (2, y, z) wy), iV (relE S (2, y, z) wy)] ∧ K = [Wd b (relS S (2, y, z) wy)]) := by
 refine hiS Tryz.func27 Tryz.ntmps27 fun g w0 R h0 => ?_
 obtain ⟨f10, p11, d12, s13, l14, hW15, h16⟩ := wd_open h0
 have hW15n := hW15.nl; have hW15m := hW15.nh; have hW15t := hW15.tn
 refine go [] <| nP 32 [iV 2, iV y, uV z] h16 (fun r17 _ h19 => ?_)
 have h20 := tk8 (sf7 (sf6 (sf7 (sf7 (sf7 (sf7 (sf7 (sf7 h19))))))))
 refine go [] <| cl1 Tryz.call56 (wvalid_cl b l14 Value.nilIface (.iface 84 (pV f10)) (.iface 87 (pV p11)) (.iface 90 (pV d12)) (pV s13) (iV S.now)) h20 fun _ h22 => go [rd 3 0 1 0 3 h22] <| cl0 Tryz.call15 (couter_ok 2 y z (by omega) (by omega) (by omega)) h22 fun _ h24 => ?_
 have h25 := tk8 (sf7 (sf7 (sf7 (sf7 (sf7 (sf7 (sf2 (sf7 h24))))))))
 refine go [.v 3 5 (oF (wy < 1)), .v 3 9 (oF (wy > 3)), rd 5 1 1 0 3 h24] <| cl6 Tryz.call16 ((by have h_ := has_ht b f10 p11 d12 s13 l14 S hW15 2 y z (by omega) (by omega); rw [decide_eq_true hT] at h_; exact h_)) h25 fun _ h27 => ?_
 have h28 := tk8 (sf7 (sf6 (sf6 (sf6 (sf6 (sf6 (sf7 (sf7 h27))))))))
 refine go [rd 7 3 0 5 1 h27] <| cl1 Tryz.call23 (lglen_ht l14 S.T) h28 fun _ h30 => ?_
 have h31 := tk8 (sf7 (sf6 (sf6 (sf6 (sf6 (sf6 (sf7 (sf7 h30))))))))
 refine go [.v 7 5 (oF (((S.T.length : Nat) : Int) ≥ 10000)), rd 9 3 1 4 1 h30] <| cl1 Tryz.call65 (next_ht s13 S.q) h31 fun _ h33 => go [] <| dw (fls [0, 1, 2, 3, 4, 5, 6, 7, 8, 9, 10, 11] (Tr.an 12 Tr.nil)) h33 fun _ h35 => ?_
 have h36 := tk8 (sf7 (sf6 (sf7 (sf7 (sf7 (sf7 (sf7 (sf7 h35))))))))
 refine go [rd 10 3 2 5 1 h35, rd 10 7 2 6 1 h35, rd 10 8 6 0 3 h35] <| cw1 Tryz.call66 (lgadd_ht l14 S.T S.now 2 y z wy ((S.q.headD 1)) (by omega) (by omega) (rel_attP hW15 hg hwy) hW15.ta (by omega)) h36 fun w37 h38 => ⟨kd [], ?_⟩
 refine go [.s 11 1] ?_
 by_cases c39 : (S.q.headD 1) = 1
 ·
  refine go [.v 11 1 (qeT ((S.q.headD 1)) 1)] <| dw (fls [0, 1, 2, 4] (Tr.an 3 (Tr.an 5 Tr.nil))) h38 fun _ h41 => ?_
  have h42 := tk8 (sf7 (sf6 (sf6 (sf7 (sf7 (sf7 (sf7 (sf7 h41))))))))
  refine go [rd 12 2 6 0 1 h41, rd 12 4 6 0 3 h41] <| cw1 Tryz.call67 (back_2 b f10 p11 d12 s13 l14 S.now) h42 fun _ h44 => ⟨kd [rd 0 4 6 0 3 h44], ?_⟩
  refine cw1 Tryz.call116 (punpin_ht p11 S.B y z y.toNat (thr_at hT) (thr_nat hg)) (tk8 (sf7 (sf6 (sf6 (sf6 (sf6 (sf7 (sf7 (sf7 h44))))))))) fun w46 h47 => ⟨kd [], ?_⟩
  refine go [] ?_
  have hp_ := rel_ok (S := S) (o := (2, y, z)) hwy hT hn
  have hp2_ : relS S (2, y, z) wy = ({ S with q := S.q.tail, T := S.T ++ [⟨S.now, (2, y, z), wy, S.q.headD 1⟩], B := giv S.B (2, y, z) } : Wst) := hp_.2.2.trans (if_pos (by omega))
  have h48 := tk8 (sf7 (sf7 (sf5 (sf7 (sf5 (sf4 (sf7 (sf7 h47))))))))
  have h49 : sat g w46 [Wd b ({ S with q := S.q.tail, T := S.T ++ [⟨S.now, (2, y, z), wy, S.q.headD 1⟩], B := giv S.B (2, y, z) } : Wst), Cl r17 [iV 2, iV y, uV z] 32, R] := wd_close (hp2_ ▸ wok_rel hW15 (2, y, z) wy) h48
  exact en (.tuple #[iV ((S.q.headD 1)), iV 0]) [] ⟨_, [Wd b ({ S with q := S.q.tail, T := S.T ++ [⟨S.now, (2, y, z), wy, S.q.headD 1⟩], B := giv S.B (2, y, z) } : Wst)], rfl, ⟨by rw [hp_.1, hp_.2.1], by rw [hp2_]⟩, (tk2 (sf1 (sf2 h49)))⟩
 refine go [.v 11 1 (qeF ((S.q.headD 1)) 1)] ?_
 have hp_ := rel_ok (S := S) (o := (2, y, z)) hwy hT hn
 have hp2_ : relS S (2, y, z) wy = ({ S with q := S.q.tail, T := S.T ++ [⟨S.now, (2, y, z), wy, S.q.headD 1⟩] } : Wst) := hp_.2.2.trans (if_neg (by omega))
 have h51 := tk8 (sf7 (sf7 (sf7 (sf7 (sf3 (sf2 (sf7 (sf7 h38))))))))
 have h52 : sat g w37 [Wd b ({ S with q := S.q.tail, T := S.T ++ [⟨S.now, (2, y, z), wy, S.q.headD 1⟩] } : Wst), Cl r17 [iV 2, iV y, uV z] 32, R] := wd_close (hp2_ ▸ wok_rel hW15 (2, y, z) wy) h51
 exact en (.tuple #[iV ((S.q.headD 1)), iV 0]) [] ⟨_, [Wd b ({ S with q := S.q.tail, T := S.T ++ [⟨S.now, (2, y, z), wy, S.q.headD 1⟩] } : Wst)], rfl, ⟨by rw [hp_.1, hp_.2.1], by rw [hp2_]⟩, (tk2 (sf1 (sf2 h52)))⟩

set_option maxHeartbeats 4000000 in
theorem wrel_3 (b : Nat) (S : Wst) (y z : Int) (hz0 : 0 ≤ z) (hz1 : z ≤ 4294967295) (hg : KGood (3, y, z)) (hy0 : 0 ≤ y) (hy1 : y ≤ 63) (hz : 1 ≤ z) (hT : Thr S (3, y, z)) (wy : Int) (hwy : 1 ≤ wy ∧ wy ≤ 3) (hn : S.T.length < 10000) : HT Tryz.prog 27 [pV b, .agg #[iV 3, iV y, uV z], iV wy] [Wd b S] (fun v K => v = .tuple #[iV (relA S (3, y, z) wy), iV (relE S (3, y, z) wy)] ∧ K = [Wd b (relS S (3, y, z) wy)]) := by
 refine hiS Tryz.func27 Tryz.ntmps27 fun g w0 R h0 => ?_
 obtain ⟨f10, p11, d12, s13, l14, hW15, h16⟩ := wd_open h0
 have hW15n := hW15.nl; have hW15m := hW15.nh; have hW15t := hW15.tn
 refine go [] <| nP 32 [iV 3, iV y, uV z] h16 (fun r17 _ h19 => ?_)
 have h20 := tk8 (sf7 (sf6 (sf7 (sf7 (sf7 (sf7 (sf7 (sf7 h19))))))))
 refine go [] <| cl1 Tryz.call56 (wvalid_cl b l14 Value.nilIface (.iface 84 (pV f10)) (.iface 87 (pV p11)) (.iface 90 (pV d12)) (pV s13) (iV S.now)) h20 fun _ h22 => go [rd 3 0 1 0 3 h22] <| cl0 Tryz.call15 (couter_ok 3 y z (by omega) (by omega) (by omega)) h22 fun _ h24 => ?_
 have h25 := tk8 (sf7 (sf7 (sf7 (sf7 (sf7 (sf7 (sf2 (sf7 h24))))))))
 refine go [.v 3 5 (oF (wy < 1)), .v 3 9 (oF (wy > 3)), rd 5 1 1 0 3 h24] <| cl6 Tryz.call16 ((by have h_ := has_ht b f10 p11 d12 s13 l14 S hW15 3 y z (by omega) (by omega); rw [decide_eq_true hT] at h_; exact h_)) h25 fun _ h27 => ?_
 have h28 := tk8 (sf7 (sf6 (sf6 (sf6 (sf6 (sf6 (sf7 (sf7 h27))))))))
 refine go [rd 7 3 0 5 1 h27] <| cl1 Tryz.call23 (lglen_ht l14 S.T) h28 fun _ h30 => ?_
 have h31 := tk8 (sf7 (sf6 (sf6 (sf6 (sf6 (sf6 (sf7 (sf7 h30))))))))
 refine go [.v 7 5 (oF (((S.T.length : Nat) : Int) ≥ 10000)), rd 9 3 1 4 1 h30] <| cl1 Tryz.call65 (next_ht s13 S.q) h31 fun _ h33 => go [] <| dw (fls [0, 1, 2, 3, 4, 5, 6, 7, 8, 9, 10, 11] (Tr.an 12 Tr.nil)) h33 fun _ h35 => ?_
 have h36 := tk8 (sf7 (sf6 (sf7 (sf7 (sf7 (sf7 (sf7 (sf7 h35))))))))
 refine go [rd 10 3 2 5 1 h35, rd 10 7 2 6 1 h35, rd 10 8 6 0 3 h35] <| cw1 Tryz.call66 (lgadd_ht l14 S.T S.now 3 y z wy ((S.q.headD 1)) (by omega) (by omega) (rel_attP hW15 hg hwy) hW15.ta (by omega)) h36 fun w37 h38 => ⟨kd [], ?_⟩
 refine go [.s 11 1] ?_
 by_cases c39 : (S.q.headD 1) = 1
 ·
  refine go [.v 11 1 (qeT ((S.q.headD 1)) 1)] <| dw (fls [0, 1, 2, 4] (Tr.an 3 (Tr.an 5 Tr.nil))) h38 fun _ h41 => ?_
  have h42 := tk8 (sf7 (sf6 (sf6 (sf7 (sf7 (sf7 (sf7 (sf7 h41))))))))
  refine go [rd 12 2 6 0 1 h41, rd 12 4 6 0 3 h41] <| cw1 Tryz.call67 (back_3 b f10 p11 d12 s13 l14 S.now) h42 fun _ h44 => ⟨kd [rd 0 4 6 0 3 h44], ?_⟩
  refine cw1 Tryz.call117 (dreturn_ht d12 S.D y z y.toNat (thr_at hT) (thr_nat hg) (by omega)) (tk8 (sf7 (sf6 (sf6 (sf6 (sf6 (sf6 (sf7 (sf7 h44))))))))) fun w46 h47 => ⟨kd [], ?_⟩
  refine go [] ?_
  have hp_ := rel_ok (S := S) (o := (3, y, z)) hwy hT hn
  have hp2_ : relS S (3, y, z) wy = ({ S with q := S.q.tail, T := S.T ++ [⟨S.now, (3, y, z), wy, S.q.headD 1⟩], D := giv S.D (3, y, z) } : Wst) := hp_.2.2.trans (if_pos (by omega))
  have h48 := tk8 (sf7 (sf7 (sf7 (sf4 (sf5 (sf4 (sf7 (sf7 h47))))))))
  have h49 : sat g w46 [Wd b ({ S with q := S.q.tail, T := S.T ++ [⟨S.now, (3, y, z), wy, S.q.headD 1⟩], D := giv S.D (3, y, z) } : Wst), Cl r17 [iV 3, iV y, uV z] 32, R] := wd_close (hp2_ ▸ wok_rel hW15 (3, y, z) wy) h48
  exact en (.tuple #[iV ((S.q.headD 1)), iV 0]) [] ⟨_, [Wd b ({ S with q := S.q.tail, T := S.T ++ [⟨S.now, (3, y, z), wy, S.q.headD 1⟩], D := giv S.D (3, y, z) } : Wst)], rfl, ⟨by rw [hp_.1, hp_.2.1], by rw [hp2_]⟩, (tk2 (sf1 (sf2 h49)))⟩
 refine go [.v 11 1 (qeF ((S.q.headD 1)) 1)] ?_
 have hp_ := rel_ok (S := S) (o := (3, y, z)) hwy hT hn
 have hp2_ : relS S (3, y, z) wy = ({ S with q := S.q.tail, T := S.T ++ [⟨S.now, (3, y, z), wy, S.q.headD 1⟩] } : Wst) := hp_.2.2.trans (if_neg (by omega))
 have h51 := tk8 (sf7 (sf7 (sf7 (sf7 (sf3 (sf2 (sf7 (sf7 h38))))))))
 have h52 : sat g w37 [Wd b ({ S with q := S.q.tail, T := S.T ++ [⟨S.now, (3, y, z), wy, S.q.headD 1⟩] } : Wst), Cl r17 [iV 3, iV y, uV z] 32, R] := wd_close (hp2_ ▸ wok_rel hW15 (3, y, z) wy) h51
 exact en (.tuple #[iV ((S.q.headD 1)), iV 0]) [] ⟨_, [Wd b ({ S with q := S.q.tail, T := S.T ++ [⟨S.now, (3, y, z), wy, S.q.headD 1⟩] } : Wst)], rfl, ⟨by rw [hp_.1, hp_.2.1], by rw [hp2_]⟩, (tk2 (sf1 (sf2 h52)))⟩

theorem wrel_ht (b : Nat) (S : Wst) (x y z wy : Int) (hz0 : 0 ≤ z) (hz1 : z ≤ 4294967295) : HT Tryz.prog 27 [pV b, .agg #[iV x, iV y, uV z], iV wy] [Wd b S] (fun v K => v = Value.tuple #[Value.int .i64 (relA S (x, y, z) wy), Value.int .i64 (relE S (x, y, z) wy)] ∧ K = [Wd b (relS S (x, y, z) wy)]) := by
  by_cases h : KGood (x, y, z)
  · by_cases hw : 1 ≤ wy ∧ wy ≤ 3
    · by_cases hT : Thr S (x, y, z)
      · by_cases hn : S.T.length < 10000
        · rcases kgood_k h with h1 | h1 | h1
          · have h2 : x = 1 := h1
            subst h2
            exact wrel_1 b S y z hz0 hz1 h h.2.2.1 h.2.2.2.1 h.2.2.2.2 hT wy hw hn
          · have h2 : x = 2 := h1
            subst h2
            exact wrel_2 b S y z hz0 hz1 h h.2.2.1 h.2.2.2.1 h.2.2.2.2 hT wy hw hn
          · have h2 : x = 3 := h1
            subst h2
            exact wrel_3 b S y z hz0 hz1 h h.2.2.1 h.2.2.2.1 h.2.2.2.2 hT wy hw hn
        · exact wrel_full b S x y z hz0 hz1 h h.2.2.1 h.2.2.2.1 h.2.2.2.2 ⟨h.1, h.2.1⟩ hT wy hw (by omega)
      · exact wrel_none b S x y z hz0 hz1 h h.2.2.1 h.2.2.2.1 h.2.2.2.2 ⟨h.1, h.2.1⟩ hT wy hw
    · exact wrel_wy b S x y z hz0 hz1 h h.2.2.1 h.2.2.2.1 h.2.2.2.2 ⟨h.1, h.2.1⟩ wy (by omega)
  · exact wrel_no b S x y z wy hz0 hz1 h

end Go.Proofs.YtggfnbpohmhphaaGreatDoor

/-
  Steps of scripts, and what they do. No program in sight.
-/
namespace Go.Proofs.YtggfnbpohmhphaaGreatDoor
structure Sq where
  d : Int
  k : Int
  a : Int
  o : Ky
  wy : Int
  tk : Int
  tx : List UInt8
def eSq (s : Sq) : List Value := [.int .i64 s.d, .int .i64 s.k, .int .i64 s.a, .int .i64 s.o.1, .int .i64 s.o.2.1, .int .u32 s.o.2.2, .int .i64 s.wy, .int .i64 s.tk, .string (St s.tx)]
theorem eSq_ok : Enc 9 eSq := ⟨fun _ => rfl, fun x v hv => by simp [eSq] at hv; rcases hv with rfl | rfl | rfl | rfl | rfl | rfl | rfl | rfl | rfl <;> rfl⟩
def SqOk (s : Sq) : Prop := 0 ≤ s.o.2.2 ∧ s.o.2.2 ≤ 4294967295
/-- Short scripts. -/
def Sho (L : List Sq) (m : Int) : Prop := (L.length : Int) ≤ m ∧ ∀ s ∈ L, s.tx.length ≤ 40
instance (L : List Sq) (m : Int) : Decidable (Sho L m) := by unfold Sho; infer_instance
theorem sho_no {L : List Sq} {m : Int} (h : m < (L.length : Int)) : decide (Sho L m) = false := decide_eq_false fun q => by have := q.1; omega
theorem sho_long {L : List Sq} {m : Int} {i : Nat} {s : Sq} (hs : L[i]? = some s) (h : 40 < s.tx.length) : decide (Sho L m) = false := decide_eq_false fun q => by have := q.2 s (List.mem_of_getElem? hs); omega
theorem sho_yes {L : List Sq} {m : Int} {i : Nat} (h : (L.length : Int) ≤ m) (h2 : ∀ s ∈ L.take i, s.tx.length ≤ 40) (hi : L.length ≤ i) : decide (Sho L m) = true := decide_eq_true ⟨h, fun s hs => h2 s (by rw [List.take_of_length_le hi]; exact hs)⟩
theorem tk_all2 {α : Type} {p : α → Prop} {L : List α} {i : Nat} {x : α} (h : ∀ s ∈ L.take i, p s) (hx : L[i]? = some x) (hp : p x) : ∀ s ∈ L.take (i + 1), p s := fun s hs => by
  rw [List.take_add_one, hx] at hs
  rcases List.mem_append.1 hs with hs | hs
  · exact h s hs
  · rw [Option.toList_some, List.mem_singleton] at hs
    rw [hs]
    exact hp
def doS (S : Wst) (s : Sq) : Wst := if s.d = 0 then acqS S s.k s.a else if s.d = 1 then relS S s.o s.wy else if s.d = 2 then renS S s.o s.tk else if s.d = 3 then tckS S s.tk else if s.d = 4 then aswS S s.tx else S
def doO (S : Wst) (s : Sq) : Ky := if s.d = 0 then acqO S s.k s.a else (0, 0, 0)
def doB (S : Wst) (s : Sq) : Bool := decide (s.d = 0 ∧ acqE S s.k s.a = 0)
section
variable {S : Wst} {s : Sq}
theorem do0 (h : s.d = 0) : doS S s = acqS S s.k s.a ∧ doO S s = acqO S s.k s.a ∧ doB S s = decide (acqE S s.k s.a = 0) := by
  refine ⟨if_pos h, if_pos h, ?_⟩
  unfold doB
  congr 1
  exact propext ⟨fun q => q.2, fun q => ⟨h, q⟩⟩
theorem don (h : s.d ≠ 0) : doO S s = (0, 0, 0) ∧ doB S s = false := ⟨if_neg h, decide_eq_false fun q => h q.1⟩
theorem do1 (h : s.d = 1) : doS S s = relS S s.o s.wy := by unfold doS; rw [if_neg (by omega), if_pos h]
theorem do2 (h : s.d = 2) : doS S s = renS S s.o s.tk := by unfold doS; rw [if_neg (by omega), if_neg (by omega), if_pos h]
theorem do3 (h : s.d = 3) : doS S s = tckS S s.tk := by unfold doS; rw [if_neg (by omega), if_neg (by omega), if_neg (by omega), if_pos h]
theorem do4 (h : s.d = 4) : doS S s = aswS S s.tx := by unfold doS; rw [if_neg (by omega), if_neg (by omega), if_neg (by omega), if_neg (by omega), if_pos h]
theorem do5 (h : s.d ≠ 0 ∧ s.d ≠ 1 ∧ s.d ≠ 2 ∧ s.d ≠ 3 ∧ s.d ≠ 4) : doS S s = S := by unfold doS; rw [if_neg h.1, if_neg h.2.1, if_neg h.2.2.1, if_neg h.2.2.2.1, if_neg h.2.2.2.2]
theorem wok_do (h : WOk S) (s : Sq) : WOk (doS S s) := by
  unfold doS
  split
  · exact wok_acq h _ _
  · split
    · exact wok_rel h _ _
    · split
      · exact wok_ren h _ _
      · split
        · exact wok_tck h _
        · split
          · exact wok_asw h _
          · exact h
end
theorem allK_le (k : Int) {X : Xs} (h : X.length = 64) : (allK k X).length ≤ 64 := by
  rw [allK_len]
  have := inS_len 1 (As X) 0
  rw [as_len, h] at this
  exact this
theorem allS_le {S : Wst} (h : WOk S) : (allS S).length ≤ 192 := by
  have h1 := allK_le 1 h.fl
  have h2 := allK_le 2 h.bl
  have h3 := allK_le 3 h.dl
  unfold allS
  rw [List.length_append, List.length_append]
  omega
/-- The world behind the first steps. -/
def mdS (S : Wst) (L : List Sq) (i : Nat) : Wst := (L.take i).foldl doS S
theorem mdS_go {S : Wst} {L : List Sq} {i : Nat} {s : Sq} (h : L[i]? = some s) : mdS S L (i + 1) = doS (mdS S L i) s := by
  unfold mdS
  rw [List.take_add_one, h, List.foldl_append]
  rfl
theorem same_f2 {L M : List Ky} {i : Nat} {x y : Ky} (hx : L[i]? = some x) (hy : M[i]? = some y) (h : ¬ (x.1 = y.1 ∧ x.2.1 = y.2.1 ∧ x.2.2 = y.2.2)) : decide (L = M) = false := decide_eq_false fun e => by
  subst e
  rw [hx] at hy
  obtain rfl := Option.some.inj hy
  exact h ⟨rfl, rfl, rfl⟩
theorem same_go2 {L M : List Ky} {i : Nat} {x y : Ky} (h : L.take i = M.take i) (hx : L[i]? = some x) (hy : M[i]? = some y) (e : x.1 = y.1 ∧ x.2.1 = y.2.1 ∧ x.2.2 = y.2.2) : L.take (i + 1) = M.take (i + 1) := by
  obtain ⟨a, b, c⟩ := x
  obtain ⟨a', b', c'⟩ := y
  obtain ⟨rfl, rfl, rfl⟩ := e
  rw [List.take_add_one, List.take_add_one, h, hx, hy]
theorem same_t2 {L M : List Ky} {i : Nat} (h : L.take i = M.take i) (h1 : L.length ≤ i) (h2 : M.length ≤ i) : decide (L = M) = true := by
  rw [List.take_of_length_le h1, List.take_of_length_le h2] at h
  exact decide_eq_true h
theorem same_n2 {L M : List Ky} (h : L.length ≠ M.length) : decide (L = M) = false := decide_eq_false fun e => h (by rw [e])
end Go.Proofs.YtggfnbpohmhphaaGreatDoor

/- Walks, printed by my generator o14.py. -/
namespace Go.Proofs.YtggfnbpohmhphaaGreatDoor
theorem q14e32_eql_t {n : Nat} {l : Fr} {o : Oper} {x y : Operand} (a0 : Int) (a1 : Int) (a2 : Int) (c0 : Int) (c1 : Int) (c2 : Int) (ho : o.op = .binOp .eql 32 x y 32) (hx : fe n l x = .agg #[.int .i64 a0, .int .i64 a1, .int .u32 a2]) (hy : fe n l y = .agg #[.int .i64 c0, .int .i64 c1, .int .u32 c2]) (h : a0 = c0 ∧ a1 = c1 ∧ a2 = c2) (w : World) : (execOp (fe n l) o).run Tryz.prog w = .ok (.value (.bool true)) w := by
  obtain ⟨rfl, rfl, rfl⟩ := h
  simp [execOp, ho, hx, hy, go_sem]
theorem q14e32_neq_t {n : Nat} {l : Fr} {o : Oper} {x y : Operand} (a0 : Int) (a1 : Int) (a2 : Int) (c0 : Int) (c1 : Int) (c2 : Int) (ho : o.op = .binOp .neq 32 x y 32) (hx : fe n l x = .agg #[.int .i64 a0, .int .i64 a1, .int .u32 a2]) (hy : fe n l y = .agg #[.int .i64 c0, .int .i64 c1, .int .u32 c2]) (h : a0 = c0 ∧ a1 = c1 ∧ a2 = c2) (w : World) : (execOp (fe n l) o).run Tryz.prog w = .ok (.value (.bool false)) w := by
  obtain ⟨rfl, rfl, rfl⟩ := h
  simp [execOp, ho, hx, hy, go_sem]
set_option maxHeartbeats 4000000 in
theorem lfile_ht (y z : Int) : HT Tryz.prog 47 [iV y, uV z] [] (fun v K => v = .agg #[iV 1, iV y, uV z] ∧ K = []) := by
 refine hiS Tryz.func47 Tryz.ntmps47 fun g w0 R h0 => go [] <| nP 32 [iV 0, iV 0, uV 0] h0 (fun _ _ h12 => ?_)
 refine go [] <| sP [(0, iV 1), (1, iV y), (2, uV z)] [iV 1, iV y, uV z] h12 fun _ h14 => go [] ?_
 exact en (.agg #[iV 1, iV y, uV z]) [rd 0 0 0 0 3 h14] ⟨_, _, rfl, ⟨rfl, rfl⟩, (tk1 (sf1 h14))⟩

set_option maxHeartbeats 4000000 in
theorem works_ht (wo : World) (hg : Lett wo) : HT Tryz.prog 12 [] [Old wo] (fun v K => v = .bool true ∧ K = [Old wo]) := by
 refine hiS Tryz.func12 Tryz.ntmps12 fun g w0 R h0 => go [] <| cP Tryz.call13 (wnew_ht 1 (by omega)) h0 ?_
 rintro v K _ (⟨b10, rfl, rfl⟩) h12
 have h13 := ap1 h12
 refine go [] <| cl2 Tryz.call30 ((by have h_ := wansw_ht wo hg b10 (wnew 1) [108, 111, 111, 102, 111] (by decide); rw [show aswE (wnew 1) [108, 111, 111, 102, 111] = 0 from by kernel_rfl] at h_; exact h_)) h13 fun _ h15 => ?_
 refine go [] <| cl1 Tryz.call28 ((by have h_ := wacq_ht b10 (aswS (wnew 1) [108, 111, 111, 102, 111]) 1 5; rw [show acqO (aswS (wnew 1) [108, 111, 111, 102, 111]) 1 5 = ((0, 0, 0) : Ky) from by kernel_rfl, show acqE (aswS (wnew 1) [108, 111, 111, 102, 111]) 1 5 = 15 from by kernel_rfl] at h_; exact h_)) h15 fun _ h17 => ?_
 refine go [] <| nP 32 [iV 0, iV 0, uV 0] h17 (fun _ _ h20 => ?_)
 refine sP [(0, iV 0), (1, iV 0), (2, uV 0)] [iV 0, iV 0, uV 0] h20 fun _ h22 => ?_
 have h23 := tk4 (sf3 (sf2 (sf3 (sf3 h22))))
 refine go [] <| cl1 Tryz.call28 ((by have h_ := wacq_ht b10 (acqS (aswS (wnew 1) [108, 111, 111, 102, 111]) 1 5) 1 5; rw [show acqO (acqS (aswS (wnew 1) [108, 111, 111, 102, 111]) 1 5) 1 5 = ((1, 0, 1) : Ky) from by kernel_rfl, show acqE (acqS (aswS (wnew 1) [108, 111, 111, 102, 111]) 1 5) 1 5 = 0 from by kernel_rfl] at h_; exact h_)) h23 fun _ h25 => ?_
 refine go [] <| nP 32 [iV 0, iV 0, uV 0] h25 (fun _ _ h28 => ?_)
 refine sP [(0, iV 1), (1, iV 0), (2, uV 1)] [iV 1, iV 0, uV 1] h28 fun _ h30 => ?_
 have h31 := tk5 (sf4 (sf3 (sf4 (sf4 (sf4 h30)))))
 refine go [] <| cl1 Tryz.call28 ((by have h_ := wacq_ht b10 (acqS (acqS (aswS (wnew 1) [108, 111, 111, 102, 111]) 1 5) 1 5) 2 100; rw [show acqO (acqS (acqS (aswS (wnew 1) [108, 111, 111, 102, 111]) 1 5) 1 5) 2 100 = ((2, 0, 1) : Ky) from by kernel_rfl, show acqE (acqS (acqS (aswS (wnew 1) [108, 111, 111, 102, 111]) 1 5) 1 5) 2 100 = 0 from by kernel_rfl] at h_; exact h_)) h31 fun _ h33 => ?_
 refine go [] <| nP 32 [iV 0, iV 0, uV 0] h33 (fun _ _ h36 => ?_)
 refine sP [(0, iV 2), (1, iV 0), (2, uV 1)] [iV 2, iV 0, uV 1] h36 fun _ h38 => go [] <| dw (fls [0, 1, 2, 3, 4, 5, 6, 7] (Tr.an 8 (fls [9, 10, 11, 12, 13, 14, 15, 16, 17, 18, 19, 20, 21] (Tr.an 22 (fls [23, 24] Tr.nil))))) h38 fun _ h40 => go [rd 7 7 2 0 3 h40] <| cw0 Tryz.call47 (lfile_ht 0 1) h40 fun _ h42 => ⟨kd [rd 0 7 2 0 3 h42], ?_⟩
 refine lw (.bool false) (fun _ => q14e32_neq_t (x := (Operand.tmp 54)) (y := (Operand.tmp 55)) 1 0 1 1 0 1 (by kernel_rfl) (by kernel_rfl) (by kernel_rfl) ⟨rfl, rfl, rfl⟩ _) ?_
 have h43 := tk6 (sf5 (sf4 (sf5 (sf5 (sf5 (sf5 h42))))))
 refine go [rd 7 17 0 0 1 h42] <| cw1 Tryz.call29 ((by have h_ := wtick_ht b10 (acqS (acqS (acqS (aswS (wnew 1) [108, 111, 111, 102, 111]) 1 5) 1 5) 2 100) 7; rw [show tckE (acqS (acqS (acqS (aswS (wnew 1) [108, 111, 111, 102, 111]) 1 5) 1 5) 2 100) 7 = 0 from by kernel_rfl] at h_; exact h_)) h43 fun _ h45 => ⟨kd [], ?_⟩
 refine go [rd 9 1 2 0 3 h45] <| cl1 Tryz.call27 ((by have h_ := wrel_ht b10 (tckS (acqS (acqS (acqS (aswS (wnew 1) [108, 111, 111, 102, 111]) 1 5) 1 5) 2 100) 7) 1 0 1 1 (by omega) (by omega); rw [show relA (tckS (acqS (acqS (acqS (aswS (wnew 1) [108, 111, 111, 102, 111]) 1 5) 1 5) 2 100) 7) ((1, 0, 1) : Ky) 1 = 3 from by kernel_rfl, show relE (tckS (acqS (acqS (acqS (aswS (wnew 1) [108, 111, 111, 102, 111]) 1 5) 1 5) 2 100) 7) ((1, 0, 1) : Ky) 1 = 0 from by kernel_rfl] at h_; exact h_)) h45 fun _ h47 => ?_
 refine go [rd 10 1 2 0 3 h47] <| cl1 Tryz.call27 ((by have h_ := wrel_ht b10 (relS (tckS (acqS (acqS (acqS (aswS (wnew 1) [108, 111, 111, 102, 111]) 1 5) 1 5) 2 100) 7) ((1, 0, 1) : Ky) 1) 1 0 1 1 (by omega) (by omega); rw [show relA (relS (tckS (acqS (acqS (acqS (aswS (wnew 1) [108, 111, 111, 102, 111]) 1 5) 1 5) 2 100) 7) ((1, 0, 1) : Ky) 1) ((1, 0, 1) : Ky) 1 = 1 from by kernel_rfl, show relE (relS (tckS (acqS (acqS (acqS (aswS (wnew 1) [108, 111, 111, 102, 111]) 1 5) 1 5) 2 100) 7) ((1, 0, 1) : Ky) 1) ((1, 0, 1) : Ky) 1 = 0 from by kernel_rfl] at h_; exact h_)) h47 fun _ h49 => ?_
 refine go [rd 11 1 2 0 3 h49] <| cl1 Tryz.call27 ((by have h_ := wrel_ht b10 (relS (relS (tckS (acqS (acqS (acqS (aswS (wnew 1) [108, 111, 111, 102, 111]) 1 5) 1 5) 2 100) 7) ((1, 0, 1) : Ky) 1) ((1, 0, 1) : Ky) 1) 1 0 1 1 (by omega) (by omega); rw [show relA (relS (relS (tckS (acqS (acqS (acqS (aswS (wnew 1) [108, 111, 111, 102, 111]) 1 5) 1 5) 2 100) 7) ((1, 0, 1) : Ky) 1) ((1, 0, 1) : Ky) 1) ((1, 0, 1) : Ky) 1 = 0 from by kernel_rfl, show relE (relS (relS (tckS (acqS (acqS (acqS (aswS (wnew 1) [108, 111, 111, 102, 111]) 1 5) 1 5) 2 100) 7) ((1, 0, 1) : Ky) 1) ((1, 0, 1) : Ky) 1) ((1, 0, 1) : Ky) 1 = 5 from by kernel_rfl] at h_; exact h_)) h49 fun _ h51 => ?_
 refine go [] <| cl1 Tryz.call28 ((by have h_ := wacq_ht b10 (relS (relS (relS (tckS (acqS (acqS (acqS (aswS (wnew 1) [108, 111, 111, 102, 111]) 1 5) 1 5) 2 100) 7) ((1, 0, 1) : Ky) 1) ((1, 0, 1) : Ky) 1) ((1, 0, 1) : Ky) 1) 1 5; rw [show acqO (relS (relS (relS (tckS (acqS (acqS (acqS (aswS (wnew 1) [108, 111, 111, 102, 111]) 1 5) 1 5) 2 100) 7) ((1, 0, 1) : Ky) 1) ((1, 0, 1) : Ky) 1) ((1, 0, 1) : Ky) 1) 1 5 = ((1, 0, 2) : Ky) from by kernel_rfl, show acqE (relS (relS (relS (tckS (acqS (acqS (acqS (aswS (wnew 1) [108, 111, 111, 102, 111]) 1 5) 1 5) 2 100) 7) ((1, 0, 1) : Ky) 1) ((1, 0, 1) : Ky) 1) ((1, 0, 1) : Ky) 1) 1 5 = 0 from by kernel_rfl] at h_; exact h_)) h51 fun _ h53 => ?_
 refine go [] <| nP 32 [iV 0, iV 0, uV 0] h53 (fun _ _ h56 => ?_)
 refine sP [(0, iV 1), (1, iV 0), (2, uV 2)] [iV 1, iV 0, uV 2] h56 fun _ h58 => go [] <| dw (fls [0, 1, 2, 3, 4, 5, 6, 7, 8, 9, 10, 11, 12, 13, 14, 15, 16, 17, 18, 19, 20, 21, 22, 23] (Tr.an 24 (fls [25, 26, 27, 28] (Tr.an 29 (Tr.an 30 (fls [31, 32, 33, 34] (Tr.an 35 (fls [36, 37, 38] Tr.nil)))))))) h58 fun _ h60 => go [rd 13 23 0 0 3 h60] <| cw0 Tryz.call47 (lfile_ht 0 2) h60 fun _ h62 => ⟨kd [rd 0 23 0 0 3 h62], ?_⟩
 refine lw (.bool true) (fun _ => q14e32_eql_t (x := (Operand.tmp 118)) (y := (Operand.tmp 119)) 1 0 2 1 0 2 (by kernel_rfl) (by kernel_rfl) (by kernel_rfl) ⟨rfl, rfl, rfl⟩ _) ?_
 have h64 := tk7 (sf6 (sf5 (sf6 (sf6 (sf6 (sf6 (sf6 h62)))))))
 refine go [] <| cG Tryz.call17 (wledg_ht b10 (acqS (relS (relS (relS (tckS (acqS (acqS (acqS (aswS (wnew 1) [108, 111, 111, 102, 111]) 1 5) 1 5) 2 100) 7) ((1, 0, 1) : Ky) 1) ((1, 0, 1) : Ky) 1) ((1, 0, 1) : Ky) 1) 1 5)) h64 ?_
 rintro v K _ (⟨b63, rfl, rfl⟩) h66
 have h67 := ap2 h66
 refine ⟨kd [], ?_⟩
 refine cw1 Tryz.call23 ((by have h_ := lglen_ht b63 ((acqS (relS (relS (relS (tckS (acqS (acqS (acqS (aswS (wnew 1) [108, 111, 111, 102, 111]) 1 5) 1 5) 2 100) 7) ((1, 0, 1) : Ky) 1) ((1, 0, 1) : Ky) 1) ((1, 0, 1) : Ky) 1) 1 5).T); rw [show List.length ((acqS (relS (relS (relS (tckS (acqS (acqS (acqS (aswS (wnew 1) [108, 111, 111, 102, 111]) 1 5) 1 5) 2 100) 7) ((1, 0, 1) : Ky) 1) ((1, 0, 1) : Ky) 1) ((1, 0, 1) : Ky) 1) 1 5).T) = 2 from by kernel_rfl] at h_; exact h_)) (tk8 (sf7 (sf6 (sf7 (sf7 (sf7 (sf7 (sf7 (sf7 h67))))))))) fun _ h70 => ⟨kd [], ?_⟩
 have h71 := tk8 (sf7 (sf6 (sf7 (sf7 (sf7 (sf7 (sf7 (sf7 h70))))))))
 refine go [] <| cw1 Tryz.call20 ((by have h_ := wnow_ht b10 (acqS (relS (relS (relS (tckS (acqS (acqS (acqS (aswS (wnew 1) [108, 111, 111, 102, 111]) 1 5) 1 5) 2 100) 7) ((1, 0, 1) : Ky) 1) ((1, 0, 1) : Ky) 1) ((1, 0, 1) : Ky) 1) 1 5); rw [show Wst.now (acqS (relS (relS (relS (tckS (acqS (acqS (acqS (aswS (wnew 1) [108, 111, 111, 102, 111]) 1 5) 1 5) 2 100) 7) ((1, 0, 1) : Ky) 1) ((1, 0, 1) : Ky) 1) ((1, 0, 1) : Ky) 1) 1 5) = 7 from by kernel_rfl] at h_; exact h_)) h71 fun _ h73 => ⟨kd [], ?_⟩
 refine go [] ?_
 exact en (.bool true) [] ⟨_, _, rfl, ⟨rfl, rfl⟩, (tk2 (sf1 (sf7 (tk8 (sf7 (sf6 (sf6 (sf6 (sf6 (sf6 (sf6 (sf7 h73))))))))))))⟩

end Go.Proofs.YtggfnbpohmhphaaGreatDoor

/- Walks, printed by my generator o15.py. -/
namespace Go.Proofs.YtggfnbpohmhphaaGreatDoor
theorem q15e32_neq_t {n : Nat} {l : Fr} {o : Oper} {x y : Operand} (a0 : Int) (a1 : Int) (a2 : Int) (c0 : Int) (c1 : Int) (c2 : Int) (ho : o.op = .binOp .neq 32 x y 32) (hx : fe n l x = .agg #[.int .i64 a0, .int .i64 a1, .int .u32 a2]) (hy : fe n l y = .agg #[.int .i64 c0, .int .i64 c1, .int .u32 c2]) (h : a0 = c0 ∧ a1 = c1 ∧ a2 = c2) (w : World) : (execOp (fe n l) o).run Tryz.prog w = .ok (.value (.bool false)) w := by
  obtain ⟨rfl, rfl, rfl⟩ := h
  simp [execOp, ho, hx, hy, go_sem]
theorem q15e32_neq_f {n : Nat} {l : Fr} {o : Oper} {x y : Operand} (a0 : Int) (a1 : Int) (a2 : Int) (c0 : Int) (c1 : Int) (c2 : Int) (ho : o.op = .binOp .neq 32 x y 32) (hx : fe n l x = .agg #[.int .i64 a0, .int .i64 a1, .int .u32 a2]) (hy : fe n l y = .agg #[.int .i64 c0, .int .i64 c1, .int .u32 c2]) (h : ¬ (a0 = c0 ∧ a1 = c1 ∧ a2 = c2)) (w : World) : (execOp (fe n l) o).run Tryz.prog w = .ok (.value (.bool true)) w := by
  by_cases h0 : a0 = c0
  · skip
    by_cases h1 : a1 = c1
    · skip
      by_cases h2 : a2 = c2
      · exact absurd ⟨h0, h1, h2⟩ h
      · simp [execOp, ho, hx, hy, go_sem, h0, h1, h2]
    · simp [execOp, ho, hx, hy, go_sem, h0, h1]
  · simp [execOp, ho, hx, hy, go_sem, h0]
set_option maxHeartbeats 4000000 in
theorem short_ht (p : Option Addr) (n c : Nat) (L : List Sq) (X : Assn) (hX : Gv X p n (fl eSq L)) (hL : L.length = n) (hn : n ≤ 1099511627776) (m : Int) : HT Tryz.prog 11 [.slice p n c, iV m] [X] (fun v K => v = .bool (decide (Sho L m)) ∧ K = [X]) := by
 refine hiS Tryz.func11 Tryz.ntmps11 fun g w0 R h0 => go [.s 1 3] ?_
 by_cases c10 : (n : Int) > m
 ·
  refine go [.v 1 3 (oT ((n : Int) > m))] ?_
  exact en (.bool false) [] ⟨_, _, rfl, ⟨by rw [sho_no (by omega)], rfl⟩, h0⟩
 refine go [.v 1 3 (oF ((n : Int) > m))] ?_
 refine lpS (fun mz_ a w => ∃ i : Nat, ∃ lr : Fr, mz_ = n - i ∧ (i ≤ n) ∧ (∀ s ∈ L.take i, s.tx.length ≤ 40) ∧ a = mk 23 (([(0, .slice p n c), (5, iV (i : Int))] : Fr) ++ lr) ∧ sat g w [X, R]) (n - 0) ⟨0, _, rfl, (Nat.zero_le _), (fun _ hb_ => nomatch hb_), (lvF [.k 0 (.slice p n c), .o 5 (oJ .i64 0 (0 : Int))]), h0⟩ ?_
 rintro m12 a13 w14 ⟨i, lr11, rfl, hi, hs_, rfl, h15⟩
 refine ga <| go [.s 4 3] ?_
 by_cases c16 : (i : Int) < (n : Int)
 ·
  obtain ⟨b17, off19, hp18⟩ := gv_ptr (j := 0) h15 rfl hX (by omega)
  refine go [.v 4 3 (oT ((i : Int) < (n : Int))), .s 6 2] <| lwP (.pointer (some ⟨b17, off19 + i * 9, none⟩)) (law_indexSlP (x := (Operand.tmp 16)) (i := (Operand.tmp 17)) (p := p) (b := b17) (off := off19) (z := (i : Int)) (len := n) (cap := c) (by kernel_rfl) Tryz.underlying22 9 (by kernel_rfl) i (by kernel_rfl) hp18 (by kernel_rfl) (by omega) (by omega) (off19 + i * 9) (by omega) _) ?_
  obtain ⟨x20, hx21⟩ : ∃ x, L[i]? = some x := ⟨_, List.getElem?_eq_getElem (by rw [hL]; omega)⟩
  refine go [.r 6 4 b17 (off19 + i * 9 + 8) [.string (St x20.tx)] ⟨gv_cell (j := 0) h15 rfl hX hp18 (fl_get eSq_ok (j := 8) (v := .string (St x20.tx)) hx21 rfl) (off19 + i * 9 + 8) (by omega), trivial⟩, .v 6 5 (⟨iV ((St x20.tx).size : Int), iV (((x20.tx.length : Nat) : Int)), (ov_int (st_len _))⟩), .s 6 6] ?_
  by_cases c22 : ((x20.tx.length : Nat) : Int) > 40
  ·
   refine go [.v 6 6 (oT (((x20.tx.length : Nat) : Int) > 40))] <| up <| go [] ?_
   exact en (.bool false) [] ⟨_, _, rfl, ⟨by rw [sho_long hx21 (by omega)], rfl⟩, h15⟩
  refine go [.v 6 6 (oF (((x20.tx.length : Nat) : Int) > 40)), .v 5 1 (oIr ((i : Int) + 1))] ?_
  refine enL ?_
  change ∃ n', n' < _ ∧ _
  refine ⟨(n - (i + 1)), by omega, (i + 1), _, rfl, (by omega), (tk_all2 hs_ hx21 (by omega)), (lvF [.k 0 (.slice p n c), .o 5 (oJ .i64 ((i : Int) + 1) ((((i + 1) : Nat) : Int)))]), h15⟩
 refine go [.v 4 3 (oF ((i : Int) < (n : Int)))] <| up <| go [] ?_
 exact en (.bool true) [] ⟨_, _, rfl, ⟨by rw [sho_yes (by omega) hs_ (by omega)], rfl⟩, h15⟩

set_option maxHeartbeats 4000000 in
theorem short_no (p : Option Addr) (n c : Nat) (m : Int) (hm : m < (n : Int)) : HT Tryz.prog 11 [.slice p n c, iV m] [] (fun v K => v = .bool false ∧ K = []) := by
 refine hiS Tryz.func11 Tryz.ntmps11 fun g w0 R h0 => go [.v 1 3 (oT ((n : Int) > m))] ?_
 exact en (.bool false) [] ⟨_, _, rfl, ⟨rfl, rfl⟩, h0⟩

set_option maxHeartbeats 4000000 in
theorem same_ht (p q : Option Addr) (n m c d : Nat) (L M : List Ky) (X Y : Assn) (hX : Gv X p n (fl eO L)) (hY : Gv Y q m (fl eO M)) (hlL : L.length = n) (hlM : M.length = m) (hn : n ≤ 1099511627776) : HT Tryz.prog 26 [.slice p n c, .slice q m d] [X, Y] (fun v K => v = .bool (decide (L = M)) ∧ K = [X, Y]) := by
 refine hiS Tryz.func26 Tryz.ntmps26 fun g w0 R h0 => go [.s 1 4] ?_
 by_cases c10 : (n : Int) = (m : Int)
 ·
  refine go [.v 1 4 (qnF (n : Int) (m : Int))] ?_
  refine lpS (fun mz_ a w => ∃ i : Nat, ∃ lr : Fr, mz_ = n - i ∧ (i ≤ n) ∧ (L.take i = M.take i) ∧ a = mk 26 (([(0, .slice p n c), (1, .slice q m d), (5, iV (i : Int))] : Fr) ++ lr) ∧ sat g w [X, Y, R]) (n - 0) ⟨0, _, rfl, (Nat.zero_le _), rfl, (lvF [.k 0 (.slice p n c), .k 1 (.slice q m d), .o 5 (oJ .i64 0 (0 : Int))]), h0⟩ ?_
  rintro m12 a13 w14 ⟨i, lr11, rfl, hi, ht, rfl, h15⟩
  refine ga <| go [.s 4 3] ?_
  by_cases c16 : (i : Int) < (n : Int)
  ·
   refine go [.v 4 3 (oT ((i : Int) < (n : Int)))] <| dw (fls [0, 1, 2, 3, 4, 5, 6, 7, 8] Tr.nil) h15 fun _ h18 => ?_
   obtain ⟨b19, off21, hp20⟩ := gv_ptr (j := 0) h18 rfl hX (by omega)
   refine go [.s 6 2] <| lw (.pointer (some ⟨b19, off21 + i * 3, none⟩)) (fun _ => law_indexSlP (x := (Operand.tmp 17)) (i := (Operand.tmp 18)) (p := p) (b := b19) (off := off21) (z := (i : Int)) (len := n) (cap := c) (by kernel_rfl) Tryz.underlying30 3 (by kernel_rfl) i (by kernel_rfl) hp20 (by kernel_rfl) (by omega) (by omega) (off21 + i * 3) (by omega) _) ?_
   obtain ⟨x22, hx23⟩ : ∃ x, L[i]? = some x := ⟨_, List.getElem?_eq_getElem (by rw [hlL]; omega)⟩
   obtain ⟨b24, off26, hp25⟩ := gv_ptr (j := 1) h18 rfl hY (by omega)
   refine go [.r 6 3 b19 (off21 + i * 3) [iV x22.1, iV x22.2.1, uV x22.2.2] ⟨gv_cell (j := 0) h18 rfl hX hp20 (fl_get eO_ok (j := 0) (v := iV x22.1) hx23 rfl) (off21 + i * 3) (by omega), gv_cell (j := 0) h18 rfl hX hp20 (fl_get eO_ok (j := 1) (v := iV x22.2.1) hx23 rfl) (off21 + i * 3 + 1) (by omega), gv_cell (j := 0) h18 rfl hX hp20 (fl_get eO_ok (j := 2) (v := uV x22.2.2) hx23 rfl) (off21 + i * 3 + 2) (by omega), trivial⟩, .s 6 6] <| lw (.pointer (some ⟨b24, off26 + i * 3, none⟩)) (fun _ => law_indexSlP (x := (Operand.tmp 21)) (i := (Operand.tmp 22)) (p := q) (b := b24) (off := off26) (z := (i : Int)) (len := m) (cap := d) (by kernel_rfl) Tryz.underlying30 3 (by kernel_rfl) i (by kernel_rfl) hp25 (by kernel_rfl) (by omega) (by omega) (off26 + i * 3) (by omega) _) ?_
   obtain ⟨x27, hx28⟩ : ∃ x, M[i]? = some x := ⟨_, List.getElem?_eq_getElem (by rw [hlM]; omega)⟩
   refine go [.r 6 7 b24 (off26 + i * 3) [iV x27.1, iV x27.2.1, uV x27.2.2] ⟨gv_cell (j := 1) h18 rfl hY hp25 (fl_get eO_ok (j := 0) (v := iV x27.1) hx28 rfl) (off26 + i * 3) (by omega), gv_cell (j := 1) h18 rfl hY hp25 (fl_get eO_ok (j := 1) (v := iV x27.2.1) hx28 rfl) (off26 + i * 3 + 1) (by omega), gv_cell (j := 1) h18 rfl hY hp25 (fl_get eO_ok (j := 2) (v := uV x27.2.2) hx28 rfl) (off26 + i * 3 + 2) (by omega), trivial⟩, .s 6 8] ?_
   by_cases c29 : x22.1 = x27.1
   ·
    by_cases c30 : x22.2.1 = x27.2.1
    ·
     by_cases c31 : x22.2.2 = x27.2.2
     ·
      refine lw (.bool false) (fun _ => q15e32_neq_t (x := (Operand.tmp 20)) (y := (Operand.tmp 24)) x22.1 x22.2.1 x22.2.2 x27.1 x27.2.1 x27.2.2 (by kernel_rfl) (by kernel_rfl) (by kernel_rfl) ⟨(by omega), (by omega), (by omega)⟩ _) <| go [.v 5 1 (oIr ((i : Int) + 1))] ?_
      refine enL ?_
      change ∃ n', n' < _ ∧ _
      refine ⟨(n - (i + 1)), by omega, (i + 1), _, rfl, (by omega), (same_go2 ht hx23 hx28 (by omega)), (lvF [.k 0 (.slice p n c), .k 1 (.slice q m d), .o 5 (oJ .i64 ((i : Int) + 1) ((((i + 1) : Nat) : Int)))]), h18⟩
     refine lw (.bool true) (fun _ => q15e32_neq_f (x := (Operand.tmp 20)) (y := (Operand.tmp 24)) x22.1 x22.2.1 x22.2.2 x27.1 x27.2.1 x27.2.2 (by kernel_rfl) (by kernel_rfl) (by kernel_rfl) (by omega) _) <| go [] <| up <| go [] ?_
     exact en (.bool false) [] ⟨_, _, rfl, ⟨by rw [same_f2 hx23 hx28 (by omega)], rfl⟩, h18⟩
    refine lw (.bool true) (fun _ => q15e32_neq_f (x := (Operand.tmp 20)) (y := (Operand.tmp 24)) x22.1 x22.2.1 x22.2.2 x27.1 x27.2.1 x27.2.2 (by kernel_rfl) (by kernel_rfl) (by kernel_rfl) (by omega) _) <| go [] <| up <| go [] ?_
    exact en (.bool false) [] ⟨_, _, rfl, ⟨by rw [same_f2 hx23 hx28 (by omega)], rfl⟩, h18⟩
   refine lw (.bool true) (fun _ => q15e32_neq_f (x := (Operand.tmp 20)) (y := (Operand.tmp 24)) x22.1 x22.2.1 x22.2.2 x27.1 x27.2.1 x27.2.2 (by kernel_rfl) (by kernel_rfl) (by kernel_rfl) (by omega) _) <| go [] <| up <| go [] ?_
   exact en (.bool false) [] ⟨_, _, rfl, ⟨by rw [same_f2 hx23 hx28 (by omega)], rfl⟩, h18⟩
  refine go [.v 4 3 (oF ((i : Int) < (n : Int)))] <| up <| go [] ?_
  exact en (.bool true) [] ⟨_, _, rfl, ⟨by rw [same_t2 ht (by omega) (by omega)], rfl⟩, h15⟩
 refine go [.v 1 4 (qnT (n : Int) (m : Int))] ?_
 exact en (.bool false) [] ⟨_, _, rfl, ⟨by rw [same_n2 (by omega)], rfl⟩, h0⟩

set_option maxHeartbeats 4000000 in
theorem do_ht (wo : World) (hg : Lett wo) (b : Nat) (S : Wst) (s : Sq) (hs : SqOk s) (hz0 : 0 ≤ s.o.2.2) (hz1 : s.o.2.2 ≤ 4294967295) (ht : s.tx.length ≤ 40) : HT Tryz.prog 14 [pV b, .agg #[iV s.d, iV s.k, iV s.a, iV s.o.1, iV s.o.2.1, uV s.o.2.2, iV s.wy, iV s.tk, .string (St s.tx)]] [Wd b S, Old wo] (fun v K => v = .tuple #[.agg #[iV (doO S s).1, iV (doO S s).2.1, uV (doO S s).2.2], .bool (doB S s)] ∧ K = [Wd b (doS S s), Old wo]) := by
 refine hiS Tryz.func14 Tryz.ntmps14 fun g w0 R h0 => go [] <| nP 36 [iV s.d, iV s.k, iV s.a, iV s.o.1, iV s.o.2.1, uV s.o.2.2, iV s.wy, iV s.tk, .string (St s.tx)] h0 (fun _ _ h12 => ?_)
 refine nP 32 [iV 0, iV 0, uV 0] h12 (fun _ _ h15 => ?_)
 refine go [rd 1 1 1 0 1 h15, .s 2 0] ?_
 by_cases c16 : s.d = 0
 ·
  have h17 := tk5 (sf4 (sf3 (sf3 (sf4 (sf4 h15)))))
  refine go [.v 2 0 (qeT s.d 0), rd 3 2 1 1 1 h15, rd 3 4 1 2 1 h15] <| cl1 Tryz.call28 (wacq_ht b S s.k s.a) h17 fun _ h19 => go [] <| nP 32 [iV 0, iV 0, uV 0] h19 (fun _ _ h22 => ?_)
  refine sP [(0, iV ((acqO S s.k s.a).1)), (1, iV ((acqO S s.k s.a).2.1)), (2, uV ((acqO S s.k s.a).2.2))] [iV ((acqO S s.k s.a).1), iV ((acqO S s.k s.a).2.1), uV ((acqO S s.k s.a).2.2)] h22 fun _ h24 => go [rd 4 0 0 0 3 h24, .s 4 2] ?_
  by_cases c25 : (acqE S s.k s.a) = 0
  ·
   have h26 := tk6 (sf5 (sf4 (sf4 (sf5 (sf5 (sf5 h24))))))
   refine go [.v 4 2 (qeT ((acqE S s.k s.a)) 0)] <| sP [(0, iV ((acqO S s.k s.a).1)), (1, iV ((acqO S s.k s.a).2.1)), (2, uV ((acqO S s.k s.a).2.2))] [iV ((acqO S s.k s.a).1), iV ((acqO S s.k s.a).2.1), uV ((acqO S s.k s.a).2.2)] h26 fun _ h28 => go [] ?_
   have hd_ := do0 (S := S) (s := s) (by omega)
   exact en (.tuple #[.agg #[iV ((acqO S s.k s.a).1), iV ((acqO S s.k s.a).2.1), uV ((acqO S s.k s.a).2.2)], .bool true]) [rd 0 0 0 0 3 h28] ⟨_, [Wd b (acqS S s.k s.a), Old wo], rfl, ⟨by rw [hd_.2.1, hd_.2.2, decide_eq_true (by omega : acqE S s.k s.a = 0)], by rw [hd_.1]⟩, (tk3 (sf2 (sf2 (sf5 (tk6 (sf5 (sf5 (sf3 (sf3 (sf4 (sf5 h28)))))))))))⟩
  have h31 := tk6 (sf5 (sf4 (sf4 (sf5 (sf5 (sf5 h24))))))
  refine go [.v 4 2 (qeF ((acqE S s.k s.a)) 0)] <| sP [(0, iV ((acqO S s.k s.a).1)), (1, iV ((acqO S s.k s.a).2.1)), (2, uV ((acqO S s.k s.a).2.2))] [iV ((acqO S s.k s.a).1), iV ((acqO S s.k s.a).2.1), uV ((acqO S s.k s.a).2.2)] h31 fun _ h33 => go [] ?_
  have hd_ := do0 (S := S) (s := s) (by omega)
  exact en (.tuple #[.agg #[iV ((acqO S s.k s.a).1), iV ((acqO S s.k s.a).2.1), uV ((acqO S s.k s.a).2.2)], .bool false]) [rd 0 0 0 0 3 h33] ⟨_, [Wd b (acqS S s.k s.a), Old wo], rfl, ⟨by rw [hd_.2.1, hd_.2.2, decide_eq_false (by omega : ¬ acqE S s.k s.a = 0)], by rw [hd_.1]⟩, (tk3 (sf2 (sf2 (sf5 (tk6 (sf5 (sf5 (sf3 (sf3 (sf4 (sf5 h33)))))))))))⟩
 refine go [.v 2 0 (qeF s.d 0), .s 5 0] ?_
 by_cases c36 : s.d = 1
 ·
  have h37 := tk5 (sf4 (sf3 (sf3 (sf4 (sf4 h15)))))
  refine go [.v 5 0 (qeT s.d 1), rd 6 2 1 3 3 h15, rd 6 4 1 6 1 h15] <| cl1 Tryz.call27 (wrel_ht b S s.o.1 s.o.2.1 s.o.2.2 s.wy (by omega) (by omega)) h37 fun _ h39 => ?_
  have h40 := tk5 (sf4 (sf3 (sf4 (sf4 (sf4 h39)))))
  refine go [] <| sP [(0, iV 0), (1, iV 0), (2, uV 0)] [iV 0, iV 0, uV 0] h40 fun _ h42 => go [] ?_
  have hd_ := don (S := S) (s := s) (by omega)
  have hs_ := do1 (S := S) (s := s) (by omega)
  exact en (.tuple #[.agg #[iV 0, iV 0, uV 0], .bool false]) [rd 0 0 0 0 3 h42] ⟨_, [Wd b (relS S ((s.o.1, s.o.2.1, s.o.2.2) : Ky) s.wy), Old wo], rfl, ⟨by rw [hd_.1, hd_.2], by rw [hs_]⟩, (tk3 (sf2 (sf2 (sf4 (tk5 (sf4 (sf4 (sf2 (sf3 (sf4 h42))))))))))⟩
 refine go [.v 5 0 (qeF s.d 1), .s 7 0] ?_
 by_cases c45 : s.d = 2
 ·
  have h46 := tk5 (sf4 (sf3 (sf3 (sf4 (sf4 h15)))))
  refine go [.v 7 0 (qeT s.d 2), rd 8 2 1 3 3 h15, rd 8 4 1 7 1 h15] <| cl1 Tryz.call25 (wrenew_ht b S s.o.1 s.o.2.1 s.o.2.2 s.tk (by omega) (by omega)) h46 fun _ h48 => ?_
  have h49 := tk5 (sf4 (sf3 (sf4 (sf4 (sf4 h48)))))
  refine go [] <| sP [(0, iV 0), (1, iV 0), (2, uV 0)] [iV 0, iV 0, uV 0] h49 fun _ h51 => go [] ?_
  have hd_ := don (S := S) (s := s) (by omega)
  have hs_ := do2 (S := S) (s := s) (by omega)
  exact en (.tuple #[.agg #[iV 0, iV 0, uV 0], .bool false]) [rd 0 0 0 0 3 h51] ⟨_, [Wd b (renS S ((s.o.1, s.o.2.1, s.o.2.2) : Ky) s.tk), Old wo], rfl, ⟨by rw [hd_.1, hd_.2], by rw [hs_]⟩, (tk3 (sf2 (sf2 (sf4 (tk5 (sf4 (sf4 (sf2 (sf3 (sf4 h51))))))))))⟩
 refine go [.v 7 0 (qeF s.d 2), .s 9 0] ?_
 by_cases c54 : s.d = 3
 ·
  have h55 := tk5 (sf4 (sf3 (sf3 (sf4 (sf4 h15)))))
  refine go [.v 9 0 (qeT s.d 3), rd 10 2 1 7 1 h15] <| cl1 Tryz.call29 (wtick_ht b S s.tk) h55 fun _ h57 => ?_
  have h58 := tk5 (sf4 (sf3 (sf4 (sf4 (sf4 h57)))))
  refine go [] <| sP [(0, iV 0), (1, iV 0), (2, uV 0)] [iV 0, iV 0, uV 0] h58 fun _ h60 => go [] ?_
  have hd_ := don (S := S) (s := s) (by omega)
  have hs_ := do3 (S := S) (s := s) (by omega)
  exact en (.tuple #[.agg #[iV 0, iV 0, uV 0], .bool false]) [rd 0 0 0 0 3 h60] ⟨_, [Wd b (tckS S s.tk), Old wo], rfl, ⟨by rw [hd_.1, hd_.2], by rw [hs_]⟩, (tk3 (sf2 (sf2 (sf4 (tk5 (sf4 (sf4 (sf2 (sf3 (sf4 h60))))))))))⟩
 refine go [.v 9 0 (qeF s.d 3), .s 11 0] ?_
 by_cases c63 : s.d = 4
 ·
  have h64 := tk5 (sf4 (sf4 (sf2 (sf2 (sf4 h15)))))
  refine go [.v 11 0 (qeT s.d 4), rd 12 2 1 8 1 h15] <| cl2 Tryz.call30 (wansw_ht wo hg b S s.tx (by omega)) h64 fun _ h66 => ?_
  have h67 := tk5 (sf4 (sf3 (sf3 (sf4 (sf4 h66)))))
  refine go [] <| sP [(0, iV 0), (1, iV 0), (2, uV 0)] [iV 0, iV 0, uV 0] h67 fun _ h69 => go [] ?_
  have hd_ := don (S := S) (s := s) (by omega)
  have hs_ := do4 (S := S) (s := s) (by omega)
  exact en (.tuple #[.agg #[iV 0, iV 0, uV 0], .bool false]) [rd 0 0 0 0 3 h69] ⟨_, [Wd b (aswS S s.tx), Old wo], rfl, ⟨by rw [hd_.1, hd_.2], by rw [hs_]⟩, (tk3 (sf2 (sf2 (sf4 (tk5 (sf4 (sf4 (sf2 (sf4 (sf4 h69))))))))))⟩
 refine go [.v 11 0 (qeF s.d 4)] <| sP [(0, iV 0), (1, iV 0), (2, uV 0)] [iV 0, iV 0, uV 0] h15 fun _ h73 => go [] ?_
 have hd_ := don (S := S) (s := s) (by omega)
 have hs_ := do5 (S := S) (s := s) ⟨by omega, by omega, by omega, by omega, by omega⟩
 exact en (.tuple #[.agg #[iV 0, iV 0, uV 0], .bool false]) [rd 0 0 0 0 3 h73] ⟨_, [Wd b S, Old wo], rfl, ⟨by rw [hd_.1, hd_.2], by rw [hs_]⟩, (tk3 (sf2 (sf2 (sf4 (tk5 (sf4 (sf4 (sf2 (sf2 (sf4 h73))))))))))⟩

end Go.Proofs.YtggfnbpohmhphaaGreatDoor

/- Walks, printed by my generator o16.py. -/
namespace Go.Proofs.YtggfnbpohmhphaaGreatDoor
set_option maxHeartbeats 4000000 in
theorem made_ht (wo : World) (hg : Lett wo) (p0 : Option Addr) (n0 c0 : Nat) (T0 : List Sq) (hr0 : Rd wo p0 n0 (fl eSq T0)) (hT0 : T0.length = n0) (hO0 : ∀ x ∈ T0, SqOk x) (hs_ : ∀ s ∈ T0, s.tx.length ≤ 40) (hn : n0 ≤ 1000) : HT Tryz.prog 22 [.slice p0 n0 c0] [Old wo] (fun v K => ∃ b : Nat, v = pV b ∧ K = [Wd b (mdS (wnew 1) T0 n0), Old wo]) := by
 refine hiS Tryz.func22 Tryz.ntmps22 fun g w0 R h0 => go [] <| cP Tryz.call13 (wnew_ht 1 (by omega)) h0 ?_
 rintro v K w11 (⟨b10, rfl, rfl⟩) h12
 have h13 := ap1 h12
 refine go [] ?_
 have h14 : sat g w11 [Wd b10 (mdS (wnew 1) T0 0), Old wo, R] := h13
 refine lpS (fun mz_ a w => ∃ i : Nat, ∃ lr : Fr, mz_ = n0 - i ∧ (i ≤ n0) ∧ a = mk 25 (([(0, .slice p0 n0 c0), (3, pV b10), (5, iV (i : Int))] : Fr) ++ lr) ∧ sat g w [Wd b10 (mdS (wnew 1) T0 i), Old wo, R]) (n0 - 0) ⟨0, _, rfl, (Nat.zero_le _), (lvF [.k 0 (.slice p0 n0 c0), .k 3 (pV b10), .o 5 (oJ .i64 0 (0 : Int))]), h14⟩ ?_
 rintro m16 a17 w18 ⟨i, lr15, rfl, hi, rfl, h19⟩
 refine ga <| go [.s 5 3] ?_
 by_cases c20 : (i : Int) < (n0 : Int)
 ·
  obtain ⟨b21, off23, hp22⟩ := gv_ptr (j := 1) h19 rfl (gv_old hr0) (by omega)
  refine go [.v 5 3 (oT ((i : Int) < (n0 : Int))), .s 7 3] <| lwP (.pointer (some ⟨b21, off23 + i * 9, none⟩)) (law_indexSlP (x := (Operand.tmp 19)) (i := (Operand.tmp 20)) (p := p0) (b := b21) (off := off23) (z := (i : Int)) (len := n0) (cap := c0) (by kernel_rfl) Tryz.underlying22 9 (by kernel_rfl) i (by kernel_rfl) hp22 (by kernel_rfl) (by omega) (by omega) (off23 + i * 9) (by omega) _) ?_
  obtain ⟨x24, hx25⟩ : ∃ x, T0[i]? = some x := ⟨_, List.getElem?_eq_getElem (by rw [hT0]; omega)⟩
  have ho26 := hO0 _ (List.mem_of_getElem? hx25); have ho26a := ho26.1; have ho26b := ho26.2
  have ho26t := hs_ _ (List.mem_of_getElem? hx25)
  refine go [.r 7 4 b21 (off23 + i * 9) [iV x24.d, iV x24.k, iV x24.a, iV x24.o.1, iV x24.o.2.1, uV x24.o.2.2, iV x24.wy, iV x24.tk, .string (St x24.tx)] ⟨gv_cell (j := 1) h19 rfl (gv_old hr0) hp22 (fl_get eSq_ok (j := 0) (v := iV x24.d) hx25 rfl) (off23 + i * 9) (by omega), gv_cell (j := 1) h19 rfl (gv_old hr0) hp22 (fl_get eSq_ok (j := 1) (v := iV x24.k) hx25 rfl) (off23 + i * 9 + 1) (by omega), gv_cell (j := 1) h19 rfl (gv_old hr0) hp22 (fl_get eSq_ok (j := 2) (v := iV x24.a) hx25 rfl) (off23 + i * 9 + 2) (by omega), gv_cell (j := 1) h19 rfl (gv_old hr0) hp22 (fl_get eSq_ok (j := 3) (v := iV x24.o.1) hx25 rfl) (off23 + i * 9 + 3) (by omega), gv_cell (j := 1) h19 rfl (gv_old hr0) hp22 (fl_get eSq_ok (j := 4) (v := iV x24.o.2.1) hx25 rfl) (off23 + i * 9 + 4) (by omega), gv_cell (j := 1) h19 rfl (gv_old hr0) hp22 (fl_get eSq_ok (j := 5) (v := uV x24.o.2.2) hx25 rfl) (off23 + i * 9 + 5) (by omega), gv_cell (j := 1) h19 rfl (gv_old hr0) hp22 (fl_get eSq_ok (j := 6) (v := iV x24.wy) hx25 rfl) (off23 + i * 9 + 6) (by omega), gv_cell (j := 1) h19 rfl (gv_old hr0) hp22 (fl_get eSq_ok (j := 7) (v := iV x24.tk) hx25 rfl) (off23 + i * 9 + 7) (by omega), gv_cell (j := 1) h19 rfl (gv_old hr0) hp22 (fl_get eSq_ok (j := 8) (v := .string (St x24.tx)) hx25 rfl) (off23 + i * 9 + 8) (by omega), trivial⟩] <| cl2 Tryz.call14 (do_ht wo hg b10 (mdS (wnew 1) T0 i) x24 ho26 (by omega) (by omega) (by omega)) h19 fun w27 h28 => go [.v 6 1 (oIr ((i : Int) + 1))] ?_
  refine enL ?_
  have h29 : sat g w27 [Wd b10 (mdS (wnew 1) T0 (i + 1)), Old wo, R] := sat_imp h28 (fun _ hh_ => by rw [mdS_go hx25]; exact hh_)
  change ∃ n', n' < _ ∧ _
  refine ⟨(n0 - (i + 1)), by omega, (i + 1), _, rfl, (by omega), (lvF [.k 0 (.slice p0 n0 c0), .k 3 (pV b10), .o 5 (oJ .i64 ((i : Int) + 1) ((((i + 1) : Nat) : Int)))]), h29⟩
 refine go [.v 5 3 (oF ((i : Int) < (n0 : Int)))] <| up <| go [] ?_
 have hi_ : i = n0 := by omega
 have h30 : sat g w18 [Wd b10 (mdS (wnew 1) T0 n0), Old wo, R] := sat_imp h19 (fun _ hh_ => by rw [hi_] at hh_; exact hh_)
 exact en (pV b10) [] ⟨_, _, rfl, ⟨b10, rfl, rfl⟩, h30⟩

end Go.Proofs.YtggfnbpohmhphaaGreatDoor

/-
  What steps do to what is there, to the attempts and to the time. No program in sight.
-/
namespace Go.Proofs.YtggfnbpohmhphaaGreatDoor
theorem inS_cnt : ∀ (A : List Sl2) (k : Nat), (inS 1 A k).length = A.countP (fun s => decide (s.1 = 1))
  | [], _ => rfl
  | s :: A, k => by
    have := inS_cnt A (k + 1)
    unfold inS
    by_cases hs : s.1 = 1
    · rw [if_pos hs, List.length_cons, this, List.countP_cons_of_pos (by simpa using hs)]
    · rw [if_neg hs, this, List.countP_cons_of_neg (by simpa using hs)]
def nT (X : Xs) : Nat := (inS 1 (As X) 0).length
section
variable {X : Xs} {S : Wst} {s : Sq} {o o' : Ky} {k a y t : Int}
theorem nT_set {i : Nat} {u : Sl2} {x : Fl} (h : (As X)[i]? = some u) : nT (X.set i x) = nT X - (if u.1 = 1 then 1 else 0) + (if x.1 = 1 then 1 else 0) := by
  obtain ⟨hi, hu⟩ := List.getElem?_eq_some_iff.1 h
  unfold nT
  rw [inS_cnt, inS_cnt, as_set, List.countP_set (h := hi), hu]
  simp only [decide_eq_true_eq]
theorem fre_as {i : Nat} {g : Int} (h : fre X = some (i, g)) : (As X)[i]? = some (0, g) := by
  obtain ⟨v, hv⟩ := fre_some h
  exact as_get hv
theorem nT_grw {v : Int} (h : fre X ≠ none) : nT (grw X v) = nT X + 1 := by
  unfold grw
  split
  · rename_i h2; exact absurd h2 h
  · rename_i i g hf
    rw [nT_set (fre_as hf), if_neg (by show ¬ (0 : Int) = 1; decide), if_pos (by rfl)]
    omega
theorem all_len (S : Wst) : (allS S).length = nT S.F + (nT S.B + nT S.D) := by
  unfold allS nT
  rw [List.length_append, List.length_append, allK_len, allK_len, allK_len]
theorem tab_put (S : Wst) (X : Xs) {k k' : Int} (hk : k = 1 ∨ k = 2 ∨ k = 3) (hk' : k' = 1 ∨ k' = 2 ∨ k' = 3) : (S.put k X).tab k' = if k' = k then X else S.tab k' := by
  rcases hk with rfl | rfl | rfl <;> rcases hk' with rfl | rfl | rfl <;> rfl
theorem put_T (S : Wst) (X : Xs) (k : Int) : (S.put k X).T = S.T ∧ (S.put k X).now = S.now ∧ (S.put k X).q = S.q := by
  unfold Wst.put
  split
  · exact ⟨rfl, rfl, rfl⟩
  · split <;> exact ⟨rfl, rfl, rfl⟩
theorem put_len (hk : k = 1 ∨ k = 2 ∨ k = 3) : (allS (S.put k X)).length + nT (S.tab k) = (allS S).length + nT X := by
  rw [all_len, all_len]
  rcases hk with rfl | rfl | rfl
  · rw [put1, tab1]; show nT X + (nT S.B + nT S.D) + nT S.F = _; omega
  · rw [put2, tab2]; show nT S.F + (nT X + nT S.D) + nT S.B = _; omega
  · rw [put3, tab3]; show nT S.F + (nT S.B + nT X) + nT S.D = _; omega
/-- Acquiring. -/
theorem acq_zero (h : acqE S k a = 0) : godP k a ∧ grwE S k a = 0 ∧ fre (S.tab k) ≠ none := by
  unfold acqE at h
  split at h
  · exact absurd h (by decide)
  · rename_i h1
    split at h
    · exact absurd h ‹_›
    · rename_i h2
      have hg := Decidable.not_not.1 h2
      refine ⟨Decidable.not_not.1 h1, hg, fun hf => ?_⟩
      unfold grwE at hg
      split at hg
      · exact absurd hg (by decide)
      · split at hg
        · exact absurd hg (by decide)
        · first
            | exact absurd hg (by decide)
            | exact absurd ((if_pos hf).symm.trans hg) (by decide)
theorem acq_S (h : acqE S k a = 0) : acqS S k a = ({ S with q := S.q.tail } : Wst).put k (grw (S.tab k) (valO S k a)) := by
  obtain ⟨h1, h2, _⟩ := acq_zero h
  unfold acqS
  rw [if_neg (by rintro (q | q); exact q h1; exact q h2), if_pos h]
theorem acq_keep (h : acqE S k a ≠ 0) : acqS S k a = S ∨ acqS S k a = { S with q := S.q.tail } := by
  unfold acqS
  split
  · exact .inl rfl
  · first
      | exact .inr rfl
      | (rw [if_neg h]; exact .inr rfl)
theorem acq_all (h : acqE S k a ≠ 0) : allS (acqS S k a) = allS S := by
  rcases acq_keep h with e | e <;> (rw [e]; try rfl)
theorem acq_len (h : acqE S k a = 0) : (allS (acqS S k a)).length = (allS S).length + 1 := by
  obtain ⟨h1, _, h3⟩ := acq_zero h
  have h4 := put_len (S := ({ S with q := S.q.tail } : Wst)) (X := grw (S.tab k) (valO S k a)) (godP_k h1)
  rw [← acq_S h] at h4
  have h5 := nT_grw (v := valO S k a) h3
  have h6 : nT (({ S with q := S.q.tail } : Wst).tab k) = nT (S.tab k) := rfl
  have h7 : (allS ({ S with q := S.q.tail } : Wst)).length = (allS S).length := rfl
  omega
theorem acq_T : (acqS S k a).T = S.T ∧ (acqS S k a).now = S.now := by
  unfold acqS
  split
  · exact ⟨rfl, rfl⟩
  · split
    · have := put_T ({ S with q := S.q.tail } : Wst) (grw (S.tab k) (valO S k a)) k
      exact ⟨this.1, this.2.1⟩
    · exact ⟨rfl, rfl⟩
theorem acq_nm (h : acqE S k a = 0) : ∃ i g, fre (S.tab k) = some (i, g) ∧ acqO S k a = (k, (i : Int), g) ∧ i < (S.tab k).length := by
  obtain ⟨_, _, h3⟩ := acq_zero h
  cases hf : fre (S.tab k) with
  | none => exact absurd hf h3
  | some r =>
    obtain ⟨i, g⟩ := r
    refine ⟨i, g, rfl, ?_, ?_⟩
    · unfold acqO nam; rw [if_pos h, hf]
    · have := (List.getElem?_eq_some_iff.1 (fre_as hf)).1; rwa [as_len] at this
theorem tab_len (h : WOk S) (k : Int) : (S.tab k).length = 64 := by
  unfold Wst.tab
  split
  · exact h.fl
  · split
    · exact h.bl
    · exact h.dl
theorem tab_ok (h : WOk S) (k : Int) : Sok (As (S.tab k)) := by
  unfold Wst.tab
  split
  · exact h.fk
  · split
    · exact h.bk
    · exact h.dk
theorem acq_tab (h : acqE S k a = 0) {k' : Int} (hk' : k' = 1 ∨ k' = 2 ∨ k' = 3) : (acqS S k a).tab k' = if k' = k then grw (S.tab k) (valO S k a) else S.tab k' := by
  rw [acq_S h, tab_put _ _ (godP_k (acq_zero h).1) hk']
  rfl
theorem acq_thr (hW : WOk S) (h : acqE S k a = 0) : Thr (acqS S k a) (acqO S k a) ∧ (acqO S k a).1 = k := by
  obtain ⟨i, g, hf, ho, hi⟩ := acq_nm h
  have h1 := godP_k (acq_zero h).1
  rw [ho]
  have hl := tab_len hW k
  have hg := (tab_ok hW k) _ (List.mem_of_getElem? (fre_as hf))
  refine ⟨⟨⟨by show 1 ≤ k; omega, by show k ≤ 3; omega, by show (0 : Int) ≤ (i : Int); omega, by show (i : Int) ≤ 63; omega, hg.2.2.1⟩, ?_⟩, rfl⟩
  show (As ((acqS S k a).tab k))[((i : Int)).toNat]? = some (1, g)
  rw [acq_tab h h1, if_pos rfl, Int.toNat_natCast]
  unfold grw
  rw [hf]
  show (As ((S.tab k).set i (1, g, valO S k a)))[i]? = _
  rw [as_set, List.getElem?_set_self (by rw [as_len]; exact hi)]
/-- Releasing. -/
theorem rel_keep (h : relE S o y ≠ 0) : relS S o y = S := if_pos h
theorem rel_T (h : relE S o y = 0) : (relS S o y).T = S.T ++ [⟨S.now, o, y, relA S o y⟩] ∧ (relS S o y).now = S.now := by
  have e : relA S o y = S.q.headD 1 := if_pos h
  unfold relS
  rw [if_neg (by rw [h]; decide), e]
  split
  · have := put_T ({ S with q := S.q.tail, T := S.T ++ [⟨S.now, o, y, S.q.headD 1⟩] } : Wst) (giv (S.tab o.1) o) o.1
    exact ⟨this.1, this.2.1⟩
  · exact ⟨rfl, rfl⟩
theorem rel_tab (h : relE S o y = 0) {k' : Int} (hk' : k' = 1 ∨ k' = 2 ∨ k' = 3) : (relS S o y).tab k' = if relA S o y = 1 ∧ k' = o.1 then giv (S.tab o.1) o else S.tab k' := by
  have e : relA S o y = S.q.headD 1 := if_pos h
  unfold relS
  rw [if_neg (by rw [h]; decide), e]
  by_cases h1 : S.q.headD 1 = 1
  · rw [if_pos h1, tab_put _ _ (kgood_k (rel_zero h).1) hk']
    by_cases h2 : k' = o.1
    · rw [if_pos h2, if_pos ⟨h1, h2⟩]
    · rw [if_neg h2, if_neg (fun q => h2 q.2)]; rfl
  · rw [if_neg h1, if_neg (fun q => h1 q.1)]; rfl
theorem rel_thr (h : relE S o y = 0) : Thr (relS S o y) o ↔ relA S o y ≠ 1 := by
  obtain ⟨h1, _, _, h4, _⟩ := rel_zero h
  unfold Thr
  rw [rel_tab h (kgood_k h1)]
  by_cases h5 : relA S o y = 1
  · rw [if_pos ⟨h5, rfl⟩]
    refine ⟨fun q => ?_, fun q => absurd h5 q⟩
    exfalso
    have h6 := q.2
    unfold giv at h6
    rw [as_set, List.getElem?_set_self (List.getElem?_eq_some_iff.1 h4.2).1] at h6
    exact shut_st _ (congrArg Prod.fst (Option.some.inj h6))
  · rw [if_neg (fun q => h5 q.1)]
    exact ⟨fun _ => h5, fun _ => h4⟩
theorem ren_T (S : Wst) (o : Ky) (t : Int) : (renS S o t).T = S.T ∧ (renS S o t).now = S.now ∧ (renS S o t).q = S.q := by
  unfold renS
  split <;> exact ⟨rfl, rfl, rfl⟩
theorem tck_T (S : Wst) (t : Int) : (tckS S t).T = S.T := by
  unfold tckS
  split <;> rfl
/-- Members. -/
theorem mem_all (hW : WOk S) (h : o ∈ allS S) : Thr S o := by
  have key : ∀ {k : Int} {X : Xs}, X = S.tab k → (k = 1 ∨ k = 2 ∨ k = 3) → o ∈ allK k X → Thr S o := by
    intro k X hX hk hm
    subst hX
    unfold allK at hm
    obtain ⟨⟨j, g⟩, h1, rfl⟩ := List.mem_map.1 hm
    obtain ⟨i, hi⟩ := List.getElem?_of_mem h1
    have h3 := (inS_mem hi).2
    rw [Nat.sub_zero] at h3
    have h4 := (List.getElem?_eq_some_iff.1 h3).1
    rw [as_len, tab_len hW] at h4
    have h5 := (tab_ok hW k) _ (List.mem_of_getElem? h3)
    refine ⟨⟨by show 1 ≤ k; omega, by show k ≤ 3; omega, by show (0 : Int) ≤ (j : Int); omega, by show (j : Int) ≤ 63; omega, h5.2.2.1⟩, ?_⟩
    show (As (S.tab k))[((j : Int)).toNat]? = some (1, g)
    rw [Int.toNat_natCast]
    exact h3
  unfold allS at h
  rcases List.mem_append.1 h with h | h
  · exact key (tab1 S).symm (.inl rfl) h
  · rcases List.mem_append.1 h with h | h
    · exact key (tab2 S).symm (.inr (.inl rfl)) h
    · exact key (tab3 S).symm (.inr (.inr rfl)) h
theorem all_at (hW : WOk S) {i : Nat} (h : (allS S)[i]? = some o) : Thr S o := mem_all hW (List.mem_of_getElem? h)
/-- Steps. -/
theorem do_T (hW : WOk S) (s : Sq) : (doS S s).T = S.T ∨ ∃ a, (doS S s).T = S.T ++ [a] ∧ a.at_ = (doS S s).now ∧ s.d = 1 ∧ a.out = s.o ∧ attP a := by
  by_cases h0 : s.d = 0
  · rw [(do0 h0).1]; exact .inl acq_T.1
  · by_cases h1 : s.d = 1
    · rw [do1 h1]
      by_cases h : relE S s.o s.wy = 0
      · obtain ⟨e1, e2⟩ := rel_T h
        refine .inr ⟨_, e1, e2.symm, h1, rfl, ?_⟩
        have e : relA S s.o s.wy = S.q.headD 1 := if_pos h
        rw [e]
        exact rel_att hW h
      · rw [rel_keep h]; exact .inl rfl
    · by_cases h2 : s.d = 2
      · rw [do2 h2]; exact .inl (ren_T _ _ _).1
      · by_cases h3 : s.d = 3
        · rw [do3 h3]; exact .inl (tck_T _ _)
        · by_cases h4 : s.d = 4
          · rw [do4 h4]; exact .inl rfl
          · rw [do5 ⟨h0, h1, h2, h3, h4⟩]; exact .inl rfl
theorem do_Tn (hW : WOk S) (s : Sq) : S.T.length ≤ (doS S s).T.length ∧ (doS S s).T.length ≤ S.T.length + 1 := by
  rcases do_T hW s with e | ⟨a, e, _⟩
  · rw [e]; omega
  · rw [e, List.length_append, List.length_singleton]; omega
theorem wok_mds (h : WOk S) (L : List Sq) : ∀ i, WOk (mdS S L i) := fun i => by
  unfold mdS
  generalize L.take i = M
  induction M generalizing S with
  | nil => exact h
  | cons x M ih => exact ih (wok_do h x)
theorem mds_T (h : WOk S) (L : List Sq) (i : Nat) : (mdS S L i).T.length ≤ S.T.length + i := by
  have key : ∀ (M : List Sq) (S : Wst), WOk S → (M.foldl doS S).T.length ≤ S.T.length + M.length := by
    intro M
    induction M with
    | nil => intro S _; exact Nat.le_refl _
    | cons x M ih =>
      intro S h
      have h1 := ih (doS S x) (wok_do h x)
      have h2 := (do_Tn h x).2
      rw [List.foldl_cons, List.length_cons]
      omega
  have h1 := key (L.take i) S h
  rw [List.length_take] at h1
  unfold mdS
  omega
end
end Go.Proofs.YtggfnbpohmhphaaGreatDoor

/-
  Answers that are added, acquisitions with them, and a release. No program in sight.
-/
namespace Go.Proofs.YtggfnbpohmhphaaGreatDoor
section
variable {S : Wst} {o : Ky} {k a y : Int} {q : List Int}
theorem thr_gen (hW : WOk S) (h : Thr S o) : 0 ≤ o.2.2 ∧ o.2.2 ≤ 4294967295 := by
  have := (tab_ok hW o.1) _ (List.mem_of_getElem? h.2)
  exact ⟨by have h1 : 1 ≤ o.2.2 := this.2.2.1; omega, this.2.2.2⟩
theorem grwE_3 (S : Wst) (k a : Int) : grwE S k a = 0 ∨ grwE S k a = 4 ∨ grwE S k a = 17 := by
  unfold grwE
  split
  · exact .inr (.inl rfl)
  · split
    · exact .inr (.inr rfl)
    · split
      · exact .inr (.inl rfl)
      · exact .inl rfl
theorem acqE_6 (S : Wst) (k a : Int) : (¬ godP k a ∧ acqE S k a = 2) ∨ (godP k a ∧ grwE S k a ≠ 0 ∧ acqE S k a = grwE S k a) ∨ (godP k a ∧ grwE S k a = 0 ∧ (acqE S k a = 0 ∨ acqE S k a = 14 ∨ acqE S k a = 15)) := by
  by_cases h : godP k a
  · by_cases h2 : grwE S k a = 0
    · refine .inr (.inr ⟨h, h2, ?_⟩)
      by_cases h3 : S.q.headD 1 = 2
      · exact .inr (.inr (acq_later h h2 h3).1)
      · by_cases h4 : S.q.headD 1 = 3
        · exact .inr (.inl (acq_fail h h2 h3 h4).1)
        · exact .inl (acq_ok h h2 h3 h4).1
    · exact .inr (.inl ⟨h, h2, (acq_err h rfl h2).1⟩)
  · exact .inl ⟨h, (acq_arg h).1⟩
theorem grw_q (S : Wst) (q : List Int) (k a : Int) : grwE { S with q := q } k a = grwE S k a := rfl
theorem acq_fix (h : acqE S k a = 2 ∨ acqE S k a = 4 ∨ acqE S k a = 17) : acqE { S with q := q } k a = acqE S k a ∧ acqO { S with q := q } k a = (0, 0, 0) ∧ acqO S k a = (0, 0, 0) := by
  have h0 : acqE S k a ≠ 0 := by omega
  have key : acqE { S with q := q } k a = acqE S k a := by
    rcases acqE_6 S k a with ⟨h1, h2⟩ | ⟨h1, h2, h3⟩ | ⟨_, _, h3⟩
    · rw [h2]; exact (acq_arg h1).1
    · rw [h3]; exact (acq_err (S := { S with q := q }) h1 (grw_q S q k a) h2).1
    · omega
  exact ⟨key, if_neg (by rw [key]; exact h0), if_neg h0⟩
theorem acq_var (h : ¬ (acqE S k a = 2 ∨ acqE S k a = 4 ∨ acqE S k a = 17)) : (acqE S k a = 0 ∨ acqE S k a = 14 ∨ acqE S k a = 15) ∧ (acqE { S with q := q } k a = 0 ∨ acqE { S with q := q } k a = 14 ∨ acqE { S with q := q } k a = 15) := by
  have h4 := grwE_3 S k a
  rcases acqE_6 S k a with ⟨_, h2⟩ | ⟨_, h2, h3⟩ | ⟨h1, h2, h3⟩
  · exact absurd (.inl h2) h
  · omega
  · refine ⟨h3, ?_⟩
    rcases acqE_6 { S with q := q } k a with ⟨h5, _⟩ | ⟨_, h5, _⟩ | ⟨_, _, h6⟩
    · exact absurd h1 h5
    · rw [grw_q] at h5; exact absurd h2 h5
    · exact h6
theorem rel_at (h : relE S o y = 0) {z : At} {i : Nat} (hi : i = S.T.length) (hz : (relS S o y).T[i]? = some z) : z.at_ = (relS S o y).now ∧ z.out.1 = o.1 ∧ z.out.2.1 = o.2.1 ∧ z.out.2.2 = o.2.2 ∧ z.why = y ∧ z.ans = relA S o y := by
  subst hi
  rw [(rel_T h).1, List.getElem?_append_right (Nat.le_refl _), Nat.sub_self] at hz
  obtain rfl := Option.some.inj hz
  rw [(rel_T h).2]
  exact ⟨rfl, rfl, rfl, rfl, rfl, rfl⟩
theorem rel_y (hW : WOk S) (hT : Thr S o) (hy : 1 ≤ y ∧ y ≤ 3) (hn : S.T.length < 10000) : relE S o y = 0 ∧ 1 ≤ relA S o y ∧ relA S o y ≤ 3 ∧ (relS S o y).T.length = S.T.length + 1 := by
  obtain ⟨h1, h2, _⟩ := rel_ok (S := S) (o := o) (wy := y) hy hT hn
  have h3 := headD_bd hW.qb
  refine ⟨h1, by rw [h2]; exact h3.1, by rw [h2]; exact h3.2, ?_⟩
  rw [(rel_T h1).1, List.length_append]
  rfl
end
end Go.Proofs.YtggfnbpohmhphaaGreatDoor

/- Walks, printed by my generator o20.py. -/
namespace Go.Proofs.YtggfnbpohmhphaaGreatDoor
theorem q20e32_eql_t {n : Nat} {l : Fr} {o : Oper} {x y : Operand} (a0 : Int) (a1 : Int) (a2 : Int) (c0 : Int) (c1 : Int) (c2 : Int) (ho : o.op = .binOp .eql 32 x y 32) (hx : fe n l x = .agg #[.int .i64 a0, .int .i64 a1, .int .u32 a2]) (hy : fe n l y = .agg #[.int .i64 c0, .int .i64 c1, .int .u32 c2]) (h : a0 = c0 ∧ a1 = c1 ∧ a2 = c2) (w : World) : (execOp (fe n l) o).run Tryz.prog w = .ok (.value (.bool true)) w := by
  obtain ⟨rfl, rfl, rfl⟩ := h
  simp [execOp, ho, hx, hy, go_sem]
theorem q20e44_neq_t {n : Nat} {l : Fr} {o : Oper} {x y : Operand} (a0 : Int) (a1 : Int) (a2 : Int) (a3 : Int) (a4 : Int) (a5 : Int) (c0 : Int) (c1 : Int) (c2 : Int) (c3 : Int) (c4 : Int) (c5 : Int) (ho : o.op = .binOp .neq 44 x y 44) (hx : fe n l x = .agg #[.int .i64 a0, .int .i64 a1, .int .i64 a2, .int .u32 a3, .int .i64 a4, .int .i64 a5]) (hy : fe n l y = .agg #[.int .i64 c0, .int .i64 c1, .int .i64 c2, .int .u32 c3, .int .i64 c4, .int .i64 c5]) (h : a0 = c0 ∧ a1 = c1 ∧ a2 = c2 ∧ a3 = c3 ∧ a4 = c4 ∧ a5 = c5) (w : World) : (execOp (fe n l) o).run Tryz.prog w = .ok (.value (.bool false)) w := by
  obtain ⟨rfl, rfl, rfl, rfl, rfl, rfl⟩ := h
  simp [execOp, ho, hx, hy, go_sem]
set_option maxHeartbeats 4000000 in
theorem answers_1 (wo : World) (hg : Lett wo) (p0 : Option Addr) (n0 c0 : Nat) (T0 : List Sq) (hr0 : Rd wo p0 n0 (fl eSq T0)) (hT0 : T0.length = n0) (hO0 : ∀ x ∈ T0, SqOk x) (an kz az wh : Int) (ha0 : 0 ≤ an) (ha1 : an ≤ 255) (hw0 : 0 ≤ wh) (hw1 : wh ≤ 255) (hf_ : acqE (mdS (wnew 1) T0 n0) kz az = 2 ∨ acqE (mdS (wnew 1) T0 n0) kz az = 4 ∨ acqE (mdS (wnew 1) T0 n0) kz az = 17) : HT Tryz.prog 7 [.slice p0 n0 c0, yV an, iV kz, iV az, yV wh] [Old wo] (fun v K => v = .bool true ∧ K = [Old wo]) := by
 refine hiS Tryz.func7 Tryz.ntmps7 fun g w0 R h0 => ?_
 have hW0_ : WOk (mdS (wnew 1) T0 n0) := wok_mds (wok_new (by decide)) T0 n0
 refine go [] ?_
 by_cases c10 : (n0 : Int) ≤ 100
 ·
  rcases Bool.eq_false_or_eq_true (decide (Sho T0 100)) with cb11 | cb11
  ·
   refine cl1 Tryz.call11 ((by have h_ := short_ht p0 n0 c0 T0 (Old wo) (gv_old hr0) hT0 (by omega) 100; rw [cb11] at h_; exact h_)) h0 fun _ h13 => ?_
   have hsh14 : Sho T0 100 := of_decide_eq_true cb11; have hsh14l := hsh14.1; rw [hT0] at hsh14l
   refine go [] <| cP Tryz.call22 (made_ht wo hg p0 n0 c0 T0 hr0 hT0 hO0 hsh14.2 (by omega)) h13 ?_
   rintro v K _ (⟨b15, rfl, rfl⟩) h17
   have h18 := ap2 h17
   refine go [] <| cP Tryz.call19 (wall_ht b15 (mdS (wnew 1) T0 n0)) h18 ?_
   rintro v K _ (⟨p19, c20, rfl, rfl⟩) h22
   have h23 := ap2 h22
   have hl24 := allS_le (wd_get (j := 1) h23 rfl)
   have h26 := tk4 (sf3 (sf2 (sf3 (sf3 h23))))
   refine go [] <| cP Tryz.call31 (wcopy_ht b15 (mdS (wnew 1) T0 n0)) h26 ?_
   rintro v K _ (⟨b25, rfl, rfl⟩) h28
   have h29 := ap2 h28
   obtain ⟨q30, hq31⟩ : ∃ q : Nat, TMod (an) 3 q ∧ (q : Int) < 3 ∧ (q : Int) ≤ an := rem_nat (by omega) (by omega)
   refine go [.s 8 5] <| lwP (yV (q30 : Int)) (law_rem (t := 5) (x := (Operand.tmp 41)) (y := (Operand.const (yV 3))) (by kernel_rfl) an 3 (by kernel_rfl) (by kernel_rfl) (by omega) (q30 : Int) hq31.1 _) ?_
   obtain ⟨x32, hx33⟩ : ∃ x, ([111, 108, 102] : List UInt8)[q30]? = some x := ⟨_, List.getElem?_eq_getElem (by simp only [List.length_cons, List.length_nil]; omega)⟩
   have hb34 := u8_lt x32
   refine lwP (yV (((x32.toNat : Nat) : Int))) (law_idxStr (x := (Operand.const (.string (St [111, 108, 102])))) (i := (Operand.tmp 42)) (k := .u8) (s := [111, 108, 102]) (z := (q30 : Int)) (b := x32) (by kernel_rfl) Tryz.underlying9 (by kernel_rfl) (by kernel_rfl) q30 (by omega) hx33 _) <| nG (fun q_ => .slice (some ⟨q_, 0, none⟩) 1 1) 5 [yV (((x32.toNat : Nat) : Int))] h29 (fun r35 _ h37 => ⟨kd [], ?_⟩)
   refine lwP (.string (St [x32])) (law_bts (x := (Operand.tmp 44)) (p := (some ⟨r35, 0, none⟩)) (m := 1) (c := 1) (by kernel_rfl) Tryz.underlying63 Tryz.underlying5 Tryz.underlying9 (by kernel_rfl) 0 h37 rfl (gv_cl (off := 0) (fun k v hk => by rw [Nat.zero_add]; exact hk)) (by first | rfl | omega)) ?_
   have hW1_ : WOk (aswS (mdS (wnew 1) T0 n0) [x32]) := wok_asw hW0_ _
   have hn1_ : ((aswS (mdS (wnew 1) T0 n0) [x32]).T).length ≤ 100 := by have h_ := mds_T (wok_new (g := 1) (by decide)) T0 n0; have h2_ : (wnew 1).T.length = 0 := rfl; show ((mdS (wnew 1) T0 n0).T).length ≤ 100; omega
   have hfx_ : acqE (aswS (mdS (wnew 1) T0 n0) [x32]) kz az = acqE (mdS (wnew 1) T0 n0) kz az ∧ acqO (aswS (mdS (wnew 1) T0 n0) [x32]) kz az = (0, 0, 0) ∧ acqO (mdS (wnew 1) T0 n0) kz az = (0, 0, 0) := acq_fix (S := (mdS (wnew 1) T0 n0)) (q := addL (mdS (wnew 1) T0 n0).q [x32]) hf_
   have he1_ : acqE (aswS (mdS (wnew 1) T0 n0) [x32]) kz az ≠ 0 := by rw [hfx_.1]; omega
   refine cl2 Tryz.call30 (wansw_ht wo hg b15 (mdS (wnew 1) T0 n0) [x32] (by simp only [List.length_cons, List.length_nil]; omega)) (tk6 (sf5 (sf5 (sf3 (sf4 (sf4 (sf5 h37))))))) fun _ h40 => ?_
   by_cases c41 : (aswE (mdS (wnew 1) T0 n0) [x32]) = 0
   ·
    refine go [.v 8 10 (qnF ((aswE (mdS (wnew 1) T0 n0) [x32])) 0)] <| cP Tryz.call17 (wledg_ht b15 (aswS (mdS (wnew 1) T0 n0) [x32])) h40 ?_
    rintro v K _ (⟨b42, rfl, rfl⟩) h44
    refine cl1 Tryz.call23 (lglen_ht b42 ((aswS (mdS (wnew 1) T0 n0) [x32]).T)) (tk7 (sf6 (sf5 (sf6 (sf6 (sf6 (sf6 (sf6 (ap2 h44))))))))) fun _ h48 => ?_
    have h49 := tk7 (sf6 (sf5 (sf6 (sf6 (sf6 (sf6 (sf6 h48)))))))
    refine go [] <| cl1 Tryz.call28 ((by have h_ := wacq_ht b15 (aswS (mdS (wnew 1) T0 n0) [x32]) kz az; rw [show acqE (aswS (mdS (wnew 1) T0 n0) [x32]) kz az = acqE (mdS (wnew 1) T0 n0) kz az from hfx_.1, show acqO (aswS (mdS (wnew 1) T0 n0) [x32]) kz az = (0, 0, 0) from hfx_.2.1] at h_; exact h_)) h49 fun _ h51 => ?_
    refine go [] <| nP 32 [iV 0, iV 0, uV 0] h51 (fun _ _ h54 => ?_)
    refine sP [(0, iV 0), (1, iV 0), (2, uV 0)] [iV 0, iV 0, uV 0] h54 fun _ h56 => ?_
    have h57 := tk8 (sf7 (sf6 (sf6 (sf6 (sf6 (sf6 (sf7 (sf7 h56))))))))
    refine go [] <| cl1 Tryz.call28 ((by have h_ := wacq_ht b25 (mdS (wnew 1) T0 n0) kz az; rw [show acqO (mdS (wnew 1) T0 n0) kz az = (0, 0, 0) from hfx_.2.2] at h_; exact h_)) h57 fun _ h59 => ?_
    refine go [] <| nP 32 [iV 0, iV 0, uV 0] h59 (fun _ _ h62 => ?_)
    refine sP [(0, iV 0), (1, iV 0), (2, uV 0)] [iV 0, iV 0, uV 0] h62 fun _ h64 => go [.s 13 1] ?_
    by_cases c65 : (acqE (mdS (wnew 1) T0 n0) kz az) = 2
    ·
     have h68 := tk9 (sf8 (sf7 (sf7 (sf7 (sf8 (sf8 (sf8 (sf8 (sf8 h64)))))))))
     refine go [.v 13 1 (qeT ((acqE (mdS (wnew 1) T0 n0) kz az)) 2), .v 14 2 (qeT ((acqE (mdS (wnew 1) T0 n0) kz az)) ((acqE (mdS (wnew 1) T0 n0) kz az)))] <| cP Tryz.call19 (wall_ht b15 (acqS (aswS (mdS (wnew 1) T0 n0) [x32]) kz az)) h68 ?_
     rintro v K _ (⟨p66, c67, rfl, rfl⟩) h70
     have h71 := ap2 h70
     have hl72 := allS_le (wd_get (j := 1) h71 rfl)
     have h73 := tk10 (sf9 (sf9 (sf8 (sf8 (sf8 (sf8 (sf8 (sf8 (sf8 (sf9 h71))))))))))
     refine go [] <| cl2 Tryz.call26 ((by have h_ := same_ht p66 p19 (((allS (acqS (aswS (mdS (wnew 1) T0 n0) [x32]) kz az)).length)) (((allS (mdS (wnew 1) T0 n0)).length)) c67 c20 (allS (acqS (aswS (mdS (wnew 1) T0 n0) [x32]) kz az)) (allS (mdS (wnew 1) T0 n0)) (Sl 32 3 p66 (((allS (acqS (aswS (mdS (wnew 1) T0 n0) [x32]) kz az)).length)) c67 (fl eO (allS (acqS (aswS (mdS (wnew 1) T0 n0) [x32]) kz az)))) (Sl 32 3 p19 (((allS (mdS (wnew 1) T0 n0)).length)) c20 (fl eO (allS (mdS (wnew 1) T0 n0)))) (gv_sl _ _ _) (gv_sl _ _ _) rfl rfl (by omega); rw [show decide ((allS (acqS (aswS (mdS (wnew 1) T0 n0) [x32]) kz az)) = (allS (mdS (wnew 1) T0 n0))) = true from (decide_eq_true ((acq_all (show acqE (aswS (mdS (wnew 1) T0 n0) [x32]) kz az ≠ 0 by exact he1_)).trans rfl))] at h_; exact h_)) h73 fun _ h75 => ?_
     refine go [rd 14 10 5 0 3 h75, rd 14 11 3 0 3 h75, .s 14 12] <| lwP (.bool true) (q20e32_eql_t (x := (Operand.tmp 91)) (y := (Operand.tmp 92)) 0 0 0 0 0 0 (by kernel_rfl) (by kernel_rfl) (by kernel_rfl) ⟨rfl, rfl, rfl⟩ _) ?_
     have h76 := tk10 (sf9 (sf8 (sf8 (sf8 (sf8 (sf8 (sf8 (sf8 (sf9 (sf9 h75))))))))))
     refine go [] <| cl1 Tryz.call12 (works_ht wo hg) h76 fun _ h78 => go [] ?_
     exact en (.bool true) [] ⟨_, _, rfl, ⟨rfl, rfl⟩, (tk2 (sf1 (sf9 h78)))⟩
    refine go [.v 13 1 (qeF ((acqE (mdS (wnew 1) T0 n0) kz az)) 2), .s 13 4] ?_
    by_cases c80 : (acqE (mdS (wnew 1) T0 n0) kz az) = 4
    ·
     have h83 := tk9 (sf8 (sf7 (sf7 (sf7 (sf8 (sf8 (sf8 (sf8 (sf8 h64)))))))))
     refine go [.v 13 4 (qeT ((acqE (mdS (wnew 1) T0 n0) kz az)) 4), .v 14 2 (qeT ((acqE (mdS (wnew 1) T0 n0) kz az)) ((acqE (mdS (wnew 1) T0 n0) kz az)))] <| cP Tryz.call19 (wall_ht b15 (acqS (aswS (mdS (wnew 1) T0 n0) [x32]) kz az)) h83 ?_
     rintro v K _ (⟨p81, c82, rfl, rfl⟩) h85
     have h86 := ap2 h85
     have hl87 := allS_le (wd_get (j := 1) h86 rfl)
     have h88 := tk10 (sf9 (sf9 (sf8 (sf8 (sf8 (sf8 (sf8 (sf8 (sf8 (sf9 h86))))))))))
     refine go [] <| cl2 Tryz.call26 ((by have h_ := same_ht p81 p19 (((allS (acqS (aswS (mdS (wnew 1) T0 n0) [x32]) kz az)).length)) (((allS (mdS (wnew 1) T0 n0)).length)) c82 c20 (allS (acqS (aswS (mdS (wnew 1) T0 n0) [x32]) kz az)) (allS (mdS (wnew 1) T0 n0)) (Sl 32 3 p81 (((allS (acqS (aswS (mdS (wnew 1) T0 n0) [x32]) kz az)).length)) c82 (fl eO (allS (acqS (aswS (mdS (wnew 1) T0 n0) [x32]) kz az)))) (Sl 32 3 p19 (((allS (mdS (wnew 1) T0 n0)).length)) c20 (fl eO (allS (mdS (wnew 1) T0 n0)))) (gv_sl _ _ _) (gv_sl _ _ _) rfl rfl (by omega); rw [show decide ((allS (acqS (aswS (mdS (wnew 1) T0 n0) [x32]) kz az)) = (allS (mdS (wnew 1) T0 n0))) = true from (decide_eq_true ((acq_all (show acqE (aswS (mdS (wnew 1) T0 n0) [x32]) kz az ≠ 0 by exact he1_)).trans rfl))] at h_; exact h_)) h88 fun _ h90 => ?_
     refine go [rd 14 10 5 0 3 h90, rd 14 11 3 0 3 h90, .s 14 12] <| lwP (.bool true) (q20e32_eql_t (x := (Operand.tmp 91)) (y := (Operand.tmp 92)) 0 0 0 0 0 0 (by kernel_rfl) (by kernel_rfl) (by kernel_rfl) ⟨rfl, rfl, rfl⟩ _) ?_
     have h91 := tk10 (sf9 (sf8 (sf8 (sf8 (sf8 (sf8 (sf8 (sf8 (sf9 (sf9 h90))))))))))
     refine go [] <| cl1 Tryz.call12 (works_ht wo hg) h91 fun _ h93 => go [] ?_
     exact en (.bool true) [] ⟨_, _, rfl, ⟨rfl, rfl⟩, (tk2 (sf1 (sf9 h93)))⟩
    have h97 := tk9 (sf8 (sf7 (sf7 (sf7 (sf8 (sf8 (sf8 (sf8 (sf8 h64)))))))))
    refine go [.v 13 4 (qeF ((acqE (mdS (wnew 1) T0 n0) kz az)) 4), .v 13 8 (qeT ((acqE (mdS (wnew 1) T0 n0) kz az)) 17), .v 14 2 (qeT ((acqE (mdS (wnew 1) T0 n0) kz az)) ((acqE (mdS (wnew 1) T0 n0) kz az)))] <| cP Tryz.call19 (wall_ht b15 (acqS (aswS (mdS (wnew 1) T0 n0) [x32]) kz az)) h97 ?_
    rintro v K _ (⟨p95, c96, rfl, rfl⟩) h99
    have h100 := ap2 h99
    have hl101 := allS_le (wd_get (j := 1) h100 rfl)
    have h102 := tk10 (sf9 (sf9 (sf8 (sf8 (sf8 (sf8 (sf8 (sf8 (sf8 (sf9 h100))))))))))
    refine go [] <| cl2 Tryz.call26 ((by have h_ := same_ht p95 p19 (((allS (acqS (aswS (mdS (wnew 1) T0 n0) [x32]) kz az)).length)) (((allS (mdS (wnew 1) T0 n0)).length)) c96 c20 (allS (acqS (aswS (mdS (wnew 1) T0 n0) [x32]) kz az)) (allS (mdS (wnew 1) T0 n0)) (Sl 32 3 p95 (((allS (acqS (aswS (mdS (wnew 1) T0 n0) [x32]) kz az)).length)) c96 (fl eO (allS (acqS (aswS (mdS (wnew 1) T0 n0) [x32]) kz az)))) (Sl 32 3 p19 (((allS (mdS (wnew 1) T0 n0)).length)) c20 (fl eO (allS (mdS (wnew 1) T0 n0)))) (gv_sl _ _ _) (gv_sl _ _ _) rfl rfl (by omega); rw [show decide ((allS (acqS (aswS (mdS (wnew 1) T0 n0) [x32]) kz az)) = (allS (mdS (wnew 1) T0 n0))) = true from (decide_eq_true ((acq_all (show acqE (aswS (mdS (wnew 1) T0 n0) [x32]) kz az ≠ 0 by exact he1_)).trans rfl))] at h_; exact h_)) h102 fun _ h104 => ?_
    refine go [rd 14 10 5 0 3 h104, rd 14 11 3 0 3 h104, .s 14 12] <| lwP (.bool true) (q20e32_eql_t (x := (Operand.tmp 91)) (y := (Operand.tmp 92)) 0 0 0 0 0 0 (by kernel_rfl) (by kernel_rfl) (by kernel_rfl) ⟨rfl, rfl, rfl⟩ _) ?_
    have h105 := tk10 (sf9 (sf8 (sf8 (sf8 (sf8 (sf8 (sf8 (sf8 (sf9 (sf9 h104))))))))))
    refine go [] <| cl1 Tryz.call12 (works_ht wo hg) h105 fun _ h107 => go [] ?_
    exact en (.bool true) [] ⟨_, _, rfl, ⟨rfl, rfl⟩, (tk2 (sf1 (sf9 h107)))⟩
   have h109 := tk6 (sf5 (sf4 (sf5 (sf5 (sf5 (sf5 h40))))))
   refine go [.v 8 10 (qnT ((aswE (mdS (wnew 1) T0 n0) [x32])) 0)] <| cl1 Tryz.call12 (works_ht wo hg) h109 fun _ h111 => go [] ?_
   exact en (.bool true) [] ⟨_, _, rfl, ⟨rfl, rfl⟩, (tk2 (sf1 (sf5 h111)))⟩
  refine cl1 Tryz.call11 ((by have h_ := short_ht p0 n0 c0 T0 (Old wo) (gv_old hr0) hT0 (by omega) 100; rw [cb11] at h_; exact h_)) h0 fun _ h114 => ?_
  refine go [] <| cl1 Tryz.call12 (works_ht wo hg) h114 fun _ h116 => go [] ?_
  exact en (.bool true) [] ⟨_, _, rfl, ⟨rfl, rfl⟩, h116⟩
 refine cl0 Tryz.call11 (short_no p0 n0 c0 100 (by omega)) h0 fun _ h118 => go [] <| cl1 Tryz.call12 (works_ht wo hg) h118 fun _ h120 => go [] ?_
 exact en (.bool true) [] ⟨_, _, rfl, ⟨rfl, rfl⟩, h120⟩

set_option maxHeartbeats 4000000 in
theorem answers_2 (wo : World) (hg : Lett wo) (p0 : Option Addr) (n0 c0 : Nat) (T0 : List Sq) (hr0 : Rd wo p0 n0 (fl eSq T0)) (hT0 : T0.length = n0) (hO0 : ∀ x ∈ T0, SqOk x) (an kz az wh : Int) (ha0 : 0 ≤ an) (ha1 : an ≤ 255) (hw0 : 0 ≤ wh) (hw1 : wh ≤ 255) (hf_ : ¬ (acqE (mdS (wnew 1) T0 n0) kz az = 2 ∨ acqE (mdS (wnew 1) T0 n0) kz az = 4 ∨ acqE (mdS (wnew 1) T0 n0) kz az = 17)) : HT Tryz.prog 7 [.slice p0 n0 c0, yV an, iV kz, iV az, yV wh] [Old wo] (fun v K => v = .bool true ∧ K = [Old wo]) := by
 refine hiS Tryz.func7 Tryz.ntmps7 fun g w0 R h0 => ?_
 have hW0_ : WOk (mdS (wnew 1) T0 n0) := wok_mds (wok_new (by decide)) T0 n0
 refine go [] ?_
 by_cases c10 : (n0 : Int) ≤ 100
 ·
  rcases Bool.eq_false_or_eq_true (decide (Sho T0 100)) with cb11 | cb11
  ·
   refine cl1 Tryz.call11 ((by have h_ := short_ht p0 n0 c0 T0 (Old wo) (gv_old hr0) hT0 (by omega) 100; rw [cb11] at h_; exact h_)) h0 fun _ h13 => ?_
   have hsh14 : Sho T0 100 := of_decide_eq_true cb11; have hsh14l := hsh14.1; rw [hT0] at hsh14l
   refine go [] <| cP Tryz.call22 (made_ht wo hg p0 n0 c0 T0 hr0 hT0 hO0 hsh14.2 (by omega)) h13 ?_
   rintro v K _ (⟨b15, rfl, rfl⟩) h17
   have h18 := ap2 h17
   refine go [] <| cP Tryz.call19 (wall_ht b15 (mdS (wnew 1) T0 n0)) h18 ?_
   rintro v K _ (⟨p19, c20, rfl, rfl⟩) h22
   have h23 := ap2 h22
   have hl24 := allS_le (wd_get (j := 1) h23 rfl)
   have h26 := tk4 (sf3 (sf2 (sf3 (sf3 h23))))
   refine go [] <| cP Tryz.call31 (wcopy_ht b15 (mdS (wnew 1) T0 n0)) h26 ?_
   rintro v K _ (⟨b25, rfl, rfl⟩) h28
   have h29 := ap2 h28
   obtain ⟨q30, hq31⟩ : ∃ q : Nat, TMod (an) 3 q ∧ (q : Int) < 3 ∧ (q : Int) ≤ an := rem_nat (by omega) (by omega)
   refine go [.s 8 5] <| lwP (yV (q30 : Int)) (law_rem (t := 5) (x := (Operand.tmp 41)) (y := (Operand.const (yV 3))) (by kernel_rfl) an 3 (by kernel_rfl) (by kernel_rfl) (by omega) (q30 : Int) hq31.1 _) ?_
   obtain ⟨x32, hx33⟩ : ∃ x, ([111, 108, 102] : List UInt8)[q30]? = some x := ⟨_, List.getElem?_eq_getElem (by simp only [List.length_cons, List.length_nil]; omega)⟩
   have hb34 := u8_lt x32
   refine lwP (yV (((x32.toNat : Nat) : Int))) (law_idxStr (x := (Operand.const (.string (St [111, 108, 102])))) (i := (Operand.tmp 42)) (k := .u8) (s := [111, 108, 102]) (z := (q30 : Int)) (b := x32) (by kernel_rfl) Tryz.underlying9 (by kernel_rfl) (by kernel_rfl) q30 (by omega) hx33 _) <| nG (fun q_ => .slice (some ⟨q_, 0, none⟩) 1 1) 5 [yV (((x32.toNat : Nat) : Int))] h29 (fun r35 _ h37 => ⟨kd [], ?_⟩)
   refine lwP (.string (St [x32])) (law_bts (x := (Operand.tmp 44)) (p := (some ⟨r35, 0, none⟩)) (m := 1) (c := 1) (by kernel_rfl) Tryz.underlying63 Tryz.underlying5 Tryz.underlying9 (by kernel_rfl) 0 h37 rfl (gv_cl (off := 0) (fun k v hk => by rw [Nat.zero_add]; exact hk)) (by first | rfl | omega)) ?_
   have hW1_ : WOk (aswS (mdS (wnew 1) T0 n0) [x32]) := wok_asw hW0_ _
   have hn1_ : ((aswS (mdS (wnew 1) T0 n0) [x32]).T).length ≤ 100 := by have h_ := mds_T (wok_new (g := 1) (by decide)) T0 n0; have h2_ : (wnew 1).T.length = 0 := rfl; show ((mdS (wnew 1) T0 n0).T).length ≤ 100; omega
   have hv_ : (acqE (mdS (wnew 1) T0 n0) kz az = 0 ∨ acqE (mdS (wnew 1) T0 n0) kz az = 14 ∨ acqE (mdS (wnew 1) T0 n0) kz az = 15) ∧ (acqE (aswS (mdS (wnew 1) T0 n0) [x32]) kz az = 0 ∨ acqE (aswS (mdS (wnew 1) T0 n0) [x32]) kz az = 14 ∨ acqE (aswS (mdS (wnew 1) T0 n0) [x32]) kz az = 15) := acq_var (S := (mdS (wnew 1) T0 n0)) (q := addL (mdS (wnew 1) T0 n0).q [x32]) hf_
   have hv1_ := hv_.1; have hv2_ := hv_.2
   refine cl2 Tryz.call30 (wansw_ht wo hg b15 (mdS (wnew 1) T0 n0) [x32] (by simp only [List.length_cons, List.length_nil]; omega)) (tk6 (sf5 (sf5 (sf3 (sf4 (sf4 (sf5 h37))))))) fun _ h40 => ?_
   by_cases c41 : (aswE (mdS (wnew 1) T0 n0) [x32]) = 0
   ·
    refine go [.v 8 10 (qnF ((aswE (mdS (wnew 1) T0 n0) [x32])) 0)] <| cP Tryz.call17 (wledg_ht b15 (aswS (mdS (wnew 1) T0 n0) [x32])) h40 ?_
    rintro v K _ (⟨b42, rfl, rfl⟩) h44
    refine cl1 Tryz.call23 (lglen_ht b42 ((aswS (mdS (wnew 1) T0 n0) [x32]).T)) (tk7 (sf6 (sf5 (sf6 (sf6 (sf6 (sf6 (sf6 (ap2 h44))))))))) fun _ h48 => ?_
    have h49 := tk7 (sf6 (sf5 (sf6 (sf6 (sf6 (sf6 (sf6 h48)))))))
    refine go [] <| cl1 Tryz.call28 (wacq_ht b15 (aswS (mdS (wnew 1) T0 n0) [x32]) kz az) h49 fun _ h51 => go [] <| nP 32 [iV 0, iV 0, uV 0] h51 (fun _ _ h54 => ?_)
    refine sP [(0, iV ((acqO (aswS (mdS (wnew 1) T0 n0) [x32]) kz az).1)), (1, iV ((acqO (aswS (mdS (wnew 1) T0 n0) [x32]) kz az).2.1)), (2, uV ((acqO (aswS (mdS (wnew 1) T0 n0) [x32]) kz az).2.2))] [iV ((acqO (aswS (mdS (wnew 1) T0 n0) [x32]) kz az).1), iV ((acqO (aswS (mdS (wnew 1) T0 n0) [x32]) kz az).2.1), uV ((acqO (aswS (mdS (wnew 1) T0 n0) [x32]) kz az).2.2)] h54 fun _ h56 => ?_
    have h57 := tk8 (sf7 (sf6 (sf6 (sf6 (sf6 (sf6 (sf7 (sf7 h56))))))))
    refine go [] <| cl1 Tryz.call28 (wacq_ht b25 (mdS (wnew 1) T0 n0) kz az) h57 fun _ h59 => go [] <| nP 32 [iV 0, iV 0, uV 0] h59 (fun _ _ h62 => ?_)
    refine sP [(0, iV ((acqO (mdS (wnew 1) T0 n0) kz az).1)), (1, iV ((acqO (mdS (wnew 1) T0 n0) kz az).2.1)), (2, uV ((acqO (mdS (wnew 1) T0 n0) kz az).2.2))] [iV ((acqO (mdS (wnew 1) T0 n0) kz az).1), iV ((acqO (mdS (wnew 1) T0 n0) kz az).2.1), uV ((acqO (mdS (wnew 1) T0 n0) kz az).2.2)] h62 fun _ h64 => go [.v 13 1 (qeF ((acqE (mdS (wnew 1) T0 n0) kz az)) 2), .v 13 4 (qeF ((acqE (mdS (wnew 1) T0 n0) kz az)) 4), .v 13 8 (qeF ((acqE (mdS (wnew 1) T0 n0) kz az)) 17), .s 15 100000] ?_
    refine jnS (fun a w => ∃ lr : Fr, a = mk 205 (([(4, yV wh), (11, pV b15), (14, iV (((((aswS (mdS (wnew 1) T0 n0) [x32]).T).length : Nat) : Int)))] : Fr) ++ lr) ∧ sat g w [Wd b15 (acqS (aswS (mdS (wnew 1) T0 n0) [x32]) kz az), Old wo, R]) ?_ ?_
    ·
     refine go [.s 15 1] ?_
     by_cases c65 : (acqE (aswS (mdS (wnew 1) T0 n0) [x32]) kz az) = 0
     ·
      have h68 := tk9 (sf8 (sf7 (sf7 (sf7 (sf8 (sf8 (sf8 (sf8 (sf8 h64)))))))))
      refine go [.v 15 1 (qeT ((acqE (aswS (mdS (wnew 1) T0 n0) [x32]) kz az)) 0)] <| cP Tryz.call19 (wall_ht b15 (acqS (aswS (mdS (wnew 1) T0 n0) [x32]) kz az)) h68 ?_
      rintro v K _ (⟨p66, c67, rfl, rfl⟩) h70
      have h71 := ap2 h70
      have hl72 := allS_le (wd_get (j := 1) h71 rfl)
      have hal_ : ((allS (acqS (aswS (mdS (wnew 1) T0 n0) [x32]) kz az)).length) = ((allS (mdS (wnew 1) T0 n0)).length) + 1 := acq_len (by omega)
      have hW2_ : WOk (acqS (aswS (mdS (wnew 1) T0 n0) [x32]) kz az) := wok_acq hW1_ kz az; have hth_ := (acq_thr hW1_ (show acqE (aswS (mdS (wnew 1) T0 n0) [x32]) kz az = 0 by omega)).1
      have hg73 := thr_gen hW2_ hth_; have hg73a : 0 ≤ (acqO (aswS (mdS (wnew 1) T0 n0) [x32]) kz az).2.2 := hg73.1; have hg73b : (acqO (aswS (mdS (wnew 1) T0 n0) [x32]) kz az).2.2 ≤ 4294967295 := hg73.2
      have h74 := tk10 (sf9 (sf8 (sf9 (sf9 (sf9 (sf9 (sf9 (sf9 (sf9 (sf9 h71))))))))))
      refine go [.v 15 8 (oIr (((((allS (mdS (wnew 1) T0 n0)).length : Nat) : Int)) + 1)), .v 15 9 (qnF ((((allS (acqS (aswS (mdS (wnew 1) T0 n0) [x32]) kz az)).length : Nat) : Int)) ((((allS (mdS (wnew 1) T0 n0)).length : Nat) : Int) + 1)), rd 15 12 4 0 3 h71] <| cl1 Tryz.call16 ((by have h_ := whas_ht b15 (acqS (aswS (mdS (wnew 1) T0 n0) [x32]) kz az) ((acqO (aswS (mdS (wnew 1) T0 n0) [x32]) kz az).1) ((acqO (aswS (mdS (wnew 1) T0 n0) [x32]) kz az).2.1) ((acqO (aswS (mdS (wnew 1) T0 n0) [x32]) kz az).2.2) (by omega) (by omega); rw [decide_eq_true (show Thr (acqS (aswS (mdS (wnew 1) T0 n0) [x32]) kz az) (((acqO (aswS (mdS (wnew 1) T0 n0) [x32]) kz az).1, (acqO (aswS (mdS (wnew 1) T0 n0) [x32]) kz az).2.1, (acqO (aswS (mdS (wnew 1) T0 n0) [x32]) kz az).2.2) : Ky) from hth_)] at h_; exact h_)) h74 fun _ h76 => ?_
      refine go [.v 15 19 (qnF ((acqE (aswS (mdS (wnew 1) T0 n0) [x32]) kz az)) 0)] <| cP Tryz.call17 (wledg_ht b15 (acqS (aswS (mdS (wnew 1) T0 n0) [x32]) kz az)) h76 ?_
      rintro v K _ (⟨b77, rfl, rfl⟩) h79
      have h80 := ap2 h79
      have hnt_ : (((acqS (aswS (mdS (wnew 1) T0 n0) [x32]) kz az).T).length) = (((aswS (mdS (wnew 1) T0 n0) [x32]).T).length) := by rw [acq_T.1]
      refine cl1 Tryz.call23 (lglen_ht b77 ((acqS (aswS (mdS (wnew 1) T0 n0) [x32]) kz az).T)) (tk11 (sf10 (sf9 (sf10 (sf10 (sf10 (sf10 (sf10 (sf10 (sf10 (sf10 (sf10 h80)))))))))))) fun _ h83 => go [.v 15 41 (qnF (((((acqS (aswS (mdS (wnew 1) T0 n0) [x32]) kz az).T).length : Nat) : Int)) (((((aswS (mdS (wnew 1) T0 n0) [x32]).T).length : Nat) : Int)))] ?_
      refine enL ?_
      exact ⟨_, (lvF [.k 4 (yV wh), .k 11 (pV b15), .k 14 (iV (((((aswS (mdS (wnew 1) T0 n0) [x32]).T).length : Nat) : Int)))]), (tk3 (tk11 (sf10 (sf10 (sf10 (sf7 (sf8 (sf8 (sf8 (sf8 (sf8 (sf9 (sf9 h83)))))))))))))⟩
     refine go [.v 15 1 (qeF ((acqE (aswS (mdS (wnew 1) T0 n0) [x32]) kz az)) 0), .v 15 19 (qnT ((acqE (aswS (mdS (wnew 1) T0 n0) [x32]) kz az)) 0), .s 15 22] ?_
     by_cases c86 : (acqE (aswS (mdS (wnew 1) T0 n0) [x32]) kz az) = 15
     ·
      have h89 := tk9 (sf8 (sf7 (sf7 (sf7 (sf8 (sf8 (sf8 (sf8 (sf8 h64)))))))))
      refine go [.v 15 22 (qnF ((acqE (aswS (mdS (wnew 1) T0 n0) [x32]) kz az)) 15)] <| cP Tryz.call19 (wall_ht b15 (acqS (aswS (mdS (wnew 1) T0 n0) [x32]) kz az)) h89 ?_
      rintro v K _ (⟨p87, c88, rfl, rfl⟩) h91
      have h92 := ap2 h91
      have hl93 := allS_le (wd_get (j := 1) h92 rfl)
      have h94 := tk10 (sf9 (sf9 (sf8 (sf8 (sf8 (sf8 (sf8 (sf8 (sf8 (sf9 h92))))))))))
      refine go [] <| cl2 Tryz.call26 ((by have h_ := same_ht p87 p19 (((allS (acqS (aswS (mdS (wnew 1) T0 n0) [x32]) kz az)).length)) (((allS (mdS (wnew 1) T0 n0)).length)) c88 c20 (allS (acqS (aswS (mdS (wnew 1) T0 n0) [x32]) kz az)) (allS (mdS (wnew 1) T0 n0)) (Sl 32 3 p87 (((allS (acqS (aswS (mdS (wnew 1) T0 n0) [x32]) kz az)).length)) c88 (fl eO (allS (acqS (aswS (mdS (wnew 1) T0 n0) [x32]) kz az)))) (Sl 32 3 p19 (((allS (mdS (wnew 1) T0 n0)).length)) c20 (fl eO (allS (mdS (wnew 1) T0 n0)))) (gv_sl _ _ _) (gv_sl _ _ _) rfl rfl (by omega); rw [show decide ((allS (acqS (aswS (mdS (wnew 1) T0 n0) [x32]) kz az)) = (allS (mdS (wnew 1) T0 n0))) = true from (decide_eq_true ((acq_all (show acqE (aswS (mdS (wnew 1) T0 n0) [x32]) kz az ≠ 0 by omega)).trans rfl))] at h_; exact h_)) h94 fun _ h96 => ?_
      have h98 := tk10 (sf9 (sf8 (sf8 (sf9 (sf9 (sf9 (sf9 (sf9 (sf9 (sf9 h96))))))))))
      refine go [] <| cP Tryz.call17 (wledg_ht b15 (acqS (aswS (mdS (wnew 1) T0 n0) [x32]) kz az)) h98 ?_
      rintro v K _ (⟨b97, rfl, rfl⟩) h100
      have h101 := ap2 h100
      have hnt_ : (((acqS (aswS (mdS (wnew 1) T0 n0) [x32]) kz az).T).length) = (((aswS (mdS (wnew 1) T0 n0) [x32]).T).length) := by rw [acq_T.1]
      refine cl1 Tryz.call23 (lglen_ht b97 ((acqS (aswS (mdS (wnew 1) T0 n0) [x32]) kz az).T)) (tk11 (sf10 (sf9 (sf10 (sf10 (sf10 (sf10 (sf10 (sf10 (sf10 (sf10 (sf10 h101)))))))))))) fun _ h104 => go [.v 15 41 (qnF (((((acqS (aswS (mdS (wnew 1) T0 n0) [x32]) kz az).T).length : Nat) : Int)) (((((aswS (mdS (wnew 1) T0 n0) [x32]).T).length : Nat) : Int)))] ?_
      refine enL ?_
      exact ⟨_, (lvF [.k 4 (yV wh), .k 11 (pV b15), .k 14 (iV (((((aswS (mdS (wnew 1) T0 n0) [x32]).T).length : Nat) : Int)))]), (tk3 (tk11 (sf10 (sf10 (sf10 (sf7 (sf8 (sf8 (sf8 (sf8 (sf8 (sf8 (sf9 h104)))))))))))))⟩
     have h109 := tk9 (sf8 (sf7 (sf7 (sf7 (sf8 (sf8 (sf8 (sf8 (sf8 h64)))))))))
     refine go [.v 15 22 (qnT ((acqE (aswS (mdS (wnew 1) T0 n0) [x32]) kz az)) 15), .v 15 25 (qnF ((acqE (aswS (mdS (wnew 1) T0 n0) [x32]) kz az)) 14)] <| cP Tryz.call19 (wall_ht b15 (acqS (aswS (mdS (wnew 1) T0 n0) [x32]) kz az)) h109 ?_
     rintro v K _ (⟨p107, c108, rfl, rfl⟩) h111
     have h112 := ap2 h111
     have hl113 := allS_le (wd_get (j := 1) h112 rfl)
     have h114 := tk10 (sf9 (sf9 (sf8 (sf8 (sf8 (sf8 (sf8 (sf8 (sf8 (sf9 h112))))))))))
     refine go [] <| cl2 Tryz.call26 ((by have h_ := same_ht p107 p19 (((allS (acqS (aswS (mdS (wnew 1) T0 n0) [x32]) kz az)).length)) (((allS (mdS (wnew 1) T0 n0)).length)) c108 c20 (allS (acqS (aswS (mdS (wnew 1) T0 n0) [x32]) kz az)) (allS (mdS (wnew 1) T0 n0)) (Sl 32 3 p107 (((allS (acqS (aswS (mdS (wnew 1) T0 n0) [x32]) kz az)).length)) c108 (fl eO (allS (acqS (aswS (mdS (wnew 1) T0 n0) [x32]) kz az)))) (Sl 32 3 p19 (((allS (mdS (wnew 1) T0 n0)).length)) c20 (fl eO (allS (mdS (wnew 1) T0 n0)))) (gv_sl _ _ _) (gv_sl _ _ _) rfl rfl (by omega); rw [show decide ((allS (acqS (aswS (mdS (wnew 1) T0 n0) [x32]) kz az)) = (allS (mdS (wnew 1) T0 n0))) = true from (decide_eq_true ((acq_all (show acqE (aswS (mdS (wnew 1) T0 n0) [x32]) kz az ≠ 0 by omega)).trans rfl))] at h_; exact h_)) h114 fun _ h116 => ?_
     have h118 := tk10 (sf9 (sf8 (sf8 (sf9 (sf9 (sf9 (sf9 (sf9 (sf9 (sf9 h116))))))))))
     refine go [] <| cP Tryz.call17 (wledg_ht b15 (acqS (aswS (mdS (wnew 1) T0 n0) [x32]) kz az)) h118 ?_
     rintro v K _ (⟨b117, rfl, rfl⟩) h120
     have h121 := ap2 h120
     have hnt_ : (((acqS (aswS (mdS (wnew 1) T0 n0) [x32]) kz az).T).length) = (((aswS (mdS (wnew 1) T0 n0) [x32]).T).length) := by rw [acq_T.1]
     refine cl1 Tryz.call23 (lglen_ht b117 ((acqS (aswS (mdS (wnew 1) T0 n0) [x32]) kz az).T)) (tk11 (sf10 (sf9 (sf10 (sf10 (sf10 (sf10 (sf10 (sf10 (sf10 (sf10 (sf10 h121)))))))))))) fun _ h124 => go [.v 15 41 (qnF (((((acqS (aswS (mdS (wnew 1) T0 n0) [x32]) kz az).T).length : Nat) : Int)) (((((aswS (mdS (wnew 1) T0 n0) [x32]).T).length : Nat) : Int)))] ?_
     refine enL ?_
     exact ⟨_, (lvF [.k 4 (yV wh), .k 11 (pV b15), .k 14 (iV (((((aswS (mdS (wnew 1) T0 n0) [x32]).T).length : Nat) : Int)))]), (tk3 (tk11 (sf10 (sf10 (sf10 (sf7 (sf8 (sf8 (sf8 (sf8 (sf8 (sf8 (sf9 h124)))))))))))))⟩
    rintro a127 w128 ⟨lr130, rfl, h129⟩
    refine ga ?_
    have hW2_ : WOk (acqS (aswS (mdS (wnew 1) T0 n0) [x32]) kz az) := wok_acq hW1_ kz az
    refine go [] <| cP Tryz.call19 (wall_ht b15 (acqS (aswS (mdS (wnew 1) T0 n0) [x32]) kz az)) h129 ?_
    rintro v K _ (⟨p131, c132, rfl, rfl⟩) h134
    have h135 := ap2 h134
    have hl136 := allS_le (wd_get (j := 1) h135 rfl)
    refine go [.s 18 2] ?_
    by_cases c137 : (((allS (acqS (aswS (mdS (wnew 1) T0 n0) [x32]) kz az)).length : Nat) : Int) = 0
    ·
     have h138 := tk4 (sf3 (sf2 (sf2 (sf3 h135))))
     refine go [.v 18 2 (qeT ((((allS (acqS (aswS (mdS (wnew 1) T0 n0) [x32]) kz az)).length : Nat) : Int)) 0)] <| cl1 Tryz.call12 (works_ht wo hg) h138 fun _ h140 => go [] ?_
     exact en (.bool true) [] ⟨_, _, rfl, ⟨rfl, rfl⟩, (tk2 (sf1 (sf3 h140)))⟩
    obtain ⟨q142, hq143⟩ : ∃ q : Nat, TMod (wh) ((((allS (acqS (aswS (mdS (wnew 1) T0 n0) [x32]) kz az)).length : Nat) : Int)) q ∧ (q : Int) < (((allS (acqS (aswS (mdS (wnew 1) T0 n0) [x32]) kz az)).length : Nat) : Int) ∧ (q : Int) ≤ wh := rem_nat (by omega) (by omega)
    refine go [.v 18 2 (qeF ((((allS (acqS (aswS (mdS (wnew 1) T0 n0) [x32]) kz az)).length : Nat) : Int)) 0), .v 20 2 (oIr wh), .s 20 5] <| lwP (iV (q142 : Int)) (law_rem (t := 3) (x := (Operand.tmp 149)) (y := (Operand.tmp 151)) (by kernel_rfl) wh ((((allS (acqS (aswS (mdS (wnew 1) T0 n0) [x32]) kz az)).length : Nat) : Int)) (by kernel_rfl) (by kernel_rfl) (by omega) (q142 : Int) hq143.1 _) ?_
    obtain ⟨b144, hp145⟩ := sl_ptr0 (j := 0) h135 rfl (by omega)
    refine lwP (.pointer (some ⟨b144, q142 * 3, none⟩)) (law_indexSlP (x := (Operand.tmp 147)) (i := (Operand.tmp 152)) (p := p131) (b := b144) (off := 0) (z := (q142 : Int)) (len := (((allS (acqS (aswS (mdS (wnew 1) T0 n0) [x32]) kz az)).length))) (cap := c132) (by kernel_rfl) Tryz.underlying30 3 (by kernel_rfl) q142 (by kernel_rfl) hp145 (by kernel_rfl) (by omega) (by omega) (q142 * 3) (by omega) _) ?_
    obtain ⟨x146, hx147⟩ : ∃ x, (allS (acqS (aswS (mdS (wnew 1) T0 n0) [x32]) kz az))[q142]? = some x := ⟨_, List.getElem?_eq_getElem (by omega)⟩
    have hth_ := all_at hW2_ hx147
    have hg148 := thr_gen hW2_ hth_; have hg148a : 0 ≤ x146.2.2 := hg148.1; have hg148b : x146.2.2 ≤ 4294967295 := hg148.2
    refine go [.r 20 7 b144 (q142 * 3) [iV x146.1, iV x146.2.1, uV x146.2.2] ⟨gv_cell (j := 0) h135 rfl (gv_sl _ _ _) hp145 (fl_get eO_ok (j := 0) (v := iV x146.1) hx147 rfl) (q142 * 3) (by omega), gv_cell (j := 0) h135 rfl (gv_sl _ _ _) hp145 (fl_get eO_ok (j := 1) (v := iV x146.2.1) hx147 rfl) (q142 * 3 + 1) (by omega), gv_cell (j := 0) h135 rfl (gv_sl _ _ _) hp145 (fl_get eO_ok (j := 2) (v := uV x146.2.2) hx147 rfl) (q142 * 3 + 2) (by omega), trivial⟩] <| nP 32 [iV 0, iV 0, uV 0] h135 (fun _ _ h151 => ?_)
    refine sP [(0, iV x146.1), (1, iV x146.2.1), (2, uV x146.2.2)] [iV x146.1, iV x146.2.1, uV x146.2.2] h151 fun _ h153 => ?_
    have hnt_ : (((acqS (aswS (mdS (wnew 1) T0 n0) [x32]) kz az).T).length) = (((aswS (mdS (wnew 1) T0 n0) [x32]).T).length) := by rw [acq_T.1]
    have hry_ := rel_y (o := ((x146.1, x146.2.1, x146.2.2) : Ky)) (y := 3) hW2_ hth_ (by decide) (by omega); have hrya_ := hry_.2.1; have hryb_ := hry_.2.2.1; have hryc_ : (((relS (acqS (aswS (mdS (wnew 1) T0 n0) [x32]) kz az) ((x146.1, x146.2.1, x146.2.2) : Ky) 3).T).length) = (((acqS (aswS (mdS (wnew 1) T0 n0) [x32]) kz az).T).length) + 1 := hry_.2.2.2
    have h154 := tk5 (sf4 (sf3 (sf3 (sf4 (sf4 h153)))))
    refine go [rd 21 1 0 0 3 h153] <| cl1 Tryz.call27 ((by have h_ := wrel_ht b15 (acqS (aswS (mdS (wnew 1) T0 n0) [x32]) kz az) x146.1 x146.2.1 x146.2.2 3 (by omega) (by omega); rw [show relE (acqS (aswS (mdS (wnew 1) T0 n0) [x32]) kz az) ((x146.1, x146.2.1, x146.2.2) : Ky) 3 = 0 from hry_.1] at h_; exact h_)) h154 fun _ h156 => ?_
    refine go [] <| cP Tryz.call17 (wledg_ht b15 (relS (acqS (aswS (mdS (wnew 1) T0 n0) [x32]) kz az) ((x146.1, x146.2.1, x146.2.2) : Ky) 3)) h156 ?_
    rintro v K _ (⟨b157, rfl, rfl⟩) h159
    refine cP Tryz.call18 (lgall_ht b157 ((relS (acqS (aswS (mdS (wnew 1) T0 n0) [x32]) kz az) ((x146.1, x146.2.1, x146.2.2) : Ky) 3).T)) (tk6 (sf5 (sf4 (sf5 (sf5 (sf5 (sf5 (ap2 h159)))))))) ?_
    rintro v K _ (⟨p161, c162, rfl, rfl⟩) h165
    have h168 := tk7 (sf6 (sf5 (sf5 (sf6 (sf6 (sf6 (sf6 (ap2 h165))))))))
    refine go [] <| cP Tryz.call17 (wledg_ht b15 (relS (acqS (aswS (mdS (wnew 1) T0 n0) [x32]) kz az) ((x146.1, x146.2.1, x146.2.2) : Ky) 3)) h168 ?_
    rintro v K _ (⟨b167, rfl, rfl⟩) h170
    refine cl1 Tryz.call23 (lglen_ht b167 ((relS (acqS (aswS (mdS (wnew 1) T0 n0) [x32]) kz az) ((x146.1, x146.2.1, x146.2.2) : Ky) 3).T)) (tk8 (sf7 (sf6 (sf7 (sf7 (sf7 (sf7 (sf7 (sf7 (ap2 h170)))))))))) fun _ h174 => go [] <| dw (fls [0, 1, 2, 3, 4, 5, 6, 7, 8, 9, 10, 11, 12, 13, 14, 16, 17] (Tr.an 15 (fls [18, 19, 20, 21, 22, 23, 25, 26] (Tr.an 24 (fls [27, 28] Tr.nil))))) h174 fun _ h176 => ?_
    obtain ⟨b177, hp178⟩ := sl_ptr0 (j := 2) h176 rfl (by omega)
    obtain ⟨kk179, hk180⟩ : ∃ z : Nat, z = (((relS (acqS (aswS (mdS (wnew 1) T0 n0) [x32]) kz az) ((x146.1, x146.2.1, x146.2.2) : Ky) 3).T).length) - 1 := ⟨_, rfl⟩
    refine go [.v 23 5 (oIr ((((((aswS (mdS (wnew 1) T0 n0) [x32]).T).length : Nat) : Int)) + 1)), .v 23 6 (qnF (((((relS (acqS (aswS (mdS (wnew 1) T0 n0) [x32]) kz az) ((x146.1, x146.2.1, x146.2.2) : Ky) 3).T).length : Nat) : Int)) (((((aswS (mdS (wnew 1) T0 n0) [x32]).T).length : Nat) : Int) + 1)), .v 23 11 (oIr ((((((relS (acqS (aswS (mdS (wnew 1) T0 n0) [x32]) kz az) ((x146.1, x146.2.1, x146.2.2) : Ky) 3).T).length : Nat) : Int)) - 1)), .s 23 12] <| lw (.pointer (some ⟨b177, kk179 * 6, none⟩)) (fun _ => law_indexSlP (x := (Operand.tmp 176)) (i := (Operand.tmp 178)) (p := p161) (b := b177) (off := 0) (z := (((((relS (acqS (aswS (mdS (wnew 1) T0 n0) [x32]) kz az) ((x146.1, x146.2.1, x146.2.2) : Ky) 3).T).length : Nat) : Int) - 1)) (len := ((((relS (acqS (aswS (mdS (wnew 1) T0 n0) [x32]) kz az) ((x146.1, x146.2.1, x146.2.2) : Ky) 3).T).length))) (cap := c162) (by kernel_rfl) Tryz.underlying39 6 (by kernel_rfl) kk179 (by kernel_rfl) hp178 (by kernel_rfl) (by omega) (by omega) (kk179 * 6) (by omega) _) ?_
    obtain ⟨x181, hx182⟩ : ∃ x, ((relS (acqS (aswS (mdS (wnew 1) T0 n0) [x32]) kz az) ((x146.1, x146.2.1, x146.2.2) : Ky) 3).T)[(((relS (acqS (aswS (mdS (wnew 1) T0 n0) [x32]) kz az) ((x146.1, x146.2.1, x146.2.2) : Ky) 3).T).length) - 1]? = some x := ⟨_, List.getElem?_eq_getElem (by omega)⟩
    have hr183 := rel_at hry_.1 (by omega) hx182; obtain ⟨hr183a, hr183b, hr183c, hr183d, hr183e, hr183f⟩ := hr183
    have h184 := tk8 (sf7 (sf6 (sf7 (sf7 (sf7 (sf7 (sf7 (sf7 h176))))))))
    refine go [.r 23 13 b177 (kk179 * 6) [iV x181.at_, iV x181.out.1, iV x181.out.2.1, uV x181.out.2.2, iV x181.why, iV x181.ans] ⟨gv_cell (j := 2) h176 rfl (gv_sl _ _ _) hp178 (fl_get eAt_ok (j := 0) (v := iV x181.at_) hx182 rfl) (kk179 * 6) (by omega), gv_cell (j := 2) h176 rfl (gv_sl _ _ _) hp178 (fl_get eAt_ok (j := 1) (v := iV x181.out.1) hx182 rfl) (kk179 * 6 + 1) (by omega), gv_cell (j := 2) h176 rfl (gv_sl _ _ _) hp178 (fl_get eAt_ok (j := 2) (v := iV x181.out.2.1) hx182 rfl) (kk179 * 6 + 2) (by omega), gv_cell (j := 2) h176 rfl (gv_sl _ _ _) hp178 (fl_get eAt_ok (j := 3) (v := uV x181.out.2.2) hx182 rfl) (kk179 * 6 + 3) (by omega), gv_cell (j := 2) h176 rfl (gv_sl _ _ _) hp178 (fl_get eAt_ok (j := 4) (v := iV x181.why) hx182 rfl) (kk179 * 6 + 4) (by omega), gv_cell (j := 2) h176 rfl (gv_sl _ _ _) hp178 (fl_get eAt_ok (j := 5) (v := iV x181.ans) hx182 rfl) (kk179 * 6 + 5) (by omega), trivial⟩, rd 23 16 4 0 3 h176] <| cw1 Tryz.call20 (wnow_ht b15 (relS (acqS (aswS (mdS (wnew 1) T0 n0) [x32]) kz az) ((x146.1, x146.2.1, x146.2.2) : Ky) 3)) h184 fun _ h186 => ⟨kd [rd 0 16 4 0 3 h186, .r 0 13 b177 (kk179 * 6) [iV x181.at_, iV x181.out.1, iV x181.out.2.1, uV x181.out.2.2, iV x181.why, iV x181.ans] ⟨gv_cell (j := 2) h186 rfl (gv_sl _ _ _) hp178 (fl_get eAt_ok (j := 0) (v := iV x181.at_) hx182 rfl) (kk179 * 6) (by omega), gv_cell (j := 2) h186 rfl (gv_sl _ _ _) hp178 (fl_get eAt_ok (j := 1) (v := iV x181.out.1) hx182 rfl) (kk179 * 6 + 1) (by omega), gv_cell (j := 2) h186 rfl (gv_sl _ _ _) hp178 (fl_get eAt_ok (j := 2) (v := iV x181.out.2.1) hx182 rfl) (kk179 * 6 + 2) (by omega), gv_cell (j := 2) h186 rfl (gv_sl _ _ _) hp178 (fl_get eAt_ok (j := 3) (v := uV x181.out.2.2) hx182 rfl) (kk179 * 6 + 3) (by omega), gv_cell (j := 2) h186 rfl (gv_sl _ _ _) hp178 (fl_get eAt_ok (j := 4) (v := iV x181.why) hx182 rfl) (kk179 * 6 + 4) (by omega), gv_cell (j := 2) h186 rfl (gv_sl _ _ _) hp178 (fl_get eAt_ok (j := 5) (v := iV x181.ans) hx182 rfl) (kk179 * 6 + 5) (by omega), trivial⟩], ?_⟩
    refine go [.s 23 19] <| lw (.bool false) (fun _ => q20e44_neq_t (x := (Operand.tmp 180)) (y := (Operand.tmp 185)) x181.at_ x181.out.1 x181.out.2.1 x181.out.2.2 x181.why x181.ans ((relS (acqS (aswS (mdS (wnew 1) T0 n0) [x32]) kz az) ((x146.1, x146.2.1, x146.2.2) : Ky) 3).now) x146.1 x146.2.1 x146.2.2 3 ((relA (acqS (aswS (mdS (wnew 1) T0 n0) [x32]) kz az) ((x146.1, x146.2.1, x146.2.2) : Ky) 3)) (by kernel_rfl) (by kernel_rfl) (by kernel_rfl) ⟨(by omega), (by omega), (by omega), (by omega), (by omega), (by omega)⟩ _) <| go [rd 23 23 4 0 3 h186, .s 23 26] ?_
    by_cases c187 : (relA (acqS (aswS (mdS (wnew 1) T0 n0) [x32]) kz az) ((x146.1, x146.2.1, x146.2.2) : Ky) 3) = 1
    ·
     refine go [.v 23 26 (qnF ((relA (acqS (aswS (mdS (wnew 1) T0 n0) [x32]) kz az) ((x146.1, x146.2.1, x146.2.2) : Ky) 3)) 1)] <| cw1 Tryz.call16 ((by have h_ := whas_ht b15 (relS (acqS (aswS (mdS (wnew 1) T0 n0) [x32]) kz az) ((x146.1, x146.2.1, x146.2.2) : Ky) 3) x146.1 x146.2.1 x146.2.2 (by omega) (by omega); rw [decide_eq_false (show ¬ Thr (relS (acqS (aswS (mdS (wnew 1) T0 n0) [x32]) kz az) ((x146.1, x146.2.1, x146.2.2) : Ky) 3) ((x146.1, x146.2.1, x146.2.2) : Ky) from fun q_ => absurd ((rel_thr hry_.1).1 q_) (by omega))] at h_; exact h_)) h186 fun _ h189 => ⟨kd [], ?_⟩
     refine lw (.bool false) (fun _ => law_neBool (t := 4) (x := (Operand.tmp 191)) (y := (Operand.tmp 193)) false false false (by kernel_rfl) Tryz.underlying4 (by kernel_rfl) (by kernel_rfl) rfl _) ?_
     have h190 := tk8 (sf7 (sf6 (sf6 (sf6 (sf6 (sf6 (sf6 (sf7 h189))))))))
     refine go [.v 25 1 (oT ((relA (acqS (aswS (mdS (wnew 1) T0 n0) [x32]) kz az) ((x146.1, x146.2.1, x146.2.2) : Ky) 3) ≥ 1)), .v 25 4 (oT ((relA (acqS (aswS (mdS (wnew 1) T0 n0) [x32]) kz az) ((x146.1, x146.2.1, x146.2.2) : Ky) 3) ≤ 3))] <| cl1 Tryz.call12 (works_ht wo hg) h190 fun _ h192 => go [] ?_
     exact en (.bool true) [] ⟨_, _, rfl, ⟨rfl, rfl⟩, (tk2 (sf1 (sf7 h192)))⟩
    refine go [.v 23 26 (qnT ((relA (acqS (aswS (mdS (wnew 1) T0 n0) [x32]) kz az) ((x146.1, x146.2.1, x146.2.2) : Ky) 3)) 1)] <| cw1 Tryz.call16 ((by have h_ := whas_ht b15 (relS (acqS (aswS (mdS (wnew 1) T0 n0) [x32]) kz az) ((x146.1, x146.2.1, x146.2.2) : Ky) 3) x146.1 x146.2.1 x146.2.2 (by omega) (by omega); rw [decide_eq_true (show Thr (relS (acqS (aswS (mdS (wnew 1) T0 n0) [x32]) kz az) ((x146.1, x146.2.1, x146.2.2) : Ky) 3) ((x146.1, x146.2.1, x146.2.2) : Ky) from (rel_thr hry_.1).2 (by omega))] at h_; exact h_)) h186 fun _ h195 => ⟨kd [], ?_⟩
    refine lw (.bool false) (fun _ => law_neBool (t := 4) (x := (Operand.tmp 191)) (y := (Operand.tmp 193)) true true false (by kernel_rfl) Tryz.underlying4 (by kernel_rfl) (by kernel_rfl) rfl _) ?_
    have h196 := tk8 (sf7 (sf6 (sf6 (sf6 (sf6 (sf6 (sf6 (sf7 h195))))))))
    refine go [.v 25 1 (oT ((relA (acqS (aswS (mdS (wnew 1) T0 n0) [x32]) kz az) ((x146.1, x146.2.1, x146.2.2) : Ky) 3) ≥ 1)), .v 25 4 (oT ((relA (acqS (aswS (mdS (wnew 1) T0 n0) [x32]) kz az) ((x146.1, x146.2.1, x146.2.2) : Ky) 3) ≤ 3))] <| cl1 Tryz.call12 (works_ht wo hg) h196 fun _ h198 => go [] ?_
    exact en (.bool true) [] ⟨_, _, rfl, ⟨rfl, rfl⟩, (tk2 (sf1 (sf7 h198)))⟩
   have h200 := tk6 (sf5 (sf4 (sf5 (sf5 (sf5 (sf5 h40))))))
   refine go [.v 8 10 (qnT ((aswE (mdS (wnew 1) T0 n0) [x32])) 0)] <| cl1 Tryz.call12 (works_ht wo hg) h200 fun _ h202 => go [] ?_
   exact en (.bool true) [] ⟨_, _, rfl, ⟨rfl, rfl⟩, (tk2 (sf1 (sf5 h202)))⟩
  refine cl1 Tryz.call11 ((by have h_ := short_ht p0 n0 c0 T0 (Old wo) (gv_old hr0) hT0 (by omega) 100; rw [cb11] at h_; exact h_)) h0 fun _ h205 => ?_
  refine go [] <| cl1 Tryz.call12 (works_ht wo hg) h205 fun _ h207 => go [] ?_
  exact en (.bool true) [] ⟨_, _, rfl, ⟨rfl, rfl⟩, h207⟩
 refine cl0 Tryz.call11 (short_no p0 n0 c0 100 (by omega)) h0 fun _ h209 => go [] <| cl1 Tryz.call12 (works_ht wo hg) h209 fun _ h211 => go [] ?_
 exact en (.bool true) [] ⟨_, _, rfl, ⟨rfl, rfl⟩, h211⟩

theorem answers_law (wo : World) (hg : Lett wo) (p0 : Option Addr) (n0 c0 : Nat) (T0 : List Sq) (hr0 : Rd wo p0 n0 (fl eSq T0)) (hT0 : T0.length = n0) (hO0 : ∀ x ∈ T0, SqOk x) (an kz az wh : Int) (ha0 : 0 ≤ an) (ha1 : an ≤ 255) (hw0 : 0 ≤ wh) (hw1 : wh ≤ 255) : HT Tryz.prog 7 [Value.slice p0 n0 c0, Value.int IntKind.u8 an, Value.int IntKind.i64 kz, Value.int IntKind.i64 az, Value.int IntKind.u8 wh] [Old wo] (fun v K => v = Value.bool true ∧ K = [Old wo]) := by
  by_cases hf_ : acqE (mdS (wnew 1) T0 n0) kz az = 2 ∨ acqE (mdS (wnew 1) T0 n0) kz az = 4 ∨ acqE (mdS (wnew 1) T0 n0) kz az = 17
  · exact answers_1 wo hg p0 n0 c0 T0 hr0 hT0 hO0 an kz az wh ha0 ha1 hw0 hw1 hf_
  · exact answers_2 wo hg p0 n0 c0 T0 hr0 hT0 hO0 an kz az wh ha0 ha1 hw0 hw1 hf_
end Go.Proofs.YtggfnbpohmhphaaGreatDoor
