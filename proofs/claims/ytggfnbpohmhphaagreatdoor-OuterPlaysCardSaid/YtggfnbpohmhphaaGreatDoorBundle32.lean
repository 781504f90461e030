/- Walks, printed by my generator o9.py. -/
import Derived.Test.YtggfnbpohmhphaaGreatDoorBundle30
import Derived.Test.YtggfnbpohmhphaaGreatDoorInv
import Derived.Test.YtggfnbpohmhphaaGreatDoorBundle22
namespace Go.Proofs.YtggfnbpohmhphaaGreatDoor
abbrev wsix (b f p d s l : Nat) (S : Wst) : List Assn := [Cl b [Value.nilIface, Value.iface 84 (Value.pointer (some ⟨f, 0, none⟩)), Value.iface 87 (Value.pointer (some ⟨p, 0, none⟩)), Value.iface 90 (Value.pointer (some ⟨d, 0, none⟩)), Value.pointer (some ⟨s, 0, none⟩), Value.pointer (some ⟨l, 0, none⟩), Value.int IntKind.i64 S.now] 79, Fd f 64 S.F, Pl p S.B, Dk d S.D, Sr 146 s S.q, Lg l S.T]
theorem ht_open {fn : FuncId} {args : List Value} {b : Nat} {S : Wst} {Po : Value → Prop} (h : ∀ f p d s l, WOk S → HT Tryz.prog fn args (wsix b f p d s l S) (fun v K => Po v ∧ K = wsix b f p d s l S)) : HT Tryz.prog fn args [Wd b S] (fun v K => Po v ∧ K = [Wd b S]) := by
  intro g w F hs
  obtain ⟨f, p, d, s, l, hW, h1⟩ := wd_open hs
  refine (h f p d s l hW g w F h1).mono ?_
  rintro e w' ⟨v, K, he, ⟨hv, rfl⟩, h2⟩
  exact ⟨v, _, he, ⟨hv, rfl⟩, wd_close hW h2⟩
theorem wd_get {g w : World} {L : List Assn} {j b : Nat} {S : Wst} (h : sat g w L) (hj : L[j]? = some (Wd b S)) : WOk S := wd_ok h hj
set_option maxHeartbeats 4000000 in
theorem wvalid_cl (b l : Nat) (v0 v1 v2 v3 v4 v5 : Value) : HT Tryz.prog 56 [pV b] [Cl b [v0, v1, v2, v3, v4, pV l, v5] 79] (fun v K => v = .bool true ∧ K = [Cl b [v0, v1, v2, v3, v4, pV l, v5] 79]) := by
 refine hiS Tryz.func56 Tryz.ntmps56 fun g w0 R h0 => go [rd 1 6 0 5 1 h0] ?_
 exact en (.bool true) [] ⟨_, _, rfl, ⟨rfl, rfl⟩, h0⟩

set_option maxHeartbeats 4000000 in
theorem wvalid_n  : HT Tryz.prog 56 [.pointer none] [] (fun v K => v = .bool false ∧ K = []) := by
 refine hiS Tryz.func56 Tryz.ntmps56 fun g w0 R h0 => go [] ?_
 exact en (.bool false) [] ⟨_, _, rfl, ⟨rfl, rfl⟩, h0⟩

set_option maxHeartbeats 4000000 in
theorem wnew_ht (gn : Int) (hgn : 1 ≤ gn ∧ gn ≤ 4294967295) : HT Tryz.prog 13 [uV gn] [] (fun v K => ∃ b : Nat, v = .tuple #[pV b, iV 0] ∧ K = [Wd b (wnew gn)]) := by
 refine hiS Tryz.func13 Tryz.ntmps13 fun g w0 R h0 => go [] <| cl0 Tryz.call48 (gcheck_ok gn (by omega) (by omega)) h0 fun _ h11 => go [] <| cP Tryz.call49 ((by have h_ := fnew_ok 64 gn (by decide) (by omega); exact h_)) h11 ?_
 rintro v K _ (⟨b12, rfl, rfl⟩) h14
 have h15 := ap1 h14
 refine go [] <| cP Tryz.call50 (pnew_ht gn (by omega)) h15 ?_
 rintro v K _ (⟨b16, rfl, rfl⟩) h18
 have h19 := ap1 h18
 refine go [] <| cP Tryz.call51 (lnew_ht gn (by omega)) h19 ?_
 rintro v K _ (⟨b20, rfl, rfl⟩) h22
 have h23 := ap1 h22
 refine go [] <| cP Tryz.call52 (new_ht) h23 ?_
 rintro v K _ (⟨b24, rfl, rfl⟩) h26
 refine cP Tryz.call53 (lgnew_ht) (ap1 h26) ?_
 rintro v K _ (⟨b28, rfl, rfl⟩) h30
 have h31 := ap1 h30
 refine go [] <| nP 79 [Value.nilIface, Value.nilIface, Value.nilIface, Value.nilIface, pV b24, pV b28, iV 0] h31 (fun r32 _ h34 => ?_)
 refine go [] <| dw (fls [0, 1, 2, 3, 4, 5, 6, 7, 8, 9, 10, 11, 13, 14, 17, 18] (Tr.an 12 (Tr.fl 15 (Tr.an 16 (Tr.fl 19 (Tr.an 20 Tr.nil)))))) h34 fun _ h36 => go [.s 13 4] <| lw (.iface 84 (pV b12)) (fun _ => law_mkIface (t := 84) (x := (Operand.tmp 43)) (by kernel_rfl) Tryz.underlying84 rfl (pV b12) (by kernel_rfl) _) <| go [.s 13 6] <| lw (.iface 87 (pV b16)) (fun _ => law_mkIface (t := 87) (x := (Operand.tmp 45)) (by kernel_rfl) Tryz.underlying87 rfl (pV b16) (by kernel_rfl) _) <| go [.s 13 8] <| lw (.iface 90 (pV b20)) (fun _ => law_mkIface (t := 90) (x := (Operand.tmp 47)) (by kernel_rfl) Tryz.underlying90 rfl (pV b20) (by kernel_rfl) _) <| go [.s 13 11] <| lw (.pointer (some ⟨r32, 1, none⟩)) (fun _ => law_indexArr (x := (Operand.tmp 50)) (i := (Operand.const (iV 1))) (b := r32) (off := 0) (z := 1) (by kernel_rfl) Tryz.underlying76 1 (by kernel_rfl) 1 (by kernel_rfl) (by kernel_rfl) (by omega) (by omega) 1 (by omega) _) <| go [] <| sG [(1, .iface 84 (pV b12))] [Value.nilIface, .iface 84 (pV b12), Value.nilIface, Value.nilIface, pV b24, pV b28, iV 0] h36 fun _ h38 => ⟨kd [], ?_⟩
 refine lw (.pointer (some ⟨r32, 2, none⟩)) (fun _ => law_indexArr (x := (Operand.tmp 53)) (i := (Operand.const (iV 2))) (b := r32) (off := 0) (z := 2) (by kernel_rfl) Tryz.underlying76 1 (by kernel_rfl) 2 (by kernel_rfl) (by kernel_rfl) (by omega) (by omega) 2 (by omega) _) <| sG [(2, .iface 87 (pV b16))] [Value.nilIface, .iface 84 (pV b12), .iface 87 (pV b16), Value.nilIface, pV b24, pV b28, iV 0] h38 fun _ h40 => ⟨kd [], ?_⟩
 refine lw (.pointer (some ⟨r32, 3, none⟩)) (fun _ => law_indexArr (x := (Operand.tmp 56)) (i := (Operand.const (iV 3))) (b := r32) (off := 0) (z := 3) (by kernel_rfl) Tryz.underlying76 1 (by kernel_rfl) 3 (by kernel_rfl) (by kernel_rfl) (by omega) (by omega) 3 (by omega) _) <| sG [(3, .iface 90 (pV b20))] [Value.nilIface, .iface 84 (pV b12), .iface 87 (pV b16), .iface 90 (pV b20), pV b24, pV b28, iV 0] h40 fun w41 h42 => ⟨kd [], ?_⟩
 refine go [] ?_
 have h44 : sat g w41 [Wd r32 (wnew gn), R] := wd_close (wok_new hgn) (tk7 (sf6 (sf6 (sf5 (sf4 (sf3 (sf2 (sf6 h42))))))))
 exact en (.tuple #[pV r32, iV 0]) [] ⟨_, _, rfl, ⟨r32, rfl, rfl⟩, h44⟩

set_option maxHeartbeats 4000000 in
theorem wnew_no (gn : Int) (hgn : gn ≤ 0) : HT Tryz.prog 13 [uV gn] [] (fun v K => v = .tuple #[.pointer none, iV 2] ∧ K = []) := by
 refine hiS Tryz.func13 Tryz.ntmps13 fun g w0 R h0 => go [] <| cl0 Tryz.call48 (gcheck_no gn (by omega)) h0 fun _ h11 => go [] ?_
 exact en (.tuple #[.pointer none, iV 2]) [] ⟨_, _, rfl, ⟨rfl, rfl⟩, h11⟩

set_option maxHeartbeats 4000000 in
theorem has_no (b f p d s l : Nat) (S : Wst) (hW : WOk S) (x y z : Int) (hz0 : 0 ≤ z) (hz1 : z ≤ 4294967295) (hg : ¬ (1 ≤ x ∧ x ≤ 3 ∧ 0 ≤ y ∧ y ≤ 63 ∧ 1 ≤ z)) : HT Tryz.prog 16 [pV b, .agg #[iV x, iV y, uV z]] [Cl b [Value.nilIface, .iface 84 (pV f), .iface 87 (pV p), .iface 90 (pV d), pV s, pV l, iV S.now] 79, Fd f 64 S.F, Pl p S.B, Dk d S.D, Sr 146 s S.q, Lg l S.T] (fun v K => v = .bool false ∧ K = [Cl b [Value.nilIface, .iface 84 (pV f), .iface 87 (pV p), .iface 90 (pV d), pV s, pV l, iV S.now] 79, Fd f 64 S.F, Pl p S.B, Dk d S.D, Sr 146 s S.q, Lg l S.T]) := by
 refine hiS Tryz.func16 Tryz.ntmps16 fun g w0 R h0 => go [] <| nP 32 [iV x, iV y, uV z] h0 (fun _ _ h12 => ?_)
 refine go [] <| dw (Tr.fl 0 (Tr.an 1 (fls [2, 3] (Tr.an 4 (fls [5, 6, 7, 8, 9, 10, 11, 12, 13, 14, 16] (Tr.an 15 (Tr.an 17 (fls [18, 19] Tr.nil)))))))) h12 fun _ h14 => ?_
 have h15 := tk8 (sf7 (sf6 (sf7 (sf7 (sf7 (sf7 (sf7 (sf7 h14))))))))
 refine go [] <| cw1 Tryz.call56 (wvalid_cl b l Value.nilIface (.iface 84 (pV f)) (.iface 87 (pV p)) (.iface 90 (pV d)) (pV s) (iV S.now)) h15 fun _ h17 => ⟨kd [], ?_⟩
 refine go [rd 1 3 1 0 3 h17] ?_
 by_cases c18 : 1 ≤ x
 ·
  by_cases c19 : x ≤ 3
  ·
   by_cases c20 : 0 ≤ y
   ·
    by_cases c21 : y ≤ 63
    ·
     refine cw0 Tryz.call15 (couter_no x y z (by omega) (by omega) (by omega)) h17 fun _ h23 => ⟨kd [], ?_⟩
     refine go [] <| dsk [] <| dsk [] <| go [] ?_
     exact en (.bool false) [] ⟨_, _, rfl, ⟨rfl, rfl⟩, (tk7 (sf6 (sf6 (sf6 (sf6 (sf6 (sf6 (sf7 (tk8 (sf7 (sf7 (sf7 (sf7 (sf7 (sf7 (sf2 (sf7 h23)))))))))))))))))⟩
    refine cw0 Tryz.call15 (couter_no x y z (by omega) (by omega) (by omega)) h17 fun _ h27 => ⟨kd [], ?_⟩
    refine go [] <| dsk [] <| dsk [] <| go [] ?_
    exact en (.bool false) [] ⟨_, _, rfl, ⟨rfl, rfl⟩, (tk7 (sf6 (sf6 (sf6 (sf6 (sf6 (sf6 (sf7 (tk8 (sf7 (sf7 (sf7 (sf7 (sf7 (sf7 (sf2 (sf7 h27)))))))))))))))))⟩
   refine cw0 Tryz.call15 (couter_no x y z (by omega) (by omega) (by omega)) h17 fun _ h31 => ⟨kd [], ?_⟩
   refine go [] <| dsk [] <| dsk [] <| go [] ?_
   exact en (.bool false) [] ⟨_, _, rfl, ⟨rfl, rfl⟩, (tk7 (sf6 (sf6 (sf6 (sf6 (sf6 (sf6 (sf7 (tk8 (sf7 (sf7 (sf7 (sf7 (sf7 (sf7 (sf2 (sf7 h31)))))))))))))))))⟩
  refine cw0 Tryz.call15 (couter_no x y z (by omega) (by omega) (by omega)) h17 fun _ h35 => ⟨kd [], ?_⟩
  refine go [] <| dsk [] <| dsk [] <| go [] ?_
  exact en (.bool false) [] ⟨_, _, rfl, ⟨rfl, rfl⟩, (tk7 (sf6 (sf6 (sf6 (sf6 (sf6 (sf6 (sf7 (tk8 (sf7 (sf7 (sf7 (sf7 (sf7 (sf7 (sf2 (sf7 h35)))))))))))))))))⟩
 refine cw0 Tryz.call15 (couter_no x y z (by omega) (by omega) (by omega)) h17 fun _ h39 => ⟨kd [], ?_⟩
 refine go [] <| dsk [] <| dsk [] <| go [] ?_
 exact en (.bool false) [] ⟨_, _, rfl, ⟨rfl, rfl⟩, (tk7 (sf6 (sf6 (sf6 (sf6 (sf6 (sf6 (sf7 (tk8 (sf7 (sf7 (sf7 (sf7 (sf7 (sf7 (sf2 (sf7 h39)))))))))))))))))⟩

set_option maxHeartbeats 4000000 in
theorem has_1 (b f p d s l : Nat) (S : Wst) (hW : WOk S) (y z : Int) (hz0 : 0 ≤ z) (hz1 : z ≤ 4294967295) (hg : KGood (1, y, z)) (hy0 : 0 ≤ y) (hy1 : y ≤ 63) (hz : 1 ≤ z) : HT Tryz.prog 16 [pV b, .agg #[iV 1, iV y, uV z]] [Cl b [Value.nilIface, .iface 84 (pV f), .iface 87 (pV p), .iface 90 (pV d), pV s, pV l, iV S.now] 79, Fd f 64 S.F, Pl p S.B, Dk d S.D, Sr 146 s S.q, Lg l S.T] (fun v K => v = .bool (decide (Thr S (1, y, z))) ∧ K = [Cl b [Value.nilIface, .iface 84 (pV f), .iface 87 (pV p), .iface 90 (pV d), pV s, pV l, iV S.now] 79, Fd f 64 S.F, Pl p S.B, Dk d S.D, Sr 146 s S.q, Lg l S.T]) := by
 refine hiS Tryz.func16 Tryz.ntmps16 fun g w0 R h0 => go [] <| nP 32 [iV 1, iV y, uV z] h0 (fun _ _ h12 => ?_)
 refine go [] <| dw (Tr.fl 0 (Tr.an 1 (fls [2, 3] (Tr.an 4 (fls [5, 6, 7, 8, 9, 10, 11, 12, 13, 14, 16] (Tr.an 15 (Tr.an 17 (fls [18, 19] Tr.nil)))))))) h12 fun _ h14 => ?_
 have h15 := tk8 (sf7 (sf6 (sf7 (sf7 (sf7 (sf7 (sf7 (sf7 h14))))))))
 refine go [] <| cw1 Tryz.call56 (wvalid_cl b l Value.nilIface (.iface 84 (pV f)) (.iface 87 (pV p)) (.iface 90 (pV d)) (pV s) (iV S.now)) h15 fun _ h17 => ⟨kd [], ?_⟩
 refine go [rd 1 3 1 0 3 h17] <| cw0 Tryz.call15 (couter_ok 1 y z (by omega) (by omega) (by omega)) h17 fun _ h19 => ⟨kd [], ?_⟩
 refine go [rd 1 10 1 0 1 h19, .s 1 13] <| lw (.pointer (some ⟨b, 1, none⟩)) (fun _ => law_indexArr (x := (Operand.tmp 17)) (i := (Operand.tmp 15)) (b := b) (off := 0) (z := 1) (by kernel_rfl) Tryz.underlying76 1 (by kernel_rfl) 1 (by kernel_rfl) (by kernel_rfl) (by omega) (by omega) 1 (by omega) _) ?_
 have h22 := tk8 (sf7 (sf6 (sf6 (sf7 (sf7 (sf7 (sf7 (sf7 h19))))))))
 refine go [rd 1 14 0 1 1 h19, rd 1 16 1 0 3 h19] ?_
 refine iG 84 (pV f) "All" [] 193 ((by have h_ := fall_ht f 64 S.F; exact h_)) h22 ?_
 rintro v K _ (⟨p20, c21, rfl, rfl⟩) h24
 have h25 := ap2 h24
 have hl26 : ((inS 1 (As S.F) 0).length) ≤ 64 := by have h_ := inS_len 1 (As S.F) 0; rw [as_len, hW.fl] at h_; exact h_
 refine ⟨kd [rd 0 16 3 0 3 h25], ?_⟩
 refine cw1 Tryz.call57 (oct_ht p20 (((inS 1 (As S.F) 0).length)) c21 (allK 1 S.F) (Sl 32 3 p20 (((inS 1 (As S.F) 0).length)) c21 (fl eO (allK 1 S.F))) (gv_sl _ _ _) (allK_len _ _) (by omega) 1 y z) (tk9 (sf8 (sf7 (sf8 (sf8 (sf8 (sf8 (sf8 (sf8 (sf8 h25)))))))))) fun _ h29 => ⟨kd [], ?_⟩
 refine go [] ?_
 exact en (.bool (decide ((1, y, z) ∈ (allK 1 S.F)))) [] ⟨_, _, rfl, ⟨by rw [← thr_dec hg]; rfl, rfl⟩, (tk7 (sf6 (sf6 (sf6 (sf6 (sf6 (sf6 (sf8 (tk9 (sf8 (sf7 (sf8 (sf8 (sf8 (sf8 (sf2 (sf4 (sf8 h29))))))))))))))))))⟩

set_option maxHeartbeats 4000000 in
theorem has_2 (b f p d s l : Nat) (S : Wst) (hW : WOk S) (y z : Int) (hz0 : 0 ≤ z) (hz1 : z ≤ 4294967295) (hg : KGood (2, y, z)) (hy0 : 0 ≤ y) (hy1 : y ≤ 63) (hz : 1 ≤ z) : HT Tryz.prog 16 [pV b, .agg #[iV 2, iV y, uV z]] [Cl b [Value.nilIface, .iface 84 (pV f), .iface 87 (pV p), .iface 90 (pV d), pV s, pV l, iV S.now] 79, Fd f 64 S.F, Pl p S.B, Dk d S.D, Sr 146 s S.q, Lg l S.T] (fun v K => v = .bool (decide (Thr S (2, y, z))) ∧ K = [Cl b [Value.nilIface, .iface 84 (pV f), .iface 87 (pV p), .iface 90 (pV d), pV s, pV l, iV S.now] 79, Fd f 64 S.F, Pl p S.B, Dk d S.D, Sr 146 s S.q, Lg l S.T]) := by
 refine hiS Tryz.func16 Tryz.ntmps16 fun g w0 R h0 => go [] <| nP 32 [iV 2, iV y, uV z] h0 (fun _ _ h12 => ?_)
 refine go [] <| dw (Tr.fl 0 (Tr.an 1 (fls [2, 3] (Tr.an 4 (fls [5, 6, 7, 8, 9, 10, 11, 12, 13, 14, 16] (Tr.an 15 (Tr.an 17 (fls [18, 19] Tr.nil)))))))) h12 fun _ h14 => ?_
 have h15 := tk8 (sf7 (sf6 (sf7 (sf7 (sf7 (sf7 (sf7 (sf7 h14))))))))
 refine go [] <| cw1 Tryz.call56 (wvalid_cl b l Value.nilIface (.iface 84 (pV f)) (.iface 87 (pV p)) (.iface 90 (pV d)) (pV s) (iV S.now)) h15 fun _ h17 => ⟨kd [], ?_⟩
 refine go [rd 1 3 1 0 3 h17] <| cw0 Tryz.call15 (couter_ok 2 y z (by omega) (by omega) (by omega)) h17 fun _ h19 => ⟨kd [], ?_⟩
 refine go [rd 1 10 1 0 1 h19, .s 1 13] <| lw (.pointer (some ⟨b, 2, none⟩)) (fun _ => law_indexArr (x := (Operand.tmp 17)) (i := (Operand.tmp 15)) (b := b) (off := 0) (z := 2) (by kernel_rfl) Tryz.underlying76 1 (by kernel_rfl) 2 (by kernel_rfl) (by kernel_rfl) (by omega) (by omega) 2 (by omega) _) ?_
 have h22 := tk8 (sf7 (sf6 (sf6 (sf6 (sf7 (sf7 (sf7 (sf7 h19))))))))
 refine go [rd 1 14 0 2 1 h19, rd 1 16 1 0 3 h19] ?_
 refine iG 87 (pV p) "All" [] 195 (pall_ht p S.B) h22 ?_
 rintro v K _ (⟨p20, c21, rfl, rfl⟩) h24
 have h25 := ap2 h24
 have hl26 : ((inS 1 (As S.B) 0).length) ≤ 64 := by have h_ := inS_len 1 (As S.B) 0; rw [as_len, hW.bl] at h_; exact h_
 refine ⟨kd [rd 0 16 3 0 3 h25], ?_⟩
 refine cw1 Tryz.call57 (oct_ht p20 (((inS 1 (As S.B) 0).length)) c21 (allK 2 S.B) (Sl 32 3 p20 (((inS 1 (As S.B) 0).length)) c21 (fl eO (allK 2 S.B))) (gv_sl _ _ _) (allK_len _ _) (by omega) 2 y z) (tk9 (sf8 (sf7 (sf8 (sf8 (sf8 (sf8 (sf8 (sf8 (sf8 h25)))))))))) fun _ h29 => ⟨kd [], ?_⟩
 refine go [] ?_
 exact en (.bool (decide ((2, y, z) ∈ (allK 2 S.B)))) [] ⟨_, _, rfl, ⟨by rw [← thr_dec hg]; rfl, rfl⟩, (tk7 (sf6 (sf6 (sf6 (sf6 (sf6 (sf6 (sf8 (tk9 (sf8 (sf8 (sf6 (sf8 (sf8 (sf8 (sf2 (sf4 (sf8 h29))))))))))))))))))⟩

set_option maxHeartbeats 4000000 in
theorem has_3 (b f p d s l : Nat) (S : Wst) (hW : WOk S) (y z : Int) (hz0 : 0 ≤ z) (hz1 : z ≤ 4294967295) (hg : KGood (3, y, z)) (hy0 : 0 ≤ y) (hy1 : y ≤ 63) (hz : 1 ≤ z) : HT Tryz.prog 16 [pV b, .agg #[iV 3, iV y, uV z]] [Cl b [Value.nilIface, .iface 84 (pV f), .iface 87 (pV p), .iface 90 (pV d), pV s, pV l, iV S.now] 79, Fd f 64 S.F, Pl p S.B, Dk d S.D, Sr 146 s S.q, Lg l S.T] (fun v K => v = .bool (decide (Thr S (3, y, z))) ∧ K = [Cl b [Value.nilIface, .iface 84 (pV f), .iface 87 (pV p), .iface 90 (pV d), pV s, pV l, iV S.now] 79, Fd f 64 S.F, Pl p S.B, Dk d S.D, Sr 146 s S.q, Lg l S.T]) := by
 refine hiS Tryz.func16 Tryz.ntmps16 fun g w0 R h0 => go [] <| nP 32 [iV 3, iV y, uV z] h0 (fun _ _ h12 => ?_)
 refine go [] <| dw (Tr.fl 0 (Tr.an 1 (fls [2, 3] (Tr.an 4 (fls [5, 6, 7, 8, 9, 10, 11, 12, 13, 14, 16] (Tr.an 15 (Tr.an 17 (fls [18, 19] Tr.nil)))))))) h12 fun _ h14 => ?_
 have h15 := tk8 (sf7 (sf6 (sf7 (sf7 (sf7 (sf7 (sf7 (sf7 h14))))))))
 refine go [] <| cw1 Tryz.call56 (wvalid_cl b l Value.nilIface (.iface 84 (pV f)) (.iface 87 (pV p)) (.iface 90 (pV d)) (pV s) (iV S.now)) h15 fun _ h17 => ⟨kd [], ?_⟩
 refine go [rd 1 3 1 0 3 h17] <| cw0 Tryz.call15 (couter_ok 3 y z (by omega) (by omega) (by omega)) h17 fun _ h19 => ⟨kd [], ?_⟩
 refine go [rd 1 10 1 0 1 h19, .s 1 13] <| lw (.pointer (some ⟨b, 3, none⟩)) (fun _ => law_indexArr (x := (Operand.tmp 17)) (i := (Operand.tmp 15)) (b := b) (off := 0) (z := 3) (by kernel_rfl) Tryz.underlying76 1 (by kernel_rfl) 3 (by kernel_rfl) (by kernel_rfl) (by omega) (by omega) 3 (by omega) _) ?_
 have h22 := tk8 (sf7 (sf6 (sf6 (sf6 (sf6 (sf7 (sf7 (sf7 h19))))))))
 refine go [rd 1 14 0 3 1 h19, rd 1 16 1 0 3 h19] ?_
 refine iG 90 (pV d) "All" [] 198 (dall_ht d S.D) h22 ?_
 rintro v K _ (⟨p20, c21, rfl, rfl⟩) h24
 have h25 := ap2 h24
 have hl26 : ((inS 1 (As S.D) 0).length) ≤ 64 := by have h_ := inS_len 1 (As S.D) 0; rw [as_len, hW.dl] at h_; exact h_
 refine ⟨kd [rd 0 16 3 0 3 h25], ?_⟩
 refine cw1 Tryz.call57 (oct_ht p20 (((inS 1 (As S.D) 0).length)) c21 (allK 3 S.D) (Sl 32 3 p20 (((inS 1 (As S.D) 0).length)) c21 (fl eO (allK 3 S.D))) (gv_sl _ _ _) (allK_len _ _) (by omega) 3 y z) (tk9 (sf8 (sf7 (sf8 (sf8 (sf8 (sf8 (sf8 (sf8 (sf8 h25)))))))))) fun _ h29 => ⟨kd [], ?_⟩
 refine go [] ?_
 exact en (.bool (decide ((3, y, z) ∈ (allK 3 S.D)))) [] ⟨_, _, rfl, ⟨by rw [← thr_dec hg]; rfl, rfl⟩, (tk7 (sf6 (sf6 (sf6 (sf6 (sf6 (sf6 (sf8 (tk9 (sf8 (sf8 (sf8 (sf5 (sf8 (sf8 (sf2 (sf4 (sf8 h29))))))))))))))))))⟩

theorem has_ht (b f p d s l : Nat) (S : Wst) (hW : WOk S) (x y z : Int) (hz0 : 0 ≤ z) (hz1 : z ≤ 4294967295) : HT Tryz.prog 16 [pV b, .agg #[iV x, iV y, uV z]] (wsix b f p d s l S) (fun v K => v = .bool (decide (Thr S (x, y, z))) ∧ K = wsix b f p d s l S) := by
  by_cases h : KGood (x, y, z)
  · rcases kgood_k h with h1 | h1 | h1
    · have h2 : x = 1 := h1
      subst h2
      exact has_1 b f p d s l S hW y z hz0 hz1 h h.2.2.1 h.2.2.2.1 h.2.2.2.2
    · have h2 : x = 2 := h1
      subst h2
      exact has_2 b f p d s l S hW y z hz0 hz1 h h.2.2.1 h.2.2.2.1 h.2.2.2.2
    · have h2 : x = 3 := h1
      subst h2
      exact has_3 b f p d s l S hW y z hz0 hz1 h h.2.2.1 h.2.2.2.1 h.2.2.2.2
  · rw [decide_eq_false (fun h1 : Thr S (x, y, z) => h h1.1)]
    exact has_no b f p d s l S hW x y z hz0 hz1 h
theorem whas_ht (b : Nat) (S : Wst) (x y z : Int) (hz0 : 0 ≤ z) (hz1 : z ≤ 4294967295) : HT Tryz.prog 16 [pV b, .agg #[iV x, iV y, uV z]] [Wd b S] (fun v K => v = .bool (decide (Thr S (x, y, z))) ∧ K = [Wd b S]) := ht_open fun f p d s l hW => has_ht b f p d s l S hW x y z hz0 hz1

end Go.Proofs.YtggfnbpohmhphaaGreatDoor

/-
  What the calls of a world answer, case by case. No program in sight.
-/
namespace Go.Proofs.YtggfnbpohmhphaaGreatDoor
section
variable {S : Wst} {k y z t : Int} {o : Ky}
theorem unt_arg (h : ¬ KGood o) : untE S o = 2 ∧ untV S o = 0 := by
  have e : untE S o = 2 := if_pos h
  exact ⟨e, if_neg (by rw [e]; decide)⟩
theorem unt_kind (h : KGood o) (hk : o.1 ≠ 3) : untE S o = 8 ∧ untV S o = 0 := by
  have e : untE S o = 8 := by unfold untE; rw [if_neg (fun q => q h), if_pos hk]
  exact ⟨e, if_neg (by rw [e]; decide)⟩
theorem unt_none (h : KGood o) (hk : o.1 = 3) (hT : ¬ Thr S o) : untE S o = 5 ∧ untV S o = 0 := by
  have e : untE S o = 5 := by unfold untE; rw [if_neg (fun q => q h), if_neg (fun q => q hk), if_pos hT]
  exact ⟨e, if_neg (by rw [e]; decide)⟩
theorem unt_ok (hk : o.1 = 3) (hT : Thr S o) : untE S o = 0 ∧ untV S o = valX S.D o := by
  have e : untE S o = 0 := by unfold untE; rw [if_neg (fun q => q hT.1), if_neg (fun q => q hk), if_neg (fun q => q hT)]
  exact ⟨e, if_pos e⟩
theorem ren_keep (h : renE S o t ≠ 0) : renS S o t = S := if_neg h
theorem ren_arg (h : ¬ KGood o ∨ t < 1 ∨ 1048576 < t) : renE S o t = 2 := if_pos h
theorem ren_kind (h : KGood o) (ht : 1 ≤ t ∧ t ≤ 1048576) (hk : o.1 ≠ 3) : renE S o t = 8 := by unfold renE; rw [if_neg (by rintro (q | q); exact q h; omega), if_pos hk]
theorem ren_none (h : KGood o) (ht : 1 ≤ t ∧ t ≤ 1048576) (hk : o.1 = 3) (hT : ¬ Thr S o) : renE S o t = 5 := by unfold renE; rw [if_neg (by rintro (q | q); exact q h; omega), if_neg (fun q => q hk), if_pos hT]
theorem ren_ok (ht : 1 ≤ t ∧ t ≤ 1048576) (hk : o.1 = 3) (hT : Thr S o) : renE S o t = rnE (vaA S.D o.2.1.toNat) t S.now ∧ renS S o t = { S with D := rnX S.D o t S.now } := by
  have e : renE S o t = rnE (vaA S.D o.2.1.toNat) t S.now := by
    unfold renE
    rw [if_neg (by rintro (q | q); exact q hT.1; omega), if_neg (fun q => q hk), if_neg (fun q => q hT)]
    rfl
  refine ⟨e, ?_⟩
  unfold renS rnX
  rw [e]
  split <;> rfl
theorem tck_arg (h : t < 1 ∨ 1048576 < t) : tckE S t = 2 ∧ tckS S t = S := by
  have e : tckE S t = 2 := if_pos h
  exact ⟨e, if_neg (by rw [e]; decide)⟩
theorem tck_over (h : 1 ≤ t ∧ t ≤ 1048576) (h2 : 1099511627776 < S.now + t) : tckE S t = 17 ∧ tckS S t = S := by
  have e : tckE S t = 17 := by unfold tckE; rw [if_neg (by omega), if_pos h2]
  exact ⟨e, if_neg (by rw [e]; decide)⟩
theorem tck_ok (h : 1 ≤ t ∧ t ≤ 1048576) (h2 : S.now + t ≤ 1099511627776) : tckE S t = 0 ∧ tckS S t = { S with now := S.now + t } := by
  have e : tckE S t = 0 := by unfold tckE; rw [if_neg (by omega), if_neg (by omega)]
  exact ⟨e, if_pos e⟩
theorem thr_at (h : Thr S (k, y, z)) : (As (S.tab k))[y.toNat]? = some (1, z) := h.2
theorem thr_nat (h : KGood (k, y, z)) : y = ((y.toNat : Nat) : Int) := by have h1 : 0 ≤ y := h.2.2.1; omega
end
end Go.Proofs.YtggfnbpohmhphaaGreatDoor

/- Walks, printed by my generator o10.py. -/
namespace Go.Proofs.YtggfnbpohmhphaaGreatDoor
set_option maxHeartbeats 4000000 in
theorem ospan_y (t : Int) (ht : 1 ≤ t ∧ t ≤ 1048576) : HT Tryz.prog 63 [iV t] [] (fun v K => v = .bool true ∧ K = []) := by
 refine hiS Tryz.func63 Tryz.ntmps63 fun g w0 R h0 => go [.v 1 1 (oT (t ≥ 1)), .v 1 4 (oT (t ≤ 1048576))] ?_
 exact en (.bool true) [] ⟨_, _, rfl, ⟨rfl, rfl⟩, h0⟩

set_option maxHeartbeats 4000000 in
theorem ospan_n (t : Int) (ht : t < 1 ∨ 1048576 < t) : HT Tryz.prog 63 [iV t] [] (fun v K => v = .bool false ∧ K = []) := by
 refine hiS Tryz.func63 Tryz.ntmps63 fun g w0 R h0 => go [.s 1 1] ?_
 by_cases c10 : t ≥ 1
 ·
  refine go [.v 1 1 (oT (t ≥ 1)), .v 1 4 (oF (t ≤ 1048576))] ?_
  exact en (.bool false) [] ⟨_, _, rfl, ⟨rfl, rfl⟩, h0⟩
 refine go [.v 1 1 (oF (t ≥ 1))] ?_
 exact en (.bool false) [] ⟨_, _, rfl, ⟨rfl, rfl⟩, h0⟩

set_option maxHeartbeats 4000000 in
theorem lease_1 (b f p d s l : Nat) (S : Wst) (hW : WOk S) (y z : Int) (hz0 : 0 ≤ z) (hz1 : z ≤ 4294967295) (hg : KGood (1, y, z)) (hy0 : 0 ≤ y) (hy1 : y ≤ 63) (hz : 1 ≤ z) : HT Tryz.prog 61 [pV b, .agg #[iV 1, iV y, uV z]] [Cl b [Value.nilIface, .iface 84 (pV f), .iface 87 (pV p), .iface 90 (pV d), pV s, pV l, iV S.now] 79, Fd f 64 S.F, Pl p S.B, Dk d S.D, Sr 146 s S.q, Lg l S.T] (fun v K => v = .tuple #[.pointer none, iV 8] ∧ K = [Cl b [Value.nilIface, .iface 84 (pV f), .iface 87 (pV p), .iface 90 (pV d), pV s, pV l, iV S.now] 79, Fd f 64 S.F, Pl p S.B, Dk d S.D, Sr 146 s S.q, Lg l S.T]) := by
 refine hiS Tryz.func61 Tryz.ntmps61 fun g w0 R h0 => ?_
 have hWn := hW.nl; have hWm := hW.nh; have hWt := hW.tn
 refine go [] <| nP 32 [iV 1, iV y, uV z] h0 (fun _ _ h12 => ?_)
 refine go [] <| dw (fls [0, 1, 2, 3, 4, 5, 6, 7, 8, 9, 10, 11, 12] Tr.nil) h12 fun _ h14 => go [rd 1 2 0 0 1 h14, .s 1 5] <| lw (.pointer (some ⟨b, 1, none⟩)) (fun _ => law_indexArr (x := (Operand.tmp 13)) (i := (Operand.tmp 11)) (b := b) (off := 0) (z := 1) (by kernel_rfl) Tryz.underlying76 1 (by kernel_rfl) 1 (by kernel_rfl) (by kernel_rfl) (by omega) (by omega) 1 (by omega) _) <| go [rd 1 6 1 1 1 h14] ?_
 exact en (.tuple #[.pointer none, iV 8]) [] ⟨_, _, rfl, ⟨rfl, rfl⟩, (tk7 (sf6 (sf6 (sf6 (sf6 (sf6 (sf6 (sf7 (tk8 (sf7 (sf7 (sf7 (sf7 (sf7 (sf7 (sf1 (sf7 h14)))))))))))))))))⟩

set_option maxHeartbeats 4000000 in
theorem lease_2 (b f p d s l : Nat) (S : Wst) (hW : WOk S) (y z : Int) (hz0 : 0 ≤ z) (hz1 : z ≤ 4294967295) (hg : KGood (2, y, z)) (hy0 : 0 ≤ y) (hy1 : y ≤ 63) (hz : 1 ≤ z) : HT Tryz.prog 61 [pV b, .agg #[iV 2, iV y, uV z]] [Cl b [Value.nilIface, .iface 84 (pV f), .iface 87 (pV p), .iface 90 (pV d), pV s, pV l, iV S.now] 79, Fd f 64 S.F, Pl p S.B, Dk d S.D, Sr 146 s S.q, Lg l S.T] (fun v K => v = .tuple #[.pointer none, iV 8] ∧ K = [Cl b [Value.nilIface, .iface 84 (pV f), .iface 87 (pV p), .iface 90 (pV d), pV s, pV l, iV S.now] 79, Fd f 64 S.F, Pl p S.B, Dk d S.D, Sr 146 s S.q, Lg l S.T]) := by
 refine hiS Tryz.func61 Tryz.ntmps61 fun g w0 R h0 => ?_
 have hWn := hW.nl; have hWm := hW.nh; have hWt := hW.tn
 refine go [] <| nP 32 [iV 2, iV y, uV z] h0 (fun _ _ h12 => ?_)
 refine go [] <| dw (fls [0, 1, 2, 3, 4, 5, 6, 7, 8, 9, 10, 11, 12] Tr.nil) h12 fun _ h14 => go [rd 1 2 0 0 1 h14, .s 1 5] <| lw (.pointer (some ⟨b, 2, none⟩)) (fun _ => law_indexArr (x := (Operand.tmp 13)) (i := (Operand.tmp 11)) (b := b) (off := 0) (z := 2) (by kernel_rfl) Tryz.underlying76 1 (by kernel_rfl) 2 (by kernel_rfl) (by kernel_rfl) (by omega) (by omega) 2 (by omega) _) <| go [rd 1 6 1 2 1 h14] ?_
 exact en (.tuple #[.pointer none, iV 8]) [] ⟨_, _, rfl, ⟨rfl, rfl⟩, (tk7 (sf6 (sf6 (sf6 (sf6 (sf6 (sf6 (sf7 (tk8 (sf7 (sf7 (sf7 (sf7 (sf7 (sf7 (sf1 (sf7 h14)))))))))))))))))⟩

set_option maxHeartbeats 4000000 in
theorem lease_n (b f p d s l : Nat) (S : Wst) (hW : WOk S) (y z : Int) (hz0 : 0 ≤ z) (hz1 : z ≤ 4294967295) (hg : KGood (3, y, z)) (hy0 : 0 ≤ y) (hy1 : y ≤ 63) (hz : 1 ≤ z) (hT : ¬ Thr S (3, y, z)) : HT Tryz.prog 61 [pV b, .agg #[iV 3, iV y, uV z]] [Cl b [Value.nilIface, .iface 84 (pV f), .iface 87 (pV p), .iface 90 (pV d), pV s, pV l, iV S.now] 79, Fd f 64 S.F, Pl p S.B, Dk d S.D, Sr 146 s S.q, Lg l S.T] (fun v K => v = .tuple #[.pointer none, iV 5] ∧ K = [Cl b [Value.nilIface, .iface 84 (pV f), .iface 87 (pV p), .iface 90 (pV d), pV s, pV l, iV S.now] 79, Fd f 64 S.F, Pl p S.B, Dk d S.D, Sr 146 s S.q, Lg l S.T]) := by
 refine hiS Tryz.func61 Tryz.ntmps61 fun g w0 R h0 => ?_
 have hWn := hW.nl; have hWm := hW.nh; have hWt := hW.tn
 refine go [] <| nP 32 [iV 3, iV y, uV z] h0 (fun _ _ h12 => ?_)
 refine go [] <| dw (fls [0, 1, 2, 3, 4, 5, 6, 7, 8, 9, 10, 11, 12] Tr.nil) h12 fun _ h14 => go [rd 1 2 0 0 1 h14, .s 1 5] <| lw (.pointer (some ⟨b, 3, none⟩)) (fun _ => law_indexArr (x := (Operand.tmp 13)) (i := (Operand.tmp 11)) (b := b) (off := 0) (z := 3) (by kernel_rfl) Tryz.underlying76 1 (by kernel_rfl) 3 (by kernel_rfl) (by kernel_rfl) (by omega) (by omega) 3 (by omega) _) ?_
 have h15 := tk8 (sf7 (sf7 (sf7 (sf7 (sf7 (sf7 (sf1 (sf7 h14))))))))
 refine go [rd 1 6 1 3 1 h14, rd 4 1 0 0 3 h14] <| cl6 Tryz.call16 ((by have h_ := has_ht b f p d s l S hW 3 y z (by omega) (by omega); rw [decide_eq_false hT] at h_; exact h_)) h15 fun _ h17 => ?_
 refine go [] ?_
 exact en (.tuple #[.pointer none, iV 5]) [] ⟨_, _, rfl, ⟨rfl, rfl⟩, (tk7 (sf6 (sf6 (sf6 (sf6 (sf6 (sf6 (sf7 h17))))))))⟩

set_option maxHeartbeats 4000000 in
theorem lease_y (b f p d s l : Nat) (S : Wst) (hW : WOk S) (y z : Int) (hz0 : 0 ≤ z) (hz1 : z ≤ 4294967295) (hg : KGood (3, y, z)) (hy0 : 0 ≤ y) (hy1 : y ≤ 63) (hz : 1 ≤ z) (hT : Thr S (3, y, z)) : HT Tryz.prog 61 [pV b, .agg #[iV 3, iV y, uV z]] [Cl b [Value.nilIface, .iface 84 (pV f), .iface 87 (pV p), .iface 90 (pV d), pV s, pV l, iV S.now] 79, Fd f 64 S.F, Pl p S.B, Dk d S.D, Sr 146 s S.q, Lg l S.T] (fun v K => v = .tuple #[pV d, iV 0] ∧ K = [Cl b [Value.nilIface, .iface 84 (pV f), .iface 87 (pV p), .iface 90 (pV d), pV s, pV l, iV S.now] 79, Fd f 64 S.F, Pl p S.B, Dk d S.D, Sr 146 s S.q, Lg l S.T]) := by
 refine hiS Tryz.func61 Tryz.ntmps61 fun g w0 R h0 => ?_
 have hWn := hW.nl; have hWm := hW.nh; have hWt := hW.tn
 refine go [] <| nP 32 [iV 3, iV y, uV z] h0 (fun _ _ h12 => ?_)
 refine go [] <| dw (fls [0, 1, 2, 3, 4, 5, 6, 7, 8, 9, 10, 11, 12] Tr.nil) h12 fun _ h14 => go [rd 1 2 0 0 1 h14, .s 1 5] <| lw (.pointer (some ⟨b, 3, none⟩)) (fun _ => law_indexArr (x := (Operand.tmp 13)) (i := (Operand.tmp 11)) (b := b) (off := 0) (z := 3) (by kernel_rfl) Tryz.underlying76 1 (by kernel_rfl) 3 (by kernel_rfl) (by kernel_rfl) (by omega) (by omega) 3 (by omega) _) ?_
 have h15 := tk8 (sf7 (sf7 (sf7 (sf7 (sf7 (sf7 (sf1 (sf7 h14))))))))
 refine go [rd 1 6 1 3 1 h14, rd 4 1 0 0 3 h14] <| cl6 Tryz.call16 ((by have h_ := has_ht b f p d s l S hW 3 y z (by omega) (by omega); rw [decide_eq_true hT] at h_; exact h_)) h15 fun _ h17 => ?_
 refine go [] ?_
 exact en (.tuple #[pV d, iV 0]) [] ⟨_, _, rfl, ⟨rfl, rfl⟩, (tk7 (sf6 (sf6 (sf6 (sf6 (sf6 (sf6 (sf7 h17))))))))⟩

set_option maxHeartbeats 4000000 in
theorem wunt_no (b : Nat) (S : Wst) (x y z : Int) (hz0 : 0 ≤ z) (hz1 : z ≤ 4294967295) (hg : ¬ (1 ≤ x ∧ x ≤ 3 ∧ 0 ≤ y ∧ y ≤ 63 ∧ 1 ≤ z)) : HT Tryz.prog 24 [pV b, .agg #[iV x, iV y, uV z]] [Wd b S] (fun v K => v = .tuple #[iV 0, iV 2] ∧ K = [Wd b S]) := by
 refine hiS Tryz.func24 Tryz.ntmps24 fun g w0 R h0 => ?_
 obtain ⟨f10, p11, d12, s13, l14, hW15, h16⟩ := wd_open h0
 have hW15n := hW15.nl; have hW15m := hW15.nh; have hW15t := hW15.tn
 refine go [] <| nP 32 [iV x, iV y, uV z] h16 (fun r17 _ h19 => ?_)
 have h20 := tk8 (sf7 (sf6 (sf7 (sf7 (sf7 (sf7 (sf7 (sf7 h19))))))))
 refine go [] <| cl1 Tryz.call56 (wvalid_cl b l14 Value.nilIface (.iface 84 (pV f10)) (.iface 87 (pV p11)) (.iface 90 (pV d12)) (pV s13) (iV S.now)) h20 fun _ h22 => go [rd 3 0 1 0 3 h22] ?_
 by_cases c23 : 1 ≤ x
 ·
  by_cases c24 : x ≤ 3
  ·
   by_cases c25 : 0 ≤ y
   ·
    by_cases c26 : y ≤ 63
    ·
     refine cl0 Tryz.call15 (couter_no x y z (by omega) (by omega) (by omega)) h22 fun w27 h28 => go [] ?_
     have h30 : sat g w27 [Wd b S, Cl r17 [iV x, iV y, uV z] 32, R] := wd_close hW15 (tk8 (sf7 (sf7 (sf7 (sf7 (sf7 (sf7 (sf2 (sf7 h28)))))))))
     exact en (.tuple #[iV 0, iV 2]) [] ⟨_, _, rfl, ⟨rfl, rfl⟩, (tk2 (sf1 (sf2 h30)))⟩
    refine cl0 Tryz.call15 (couter_no x y z (by omega) (by omega) (by omega)) h22 fun w32 h33 => go [] ?_
    have h35 : sat g w32 [Wd b S, Cl r17 [iV x, iV y, uV z] 32, R] := wd_close hW15 (tk8 (sf7 (sf7 (sf7 (sf7 (sf7 (sf7 (sf2 (sf7 h33)))))))))
    exact en (.tuple #[iV 0, iV 2]) [] ⟨_, _, rfl, ⟨rfl, rfl⟩, (tk2 (sf1 (sf2 h35)))⟩
   refine cl0 Tryz.call15 (couter_no x y z (by omega) (by omega) (by omega)) h22 fun w37 h38 => go [] ?_
   have h40 : sat g w37 [Wd b S, Cl r17 [iV x, iV y, uV z] 32, R] := wd_close hW15 (tk8 (sf7 (sf7 (sf7 (sf7 (sf7 (sf7 (sf2 (sf7 h38)))))))))
   exact en (.tuple #[iV 0, iV 2]) [] ⟨_, _, rfl, ⟨rfl, rfl⟩, (tk2 (sf1 (sf2 h40)))⟩
  refine cl0 Tryz.call15 (couter_no x y z (by omega) (by omega) (by omega)) h22 fun w42 h43 => go [] ?_
  have h45 : sat g w42 [Wd b S, Cl r17 [iV x, iV y, uV z] 32, R] := wd_close hW15 (tk8 (sf7 (sf7 (sf7 (sf7 (sf7 (sf7 (sf2 (sf7 h43)))))))))
  exact en (.tuple #[iV 0, iV 2]) [] ⟨_, _, rfl, ⟨rfl, rfl⟩, (tk2 (sf1 (sf2 h45)))⟩
 refine cl0 Tryz.call15 (couter_no x y z (by omega) (by omega) (by omega)) h22 fun w47 h48 => go [] ?_
 have h50 : sat g w47 [Wd b S, Cl r17 [iV x, iV y, uV z] 32, R] := wd_close hW15 (tk8 (sf7 (sf7 (sf7 (sf7 (sf7 (sf7 (sf2 (sf7 h48)))))))))
 exact en (.tuple #[iV 0, iV 2]) [] ⟨_, _, rfl, ⟨rfl, rfl⟩, (tk2 (sf1 (sf2 h50)))⟩

set_option maxHeartbeats 4000000 in
theorem wunt_1 (b : Nat) (S : Wst) (y z : Int) (hz0 : 0 ≤ z) (hz1 : z ≤ 4294967295) (hg : KGood (1, y, z)) (hy0 : 0 ≤ y) (hy1 : y ≤ 63) (hz : 1 ≤ z) : HT Tryz.prog 24 [pV b, .agg #[iV 1, iV y, uV z]] [Wd b S] (fun v K => v = .tuple #[iV 0, iV 8] ∧ K = [Wd b S]) := by
 refine hiS Tryz.func24 Tryz.ntmps24 fun g w0 R h0 => ?_
 obtain ⟨f10, p11, d12, s13, l14, hW15, h16⟩ := wd_open h0
 have hW15n := hW15.nl; have hW15m := hW15.nh; have hW15t := hW15.tn
 refine go [] <| nP 32 [iV 1, iV y, uV z] h16 (fun r17 _ h19 => ?_)
 have h20 := tk8 (sf7 (sf6 (sf7 (sf7 (sf7 (sf7 (sf7 (sf7 h19))))))))
 refine go [] <| cl1 Tryz.call56 (wvalid_cl b l14 Value.nilIface (.iface 84 (pV f10)) (.iface 87 (pV p11)) (.iface 90 (pV d12)) (pV s13) (iV S.now)) h20 fun _ h22 => go [rd 3 0 1 0 3 h22] <| cl0 Tryz.call15 (couter_ok 1 y z (by omega) (by omega) (by omega)) h22 fun _ h24 => ?_
 have h25 := tk8 (sf7 (sf7 (sf7 (sf7 (sf7 (sf7 (sf2 (sf7 h24))))))))
 refine go [rd 5 1 1 0 3 h24] <| cl6 Tryz.call61 (lease_1 b f10 p11 d12 s13 l14 S hW15 y z (by omega) (by omega) hg (by omega) (by omega) (by omega)) h25 fun w26 h27 => go [] ?_
 have h28 : sat g w26 [Wd b S, Cl r17 [iV 1, iV y, uV z] 32, R] := wd_close hW15 h27
 exact en (.tuple #[iV 0, iV 8]) [] ⟨_, _, rfl, ⟨rfl, rfl⟩, (tk2 (sf1 (sf2 h28)))⟩

set_option maxHeartbeats 4000000 in
theorem wunt_2 (b : Nat) (S : Wst) (y z : Int) (hz0 : 0 ≤ z) (hz1 : z ≤ 4294967295) (hg : KGood (2, y, z)) (hy0 : 0 ≤ y) (hy1 : y ≤ 63) (hz : 1 ≤ z) : HT Tryz.prog 24 [pV b, .agg #[iV 2, iV y, uV z]] [Wd b S] (fun v K => v = .tuple #[iV 0, iV 8] ∧ K = [Wd b S]) := by
 refine hiS Tryz.func24 Tryz.ntmps24 fun g w0 R h0 => ?_
 obtain ⟨f10, p11, d12, s13, l14, hW15, h16⟩ := wd_open h0
 have hW15n := hW15.nl; have hW15m := hW15.nh; have hW15t := hW15.tn
 refine go [] <| nP 32 [iV 2, iV y, uV z] h16 (fun r17 _ h19 => ?_)
 have h20 := tk8 (sf7 (sf6 (sf7 (sf7 (sf7 (sf7 (sf7 (sf7 h19))))))))
 refine go [] <| cl1 Tryz.call56 (wvalid_cl b l14 Value.nilIface (.iface 84 (pV f10)) (.iface 87 (pV p11)) (.iface 90 (pV d12)) (pV s13) (iV S.now)) h20 fun _ h22 => go [rd 3 0 1 0 3 h22] <| cl0 Tryz.call15 (couter_ok 2 y z (by omega) (by omega) (by omega)) h22 fun _ h24 => ?_
 have h25 := tk8 (sf7 (sf7 (sf7 (sf7 (sf7 (sf7 (sf2 (sf7 h24))))))))
 refine go [rd 5 1 1 0 3 h24] <| cl6 Tryz.call61 (lease_2 b f10 p11 d12 s13 l14 S hW15 y z (by omega) (by omega) hg (by omega) (by omega) (by omega)) h25 fun w26 h27 => go [] ?_
 have h28 : sat g w26 [Wd b S, Cl r17 [iV 2, iV y, uV z] 32, R] := wd_close hW15 h27
 exact en (.tuple #[iV 0, iV 8]) [] ⟨_, _, rfl, ⟨rfl, rfl⟩, (tk2 (sf1 (sf2 h28)))⟩

set_option maxHeartbeats 4000000 in
theorem wunt_n (b : Nat) (S : Wst) (y z : Int) (hz0 : 0 ≤ z) (hz1 : z ≤ 4294967295) (hg : KGood (3, y, z)) (hy0 : 0 ≤ y) (hy1 : y ≤ 63) (hz : 1 ≤ z) (hT : ¬ Thr S (3, y, z)) : HT Tryz.prog 24 [pV b, .agg #[iV 3, iV y, uV z]] [Wd b S] (fun v K => v = .tuple #[iV 0, iV 5] ∧ K = [Wd b S]) := by
 refine hiS Tryz.func24 Tryz.ntmps24 fun g w0 R h0 => ?_
 obtain ⟨f10, p11, d12, s13, l14, hW15, h16⟩ := wd_open h0
 have hW15n := hW15.nl; have hW15m := hW15.nh; have hW15t := hW15.tn
 refine go [] <| nP 32 [iV 3, iV y, uV z] h16 (fun r17 _ h19 => ?_)
 have h20 := tk8 (sf7 (sf6 (sf7 (sf7 (sf7 (sf7 (sf7 (sf7 h19))))))))
 refine go [] <| cl1 Tryz.call56 (wvalid_cl b l14 Value.nilIface (.iface 84 (pV f10)) (.iface 87 (pV p11)) (.iface 90 (pV d12)) (pV s13) (iV S.now)) h20 fun _ h22 => go [rd 3 0 1 0 3 h22] <| cl0 Tryz.call15 (couter_ok 3 y z (by omega) (by omega) (by omega)) h22 fun _ h24 => ?_
 have h25 := tk8 (sf7 (sf7 (sf7 (sf7 (sf7 (sf7 (sf2 (sf7 h24))))))))
 refine go [rd 5 1 1 0 3 h24] <| cl6 Tryz.call61 (lease_n b f10 p11 d12 s13 l14 S hW15 y z (by omega) (by omega) hg (by omega) (by omega) (by omega) hT) h25 fun w26 h27 => go [] ?_
 have h28 : sat g w26 [Wd b S, Cl r17 [iV 3, iV y, uV z] 32, R] := wd_close hW15 h27
 exact en (.tuple #[iV 0, iV 5]) [] ⟨_, _, rfl, ⟨rfl, rfl⟩, (tk2 (sf1 (sf2 h28)))⟩

set_option maxHeartbeats 4000000 in
theorem wunt_y (b : Nat) (S : Wst) (y z : Int) (hz0 : 0 ≤ z) (hz1 : z ≤ 4294967295) (hg : KGood (3, y, z)) (hy0 : 0 ≤ y) (hy1 : y ≤ 63) (hz : 1 ≤ z) (hT : Thr S (3, y, z)) : HT Tryz.prog 24 [pV b, .agg #[iV 3, iV y, uV z]] [Wd b S] (fun v K => v = .tuple #[iV (vaA S.D y.toNat), iV 0] ∧ K = [Wd b S]) := by
 refine hiS Tryz.func24 Tryz.ntmps24 fun g w0 R h0 => ?_
 obtain ⟨f10, p11, d12, s13, l14, hW15, h16⟩ := wd_open h0
 have hW15n := hW15.nl; have hW15m := hW15.nh; have hW15t := hW15.tn
 refine go [] <| nP 32 [iV 3, iV y, uV z] h16 (fun r17 _ h19 => ?_)
 have h20 := tk8 (sf7 (sf6 (sf7 (sf7 (sf7 (sf7 (sf7 (sf7 h19))))))))
 refine go [] <| cl1 Tryz.call56 (wvalid_cl b l14 Value.nilIface (.iface 84 (pV f10)) (.iface 87 (pV p11)) (.iface 90 (pV d12)) (pV s13) (iV S.now)) h20 fun _ h22 => go [rd 3 0 1 0 3 h22] <| cl0 Tryz.call15 (couter_ok 3 y z (by omega) (by omega) (by omega)) h22 fun _ h24 => ?_
 have h25 := tk8 (sf7 (sf7 (sf7 (sf7 (sf7 (sf7 (sf2 (sf7 h24))))))))
 refine go [rd 5 1 1 0 3 h24] <| cl6 Tryz.call61 (lease_y b f10 p11 d12 s13 l14 S hW15 y z (by omega) (by omega) hg (by omega) (by omega) (by omega) hT) h25 fun _ h27 => ?_
 have h28 := tk8 (sf7 (sf6 (sf6 (sf6 (sf7 (sf7 (sf7 (sf7 h27))))))))
 refine go [rd 8 1 6 0 3 h27] <| cl1 Tryz.call62 (duntil_ht d12 S.D y z y.toNat (thr_at hT) (thr_nat hg) (by omega)) h28 fun w29 h30 => go [] ?_
 have h32 : sat g w29 [Wd b S, Cl r17 [iV 3, iV y, uV z] 32, R] := wd_close hW15 (tk8 (sf7 (sf7 (sf7 (sf4 (sf7 (sf7 (sf7 (sf7 h30)))))))))
 exact en (.tuple #[iV ((vaA S.D y.toNat)), iV 0]) [] ⟨_, _, rfl, ⟨rfl, rfl⟩, (tk2 (sf1 (sf2 h32)))⟩

theorem wuntil_ht (b : Nat) (S : Wst) (x y z : Int) (hz0 : 0 ≤ z) (hz1 : z ≤ 4294967295) : HT Tryz.prog 24 [pV b, .agg #[iV x, iV y, uV z]] [Wd b S] (fun v K => v = .tuple #[iV (untV S (x, y, z)), iV (untE S (x, y, z))] ∧ K = [Wd b S]) := by
  by_cases h : KGood (x, y, z)
  · rcases kgood_k h with h1 | h1 | h1
    · have h2 : x = 1 := h1
      subst h2
      rw [(unt_kind (S := S) h (by show (1 : Int) ≠ 3; decide)).1, (unt_kind (S := S) h (by show (1 : Int) ≠ 3; decide)).2]; exact wunt_1 b S y z hz0 hz1 h h.2.2.1 h.2.2.2.1 h.2.2.2.2
    · have h2 : x = 2 := h1
      subst h2
      rw [(unt_kind (S := S) h (by show (2 : Int) ≠ 3; decide)).1, (unt_kind (S := S) h (by show (2 : Int) ≠ 3; decide)).2]; exact wunt_2 b S y z hz0 hz1 h h.2.2.1 h.2.2.2.1 h.2.2.2.2
    · have h2 : x = 3 := h1
      subst h2
      by_cases hT : Thr S (3, y, z)
      · rw [(unt_ok (S := S) (o := (3, y, z)) rfl hT).1, (unt_ok (S := S) (o := (3, y, z)) rfl hT).2]; exact wunt_y b S y z hz0 hz1 h h.2.2.1 h.2.2.2.1 h.2.2.2.2 hT
      · rw [(unt_none (S := S) h rfl hT).1, (unt_none (S := S) h rfl hT).2]; exact wunt_n b S y z hz0 hz1 h h.2.2.1 h.2.2.2.1 h.2.2.2.2 hT
  · rw [(unt_arg (S := S) h).1, (unt_arg (S := S) h).2]; exact wunt_no b S x y z hz0 hz1 h

set_option maxHeartbeats 4000000 in
theorem wren_no (b : Nat) (S : Wst) (x y z : Int) (hz0 : 0 ≤ z) (hz1 : z ≤ 4294967295) (hg : ¬ (1 ≤ x ∧ x ≤ 3 ∧ 0 ≤ y ∧ y ≤ 63 ∧ 1 ≤ z)) (t : Int) : HT Tryz.prog 25 [pV b, .agg #[iV x, iV y, uV z], iV t] [Wd b S] (fun v K => v = iV 2 ∧ K = [Wd b S]) := by
 refine hiS Tryz.func25 Tryz.ntmps25 fun g w0 R h0 => ?_
 obtain ⟨f10, p11, d12, s13, l14, hW15, h16⟩ := wd_open h0
 have hW15n := hW15.nl; have hW15m := hW15.nh; have hW15t := hW15.tn
 refine go [] <| nP 32 [iV x, iV y, uV z] h16 (fun r17 _ h19 => ?_)
 have h20 := tk8 (sf7 (sf6 (sf7 (sf7 (sf7 (sf7 (sf7 (sf7 h19))))))))
 refine go [] <| cl1 Tryz.call56 (wvalid_cl b l14 Value.nilIface (.iface 84 (pV f10)) (.iface 87 (pV p11)) (.iface 90 (pV d12)) (pV s13) (iV S.now)) h20 fun _ h22 => go [rd 3 0 1 0 3 h22] ?_
 by_cases c23 : 1 ≤ x
 ·
  by_cases c24 : x ≤ 3
  ·
   by_cases c25 : 0 ≤ y
   ·
    by_cases c26 : y ≤ 63
    ·
     refine cl0 Tryz.call15 (couter_no x y z (by omega) (by omega) (by omega)) h22 fun w27 h28 => go [] ?_
     have h30 : sat g w27 [Wd b S, Cl r17 [iV x, iV y, uV z] 32, R] := wd_close hW15 (tk8 (sf7 (sf7 (sf7 (sf7 (sf7 (sf7 (sf2 (sf7 h28)))))))))
     exact en (iV 2) [] ⟨_, _, rfl, ⟨rfl, rfl⟩, (tk2 (sf1 (sf2 h30)))⟩
    refine cl0 Tryz.call15 (couter_no x y z (by omega) (by omega) (by omega)) h22 fun w32 h33 => go [] ?_
    have h35 : sat g w32 [Wd b S, Cl r17 [iV x, iV y, uV z] 32, R] := wd_close hW15 (tk8 (sf7 (sf7 (sf7 (sf7 (sf7 (sf7 (sf2 (sf7 h33)))))))))
    exact en (iV 2) [] ⟨_, _, rfl, ⟨rfl, rfl⟩, (tk2 (sf1 (sf2 h35)))⟩
   refine cl0 Tryz.call15 (couter_no x y z (by omega) (by omega) (by omega)) h22 fun w37 h38 => go [] ?_
   have h40 : sat g w37 [Wd b S, Cl r17 [iV x, iV y, uV z] 32, R] := wd_close hW15 (tk8 (sf7 (sf7 (sf7 (sf7 (sf7 (sf7 (sf2 (sf7 h38)))))))))
   exact en (iV 2) [] ⟨_, _, rfl, ⟨rfl, rfl⟩, (tk2 (sf1 (sf2 h40)))⟩
  refine cl0 Tryz.call15 (couter_no x y z (by omega) (by omega) (by omega)) h22 fun w42 h43 => go [] ?_
  have h45 : sat g w42 [Wd b S, Cl r17 [iV x, iV y, uV z] 32, R] := wd_close hW15 (tk8 (sf7 (sf7 (sf7 (sf7 (sf7 (sf7 (sf2 (sf7 h43)))))))))
  exact en (iV 2) [] ⟨_, _, rfl, ⟨rfl, rfl⟩, (tk2 (sf1 (sf2 h45)))⟩
 refine cl0 Tryz.call15 (couter_no x y z (by omega) (by omega) (by omega)) h22 fun w47 h48 => go [] ?_
 have h50 : sat g w47 [Wd b S, Cl r17 [iV x, iV y, uV z] 32, R] := wd_close hW15 (tk8 (sf7 (sf7 (sf7 (sf7 (sf7 (sf7 (sf2 (sf7 h48)))))))))
 exact en (iV 2) [] ⟨_, _, rfl, ⟨rfl, rfl⟩, (tk2 (sf1 (sf2 h50)))⟩

set_option maxHeartbeats 4000000 in
theorem wren_sp (b : Nat) (S : Wst) (x y z : Int) (hz0 : 0 ≤ z) (hz1 : z ≤ 4294967295) (hg : KGood (x, y, z)) (hy0 : 0 ≤ y) (hy1 : y ≤ 63) (hz : 1 ≤ z) (hx : 1 ≤ x ∧ x ≤ 3) (t : Int) (ht : t < 1 ∨ 1048576 < t) : HT Tryz.prog 25 [pV b, .agg #[iV x, iV y, uV z], iV t] [Wd b S] (fun v K => v = iV 2 ∧ K = [Wd b S]) := by
 refine hiS Tryz.func25 Tryz.ntmps25 fun g w0 R h0 => ?_
 obtain ⟨f10, p11, d12, s13, l14, hW15, h16⟩ := wd_open h0
 have hW15n := hW15.nl; have hW15m := hW15.nh; have hW15t := hW15.tn
 refine go [] <| nP 32 [iV x, iV y, uV z] h16 (fun r17 _ h19 => ?_)
 have h20 := tk8 (sf7 (sf6 (sf7 (sf7 (sf7 (sf7 (sf7 (sf7 h19))))))))
 refine go [] <| cl1 Tryz.call56 (wvalid_cl b l14 Value.nilIface (.iface 84 (pV f10)) (.iface 87 (pV p11)) (.iface 90 (pV d12)) (pV s13) (iV S.now)) h20 fun _ h22 => go [rd 3 0 1 0 3 h22] <| cl0 Tryz.call15 (couter_ok x y z (by omega) (by omega) (by omega)) h22 fun _ h24 => go [] ?_
 by_cases c25 : 1 ≤ t
 ·
  refine cl0 Tryz.call63 (ospan_n t (by omega)) h24 fun w26 h27 => go [] ?_
  have h29 : sat g w26 [Wd b S, Cl r17 [iV x, iV y, uV z] 32, R] := wd_close hW15 (tk8 (sf7 (sf7 (sf7 (sf7 (sf7 (sf7 (sf2 (sf7 h27)))))))))
  exact en (iV 2) [] ⟨_, _, rfl, ⟨rfl, rfl⟩, (tk2 (sf1 (sf2 h29)))⟩
 refine cl0 Tryz.call63 (ospan_n t (by omega)) h24 fun w31 h32 => go [] ?_
 have h34 : sat g w31 [Wd b S, Cl r17 [iV x, iV y, uV z] 32, R] := wd_close hW15 (tk8 (sf7 (sf7 (sf7 (sf7 (sf7 (sf7 (sf2 (sf7 h32)))))))))
 exact en (iV 2) [] ⟨_, _, rfl, ⟨rfl, rfl⟩, (tk2 (sf1 (sf2 h34)))⟩

set_option maxHeartbeats 4000000 in
theorem wren_1 (b : Nat) (S : Wst) (y z : Int) (hz0 : 0 ≤ z) (hz1 : z ≤ 4294967295) (hg : KGood (1, y, z)) (hy0 : 0 ≤ y) (hy1 : y ≤ 63) (hz : 1 ≤ z) (t : Int) (ht : 1 ≤ t ∧ t ≤ 1048576) : HT Tryz.prog 25 [pV b, .agg #[iV 1, iV y, uV z], iV t] [Wd b S] (fun v K => v = iV 8 ∧ K = [Wd b S]) := by
 refine hiS Tryz.func25 Tryz.ntmps25 fun g w0 R h0 => ?_
 obtain ⟨f10, p11, d12, s13, l14, hW15, h16⟩ := wd_open h0
 have hW15n := hW15.nl; have hW15m := hW15.nh; have hW15t := hW15.tn
 refine go [] <| nP 32 [iV 1, iV y, uV z] h16 (fun r17 _ h19 => ?_)
 have h20 := tk8 (sf7 (sf6 (sf7 (sf7 (sf7 (sf7 (sf7 (sf7 h19))))))))
 refine go [] <| cl1 Tryz.call56 (wvalid_cl b l14 Value.nilIface (.iface 84 (pV f10)) (.iface 87 (pV p11)) (.iface 90 (pV d12)) (pV s13) (iV S.now)) h20 fun _ h22 => go [rd 3 0 1 0 3 h22] <| cl0 Tryz.call15 (couter_ok 1 y z (by omega) (by omega) (by omega)) h22 fun _ h24 => go [] <| cl0 Tryz.call63 (ospan_y t (by omega)) h24 fun _ h26 => ?_
 have h27 := tk8 (sf7 (sf7 (sf7 (sf7 (sf7 (sf7 (sf2 (sf7 h26))))))))
 refine go [rd 5 1 1 0 3 h26] <| cl6 Tryz.call61 (lease_1 b f10 p11 d12 s13 l14 S hW15 y z (by omega) (by omega) hg (by omega) (by omega) (by omega)) h27 fun w28 h29 => go [] ?_
 have h30 : sat g w28 [Wd b S, Cl r17 [iV 1, iV y, uV z] 32, R] := wd_close hW15 h29
 exact en (iV 8) [] ⟨_, _, rfl, ⟨rfl, rfl⟩, (tk2 (sf1 (sf2 h30)))⟩

set_option maxHeartbeats 4000000 in
theorem wren_2 (b : Nat) (S : Wst) (y z : Int) (hz0 : 0 ≤ z) (hz1 : z ≤ 4294967295) (hg : KGood (2, y, z)) (hy0 : 0 ≤ y) (hy1 : y ≤ 63) (hz : 1 ≤ z) (t : Int) (ht : 1 ≤ t ∧ t ≤ 1048576) : HT Tryz.prog 25 [pV b, .agg #[iV 2, iV y, uV z], iV t] [Wd b S] (fun v K => v = iV 8 ∧ K = [Wd b S]) := by
 refine hiS Tryz.func25 Tryz.ntmps25 fun g w0 R h0 => ?_
 obtain ⟨f10, p11, d12, s13, l14, hW15, h16⟩ := wd_open h0
 have hW15n := hW15.nl; have hW15m := hW15.nh; have hW15t := hW15.tn
 refine go [] <| nP 32 [iV 2, iV y, uV z] h16 (fun r17 _ h19 => ?_)
 have h20 := tk8 (sf7 (sf6 (sf7 (sf7 (sf7 (sf7 (sf7 (sf7 h19))))))))
 refine go [] <| cl1 Tryz.call56 (wvalid_cl b l14 Value.nilIface (.iface 84 (pV f10)) (.iface 87 (pV p11)) (.iface 90 (pV d12)) (pV s13) (iV S.now)) h20 fun _ h22 => go [rd 3 0 1 0 3 h22] <| cl0 Tryz.call15 (couter_ok 2 y z (by omega) (by omega) (by omega)) h22 fun _ h24 => go [] <| cl0 Tryz.call63 (ospan_y t (by omega)) h24 fun _ h26 => ?_
 have h27 := tk8 (sf7 (sf7 (sf7 (sf7 (sf7 (sf7 (sf2 (sf7 h26))))))))
 refine go [rd 5 1 1 0 3 h26] <| cl6 Tryz.call61 (lease_2 b f10 p11 d12 s13 l14 S hW15 y z (by omega) (by omega) hg (by omega) (by omega) (by omega)) h27 fun w28 h29 => go [] ?_
 have h30 : sat g w28 [Wd b S, Cl r17 [iV 2, iV y, uV z] 32, R] := wd_close hW15 h29
 exact en (iV 8) [] ⟨_, _, rfl, ⟨rfl, rfl⟩, (tk2 (sf1 (sf2 h30)))⟩

set_option maxHeartbeats 4000000 in
theorem wren_n (b : Nat) (S : Wst) (y z : Int) (hz0 : 0 ≤ z) (hz1 : z ≤ 4294967295) (hg : KGood (3, y, z)) (hy0 : 0 ≤ y) (hy1 : y ≤ 63) (hz : 1 ≤ z) (hT : ¬ Thr S (3, y, z)) (t : Int) (ht : 1 ≤ t ∧ t ≤ 1048576) : HT Tryz.prog 25 [pV b, .agg #[iV 3, iV y, uV z], iV t] [Wd b S] (fun v K => v = iV 5 ∧ K = [Wd b S]) := by
 refine hiS Tryz.func25 Tryz.ntmps25 fun g w0 R h0 => ?_
 obtain ⟨f10, p11, d12, s13, l14, hW15, h16⟩ := wd_open h0
 have hW15n := hW15.nl; have hW15m := hW15.nh; have hW15t := hW15.tn
 refine go [] <| nP 32 [iV 3, iV y, uV z] h16 (fun r17 _ h19 => ?_)
 have h20 := tk8 (sf7 (sf6 (sf7 (sf7 (sf7 (sf7 (sf7 (sf7 h19))))))))
 refine go [] <| cl1 Tryz.call56 (wvalid_cl b l14 Value.nilIface (.iface 84 (pV f10)) (.iface 87 (pV p11)) (.iface 90 (pV d12)) (pV s13) (iV S.now)) h20 fun _ h22 => go [rd 3 0 1 0 3 h22] <| cl0 Tryz.call15 (couter_ok 3 y z (by omega) (by omega) (by omega)) h22 fun _ h24 => go [] <| cl0 Tryz.call63 (ospan_y t (by omega)) h24 fun _ h26 => ?_
 have h27 := tk8 (sf7 (sf7 (sf7 (sf7 (sf7 (sf7 (sf2 (sf7 h26))))))))
 refine go [rd 5 1 1 0 3 h26] <| cl6 Tryz.call61 (lease_n b f10 p11 d12 s13 l14 S hW15 y z (by omega) (by omega) hg (by omega) (by omega) (by omega) hT) h27 fun w28 h29 => go [] ?_
 have h30 : sat g w28 [Wd b S, Cl r17 [iV 3, iV y, uV z] 32, R] := wd_close hW15 h29
 exact en (iV 5) [] ⟨_, _, rfl, ⟨rfl, rfl⟩, (tk2 (sf1 (sf2 h30)))⟩

set_option maxHeartbeats 4000000 in
theorem wren_y (b : Nat) (S : Wst) (y z : Int) (hz0 : 0 ≤ z) (hz1 : z ≤ 4294967295) (hg : KGood (3, y, z)) (hy0 : 0 ≤ y) (hy1 : y ≤ 63) (hz : 1 ≤ z) (hT : Thr S (3, y, z)) (t : Int) (ht : 1 ≤ t ∧ t ≤ 1048576) : HT Tryz.prog 25 [pV b, .agg #[iV 3, iV y, uV z], iV t] [Wd b S] (fun v K => v = iV (rnE (vaA S.D y.toNat) t S.now) ∧ K = [Wd b ({ S with D := rnX S.D (3, y, z) t S.now } : Wst)]) := by
 refine hiS Tryz.func25 Tryz.ntmps25 fun g w0 R h0 => ?_
 obtain ⟨f10, p11, d12, s13, l14, hW15, h16⟩ := wd_open h0
 have hW15n := hW15.nl; have hW15m := hW15.nh; have hW15t := hW15.tn
 refine go [] <| nP 32 [iV 3, iV y, uV z] h16 (fun r17 _ h19 => ?_)
 have h20 := tk8 (sf7 (sf6 (sf7 (sf7 (sf7 (sf7 (sf7 (sf7 h19))))))))
 refine go [] <| cl1 Tryz.call56 (wvalid_cl b l14 Value.nilIface (.iface 84 (pV f10)) (.iface 87 (pV p11)) (.iface 90 (pV d12)) (pV s13) (iV S.now)) h20 fun _ h22 => go [rd 3 0 1 0 3 h22] <| cl0 Tryz.call15 (couter_ok 3 y z (by omega) (by omega) (by omega)) h22 fun _ h24 => go [] <| cl0 Tryz.call63 (ospan_y t (by omega)) h24 fun _ h26 => ?_
 have h27 := tk8 (sf7 (sf7 (sf7 (sf7 (sf7 (sf7 (sf2 (sf7 h26))))))))
 refine go [rd 5 1 1 0 3 h26] <| cl6 Tryz.call61 (lease_y b f10 p11 d12 s13 l14 S hW15 y z (by omega) (by omega) hg (by omega) (by omega) (by omega) hT) h27 fun _ h29 => go [] <| dw (fls [0, 1, 2, 3, 4, 5, 6] (Tr.an 7 (Tr.fl 8 Tr.nil))) h29 fun _ h31 => ?_
 have h32 := tk8 (sf7 (sf6 (sf6 (sf6 (sf7 (sf7 (sf7 (sf7 h31))))))))
 refine go [rd 8 1 6 0 3 h31, rd 8 6 0 6 1 h31] <| cw1 Tryz.call64 (drenew_ht d12 S.D y z y.toNat (thr_at hT) (thr_nat hg) (by omega) t S.now (by omega) (by omega)) h32 fun w33 h34 => ⟨kd [], ?_⟩
 refine go [] ?_
 have h35 := tk8 (sf7 (sf7 (sf7 (sf4 (sf7 (sf7 (sf7 (sf7 h34))))))))
 have h36 : sat g w33 [Wd b ({ S with D := rnX S.D (3, y, z) t S.now } : Wst), Cl r17 [iV 3, iV y, uV z] 32, R] := wd_close ((ren_ok ht rfl hT).2 ▸ wok_ren hW15 (3, y, z) t) h35
 exact en (iV ((rnE (vaA S.D y.toNat) t S.now))) [] ⟨_, _, rfl, ⟨rfl, rfl⟩, (tk2 (sf1 (sf2 h36)))⟩

theorem wrenew_ht (b : Nat) (S : Wst) (x y z t : Int) (hz0 : 0 ≤ z) (hz1 : z ≤ 4294967295) : HT Tryz.prog 25 [pV b, .agg #[iV x, iV y, uV z], iV t] [Wd b S] (fun v K => v = iV (renE S (x, y, z) t) ∧ K = [Wd b (renS S (x, y, z) t)]) := by
  by_cases ht : 1 ≤ t ∧ t ≤ 1048576
  rotate_left
  · by_cases h : KGood (x, y, z)
    · have e_ : renE S (x, y, z) t = 2 := ren_arg (by omega)
      rw [ren_keep (by rw [e_]; decide), e_]; exact wren_sp b S x y z hz0 hz1 h h.2.2.1 h.2.2.2.1 h.2.2.2.2 ⟨h.1, h.2.1⟩ t (by omega)
    · have e_ : renE S (x, y, z) t = 2 := ren_arg (.inl h)
      rw [ren_keep (by rw [e_]; decide), e_]; exact wren_no b S x y z hz0 hz1 h t
  by_cases h : KGood (x, y, z)
  · rcases kgood_k h with h1 | h1 | h1
    · have h2 : x = 1 := h1
      subst h2
      have e_ : renE S (_, y, z) t = _ := ren_kind h ht (by show (1 : Int) ≠ 3; decide); rw [ren_keep (by rw [e_]; decide), e_]; exact wren_1 b S y z hz0 hz1 h h.2.2.1 h.2.2.2.1 h.2.2.2.2 t ht
    · have h2 : x = 2 := h1
      subst h2
      have e_ : renE S (_, y, z) t = _ := ren_kind h ht (by show (2 : Int) ≠ 3; decide); rw [ren_keep (by rw [e_]; decide), e_]; exact wren_2 b S y z hz0 hz1 h h.2.2.1 h.2.2.2.1 h.2.2.2.2 t ht
    · have h2 : x = 3 := h1
      subst h2
      by_cases hT : Thr S (3, y, z)
      · rw [(ren_ok ht rfl hT).1, (ren_ok ht rfl hT).2]; exact wren_y b S y z hz0 hz1 h h.2.2.1 h.2.2.2.1 h.2.2.2.2 hT t ht
      · have e_ : renE S (_, y, z) t = _ := ren_none h ht rfl hT; rw [ren_keep (by rw [e_]; decide), e_]; exact wren_n b S y z hz0 hz1 h h.2.2.1 h.2.2.2.1 h.2.2.2.2 hT t ht
  · have e_ : renE S (x, y, z) t = 2 := ren_arg (.inl h); rw [ren_keep (by rw [e_]; decide), e_]; exact wren_no b S x y z hz0 hz1 h t

end Go.Proofs.YtggfnbpohmhphaaGreatDoor

/- Walks, printed by my generator o11.py. -/
namespace Go.Proofs.YtggfnbpohmhphaaGreatDoor
set_option maxHeartbeats 4000000 in
theorem wtick_ht (b : Nat) (S : Wst) (t : Int) : HT Tryz.prog 29 [pV b, iV t] [Wd b S] (fun v K => v = iV (tckE S t) ∧ K = [Wd b (tckS S t)]) := by
 refine hiS Tryz.func29 Tryz.ntmps29 fun g w0 R h0 => ?_
 obtain ⟨f10, p11, d12, s13, l14, hW15, h16⟩ := wd_open h0
 have hW15n := hW15.nl; have hW15m := hW15.nh; have hW15t := hW15.tn
 refine go [] <| cl1 Tryz.call56 (wvalid_cl b l14 Value.nilIface (.iface 84 (pV f10)) (.iface 87 (pV p11)) (.iface 90 (pV d12)) (pV s13) (iV S.now)) h16 fun _ h18 => go [] ?_
 by_cases c19 : 1 ≤ t
 ·
  by_cases c20 : t ≤ 1048576
  ·
   refine cl0 Tryz.call63 (ospan_y t (by omega)) h18 fun w21 h22 => go [rd 5 3 0 6 1 h22, .v 5 5 (oIr (S.now + t)), .s 5 6] ?_
   by_cases c23 : S.now + t > 1099511627776
   ·
    refine go [.v 5 6 (oT (S.now + t > 1099511627776))] ?_
    have ht_ := tck_over (S := S) (t := t) (by omega) (by omega)
    have h24 : sat g w21 [Wd b S, R] := wd_close hW15 h22
    exact en (iV 17) [] ⟨_, [Wd b S], rfl, ⟨by rw [ht_.1], by rw [ht_.2]⟩, h24⟩
   refine go [.v 5 6 (oF (S.now + t > 1099511627776)), rd 7 3 0 6 1 h22, .v 7 5 (oIr (S.now + t))] <| sP [(6, iV (S.now + t))] [Value.nilIface, .iface 84 (pV f10), .iface 87 (pV p11), .iface 90 (pV d12), pV s13, pV l14, iV (S.now + t)] h22 fun w25 h26 => go [] ?_
   have ht_ := tck_ok (S := S) (t := t) (by omega) (by omega)
   have h27 : sat g w25 [Wd b ({ S with now := S.now + t } : Wst), R] := wd_close (ht_.2 ▸ wok_tck hW15 t) h26
   exact en (iV 0) [] ⟨_, [Wd b ({ S with now := S.now + t } : Wst)], rfl, ⟨by rw [ht_.1], by rw [ht_.2]⟩, h27⟩
  refine cl0 Tryz.call63 (ospan_n t (by omega)) h18 fun w28 h29 => go [] ?_
  have ht_ := tck_arg (S := S) (t := t) (by omega)
  have h30 : sat g w28 [Wd b S, R] := wd_close hW15 h29
  exact en (iV 2) [] ⟨_, [Wd b S], rfl, ⟨by rw [ht_.1], by rw [ht_.2]⟩, h30⟩
 refine cl0 Tryz.call63 (ospan_n t (by omega)) h18 fun w31 h32 => go [] ?_
 have ht_ := tck_arg (S := S) (t := t) (by omega)
 have h33 : sat g w31 [Wd b S, R] := wd_close hW15 h32
 exact en (iV 2) [] ⟨_, [Wd b S], rfl, ⟨by rw [ht_.1], by rw [ht_.2]⟩, h33⟩

set_option maxHeartbeats 4000000 in
theorem wnow_ht (b : Nat) (S : Wst) : HT Tryz.prog 20 [pV b] [Wd b S] (fun v K => v = iV S.now ∧ K = [Wd b S]) := by
 refine hiS Tryz.func20 Tryz.ntmps20 fun g w0 R h0 => ?_
 obtain ⟨f10, p11, d12, s13, l14, hW15, h16⟩ := wd_open h0
 have hW15n := hW15.nl; have hW15m := hW15.nh; have hW15t := hW15.tn
 refine go [] <| cl1 Tryz.call56 (wvalid_cl b l14 Value.nilIface (.iface 84 (pV f10)) (.iface 87 (pV p11)) (.iface 90 (pV d12)) (pV s13) (iV S.now)) h16 fun w17 h18 => go [rd 3 3 0 6 1 h18] ?_
 have h19 : sat g w17 [Wd b S, R] := wd_close hW15 h18
 exact en (iV S.now) [] ⟨_, _, rfl, ⟨rfl, rfl⟩, h19⟩

set_option maxHeartbeats 4000000 in
theorem wansw_ht (wo : World) (hg : Lett wo) (b : Nat) (S : Wst) (l : List UInt8) (hl : l.length ≤ 1099511627776) : HT Tryz.prog 30 [pV b, .string (St l)] [Wd b S, Old wo] (fun v K => v = iV (aswE S l) ∧ K = [Wd b (aswS S l), Old wo]) := by
 refine hiS Tryz.func30 Tryz.ntmps30 fun g w0 R h0 => ?_
 obtain ⟨f10, p11, d12, s13, l14, hW15, h16⟩ := wd_open h0
 have hW15n := hW15.nl; have hW15m := hW15.nh; have hW15t := hW15.tn
 refine go [] <| cl1 Tryz.call56 (wvalid_cl b l14 Value.nilIface (.iface 84 (pV f10)) (.iface 87 (pV p11)) (.iface 90 (pV d12)) (pV s13) (iV S.now)) h16 fun _ h18 => ?_
 have h19 := tk8 (sf7 (sf7 (sf5 (sf5 (sf5 (sf5 (sf6 (sf7 h18))))))))
 refine go [rd 3 3 0 4 1 h18] <| cl2 Tryz.call70 (add_ht wo hg s13 S.q l hl) h19 fun w20 h21 => go [] ?_
 have h23 : sat g w20 [Wd b (aswS S l), Old wo, R] := wd_close (wok_asw hW15 l) (tk8 (sf7 (sf7 (sf7 (sf7 (sf3 (sf7 (sf2 (sf7 h21)))))))))
 exact en (iV ((addE S.q l))) [] ⟨_, _, rfl, ⟨rfl, rfl⟩, h23⟩

set_option maxHeartbeats 4000000 in
theorem wledg_ht (b : Nat) (S : Wst) : HT Tryz.prog 17 [pV b] [Wd b S] (fun v K => ∃ b2 : Nat, v = pV b2 ∧ K = [Wd b S, Lg b2 S.T]) := by
 refine hiS Tryz.func17 Tryz.ntmps17 fun g w0 R h0 => ?_
 obtain ⟨f10, p11, d12, s13, l14, hW15, h16⟩ := wd_open h0
 have hW15n := hW15.nl; have hW15m := hW15.nh; have hW15t := hW15.tn
 refine go [] <| cl1 Tryz.call56 (wvalid_cl b l14 Value.nilIface (.iface 84 (pV f10)) (.iface 87 (pV p11)) (.iface 90 (pV d12)) (pV s13) (iV S.now)) h16 fun _ h18 => ?_
 have h20 := tk7 (sf6 (sf5 (sf5 (sf5 (sf5 (sf5 (sf6 h18)))))))
 refine go [rd 3 3 0 5 1 h18] <| cP Tryz.call58 (lgcopy_ht l14 S.T) h20 ?_
 rintro v K w21 (⟨b19, rfl, rfl⟩) h22
 have h23 := ap2 h22
 refine go [] ?_
 have h25 : sat g w21 [Wd b S, Lg b19 S.T, R] := wd_close hW15 (tk8 (sf7 (sf7 (sf7 (sf7 (sf7 (sf2 (sf2 (sf7 h23)))))))))
 exact en (pV b19) [] ⟨_, _, rfl, ⟨b19, rfl, rfl⟩, h25⟩

set_option maxHeartbeats 4000000 in
theorem wall_ht (b : Nat) (S : Wst) : HT Tryz.prog 19 [pV b] [Wd b S] (fun v K => ∃ p c, v = .slice p (allS S).length c ∧ K = [Sl 32 3 p (((allS S).length)) c (fl eO (allS S)), Wd b S]) := by
 refine hiS Tryz.func19 Tryz.ntmps19 fun g w0 R h0 => ?_
 obtain ⟨f10, p11, d12, s13, l14, hW15, h16⟩ := wd_open h0
 have hW15n := hW15.nl; have hW15m := hW15.nh; have hW15t := hW15.tn
 refine go [] <| cl1 Tryz.call56 (wvalid_cl b l14 Value.nilIface (.iface 84 (pV f10)) (.iface 87 (pV p11)) (.iface 90 (pV d12)) (pV s13) (iV S.now)) h16 fun _ h18 => go [.s 4 3] <| lwP (.slice (some ⟨b, 1, none⟩) 3 3) (law_sliceArr (x := (Operand.tmp 11)) (lo := (some (Operand.const (iV 1)))) (hi := none) (b := b) (off := 0) (by kernel_rfl) Tryz.underlying76 1 (by kernel_rfl) 1 4 1 4 (by kernel_rfl) (show fe _ _ (Operand.const (iV 1)) = _ from by kernel_rfl) rfl (by omega) (by omega) (by omega) (by omega) 1 ((if_neg (by omega)).trans (by omega)) 3 3 (by omega) (by omega) _) <| go [.v 4 4 (oJ .i64 (3 : Int) 3)] <| unS 3 <| go [.s 6 0] <| lwP (.pointer (some ⟨b, 1, none⟩)) (law_indexSl (x := (Operand.tmp 12)) (i := (Operand.tmp 14)) (b := b) (off := 1) (z := 0) (len := 3) (cap := 3) (by kernel_rfl) Tryz.underlying103 1 (by kernel_rfl) 0 (by kernel_rfl) (by kernel_rfl) (by omega) (by omega) 1 (by omega) _) ?_
 have h21 := tk7 (sf6 (sf5 (sf6 (sf6 (sf6 (sf6 (sf6 h18)))))))
 refine go [rd 6 1 0 1 1 h18] ?_
 refine iP 84 (pV f10) "All" [] 193 ((by have h_ := fall_ht f10 64 S.F; exact h_)) h21 ?_
 rintro v K w22 (⟨p19, c20, rfl, rfl⟩) h23
 have h24 := ap2 h23
 have hl25 : ((inS 1 (As S.F) 0).length) ≤ 64 := by have h_ := inS_len 1 (As S.F) 0; rw [as_len, hW15.fl] at h_; exact h_
 have h26 : sat g w22 [Sl 32 3 none 0 0 (fl eO []), Fd f10 64 S.F, Sl 32 3 p19 (((inS 1 (As S.F) 0).length)) c20 (fl eO (allK 1 S.F)), Cl b [Value.nilIface, .iface 84 (pV f10), .iface 87 (pV p11), .iface 90 (pV d12), pV s13, pV l14, iV S.now] 79, Pl p11 S.B, Dk d12 S.D, Sr 146 s13 S.q, Lg l14 S.T, R] := sl_nil 32 3 h24
 refine actG ?_
 refine an_append_gv (d := 21) (sz := 3) (s := (Operand.tmp 18)) (x := (Operand.tmp 20)) (z := .agg #[iV 0, iV 0, uV 0]) (p := none) (p2 := p19) (m := 0) (c := 0) (k := (((inS 1 (As S.F) 0).length))) (c2 := c20) (by_ := 24) (by kernel_rfl) (by kernel_rfl) rfl Tryz.underlying30 (by kernel_rfl) rfl (by decide) (by kernel_rfl) (by kernel_rfl) h26 2 rfl (fl eO (allK 1 S.F)) (gv_sl _ _ _) (by rw [fl_len eO_ok, show ((allK 1 S.F)).length = ((inS 1 (As S.F) 0).length) from (allK_len _ _)]) (fl_one eO_ok _) (by omega) (by omega) (((inS 1 (As S.F) 0).length)) (by omega) ?_
 intro p27 cap28 w29 h30
 have h31 : sat g w29 [Sl 32 3 p27 (((inS 1 (As S.F) 0).length)) cap28 (fl eO (allK 1 S.F)), Fd f10 64 S.F, Sl 32 3 p19 (((inS 1 (As S.F) 0).length)) c20 (fl eO (allK 1 S.F)), Cl b [Value.nilIface, .iface 84 (pV f10), .iface 87 (pV p11), .iface 90 (pV d12), pV s13, pV l14, iV S.now] 79, Pl p11 S.B, Dk d12 S.D, Sr 146 s13 S.q, Lg l14 S.T, R] := sat_imp h30 (fun _ hh => by exact hh)
 obtain ⟨hn32, hn33⟩ := sl_le h31
 refine nxA <| go [] <| unN <| go [.s 6 0] <| lwP (.pointer (some ⟨b, 2, none⟩)) (law_indexSl (x := (Operand.tmp 12)) (i := (Operand.tmp 14)) (b := b) (off := 1) (z := 1) (len := 3) (cap := 3) (by kernel_rfl) Tryz.underlying103 1 (by kernel_rfl) 1 (by kernel_rfl) (by kernel_rfl) (by omega) (by omega) 2 (by omega) _) ?_
 have h36 := tk9 (sf8 (sf7 (sf7 (sf7 (sf7 (sf8 (sf8 (sf8 (sf8 h31)))))))))
 refine go [rd 6 1 3 2 1 h31] ?_
 refine iP 87 (pV p11) "All" [] 195 (pall_ht p11 S.B) h36 ?_
 rintro v K _ (⟨p34, c35, rfl, rfl⟩) h38
 have h39 := ap2 h38
 have hl40 : ((inS 1 (As S.B) 0).length) ≤ 64 := by have h_ := inS_len 1 (As S.B) 0; rw [as_len, hW15.bl] at h_; exact h_
 have h41 := tk10 (sf9 (sf8 (sf8 (sf9 (sf9 (sf9 (sf9 (sf9 (sf9 (sf9 h39))))))))))
 refine actG ?_
 refine an_append_gv (d := 21) (sz := 3) (s := (Operand.tmp 18)) (x := (Operand.tmp 20)) (z := .agg #[iV 0, iV 0, uV 0]) (p := p27) (p2 := p34) (m := (((inS 1 (As S.F) 0).length))) (c := cap28) (k := (((inS 1 (As S.B) 0).length))) (c2 := c35) (by_ := 24) (by kernel_rfl) (by kernel_rfl) rfl Tryz.underlying30 (by kernel_rfl) rfl (by decide) (by kernel_rfl) (by kernel_rfl) h41 2 rfl (fl eO (allK 2 S.B)) (gv_sl _ _ _) (by rw [fl_len eO_ok, show ((allK 2 S.B)).length = ((inS 1 (As S.B) 0).length) from (allK_len _ _)]) (fl_one eO_ok _) (by omega) (by omega) (((inS 1 (As S.F) 0).length) + ((inS 1 (As S.B) 0).length)) (by omega) ?_
 intro p42 cap43 w44 h45
 have h46 : sat g w44 [Sl 32 3 p42 (((inS 1 (As S.F) 0).length) + ((inS 1 (As S.B) 0).length)) cap43 (fl eO ((allK 1 S.F) ++ (allK 2 S.B))), Pl p11 S.B, Sl 32 3 p34 (((inS 1 (As S.B) 0).length)) c35 (fl eO (allK 2 S.B)), Fd f10 64 S.F, Sl 32 3 p19 (((inS 1 (As S.F) 0).length)) c20 (fl eO (allK 1 S.F)), Cl b [Value.nilIface, .iface 84 (pV f10), .iface 87 (pV p11), .iface 90 (pV d12), pV s13, pV l14, iV S.now] 79, Dk d12 S.D, Sr 146 s13 S.q, Lg l14 S.T, R] := sat_imp h45 (fun _ hh => by rw [fl_app]; exact hh)
 obtain ⟨hn47, hn48⟩ := sl_le h46
 refine nxA <| go [] <| unN <| go [.s 6 0] <| lwP (.pointer (some ⟨b, 3, none⟩)) (law_indexSl (x := (Operand.tmp 12)) (i := (Operand.tmp 14)) (b := b) (off := 1) (z := 2) (len := 3) (cap := 3) (by kernel_rfl) Tryz.underlying103 1 (by kernel_rfl) 2 (by kernel_rfl) (by kernel_rfl) (by omega) (by omega) 3 (by omega) _) ?_
 have h51 := tk10 (sf9 (sf8 (sf8 (sf8 (sf8 (sf8 (sf8 (sf9 (sf9 (sf9 h46))))))))))
 refine go [rd 6 1 5 3 1 h46] ?_
 refine iP 90 (pV d12) "All" [] 198 (dall_ht d12 S.D) h51 ?_
 rintro v K _ (⟨p49, c50, rfl, rfl⟩) h53
 have h54 := ap2 h53
 have hl55 : ((inS 1 (As S.D) 0).length) ≤ 64 := by have h_ := inS_len 1 (As S.D) 0; rw [as_len, hW15.dl] at h_; exact h_
 have h56 := tk11 (sf10 (sf9 (sf9 (sf10 (sf10 (sf10 (sf10 (sf10 (sf10 (sf10 (sf10 h54)))))))))))
 refine actG ?_
 refine an_append_gv (d := 21) (sz := 3) (s := (Operand.tmp 18)) (x := (Operand.tmp 20)) (z := .agg #[iV 0, iV 0, uV 0]) (p := p42) (p2 := p49) (m := (((inS 1 (As S.F) 0).length) + ((inS 1 (As S.B) 0).length))) (c := cap43) (k := (((inS 1 (As S.D) 0).length))) (c2 := c50) (by_ := 24) (by kernel_rfl) (by kernel_rfl) rfl Tryz.underlying30 (by kernel_rfl) rfl (by decide) (by kernel_rfl) (by kernel_rfl) h56 2 rfl (fl eO (allK 3 S.D)) (gv_sl _ _ _) (by rw [fl_len eO_ok, show ((allK 3 S.D)).length = ((inS 1 (As S.D) 0).length) from (allK_len _ _)]) (fl_one eO_ok _) (by omega) (by omega) (((inS 1 (As S.F) 0).length) + ((inS 1 (As S.B) 0).length) + ((inS 1 (As S.D) 0).length)) (by omega) ?_
 intro p57 cap58 w59 h60
 have h61 : sat g w59 [Sl 32 3 p57 (((inS 1 (As S.F) 0).length) + ((inS 1 (As S.B) 0).length) + ((inS 1 (As S.D) 0).length)) cap58 (fl eO (((allK 1 S.F) ++ (allK 2 S.B)) ++ (allK 3 S.D))), Dk d12 S.D, Sl 32 3 p49 (((inS 1 (As S.D) 0).length)) c50 (fl eO (allK 3 S.D)), Pl p11 S.B, Sl 32 3 p34 (((inS 1 (As S.B) 0).length)) c35 (fl eO (allK 2 S.B)), Fd f10 64 S.F, Sl 32 3 p19 (((inS 1 (As S.F) 0).length)) c20 (fl eO (allK 1 S.F)), Cl b [Value.nilIface, .iface 84 (pV f10), .iface 87 (pV p11), .iface 90 (pV d12), pV s13, pV l14, iV S.now] 79, Sr 146 s13 S.q, Lg l14 S.T, R] := sat_imp h60 (fun _ hh => by rw [fl_app]; exact hh)
 obtain ⟨hn62, hn63⟩ := sl_le h61
 refine nxA <| go [] <| unN <| go [] <| up <| go [] ?_
 have hn_ : ((inS 1 (As S.F) 0).length) + ((inS 1 (As S.B) 0).length) + ((inS 1 (As S.D) 0).length) = (allS S).length := by unfold allS; rw [List.length_append, List.length_append, allK_len, allK_len, allK_len]; omega
 have h64 : sat g w59 [Sl 32 3 p57 (((allS S).length)) cap58 (fl eO (allS S)), Dk d12 S.D, Sl 32 3 p49 (((inS 1 (As S.D) 0).length)) c50 (fl eO (allK 3 S.D)), Pl p11 S.B, Sl 32 3 p34 (((inS 1 (As S.B) 0).length)) c35 (fl eO (allK 2 S.B)), Fd f10 64 S.F, Sl 32 3 p19 (((inS 1 (As S.F) 0).length)) c20 (fl eO (allK 1 S.F)), Cl b [Value.nilIface, .iface 84 (pV f10), .iface 87 (pV p11), .iface 90 (pV d12), pV s13, pV l14, iV S.now] 79, Sr 146 s13 S.q, Lg l14 S.T, R] := sat_imp h61 (fun _ hh_ => by rw [hn_, show (((allK 1 S.F) ++ (allK 2 S.B)) ++ (allK 3 S.D)) = allS S from by unfold allS; simp only [List.append_assoc]] at hh_; exact hh_)
 have h66 : sat g w59 [Wd b S, Sl 32 3 p57 (((allS S).length)) cap58 (fl eO (allS S)), Sl 32 3 p49 (((inS 1 (As S.D) 0).length)) c50 (fl eO (allK 3 S.D)), Sl 32 3 p34 (((inS 1 (As S.B) 0).length)) c35 (fl eO (allK 2 S.B)), Sl 32 3 p19 (((inS 1 (As S.F) 0).length)) c20 (fl eO (allK 1 S.F)), R] := wd_close hW15 (tk11 (sf10 (sf9 (sf8 (sf7 (sf10 (sf10 (sf4 (sf5 (sf6 (sf7 (sf10 h64))))))))))))
 exact en (.slice p57 (((inS 1 (As S.F) 0).length) + ((inS 1 (As S.B) 0).length) + ((inS 1 (As S.D) 0).length)) cap58) [] ⟨_, _, rfl, ⟨p57, cap58, by rw [hn_], rfl⟩, (tk3 (sf2 (sf2 (sf5 (tk6 (sf5 (sf4 (sf5 (sf5 (sf5 (sf5 h66)))))))))))⟩

set_option maxHeartbeats 4000000 in
theorem wcopy_ht (b : Nat) (S : Wst) : HT Tryz.prog 31 [pV b] [Wd b S] (fun v K => ∃ b2 : Nat, v = pV b2 ∧ K = [Wd b S, Wd b2 S]) := by
 refine hiS Tryz.func31 Tryz.ntmps31 fun g w0 R h0 => ?_
 obtain ⟨f10, p11, d12, s13, l14, hW15, h16⟩ := wd_open h0
 have hW15n := hW15.nl; have hW15m := hW15.nh; have hW15t := hW15.tn
 refine go [] <| cl1 Tryz.call56 (wvalid_cl b l14 Value.nilIface (.iface 84 (pV f10)) (.iface 87 (pV p11)) (.iface 90 (pV d12)) (pV s13) (iV S.now)) h16 fun _ h18 => go [] <| dw (fls [0, 1, 2, 3, 5, 6, 7, 8, 10, 11, 12, 13] (Tr.an 4 (Tr.an 9 (Tr.fl 14 (Tr.an 15 (Tr.fl 16 Tr.nil)))))) h18 fun _ h20 => ?_
 have h22 := tk7 (sf6 (sf5 (sf5 (sf5 (sf5 (sf6 (sf6 h20)))))))
 refine go [rd 3 3 0 4 1 h20, rd 3 8 0 5 1 h20, rd 3 13 0 6 1 h20] <| cG Tryz.call71 (copy_ht s13 S.q) h22 ?_
 rintro v K _ (⟨b21, rfl, rfl⟩) h24
 have h25 := ap2 h24
 refine ⟨kd [rd 0 13 2 6 1 h25, rd 0 8 2 5 1 h25], ?_⟩
 refine cG Tryz.call58 (lgcopy_ht l14 S.T) (tk8 (sf7 (sf6 (sf6 (sf6 (sf6 (sf6 (sf6 (sf7 h25))))))))) ?_
 rintro v K _ (⟨b26, rfl, rfl⟩) h29
 have h30 := ap2 h29
 refine ⟨kd [rd 0 13 4 6 1 h30], ?_⟩
 refine go [] <| nG (fun q_ => pV q_) 79 [Value.nilIface, Value.nilIface, Value.nilIface, Value.nilIface, pV b21, pV b26, iV S.now] h30 (fun r31 _ h33 => ⟨kd [], ?_⟩)
 refine go [rd 4 3 5 0 4 h33] <| unS 4 <| go [] <| unN <| go [] <| dw (fls [0, 1, 2, 5, 6] (Tr.an 3 (fls [4, 7] (Tr.an 8 Tr.nil)))) h33 fun _ h35 => ?_
 have h37 := tk10 (sf9 (sf8 (sf8 (sf8 (sf8 (sf8 (sf8 (sf9 (sf9 (sf9 h35))))))))))
 refine go [] <| cG Tryz.call72 (fcopy_ht f10 64 S.F) h37 ?_
 rintro v K _ (⟨b36, rfl, rfl⟩) h39
 have h40 := ap2 h39
 refine ⟨kd [], ?_⟩
 refine lw (.iface 84 (pV b36)) (fun _ => law_mkIface (t := 84) (x := (Operand.tmp 43)) (by kernel_rfl) Tryz.underlying84 rfl (pV b36) (by kernel_rfl) _) <| lw (.pointer (some ⟨r31, 1, none⟩)) (fun _ => law_indexArr (x := (Operand.tmp 46)) (i := (Operand.tmp 41)) (b := r31) (off := 0) (z := 1) (by kernel_rfl) Tryz.underlying76 1 (by kernel_rfl) 1 (by kernel_rfl) (by kernel_rfl) (by omega) (by omega) 1 (by omega) _) <| sG [(1, .iface 84 (pV b36))] [Value.nilIface, .iface 84 (pV b36), Value.nilIface, Value.nilIface, pV b21, pV b26, iV S.now] (tk11 (sf10 (sf9 (sf9 (sf10 (sf10 (sf10 (sf10 (sf10 (sf10 (sf10 (sf10 h40)))))))))))) fun _ h43 => ⟨kd [], ?_⟩
 refine go [] <| unN <| go [] <| dw (fls [0, 1, 2, 5, 6] (Tr.an 3 (fls [4, 7] (Tr.an 8 Tr.nil)))) h43 fun _ h45 => ?_
 have h47 := tk11 (sf10 (sf9 (sf9 (sf9 (sf9 (sf9 (sf9 (sf9 (sf9 (sf10 (sf10 h45)))))))))))
 refine go [] <| cG Tryz.call73 (pcopy_ht p11 S.B) h47 ?_
 rintro v K _ (⟨b46, rfl, rfl⟩) h49
 have h50 := ap2 h49
 refine ⟨kd [], ?_⟩
 refine lw (.iface 87 (pV b46)) (fun _ => law_mkIface (t := 87) (x := (Operand.tmp 54)) (by kernel_rfl) Tryz.underlying87 rfl (pV b46) (by kernel_rfl) _) <| lw (.pointer (some ⟨r31, 2, none⟩)) (fun _ => law_indexArr (x := (Operand.tmp 57)) (i := (Operand.tmp 52)) (b := r31) (off := 0) (z := 2) (by kernel_rfl) Tryz.underlying76 1 (by kernel_rfl) 2 (by kernel_rfl) (by kernel_rfl) (by omega) (by omega) 2 (by omega) _) <| sG [(2, .iface 87 (pV b46))] [Value.nilIface, .iface 84 (pV b36), .iface 87 (pV b46), Value.nilIface, pV b21, pV b26, iV S.now] (tk12 (sf11 (sf10 (sf10 (sf11 (sf11 (sf11 (sf11 (sf11 (sf11 (sf11 (sf11 (sf11 h50))))))))))))) fun _ h53 => ⟨kd [], ?_⟩
 refine go [] <| unN <| go [] <| dw (fls [0, 1, 2, 5, 6] (Tr.an 3 (fls [4, 7] (Tr.an 8 Tr.nil)))) h53 fun _ h55 => ?_
 have h57 := tk12 (sf11 (sf10 (sf10 (sf10 (sf10 (sf10 (sf10 (sf10 (sf10 (sf10 (sf10 (sf11 h55))))))))))))
 refine go [] <| cG Tryz.call74 (lcopy_ht d12 S.D) h57 ?_
 rintro v K _ (⟨b56, rfl, rfl⟩) h59
 have h60 := ap2 h59
 refine ⟨kd [], ?_⟩
 refine lw (.iface 90 (pV b56)) (fun _ => law_mkIface (t := 90) (x := (Operand.tmp 65)) (by kernel_rfl) Tryz.underlying90 rfl (pV b56) (by kernel_rfl) _) <| lw (.pointer (some ⟨r31, 3, none⟩)) (fun _ => law_indexArr (x := (Operand.tmp 68)) (i := (Operand.tmp 63)) (b := r31) (off := 0) (z := 3) (by kernel_rfl) Tryz.underlying76 1 (by kernel_rfl) 3 (by kernel_rfl) (by kernel_rfl) (by omega) (by omega) 3 (by omega) _) <| sG [(3, .iface 90 (pV b56))] [Value.nilIface, .iface 84 (pV b36), .iface 87 (pV b46), .iface 90 (pV b56), pV b21, pV b26, iV S.now] (tk13 (sf12 (sf11 (sf11 (sf12 (sf12 (sf12 (sf12 (sf12 (sf12 (sf12 (sf12 (sf12 (sf12 h60)))))))))))))) fun w62 h63 => ⟨kd [], ?_⟩
 refine go [] <| unN <| go [] <| up <| go [] ?_
 have h65 : sat g w62 [Wd b S, Cl r31 [Value.nilIface, .iface 84 (pV b36), .iface 87 (pV b46), .iface 90 (pV b56), pV b21, pV b26, iV S.now] 79, Dk b56 S.D, Pl b46 S.B, Fd b36 64 S.F, Lg b26 S.T, Sr 146 b21 S.q, R] := wd_close hW15 (tk13 (sf12 (sf11 (sf10 (sf9 (sf11 (sf10 (sf6 (sf7 (sf8 (sf9 (sf10 (sf10 (sf12 h63))))))))))))))
 have h67 : sat g w62 [Wd r31 S, Wd b S, R] := wd_close hW15 (tk8 (sf7 (sf7 (sf6 (sf5 (sf7 (sf6 (sf1 (sf7 h65)))))))))
 exact en (pV r31) [] ⟨_, _, rfl, ⟨r31, rfl, rfl⟩, (tk3 (sf2 (sf1 (sf2 h67))))⟩

end Go.Proofs.YtggfnbpohmhphaaGreatDoor

/-
  Acquiring and releasing, case by case. No program in sight.
-/
namespace Go.Proofs.YtggfnbpohmhphaaGreatDoor
section
variable {S : Wst} {k a y z wy : Int} {o : Ky}
theorem acq_arg (h : ¬ godP k a) : acqE S k a = 2 ∧ acqO S k a = (0, 0, 0) ∧ acqS S k a = S := by
  have e : acqE S k a = 2 := if_pos h
  exact ⟨e, if_neg (by rw [e]; decide), if_pos (.inl h)⟩
theorem acq_err (h : godP k a) {e : Int} (he : grwE S k a = e) (h0 : e ≠ 0) : acqE S k a = e ∧ acqO S k a = (0, 0, 0) ∧ acqS S k a = S := by
  have e1 : acqE S k a = e := by unfold acqE; rw [if_neg (fun q => q h), if_pos (by rw [he]; exact h0), he]
  exact ⟨e1, if_neg (by rw [e1]; exact h0), if_pos (.inr (by rw [he]; exact h0))⟩
theorem acq_later (h : godP k a) (he : grwE S k a = 0) (hq : S.q.headD 1 = 2) : acqE S k a = 15 ∧ acqO S k a = (0, 0, 0) ∧ acqS S k a = { S with q := S.q.tail } := by
  have e1 : acqE S k a = 15 := by unfold acqE; rw [if_neg (fun q => q h), if_neg (fun q => q he), if_pos hq]
  refine ⟨e1, if_neg (by rw [e1]; decide), ?_⟩
  unfold acqS
  rw [if_neg (by rintro (q | q); exact q h; exact q he), if_neg (by rw [e1]; decide)]
theorem acq_fail (h : godP k a) (he : grwE S k a = 0) (hq2 : S.q.headD 1 ≠ 2) (hq : S.q.headD 1 = 3) : acqE S k a = 14 ∧ acqO S k a = (0, 0, 0) ∧ acqS S k a = { S with q := S.q.tail } := by
  have e1 : acqE S k a = 14 := by unfold acqE; rw [if_neg (fun q => q h), if_neg (fun q => q he), if_neg hq2, if_pos hq]
  refine ⟨e1, if_neg (by rw [e1]; decide), ?_⟩
  unfold acqS
  rw [if_neg (by rintro (q | q); exact q h; exact q he), if_neg (by rw [e1]; decide)]
theorem acq_ok (h : godP k a) (he : grwE S k a = 0) (hq2 : S.q.headD 1 ≠ 2) (hq : S.q.headD 1 ≠ 3) : acqE S k a = 0 ∧ acqO S k a = nam k (S.tab k) ∧ acqS S k a = ({ S with q := S.q.tail } : Wst).put k (grw (S.tab k) (valO S k a)) := by
  have e1 : acqE S k a = 0 := by unfold acqE; rw [if_neg (fun q => q h), if_neg (fun q => q he), if_neg hq2, if_neg hq]
  refine ⟨e1, if_pos e1, ?_⟩
  unfold acqS
  rw [if_neg (by rintro (q | q); exact q h; exact q he), if_pos e1]
theorem god1 (h : 0 ≤ a ∧ a ≤ 65535) : godP 1 a := .inl ⟨rfl, h.1, h.2⟩
theorem god2 (h : 1 ≤ a ∧ a ≤ 65536) : godP 2 a := .inr (.inl ⟨rfl, h.1, h.2⟩)
theorem god3 (h : 1 ≤ a ∧ a ≤ 1048576) : godP 3 a := .inr (.inr ⟨rfl, h.1, h.2⟩)
theorem god_no1 (h : ¬ (0 ≤ a ∧ a ≤ 65535)) : ¬ godP 1 a := by unfold godP; omega
theorem god_no2 (h : ¬ (1 ≤ a ∧ a ≤ 65536)) : ¬ godP 2 a := by unfold godP; omega
theorem god_no3 (h : ¬ (1 ≤ a ∧ a ≤ 1048576)) : ¬ godP 3 a := by unfold godP; omega
theorem god_no (h : k < 1 ∨ 3 < k) : ¬ godP k a := by unfold godP; omega
/-- The tables' own words for growing. -/
theorem fre_pos' {X : Xs} (h : ¬ fre X = none) : 0 < (inS 0 (As X) 0).length := by
  rcases Nat.eq_zero_or_pos (inS 0 (As X) 0).length with h0 | h0
  · exact absurd (fre_none.2 h0) h
  · exact h0
theorem opn_grw (h : 0 ≤ a ∧ a ≤ 65535) : opnE S.F a = grwE S 1 a ∧ (opnE S.F a = 0 → opnO S.F a = nam 1 S.F ∧ opnX S.F a = grw S.F a) := by
  have e : grwE S 1 a = if fre S.F = none then 4 else 0 := by
    unfold grwE
    rw [if_neg (by rintro ⟨q, _⟩; exact absurd q (by decide)), if_neg (by rintro ⟨q, _⟩; exact absurd q (by decide))]
    rfl
  rw [e]
  by_cases hf : fre S.F = none
  · rw [if_pos hf]
    have h1 := opn_full (X := S.F) h (fre_none.1 hf)
    exact ⟨h1.2.1, fun q => absurd (h1.2.1.symm.trans q) (by decide)⟩
  · rw [if_neg hf]
    have hp := fre_pos (fre_pos' hf)
    have h1 := opn_ok (X := S.F) (v := a) h hp
    refine ⟨h1.2.1, fun _ => ⟨?_, ?_⟩⟩
    · rw [h1.1]; unfold nam; rw [hp]
    · rw [h1.2.2]; unfold grw; rw [hp]
theorem pin_grw (h : 1 ≤ a ∧ a ≤ 65536) : pinE S.B a = grwE S 2 a ∧ (pinE S.B a = 0 → pinO S.B a = nam 2 S.B ∧ pinX S.B a = grw S.B a) := by
  refine ⟨?_, fun q => ⟨if_pos q, if_pos q⟩⟩
  unfold grwE pinE
  by_cases h1 : 1048576 < used S.B + a
  · rw [if_pos h1, if_pos ⟨rfl, h1⟩]
  · rw [if_neg h1, if_neg (fun q => h1 q.2), if_neg (by rintro ⟨q, _⟩; exact absurd q (by decide))]
    rfl
theorem gnt_grw (h : 1 ≤ a ∧ a ≤ 1048576) : gntE S.D a S.now = grwE S 3 a ∧ (gntE S.D a S.now = 0 → gntO S.D a S.now = nam 3 S.D ∧ gntX S.D a S.now = grw S.D (S.now + a)) := by
  refine ⟨?_, fun q => ⟨if_pos q, if_pos q⟩⟩
  have e1 : ¬ ((3 : Int) = 2 ∧ 1048576 < used S.B + a) := fun q => absurd q.1 (by decide)
  by_cases h1 : 1099511627776 - a < S.now
  · exact (if_pos h1 : gntE S.D a S.now = 17).trans ((if_neg e1).trans (if_pos ⟨rfl, h1⟩)).symm
  · exact (if_neg h1 : gntE S.D a S.now = tkE S.D).trans ((if_neg e1).trans (if_neg (fun q => h1 q.2))).symm
theorem acq_ok1 (h : 0 ≤ a ∧ a ≤ 65535) (he : opnE S.F a = 0) (hq2 : S.q.headD 1 ≠ 2) (hq : S.q.headD 1 ≠ 3) : acqE S 1 a = 0 ∧ acqO S 1 a = opnO S.F a ∧ acqS S 1 a = { S with q := S.q.tail, F := opnX S.F a } := by
  obtain ⟨h1, h2⟩ := opn_grw (S := S) h
  obtain ⟨h3, h4⟩ := h2 he
  obtain ⟨h5, h6, h7⟩ := acq_ok (S := S) (god1 h) (h1 ▸ he) hq2 hq
  exact ⟨h5, h6.trans h3.symm, h7.trans (by rw [h4]; rfl)⟩
theorem acq_ok2 (h : 1 ≤ a ∧ a ≤ 65536) (he : pinE S.B a = 0) (hq2 : S.q.headD 1 ≠ 2) (hq : S.q.headD 1 ≠ 3) : acqE S 2 a = 0 ∧ acqO S 2 a = pinO S.B a ∧ acqS S 2 a = { S with q := S.q.tail, B := pinX S.B a } := by
  obtain ⟨h1, h2⟩ := pin_grw (S := S) h
  obtain ⟨h3, h4⟩ := h2 he
  obtain ⟨h5, h6, h7⟩ := acq_ok (S := S) (god2 h) (h1 ▸ he) hq2 hq
  exact ⟨h5, h6.trans h3.symm, h7.trans (by rw [h4]; rfl)⟩
theorem acq_ok3 (h : 1 ≤ a ∧ a ≤ 1048576) (he : gntE S.D a S.now = 0) (hq2 : S.q.headD 1 ≠ 2) (hq : S.q.headD 1 ≠ 3) : acqE S 3 a = 0 ∧ acqO S 3 a = gntO S.D a S.now ∧ acqS S 3 a = { S with q := S.q.tail, D := gntX S.D a S.now } := by
  obtain ⟨h1, h2⟩ := gnt_grw (S := S) h
  obtain ⟨h3, h4⟩ := h2 he
  obtain ⟨h5, h6, h7⟩ := acq_ok (S := S) (god3 h) (h1 ▸ he) hq2 hq
  exact ⟨h5, h6.trans h3.symm, h7.trans (by rw [h4]; rfl)⟩
/-- Releasing. -/
theorem rel_arg (h : ¬ KGood o ∨ wy < 1 ∨ 3 < wy) : relE S o wy = 2 ∧ relA S o wy = 0 ∧ relS S o wy = S := by
  have e : relE S o wy = 2 := if_pos h
  exact ⟨e, if_neg (by rw [e]; decide), if_pos (by rw [e]; decide)⟩
theorem rel_none (h : KGood o) (hw : 1 ≤ wy ∧ wy ≤ 3) (hT : ¬ Thr S o) : relE S o wy = 5 ∧ relA S o wy = 0 ∧ relS S o wy = S := by
  have e : relE S o wy = 5 := by unfold relE; rw [if_neg (by rintro (q | q); exact q h; omega), if_pos hT]
  exact ⟨e, if_neg (by rw [e]; decide), if_pos (by rw [e]; decide)⟩
theorem rel_full (hw : 1 ≤ wy ∧ wy ≤ 3) (hT : Thr S o) (hn : 10000 ≤ S.T.length) : relE S o wy = 4 ∧ relA S o wy = 0 ∧ relS S o wy = S := by
  have e : relE S o wy = 4 := by unfold relE; rw [if_neg (by rintro (q | q); exact q hT.1; omega), if_neg (fun q => q hT), if_pos hn]
  exact ⟨e, if_neg (by rw [e]; decide), if_pos (by rw [e]; decide)⟩
theorem rel_ok (hw : 1 ≤ wy ∧ wy ≤ 3) (hT : Thr S o) (hn : S.T.length < 10000) : relE S o wy = 0 ∧ relA S o wy = S.q.headD 1 ∧ relS S o wy = if S.q.headD 1 = 1 then ({ S with q := S.q.tail, T := S.T ++ [⟨S.now, o, wy, S.q.headD 1⟩] } : Wst).put o.1 (giv (S.tab o.1) o) else { S with q := S.q.tail, T := S.T ++ [⟨S.now, o, wy, S.q.headD 1⟩] } := by
  have e : relE S o wy = 0 := by unfold relE; rw [if_neg (by rintro (q | q); exact q hT.1; omega), if_neg (fun q => q hT), if_neg (by omega)]
  exact ⟨e, if_pos e, if_neg (by rw [e]; decide)⟩
theorem rel_attP (hW : WOk S) (h : KGood o) (hw : 1 ≤ wy ∧ wy ≤ 3) : attP ⟨S.now, o, wy, S.q.headD 1⟩ := by
  have := headD_bd hW.qb
  exact ⟨hW.nl, hW.nh, kgood_iff.2 h, hw.1, hw.2, this.1, this.2⟩
theorem cls_giv (hT : Thr S (1, y, z)) : clsX S.F (1, y, z) = giv S.F (1, y, z) := by
  obtain ⟨hg, h1⟩ := hT
  have h2 : errA (As S.F) (1, y, z) = 0 := chk_ok (As S.F) (q := y.toNat) (s := (1, z)) rfl hg.2.2.2.1 hg.2.2.2.2 (thr_nat hg) h1 ⟨rfl, rfl⟩
  unfold clsX giv
  rw [if_pos h2]
end
end Go.Proofs.YtggfnbpohmhphaaGreatDoor

/- Walks, printed by my generator o12.py. -/
namespace Go.Proofs.YtggfnbpohmhphaaGreatDoor
set_option maxHeartbeats 4000000 in
theorem god_1y (a : Int) (ha : 0 ≤ a ∧ a ≤ 65535) : HT Tryz.prog 68 [iV 1, iV a] [] (fun v K => v = .bool true ∧ K = []) := by
 refine hiS Tryz.func68 Tryz.ntmps68 fun g w0 R h0 => go [.v 3 1 (oT (a ≥ 0)), .v 3 4 (oT (a ≤ 65535))] ?_
 exact en (.bool true) [] ⟨_, _, rfl, ⟨rfl, rfl⟩, h0⟩

set_option maxHeartbeats 4000000 in
theorem god_1n (a : Int) (ha : a < 0 ∨ 65535 < a) : HT Tryz.prog 68 [iV 1, iV a] [] (fun v K => v = .bool false ∧ K = []) := by
 refine hiS Tryz.func68 Tryz.ntmps68 fun g w0 R h0 => go [.s 3 1] ?_
 by_cases c10 : a ≥ 0
 ·
  refine go [.v 3 1 (oT (a ≥ 0)), .v 3 4 (oF (a ≤ 65535))] ?_
  exact en (.bool false) [] ⟨_, _, rfl, ⟨rfl, rfl⟩, h0⟩
 refine go [.v 3 1 (oF (a ≥ 0))] ?_
 exact en (.bool false) [] ⟨_, _, rfl, ⟨rfl, rfl⟩, h0⟩

set_option maxHeartbeats 4000000 in
theorem god_2y (a : Int) (ha : 1 ≤ a ∧ a ≤ 65536) : HT Tryz.prog 68 [iV 2, iV a] [] (fun v K => v = .bool true ∧ K = []) := by
 refine hiS Tryz.func68 Tryz.ntmps68 fun g w0 R h0 => go [.v 5 1 (oT (a ≥ 1)), .v 5 4 (oT (a ≤ 65536))] ?_
 exact en (.bool true) [] ⟨_, _, rfl, ⟨rfl, rfl⟩, h0⟩

set_option maxHeartbeats 4000000 in
theorem god_2n (a : Int) (ha : a < 1 ∨ 65536 < a) : HT Tryz.prog 68 [iV 2, iV a] [] (fun v K => v = .bool false ∧ K = []) := by
 refine hiS Tryz.func68 Tryz.ntmps68 fun g w0 R h0 => go [.s 5 1] ?_
 by_cases c10 : a ≥ 1
 ·
  refine go [.v 5 1 (oT (a ≥ 1)), .v 5 4 (oF (a ≤ 65536))] ?_
  exact en (.bool false) [] ⟨_, _, rfl, ⟨rfl, rfl⟩, h0⟩
 refine go [.v 5 1 (oF (a ≥ 1))] ?_
 exact en (.bool false) [] ⟨_, _, rfl, ⟨rfl, rfl⟩, h0⟩

set_option maxHeartbeats 4000000 in
theorem god_3y (a : Int) (ha : 1 ≤ a ∧ a ≤ 1048576) : HT Tryz.prog 68 [iV 3, iV a] [] (fun v K => v = .bool true ∧ K = []) := by
 refine hiS Tryz.func68 Tryz.ntmps68 fun g w0 R h0 => go [] <| cl0 Tryz.call63 (ospan_y a (by omega)) h0 fun _ h11 => go [] ?_
 exact en (.bool true) [] ⟨_, _, rfl, ⟨rfl, rfl⟩, h11⟩

set_option maxHeartbeats 4000000 in
theorem god_3n (a : Int) (ha : a < 1 ∨ 1048576 < a) : HT Tryz.prog 68 [iV 3, iV a] [] (fun v K => v = .bool false ∧ K = []) := by
 refine hiS Tryz.func68 Tryz.ntmps68 fun g w0 R h0 => go [] ?_
 by_cases c10 : 1 ≤ a
 ·
  refine cl0 Tryz.call63 (ospan_n a (by omega)) h0 fun _ h12 => go [] ?_
  exact en (.bool false) [] ⟨_, _, rfl, ⟨rfl, rfl⟩, h12⟩
 refine cl0 Tryz.call63 (ospan_n a (by omega)) h0 fun _ h14 => go [] ?_
 exact en (.bool false) [] ⟨_, _, rfl, ⟨rfl, rfl⟩, h14⟩

set_option maxHeartbeats 4000000 in
theorem god_0 (k a : Int) (hk : k < 1 ∨ 3 < k) : HT Tryz.prog 68 [iV k, iV a] [] (fun v K => v = .bool false ∧ K = []) := by
 refine hiS Tryz.func68 Tryz.ntmps68 fun g w0 R h0 => go [.v 2 0 (qeF k 1), .v 4 0 (qeF k 2), .v 6 0 (qeF k 3)] ?_
 exact en (.bool false) [] ⟨_, _, rfl, ⟨rfl, rfl⟩, h0⟩

set_option maxHeartbeats 4000000 in
theorem grown_1 (b f p d s l : Nat) (S : Wst) (hW : WOk S) (a : Int) (ha : 0 ≤ a ∧ a ≤ 65535) : HT Tryz.prog 69 [pV b, iV 1, iV a] [Cl b [Value.nilIface, .iface 84 (pV f), .iface 87 (pV p), .iface 90 (pV d), pV s, pV l, iV S.now] 79, Fd f 64 S.F, Pl p S.B, Dk d S.D, Sr 146 s S.q, Lg l S.T] (fun v K => ∃ c : Nat, v = .tuple #[.iface 84 (pV c), .agg #[iV ((opnO S.F a).1), iV ((opnO S.F a).2.1), uV ((opnO S.F a).2.2)], iV ((opnE S.F a))] ∧ K = [Cl b [Value.nilIface, .iface 84 (pV f), .iface 87 (pV p), .iface 90 (pV d), pV s, pV l, iV S.now] 79, Fd f 64 S.F, Pl p S.B, Dk d S.D, Sr 146 s S.q, Lg l S.T, Fd c 64 (opnX S.F a)]) := by
 refine hiS Tryz.func69 Tryz.ntmps69 fun g w0 R h0 => ?_
 have hWn := hW.nl; have hWm := hW.nh; have hWt := hW.tn
 refine go [] <| nP 32 [iV 0, iV 0, uV 0] h0 (fun _ _ h12 => ?_)
 refine go [.s 1 4] <| lwP (.pointer (some ⟨b, 1, none⟩)) (law_indexArr (x := (Operand.tmp 24)) (i := (Operand.tmp 22)) (b := b) (off := 0) (z := 1) (by kernel_rfl) Tryz.underlying76 1 (by kernel_rfl) 1 (by kernel_rfl) (by kernel_rfl) (by omega) (by omega) 1 (by omega) _) ?_
 have h14 := tk8 (sf7 (sf6 (sf6 (sf7 (sf7 (sf7 (sf7 (sf7 h12))))))))
 refine go [rd 1 5 1 1 1 h12] <| cP Tryz.call72 (fcopy_ht f 64 S.F) h14 ?_
 rintro v K _ (⟨b13, rfl, rfl⟩) h16
 have h18 := tk9 (sf8 (sf7 (sf8 (sf8 (sf8 (sf8 (sf8 (sf8 (sf8 (ap2 h16))))))))))
 refine go [] <| cl1 Tryz.call118 (fopen_ht b13 64 S.F a) h18 fun _ h20 => go [] <| nP 32 [iV 0, iV 0, uV 0] h20 (fun _ _ h23 => ?_)
 refine sP [(0, iV ((opnO S.F a).1)), (1, iV ((opnO S.F a).2.1)), (2, uV ((opnO S.F a).2.2))] [iV ((opnO S.F a).1), iV ((opnO S.F a).2.1), uV ((opnO S.F a).2.2)] h23 fun _ h25 => go [] <| dw (fls [0, 1, 2, 3, 4] (Tr.an 5 (Tr.fl 6 Tr.nil))) h25 fun _ h27 => go [.s 6 1] <| lw (.iface 84 (pV b13)) (fun _ => law_mkIface (t := 84) (x := (Operand.tmp 38)) (by kernel_rfl) Tryz.underlying84 rfl (pV b13) (by kernel_rfl) _) ?_
 have h28 := tk10 (sf9 (sf8 (sf8 (sf8 (sf9 (sf9 (sf9 (sf9 (sf9 (sf9 h27))))))))))
 refine go [rd 6 2 0 0 3 h27] <| sG [(0, iV ((opnO S.F a).1)), (1, iV ((opnO S.F a).2.1)), (2, uV ((opnO S.F a).2.2))] [iV ((opnO S.F a).1), iV ((opnO S.F a).2.1), uV ((opnO S.F a).2.2)] h28 fun _ h30 => ⟨kd [], ?_⟩
 refine go [] ?_
 exact en (.tuple #[.iface 84 (pV b13), .agg #[iV ((opnO S.F a).1), iV ((opnO S.F a).2.1), uV ((opnO S.F a).2.2)], iV ((opnE S.F a))]) [rd 0 0 0 0 3 h30] ⟨_, _, rfl, ⟨b13, rfl, rfl⟩, (tk8 (sf7 (sf7 (sf7 (sf7 (sf7 (sf7 (sf7 (sf9 (tk10 (sf9 (sf8 (sf9 (sf9 (sf9 (sf9 (sf3 (sf2 (sf2 (sf9 h30))))))))))))))))))))⟩

set_option maxHeartbeats 4000000 in
theorem grown_2 (b f p d s l : Nat) (S : Wst) (hW : WOk S) (a : Int) (ha : 1 ≤ a ∧ a ≤ 65536) : HT Tryz.prog 69 [pV b, iV 2, iV a] [Cl b [Value.nilIface, .iface 84 (pV f), .iface 87 (pV p), .iface 90 (pV d), pV s, pV l, iV S.now] 79, Fd f 64 S.F, Pl p S.B, Dk d S.D, Sr 146 s S.q, Lg l S.T] (fun v K => ∃ c : Nat, v = .tuple #[.iface 87 (pV c), .agg #[iV ((pinO S.B a).1), iV ((pinO S.B a).2.1), uV ((pinO S.B a).2.2)], iV ((pinE S.B a))] ∧ K = [Cl b [Value.nilIface, .iface 84 (pV f), .iface 87 (pV p), .iface 90 (pV d), pV s, pV l, iV S.now] 79, Fd f 64 S.F, Pl p S.B, Dk d S.D, Sr 146 s S.q, Lg l S.T, Pl c (pinX S.B a)]) := by
 refine hiS Tryz.func69 Tryz.ntmps69 fun g w0 R h0 => ?_
 have hWn := hW.nl; have hWm := hW.nh; have hWt := hW.tn
 refine go [] <| nP 32 [iV 0, iV 0, uV 0] h0 (fun _ _ h12 => ?_)
 refine go [.s 1 4] <| lwP (.pointer (some ⟨b, 2, none⟩)) (law_indexArr (x := (Operand.tmp 24)) (i := (Operand.tmp 22)) (b := b) (off := 0) (z := 2) (by kernel_rfl) Tryz.underlying76 1 (by kernel_rfl) 2 (by kernel_rfl) (by kernel_rfl) (by omega) (by omega) 2 (by omega) _) ?_
 have h14 := tk8 (sf7 (sf6 (sf6 (sf6 (sf7 (sf7 (sf7 (sf7 h12))))))))
 refine go [rd 1 5 1 2 1 h12] <| cP Tryz.call73 (pcopy_ht p S.B) h14 ?_
 rintro v K _ (⟨b13, rfl, rfl⟩) h16
 have h18 := tk9 (sf8 (sf7 (sf8 (sf8 (sf8 (sf8 (sf8 (sf8 (sf8 (ap2 h16))))))))))
 refine go [] <| cl1 Tryz.call119 (pin_ht b13 S.B a (by omega)) h18 fun _ h20 => go [] <| nP 32 [iV 0, iV 0, uV 0] h20 (fun _ _ h23 => ?_)
 refine sP [(0, iV ((pinO S.B a).1)), (1, iV ((pinO S.B a).2.1)), (2, uV ((pinO S.B a).2.2))] [iV ((pinO S.B a).1), iV ((pinO S.B a).2.1), uV ((pinO S.B a).2.2)] h23 fun _ h25 => go [] <| dw (fls [0, 1, 2, 3, 4] (Tr.an 5 (Tr.fl 6 Tr.nil))) h25 fun _ h27 => go [.s 11 1] <| lw (.iface 87 (pV b13)) (fun _ => law_mkIface (t := 87) (x := (Operand.tmp 53)) (by kernel_rfl) Tryz.underlying87 rfl (pV b13) (by kernel_rfl) _) ?_
 have h28 := tk10 (sf9 (sf8 (sf8 (sf8 (sf9 (sf9 (sf9 (sf9 (sf9 (sf9 h27))))))))))
 refine go [rd 11 2 0 0 3 h27] <| sG [(0, iV ((pinO S.B a).1)), (1, iV ((pinO S.B a).2.1)), (2, uV ((pinO S.B a).2.2))] [iV ((pinO S.B a).1), iV ((pinO S.B a).2.1), uV ((pinO S.B a).2.2)] h28 fun _ h30 => ⟨kd [], ?_⟩
 refine go [] ?_
 exact en (.tuple #[.iface 87 (pV b13), .agg #[iV ((pinO S.B a).1), iV ((pinO S.B a).2.1), uV ((pinO S.B a).2.2)], iV ((pinE S.B a))]) [rd 0 0 0 0 3 h30] ⟨_, _, rfl, ⟨b13, rfl, rfl⟩, (tk8 (sf7 (sf7 (sf7 (sf7 (sf7 (sf7 (sf7 (sf9 (tk10 (sf9 (sf9 (sf7 (sf9 (sf9 (sf9 (sf3 (sf2 (sf2 (sf9 h30))))))))))))))))))))⟩

set_option maxHeartbeats 4000000 in
theorem grown_3 (b f p d s l : Nat) (S : Wst) (hW : WOk S) (a : Int) (ha : 1 ≤ a ∧ a ≤ 1048576) : HT Tryz.prog 69 [pV b, iV 3, iV a] [Cl b [Value.nilIface, .iface 84 (pV f), .iface 87 (pV p), .iface 90 (pV d), pV s, pV l, iV S.now] 79, Fd f 64 S.F, Pl p S.B, Dk d S.D, Sr 146 s S.q, Lg l S.T] (fun v K => ∃ c : Nat, v = .tuple #[.iface 90 (pV c), .agg #[iV ((gntO S.D a S.now).1), iV ((gntO S.D a S.now).2.1), uV ((gntO S.D a S.now).2.2)], iV ((gntE S.D a S.now))] ∧ K = [Cl b [Value.nilIface, .iface 84 (pV f), .iface 87 (pV p), .iface 90 (pV d), pV s, pV l, iV S.now] 79, Fd f 64 S.F, Pl p S.B, Dk d S.D, Sr 146 s S.q, Lg l S.T, Dk c (gntX S.D a S.now)]) := by
 refine hiS Tryz.func69 Tryz.ntmps69 fun g w0 R h0 => ?_
 have hWn := hW.nl; have hWm := hW.nh; have hWt := hW.tn
 refine go [] <| nP 32 [iV 0, iV 0, uV 0] h0 (fun _ _ h12 => ?_)
 refine go [.s 1 4] <| lwP (.pointer (some ⟨b, 3, none⟩)) (law_indexArr (x := (Operand.tmp 24)) (i := (Operand.tmp 22)) (b := b) (off := 0) (z := 3) (by kernel_rfl) Tryz.underlying76 1 (by kernel_rfl) 3 (by kernel_rfl) (by kernel_rfl) (by omega) (by omega) 3 (by omega) _) ?_
 have h14 := tk8 (sf7 (sf6 (sf6 (sf6 (sf6 (sf7 (sf7 (sf7 h12))))))))
 refine go [rd 1 5 1 3 1 h12] <| cP Tryz.call74 (lcopy_ht d S.D) h14 ?_
 rintro v K _ (⟨b13, rfl, rfl⟩) h16
 have h17 := ap2 h16
 have h18 := tk9 (sf8 (sf7 (sf8 (sf8 (sf8 (sf8 (sf8 (sf8 (sf8 h17)))))))))
 refine go [rd 15 5 3 6 1 h17] <| cl1 Tryz.call120 (grant_ht b13 S.D a S.now (by omega) (by omega)) h18 fun _ h20 => go [] <| nP 32 [iV 0, iV 0, uV 0] h20 (fun _ _ h23 => ?_)
 refine sP [(0, iV ((gntO S.D a S.now).1)), (1, iV ((gntO S.D a S.now).2.1)), (2, uV ((gntO S.D a S.now).2.2))] [iV ((gntO S.D a S.now).1), iV ((gntO S.D a S.now).2.1), uV ((gntO S.D a S.now).2.2)] h23 fun _ h25 => go [] <| dw (fls [0, 1, 2, 3, 4] (Tr.an 5 (Tr.fl 6 Tr.nil))) h25 fun _ h27 => go [.s 16 1] <| lw (.iface 90 (pV b13)) (fun _ => law_mkIface (t := 90) (x := (Operand.tmp 72)) (by kernel_rfl) Tryz.underlying90 rfl (pV b13) (by kernel_rfl) _) ?_
 have h28 := tk10 (sf9 (sf8 (sf8 (sf8 (sf9 (sf9 (sf9 (sf9 (sf9 (sf9 h27))))))))))
 refine go [rd 16 2 0 0 3 h27] <| sG [(0, iV ((gntO S.D a S.now).1)), (1, iV ((gntO S.D a S.now).2.1)), (2, uV ((gntO S.D a S.now).2.2))] [iV ((gntO S.D a S.now).1), iV ((gntO S.D a S.now).2.1), uV ((gntO S.D a S.now).2.2)] h28 fun _ h30 => ⟨kd [], ?_⟩
 refine go [] ?_
 exact en (.tuple #[.iface 90 (pV b13), .agg #[iV ((gntO S.D a S.now).1), iV ((gntO S.D a S.now).2.1), uV ((gntO S.D a S.now).2.2)], iV ((gntE S.D a S.now))]) [rd 0 0 0 0 3 h30] ⟨_, _, rfl, ⟨b13, rfl, rfl⟩, (tk8 (sf7 (sf7 (sf7 (sf7 (sf7 (sf7 (sf7 (sf9 (tk10 (sf9 (sf9 (sf9 (sf6 (sf9 (sf9 (sf3 (sf2 (sf2 (sf9 h30))))))))))))))))))))⟩

set_option maxHeartbeats 4000000 in
theorem wacq_1 (b : Nat) (S : Wst) (a : Int) (ha : 0 ≤ a ∧ a ≤ 65535) : HT Tryz.prog 28 [pV b, iV 1, iV a] [Wd b S] (fun v K => v = .tuple #[.agg #[iV (acqO S 1 a).1, iV (acqO S 1 a).2.1, uV (acqO S 1 a).2.2], iV (acqE S 1 a)] ∧ K = [Wd b (acqS S 1 a)]) := by
 refine hiS Tryz.func28 Tryz.ntmps28 fun g w0 R h0 => ?_
 obtain ⟨f10, p11, d12, s13, l14, hW15, h16⟩ := wd_open h0
 have hW15n := hW15.nl; have hW15m := hW15.nh; have hW15t := hW15.tn
 refine go [] <| nP 32 [iV 0, iV 0, uV 0] h16 (fun r17 _ h19 => ?_)
 have h20 := tk8 (sf7 (sf6 (sf7 (sf7 (sf7 (sf7 (sf7 (sf7 h19))))))))
 refine go [] <| cl1 Tryz.call56 (wvalid_cl b l14 Value.nilIface (.iface 84 (pV f10)) (.iface 87 (pV p11)) (.iface 90 (pV d12)) (pV s13) (iV S.now)) h20 fun _ h22 => go [] <| cl0 Tryz.call68 (god_1y a (by omega)) h22 fun _ h24 => ?_
 have h26 := tk8 (sf7 (sf7 (sf7 (sf7 (sf7 (sf7 (sf2 (sf7 h24))))))))
 refine go [] <| cP Tryz.call69 (grown_1 b f10 p11 d12 s13 l14 S hW15 a (by omega)) h26 ?_
 rintro v K _ (⟨c25, rfl, rfl⟩) h28
 have h29 := ap7 h28
 refine go [] <| nP 32 [iV 0, iV 0, uV 0] h29 (fun r30 _ h32 => ?_)
 refine go [] <| sP [(0, iV ((opnO S.F a).1)), (1, iV ((opnO S.F a).2.1)), (2, uV ((opnO S.F a).2.2))] [iV ((opnO S.F a).1), iV ((opnO S.F a).2.1), uV ((opnO S.F a).2.2)] h32 fun _ h34 => go [.s 6 1] ?_
 by_cases c35 : (opnE S.F a) = 0
 ·
  have h36 := tk10 (sf9 (sf8 (sf8 (sf8 (sf8 (sf8 (sf9 (sf9 (sf9 (sf9 h34))))))))))
  refine go [.v 6 1 (qnF ((opnE S.F a)) 0), rd 8 3 1 4 1 h34] <| cl1 Tryz.call65 (next_ht s13 S.q) h36 fun _ h38 => go [.s 9 0] ?_
  by_cases c39 : (S.q.headD 1) = 2
  ·
   have h40 := tk10 (sf9 (sf8 (sf8 (sf8 (sf8 (sf8 (sf8 (sf8 (sf8 (sf9 h38))))))))))
   refine go [.v 9 0 (qeT ((S.q.headD 1)) 2)] <| sP [(0, iV 0), (1, iV 0), (2, uV 0)] [iV 0, iV 0, uV 0] h40 fun w41 h42 => go [] ?_
   have hp_ := acq_later (S := S) (god1 ha) ((opn_grw (S := S) ha).1.symm.trans (by omega)) (by omega)
   have h43 := tk10 (sf9 (sf9 (sf9 (sf9 (sf5 (sf9 (sf3 (sf4 (sf9 (sf9 h42))))))))))
   have h44 : sat g w41 [Wd b ({ S with q := S.q.tail } : Wst), Cl r17 [iV 0, iV 0, uV 0] 32, Cl r30 [iV ((opnO S.F a).1), iV ((opnO S.F a).2.1), uV ((opnO S.F a).2.2)] 32, Fd c25 64 (opnX S.F a), R] := wd_close (hp_.2.2 ▸ wok_acq hW15 1 a) h43
   exact en (.tuple #[.agg #[iV 0, iV 0, uV 0], iV 15]) [rd 0 0 0 0 3 h42] ⟨_, [Wd b ({ S with q := S.q.tail } : Wst)], rfl, ⟨by rw [hp_.1, hp_.2.1], by rw [hp_.2.2]⟩, (tk2 (sf1 (sf4 h44)))⟩
  refine go [.v 9 0 (qeF ((S.q.headD 1)) 2), .s 11 0] ?_
  by_cases c46 : (S.q.headD 1) = 3
  ·
   have h47 := tk10 (sf9 (sf8 (sf8 (sf8 (sf8 (sf8 (sf8 (sf8 (sf8 (sf9 h38))))))))))
   refine go [.v 11 0 (qeT ((S.q.headD 1)) 3)] <| sP [(0, iV 0), (1, iV 0), (2, uV 0)] [iV 0, iV 0, uV 0] h47 fun w48 h49 => go [] ?_
   have hp_ := acq_fail (S := S) (god1 ha) ((opn_grw (S := S) ha).1.symm.trans (by omega)) (by omega) (by omega)
   have h50 := tk10 (sf9 (sf9 (sf9 (sf9 (sf5 (sf9 (sf3 (sf4 (sf9 (sf9 h49))))))))))
   have h51 : sat g w48 [Wd b ({ S with q := S.q.tail } : Wst), Cl r17 [iV 0, iV 0, uV 0] 32, Cl r30 [iV ((opnO S.F a).1), iV ((opnO S.F a).2.1), uV ((opnO S.F a).2.2)] 32, Fd c25 64 (opnX S.F a), R] := wd_close (hp_.2.2 ▸ wok_acq hW15 1 a) h50
   exact en (.tuple #[.agg #[iV 0, iV 0, uV 0], iV 14]) [rd 0 0 0 0 3 h49] ⟨_, [Wd b ({ S with q := S.q.tail } : Wst)], rfl, ⟨by rw [hp_.1, hp_.2.1], by rw [hp_.2.2]⟩, (tk2 (sf1 (sf4 h51)))⟩
  refine go [.v 11 0 (qeF ((S.q.headD 1)) 3), .s 13 5] <| lwP (.pointer (some ⟨b, 1, none⟩)) (law_indexArr (x := (Operand.tmp 49)) (i := (Operand.tmp 46)) (b := b) (off := 0) (z := 1) (by kernel_rfl) Tryz.underlying76 1 (by kernel_rfl) 1 (by kernel_rfl) (by kernel_rfl) (by omega) (by omega) 1 (by omega) _) <| sP [(1, .iface 84 (pV c25))] [Value.nilIface, .iface 84 (pV c25), .iface 87 (pV p11), .iface 90 (pV d12), pV s13, pV l14, iV S.now] (tk10 (sf9 (sf8 (sf8 (sf9 (sf9 (sf9 (sf9 (sf9 (sf9 (sf9 h38))))))))))) fun _ h55 => ?_
  have h56 := tk10 (sf9 (sf8 (sf8 (sf8 (sf8 (sf8 (sf8 (sf8 (sf8 (sf9 h55))))))))))
  refine go [rd 14 0 2 0 3 h55] <| sP [(0, iV ((opnO S.F a).1)), (1, iV ((opnO S.F a).2.1)), (2, uV ((opnO S.F a).2.2))] [iV ((opnO S.F a).1), iV ((opnO S.F a).2.1), uV ((opnO S.F a).2.2)] h56 fun w57 h58 => go [] ?_
  have hp_ := acq_ok1 (S := S) ha (by omega) (by omega) (by omega)
  have h59 := tk10 (sf9 (sf9 (sf8 (sf8 (sf6 (sf8 (sf3 (sf5 (sf5 (sf9 h58))))))))))
  have h60 : sat g w57 [Wd b ({ S with q := S.q.tail, F := opnX S.F a } : Wst), Cl r17 [iV ((opnO S.F a).1), iV ((opnO S.F a).2.1), uV ((opnO S.F a).2.2)] 32, Cl r30 [iV ((opnO S.F a).1), iV ((opnO S.F a).2.1), uV ((opnO S.F a).2.2)] 32, Fd f10 64 S.F, R] := wd_close (hp_.2.2 ▸ wok_acq hW15 1 a) h59
  exact en (.tuple #[.agg #[iV ((opnO S.F a).1), iV ((opnO S.F a).2.1), uV ((opnO S.F a).2.2)], iV 0]) [rd 0 0 0 0 3 h58] ⟨_, [Wd b ({ S with q := S.q.tail, F := opnX S.F a } : Wst)], rfl, ⟨by rw [hp_.1, hp_.2.1], by rw [hp_.2.2]⟩, (tk2 (sf1 (sf4 h60)))⟩
 have h62 := tk10 (sf9 (sf8 (sf8 (sf8 (sf8 (sf8 (sf8 (sf8 (sf8 (sf9 h34))))))))))
 refine go [.v 6 1 (qnT ((opnE S.F a)) 0)] <| sP [(0, iV 0), (1, iV 0), (2, uV 0)] [iV 0, iV 0, uV 0] h62 fun w63 h64 => go [] ?_
 have hp_ := acq_err (S := S) (god1 ha) (opn_grw (S := S) ha).1.symm (by omega)
 have h66 : sat g w63 [Wd b S, Cl r17 [iV 0, iV 0, uV 0] 32, Cl r30 [iV ((opnO S.F a).1), iV ((opnO S.F a).2.1), uV ((opnO S.F a).2.2)] 32, Fd c25 64 (opnX S.F a), R] := wd_close hW15 (tk10 (sf9 (sf9 (sf9 (sf9 (sf9 (sf9 (sf3 (sf3 (sf9 (sf9 h64)))))))))))
 exact en (.tuple #[.agg #[iV 0, iV 0, uV 0], iV ((opnE S.F a))]) [rd 0 0 0 0 3 h64] ⟨_, [Wd b S], rfl, ⟨by rw [hp_.1, hp_.2.1], by rw [hp_.2.2]⟩, (tk2 (sf1 (sf4 h66)))⟩

set_option maxHeartbeats 4000000 in
theorem wacq_1n (b : Nat) (S : Wst) (a : Int) (ha : a < 0 ∨ 65535 < a) (hng : ¬ godP 1 a) : HT Tryz.prog 28 [pV b, iV 1, iV a] [Wd b S] (fun v K => v = .tuple #[.agg #[iV (acqO S 1 a).1, iV (acqO S 1 a).2.1, uV (acqO S 1 a).2.2], iV (acqE S 1 a)] ∧ K = [Wd b (acqS S 1 a)]) := by
 refine hiS Tryz.func28 Tryz.ntmps28 fun g w0 R h0 => ?_
 obtain ⟨f10, p11, d12, s13, l14, hW15, h16⟩ := wd_open h0
 have hW15n := hW15.nl; have hW15m := hW15.nh; have hW15t := hW15.tn
 refine go [] <| nP 32 [iV 0, iV 0, uV 0] h16 (fun r17 _ h19 => ?_)
 have h20 := tk8 (sf7 (sf6 (sf7 (sf7 (sf7 (sf7 (sf7 (sf7 h19))))))))
 refine go [] <| cl1 Tryz.call56 (wvalid_cl b l14 Value.nilIface (.iface 84 (pV f10)) (.iface 87 (pV p11)) (.iface 90 (pV d12)) (pV s13) (iV S.now)) h20 fun _ h22 => go [] ?_
 by_cases c23 : 0 ≤ a
 ·
  refine cl0 Tryz.call68 (god_1n a (by omega)) h22 fun _ h25 => ?_
  have h26 := tk8 (sf7 (sf6 (sf7 (sf7 (sf7 (sf7 (sf7 (sf7 h25))))))))
  refine go [] <| sP [(0, iV 0), (1, iV 0), (2, uV 0)] [iV 0, iV 0, uV 0] h26 fun w27 h28 => go [] ?_
  have hp_ := acq_arg (S := S) (k := 1) (a := a) hng
  have h30 : sat g w27 [Wd b S, Cl r17 [iV 0, iV 0, uV 0] 32, R] := wd_close hW15 (tk8 (sf7 (sf7 (sf7 (sf7 (sf7 (sf7 (sf1 (sf7 h28)))))))))
  exact en (.tuple #[.agg #[iV 0, iV 0, uV 0], iV 2]) [rd 0 0 0 0 3 h28] ⟨_, [Wd b S], rfl, ⟨by rw [hp_.1, hp_.2.1], by rw [hp_.2.2]⟩, (tk2 (sf1 (sf2 h30)))⟩
 refine cl0 Tryz.call68 (god_1n a (by omega)) h22 fun _ h33 => ?_
 have h34 := tk8 (sf7 (sf6 (sf7 (sf7 (sf7 (sf7 (sf7 (sf7 h33))))))))
 refine go [] <| sP [(0, iV 0), (1, iV 0), (2, uV 0)] [iV 0, iV 0, uV 0] h34 fun w35 h36 => go [] ?_
 have hp_ := acq_arg (S := S) (k := 1) (a := a) hng
 have h38 : sat g w35 [Wd b S, Cl r17 [iV 0, iV 0, uV 0] 32, R] := wd_close hW15 (tk8 (sf7 (sf7 (sf7 (sf7 (sf7 (sf7 (sf1 (sf7 h36)))))))))
 exact en (.tuple #[.agg #[iV 0, iV 0, uV 0], iV 2]) [rd 0 0 0 0 3 h36] ⟨_, [Wd b S], rfl, ⟨by rw [hp_.1, hp_.2.1], by rw [hp_.2.2]⟩, (tk2 (sf1 (sf2 h38)))⟩

set_option maxHeartbeats 4000000 in
theorem wacq_2 (b : Nat) (S : Wst) (a : Int) (ha : 1 ≤ a ∧ a ≤ 65536) : HT Tryz.prog 28 [pV b, iV 2, iV a] [Wd b S] (fun v K => v = .tuple #[.agg #[iV (acqO S 2 a).1, iV (acqO S 2 a).2.1, uV (acqO S 2 a).2.2], iV (acqE S 2 a)] ∧ K = [Wd b (acqS S 2 a)]) := by
 refine hiS Tryz.func28 Tryz.ntmps28 fun g w0 R h0 => ?_
 obtain ⟨f10, p11, d12, s13, l14, hW15, h16⟩ := wd_open h0
 have hW15n := hW15.nl; have hW15m := hW15.nh; have hW15t := hW15.tn
 refine go [] <| nP 32 [iV 0, iV 0, uV 0] h16 (fun r17 _ h19 => ?_)
 have h20 := tk8 (sf7 (sf6 (sf7 (sf7 (sf7 (sf7 (sf7 (sf7 h19))))))))
 refine go [] <| cl1 Tryz.call56 (wvalid_cl b l14 Value.nilIface (.iface 84 (pV f10)) (.iface 87 (pV p11)) (.iface 90 (pV d12)) (pV s13) (iV S.now)) h20 fun _ h22 => go [] <| cl0 Tryz.call68 (god_2y a (by omega)) h22 fun _ h24 => ?_
 have h26 := tk8 (sf7 (sf7 (sf7 (sf7 (sf7 (sf7 (sf2 (sf7 h24))))))))
 refine go [] <| cP Tryz.call69 (grown_2 b f10 p11 d12 s13 l14 S hW15 a (by omega)) h26 ?_
 rintro v K _ (⟨c25, rfl, rfl⟩) h28
 have h29 := ap7 h28
 refine go [] <| nP 32 [iV 0, iV 0, uV 0] h29 (fun r30 _ h32 => ?_)
 refine go [] <| sP [(0, iV ((pinO S.B a).1)), (1, iV ((pinO S.B a).2.1)), (2, uV ((pinO S.B a).2.2))] [iV ((pinO S.B a).1), iV ((pinO S.B a).2.1), uV ((pinO S.B a).2.2)] h32 fun _ h34 => go [.s 6 1] ?_
 by_cases c35 : (pinE S.B a) = 0
 ·
  have h36 := tk10 (sf9 (sf8 (sf8 (sf8 (sf8 (sf8 (sf9 (sf9 (sf9 (sf9 h34))))))))))
  refine go [.v 6 1 (qnF ((pinE S.B a)) 0), rd 8 3 1 4 1 h34] <| cl1 Tryz.call65 (next_ht s13 S.q) h36 fun _ h38 => go [.s 9 0] ?_
  by_cases c39 : (S.q.headD 1) = 2
  ·
   have h40 := tk10 (sf9 (sf8 (sf8 (sf8 (sf8 (sf8 (sf8 (sf8 (sf8 (sf9 h38))))))))))
   refine go [.v 9 0 (qeT ((S.q.headD 1)) 2)] <| sP [(0, iV 0), (1, iV 0), (2, uV 0)] [iV 0, iV 0, uV 0] h40 fun w41 h42 => go [] ?_
   have hp_ := acq_later (S := S) (god2 ha) ((pin_grw (S := S) ha).1.symm.trans (by omega)) (by omega)
   have h43 := tk10 (sf9 (sf9 (sf9 (sf9 (sf5 (sf9 (sf3 (sf4 (sf9 (sf9 h42))))))))))
   have h44 : sat g w41 [Wd b ({ S with q := S.q.tail } : Wst), Cl r17 [iV 0, iV 0, uV 0] 32, Cl r30 [iV ((pinO S.B a).1), iV ((pinO S.B a).2.1), uV ((pinO S.B a).2.2)] 32, Pl c25 (pinX S.B a), R] := wd_close (hp_.2.2 ▸ wok_acq hW15 2 a) h43
   exact en (.tuple #[.agg #[iV 0, iV 0, uV 0], iV 15]) [rd 0 0 0 0 3 h42] ⟨_, [Wd b ({ S with q := S.q.tail } : Wst)], rfl, ⟨by rw [hp_.1, hp_.2.1], by rw [hp_.2.2]⟩, (tk2 (sf1 (sf4 h44)))⟩
  refine go [.v 9 0 (qeF ((S.q.headD 1)) 2), .s 11 0] ?_
  by_cases c46 : (S.q.headD 1) = 3
  ·
   have h47 := tk10 (sf9 (sf8 (sf8 (sf8 (sf8 (sf8 (sf8 (sf8 (sf8 (sf9 h38))))))))))
   refine go [.v 11 0 (qeT ((S.q.headD 1)) 3)] <| sP [(0, iV 0), (1, iV 0), (2, uV 0)] [iV 0, iV 0, uV 0] h47 fun w48 h49 => go [] ?_
   have hp_ := acq_fail (S := S) (god2 ha) ((pin_grw (S := S) ha).1.symm.trans (by omega)) (by omega) (by omega)
   have h50 := tk10 (sf9 (sf9 (sf9 (sf9 (sf5 (sf9 (sf3 (sf4 (sf9 (sf9 h49))))))))))
   have h51 : sat g w48 [Wd b ({ S with q := S.q.tail } : Wst), Cl r17 [iV 0, iV 0, uV 0] 32, Cl r30 [iV ((pinO S.B a).1), iV ((pinO S.B a).2.1), uV ((pinO S.B a).2.2)] 32, Pl c25 (pinX S.B a), R] := wd_close (hp_.2.2 ▸ wok_acq hW15 2 a) h50
   exact en (.tuple #[.agg #[iV 0, iV 0, uV 0], iV 14]) [rd 0 0 0 0 3 h49] ⟨_, [Wd b ({ S with q := S.q.tail } : Wst)], rfl, ⟨by rw [hp_.1, hp_.2.1], by rw [hp_.2.2]⟩, (tk2 (sf1 (sf4 h51)))⟩
  refine go [.v 11 0 (qeF ((S.q.headD 1)) 3), .s 13 5] <| lwP (.pointer (some ⟨b, 2, none⟩)) (law_indexArr (x := (Operand.tmp 49)) (i := (Operand.tmp 46)) (b := b) (off := 0) (z := 2) (by kernel_rfl) Tryz.underlying76 1 (by kernel_rfl) 2 (by kernel_rfl) (by kernel_rfl) (by omega) (by omega) 2 (by omega) _) <| sP [(2, .iface 87 (pV c25))] [Value.nilIface, .iface 84 (pV f10), .iface 87 (pV c25), .iface 90 (pV d12), pV s13, pV l14, iV S.now] (tk10 (sf9 (sf8 (sf8 (sf9 (sf9 (sf9 (sf9 (sf9 (sf9 (sf9 h38))))))))))) fun _ h55 => ?_
  have h56 := tk10 (sf9 (sf8 (sf8 (sf8 (sf8 (sf8 (sf8 (sf8 (sf8 (sf9 h55))))))))))
  refine go [rd 14 0 2 0 3 h55] <| sP [(0, iV ((pinO S.B a).1)), (1, iV ((pinO S.B a).2.1)), (2, uV ((pinO S.B a).2.2))] [iV ((pinO S.B a).1), iV ((pinO S.B a).2.1), uV ((pinO S.B a).2.2)] h56 fun w57 h58 => go [] ?_
  have hp_ := acq_ok2 (S := S) ha (by omega) (by omega) (by omega)
  have h59 := tk10 (sf9 (sf9 (sf9 (sf8 (sf6 (sf8 (sf3 (sf5 (sf6 (sf9 h58))))))))))
  have h60 : sat g w57 [Wd b ({ S with q := S.q.tail, B := pinX S.B a } : Wst), Cl r17 [iV ((pinO S.B a).1), iV ((pinO S.B a).2.1), uV ((pinO S.B a).2.2)] 32, Cl r30 [iV ((pinO S.B a).1), iV ((pinO S.B a).2.1), uV ((pinO S.B a).2.2)] 32, Pl p11 S.B, R] := wd_close (hp_.2.2 ▸ wok_acq hW15 2 a) h59
  exact en (.tuple #[.agg #[iV ((pinO S.B a).1), iV ((pinO S.B a).2.1), uV ((pinO S.B a).2.2)], iV 0]) [rd 0 0 0 0 3 h58] ⟨_, [Wd b ({ S with q := S.q.tail, B := pinX S.B a } : Wst)], rfl, ⟨by rw [hp_.1, hp_.2.1], by rw [hp_.2.2]⟩, (tk2 (sf1 (sf4 h60)))⟩
 have h62 := tk10 (sf9 (sf8 (sf8 (sf8 (sf8 (sf8 (sf8 (sf8 (sf8 (sf9 h34))))))))))
 refine go [.v 6 1 (qnT ((pinE S.B a)) 0)] <| sP [(0, iV 0), (1, iV 0), (2, uV 0)] [iV 0, iV 0, uV 0] h62 fun w63 h64 => go [] ?_
 have hp_ := acq_err (S := S) (god2 ha) (pin_grw (S := S) ha).1.symm (by omega)
 have h66 : sat g w63 [Wd b S, Cl r17 [iV 0, iV 0, uV 0] 32, Cl r30 [iV ((pinO S.B a).1), iV ((pinO S.B a).2.1), uV ((pinO S.B a).2.2)] 32, Pl c25 (pinX S.B a), R] := wd_close hW15 (tk10 (sf9 (sf9 (sf9 (sf9 (sf9 (sf9 (sf3 (sf3 (sf9 (sf9 h64)))))))))))
 exact en (.tuple #[.agg #[iV 0, iV 0, uV 0], iV ((pinE S.B a))]) [rd 0 0 0 0 3 h64] ⟨_, [Wd b S], rfl, ⟨by rw [hp_.1, hp_.2.1], by rw [hp_.2.2]⟩, (tk2 (sf1 (sf4 h66)))⟩

set_option maxHeartbeats 4000000 in
theorem wacq_2n (b : Nat) (S : Wst) (a : Int) (ha : a < 1 ∨ 65536 < a) (hng : ¬ godP 2 a) : HT Tryz.prog 28 [pV b, iV 2, iV a] [Wd b S] (fun v K => v = .tuple #[.agg #[iV (acqO S 2 a).1, iV (acqO S 2 a).2.1, uV (acqO S 2 a).2.2], iV (acqE S 2 a)] ∧ K = [Wd b (acqS S 2 a)]) := by
 refine hiS Tryz.func28 Tryz.ntmps28 fun g w0 R h0 => ?_
 obtain ⟨f10, p11, d12, s13, l14, hW15, h16⟩ := wd_open h0
 have hW15n := hW15.nl; have hW15m := hW15.nh; have hW15t := hW15.tn
 refine go [] <| nP 32 [iV 0, iV 0, uV 0] h16 (fun r17 _ h19 => ?_)
 have h20 := tk8 (sf7 (sf6 (sf7 (sf7 (sf7 (sf7 (sf7 (sf7 h19))))))))
 refine go [] <| cl1 Tryz.call56 (wvalid_cl b l14 Value.nilIface (.iface 84 (pV f10)) (.iface 87 (pV p11)) (.iface 90 (pV d12)) (pV s13) (iV S.now)) h20 fun _ h22 => go [] ?_
 by_cases c23 : 1 ≤ a
 ·
  refine cl0 Tryz.call68 (god_2n a (by omega)) h22 fun _ h25 => ?_
  have h26 := tk8 (sf7 (sf6 (sf7 (sf7 (sf7 (sf7 (sf7 (sf7 h25))))))))
  refine go [] <| sP [(0, iV 0), (1, iV 0), (2, uV 0)] [iV 0, iV 0, uV 0] h26 fun w27 h28 => go [] ?_
  have hp_ := acq_arg (S := S) (k := 2) (a := a) hng
  have h30 : sat g w27 [Wd b S, Cl r17 [iV 0, iV 0, uV 0] 32, R] := wd_close hW15 (tk8 (sf7 (sf7 (sf7 (sf7 (sf7 (sf7 (sf1 (sf7 h28)))))))))
  exact en (.tuple #[.agg #[iV 0, iV 0, uV 0], iV 2]) [rd 0 0 0 0 3 h28] ⟨_, [Wd b S], rfl, ⟨by rw [hp_.1, hp_.2.1], by rw [hp_.2.2]⟩, (tk2 (sf1 (sf2 h30)))⟩
 refine cl0 Tryz.call68 (god_2n a (by omega)) h22 fun _ h33 => ?_
 have h34 := tk8 (sf7 (sf6 (sf7 (sf7 (sf7 (sf7 (sf7 (sf7 h33))))))))
 refine go [] <| sP [(0, iV 0), (1, iV 0), (2, uV 0)] [iV 0, iV 0, uV 0] h34 fun w35 h36 => go [] ?_
 have hp_ := acq_arg (S := S) (k := 2) (a := a) hng
 have h38 : sat g w35 [Wd b S, Cl r17 [iV 0, iV 0, uV 0] 32, R] := wd_close hW15 (tk8 (sf7 (sf7 (sf7 (sf7 (sf7 (sf7 (sf1 (sf7 h36)))))))))
 exact en (.tuple #[.agg #[iV 0, iV 0, uV 0], iV 2]) [rd 0 0 0 0 3 h36] ⟨_, [Wd b S], rfl, ⟨by rw [hp_.1, hp_.2.1], by rw [hp_.2.2]⟩, (tk2 (sf1 (sf2 h38)))⟩

set_option maxHeartbeats 4000000 in
theorem wacq_3 (b : Nat) (S : Wst) (a : Int) (ha : 1 ≤ a ∧ a ≤ 1048576) : HT Tryz.prog 28 [pV b, iV 3, iV a] [Wd b S] (fun v K => v = .tuple #[.agg #[iV (acqO S 3 a).1, iV (acqO S 3 a).2.1, uV (acqO S 3 a).2.2], iV (acqE S 3 a)] ∧ K = [Wd b (acqS S 3 a)]) := by
 refine hiS Tryz.func28 Tryz.ntmps28 fun g w0 R h0 => ?_
 obtain ⟨f10, p11, d12, s13, l14, hW15, h16⟩ := wd_open h0
 have hW15n := hW15.nl; have hW15m := hW15.nh; have hW15t := hW15.tn
 refine go [] <| nP 32 [iV 0, iV 0, uV 0] h16 (fun r17 _ h19 => ?_)
 have h20 := tk8 (sf7 (sf6 (sf7 (sf7 (sf7 (sf7 (sf7 (sf7 h19))))))))
 refine go [] <| cl1 Tryz.call56 (wvalid_cl b l14 Value.nilIface (.iface 84 (pV f10)) (.iface 87 (pV p11)) (.iface 90 (pV d12)) (pV s13) (iV S.now)) h20 fun _ h22 => go [] <| cl0 Tryz.call68 (god_3y a (by omega)) h22 fun _ h24 => ?_
 have h26 := tk8 (sf7 (sf7 (sf7 (sf7 (sf7 (sf7 (sf2 (sf7 h24))))))))
 refine go [] <| cP Tryz.call69 (grown_3 b f10 p11 d12 s13 l14 S hW15 a (by omega)) h26 ?_
 rintro v K _ (⟨c25, rfl, rfl⟩) h28
 have h29 := ap7 h28
 refine go [] <| nP 32 [iV 0, iV 0, uV 0] h29 (fun r30 _ h32 => ?_)
 refine go [] <| sP [(0, iV ((gntO S.D a S.now).1)), (1, iV ((gntO S.D a S.now).2.1)), (2, uV ((gntO S.D a S.now).2.2))] [iV ((gntO S.D a S.now).1), iV ((gntO S.D a S.now).2.1), uV ((gntO S.D a S.now).2.2)] h32 fun _ h34 => go [.s 6 1] ?_
 by_cases c35 : (gntE S.D a S.now) = 0
 ·
  have h36 := tk10 (sf9 (sf8 (sf8 (sf8 (sf8 (sf8 (sf9 (sf9 (sf9 (sf9 h34))))))))))
  refine go [.v 6 1 (qnF ((gntE S.D a S.now)) 0), rd 8 3 1 4 1 h34] <| cl1 Tryz.call65 (next_ht s13 S.q) h36 fun _ h38 => go [.s 9 0] ?_
  by_cases c39 : (S.q.headD 1) = 2
  ·
   have h40 := tk10 (sf9 (sf8 (sf8 (sf8 (sf8 (sf8 (sf8 (sf8 (sf8 (sf9 h38))))))))))
   refine go [.v 9 0 (qeT ((S.q.headD 1)) 2)] <| sP [(0, iV 0), (1, iV 0), (2, uV 0)] [iV 0, iV 0, uV 0] h40 fun w41 h42 => go [] ?_
   have hp_ := acq_later (S := S) (god3 ha) ((gnt_grw (S := S) ha).1.symm.trans (by omega)) (by omega)
   have h43 := tk10 (sf9 (sf9 (sf9 (sf9 (sf5 (sf9 (sf3 (sf4 (sf9 (sf9 h42))))))))))
   have h44 : sat g w41 [Wd b ({ S with q := S.q.tail } : Wst), Cl r17 [iV 0, iV 0, uV 0] 32, Cl r30 [iV ((gntO S.D a S.now).1), iV ((gntO S.D a S.now).2.1), uV ((gntO S.D a S.now).2.2)] 32, Dk c25 (gntX S.D a S.now), R] := wd_close (hp_.2.2 ▸ wok_acq hW15 3 a) h43
   exact en (.tuple #[.agg #[iV 0, iV 0, uV 0], iV 15]) [rd 0 0 0 0 3 h42] ⟨_, [Wd b ({ S with q := S.q.tail } : Wst)], rfl, ⟨by rw [hp_.1, hp_.2.1], by rw [hp_.2.2]⟩, (tk2 (sf1 (sf4 h44)))⟩
  refine go [.v 9 0 (qeF ((S.q.headD 1)) 2), .s 11 0] ?_
  by_cases c46 : (S.q.headD 1) = 3
  ·
   have h47 := tk10 (sf9 (sf8 (sf8 (sf8 (sf8 (sf8 (sf8 (sf8 (sf8 (sf9 h38))))))))))
   refine go [.v 11 0 (qeT ((S.q.headD 1)) 3)] <| sP [(0, iV 0), (1, iV 0), (2, uV 0)] [iV 0, iV 0, uV 0] h47 fun w48 h49 => go [] ?_
   have hp_ := acq_fail (S := S) (god3 ha) ((gnt_grw (S := S) ha).1.symm.trans (by omega)) (by omega) (by omega)
   have h50 := tk10 (sf9 (sf9 (sf9 (sf9 (sf5 (sf9 (sf3 (sf4 (sf9 (sf9 h49))))))))))
   have h51 : sat g w48 [Wd b ({ S with q := S.q.tail } : Wst), Cl r17 [iV 0, iV 0, uV 0] 32, Cl r30 [iV ((gntO S.D a S.now).1), iV ((gntO S.D a S.now).2.1), uV ((gntO S.D a S.now).2.2)] 32, Dk c25 (gntX S.D a S.now), R] := wd_close (hp_.2.2 ▸ wok_acq hW15 3 a) h50
   exact en (.tuple #[.agg #[iV 0, iV 0, uV 0], iV 14]) [rd 0 0 0 0 3 h49] ⟨_, [Wd b ({ S with q := S.q.tail } : Wst)], rfl, ⟨by rw [hp_.1, hp_.2.1], by rw [hp_.2.2]⟩, (tk2 (sf1 (sf4 h51)))⟩
  refine go [.v 11 0 (qeF ((S.q.headD 1)) 3), .s 13 5] <| lwP (.pointer (some ⟨b, 3, none⟩)) (law_indexArr (x := (Operand.tmp 49)) (i := (Operand.tmp 46)) (b := b) (off := 0) (z := 3) (by kernel_rfl) Tryz.underlying76 1 (by kernel_rfl) 3 (by kernel_rfl) (by kernel_rfl) (by omega) (by omega) 3 (by omega) _) <| sP [(3, .iface 90 (pV c25))] [Value.nilIface, .iface 84 (pV f10), .iface 87 (pV p11), .iface 90 (pV c25), pV s13, pV l14, iV S.now] (tk10 (sf9 (sf8 (sf8 (sf9 (sf9 (sf9 (sf9 (sf9 (sf9 (sf9 h38))))))))))) fun _ h55 => ?_
  have h56 := tk10 (sf9 (sf8 (sf8 (sf8 (sf8 (sf8 (sf8 (sf8 (sf8 (sf9 h55))))))))))
  refine go [rd 14 0 2 0 3 h55] <| sP [(0, iV ((gntO S.D a S.now).1)), (1, iV ((gntO S.D a S.now).2.1)), (2, uV ((gntO S.D a S.now).2.2))] [iV ((gntO S.D a S.now).1), iV ((gntO S.D a S.now).2.1), uV ((gntO S.D a S.now).2.2)] h56 fun w57 h58 => go [] ?_
  have hp_ := acq_ok3 (S := S) ha (by omega) (by omega) (by omega)
  have h59 := tk10 (sf9 (sf9 (sf9 (sf9 (sf6 (sf8 (sf3 (sf5 (sf7 (sf9 h58))))))))))
  have h60 : sat g w57 [Wd b ({ S with q := S.q.tail, D := gntX S.D a S.now } : Wst), Cl r17 [iV ((gntO S.D a S.now).1), iV ((gntO S.D a S.now).2.1), uV ((gntO S.D a S.now).2.2)] 32, Cl r30 [iV ((gntO S.D a S.now).1), iV ((gntO S.D a S.now).2.1), uV ((gntO S.D a S.now).2.2)] 32, Dk d12 S.D, R] := wd_close (hp_.2.2 ▸ wok_acq hW15 3 a) h59
  exact en (.tuple #[.agg #[iV ((gntO S.D a S.now).1), iV ((gntO S.D a S.now).2.1), uV ((gntO S.D a S.now).2.2)], iV 0]) [rd 0 0 0 0 3 h58] ⟨_, [Wd b ({ S with q := S.q.tail, D := gntX S.D a S.now } : Wst)], rfl, ⟨by rw [hp_.1, hp_.2.1], by rw [hp_.2.2]⟩, (tk2 (sf1 (sf4 h60)))⟩
 have h62 := tk10 (sf9 (sf8 (sf8 (sf8 (sf8 (sf8 (sf8 (sf8 (sf8 (sf9 h34))))))))))
 refine go [.v 6 1 (qnT ((gntE S.D a S.now)) 0)] <| sP [(0, iV 0), (1, iV 0), (2, uV 0)] [iV 0, iV 0, uV 0] h62 fun w63 h64 => go [] ?_
 have hp_ := acq_err (S := S) (god3 ha) (gnt_grw (S := S) ha).1.symm (by omega)
 have h66 : sat g w63 [Wd b S, Cl r17 [iV 0, iV 0, uV 0] 32, Cl r30 [iV ((gntO S.D a S.now).1), iV ((gntO S.D a S.now).2.1), uV ((gntO S.D a S.now).2.2)] 32, Dk c25 (gntX S.D a S.now), R] := wd_close hW15 (tk10 (sf9 (sf9 (sf9 (sf9 (sf9 (sf9 (sf3 (sf3 (sf9 (sf9 h64)))))))))))
 exact en (.tuple #[.agg #[iV 0, iV 0, uV 0], iV ((gntE S.D a S.now))]) [rd 0 0 0 0 3 h64] ⟨_, [Wd b S], rfl, ⟨by rw [hp_.1, hp_.2.1], by rw [hp_.2.2]⟩, (tk2 (sf1 (sf4 h66)))⟩

set_option maxHeartbeats 4000000 in
theorem wacq_3n (b : Nat) (S : Wst) (a : Int) (ha : a < 1 ∨ 1048576 < a) (hng : ¬ godP 3 a) : HT Tryz.prog 28 [pV b, iV 3, iV a] [Wd b S] (fun v K => v = .tuple #[.agg #[iV (acqO S 3 a).1, iV (acqO S 3 a).2.1, uV (acqO S 3 a).2.2], iV (acqE S 3 a)] ∧ K = [Wd b (acqS S 3 a)]) := by
 refine hiS Tryz.func28 Tryz.ntmps28 fun g w0 R h0 => ?_
 obtain ⟨f10, p11, d12, s13, l14, hW15, h16⟩ := wd_open h0
 have hW15n := hW15.nl; have hW15m := hW15.nh; have hW15t := hW15.tn
 refine go [] <| nP 32 [iV 0, iV 0, uV 0] h16 (fun r17 _ h19 => ?_)
 have h20 := tk8 (sf7 (sf6 (sf7 (sf7 (sf7 (sf7 (sf7 (sf7 h19))))))))
 refine go [] <| cl1 Tryz.call56 (wvalid_cl b l14 Value.nilIface (.iface 84 (pV f10)) (.iface 87 (pV p11)) (.iface 90 (pV d12)) (pV s13) (iV S.now)) h20 fun _ h22 => go [] ?_
 by_cases c23 : 1 ≤ a
 ·
  refine cl0 Tryz.call68 (god_3n a (by omega)) h22 fun _ h25 => ?_
  have h26 := tk8 (sf7 (sf6 (sf7 (sf7 (sf7 (sf7 (sf7 (sf7 h25))))))))
  refine go [] <| sP [(0, iV 0), (1, iV 0), (2, uV 0)] [iV 0, iV 0, uV 0] h26 fun w27 h28 => go [] ?_
  have hp_ := acq_arg (S := S) (k := 3) (a := a) hng
  have h30 : sat g w27 [Wd b S, Cl r17 [iV 0, iV 0, uV 0] 32, R] := wd_close hW15 (tk8 (sf7 (sf7 (sf7 (sf7 (sf7 (sf7 (sf1 (sf7 h28)))))))))
  exact en (.tuple #[.agg #[iV 0, iV 0, uV 0], iV 2]) [rd 0 0 0 0 3 h28] ⟨_, [Wd b S], rfl, ⟨by rw [hp_.1, hp_.2.1], by rw [hp_.2.2]⟩, (tk2 (sf1 (sf2 h30)))⟩
 refine cl0 Tryz.call68 (god_3n a (by omega)) h22 fun _ h33 => ?_
 have h34 := tk8 (sf7 (sf6 (sf7 (sf7 (sf7 (sf7 (sf7 (sf7 h33))))))))
 refine go [] <| sP [(0, iV 0), (1, iV 0), (2, uV 0)] [iV 0, iV 0, uV 0] h34 fun w35 h36 => go [] ?_
 have hp_ := acq_arg (S := S) (k := 3) (a := a) hng
 have h38 : sat g w35 [Wd b S, Cl r17 [iV 0, iV 0, uV 0] 32, R] := wd_close hW15 (tk8 (sf7 (sf7 (sf7 (sf7 (sf7 (sf7 (sf1 (sf7 h36)))))))))
 exact en (.tuple #[.agg #[iV 0, iV 0, uV 0], iV 2]) [rd 0 0 0 0 3 h36] ⟨_, [Wd b S], rfl, ⟨by rw [hp_.1, hp_.2.1], by rw [hp_.2.2]⟩, (tk2 (sf1 (sf2 h38)))⟩

set_option maxHeartbeats 4000000 in
theorem wacq_0 (b : Nat) (S : Wst) (k a : Int) (hk : k < 1 ∨ 3 < k) (hng : ¬ godP k a) : HT Tryz.prog 28 [pV b, iV k, iV a] [Wd b S] (fun v K => v = .tuple #[.agg #[iV (acqO S k a).1, iV (acqO S k a).2.1, uV (acqO S k a).2.2], iV (acqE S k a)] ∧ K = [Wd b (acqS S k a)]) := by
 refine hiS Tryz.func28 Tryz.ntmps28 fun g w0 R h0 => ?_
 obtain ⟨f10, p11, d12, s13, l14, hW15, h16⟩ := wd_open h0
 have hW15n := hW15.nl; have hW15m := hW15.nh; have hW15t := hW15.tn
 refine go [] <| nP 32 [iV 0, iV 0, uV 0] h16 (fun r17 _ h19 => ?_)
 have h20 := tk8 (sf7 (sf6 (sf7 (sf7 (sf7 (sf7 (sf7 (sf7 h19))))))))
 refine go [] <| cl1 Tryz.call56 (wvalid_cl b l14 Value.nilIface (.iface 84 (pV f10)) (.iface 87 (pV p11)) (.iface 90 (pV d12)) (pV s13) (iV S.now)) h20 fun _ h22 => go [] <| cl0 Tryz.call68 (god_0 k a (by omega)) h22 fun _ h24 => ?_
 have h25 := tk8 (sf7 (sf6 (sf7 (sf7 (sf7 (sf7 (sf7 (sf7 h24))))))))
 refine go [] <| sP [(0, iV 0), (1, iV 0), (2, uV 0)] [iV 0, iV 0, uV 0] h25 fun w26 h27 => go [] ?_
 have hp_ := acq_arg (S := S) (k := k) (a := a) hng
 have h29 : sat g w26 [Wd b S, Cl r17 [iV 0, iV 0, uV 0] 32, R] := wd_close hW15 (tk8 (sf7 (sf7 (sf7 (sf7 (sf7 (sf7 (sf1 (sf7 h27)))))))))
 exact en (.tuple #[.agg #[iV 0, iV 0, uV 0], iV 2]) [rd 0 0 0 0 3 h27] ⟨_, [Wd b S], rfl, ⟨by rw [hp_.1, hp_.2.1], by rw [hp_.2.2]⟩, (tk2 (sf1 (sf2 h29)))⟩

theorem wacq_ht (b : Nat) (S : Wst) (k a : Int) : HT Tryz.prog 28 [pV b, iV k, iV a] [Wd b S] (fun v K => v = Value.tuple #[Value.agg #[Value.int .i64 (acqO S k a).1, Value.int .i64 (acqO S k a).2.1, Value.int .u32 (acqO S k a).2.2], Value.int .i64 (acqE S k a)] ∧ K = [Wd b (acqS S k a)]) := by
  by_cases h1 : k = 1
  · subst h1
    by_cases h : 0 ≤ a ∧ a ≤ 65535
    · exact wacq_1 b S a h
    · exact wacq_1n b S a (by omega) (god_no1 h)
  · by_cases h2 : k = 2
    · subst h2
      by_cases h : 1 ≤ a ∧ a ≤ 65536
      · exact wacq_2 b S a h
      · exact wacq_2n b S a (by omega) (god_no2 h)
    · by_cases h3 : k = 3
      · subst h3
        by_cases h : 1 ≤ a ∧ a ≤ 1048576
        · exact wacq_3 b S a h
        · exact wacq_3n b S a (by omega) (god_no3 h)
      · exact wacq_0 b S k a (by omega) (god_no (by omega))

end Go.Proofs.YtggfnbpohmhphaaGreatDoor

/- Walks, printed by my generator o13.py. -/
namespace Go.Proofs.YtggfnbpohmhphaaGreatDoor
set_option maxHeartbeats 4000000 in
theorem back_1 (b f p d s l : Nat) (z0 : Int) : HT Tryz.prog 67 [pV b, iV 1] [Cl b [Value.nilIface, .iface 84 (pV f), .iface 87 (pV p), .iface 90 (pV d), pV s, pV l, iV z0] 79] (fun v K => v = .func (Fn.func 115) #[pV f] #[] ∧ K = [Cl b [Value.nilIface, .iface 84 (pV f), .iface 87 (pV p), .iface 90 (pV d), pV s, pV l, iV z0] 79]) := by
 refine hiS Tryz.func67 Tryz.ntmps67 fun g w0 R h0 => go [.s 1 4] <| lwP (.pointer (some ⟨b, 1, none⟩)) (law_indexArr (x := (Operand.tmp 11)) (i := (Operand.tmp 9)) (b := b) (off := 0) (z := 1) (by kernel_rfl) Tryz.underlying76 1 (by kernel_rfl) 1 (by kernel_rfl) (by kernel_rfl) (by omega) (by omega) 1 (by omega) _) <| go [rd 1 5 0 1 1 h0] ?_
 exact en (.func (Fn.func 115) #[pV f] #[]) [] ⟨_, _, rfl, ⟨rfl, rfl⟩, h0⟩

set_option maxHeartbeats 4000000 in
theorem back_2 (b f p d s l : Nat) (z0 : Int) : HT Tryz.prog 67 [pV b, iV 2] [Cl b [Value.nilIface, .iface 84 (pV f), .iface 87 (pV p), .iface 90 (pV d), pV s, pV l, iV z0] 79] (fun v K => v = .func (Fn.func 116) #[pV p] #[] ∧ K = [Cl b [Value.nilIface, .iface 84 (pV f), .iface 87 (pV p), .iface 90 (pV d), pV s, pV l, iV z0] 79]) := by
 refine hiS Tryz.func67 Tryz.ntmps67 fun g w0 R h0 => go [.s 1 4] <| lwP (.pointer (some ⟨b, 2, none⟩)) (law_indexArr (x := (Operand.tmp 11)) (i := (Operand.tmp 9)) (b := b) (off := 0) (z := 2) (by kernel_rfl) Tryz.underlying76 1 (by kernel_rfl) 2 (by kernel_rfl) (by kernel_rfl) (by omega) (by omega) 2 (by omega) _) <| go [rd 1 5 0 2 1 h0] ?_
 exact en (.func (Fn.func 116) #[pV p] #[]) [] ⟨_, _, rfl, ⟨rfl, rfl⟩, h0⟩

set_option maxHeartbeats 4000000 in
theorem back_3 (b f p d s l : Nat) (z0 : Int) : HT Tryz.prog 67 [pV b, iV 3] [Cl b [Value.nilIface, .iface 84 (pV f), .iface 87 (pV p), .iface 90 (pV d), pV s, pV l, iV z0] 79] (fun v K => v = .func (Fn.func 117) #[pV d] #[] ∧ K = [Cl b [Value.nilIface, .iface 84 (pV f), .iface 87 (pV p), .iface 90 (pV d), pV s, pV l, iV z0] 79]) := by
 refine hiS Tryz.func67 Tryz.ntmps67 fun g w0 R h0 => go [.s 1 4] <| lwP (.pointer (some ⟨b, 3, none⟩)) (law_indexArr (x := (Operand.tmp 11)) (i := (Operand.tmp 9)) (b := b) (off := 0) (z := 3) (by kernel_rfl) Tryz.underlying76 1 (by kernel_rfl) 3 (by kernel_rfl) (by kernel_rfl) (by omega) (by omega) 3 (by omega) _) <| go [rd 1 5 0 3 1 h0] ?_
 exact en (.func (Fn.func 117) #[pV d] #[]) [] ⟨_, _, rfl, ⟨rfl, rfl⟩, h0⟩

set_option maxHeartbeats 4000000 in
theorem wrel_no (b : Nat) (S : Wst) (x y z wy : Int) (hz0 : 0 ≤ z) (hz1 : z ≤ 4294967295) (hg : ¬ (1 ≤ x ∧ x ≤ 3 ∧ 0 ≤ y ∧ y ≤ 63 ∧ 1 ≤ z)) : HT Tryz.prog 27 [pV b, .agg #[iV x, iV y, uV z], iV wy] [Wd b S] (fun v K => v = .tuple #[iV (relA S (x, y, z) wy), iV (relE S (x, y, z) wy)] ∧ K = [Wd b (relS S (x, y, z) wy)]) := by
 refine hiS Tryz.func27 Tryz.ntmps27 fun g w0 R h0 => ?_
 obtain ⟨f10, p11, d12, s13, l14, hW15, h16⟩ := wd_open h0
 have hW15n := hW15.nl; have hW15m := hW15.nh; have hW15t := hW15.tn
 refine go [] <| nP 32 [iV x, iV y, uV z] h16 (fun r17 _ h19 => ?_)
 have h20 := tk8 (sf7 (sf6 (sf7 (sf7 (sf7 (sf7 (sf7 (sf7 h19))))))))
 refine go [] <| cl1 Tryz.call56 (wvalid_cl b l14 Value.nilIface (.iface 84 (pV f10)) (.iface 87 (pV p11)) (.iface 90 (pV d12)) (pV s13) (iV S.now)) h20 fun _ h22 => go [rd 3 0 1 0 3 h22] ?_
 by_cases c23 : 1 ≤ x
 ·
  by_cases c24 : x ≤ 3
  ·
   by_cases c25 : 0 ≤ y
   ·
    by_cases c26 : y ≤ 63
    ·
     refine cl0 Tryz.call15 (couter_no x y z (by omega) (by omega) (by omega)) h22 fun w27 h28 => go [] ?_
     have hp_ := rel_arg (S := S) (o := (x, y, z)) (wy := wy) (.inl hg)
     have h30 : sat g w27 [Wd b S, Cl r17 [iV x, iV y, uV z] 32, R] := wd_close hW15 (tk8 (sf7 (sf7 (sf7 (sf7 (sf7 (sf7 (sf2 (sf7 h28)))))))))
     exact en (.tuple #[iV 0, iV 2]) [] ⟨_, [Wd b S], rfl, ⟨by rw [hp_.1, hp_.2.1], by rw [hp_.2.2]⟩, (tk2 (sf1 (sf2 h30)))⟩
    refine cl0 Tryz.call15 (couter_no x y z (by omega) (by omega) (by omega)) h22 fun w32 h33 => go [] ?_
    have hp_ := rel_arg (S := S) (o := (x, y, z)) (wy := wy) (.inl hg)
    have h35 : sat g w32 [Wd b S, Cl r17 [iV x, iV y, uV z] 32, R] := wd_close hW15 (tk8 (sf7 (sf7 (sf7 (sf7 (sf7 (sf7 (sf2 (sf7 h33)))))))))
    exact en (.tuple #[iV 0, iV 2]) [] ⟨_, [Wd b S], rfl, ⟨by rw [hp_.1, hp_.2.1], by rw [hp_.2.2]⟩, (tk2 (sf1 (sf2 h35)))⟩
   refine cl0 Tryz.call15 (couter_no x y z (by omega) (by omega) (by omega)) h22 fun w37 h38 => go [] ?_
   have hp_ := rel_arg (S := S) (o := (x, y, z)) (wy := wy) (.inl hg)
   have h40 : sat g w37 [Wd b S, Cl r17 [iV x, iV y, uV z] 32, R] := wd_close hW15 (tk8 (sf7 (sf7 (sf7 (sf7 (sf7 (sf7 (sf2 (sf7 h38)))))))))
   exact en (.tuple #[iV 0, iV 2]) [] ⟨_, [Wd b S], rfl, ⟨by rw [hp_.1, hp_.2.1], by rw [hp_.2.2]⟩, (tk2 (sf1 (sf2 h40)))⟩
  refine cl0 Tryz.call15 (couter_no x y z (by omega) (by omega) (by omega)) h22 fun w42 h43 => go [] ?_
  have hp_ := rel_arg (S := S) (o := (x, y, z)) (wy := wy) (.inl hg)
  have h45 : sat g w42 [Wd b S, Cl r17 [iV x, iV y, uV z] 32, R] := wd_close hW15 (tk8 (sf7 (sf7 (sf7 (sf7 (sf7 (sf7 (sf2 (sf7 h43)))))))))
  exact en (.tuple #[iV 0, iV 2]) [] ⟨_, [Wd b S], rfl, ⟨by rw [hp_.1, hp_.2.1], by rw [hp_.2.2]⟩, (tk2 (sf1 (sf2 h45)))⟩
 refine cl0 Tryz.call15 (couter_no x y z (by omega) (by omega) (by omega)) h22 fun w47 h48 => go [] ?_
 have hp_ := rel_arg (S := S) (o := (x, y, z)) (wy := wy) (.inl hg)
 have h50 : sat g w47 [Wd b S, Cl r17 [iV x, iV y, uV z] 32, R] := wd_close hW15 (tk8 (sf7 (sf7 (sf7 (sf7 (sf7 (sf7 (sf2 (sf7 h48)))))))))
 exact en (.tuple #[iV 0, iV 2]) [] ⟨_, [Wd b S], rfl, ⟨by rw [hp_.1, hp_.2.1], by rw [hp_.2.2]⟩, (tk2 (sf1 (sf2 h50)))⟩

set_option maxHeartbeats 4000000 in
theorem wrel_wy (b : Nat) (S : Wst) (x y z : Int) (hz0 : 0 ≤ z) (hz1 : z ≤ 4294967295) (hg : KGood (x, y, z)) (hy0 : 0 ≤ y) (hy1 : y ≤ 63) (hz : 1 ≤ z) (hx : 1 ≤ x ∧ x ≤ 3) (wy : Int) (hwy : wy < 1 ∨ 3 < wy) : HT Tryz.prog 27 [pV b, .agg #[iV x, iV y, uV z], iV wy] [Wd b S] (fun v K => v = .tuple #[iV (relA S (x, y, z) wy), iV (relE S (x, y, z) wy)] ∧ K = [Wd b (relS S (x, y, z) wy)]) := by
 refine hiS Tryz.func27 Tryz.ntmps27 fun g w0 R h0 => ?_
 obtain ⟨f10, p11, d12, s13, l14, hW15, h16⟩ := wd_open h0
 have hW15n := hW15.nl; have hW15m := hW15.nh; have hW15t := hW15.tn
 refine go [] <| nP 32 [iV x, iV y, uV z] h16 (fun r17 _ h19 => ?_)
 have h20 := tk8 (sf7 (sf6 (sf7 (sf7 (sf7 (sf7 (sf7 (sf7 h19))))))))
 refine go [] <| cl1 Tryz.call56 (wvalid_cl b l14 Value.nilIface (.iface 84 (pV f10)) (.iface 87 (pV p11)) (.iface 90 (pV d12)) (pV s13) (iV S.now)) h20 fun _ h22 => go [rd 3 0 1 0 3 h22] <| cl0 Tryz.call15 (couter_ok x y z (by omega) (by omega) (by omega)) h22 fun w23 h24 => go [.s 3 5] ?_
 by_cases c25 : wy < 1
 ·
  refine go [.v 3 5 (oT (wy < 1))] ?_
  have hp_ := rel_arg (S := S) (o := (x, y, z)) (wy := wy) (.inr hwy)
  have h27 : sat g w23 [Wd b S, Cl r17 [iV x, iV y, uV z] 32, R] := wd_close hW15 (tk8 (sf7 (sf7 (sf7 (sf7 (sf7 (sf7 (sf2 (sf7 h24)))))))))
  exact en (.tuple #[iV 0, iV 2]) [] ⟨_, [Wd b S], rfl, ⟨by rw [hp_.1, hp_.2.1], by rw [hp_.2.2]⟩, (tk2 (sf1 (sf2 h27)))⟩
 refine go [.v 3 5 (oF (wy < 1)), .v 3 9 (oT (wy > 3))] ?_
 have hp_ := rel_arg (S := S) (o := (x, y, z)) (wy := wy) (.inr hwy)
 have h30 : sat g w23 [Wd b S, Cl r17 [iV x, iV y, uV z] 32, R] := wd_close hW15 (tk8 (sf7 (sf7 (sf7 (sf7 (sf7 (sf7 (sf2 (sf7 h24)))))))))
 exact en (.tuple #[iV 0, iV 2]) [] ⟨_, [Wd b S], rfl, ⟨by rw [hp_.1, hp_.2.1], by rw [hp_.2.2]⟩, (tk2 (sf1 (sf2 h30)))⟩

set_option maxHeartbeats 4000000 in
theorem wrel_none (b : Nat) (S : Wst) (x y z : Int) (hz0 : 0 ≤ z) (hz1 : z ≤ 4294967295) (hg : KGood (x, y, z)) (hy0 : 0 ≤ y) (hy1 : y ≤ 63) (hz : 1 ≤ z) (hx : 1 ≤ x ∧ x ≤ 3) (hT : ¬ Thr S (x, y, z)) (wy : Int) (hwy : 1 ≤ wy ∧ wy ≤ 3) : HT Tryz.prog 27 [pV b, .agg #[iV x, iV y, uV z], iV wy] [Wd b S] (fun v K => v = .tuple #[iV (relA S (x, y, z) wy), iV (relE S (x, y, z) wy)] ∧ K = [Wd b (relS S (x, y, z) wy)]) := by
 refine hiS Tryz.func27 Tryz.ntmps27 fun g w0 R h0 => ?_
 obtain ⟨f10, p11, d12, s13, l14, hW15, h16⟩ := wd_open h0
 have hW15n := hW15.nl; have hW15m := hW15.nh; have hW15t := hW15.tn
 refine go [] <| nP 32 [iV x, iV y, uV z] h16 (fun r17 _ h19 => ?_)
 have h20 := tk8 (sf7 (sf6 (sf7 (sf7 (sf7 (sf7 (sf7 (sf7 h19))))))))
 refine go [] <| cl1 Tryz.call56 (wvalid_cl b l14 Value.nilIface (.iface 84 (pV f10)) (.iface 87 (pV p11)) (.iface 90 (pV d12)) (pV s13) (iV S.now)) h20 fun _ h22 => go [rd 3 0 1 0 3 h22] <| cl0 Tryz.call15 (couter_ok x y z (by omega) (by omega) (by omega)) h22 fun _ h24 => ?_
 have h25 := tk8 (sf7 (sf7 (sf7 (sf7 (sf7 (sf7 (sf2 (sf7 h24))))))))
 refine go [.v 3 5 (oF (wy < 1)), .v 3 9 (oF (wy > 3)), rd 5 1 1 0 3 h24] <| cl6 Tryz.call16 ((by have h_ := has_ht b f10 p11 d12 s13 l14 S hW15 x y z (by omega) (by omega); rw [decide_eq_false hT] at h_; exact h_)) h25 fun w26 h27 => ?_
 refine go [] ?_
 have hp_ := rel_none (S := S) (o := (x, y, z)) hg hwy hT
 have h28 : sat g w26 [Wd b S, Cl r17 [iV x, iV y, uV z] 32, R] := wd_close hW15 h27
 exact en (.tuple #[iV 0, iV 5]) [] ⟨_, [Wd b S], rfl, ⟨by rw [hp_.1, hp_.2.1], by rw [hp_.2.2]⟩, (tk2 (sf1 (sf2 h28)))⟩

set_option maxHeartbeats 4000000 in
theorem wrel_full (b : Nat) (S : Wst) (x y z : Int) (hz0 : 0 ≤ z) (hz1 : z ≤ 4294967295) (hg : KGood (x, y, z)) (hy0 : 0 ≤ y) (hy1 : y ≤ 63) (hz : 1 ≤ z) (hx : 1 ≤ x ∧ x ≤ 3) (hT : Thr S (x, y, z)) (wy : Int) (hwy : 1 ≤ wy ∧ wy ≤ 3) (hn : 10000 ≤ S.T.length) : HT Tryz.prog 27 [pV b, .agg #[iV x, iV y, uV z], iV wy] [Wd b S] (fun v K => v = .tuple #[iV (relA S (x, y, z) wy), iV (relE S (x, y, z) wy)] ∧ K = [Wd b (relS S (x, y, z) wy)]) := by
 refine hiS Tryz.func27 Tryz.ntmps27 fun g w0 R h0 => ?_
 obtain ⟨f10, p11, d12, s13, l14, hW15, h16⟩ := wd_open h0
 have hW15n := hW15.nl; have hW15m := hW15.nh; have hW15t := hW15.tn
 refine go [] <| nP 32 [iV x, iV y, uV z] h16 (fun r17 _ h19 => ?_)
 have h20 := tk8 (sf7 (sf6 (sf7 (sf7 (sf7 (sf7 (sf7 (sf7 h19))))))))
 refine go [] <| cl1 Tryz.call56 (wvalid_cl b l14 Value.nilIface (.iface 84 (pV f10)) (.iface 87 (pV p11)) (.iface 90 (pV d12)) (pV s13) (iV S.now)) h20 fun _ h22 => go [rd 3 0 1 0 3 h22] <| cl0 Tryz.call15 (couter_ok x y z (by omega) (by omega) (by omega)) h22 fun _ h24 => ?_
 have h25 := tk8 (sf7 (sf7 (sf7 (sf7 (sf7 (sf7 (sf2 (sf7 h24))))))))
 refine go [.v 3 5 (oF (wy < 1)), .v 3 9 (oF (wy > 3)), rd 5 1 1 0 3 h24] <| cl6 Tryz.call16 ((by have h_ := has_ht b f10 p11 d12 s13 l14 S hW15 x y z (by omega) (by omega); rw [decide_eq_true hT] at h_; exact h_)) h25 fun _ h27 => ?_
 have h28 := tk8 (sf7 (sf6 (sf6 (sf6 (sf6 (sf6 (sf7 (sf7 h27))))))))
 refine go [rd 7 3 0 5 1 h27] <| cl1 Tryz.call23 (lglen_ht l14 S.T) h28 fun w29 h30 => go [.v 7 5 (oT (((S.T.length : Nat) : Int) ≥ 10000))] ?_
 have hp_ := rel_full (S := S) (o := (x, y, z)) hwy hT hn
 have h32 : sat g w29 [Wd b S, Cl r17 [iV x, iV y, uV z] 32, R] := wd_close hW15 (tk8 (sf7 (sf7 (sf7 (sf7 (sf7 (sf2 (sf7 (sf7 h30)))))))))
 exact en (.tuple #[iV 0, iV 4]) [] ⟨_, [Wd b S], rfl, ⟨by rw [hp_.1, hp_.2.1], by rw [hp_.2.2]⟩, (tk2 (sf1 (sf2 h32)))⟩

set_option maxHeartbeats 4000000 in
theorem wrel_1 (b : Nat) (S : Wst) (y z : Int) (hz0 : 0 ≤ z) (hz1 : z ≤ 4294967295) (hg : KGood (1, y, z)) (hy0 : 0 ≤ y) (hy1 : y ≤ 63) (hz : 1 ≤ z) (hT : Thr S (1, y, z)) (wy : Int) (hwy : 1 ≤ wy ∧ wy ≤ 3) (hn : S.T.length < 10000) : HT Tryz.prog 27 [pV b, .agg #[iV 1, iV y, uV z], iV wy] [Wd b S] (fun v K => v = .tuple #[iV (relA S (1, y, z) wy), iV (relE S (1, y, z) wy)] ∧ K = [Wd b (relS S (1, y, z) wy)]) := by
 refine hiS Tryz.func27 Tryz.ntmps27 fun g w0 R h0 => ?_
 obtain ⟨f10, p11, d12, s13, l14, hW15, h16⟩ := wd_open h0
 have hW15n := hW15.nl; have hW15m := hW15.nh; have hW15t := hW15.tn
 refine go [] <| nP 32 [iV 1, iV y, uV z] h16 (fun r17 _ h19 => ?_)
 have h20 := tk8 (sf7 (sf6 (sf7 (sf7 (sf7 (sf7 (sf7 (sf7 h19))))))))
 refine go [] <| cl1 Tryz.call56 (wvalid_cl b l14 Value.nilIface (.iface 84 (pV f10)) (.iface 87 (pV p11)) (.iface 90 (pV d12)) (pV s13) (iV S.now)) h20 fun _ h22 => go [rd 3 0 1 0 3 h22] <| cl0 Tryz.call15 (couter_ok 1 y z (by omega) (by omega) (by omega)) h22 fun _ h24 => ?_
 have h25 := tk8 (sf7 (sf7 (sf7 (sf7 (sf7 (sf7 (sf2 (sf7 h24))))))))
 refine go [.v 3 5 (oF (wy < 1)), .v 3 9 (oF (wy > 3)), rd 5 1 1 0 3 h24] <| cl6 Tryz.call16 ((by have h_ := has_ht b f10 p11 d12 s13 l14 S hW15 1 y z (by omega) (by omega); rw [decide_eq_true hT] at h_; exact h_)) h25 fun _ h27 => ?_
 have h28 := tk8 (sf7 (sf6 (sf6 (sf6 (sf6 (sf6 (sf7 (sf7 h27))))))))
 refine go [rd 7 3 0 5 1 h27] <| cl1 Tryz.call23 (lglen_ht l14 S.T) h28 fun _ h30 => ?_
 have h31 := tk8 (sf7 (sf6 (sf6 (sf6 (sf6 (sf6 (sf7 (sf7 h30))))))))
 refine go [.v 7 5 (oF (((S.T.length : Nat) : Int) ≥ 10000)), rd 9 3 1 4 1 h30] <| cl1 Tryz.call65 (next_ht s13 S.q) h31 fun _ h33 => go [] <| dw (fls [0, 1, 2, 3, 4, 5, 6, 7, 8, 9, 10, 11] (Tr.an 12 Tr.nil)) h33 fun _ h35 => ?_
 have h36 := tk8 (sf7 (sf6 (sf7 (sf7 (sf7 (sf7 (sf7 (sf7 h35))))))))
 refine go [rd 10 3 2 5 1 h35, rd 10 7 2 6 1 h35, rd 10 8 6 0 3 h35] <| cw1 Tryz.call66 (lgadd_ht l14 S.T S.now 1 y z wy ((S.q.headD 1)) (by omega) (by omega) (rel_attP hW15 hg hwy) hW15.ta (by omega)) h36 fun w37 h38 => ⟨kd [], ?_⟩
 refine go [.s 11 1] ?_
 by_cases c39 : (S.q.headD 1) = 1
 ·
  refine go [.v 11 1 (qeT ((S.q.headD 1)) 1)] <| dw (fls [0, 1, 2, 4] (Tr.an 3 (Tr.an 5 Tr.nil))) h38 fun _ h41 => ?_
  have h42 := tk8 (sf7 (sf6 (sf6 (sf7 (sf7 (sf7 (sf7 (sf7 h41))))))))
  refine go [rd 12 2 6 0 1 h41, rd 12 4 6 0 3 h41] <| cw1 Tryz.call67 (back_1 b f10 p11 d12 s13 l14 S.now) h42 fun _ h44 => ⟨kd [rd 0 4 6 0 3 h44], ?_⟩
  refine cw1 Tryz.call115 ((by have h_ := fclose_ht f10 64 S.F 1 y z (by omega) (by omega); rw [show clsX S.F (1, y, z) = giv S.F (1, y, z) from cls_giv hT] at h_; exact h_)) (tk8 (sf7 (sf6 (sf6 (sf6 (sf7 (sf7 (sf7 (sf7 h44))))))))) fun w46 h47 => ⟨kd [], ?_⟩
  refine go [] ?_
  have hp_ := rel_ok (S := S) (o := (1, y, z)) hwy hT hn
  have hp2_ : relS S (1, y, z) wy = ({ S with q := S.q.tail, T := S.T ++ [⟨S.now, (1, y, z), wy, S.q.headD 1⟩], F := giv S.F (1, y, z) } : Wst) := hp_.2.2.trans (if_pos (by omega))
  have h48 := tk8 (sf7 (sf6 (sf7 (sf7 (sf5 (sf4 (sf7 (sf7 h47))))))))
  have h49 : sat g w46 [Wd b ({ S with q := S.q.tail, T := S.T ++ [⟨S.now, (1, y, z), wy, S.q.headD 1⟩], F := giv S.F (1, y, z) } : Wst), Cl r17 [iV 1, iV y, uV z] 32, R] := wd_close (hp2_ ▸ wok_rel hW15 (1, y, z) wy) h48
  exact en (.tuple #[iV ((S.q.headD 1)), iV 0]) [] ⟨_, [Wd b ({ S with q := S.q.tail, T := S.T ++ [⟨S.now, (1, y, z), wy, S.q.headD 1⟩], F := giv S.F (1, y, z) } : Wst)], rfl, ⟨by rw [hp_.1, hp_.2.1], by rw [hp2_]⟩, (tk2 (sf1 (sf2 h49)))⟩
 refine go [.v 11 1 (qeF ((S.q.headD 1)) 1)] ?_
 have hp_ := rel_ok (S := S) (o := (1, y, z)) hwy hT hn
 have hp2_ : relS S (1, y, z) wy = ({ S with q := S.q.tail, T := S.T ++ [⟨S.now, (1, y, z), wy, S.q.headD 1⟩] } : Wst) := hp_.2.2.trans (if_neg (by omega))
 have h51 := tk8 (sf7 (sf7 (sf7 (sf7 (sf3 (sf2 (sf7 (sf7 h38))))))))
 have h52 : sat g w37 [Wd b ({ S with q := S.q.tail, T := S.T ++ [⟨S.now, (1, y, z), wy, S.q.headD 1⟩] } : Wst), Cl r17 [iV 1, iV y, uV z] 32, R] := wd_close (hp2_ ▸ wok_rel hW15 (1, y, z) wy) h51
 exact en (.tuple #[iV ((S.q.headD 1)), iV 0]) [] ⟨_, [Wd b ({ S with q := S.q.tail, T := S.T ++ [⟨S.now, (1, y, z), wy, S.q.headD 1⟩] } : Wst)], rfl, ⟨by rw [hp_.1, hp_.2.1], by rw [hp2_]⟩, (tk2 (sf1 (sf2 h52)))⟩

set_option maxHeartbeats 4000000 in
theorem wrel_2 (b : Nat) (S : Wst) (y z : Int) (hz0 : 0 ≤ z) (hz1 : z ≤ 4294967295) (hg : KGood (2, y, z)) (hy0 : 0 ≤ y) (hy1 : y ≤ 63) (hz : 1 ≤ z) (hT : Thr S (2, y, z)) (wy : Int) (hwy : 1 ≤ wy ∧ wy ≤ 3) (hn : S.T.length < 10000) : HT Tryz.prog 27 [pV b, .agg #[iV 2, iV y, uV z], iV wy] [Wd b S] (fun v K => v = .tuple #[iV (relA S (2, y, z) wy), iV (relE S (2, y, z) wy)] ∧ K = [Wd b (relS S (2, y, z) wy)]) := by
 refine hiS Tryz.func27 Tryz.ntmps27 fun g w0 R h0 => ?_
 obtain ⟨f10, p11, d12, s13, l14, hW15, h16⟩ := wd_open h0
 have hW15n := hW15.nl; have hW15m := hW15.nh; have hW15t := hW15.tn
 refine go [] <| nP 32 [iV 2, iV y, uV z] h16 (fun r17 _ h19 => ?_)
 have h20 := tk8 (sf7 (sf6 (sf7 (sf7 (sf7 (sf7 (sf7 (sf7 h19))))))))
 refine go [] <| cl1 Tryz.call56 (wvalid_cl b l14 Value.nilIface (.iface 84 (pV f10)) (.iface 87 (pV p11)) (.iface 90 (pV d12)) (pV s13) (iV S.now)) h20 fun _ h22 => go [rd 3 0 1 0 3 h22] <| cl0 Tryz.call15 (couter_ok 2 y z (by omega) (by omega) (by omega)) h22 fun _ h24 => ?_
 have h25 := tk8 (sf7 (sf7 (sf7 (sf7 (sf7 (sf7 (sf2 (sf7 h24))))))))
 refine go [.v 3 5 (oF (wy < 1)), .v 3 9 (oF (wy > 3)), rd 5 1 1 0 3 h24] <| cl6 Tryz.call16 ((by have h_ := has_ht b f10 p11 d12 s13 l14 S hW15 2 y z (by omega) (by omega); rw [decide_eq_true hT] at h_; exact h_)) h25 fun _ h27 => ?_
 have h28 := tk8 (sf7 (sf6 (sf6 (sf6 (sf6 (sf6 (sf7 (sf7 h27))))))))
 refine go [rd 7 3 0 5 1 h27] <| cl1 Tryz.call23 (lglen_ht l14 S.T) h28 fun _ h30 => ?_
 have h31 := tk8 (sf7 (sf6 (sf6 (sf6 (sf6 (sf6 (sf7 (sf7 h30))))))))
 refine go [.v 7 5 (oF (((S.T.length : Nat) : Int) ≥ 10000)), rd 9 3 1 4 1 h30] <| cl1 Tryz.call65 (next_ht s13 S.q) h31 fun _ h33 => go [] <| dw (fls [0, 1, 2, 3, 4, 5, 6, 7, 8, 9, 10, 11] (Tr.an 12 Tr.nil)) h33 fun _ h35 => ?_
 have h36 := tk8 (sf7 (sf6 (sf7 (sf7 (sf7 (sf7 (sf7 (sf7 h35))))))))
 refine go [rd 10 3 2 5 1 h35, rd 10 7 2 6 1 h35, rd 10 8 6 0 3 h35] <| cw1 Tryz.call66 (lgadd_ht l14 S.T S.now 2 y z wy ((S.q.headD 1)) (by omega) (by omega) (rel_attP hW15 hg hwy) hW15.ta (by omega)) h36 fun w37 h38 => ⟨kd [], ?_⟩
 refine go [.s 11 1] ?_
 by_cases c39 : (S.q.headD 1) = 1
 ·
  refine go [.v 11 1 (qeT ((S.q.headD 1)) 1)] <| dw (fls [0, 1, 2, 4] (Tr.an 3 (Tr.an 5 Tr.nil))) h38 fun _ h41 => ?_
  have h42 := tk8 (sf7 (sf6 (sf6 (sf7 (sf7 (sf7 (sf7 (sf7 h41))))))))
  refine go [rd 12 2 6 0 1 h41, rd 12 4 6 0 3 h41] <| cw1 Tryz.call67 (back_2 b f10 p11 d12 s13 l14 S.now) h42 fun _ h44 => ⟨kd [rd 0 4 6 0 3 h44], ?_⟩
  refine cw1 Tryz.call116 (punpin_ht p11 S.B y z y.toNat (thr_at hT) (thr_nat hg)) (tk8 (sf7 (sf6 (sf6 (sf6 (sf6 (sf7 (sf7 (sf7 h44))))))))) fun w46 h47 => ⟨kd [], ?_⟩
  refine go [] ?_
  have hp_ := rel_ok (S := S) (o := (2, y, z)) hwy hT hn
  have hp2_ : relS S (2, y, z) wy = ({ S with q := S.q.tail, T := S.T ++ [⟨S.now, (2, y, z), wy, S.q.headD 1⟩], B := giv S.B (2, y, z) } : Wst) := hp_.2.2.trans (if_pos (by omega))
  have h48 := tk8 (sf7 (sf7 (sf5 (sf7 (sf5 (sf4 (sf7 (sf7 h47))))))))
  have h49 : sat g w46 [Wd b ({ S with q := S.q.tail, T := S.T ++ [⟨S.now, (2, y, z), wy, S.q.headD 1⟩], B := giv S.B (2, y, z) } : Wst), Cl r17 [iV 2, iV y, uV z] 32, R] := wd_close (hp2_ ▸ wok_rel hW15 (2, y, z) wy) h48
  exact en (.tuple #[iV ((S.q.headD 1)), iV 0]) [] ⟨_, [Wd b ({ S with q := S.q.tail, T := S.T ++ [⟨S.now, (2, y, z), wy, S.q.headD 1⟩], B := giv S.B (2, y, z) } : Wst)], rfl, ⟨by rw [hp_.1, hp_.2.1], by rw [hp2_]⟩, (tk2 (sf1 (sf2 h49)))⟩
 refine go [.v 11 1 (qeF ((S.q.headD 1)) 1)] ?_
 have hp_ := rel_ok (S := S) (o := (2, y, z)) hwy hT hn
 have hp2_ : relS S (2, y, z) wy = ({ S with q := S.q.tail, T := S.T ++ [⟨S.now, (2, y, z), wy, S.q.headD 1⟩] } : Wst) := hp_.2.2.trans (if_neg (by omega))
 have h51 := tk8 (sf7 (sf7 (sf7 (sf7 (sf3 (sf2 (sf7 (sf7 h38))))))))
 have h52 : sat g w37 [Wd b ({ S with q := S.q.tail, T := S.T ++ [⟨S.now, (2, y, z), wy, S.q.headD 1⟩] } : Wst), Cl r17 [iV 2, iV y, uV z] 32, R] := wd_close (hp2_ ▸ wok_rel hW15 (2, y, z) wy) h51
 exact en (.tuple #[iV ((S.q.headD 1)), iV 0]) [] ⟨_, [Wd b ({ S with q := S.q.tail, T := S.T ++ [⟨S.now, (2, y, z), wy, S.q.headD 1⟩] } : Wst)], rfl, ⟨by rw [hp_.1, hp_.2.1], by rw [hp2_]⟩, (tk2 (sf1 (sf2 h52)))⟩

set_option maxHeartbeats 4000000 in
theorem wrel_3 (b : Nat) (S : Wst) (y z : Int) (hz0 : 0 ≤ z) (hz1 : z ≤ 4294967295) (hg : KGood (3, y, z)) (hy0 : 0 ≤ y) (hy1 : y ≤ 63) (hz : 1 ≤ z) (hT : Thr S (3, y, z)) (wy : Int) (hwy : 1 ≤ wy ∧ wy ≤ 3) (hn : S.T.length < 10000) : HT Tryz.prog 27 [pV b, .agg #[iV 3, iV y, uV z], iV wy] [Wd b S] (fun v K => v = .tuple #[iV (relA S (3, y, z) wy), iV (relE S (3, y, z) wy)] ∧ K = [Wd b (relS S (3, y, z) wy)]) := by
 refine hiS Tryz.func27 Tryz.ntmps27 fun g w0 R h0 => ?_
 obtain ⟨f10, p11, d12, s13, l14, hW15, h16⟩ := wd_open h0
 have hW15n := hW15.nl; have hW15m := hW15.nh; have hW15t := hW15.tn
 refine go [] <| nP 32 [iV 3, iV y, uV z] h16 (fun r17 _ h19 => ?_)
 have h20 := tk8 (sf7 (sf6 (sf7 (sf7 (sf7 (sf7 (sf7 (sf7 h19))))))))
 refine go [] <| cl1 Tryz.call56 (wvalid_cl b l14 Value.nilIface (.iface 84 (pV f10)) (.iface 87 (pV p11)) (.iface 90 (pV d12)) (pV s13) (iV S.now)) h20 fun _ h22 => go [rd 3 0 1 0 3 h22] <| cl0 Tryz.call15 (couter_ok 3 y z (by omega) (by omega) (by omega)) h22 fun _ h24 => ?_
 have h25 := tk8 (sf7 (sf7 (sf7 (sf7 (sf7 (sf7 (sf2 (sf7 h24))))))))
 refine go [.v 3 5 (oF (wy < 1)), .v 3 9 (oF (wy > 3)), rd 5 1 1 0 3 h24] <| cl6 Tryz.call16 ((by have h_ := has_ht b f10 p11 d12 s13 l14 S hW15 3 y z (by omega) (by omega); rw [decide_eq_true hT] at h_; exact h_)) h25 fun _ h27 => ?_
 have h28 := tk8 (sf7 (sf6 (sf6 (sf6 (sf6 (sf6 (sf7 (sf7 h27))))))))
 refine go [rd 7 3 0 5 1 h27] <| cl1 Tryz.call23 (lglen_ht l14 S.T) h28 fun _ h30 => ?_
 have h31 := tk8 (sf7 (sf6 (sf6 (sf6 (sf6 (sf6 (sf7 (sf7 h30))))))))
 refine go [.v 7 5 (oF (((S.T.length : Nat) : Int) ≥ 10000)), rd 9 3 1 4 1 h30] <| cl1 Tryz.call65 (next_ht s13 S.q) h31 fun _ h33 => go [] <| dw (fls [0, 1, 2, 3, 4, 5, 6, 7, 8, 9, 10, 11] (Tr.an 12 Tr.nil)) h33 fun _ h35 => ?_
 have h36 := tk8 (sf7 (sf6 (sf7 (sf7 (sf7 (sf7 (sf7 (sf7 h35))))))))
 refine go [rd 10 3 2 5 1 h35, rd 10 7 2 6 1 h35, rd 10 8 6 0 3 h35] <| cw1 Tryz.call66 (lgadd_ht l14 S.T S.now 3 y z wy ((S.q.headD 1)) (by omega) (by omega) (rel_attP hW15 hg hwy) hW15.ta (by omega)) h36 fun w37 h38 => ⟨kd [], ?_⟩
 refine go [.s 11 1] ?_
 by_cases c39 : (S.q.headD 1) = 1
 ·
  refine go [.v 11 1 (qeT ((S.q.headD 1)) 1)] <| dw (fls [0, 1, 2, 4] (Tr.an 3 (Tr.an 5 Tr.nil))) h38 fun _ h41 => ?_
  have h42 := tk8 (sf7 (sf6 (sf6 (sf7 (sf7 (sf7 (sf7 (sf7 h41))))))))
  refine go [rd 12 2 6 0 1 h41, rd 12 4 6 0 3 h41] <| cw1 Tryz.call67 (back_3 b f10 p11 d12 s13 l14 S.now) h42 fun _ h44 => ⟨kd [rd 0 4 6 0 3 h44], ?_⟩
  refine cw1 Tryz.call117 (dreturn_ht d12 S.D y z y.toNat (thr_at hT) (thr_nat hg) (by omega)) (tk8 (sf7 (sf6 (sf6 (sf6 (sf6 (sf6 (sf7 (sf7 h44))))))))) fun w46 h47 => ⟨kd [], ?_⟩
  refine go [] ?_
  have hp_ := rel_ok (S := S) (o := (3, y, z)) hwy hT hn
  have hp2_ : relS S (3, y, z) wy = ({ S with q := S.q.tail, T := S.T ++ [⟨S.now, (3, y, z), wy, S.q.headD 1⟩], D := giv S.D (3, y, z) } : Wst) := hp_.2.2.trans (if_pos (by omega))
  have h48 := tk8 (sf7 (sf7 (sf7 (sf4 (sf5 (sf4 (sf7 (sf7 h47))))))))
  have h49 : sat g w46 [Wd b ({ S with q := S.q.tail, T := S.T ++ [⟨S.now, (3, y, z), wy, S.q.headD 1⟩], D := giv S.D (3, y, z) } : Wst), Cl r17 [iV 3, iV y, uV z] 32, R] := wd_close (hp2_ ▸ wok_rel hW15 (3, y, z) wy) h48
  exact en (.tuple #[iV ((S.q.headD 1)), iV 0]) [] ⟨_, [Wd b ({ S with q := S.q.tail, T := S.T ++ [⟨S.now, (3, y, z), wy, S.q.headD 1⟩], D := giv S.D (3, y, z) } : Wst)], rfl, ⟨by rw [hp_.1, hp_.2.1], by rw [hp2_]⟩, (tk2 (sf1 (sf2 h49)))⟩
 refine go [.v 11 1 (qeF ((S.q.headD 1)) 1)] ?_
 have hp_ := rel_ok (S := S) (o := (3, y, z)) hwy hT hn
 have hp2_ : relS S (3, y, z) wy = ({ S with q := S.q.tail, T := S.T ++ [⟨S.now, (3, y, z), wy, S.q.headD 1⟩] } : Wst) := hp_.2.2.trans (if_neg (by omega))
 have h51 := tk8 (sf7 (sf7 (sf7 (sf7 (sf3 (sf2 (sf7 (sf7 h38))))))))
 have h52 : sat g w37 [Wd b ({ S with q := S.q.tail, T := S.T ++ [⟨S.now, (3, y, z), wy, S.q.headD 1⟩] } : Wst), Cl r17 [iV 3, iV y, uV z] 32, R] := wd_close (hp2_ ▸ wok_rel hW15 (3, y, z) wy) h51
 exact en (.tuple #[iV ((S.q.headD 1)), iV 0]) [] ⟨_, [Wd b ({ S with q := S.q.tail, T := S.T ++ [⟨S.now, (3, y, z), wy, S.q.headD 1⟩] } : Wst)], rfl, ⟨by rw [hp_.1, hp_.2.1], by rw [hp2_]⟩, (tk2 (sf1 (sf2 h52)))⟩

theorem wrel_ht (b : Nat) (S : Wst) (x y z wy : Int) (hz0 : 0 ≤ z) (hz1 : z ≤ 4294967295) : HT Tryz.prog 27 [pV b, .agg #[iV x, iV y, uV z], iV wy] [Wd b S] (fun v K => v = Value.tuple #[Value.int .i64 (relA S (x, y, z) wy), Value.int .i64 (relE S (x, y, z) wy)] ∧ K = [Wd b (relS S (x, y, z) wy)]) := by
  by_cases h : KGood (x, y, z)
  · by_cases hw : 1 ≤ wy ∧ wy ≤ 3
    · by_cases hT : Thr S (x, y, z)
      · by_cases hn : S.T.length < 10000
        · rcases kgood_k h with h1 | h1 | h1
          · have h2 : x = 1 := h1
            subst h2
            exact wrel_1 b S y z hz0 hz1 h h.2.2.1 h.2.2.2.1 h.2.2.2.2 hT wy hw hn
          · have h2 : x = 2 := h1
            subst h2
            exact wrel_2 b S y z hz0 hz1 h h.2.2.1 h.2.2.2.1 h.2.2.2.2 hT wy hw hn
          · have h2 : x = 3 := h1
            subst h2
            exact wrel_3 b S y z hz0 hz1 h h.2.2.1 h.2.2.2.1 h.2.2.2.2 hT wy hw hn
        · exact wrel_full b S x y z hz0 hz1 h h.2.2.1 h.2.2.2.1 h.2.2.2.2 ⟨h.1, h.2.1⟩ hT wy hw (by omega)
      · exact wrel_none b S x y z hz0 hz1 h h.2.2.1 h.2.2.2.1 h.2.2.2.2 ⟨h.1, h.2.1⟩ hT wy hw
    · exact wrel_wy b S x y z hz0 hz1 h h.2.2.1 h.2.2.2.1 h.2.2.2.2 ⟨h.1, h.2.1⟩ wy (by omega)
  · exact wrel_no b S x y z wy hz0 hz1 h

end Go.Proofs.YtggfnbpohmhphaaGreatDoor

/-
  Steps of scripts, and what they do. No program in sight.
-/
namespace Go.Proofs.YtggfnbpohmhphaaGreatDoor
structure Sq where
  d : Int
  k : Int
  a : Int
  o : Ky
  wy : Int
  tk : Int
  tx : List UInt8
def eSq (s : Sq) : List Value := [.int .i64 s.d, .int .i64 s.k, .int .i64 s.a, .int .i64 s.o.1, .int .i64 s.o.2.1, .int .u32 s.o.2.2, .int .i64 s.wy, .int .i64 s.tk, .string (St s.tx)]
theorem eSq_ok : Enc 9 eSq := ⟨fun _ => rfl, fun x v hv => by simp [eSq] at hv; rcases hv with rfl | rfl | rfl | rfl | rfl | rfl | rfl | rfl | rfl <;> rfl⟩
def SqOk (s : Sq) : Prop := 0 ≤ s.o.2.2 ∧ s.o.2.2 ≤ 4294967295
/-- Short scripts. -/
def Sho (L : List Sq) (m : Int) : Prop := (L.length : Int) ≤ m ∧ ∀ s ∈ L, s.tx.length ≤ 40
instance (L : List Sq) (m : Int) : Decidable (Sho L m) := by unfold Sho; infer_instance
theorem sho_no {L : List Sq} {m : Int} (h : m < (L.length : Int)) : decide (Sho L m) = false := decide_eq_false fun q => by have := q.1; omega
theorem sho_long {L : List Sq} {m : Int} {i : Nat} {s : Sq} (hs : L[i]? = some s) (h : 40 < s.tx.length) : decide (Sho L m) = false := decide_eq_false fun q => by have := q.2 s (List.mem_of_getElem? hs); omega
theorem sho_yes {L : List Sq} {m : Int} {i : Nat} (h : (L.length : Int) ≤ m) (h2 : ∀ s ∈ L.take i, s.tx.length ≤ 40) (hi : L.length ≤ i) : decide (Sho L m) = true := decide_eq_true ⟨h, fun s hs => h2 s (by rw [List.take_of_length_le hi]; exact hs)⟩
theorem tk_all2 {α : Type} {p : α → Prop} {L : List α} {i : Nat} {x : α} (h : ∀ s ∈ L.take i, p s) (hx : L[i]? = some x) (hp : p x) : ∀ s ∈ L.take (i + 1), p s := fun s hs => by
  rw [List.take_add_one, hx] at hs
  rcases List.mem_append.1 hs with hs | hs
  · exact h s hs
  · rw [Option.toList_some, List.mem_singleton] at hs
    rw [hs]
    exact hp
section
variable {S : Wst} {s : Sq}
end
theorem allK_le (k : Int) {X : Xs} (h : X.length = 64) : (allK k X).length ≤ 64 := by
  rw [allK_len]
  have := inS_len 1 (As X) 0
  rw [as_len, h] at this
  exact this
theorem allS_le {S : Wst} (h : WOk S) : (allS S).length ≤ 192 := by
  have h1 := allK_le 1 h.fl
  have h2 := allK_le 2 h.bl
  have h3 := allK_le 3 h.dl
  unfold allS
  rw [List.length_append, List.length_append]
  omega
theorem same_f2 {L M : List Ky} {i : Nat} {x y : Ky} (hx : L[i]? = some x) (hy : M[i]? = some y) (h : ¬ (x.1 = y.1 ∧ x.2.1 = y.2.1 ∧ x.2.2 = y.2.2)) : decide (L = M) = false := decide_eq_false fun e => by
  subst e
  rw [hx] at hy
  obtain rfl := Option.some.inj hy
  exact h ⟨rfl, rfl, rfl⟩
theorem same_go2 {L M : List Ky} {i : Nat} {x y : Ky} (h : L.take i = M.take i) (hx : L[i]? = some x) (hy : M[i]? = some y) (e : x.1 = y.1 ∧ x.2.1 = y.2.1 ∧ x.2.2 = y.2.2) : L.take (i + 1) = M.take (i + 1) := by
  obtain ⟨a, b, c⟩ := x
  obtain ⟨a', b', c'⟩ := y
  obtain ⟨rfl, rfl, rfl⟩ := e
  rw [List.take_add_one, List.take_add_one, h, hx, hy]
theorem same_t2 {L M : List Ky} {i : Nat} (h : L.take i = M.take i) (h1 : L.length ≤ i) (h2 : M.length ≤ i) : decide (L = M) = true := by
  rw [List.take_of_length_le h1, List.take_of_length_le h2] at h
  exact decide_eq_true h
theorem same_n2 {L M : List Ky} (h : L.length ≠ M.length) : decide (L = M) = false := decide_eq_false fun e => h (by rw [e])
end Go.Proofs.YtggfnbpohmhphaaGreatDoor

/-
  What steps do to what is there, to the attempts and to the time. No program in sight.
-/
namespace Go.Proofs.YtggfnbpohmhphaaGreatDoor
section
variable {X : Xs} {S : Wst} {s : Sq} {o o' : Ky} {k a y t : Int}
theorem tab_len (h : WOk S) (k : Int) : (S.tab k).length = 64 := by
  unfold Wst.tab
  split
  · exact h.fl
  · split
    · exact h.bl
    · exact h.dl
theorem tab_ok (h : WOk S) (k : Int) : Sok (As (S.tab k)) := by
  unfold Wst.tab
  split
  · exact h.fk
  · split
    · exact h.bk
    · exact h.dk
/-- Members. -/
theorem mem_all (hW : WOk S) (h : o ∈ allS S) : Thr S o := by
  have key : ∀ {k : Int} {X : Xs}, X = S.tab k → (k = 1 ∨ k = 2 ∨ k = 3) → o ∈ allK k X → Thr S o := by
    intro k X hX hk hm
    subst hX
    unfold allK at hm
    obtain ⟨⟨j, g⟩, h1, rfl⟩ := List.mem_map.1 hm
    obtain ⟨i, hi⟩ := List.getElem?_of_mem h1
    have h3 := (inS_mem hi).2
    rw [Nat.sub_zero] at h3
    have h4 := (List.getElem?_eq_some_iff.1 h3).1
    rw [as_len, tab_len hW] at h4
    have h5 := (tab_ok hW k) _ (List.mem_of_getElem? h3)
    refine ⟨⟨by show 1 ≤ k; omega, by show k ≤ 3; omega, by show (0 : Int) ≤ (j : Int); omega, by show (j : Int) ≤ 63; omega, h5.2.2.1⟩, ?_⟩
    show (As (S.tab k))[((j : Int)).toNat]? = some (1, g)
    rw [Int.toNat_natCast]
    exact h3
  unfold allS at h
  rcases List.mem_append.1 h with h | h
  · exact key (tab1 S).symm (.inl rfl) h
  · rcases List.mem_append.1 h with h | h
    · exact key (tab2 S).symm (.inr (.inl rfl)) h
    · exact key (tab3 S).symm (.inr (.inr rfl)) h
end
end Go.Proofs.YtggfnbpohmhphaaGreatDoor

/-
  Answers that are added, acquisitions with them, and a release. No program in sight.
-/
namespace Go.Proofs.YtggfnbpohmhphaaGreatDoor
section
variable {S : Wst} {o : Ky} {k a y : Int} {q : List Int}
end
end Go.Proofs.YtggfnbpohmhphaaGreatDoor

/-
  The document's tables: what is asked of their lists. No program in sight.
-/
namespace Go.Proofs.YtggfnbpohmhphaaGreatDoor
/-- What is not taken has no value. -/
def Zv (X : Xs) : Prop := ∀ x ∈ X, x.1 ≠ 1 → x.2.2 = 0
section
variable {A : List Sl2} {X : Xs} {i j q : Nat} {g z v : Int}
theorem sok_rep {n : Nat} (h : 1 ≤ g ∧ g ≤ 4294967295) : Sok (List.replicate n (0, g)) := fun s hs => by
  rw [List.eq_of_mem_replicate hs]
  exact ⟨by show (0 : Int) ≤ 0; decide, by show (0 : Int) ≤ 2; decide, h.1, h.2⟩
theorem sok_set (h : Sok A) {y : Sl2} (hy : 0 ≤ y.1 ∧ y.1 ≤ 2 ∧ 1 ≤ y.2 ∧ y.2 ≤ 4294967295) : Sok (A.set i y) := fun s hs => by
  rcases List.mem_or_eq_of_mem_set hs with h1 | rfl
  · exact h s h1
  · exact hy
theorem take_at0 (h : (inS 0 A 0)[0]? = some (i, g)) : takeV A = ((i : Int), g, 0) ∧ takeA A = A.set i (1, g) := by
  have hp := (List.getElem?_eq_some_iff.1 h).1
  have hd : (inS 0 A 0).getD 0 (0, 0) = (i, g) := getD_some h
  have := take_some hp
  rw [hd] at this
  exact this
theorem takeA_len (A : List Sl2) : (takeA A).length = A.length := by
  unfold takeA
  split
  · exact List.length_set
  · rfl
theorem sok_take (h : Sok A) : Sok (takeA A) := by
  unfold takeA
  split
  · rename_i hp
    have := h _ (List.mem_of_getElem? (inS_get hp))
    exact sok_set h ⟨by show (0 : Int) ≤ 1; decide, by show (1 : Int) ≤ 2; decide, this.2.2.1, this.2.2.2⟩
  · exact h
theorem free_all (hc : cnt 0 A i = 0) (hi : A.length ≤ i) : (inS 0 A 0).length = 0 := by
  unfold cnt at hc
  rwa [List.take_of_length_le hi] at hc
theorem giveA_len2 (A : List Sl2) (q : Nat) (z : Int) : (giveA A q z).length = A.length := by unfold giveA; split <;> exact List.length_set
theorem sok_give (h : Sok A) (hz : 1 ≤ z ∧ z ≤ 4294967295) : Sok (giveA A q z) := by
  unfold giveA
  split
  · exact sok_set h ⟨by show (0 : Int) ≤ 0; decide, by show (0 : Int) ≤ 2; decide, by show 1 ≤ z + 1; omega, by show z + 1 ≤ 4294967295; omega⟩
  · exact sok_set h ⟨by show (0 : Int) ≤ 2; decide, by show (2 : Int) ≤ 2; decide, hz.1, hz.2⟩
theorem thr_s4 (hT : A[j]? = some (1, z)) (hj : j = q) {x : Sl2} (hx : A[q]? = some x) : x.1 = 1 ∧ x.2 = z := by
  subst hj
  rw [hT] at hx
  obtain rfl := Option.some.inj hx
  exact ⟨rfl, rfl⟩
theorem thr_x (hT : (As X)[j]? = some (1, z)) (hj : j = q) {x : Fl} (hx : X[q]? = some x) : x.1 = 1 ∧ x.2.1 = z := thr_s4 hT hj (as_get hx)
theorem zv_set (h : Zv X) {y : Fl} (hy : y.1 ≠ 1 → y.2.2 = 0) : Zv (X.set i y) := fun x hx h1 => by
  rcases List.mem_or_eq_of_mem_set hx with h2 | rfl
  · exact h x h2 h1
  · exact hy h1
theorem zv_rep {n : Nat} : Zv (List.replicate n (0, g, 0)) := fun x hx _ => by rw [List.eq_of_mem_replicate hx]
theorem zv_giv (h : Zv X) (o : Ky) : Zv (giv X o) := by
  refine zv_set h fun _ => ?_
  unfold shut
  split <;> rfl
theorem zv_grw (h : Zv X) (v : Int) : Zv (grw X v) := by
  unfold grw
  split
  · exact h
  · exact zv_set h fun q => absurd rfl q
theorem used_z : ∀ {X : Xs}, Zv X → used X = (X.map fun x => x.2.2).sum
  | [], _ => rfl
  | x :: X, h => by
    have h1 := used_z (X := X) fun y hy => h y (List.mem_cons_of_mem _ hy)
    unfold used at h1 ⊢
    rw [List.map_cons, List.map_cons, List.sum_cons, List.sum_cons, h1]
    by_cases hx : x.1 = 1
    · rw [if_pos hx]
    · rw [if_neg hx, h x List.mem_cons_self hx]
theorem tkR_go {s : Sl2} (h : A[i]? = some s) (h1 : s.1 = 1) : inS 1 (A.take i) 0 ++ [(i, s.2)] = inS 1 (A.take (i + 1)) 0 := by rw [inS_take h, if_pos h1]
theorem tkR_no {s : Sl2} (h : A[i]? = some s) (h1 : s.1 ≠ 1) : inS 1 (A.take i) 0 = inS 1 (A.take (i + 1)) 0 := by rw [inS_take h, if_neg h1, List.append_nil]
theorem tkR_all (h : A.length ≤ i) : inS 1 (A.take i) 0 = inS 1 A 0 := by rw [List.take_of_length_le h]
/-- What is there among the first slots. -/
def allKT (k : Int) (X : Xs) (i : Nat) : List Ky := (inS 1 ((As X).take i) 0).map fun r => (k, (r.1 : Int), r.2)
theorem akT_go {k : Int} {x : Fl} (h : X[i]? = some x) (h1 : x.1 = 1) : allKT k X i ++ [(k, (i : Int), x.2.1)] = allKT k X (i + 1) := by
  unfold allKT
  rw [← tkR_go (as_get h) h1, List.map_append]
  rfl
theorem akT_no {k : Int} {x : Fl} (h : X[i]? = some x) (h1 : x.1 ≠ 1) : allKT k X i = allKT k X (i + 1) := by
  unfold allKT
  rw [← tkR_no (as_get h) h1]
theorem akT_all {k : Int} (h : X.length ≤ i) : allKT k X i = allK k X := by
  unfold allKT allK
  rw [tkR_all (by rw [as_len]; exact h)]
def ky3 (r : Nat × Int) : Ky := (3, (r.1 : Int), r.2)
theorem ky3_all {i : Nat} (h : (inS 1 (As X) 0).length ≤ i) : ((inS 1 (As X) 0).take i).map ky3 = allK 3 X := by
  rw [List.take_of_length_le h]
  rfl
def useP (X : Xs) (i : Nat) : Int := ((X.take i).map fun x => x.2.2).sum
theorem useP_go {x : Fl} (h : X[i]? = some x) : useP X (i + 1) = useP X i + x.2.2 := by
  unfold useP
  rw [List.take_add_one, h, List.map_append, List.sum_append]
  simp
theorem useP_all (hz : Zv X) (h : X.length ≤ i) : useP X i = used X := by
  unfold useP
  rw [List.take_of_length_le h, used_z hz]
theorem zb_at (hz : Zv X) (hb : Bnd X) {x : Fl} (h : X[i]? = some x) : 0 ≤ x.2.2 ∧ x.2.2 ≤ 65536 := by
  have hm := List.mem_of_getElem? h
  by_cases h1 : x.1 = 1
  · exact hb x hm h1
  · rw [hz x hm h1]; decide
theorem useP_bd (hz : Zv X) (hb : Bnd X) : ∀ i : Nat, i ≤ X.length → 0 ≤ useP X i ∧ useP X i ≤ 65536 * (i : Int)
  | 0, _ => ⟨Int.le_refl _, Int.le_refl _⟩
  | i + 1, hi => by
    have h1 := useP_bd hz hb i (by omega)
    have h2 := zb_at hz hb (List.getElem?_eq_getElem (show i < X.length by omega))
    rw [useP_go (List.getElem?_eq_getElem (show i < X.length by omega))]
    omega
theorem thr_iff {S : Wst} (hW : WOk S) (o : Ky) : o ∈ allS S ↔ Thr S o := by
  refine ⟨mem_all hW, fun h => ?_⟩
  obtain ⟨hk, ht⟩ := h
  obtain ⟨k, y, z⟩ := o
  have h2 := (thr_mem (X := S.tab k) (k := k) (y := y) (z := z) hk.2.2.1).2 ht
  unfold allS
  rcases kgood_k hk with e | e | e <;> (have e' : k = _ := e; subst e')
  · exact List.mem_append_left _ h2
  · exact List.mem_append_right _ (List.mem_append_left _ h2)
  · exact List.mem_append_right _ (List.mem_append_right _ h2)
theorem zv_pin (h : Zv X) (v : Int) : Zv (pinX X v) := by
  unfold pinX
  split
  · exact zv_grw h v
  · exact h
theorem at_ext {a b : At} (h : a.at_ = b.at_ ∧ a.out.1 = b.out.1 ∧ a.out.2.1 = b.out.2.1 ∧ a.out.2.2 = b.out.2.2 ∧ a.why = b.why ∧ a.ans = b.ans) : a = b := by
  obtain ⟨t1, ⟨o1, o2, o3⟩, w1, n1⟩ := a
  obtain ⟨t2, ⟨p1, p2, p3⟩, w2, n2⟩ := b
  obtain ⟨h1, h2, h3, h4, h5, h6⟩ := h
  simp only at h1 h2 h3 h4 h5 h6
  subst h1 h2 h3 h4 h5 h6
  rfl
instance : DecidableEq At := fun a b => if h : a.at_ = b.at_ ∧ a.out.1 = b.out.1 ∧ a.out.2.1 = b.out.2.1 ∧ a.out.2.2 = b.out.2.2 ∧ a.why = b.why ∧ a.ans = b.ans then .isTrue (at_ext h) else .isFalse fun e => h (by rw [e]; exact ⟨rfl, rfl, rfl, rfl, rfl, rfl⟩)
theorem sat_f2 {L M : List At} {i : Nat} {x y : At} (hx : L[i]? = some x) (hy : M[i]? = some y) (h : ¬ (x.at_ = y.at_ ∧ x.out.1 = y.out.1 ∧ x.out.2.1 = y.out.2.1 ∧ x.out.2.2 = y.out.2.2 ∧ x.why = y.why ∧ x.ans = y.ans)) : decide (L = M) = false := decide_eq_false fun e => by
  subst e
  rw [hx] at hy
  obtain rfl := Option.some.inj hy
  exact h ⟨rfl, rfl, rfl, rfl, rfl, rfl⟩
theorem sat_go2 {L M : List At} {i : Nat} {x y : At} (h : L.take i = M.take i) (hx : L[i]? = some x) (hy : M[i]? = some y) (e : x.at_ = y.at_ ∧ x.out.1 = y.out.1 ∧ x.out.2.1 = y.out.2.1 ∧ x.out.2.2 = y.out.2.2 ∧ x.why = y.why ∧ x.ans = y.ans) : L.take (i + 1) = M.take (i + 1) := by
  obtain rfl := at_ext e
  rw [List.take_add_one, List.take_add_one, h, hx, hy]
theorem sat_t2 {L M : List At} {i : Nat} (h : L.take i = M.take i) (h1 : L.length ≤ i) (h2 : M.length ≤ i) : decide (L = M) = true := by
  rw [List.take_of_length_le h1, List.take_of_length_le h2] at h
  exact decide_eq_true h
theorem sat_n2 {L M : List At} (h : L.length ≠ M.length) : decide (L = M) = false := decide_eq_false fun e => h (by rw [e])
theorem fre_at0 (h : (inS 0 (As X) 0)[0]? = some (i, g)) : fre X = some (i, g) := h
theorem slk_set2 (h : SlOk (As X)) {y : Fl} (hy : 0 ≤ y.1 ∧ y.1 ≤ 2 ∧ 1 ≤ y.2.1 ∧ y.2.1 ≤ 4294967295) : SlOk (As (X.set i y)) := slk_set h hy
theorem bnd_set (h : Bnd X) {y : Fl} (hy : y.1 = 1 → 0 ≤ y.2.2 ∧ y.2.2 ≤ 65536) : Bnd (X.set i y) := fun x hx h1 => by
  rcases List.mem_or_eq_of_mem_set hx with hx | rfl
  · exact h x hx h1
  · exact hy h1
theorem pr_set (h : X.length = 64 ∧ SlOk (As X) ∧ Bnd X ∧ Zv X) {y : Fl} (h1 : 0 ≤ y.1 ∧ y.1 ≤ 2 ∧ 1 ≤ y.2.1 ∧ y.2.1 ≤ 4294967295) (h2 : y.1 = 1 → 0 ≤ y.2.2 ∧ y.2.2 ≤ 65536) (h3 : y.1 ≠ 1 → y.2.2 = 0) : (X.set i y).length = 64 ∧ SlOk (As (X.set i y)) ∧ Bnd (X.set i y) ∧ Zv (X.set i y) := ⟨List.length_set.trans h.1, slk_set2 h.2.1 h1, bnd_set h.2.2.1 h2, zv_set h.2.2.2 h3⟩
end
end Go.Proofs.YtggfnbpohmhphaaGreatDoor

/-
  More about tables of files, as plain functions: what the document does. No program in sight.
-/
namespace Go.Proofs.YtggfnbpohmhphaaGreatDoor
theorem slok_set {X : Xs} {q : Nat} {y : Fl} (h : SlOk (As X)) (hy : 0 ≤ y.1 ∧ y.1 ≤ 2 ∧ 1 ≤ y.2.1 ∧ y.2.1 ≤ 4294967295) : SlOk (As (X.set q y)) := by
  rw [as_set]
  intro s hs
  rcases List.mem_or_eq_of_mem_set hs with h1 | rfl
  · exact h s h1
  · exact hy
theorem shut_lt {z : Int} (h : z < 4294967295) : shut z = (0, z + 1, 0) := if_pos h
theorem shut_ge {z : Int} (h : ¬ z < 4294967295) : shut z = (2, z, 0) := if_neg h
theorem shut_ok {z : Int} (h : 1 ≤ z ∧ z ≤ 4294967295) : 0 ≤ (shut z).1 ∧ (shut z).1 ≤ 2 ∧ 1 ≤ (shut z).2.1 ∧ (shut z).2.1 ≤ 4294967295 := by
  by_cases hz : z < 4294967295
  · rw [shut_lt hz]
    refine ⟨by show (0 : Int) ≤ 0; decide, by show (0 : Int) ≤ 2; decide, ?_, ?_⟩
    · show 1 ≤ z + 1
      omega
    · show z + 1 ≤ 4294967295
      omega
  · rw [shut_ge hz]
    exact ⟨by show (0 : Int) ≤ 2; decide, by show (2 : Int) ≤ 2; decide, h.1, h.2⟩
theorem clsx_ok {X : Xs} {x y z : Int} {q : Nat} (h : errA (As X) (x, y, z) = 0) (hq : y = (q : Int)) : X.set q (shut z) = clsX X (x, y, z) := by
  unfold clsX
  rw [if_pos h]
  show _ = X.set y.toNat (shut z)
  rw [hq, Int.toNat_natCast]
theorem clsx_no {X : Xs} {o : Ky} {e : Int} (h : errA (As X) o = e) (he : e ≠ 0) : X = clsX X o := by
  unfold clsX
  rw [if_neg (by rw [h]; exact he)]
theorem slok_cls {X : Xs} {o : Ky} (h : SlOk (As X)) : SlOk (As (clsX X o)) := by
  unfold clsX
  split
  · rename_i hc
    obtain ⟨_, _, _, h4⟩ := chk_zero hc
    have := h _ (List.mem_of_getElem? h4)
    exact slok_set h (shut_ok ⟨this.2.2.1, this.2.2.2⟩)
  · exact h
theorem len_cls (X : Xs) (o : Ky) : (clsX X o).length = X.length := by
  unfold clsX
  split
  · exact List.length_set
  · rfl
theorem slok_opn {X : Xs} {v : Int} (h : SlOk (As X)) : SlOk (As (opnX X v)) := by
  unfold opnX
  split
  · exact h
  · split
    · rename_i hc
      have h4 := inS_get hc
      have := h _ (List.mem_of_getElem? h4)
      exact slok_set h ⟨by show (0 : Int) ≤ 1; decide, by show (1 : Int) ≤ 2; decide, this.2.2.1, this.2.2.2⟩
    · exact h
theorem len_opn (X : Xs) (v : Int) : (opnX X v).length = X.length := by
  unfold opnX
  split
  · rfl
  · split
    · exact List.length_set
    · rfl
theorem slok_rep {n : Nat} {g : Int} (h : 1 ≤ g ∧ g ≤ 4294967295) : SlOk (As (List.replicate n (0, g, 0))) := by
  intro s hs
  unfold As at hs
  rw [List.map_replicate] at hs
  rw [List.eq_of_mem_replicate hs]
  exact ⟨by show (0 : Int) ≤ 0; decide, by show (0 : Int) ≤ 2; decide, h.1, h.2⟩
/-- The files that are open among the first ids. -/
def allT (X : Xs) (i : Nat) : List Ky := (inS 1 ((As X).take i) 0).map fun r => (1, (r.1 : Int), r.2)
theorem allT_go {X : Xs} {i : Nat} {x : Fl} (h : X[i]? = some x) (hx : x.1 = 1) : allT X i ++ [(1, (i : Int), x.2.1)] = allT X (i + 1) := by
  unfold allT
  rw [inS_take (as_get h), if_pos hx, List.map_append]
  rfl
theorem allT_no {X : Xs} {i : Nat} {x : Fl} (h : X[i]? = some x) (hx : x.1 ≠ 1) : allT X i = allT X (i + 1) := by
  unfold allT
  rw [inS_take (as_get h), if_neg hx, List.append_nil]
theorem allT_all {X : Xs} {i : Nat} (h : X.length ≤ i) : allT X i = allX X := by
  unfold allT allX
  rw [List.take_of_length_le (by rw [as_len]; exact h)]
theorem allX_len (X : Xs) : (allX X).length = (inS 1 (As X) 0).length := List.length_map _
theorem free_zero {X : Xs} {i : Nat} (h : X.length ≤ i) (hc : cnt 0 (As X) i = 0) : (inS 0 (As X) 0).length = 0 := by
  rw [← cnt_all 0 (A := As X) (i := i) (by rw [as_len]; exact h)]
  exact hc
end Go.Proofs.YtggfnbpohmhphaaGreatDoor

/- Walks, printed by my generator f9.py. -/
namespace Go.Proofs.YtggfnbpohmhphaaGreatDoor
section
variable {g w : World} {L : List Assn} {b n : Nat} {X Y : Xs}
theorem dc_close2 {p : Option Addr} {c : Nat} (h1 : X.length = n ∧ 1 ≤ n ∧ n ≤ 64 ∧ SlOk (As X)) (hl : Y.length = X.length) (hk : SlOk (As Y)) (h : sat g w (Cl b [.slice p n c] 163 :: Sl 165 4 p n c (fl eId Y) :: L)) : sat g w (Dc b n Y :: L) :=
  dc_close ⟨hl.trans h1.1, h1.2.1, h1.2.2.1, hk⟩ h
end
set_option maxHeartbeats 4000000 in
theorem r9new_ok (n : Nat) (gn : Int) (hn : 1 ≤ n ∧ n ≤ 64) (hgn : 1 ≤ gn ∧ gn ≤ 4294967295) : HT Tryz.prog 76 [iV (((n : Nat) : Int)), uV gn] [] (fun v K => ∃ b : Nat, v = .tuple #[pV b, iV 0] ∧ K = [Dc b n (List.replicate n (0, gn, 0))]) := by
 refine hiS Tryz.func76 Tryz.ntmps76 fun g w0 R h0 => go [.v 1 1 (oF ((n : Int) < 1)), .v 1 4 (oF ((n : Int) > 64)), .v 1 8 (qeF gn 0)] <| nP 163 [.slice none 0 0] h0 (fun r10 w11 h12 => ?_)
 refine go [] ?_
 have h13 : sat g w11 [Sl 165 4 none 0 0 (fl eId []), Cl r10 [.slice none 0 0] 163, R] := sl_nil 165 4 h12
 refine lpS (fun mz_ a w => ∃ i : Nat, ∃ p2 : Option Addr, ∃ c2 : Nat, ∃ lr : Fr, mz_ = n - i ∧ (i ≤ n) ∧ a = mk 37 (([(0, iV (n : Int)), (1, uV gn), (6, pV r10), (7, iV (i : Int))] : Fr) ++ lr) ∧ sat g w [Sl 165 4 p2 i c2 (fl eId (List.replicate i (0, gn, 0))), Cl r10 [.slice p2 i c2] 163, R]) (n - 0) ⟨0, none, 0, _, rfl, (Nat.zero_le _), (lvF [.k 0 (iV (n : Int)), .k 1 (uV gn), .k 6 (pV r10), .o 7 (oJ .i64 0 (0 : Int))]), h13⟩ ?_
 rintro m15 a16 w17 ⟨i, p2, c2, lr14, rfl, hi, rfl, h18⟩
 refine ga <| go [.s 5 2] ?_
 by_cases c19 : (i : Int) < (n : Int)
 ·
  refine go [.v 5 2 (oT ((i : Int) < (n : Int))), rd 7 4 1 0 1 h18] <| nG (fun q_ => .slice (some ⟨q_, 0, none⟩) 1 1) 165 [.bool false, .bool false, uV gn, iV 0] h18 (fun r20 _ h22 => ⟨kd [], ?_⟩)
  have h23 := tk4 (sf3 (sf2 (sf3 (sf3 h22))))
  refine actG ?_
  refine an_append (d := 33) (sz := 4) (s := (Operand.tmp 29)) (x := (Operand.tmp 32)) (z := .agg #[.bool false, .bool false, uV 0, iV 0]) (p := p2) (m := i) (c := c2) (k := 1) (c2 := 1) (a := ⟨r20, 0, none⟩) (by_ := 16) (by kernel_rfl) (by kernel_rfl) rfl Tryz.underlying161 (by kernel_rfl) rfl (by decide) (by kernel_rfl) (by kernel_rfl) h23 (fl eId [(0, gn, 0)]) rfl (fun j u hj => by rw [add_off]; exact sat_cell h23 1 rfl (by rw [Nat.zero_add]; exact hj)) (fl_one eId_ok _) (by omega) (by omega) (i + 1) (by omega) ?_
  intro p24 cap25 w26 h27
  have h28 : sat g w26 [Sl 165 4 p24 (i + 1) cap25 (fl eId ((List.replicate i (0, gn, 0)) ++ [(0, gn, 0)])), Cl r20 [.bool false, .bool false, uV gn, iV 0] 165, Cl r10 [.slice p2 i c2] 163, R] := sat_imp h27 (fun _ hh => by rw [fl_app]; exact hh)
  obtain ⟨hn29, hn30⟩ := sl_le h28
  refine nxA ?_
  have h31 := tk4 (sf3 (sf2 (sf2 (sf3 h28))))
  refine go [] <| sP [(0, .slice p24 (i + 1) cap25)] [.slice p24 (i + 1) cap25] h31 fun w32 h33 => go [.v 6 1 (oIr ((i : Int) + 1))] ?_
  refine enL ?_
  have h35 : sat g w32 [Sl 165 4 p24 (i + 1) cap25 (fl eId (List.replicate (i + 1) (0, gn, 0))), Cl r10 [.slice p24 (i + 1) cap25] 163, Cl r20 [.bool false, .bool false, uV gn, iV 0] 165, R] := sat_imp (tk4 (sf3 (sf2 (sf3 (sf3 h33))))) (fun _ hh_ => by rw [show (((List.replicate i (0, gn, 0)) ++ [(0, gn, 0)]) : List Fl) = (List.replicate (i + 1) (0, gn, 0)) from List.replicate_succ'.symm] at hh_; exact hh_)
  have h37 := tk3 (tk4 (sf3 (sf3 (sf3 (sf2 h35)))))
  change ∃ n', n' < _ ∧ _
  refine ⟨(n - (i + 1)), by omega, (i + 1), p24, cap25, _, rfl, (by omega), (lvF [.k 0 (iV (n : Int)), .k 1 (uV gn), .k 6 (pV r10), .o 7 (oJ .i64 ((i : Int) + 1) ((((i + 1) : Nat) : Int)))]), h37⟩
 refine go [.v 5 2 (oF ((i : Int) < (n : Int)))] <| up <| go [] ?_
 have h38 := tk3 (sf2 (sf1 (sf2 h18)))
 have hi_ : i = n := by omega
 have h39 : sat g w17 [Dc r10 n (List.replicate n (0, gn, 0)), R] := by rw [hi_] at h38; exact dc_close ⟨List.length_replicate, by omega, by omega, slok_rep ⟨by omega, by omega⟩⟩ h38
 exact en (.tuple #[pV r10, iV 0]) [] ⟨_, _, rfl, ⟨r10, rfl, rfl⟩, h39⟩

set_option maxHeartbeats 4000000 in
theorem dcouter_ok (x y z : Int) (hz0 : 0 ≤ z) (hz1 : z ≤ 4294967295) (hg : 1 ≤ x ∧ x ≤ 3 ∧ 0 ≤ y ∧ y ≤ 63 ∧ 1 ≤ z) : HT Tryz.prog 85 [.agg #[iV x, iV y, uV z]] [] (fun v K => v = iV 0 ∧ K = []) := by
 refine hiS Tryz.func85 Tryz.ntmps85 fun g w0 R h0 => go [] <| nP 32 [iV x, iV y, uV z] h0 (fun _ _ h12 => ?_)
 refine go [rd 1 1 0 0 1 h12, .v 1 2 (oF (x < 1)), rd 1 5 0 0 1 h12, .v 1 6 (oF (x > 3)), rd 1 10 0 1 1 h12, .v 1 11 (oF (y < 0)), rd 1 15 0 1 1 h12, .v 1 16 (oF (y ≥ 64)), rd 1 20 0 2 1 h12, .v 1 21 (qeF z 0)] ?_
 exact en (iV 0) [] ⟨_, _, rfl, ⟨rfl, rfl⟩, (tk1 (sf1 h12))⟩

set_option maxHeartbeats 4000000 in
theorem dcouter_no (x y z : Int) (hz0 : 0 ≤ z) (hz1 : z ≤ 4294967295) (hg : ¬ (1 ≤ x ∧ x ≤ 3 ∧ 0 ≤ y ∧ y ≤ 63 ∧ 1 ≤ z)) : HT Tryz.prog 85 [.agg #[iV x, iV y, uV z]] [] (fun v K => v = iV 2 ∧ K = []) := by
 refine hiS Tryz.func85 Tryz.ntmps85 fun g w0 R h0 => go [] <| nP 32 [iV x, iV y, uV z] h0 (fun _ _ h12 => ?_)
 refine go [rd 1 1 0 0 1 h12, .s 1 2] ?_
 by_cases c13 : x < 1
 ·
  refine go [.v 1 2 (oT (x < 1))] ?_
  exact en (iV 2) [] ⟨_, _, rfl, ⟨rfl, rfl⟩, (tk1 (sf1 h12))⟩
 refine go [.v 1 2 (oF (x < 1)), rd 1 5 0 0 1 h12, .s 1 6] ?_
 by_cases c15 : x > 3
 ·
  refine go [.v 1 6 (oT (x > 3))] ?_
  exact en (iV 2) [] ⟨_, _, rfl, ⟨rfl, rfl⟩, (tk1 (sf1 h12))⟩
 refine go [.v 1 6 (oF (x > 3)), rd 1 10 0 1 1 h12, .s 1 11] ?_
 by_cases c17 : y < 0
 ·
  refine go [.v 1 11 (oT (y < 0))] ?_
  exact en (iV 2) [] ⟨_, _, rfl, ⟨rfl, rfl⟩, (tk1 (sf1 h12))⟩
 refine go [.v 1 11 (oF (y < 0)), rd 1 15 0 1 1 h12, .s 1 16] ?_
 by_cases c19 : y ≥ 64
 ·
  refine go [.v 1 16 (oT (y ≥ 64))] ?_
  exact en (iV 2) [] ⟨_, _, rfl, ⟨rfl, rfl⟩, (tk1 (sf1 h12))⟩
 refine go [.v 1 16 (oF (y ≥ 64)), rd 1 20 0 2 1 h12, .v 1 21 (qeT z 0)] ?_
 exact en (iV 2) [] ⟨_, _, rfl, ⟨rfl, rfl⟩, (tk1 (sf1 h12))⟩

set_option maxHeartbeats 4000000 in
theorem r9chk_ht (b n : Nat) (X : Xs) (x y z : Int) (hz0 : 0 ≤ z) (hz1 : z ≤ 4294967295) : HT Tryz.prog 134 [pV b, .agg #[iV x, iV y, uV z]] [Dc b n X] (fun v K => v = iV (errA (As X) (x, y, z)) ∧ K = [Dc b n X]) := by
 refine hiS Tryz.func134 Tryz.ntmps134 fun g w0 R h0 => go [] <| nP 32 [iV x, iV y, uV z] h0 (fun r10 _ h12 => ?_)
 refine go [rd 1 0 0 0 3 h12] ?_
 by_cases c13 : 1 ≤ x
 ·
  by_cases c14 : x ≤ 3
  ·
   by_cases c15 : 0 ≤ y
   ·
    by_cases c16 : y ≤ 63
    ·
     by_cases c17 : 1 ≤ z
     ·
      refine cl0 Tryz.call85 (dcouter_ok x y z (by omega) (by omega) (by omega)) h12 fun _ h19 => go [rd 1 5 0 0 1 h19, .s 1 6] ?_
      by_cases c20 : x = 1
      ·
       refine go [.v 1 6 (qnF x 1)] <| dw (fls [0, 1, 2, 3, 4, 5, 6, 7] Tr.nil) h19 fun w21 h22 => ?_
       obtain ⟨p24, c25, hD26, h27⟩ := dc_open (tk3 (sf2 (sf1 (sf2 h22))))
       have hXl_ := hD26.1; have hn1_ := hD26.2.1; have hn64_ := hD26.2.2.1; have hok_ := hD26.2.2.2; have hal_ := as_len X
       refine go [rd 3 1 0 1 1 h22, rd 3 5 0 0 1 h27, .s 3 7] ?_
       by_cases c28 : y ≥ (n : Int)
       ·
        refine go [.v 3 7 (oT (y ≥ (n : Int)))] ?_
        have he_ : errA (As X) (x, y, z) = 3 := chk_range (As X) (as_len X) (by omega) (by omega) (by omega) (by omega) (by omega)
        have h29 : sat g w21 [Dc b n X, Cl r10 [iV x, iV y, uV z] 32, R] := dc_close hD26 h27
        exact en (iV 3) [] ⟨_, _, rfl, ⟨by rw [he_], rfl⟩, (tk2 (sf1 (sf2 h29)))⟩
       refine go [.v 3 7 (oF (y ≥ (n : Int)))] <| dw (fls [0, 1, 2, 3, 4, 5, 6, 7, 8, 9, 10, 11, 12, 13, 14, 15, 16, 17, 18, 19, 20, 21, 22, 23] Tr.nil) h27 fun w31 h32 => ?_
       obtain ⟨b33, hp34⟩ := sl_ptr0 (j := 1) h32 rfl (by omega)
       obtain ⟨kk35, hk36⟩ : ∃ z_ : Nat, y = (z_ : Int) := ⟨(y).toNat, by omega⟩
       refine go [rd 5 3 0 0 1 h32, rd 5 5 2 1 1 h32, .s 5 6] <| lw (.pointer (some ⟨b33, kk35 * 4, none⟩)) (fun _ => law_indexSlP (x := (Operand.tmp 24)) (i := (Operand.tmp 26)) (p := p24) (b := b33) (off := 0) (z := y) (len := n) (cap := c25) (by kernel_rfl) Tryz.underlying161 4 (by kernel_rfl) kk35 (by kernel_rfl) hp34 (by kernel_rfl) (by omega) (by omega) (kk35 * 4) (by omega) _) ?_
       have h37 := tk4 (sf3 (sf2 (sf3 (sf3 h32))))
       have hl38 := fl_n eId_ok (by decide) h37
       obtain ⟨x39, hx40⟩ : ∃ x, X[kk35]? = some x := ⟨_, List.getElem?_eq_getElem (by rw [hl38]; omega)⟩
       have hb41 := slOk_as hok_ hx40
       refine go [.s 5 8] ?_
       by_cases c42 : x39.1 = 1
       ·
        refine go [((Iq.r 5 8 b33 (kk35 * 4) [.bool (decide (x39.1 = 1))] ⟨gv_cell (j := 0) h37 rfl (gv_sl _ _ _) hp34 (fl_get eId_ok (j := 0) (v := .bool (decide (x39.1 = 1))) hx40 rfl) (kk35 * 4) (by omega), trivial⟩)).b (⟨.bool (decide (x39.1 = 1)), .bool true, (ov_b (decide_eq_true (by omega)))⟩), rd 5 14 1 0 1 h37, rd 5 16 2 1 1 h37, .s 5 17] <| lw (.pointer (some ⟨b33, kk35 * 4, none⟩)) (fun _ => law_indexSlP (x := (Operand.tmp 35)) (i := (Operand.tmp 37)) (p := p24) (b := b33) (off := 0) (z := y) (len := n) (cap := c25) (by kernel_rfl) Tryz.underlying161 4 (by kernel_rfl) kk35 (by kernel_rfl) hp34 (by kernel_rfl) (by omega) (by omega) (kk35 * 4) (by omega) _) <| go [.r 5 19 b33 (kk35 * 4 + 2) [uV x39.2.1] ⟨gv_cell (j := 0) h37 rfl (gv_sl _ _ _) hp34 (fl_get eId_ok (j := 2) (v := uV x39.2.1) hx40 rfl) (kk35 * 4 + 2) (by omega), trivial⟩, rd 5 21 2 2 1 h37, .s 5 22] ?_
        by_cases c43 : x39.2.1 = z
        ·
         refine go [.v 5 22 (qnF x39.2.1 z)] ?_
         have he_ : errA (As X) (x, y, z) = 0 := chk_ok (As X) (by omega) (by omega) (by omega) (show y = (kk35 : Int) from by omega) (as_get hx40) (by constructor <;> (show _ = _; omega))
         have h45 : sat g w31 [Dc b n X, Cl r10 [iV x, iV y, uV z] 32, R] := dc_close hD26 (tk4 (sf3 (sf2 (sf3 (sf3 h37)))))
         exact en (iV 0) [] ⟨_, _, rfl, ⟨by rw [he_], rfl⟩, (tk2 (sf1 (sf2 h45)))⟩
        refine go [.v 5 22 (qnT x39.2.1 z)] ?_
        have he_ : errA (As X) (x, y, z) = 7 := chk_stale (As X) (by omega) (by omega) (by omega) (show y = (kk35 : Int) from by omega) (as_get hx40) (by rintro ⟨hs1_, hs2_⟩; first | (have hs1_ := (show _ = _ from hs1_); have hs2_ := (show _ = _ from hs2_); dsimp only at hs1_ hs2_; omega))
        have h48 : sat g w31 [Dc b n X, Cl r10 [iV x, iV y, uV z] 32, R] := dc_close hD26 (tk4 (sf3 (sf2 (sf3 (sf3 h37)))))
        exact en (iV 7) [] ⟨_, _, rfl, ⟨by rw [he_], rfl⟩, (tk2 (sf1 (sf2 h48)))⟩
       refine go [((Iq.r 5 8 b33 (kk35 * 4) [.bool (decide (x39.1 = 1))] ⟨gv_cell (j := 0) h37 rfl (gv_sl _ _ _) hp34 (fl_get eId_ok (j := 0) (v := .bool (decide (x39.1 = 1))) hx40 rfl) (kk35 * 4) (by omega), trivial⟩)).b (⟨.bool (decide (x39.1 = 1)), .bool false, (ov_b (decide_eq_false (by omega)))⟩)] ?_
       have he_ : errA (As X) (x, y, z) = 7 := chk_stale (As X) (by omega) (by omega) (by omega) (show y = (kk35 : Int) from by omega) (as_get hx40) (by rintro ⟨hs1_, hs2_⟩; first | (have hs1_ := (show _ = _ from hs1_); have hs2_ := (show _ = _ from hs2_); dsimp only at hs1_ hs2_; omega))
       have h51 : sat g w31 [Dc b n X, Cl r10 [iV x, iV y, uV z] 32, R] := dc_close hD26 (tk4 (sf3 (sf2 (sf3 (sf3 h37)))))
       exact en (iV 7) [] ⟨_, _, rfl, ⟨by rw [he_], rfl⟩, (tk2 (sf1 (sf2 h51)))⟩
      refine go [.v 1 6 (qnT x 1)] ?_
      have he_ : errA (As X) (x, y, z) = 2 := chk_arg (As X) (by omega)
      exact en (iV 2) [] ⟨_, _, rfl, ⟨by rw [he_], rfl⟩, (tk2 (sf1 (sf2 (tk3 (sf2 (sf1 (sf2 h19)))))))⟩
     refine cl0 Tryz.call85 (dcouter_no x y z (by omega) (by omega) (by omega)) h12 fun _ h56 => go [] ?_
     have he_ : errA (As X) (x, y, z) = 2 := chk_arg (As X) (by omega)
     exact en (iV 2) [] ⟨_, _, rfl, ⟨by rw [he_], rfl⟩, (tk2 (sf1 (sf2 (tk3 (sf2 (sf1 (sf2 h56)))))))⟩
    refine cl0 Tryz.call85 (dcouter_no x y z (by omega) (by omega) (by omega)) h12 fun _ h60 => go [] ?_
    have he_ : errA (As X) (x, y, z) = 2 := chk_arg (As X) (by omega)
    exact en (iV 2) [] ⟨_, _, rfl, ⟨by rw [he_], rfl⟩, (tk2 (sf1 (sf2 (tk3 (sf2 (sf1 (sf2 h60)))))))⟩
   refine cl0 Tryz.call85 (dcouter_no x y z (by omega) (by omega) (by omega)) h12 fun _ h64 => go [] ?_
   have he_ : errA (As X) (x, y, z) = 2 := chk_arg (As X) (by omega)
   exact en (iV 2) [] ⟨_, _, rfl, ⟨by rw [he_], rfl⟩, (tk2 (sf1 (sf2 (tk3 (sf2 (sf1 (sf2 h64)))))))⟩
  refine cl0 Tryz.call85 (dcouter_no x y z (by omega) (by omega) (by omega)) h12 fun _ h68 => go [] ?_
  have he_ : errA (As X) (x, y, z) = 2 := chk_arg (As X) (by omega)
  exact en (iV 2) [] ⟨_, _, rfl, ⟨by rw [he_], rfl⟩, (tk2 (sf1 (sf2 (tk3 (sf2 (sf1 (sf2 h68)))))))⟩
 refine cl0 Tryz.call85 (dcouter_no x y z (by omega) (by omega) (by omega)) h12 fun _ h72 => go [] ?_
 have he_ : errA (As X) (x, y, z) = 2 := chk_arg (As X) (by omega)
 exact en (iV 2) [] ⟨_, _, rfl, ⟨by rw [he_], rfl⟩, (tk2 (sf1 (sf2 (tk3 (sf2 (sf1 (sf2 h72)))))))⟩

set_option maxHeartbeats 4000000 in
theorem r9close_ht (b n : Nat) (X : Xs) (x y z : Int) (hz0 : 0 ≤ z) (hz1 : z ≤ 4294967295) : HT Tryz.prog 88 [pV b, .agg #[iV x, iV y, uV z]] [Dc b n X] (fun v K => v = iV (errA (As X) (x, y, z)) ∧ K = [Dc b n (clsX X (x, y, z))]) := by
 refine hiS Tryz.func88 Tryz.ntmps88 fun g w0 R h0 => go [] <| nP 32 [iV x, iV y, uV z] h0 (fun r10 _ h12 => ?_)
 have hbd_ := chk_bd (As X) (x, y, z)
 have h13 := tk3 (sf2 (sf1 (sf2 h12)))
 refine go [rd 1 1 0 0 3 h12] <| cl1 Tryz.call134 (r9chk_ht b n X x y z (by omega) (by omega)) h13 fun _ h15 => go [.s 2 1] ?_
 by_cases c16 : (errA (As X) (x, y, z)) = 0
 ·
  refine go [.v 2 1 (qnF ((errA (As X) (x, y, z))) 0), rd 4 1 1 2 1 h15, .s 4 2] ?_
  by_cases c17 : z = 4294967295
  ·
   refine go [.v 4 2 (qeT z 4294967295), rd 4 4 1 2 1 h15] <| nP 165 [.bool false, .bool false, uV 0, iV 0] h15 (fun r18 _ h20 => ?_)
   refine sP [(0, .bool false), (1, .bool true), (2, uV z), (3, iV 0)] [.bool false, .bool true, uV z, iV 0] h20 fun _ h22 => go [rd 5 1 0 1 1 h22] <| dw (fls [0, 1, 2, 3, 4, 5, 6, 7] (Tr.an 8 Tr.nil)) h22 fun _ h24 => ?_
   obtain ⟨p26, c27, hD28, h29⟩ := dc_open (tk4 (sf3 (sf2 (sf3 (sf3 h24)))))
   have hXl_ := hD28.1; have hn1_ := hD28.2.1; have hn64_ := hD28.2.2.1; have hok_ := hD28.2.2.2; have hal_ := as_len X
   have hz30 := chk_zero (o := (x, y, z)) (show errA _ _ = 0 from by omega)
   have hz31 : x = 1 ∧ 0 ≤ y ∧ y.toNat < (As X).length ∧ 1 ≤ z := ⟨hz30.2.1, hz30.1.2.2.1, hz30.2.2.1, hz30.1.2.2.2.2⟩
   obtain ⟨b32, hp33⟩ := sl_ptr0 (j := 1) h29 rfl (by omega)
   obtain ⟨kk34, hk35⟩ : ∃ z_ : Nat, y = (z_ : Int) := ⟨(y).toNat, by omega⟩
   refine go [rd 7 3 0 0 1 h29, rd 7 5 3 1 1 h29, rd 7 6 2 0 4 h29, .s 7 7] <| lw (.pointer (some ⟨b32, kk34 * 4, none⟩)) (fun _ => law_indexSlP (x := (Operand.tmp 29)) (i := (Operand.tmp 31)) (p := p26) (b := b32) (off := 0) (z := y) (len := n) (cap := c27) (by kernel_rfl) Tryz.underlying161 4 (by kernel_rfl) kk34 (by kernel_rfl) hp33 (by kernel_rfl) (by omega) (by omega) (kk34 * 4) (by omega) _) ?_
   have h36 := tk5 (sf4 (sf3 (sf4 (sf4 (sf4 h29)))))
   refine actG ?_
   have hl39 := fl_n eId_ok (by decide) h36
   obtain ⟨x40, hx41⟩ : ∃ x, X[kk34]? = some x := ⟨_, List.getElem?_eq_getElem (by rw [hl39]; omega)⟩
   have hb42 := slOk_as hok_ hx41
   refine an_storeSl (b := b32) [(kk34 * 4, .bool false), (kk34 * 4 + 1, .bool true), (kk34 * 4 + 2, uV z), (kk34 * 4 + 3, iV 0)] (cs' := (fl eId (X.set kk34 (shut z)))) (by kernel_rfl) (by kernel_rfl) hp33 (allq ⟨⟨by omega, rfl⟩, ⟨by omega, rfl⟩, ⟨by omega, rfl⟩, ⟨by omega, rfl⟩, trivial⟩) (by omega) (fl_upd eId_ok (i := kk34) (x := x40) (y := (shut z)) hx41 [(0, .bool false), (1, .bool true), (2, uV z), (3, iV 0)] rfl (by rw [shut_ge (by omega)]; rfl) rfl) h36 ?_
   intro w37 h38
   refine ⟨kd [], nxN ?_⟩
   refine go [] ?_
   have h45 : sat g w37 [Sl 165 4 p26 n c27 (fl eId (clsX X (x, y, z))), Cl b [.slice p26 n c27] 163, Cl r18 [.bool false, .bool true, uV z, iV 0] 165, Cl r10 [iV x, iV y, uV z] 32, R] := sat_imp (tk5 (sf4 (sf3 (sf4 (sf4 (sf4 (tk5 (sf4 (sf3 (sf4 (sf4 (sf4 h38)))))))))))) (fun _ hh_ => by rw [show ((X.set kk34 (shut z)) : List Fl) = (clsX X (x, y, z)) from clsx_ok (show errA _ _ = 0 from by omega) (by omega)] at hh_; exact hh_)
   have h47 : sat g w37 [Dc b n (clsX X (x, y, z)), Cl r18 [.bool false, .bool true, uV z, iV 0] 165, Cl r10 [iV x, iV y, uV z] 32, R] := dc_close2 hD28 (len_cls X _) (slok_cls hD28.2.2.2) (tk5 (sf4 (sf3 (sf4 (sf4 (sf4 h45))))))
   exact en (iV 0) [] ⟨_, _, rfl, ⟨by rw [show errA (As X) (x, y, z) = 0 from by omega], rfl⟩, (tk2 (sf1 (sf3 h47)))⟩
  refine go [.v 4 2 (qeF z 4294967295), rd 4 4 1 2 1 h15] <| nP 165 [.bool false, .bool false, uV 0, iV 0] h15 (fun r49 _ h51 => ?_)
  refine sP [(0, .bool false), (1, .bool false), (2, uV z), (3, iV 0)] [.bool false, .bool false, uV z, iV 0] h51 fun _ h53 => go [rd 5 1 0 1 1 h53, rd 6 1 2 2 1 h53, .v 6 2 (oUr (z + 1))] <| sP [(2, uV (z + 1))] [.bool false, .bool false, uV (z + 1), iV 0] h53 fun _ h55 => go [] <| dw (fls [0, 1, 2, 3, 4, 5, 6, 7] (Tr.an 8 Tr.nil)) h55 fun _ h57 => ?_
  obtain ⟨p59, c60, hD61, h62⟩ := dc_open (tk4 (sf3 (sf2 (sf3 (sf3 h57)))))
  have hXl_ := hD61.1; have hn1_ := hD61.2.1; have hn64_ := hD61.2.2.1; have hok_ := hD61.2.2.2; have hal_ := as_len X
  have hz63 := chk_zero (o := (x, y, z)) (show errA _ _ = 0 from by omega)
  have hz64 : x = 1 ∧ 0 ≤ y ∧ y.toNat < (As X).length ∧ 1 ≤ z := ⟨hz63.2.1, hz63.1.2.2.1, hz63.2.2.1, hz63.1.2.2.2.2⟩
  obtain ⟨b65, hp66⟩ := sl_ptr0 (j := 1) h62 rfl (by omega)
  obtain ⟨kk67, hk68⟩ : ∃ z_ : Nat, y = (z_ : Int) := ⟨(y).toNat, by omega⟩
  refine go [rd 7 3 0 0 1 h62, rd 7 5 3 1 1 h62, rd 7 6 2 0 4 h62, .s 7 7] <| lw (.pointer (some ⟨b65, kk67 * 4, none⟩)) (fun _ => law_indexSlP (x := (Operand.tmp 29)) (i := (Operand.tmp 31)) (p := p59) (b := b65) (off := 0) (z := y) (len := n) (cap := c60) (by kernel_rfl) Tryz.underlying161 4 (by kernel_rfl) kk67 (by kernel_rfl) hp66 (by kernel_rfl) (by omega) (by omega) (kk67 * 4) (by omega) _) ?_
  have h69 := tk5 (sf4 (sf3 (sf4 (sf4 (sf4 h62)))))
  refine actG ?_
  have hl72 := fl_n eId_ok (by decide) h69
  obtain ⟨x73, hx74⟩ : ∃ x, X[kk67]? = some x := ⟨_, List.getElem?_eq_getElem (by rw [hl72]; omega)⟩
  have hb75 := slOk_as hok_ hx74
  refine an_storeSl (b := b65) [(kk67 * 4, .bool false), (kk67 * 4 + 1, .bool false), (kk67 * 4 + 2, uV (z + 1)), (kk67 * 4 + 3, iV 0)] (cs' := (fl eId (X.set kk67 (shut z)))) (by kernel_rfl) (by kernel_rfl) hp66 (allq ⟨⟨by omega, rfl⟩, ⟨by omega, rfl⟩, ⟨by omega, rfl⟩, ⟨by omega, rfl⟩, trivial⟩) (by omega) (fl_upd eId_ok (i := kk67) (x := x73) (y := (shut z)) hx74 [(0, .bool false), (1, .bool false), (2, uV (z + 1)), (3, iV 0)] rfl (by rw [shut_lt (by omega)]; rfl) rfl) h69 ?_
  intro w70 h71
  refine ⟨kd [], nxN ?_⟩
  refine go [] ?_
  have h78 : sat g w70 [Sl 165 4 p59 n c60 (fl eId (clsX X (x, y, z))), Cl b [.slice p59 n c60] 163, Cl r49 [.bool false, .bool false, uV (z + 1), iV 0] 165, Cl r10 [iV x, iV y, uV z] 32, R] := sat_imp (tk5 (sf4 (sf3 (sf4 (sf4 (sf4 (tk5 (sf4 (sf3 (sf4 (sf4 (sf4 h71)))))))))))) (fun _ hh_ => by rw [show ((X.set kk67 (shut z)) : List Fl) = (clsX X (x, y, z)) from clsx_ok (show errA _ _ = 0 from by omega) (by omega)] at hh_; exact hh_)
  have h80 : sat g w70 [Dc b n (clsX X (x, y, z)), Cl r49 [.bool false, .bool false, uV (z + 1), iV 0] 165, Cl r10 [iV x, iV y, uV z] 32, R] := dc_close2 hD61 (len_cls X _) (slok_cls hD61.2.2.2) (tk5 (sf4 (sf3 (sf4 (sf4 (sf4 h78))))))
  exact en (iV 0) [] ⟨_, _, rfl, ⟨by rw [show errA (As X) (x, y, z) = 0 from by omega], rfl⟩, (tk2 (sf1 (sf3 h80)))⟩
 refine go [.v 2 1 (qnT ((errA (As X) (x, y, z))) 0)] ?_
 have hX_ : X = clsX X (x, y, z) := clsx_no (e := errA (As X) (x, y, z)) rfl (by omega)
 exact en (iV ((errA (As X) (x, y, z)))) [] ⟨_, [Dc b n X], rfl, ⟨rfl, by rw [← hX_]⟩, (tk2 (sf1 (sf2 h15)))⟩

set_option maxHeartbeats 4000000 in
theorem r9open_ht (b n : Nat) (X : Xs) (v : Int) : HT Tryz.prog 129 [pV b, iV v] [Dc b n X] (fun r K => r = .tuple #[.agg #[iV (opnO X v).1, iV (opnO X v).2.1, uV (opnO X v).2.2], iV (opnE X v)] ∧ K = [Dc b n (opnX X v)]) := by
 refine hiS Tryz.func129 Tryz.ntmps129 fun g w0 R h0 => go [] <| nP 32 [iV 0, iV 0, uV 0] h0 (fun r10 _ h12 => ?_)
 refine go [.s 1 1] ?_
 by_cases c13 : v < 0
 ·
  refine go [.v 1 1 (oT (v < 0))] <| sP [(0, iV 0), (1, iV 0), (2, uV 0)] [iV 0, iV 0, uV 0] h12 fun _ h15 => go [] ?_
  have ho_ := opn_arg (X := X) (v := v) (by omega)
  exact en (.tuple #[.agg #[iV 0, iV 0, uV 0], iV 2]) [rd 0 0 0 0 3 h15] ⟨_, [Dc b n X], rfl, ⟨by rw [ho_.1, ho_.2.1], by rw [ho_.2.2]⟩, (tk2 (sf1 (sf2 (tk3 (sf2 (sf1 (sf2 h15)))))))⟩
 refine go [.v 1 1 (oF (v < 0)), .s 1 4] ?_
 by_cases c18 : v > 65535
 ·
  refine go [.v 1 4 (oT (v > 65535))] <| sP [(0, iV 0), (1, iV 0), (2, uV 0)] [iV 0, iV 0, uV 0] h12 fun _ h20 => go [] ?_
  have ho_ := opn_arg (X := X) (v := v) (by omega)
  exact en (.tuple #[.agg #[iV 0, iV 0, uV 0], iV 2]) [rd 0 0 0 0 3 h20] ⟨_, [Dc b n X], rfl, ⟨by rw [ho_.1, ho_.2.1], by rw [ho_.2.2]⟩, (tk2 (sf1 (sf2 (tk3 (sf2 (sf1 (sf2 h20)))))))⟩
 refine go [.v 1 4 (oF (v > 65535))] ?_
 obtain ⟨p24, c25, hD26, h27⟩ := dc_open (tk3 (sf2 (sf1 (sf2 h12))))
 have hXl_ := hD26.1; have hn1_ := hD26.2.1; have hn64_ := hD26.2.2.1; have hok_ := hD26.2.2.2; have hal_ := as_len X
 refine lpS (fun mz_ a w => ∃ i : Nat, ∃ lr : Fr, mz_ = n - i ∧ (i ≤ n) ∧ (cnt 0 (As X) i = 0) ∧ a = mk 69 (([(0, pV b), (1, iV v), (4, pV r10), (6, iV (i : Int))] : Fr) ++ lr) ∧ sat g w [Cl b [.slice p24 n c25] 163, Sl 165 4 p24 n c25 (fl eId X), Cl r10 [iV 0, iV 0, uV 0] 32, R]) (n - 0) ⟨0, _, rfl, (Nat.zero_le _), rfl, (lvF [.k 0 (pV b), .k 1 (iV v), .k 4 (pV r10), .o 6 (oJ .i64 0 (0 : Int))]), h27⟩ ?_
 rintro m29 a30 w31 ⟨i, lr28, rfl, hi, hc_, rfl, h32⟩
 refine ga <| go [rd 4 4 0 0 1 h32, .s 4 6] ?_
 by_cases c33 : (i : Int) < (n : Int)
 ·
  obtain ⟨b34, hp35⟩ := sl_ptr0 (j := 1) h32 rfl (by omega)
  refine go [.v 4 6 (oT ((i : Int) < (n : Int))), rd 6 3 0 0 1 h32, .s 6 5] <| lwP (.pointer (some ⟨b34, i * 4, none⟩)) (law_indexSlP (x := (Operand.tmp 26)) (i := (Operand.tmp 27)) (p := p24) (b := b34) (off := 0) (z := (i : Int)) (len := n) (cap := c25) (by kernel_rfl) Tryz.underlying161 4 (by kernel_rfl) i (by kernel_rfl) hp35 (by kernel_rfl) (by omega) (by omega) (i * 4) (by omega) _) ?_
  have h36 := tk4 (sf3 (sf2 (sf3 (sf3 h32))))
  have hl37 := fl_n eId_ok (by decide) h36
  obtain ⟨x38, hx39⟩ : ∃ x, X[i]? = some x := ⟨_, List.getElem?_eq_getElem (by rw [hl37]; omega)⟩
  have hb40 := slOk_as hok_ hx39
  refine go [.s 6 7] ?_
  by_cases c41 : x38.1 = 1
  ·
   refine go [((Iq.r 6 7 b34 (i * 4) [.bool (decide (x38.1 = 1))] ⟨gv_cell (j := 0) h36 rfl (gv_sl _ _ _) hp35 (fl_get eId_ok (j := 0) (v := .bool (decide (x38.1 = 1))) hx39 rfl) (i * 4) (by omega), trivial⟩)).b (⟨.bool (decide (x38.1 = 1)), .bool true, (ov_b (decide_eq_true (by omega)))⟩), .v 5 1 (oIr ((i : Int) + 1))] ?_
   refine enL ?_
   have h42 := tk4 (sf3 (sf2 (sf3 (sf3 h36))))
   change ∃ n', n' < _ ∧ _
   refine ⟨(n - (i + 1)), by omega, (i + 1), _, rfl, (by omega), ((cnt_no (q := 0) (as_get hx39) (by show ¬ x38.1 = 0; omega)).trans hc_), (lvF [.k 0 (pV b), .k 1 (iV v), .k 4 (pV r10), .o 6 (oJ .i64 ((i : Int) + 1) ((((i + 1) : Nat) : Int)))]), h42⟩
  refine go [((Iq.r 6 7 b34 (i * 4) [.bool (decide (x38.1 = 1))] ⟨gv_cell (j := 0) h36 rfl (gv_sl _ _ _) hp35 (fl_get eId_ok (j := 0) (v := .bool (decide (x38.1 = 1))) hx39 rfl) (i * 4) (by omega), trivial⟩)).b (⟨.bool (decide (x38.1 = 1)), .bool false, (ov_b (decide_eq_false (by omega)))⟩), rd 6 13 1 0 1 h36, .s 6 15] <| lwP (.pointer (some ⟨b34, i * 4, none⟩)) (law_indexSlP (x := (Operand.tmp 36)) (i := (Operand.tmp 37)) (p := p24) (b := b34) (off := 0) (z := (i : Int)) (len := n) (cap := c25) (by kernel_rfl) Tryz.underlying161 4 (by kernel_rfl) i (by kernel_rfl) hp35 (by kernel_rfl) (by omega) (by omega) (i * 4) (by omega) _) <| go [.s 6 17] ?_
  by_cases c43 : x38.1 = 2
  ·
   refine go [((Iq.r 6 17 b34 (i * 4 + 1) [.bool (decide (x38.1 = 2))] ⟨gv_cell (j := 0) h36 rfl (gv_sl _ _ _) hp35 (fl_get eId_ok (j := 1) (v := .bool (decide (x38.1 = 2))) hx39 rfl) (i * 4 + 1) (by omega), trivial⟩)).b (⟨.bool (decide (x38.1 = 2)), .bool true, (ov_b (decide_eq_true (by omega)))⟩), .v 5 1 (oIr ((i : Int) + 1))] ?_
   refine enL ?_
   have h44 := tk4 (sf3 (sf2 (sf3 (sf3 h36))))
   change ∃ n', n' < _ ∧ _
   refine ⟨(n - (i + 1)), by omega, (i + 1), _, rfl, (by omega), ((cnt_no (q := 0) (as_get hx39) (by show ¬ x38.1 = 0; omega)).trans hc_), (lvF [.k 0 (pV b), .k 1 (iV v), .k 4 (pV r10), .o 6 (oJ .i64 ((i : Int) + 1) ((((i + 1) : Nat) : Int)))]), h44⟩
  refine go [((Iq.r 6 17 b34 (i * 4 + 1) [.bool (decide (x38.1 = 2))] ⟨gv_cell (j := 0) h36 rfl (gv_sl _ _ _) hp35 (fl_get eId_ok (j := 1) (v := .bool (decide (x38.1 = 2))) hx39 rfl) (i * 4 + 1) (by omega), trivial⟩)).b (⟨.bool (decide (x38.1 = 2)), .bool false, (ov_b (decide_eq_false (by omega)))⟩), rd 7 3 1 0 1 h36, .s 7 5] <| lwP (.pointer (some ⟨b34, i * 4, none⟩)) (law_indexSlP (x := (Operand.tmp 46)) (i := (Operand.tmp 47)) (p := p24) (b := b34) (off := 0) (z := (i : Int)) (len := n) (cap := c25) (by kernel_rfl) Tryz.underlying161 4 (by kernel_rfl) i (by kernel_rfl) hp35 (by kernel_rfl) (by omega) (by omega) (i * 4) (by omega) _) <| go [] ?_
  refine actG ?_
  refine an_storeSl (b := b34) [(i * 4, .bool true)] (cs' := (fl eId (X.set i (1, x38.2.1, x38.2.2)))) (by kernel_rfl) (by kernel_rfl) hp35 (allq ⟨⟨by omega, rfl⟩, trivial⟩) (by omega) (fl_upd eId_ok (i := i) (x := x38) (y := (1, x38.2.1, x38.2.2)) hx39 [(0, .bool true)] rfl (by simp [setL, eId, show ¬ x38.1 = 2 from by omega]) rfl) h36 ?_
  intro _ h46
  refine nxB <| go [rd 8 3 1 0 1 h46, .s 8 6] <| lwP (.pointer (some ⟨b34, i * 4, none⟩)) (law_indexSlP (x := (Operand.tmp 53)) (i := (Operand.tmp 54)) (p := p24) (b := b34) (off := 0) (z := (i : Int)) (len := n) (cap := c25) (by kernel_rfl) Tryz.underlying161 4 (by kernel_rfl) i (by kernel_rfl) hp35 (by kernel_rfl) (by omega) (by omega) (i * 4) (by omega) _) <| go [] ?_
  refine actG ?_
  have hl49 := fl_n eId_ok (by decide) h46
  refine an_storeSl (b := b34) [(i * 4 + 3, iV v)] (cs' := (fl eId ((X.set i (1, x38.2.1, x38.2.2)).set i (1, x38.2.1, v)))) (by kernel_rfl) (by kernel_rfl) hp35 (allq ⟨⟨by omega, rfl⟩, trivial⟩) (by omega) (fl_upd eId_ok (i := i) (x := (1, x38.2.1, x38.2.2)) (y := (1, x38.2.1, v)) (set_at hx39) [(3, iV v)] rfl rfl rfl) h46 ?_
  intro _ h48
  refine nxB <| go [rd 9 4 1 0 1 h48, .s 9 6] <| lwP (.pointer (some ⟨b34, i * 4, none⟩)) (law_indexSlP (x := (Operand.tmp 62)) (i := (Operand.tmp 63)) (p := p24) (b := b34) (off := 0) (z := (i : Int)) (len := n) (cap := c25) (by kernel_rfl) Tryz.underlying161 4 (by kernel_rfl) i (by kernel_rfl) hp35 (by kernel_rfl) (by omega) (by omega) (i * 4) (by omega) _) ?_
  have hl50 := fl_n eId_ok (by decide) h48
  have h51 := tk4 (sf3 (sf2 (sf2 (sf3 h48))))
  refine go [.r 9 8 b34 (i * 4 + 2) [uV x38.2.1] ⟨gv_cell (j := 0) h48 rfl (gv_sl _ _ _) hp35 (fl_get eId_ok (j := 2) (v := uV x38.2.1) (set_at (set_at hx39)) rfl) (i * 4 + 2) (by omega), trivial⟩] <| sP [(0, iV 1), (1, iV (i : Int)), (2, uV x38.2.1)] [iV 1, iV (i : Int), uV x38.2.1] h51 fun w52 h53 => go [] <| up <| go [] ?_
  have ho_ := opn_ok (X := X) (v := v) ⟨by omega, by omega⟩ (opn_first hx39 (by omega) hc_)
  have h56 : sat g w52 [Sl 165 4 p24 n c25 (fl eId (opnX X v)), Cl b [.slice p24 n c25] 163, Cl r10 [iV 1, iV (i : Int), uV x38.2.1] 32, R] := sat_imp (tk4 (sf3 (sf2 (sf3 (sf3 (tk4 (sf3 (sf2 (sf1 (sf3 h53)))))))))) (fun _ hh_ => by rw [show (((X.set i (1, x38.2.1, x38.2.2)).set i (1, x38.2.1, v)) : List Fl) = (opnX X v) from (by rw [List.set_set]; exact ho_.2.2.symm)] at hh_; exact hh_)
  have h58 : sat g w52 [Dc b n (opnX X v), Cl r10 [iV 1, iV (i : Int), uV x38.2.1] 32, R] := dc_close2 hD26 (len_opn X v) (slok_opn hD26.2.2.2) (tk4 (sf3 (sf2 (sf3 (sf3 h56)))))
  exact en (.tuple #[.agg #[iV 1, iV (i : Int), uV x38.2.1], iV 0]) [rd 0 0 0 0 3 h53] ⟨_, _, rfl, ⟨by rw [ho_.1, ho_.2.1], rfl⟩, (tk2 (sf1 (sf2 h58)))⟩
 refine go [.v 4 6 (oF ((i : Int) < (n : Int)))] <| up ?_
 have h60 := tk4 (sf3 (sf2 (sf2 (sf3 h32))))
 refine go [] <| sP [(0, iV 0), (1, iV 0), (2, uV 0)] [iV 0, iV 0, uV 0] h60 fun w61 h62 => go [] ?_
 have ho_ := opn_full (X := X) (v := v) ⟨by omega, by omega⟩ (free_zero (i := i) (by omega) hc_)
 have h64 : sat g w61 [Dc b n X, Cl r10 [iV 0, iV 0, uV 0] 32, R] := dc_close hD26 (tk4 (sf3 (sf3 (sf1 (sf3 h62)))))
 exact en (.tuple #[.agg #[iV 0, iV 0, uV 0], iV 4]) [rd 0 0 0 0 3 h62] ⟨_, [Dc b n X], rfl, ⟨by rw [ho_.1, ho_.2.1], by rw [ho_.2.2]⟩, (tk2 (sf1 (sf2 h64)))⟩

set_option maxHeartbeats 4000000 in
theorem r9all_ht (b n : Nat) (X : Xs) : HT Tryz.prog 101 [pV b] [Dc b n X] (fun v K => ∃ (p : Option Addr) (c : Nat), v = .slice p ((inS 1 (As X) 0).length) c ∧ K = [Dc b n X, Sl 32 3 p (((inS 1 (As X) 0).length)) c (fl eO (allX X))]) := by
 refine hiS Tryz.func101 Tryz.ntmps101 fun g w0 R h0 => go [] ?_
 obtain ⟨p10, c11, hD12, h13⟩ := dc_open h0
 have hXl_ := hD12.1; have hn1_ := hD12.2.1; have hn64_ := hD12.2.2.1; have hok_ := hD12.2.2.2; have hal_ := as_len X
 have h14 : sat g w0 [Sl 32 3 none 0 0 (fl eO []), Cl b [.slice p10 n c11] 163, Sl 165 4 p10 n c11 (fl eId X), R] := sl_nil 32 3 h13
 refine lpS (fun mz_ a w => ∃ i : Nat, ∃ k : Nat, ∃ p2 : Option Addr, ∃ c2 : Nat, ∃ lr : Fr, mz_ = n - i ∧ (i ≤ n) ∧ (k ≤ i) ∧ a = mk 36 (([(0, pV b), (3, .slice p2 k c2), (4, iV (i : Int))] : Fr) ++ lr) ∧ sat g w [Sl 32 3 p2 k c2 (fl eO (allT X i)), Cl b [.slice p10 n c11] 163, Sl 165 4 p10 n c11 (fl eId X), R]) (n - 0) ⟨0, 0, none, 0, _, rfl, (Nat.zero_le _), (Nat.le_refl _), (lvF [.k 0 (pV b), .k 3 (.slice none 0 0), .o 4 (oJ .i64 0 (0 : Int))]), h14⟩ ?_
 rintro m16 a17 w18 ⟨i, k, p2, c2, lr15, rfl, hi, hk, rfl, h19⟩
 refine ga <| go [rd 3 4 1 0 1 h19, .s 3 6] ?_
 by_cases c20 : (i : Int) < (n : Int)
 ·
  obtain ⟨b21, hp22⟩ := sl_ptr0 (j := 2) h19 rfl (by omega)
  refine go [.v 3 6 (oT ((i : Int) < (n : Int))), rd 5 3 1 0 1 h19, .s 5 5] <| lwP (.pointer (some ⟨b21, i * 4, none⟩)) (law_indexSlP (x := (Operand.tmp 17)) (i := (Operand.tmp 18)) (p := p10) (b := b21) (off := 0) (z := (i : Int)) (len := n) (cap := c11) (by kernel_rfl) Tryz.underlying161 4 (by kernel_rfl) i (by kernel_rfl) hp22 (by kernel_rfl) (by omega) (by omega) (i * 4) (by omega) _) ?_
  have h23 := tk4 (sf3 (sf2 (sf2 (sf3 h19))))
  have hl24 := fl_n eId_ok (by decide) h23
  obtain ⟨x25, hx26⟩ : ∃ x, X[i]? = some x := ⟨_, List.getElem?_eq_getElem (by rw [hl24]; omega)⟩
  have hb27 := slOk_as hok_ hx26
  refine go [.s 5 7] ?_
  by_cases c28 : x25.1 = 1
  ·
   refine go [((Iq.r 5 7 b21 (i * 4) [.bool (decide (x25.1 = 1))] ⟨gv_cell (j := 0) h23 rfl (gv_sl _ _ _) hp22 (fl_get eId_ok (j := 0) (v := .bool (decide (x25.1 = 1))) hx26 rfl) (i * 4) (by omega), trivial⟩)).b (⟨.bool (decide (x25.1 = 1)), .bool true, (ov_b (decide_eq_true (by omega)))⟩), rd 6 5 2 0 1 h23, .s 6 7] <| lwP (.pointer (some ⟨b21, i * 4, none⟩)) (law_indexSlP (x := (Operand.tmp 27)) (i := (Operand.tmp 28)) (p := p10) (b := b21) (off := 0) (z := (i : Int)) (len := n) (cap := c11) (by kernel_rfl) Tryz.underlying161 4 (by kernel_rfl) i (by kernel_rfl) hp22 (by kernel_rfl) (by omega) (by omega) (i * 4) (by omega) _) <| go [.r 6 9 b21 (i * 4 + 2) [uV x25.2.1] ⟨gv_cell (j := 0) h23 rfl (gv_sl _ _ _) hp22 (fl_get eId_ok (j := 2) (v := uV x25.2.1) hx26 rfl) (i * 4 + 2) (by omega), trivial⟩] <| nG (fun q_ => .slice (some ⟨q_, 0, none⟩) 1 1) 32 [iV 1, iV (i : Int), uV x25.2.1] h23 (fun r29 _ h31 => ⟨kd [], ?_⟩)
   have h32 := tk5 (sf4 (sf3 (sf3 (sf4 (sf4 h31)))))
   refine actG ?_
   refine an_append (d := 34) (sz := 3) (s := (Operand.tmp 22)) (x := (Operand.tmp 33)) (z := .agg #[iV 0, iV 0, uV 0]) (p := p2) (m := k) (c := c2) (k := 1) (c2 := 1) (a := ⟨r29, 0, none⟩) (by_ := 24) (by kernel_rfl) (by kernel_rfl) rfl Tryz.underlying30 (by kernel_rfl) rfl (by decide) (by kernel_rfl) (by kernel_rfl) h32 (fl eO [(1, (i : Int), x25.2.1)]) rfl (fun j u hj => by rw [add_off]; exact sat_cell h32 1 rfl (by rw [Nat.zero_add]; exact hj)) (fl_one eO_ok _) (by omega) (by omega) (k + 1) (by omega) ?_
   intro p33 cap34 w35 h36
   have h37 : sat g w35 [Sl 32 3 p33 (k + 1) cap34 (fl eO ((allT X i) ++ [(1, (i : Int), x25.2.1)])), Cl r29 [iV 1, iV (i : Int), uV x25.2.1] 32, Sl 165 4 p10 n c11 (fl eId X), Cl b [.slice p10 n c11] 163, R] := sat_imp h36 (fun _ hh => by rw [fl_app]; exact hh)
   obtain ⟨hn38, hn39⟩ := sl_le h37
   refine nxA <| go [.v 4 1 (oIr ((i : Int) + 1))] ?_
   refine enL ?_
   have h40 : sat g w35 [Sl 32 3 p33 (k + 1) cap34 (fl eO (allT X (i + 1))), Cl r29 [iV 1, iV (i : Int), uV x25.2.1] 32, Sl 165 4 p10 n c11 (fl eId X), Cl b [.slice p10 n c11] 163, R] := sat_imp h37 (fun _ hh_ => by rw [show (((allT X i) ++ [(1, (i : Int), x25.2.1)]) : List Ky) = (allT X (i + 1)) from allT_go hx26 (by omega)] at hh_; exact hh_)
   have h42 := tk4 (tk5 (sf4 (sf4 (sf3 (sf4 (sf1 h40))))))
   change ∃ n', n' < _ ∧ _
   refine ⟨(n - (i + 1)), by omega, (i + 1), k + 1, p33, cap34, _, rfl, (by omega), (by omega), (lvF [.k 0 (pV b), .k 3 (.slice p33 (k + 1) cap34), .o 4 (oJ .i64 ((i : Int) + 1) ((((i + 1) : Nat) : Int)))]), h42⟩
  refine go [((Iq.r 5 7 b21 (i * 4) [.bool (decide (x25.1 = 1))] ⟨gv_cell (j := 0) h23 rfl (gv_sl _ _ _) hp22 (fl_get eId_ok (j := 0) (v := .bool (decide (x25.1 = 1))) hx26 rfl) (i * 4) (by omega), trivial⟩)).b (⟨.bool (decide (x25.1 = 1)), .bool false, (ov_b (decide_eq_false (by omega)))⟩), .v 4 1 (oIr ((i : Int) + 1))] ?_
  refine enL ?_
  have h44 : sat g w18 [Sl 32 3 p2 k c2 (fl eO (allT X (i + 1))), Sl 165 4 p10 n c11 (fl eId X), Cl b [.slice p10 n c11] 163, R] := sat_imp (tk4 (sf3 (sf2 (sf3 (sf3 h23))))) (fun _ hh_ => by rw [show ((allT X i) : List Ky) = (allT X (i + 1)) from allT_no hx26 (by omega)] at hh_; exact hh_)
  have h45 := tk4 (sf3 (sf3 (sf2 (sf3 h44))))
  change ∃ n', n' < _ ∧ _
  refine ⟨(n - (i + 1)), by omega, (i + 1), k, p2, c2, _, rfl, (by omega), (by omega), (lvF [.k 0 (pV b), .k 3 (.slice p2 k c2), .o 4 (oJ .i64 ((i : Int) + 1) ((((i + 1) : Nat) : Int)))]), h45⟩
 refine go [.v 3 6 (oF ((i : Int) < (n : Int)))] <| up <| go [] ?_
 have hT_ : allT X i = allX X := allT_all (by omega)
 have h46 : sat g w18 [Sl 32 3 p2 k c2 (fl eO (allX X)), Cl b [.slice p10 n c11] 163, Sl 165 4 p10 n c11 (fl eId X), R] := sat_imp h19 (fun _ hh_ => by rw [show ((allT X i) : List Ky) = (allX X) from hT_] at hh_; exact hh_)
 have hl47 := fl_n eO_ok (by decide) h46
 have hk_ : k = ((inS 1 (As X) 0).length) := by have h_ := allX_len X; omega
 have h48 : sat g w18 [Sl 32 3 p2 (((inS 1 (As X) 0).length)) c2 (fl eO (allX X)), Cl b [.slice p10 n c11] 163, Sl 165 4 p10 n c11 (fl eId X), R] := sat_imp h46 (fun _ hh_ => by rw [← hk_]; exact hh_)
 have h50 : sat g w18 [Dc b n X, Sl 32 3 p2 (((inS 1 (As X) 0).length)) c2 (fl eO (allX X)), R] := dc_close hD12 (tk4 (sf3 (sf3 (sf1 (sf3 h48)))))
 exact en (.slice p2 k c2) [] ⟨_, _, rfl, ⟨p2, c2, by rw [hk_], rfl⟩, h50⟩

set_option maxHeartbeats 4000000 in
theorem r9copy_ht (b n : Nat) (X : Xs) : HT Tryz.prog 95 [pV b] [Dc b n X] (fun v K => ∃ b2 : Nat, v = pV b2 ∧ K = [Dc b n X, Dc b2 n X]) := by
 refine hiS Tryz.func95 Tryz.ntmps95 fun g w0 R h0 => go [] <| nG (fun q_ => .slice (some ⟨q_, 0, none⟩) 0 0) 165 [] h0 (fun r10 w11 h12 => ⟨kd [], ?_⟩)
 obtain ⟨p14, c15, hD16, h17⟩ := dc_open (tk3 (sf2 (sf1 (sf2 h12))))
 have hXl_ := hD16.1; have hn1_ := hD16.2.1; have hn64_ := hD16.2.2.1; have hok_ := hD16.2.2.2; have hal_ := as_len X
 have h18 := tk4 (sf3 (sf2 (sf3 (sf3 h17))))
 have hl19 := fl_n eId_ok (by decide) h18
 have h21 : sat g w11 [Sl 165 4 (some ⟨r10, 0, none⟩) 0 0 (fl eId []), Sl 165 4 p14 n c15 (fl eId X), Cl b [.slice p14 n c15] 163, R] := sl_of_cl (tk4 (sf3 (sf2 (sf2 (sf3 h18))))) rfl (by omega)
 refine go [rd 1 4 0 0 1 h17] ?_
 refine actG ?_
 refine an_append_gv (d := 8) (sz := 4) (s := (Operand.tmp 3)) (x := (Operand.tmp 7)) (z := .agg #[.bool false, .bool false, uV 0, iV 0]) (p := (some ⟨r10, 0, none⟩)) (p2 := p14) (m := 0) (c := 0) (k := n) (c2 := c15) (by_ := 16) (by kernel_rfl) (by kernel_rfl) rfl Tryz.underlying161 (by kernel_rfl) rfl (by decide) (by kernel_rfl) (by kernel_rfl) h21 1 rfl (fl eId X) (gv_sl _ _ _) (by rw [fl_len eId_ok, hl19]) (fl_one eId_ok _) (by omega) (by omega) n (by omega) ?_
 intro p22 cap23 w24 h25
 have h26 : sat g w24 [Sl 165 4 p22 n cap23 (fl eId X), Sl 165 4 p14 n c15 (fl eId X), Cl b [.slice p14 n c15] 163, R] := sat_imp h25 (fun _ hh => by exact hh)
 obtain ⟨hn27, hn28⟩ := sl_le h26
 refine nxA <| go [] <| nP 163 [.slice p22 n cap23] h26 (fun r29 w30 h31 => ?_)
 refine go [] ?_
 have h33 : sat g w30 [Dc b n X, Cl r29 [.slice p22 n cap23] 163, Sl 165 4 p22 n cap23 (fl eId X), R] := dc_close hD16 (tk5 (sf4 (sf3 (sf2 (sf2 (sf4 h31))))))
 have h35 : sat g w30 [Dc r29 n X, Dc b n X, R] := dc_close hD16 (tk4 (sf3 (sf3 (sf1 (sf3 h33)))))
 exact en (pV r29) [] ⟨_, _, rfl, ⟨r29, rfl, rfl⟩, (tk3 (sf2 (sf1 (sf2 h35))))⟩


end Go.Proofs.YtggfnbpohmhphaaGreatDoor

/- Walks, printed by my generator r1.py. -/
namespace Go.Proofs.YtggfnbpohmhphaaGreatDoor
/- The document's tables. -/
def StR (b : Nat) (A : List Sl2) : Assn := fun h => ∃ x : Option Addr × Nat, (A.length = 64 ∧ Sok A) ∧ star [Cl b [.slice x.1 64 x.2] 207, Sl 209 2 x.1 64 x.2 (fl eSl A)] h
theorem s4_open {g w : World} {L : List Assn} {b : Nat} {A : List Sl2} (h : sat g w (StR b A :: L)) : ∃ p c, (A.length = 64 ∧ Sok A) ∧ sat g w (Cl b [.slice p 64 c] 207 :: Sl 209 2 p 64 c (fl eSl A) :: L) := by
  obtain ⟨⟨p, c⟩, h1, h2⟩ := sat_open (X := Option Addr × Nat) (p := fun x => A.length = 64 ∧ Sok A) (B := fun x => star [Cl b [.slice x.1 64 x.2] 207, Sl 209 2 x.1 64 x.2 (fl eSl A)]) h (fun k hk => hk)
  exact ⟨p, c, h1, sat_unstar h2⟩
theorem s4_close {g w : World} {L : List Assn} {b : Nat} {A : List Sl2} {p : Option Addr} {c : Nat} (h1 : A.length = 64 ∧ Sok A) (h : sat g w (Cl b [.slice p 64 c] 207 :: Sl 209 2 p 64 c (fl eSl A) :: L)) : sat g w (StR b A :: L) := sat_imp (sat_star (K := [Cl b [.slice p 64 c] 207, Sl 209 2 p 64 c (fl eSl A)]) h) fun k hk => ⟨(p, c), h1, hk⟩
def PlR (b : Nat) (X : Xs) : Assn := fun h => ∃ x : Option Addr × Nat, (X.length = 64 ∧ SlOk (As X) ∧ Bnd X ∧ Zv X) ∧ star [Cl b [.bool true, .int .i64 1048576, .slice x.1 64 x.2] 168, Sl 170 4 x.1 64 x.2 (fl eId X)] h
theorem pr_open {g w : World} {L : List Assn} {b : Nat} {X : Xs} (h : sat g w (PlR b X :: L)) : ∃ p c, (X.length = 64 ∧ SlOk (As X) ∧ Bnd X ∧ Zv X) ∧ sat g w (Cl b [.bool true, .int .i64 1048576, .slice p 64 c] 168 :: Sl 170 4 p 64 c (fl eId X) :: L) := by
  obtain ⟨⟨p, c⟩, h1, h2⟩ := sat_open (X := Option Addr × Nat) (p := fun x => X.length = 64 ∧ SlOk (As X) ∧ Bnd X ∧ Zv X) (B := fun x => star [Cl b [.bool true, .int .i64 1048576, .slice x.1 64 x.2] 168, Sl 170 4 x.1 64 x.2 (fl eId X)]) h (fun k hk => hk)
  exact ⟨p, c, h1, sat_unstar h2⟩
theorem pr_close {g w : World} {L : List Assn} {b : Nat} {X : Xs} {p : Option Addr} {c : Nat} (h1 : X.length = 64 ∧ SlOk (As X) ∧ Bnd X ∧ Zv X) (h : sat g w (Cl b [.bool true, .int .i64 1048576, .slice p 64 c] 168 :: Sl 170 4 p 64 c (fl eId X) :: L)) : sat g w (PlR b X :: L) := sat_imp (sat_star (K := [Cl b [.bool true, .int .i64 1048576, .slice p 64 c] 168, Sl 170 4 p 64 c (fl eId X)]) h) fun k hk => ⟨(p, c), h1, hk⟩
def DkR (b : Nat) (X : Xs) : Assn := fun h => ∃ x : Nat × Option Addr × Nat × List Int, (X.length = 64 ∧ Vals X x.2.2.2) ∧ star [Cl b [.bool true, .pointer (some ⟨x.1, 0, none⟩), .slice x.2.1 64 x.2.2.1] 176, StR x.1 (As X), Sl 2 1 x.2.1 64 x.2.2.1 (fl eI x.2.2.2)] h
theorem dr_open {g w : World} {L : List Assn} {b : Nat} {X : Xs} (h : sat g w (DkR b X :: L)) : ∃ s p c V, (X.length = 64 ∧ Vals X V) ∧ sat g w (Cl b [.bool true, .pointer (some ⟨s, 0, none⟩), .slice p 64 c] 176 :: StR s (As X) :: Sl 2 1 p 64 c (fl eI V) :: L) := by
  obtain ⟨⟨s, p, c, V⟩, h1, h2⟩ := sat_open (X := Nat × Option Addr × Nat × List Int) (p := fun x => X.length = 64 ∧ Vals X x.2.2.2) (B := fun x => star [Cl b [.bool true, .pointer (some ⟨x.1, 0, none⟩), .slice x.2.1 64 x.2.2.1] 176, StR x.1 (As X), Sl 2 1 x.2.1 64 x.2.2.1 (fl eI x.2.2.2)]) h (fun k hk => hk)
  exact ⟨s, p, c, V, h1, sat_unstar h2⟩
theorem dr_close {g w : World} {L : List Assn} {b : Nat} {X : Xs} {s : Nat} {p : Option Addr} {c : Nat} {V : List Int} (h1 : X.length = 64 ∧ Vals X V) (h : sat g w (Cl b [.bool true, .pointer (some ⟨s, 0, none⟩), .slice p 64 c] 176 :: StR s (As X) :: Sl 2 1 p 64 c (fl eI V) :: L)) : sat g w (DkR b X :: L) := sat_imp (sat_star (K := [Cl b [.bool true, .pointer (some ⟨s, 0, none⟩), .slice p 64 c] 176, StR s (As X), Sl 2 1 p 64 c (fl eI V)]) h) fun k hk => ⟨(s, p, c, V), h1, hk⟩
def LgR (b : Nat) (T : List At) : Assn := fun h => ∃ x : Option Addr × Nat, (T.length ≤ 10000) ∧ star [Cl b [.bool true, .slice x.1 T.length x.2] 131, Sl 44 6 x.1 T.length x.2 (fl eAt T)] h
theorem gr_open {g w : World} {L : List Assn} {b : Nat} {T : List At} (h : sat g w (LgR b T :: L)) : ∃ p c, (T.length ≤ 10000) ∧ sat g w (Cl b [.bool true, .slice p T.length c] 131 :: Sl 44 6 p T.length c (fl eAt T) :: L) := by
  obtain ⟨⟨p, c⟩, h1, h2⟩ := sat_open (X := Option Addr × Nat) (p := fun x => T.length ≤ 10000) (B := fun x => star [Cl b [.bool true, .slice x.1 T.length x.2] 131, Sl 44 6 x.1 T.length x.2 (fl eAt T)]) h (fun k hk => hk)
  exact ⟨p, c, h1, sat_unstar h2⟩
theorem gr_close {g w : World} {L : List Assn} {b : Nat} {T : List At} {p : Option Addr} {c : Nat} (h1 : T.length ≤ 10000) (h : sat g w (Cl b [.bool true, .slice p T.length c] 131 :: Sl 44 6 p T.length c (fl eAt T) :: L)) : sat g w (LgR b T :: L) := sat_imp (sat_star (K := [Cl b [.bool true, .slice p T.length c] 131, Sl 44 6 p T.length c (fl eAt T)]) h) fun k hk => ⟨(p, c), h1, hk⟩
def WdR (b : Nat) (S : Wst) : Assn := fun h => ∃ x : Nat × Nat × Nat × Nat × Nat, (WOk S ∧ Zv S.B) ∧ star [Cl b [Value.bool true, Value.pointer (some ⟨x.1, 0, none⟩), Value.pointer (some ⟨x.2.1, 0, none⟩), Value.pointer (some ⟨x.2.2.1, 0, none⟩), Value.pointer (some ⟨x.2.2.2.1, 0, none⟩), Value.pointer (some ⟨x.2.2.2.2, 0, none⟩), Value.int IntKind.i64 S.now] 126, Dc x.1 64 S.F, PlR x.2.1 S.B, DkR x.2.2.1 S.D, Sr 178 x.2.2.2.1 S.q, LgR x.2.2.2.2 S.T] h
theorem rw_open {g w : World} {L : List Assn} {b : Nat} {S : Wst} (h : sat g w (WdR b S :: L)) : ∃ f p d s l, (WOk S ∧ Zv S.B) ∧ sat g w (Cl b [Value.bool true, Value.pointer (some ⟨f, 0, none⟩), Value.pointer (some ⟨p, 0, none⟩), Value.pointer (some ⟨d, 0, none⟩), Value.pointer (some ⟨s, 0, none⟩), Value.pointer (some ⟨l, 0, none⟩), Value.int IntKind.i64 S.now] 126 :: Dc f 64 S.F :: PlR p S.B :: DkR d S.D :: Sr 178 s S.q :: LgR l S.T :: L) := by
  obtain ⟨⟨f, p, d, s, l⟩, h1, h2⟩ := sat_open (X := Nat × Nat × Nat × Nat × Nat) (p := fun x => WOk S ∧ Zv S.B) (B := fun x => star [Cl b [Value.bool true, Value.pointer (some ⟨x.1, 0, none⟩), Value.pointer (some ⟨x.2.1, 0, none⟩), Value.pointer (some ⟨x.2.2.1, 0, none⟩), Value.pointer (some ⟨x.2.2.2.1, 0, none⟩), Value.pointer (some ⟨x.2.2.2.2, 0, none⟩), Value.int IntKind.i64 S.now] 126, Dc x.1 64 S.F, PlR x.2.1 S.B, DkR x.2.2.1 S.D, Sr 178 x.2.2.2.1 S.q, LgR x.2.2.2.2 S.T]) h (fun k hk => hk)
  exact ⟨f, p, d, s, l, h1, sat_unstar h2⟩
theorem rw_close {g w : World} {L : List Assn} {b : Nat} {S : Wst} {f : Nat} {p : Nat} {d : Nat} {s : Nat} {l : Nat} (h1 : WOk S ∧ Zv S.B) (h : sat g w (Cl b [Value.bool true, Value.pointer (some ⟨f, 0, none⟩), Value.pointer (some ⟨p, 0, none⟩), Value.pointer (some ⟨d, 0, none⟩), Value.pointer (some ⟨s, 0, none⟩), Value.pointer (some ⟨l, 0, none⟩), Value.int IntKind.i64 S.now] 126 :: Dc f 64 S.F :: PlR p S.B :: DkR d S.D :: Sr 178 s S.q :: LgR l S.T :: L)) : sat g w (WdR b S :: L) := sat_imp (sat_star (K := [Cl b [Value.bool true, Value.pointer (some ⟨f, 0, none⟩), Value.pointer (some ⟨p, 0, none⟩), Value.pointer (some ⟨d, 0, none⟩), Value.pointer (some ⟨s, 0, none⟩), Value.pointer (some ⟨l, 0, none⟩), Value.int IntKind.i64 S.now] 126, Dc f 64 S.F, PlR p S.B, DkR d S.D, Sr 178 s S.q, LgR l S.T]) h) fun k hk => ⟨(f, p, d, s, l), h1, hk⟩
set_option maxHeartbeats 4000000 in
theorem r1chk_y (gn : Int) (h : 1 ≤ gn) : HT Tryz.prog 75 [uV gn] [] (fun v K => v = iV 0 ∧ K = []) := by
 refine hiS Tryz.func75 Tryz.ntmps75 fun g w0 R h0 => go [.v 1 1 (qeF gn 0)] ?_
 exact en (iV 0) [] ⟨_, _, rfl, ⟨rfl, rfl⟩, h0⟩

set_option maxHeartbeats 4000000 in
theorem r1chk_n (gn : Int) (h : gn = 0) : HT Tryz.prog 75 [uV gn] [] (fun v K => v = iV 2 ∧ K = []) := by
 refine hiS Tryz.func75 Tryz.ntmps75 fun g w0 R h0 => go [.v 1 1 (qeT gn 0)] ?_
 exact en (iV 2) [] ⟨_, _, rfl, ⟨rfl, rfl⟩, h0⟩

set_option maxHeartbeats 4000000 in
theorem r1nx_y (z : Int) (h : 1 ≤ z ∧ z ≤ 4294967294) : HT Tryz.prog 163 [uV z] [] (fun v K => v = .tuple #[uV (z + 1), .bool true, iV 0] ∧ K = []) := by
 refine hiS Tryz.func163 Tryz.ntmps163 fun g w0 R h0 => go [.v 1 1 (qeF z 0), .v 3 1 (qeF z 4294967295), .v 5 1 (oUr (z + 1))] ?_
 exact en (.tuple #[uV (z + 1), .bool true, iV 0]) [] ⟨_, _, rfl, ⟨rfl, rfl⟩, h0⟩

set_option maxHeartbeats 4000000 in
theorem r1nx_n (z : Int) (h : z = 4294967295) : HT Tryz.prog 163 [uV z] [] (fun v K => v = .tuple #[uV 0, .bool false, iV 0] ∧ K = []) := by
 refine hiS Tryz.func163 Tryz.ntmps163 fun g w0 R h0 => go [.v 1 1 (qeF z 0), .v 3 1 (qeT z 4294967295)] ?_
 exact en (.tuple #[uV 0, .bool false, iV 0]) [] ⟨_, _, rfl, ⟨rfl, rfl⟩, h0⟩

set_option maxHeartbeats 4000000 in
theorem r10v (b : Nat) (v0 v1 : Value) : HT Tryz.prog 142 [pV b] [Cl b [.bool true, v0, v1] 168] (fun v K => v = .bool true ∧ K = [Cl b [.bool true, v0, v1] 168]) := by
 refine hiS Tryz.func142 Tryz.ntmps142 fun g w0 R h0 => go [rd 1 6 0 0 1 h0] ?_
 exact en (.bool true) [] ⟨_, _, rfl, ⟨rfl, rfl⟩, h0⟩

set_option maxHeartbeats 4000000 in
theorem r11v (b : Nat) (v0 v1 : Value) : HT Tryz.prog 143 [pV b] [Cl b [.bool true, v0, v1] 176] (fun v K => v = .bool true ∧ K = [Cl b [.bool true, v0, v1] 176]) := by
 refine hiS Tryz.func143 Tryz.ntmps143 fun g w0 R h0 => go [rd 1 6 0 0 1 h0] ?_
 exact en (.bool true) [] ⟨_, _, rfl, ⟨rfl, rfl⟩, h0⟩

set_option maxHeartbeats 4000000 in
theorem r7v (b : Nat) (v0 : Value) : HT Tryz.prog 104 [pV b] [Cl b [.bool true, v0] 131] (fun v K => v = .bool true ∧ K = [Cl b [.bool true, v0] 131]) := by
 refine hiS Tryz.func104 Tryz.ntmps104 fun g w0 R h0 => go [rd 1 6 0 0 1 h0] ?_
 exact en (.bool true) [] ⟨_, _, rfl, ⟨rfl, rfl⟩, h0⟩

set_option maxHeartbeats 4000000 in
theorem r12v (b : Nat) (v0 v1 v2 v3 v4 v5 : Value) : HT Tryz.prog 81 [pV b] [Cl b [.bool true, v0, v1, v2, v3, v4, v5] 126] (fun v K => v = .bool true ∧ K = [Cl b [.bool true, v0, v1, v2, v3, v4, v5] 126]) := by
 refine hiS Tryz.func81 Tryz.ntmps81 fun g w0 R h0 => go [rd 1 6 0 0 1 h0] ?_
 exact en (.bool true) [] ⟨_, _, rfl, ⟨rfl, rfl⟩, h0⟩

set_option maxHeartbeats 4000000 in
theorem r4v (b : Nat) (p : Option Addr) (c : Nat) : HT Tryz.prog 164 [pV b] [Cl b [.slice p 64 c] 207] (fun v K => v = .bool true ∧ K = [Cl b [.slice p 64 c] 207]) := by
 refine hiS Tryz.func164 Tryz.ntmps164 fun g w0 R h0 => go [rd 1 6 0 0 1 h0, .v 1 7 (oJ .i64 (64 : Int) 64)] ?_
 exact en (.bool true) [] ⟨_, _, rfl, ⟨rfl, rfl⟩, h0⟩

set_option maxHeartbeats 4000000 in
theorem r4new_ht (gn : Int) (hgn : 1 ≤ gn ∧ gn ≤ 4294967295) : HT Tryz.prog 128 [iV 64, uV gn] [] (fun v K => ∃ b : Nat, v = .tuple #[pV b, iV 0] ∧ K = [StR b (List.replicate 64 (0, gn))]) := by
 refine hiS Tryz.func128 Tryz.ntmps128 fun g w0 R h0 => go [] <| cl0 Tryz.call75 (r1chk_y gn (by omega)) h0 fun _ h11 => go [] <| nP 207 [.slice none 0 0] h11 (fun r12 w13 h14 => ?_)
 refine go [] ?_
 have h15 : sat g w13 [Sl 209 2 none 0 0 (fl eSl []), Cl r12 [.slice none 0 0] 207, R] := sl_nil 209 2 h14
 refine lpS (fun mz_ a w => ∃ i : Nat, ∃ p2 : Option Addr, ∃ c2 : Nat, ∃ lr : Fr, mz_ = 64 - i ∧ (i ≤ 64) ∧ a = mk 38 (([(0, iV 64), (1, uV gn), (6, pV r12), (7, iV (i : Int))] : Fr) ++ lr) ∧ sat g w [Sl 209 2 p2 i c2 (fl eSl (List.replicate i (0, gn))), Cl r12 [.slice p2 i c2] 207, R]) (64 - 0) ⟨0, none, 0, _, rfl, (Nat.zero_le _), (lvF [.k 0 (iV 64), .k 1 (uV gn), .k 6 (pV r12), .o 7 (oJ .i64 0 (0 : Int))]), h15⟩ ?_
 rintro m17 a18 w19 ⟨i, p2, c2, lr16, rfl, hi, rfl, h20⟩
 refine ga <| go [.s 5 2] ?_
 by_cases c21 : (i : Int) < 64
 ·
  refine go [.v 5 2 (oT ((i : Int) < 64)), rd 7 4 1 0 1 h20] <| nG (fun q_ => .slice (some ⟨q_, 0, none⟩) 1 1) 209 [iV 0, uV gn] h20 (fun r22 _ h24 => ⟨kd [], ?_⟩)
  have h25 := tk4 (sf3 (sf2 (sf3 (sf3 h24))))
  refine actG ?_
  refine an_append (d := 34) (sz := 2) (s := (Operand.tmp 30)) (x := (Operand.tmp 33)) (z := .agg #[iV 0, uV 0]) (p := p2) (m := i) (c := c2) (k := 1) (c2 := 1) (a := ⟨r22, 0, none⟩) (by_ := 16) (by kernel_rfl) (by kernel_rfl) rfl Tryz.underlying205 (by kernel_rfl) rfl (by decide) (by kernel_rfl) (by kernel_rfl) h25 (fl eSl [(0, gn)]) rfl (fun j u hj => by rw [add_off]; exact sat_cell h25 1 rfl (by rw [Nat.zero_add]; exact hj)) (fl_one eSl_ok _) (by omega) (by omega) (i + 1) (by omega) ?_
  intro p26 cap27 w28 h29
  have h30 : sat g w28 [Sl 209 2 p26 (i + 1) cap27 (fl eSl ((List.replicate i (0, gn)) ++ [(0, gn)])), Cl r22 [iV 0, uV gn] 209, Cl r12 [.slice p2 i c2] 207, R] := sat_imp h29 (fun _ hh => by rw [fl_app]; exact hh)
  obtain ⟨hn31, hn32⟩ := sl_le h30
  refine nxA ?_
  have h33 := tk4 (sf3 (sf2 (sf2 (sf3 h30))))
  refine go [] <| sP [(0, .slice p26 (i + 1) cap27)] [.slice p26 (i + 1) cap27] h33 fun w34 h35 => go [.v 6 1 (oIr ((i : Int) + 1))] ?_
  refine enL ?_
  have h37 : sat g w34 [Sl 209 2 p26 (i + 1) cap27 (fl eSl (List.replicate (i + 1) (0, gn))), Cl r12 [.slice p26 (i + 1) cap27] 207, Cl r22 [iV 0, uV gn] 209, R] := sat_imp (tk4 (sf3 (sf2 (sf3 (sf3 h35))))) (fun _ hh_ => by rw [show (((List.replicate i (0, gn)) ++ [(0, gn)]) : List Sl2) = (List.replicate (i + 1) (0, gn)) from List.replicate_succ'.symm] at hh_; exact hh_)
  have h39 := tk3 (tk4 (sf3 (sf3 (sf3 (sf2 h37)))))
  change ∃ n', n' < _ ∧ _
  refine ⟨(64 - (i + 1)), by omega, (i + 1), p26, cap27, _, rfl, (by omega), (lvF [.k 0 (iV 64), .k 1 (uV gn), .k 6 (pV r12), .o 7 (oJ .i64 ((i : Int) + 1) ((((i + 1) : Nat) : Int)))]), h39⟩
 refine go [.v 5 2 (oF ((i : Int) < 64))] <| up <| go [] ?_
 have hi_ : i = 64 := by omega
 have h40 := tk3 (sf2 (sf1 (sf2 h20)))
 have h41 : sat g w19 [StR r12 (List.replicate 64 (0, gn)), R] := by rw [hi_] at h40; exact s4_close ⟨List.length_replicate, sok_rep ⟨by omega, by omega⟩⟩ h40
 exact en (.tuple #[pV r12, iV 0]) [] ⟨_, _, rfl, ⟨r12, rfl, rfl⟩, h41⟩

set_option maxHeartbeats 4000000 in
theorem r4take_ht (b : Nat) (A : List Sl2) : HT Tryz.prog 161 [pV b] [StR b A] (fun v K => v = .tuple #[.agg #[iV ((takeV A).1), uV ((takeV A).2.1)], iV ((takeV A).2.2)] ∧ K = [StR b (takeA A)]) := by
 refine hiS Tryz.func161 Tryz.ntmps161 fun g w0 R h0 => go [] <| nP 183 [iV 0, uV 0] h0 (fun r10 _ h12 => ?_)
 obtain ⟨p16, c17, hP14, h15⟩ := s4_open (tk3 (sf2 (sf1 (sf2 h12))))
 have hok_ := hP14.2
 refine go [] <| cl1 Tryz.call164 (r4v b p16 c17) h15 fun _ h19 => go [] ?_
 refine lpS (fun mz_ a w => ∃ i : Nat, ∃ lr : Fr, mz_ = 64 - i ∧ (i ≤ 64) ∧ (cnt 0 A i = 0) ∧ a = mk 45 (([(0, pV b), (2, pV r10), (4, iV (i : Int))] : Fr) ++ lr) ∧ sat g w [Cl b [.slice p16 64 c17] 207, Sl 209 2 p16 64 c17 (fl eSl A), Cl r10 [iV 0, uV 0] 183, R]) (64 - 0) ⟨0, _, rfl, (Nat.zero_le _), rfl, (lvF [.k 0 (pV b), .k 2 (pV r10), .o 4 (oJ .i64 0 (0 : Int))]), h19⟩ ?_
 rintro m21 a22 w23 ⟨i, lr20, rfl, hi, hc_, rfl, h24⟩
 refine ga <| go [rd 4 4 0 0 1 h24, .v 4 5 (oJ .i64 (64 : Int) 64), .s 4 6] ?_
 by_cases c25 : (i : Int) < 64
 ·
  obtain ⟨b26, hp27⟩ := sl_ptr0 (j := 1) h24 rfl (by omega)
  refine go [.v 4 6 (oT ((i : Int) < 64)), rd 6 3 0 0 1 h24, .s 6 5] <| lwP (.pointer (some ⟨b26, i * 2, none⟩)) (law_indexSlP (x := (Operand.tmp 21)) (i := (Operand.tmp 22)) (p := p16) (b := b26) (off := 0) (z := (i : Int)) (len := 64) (cap := c17) (by kernel_rfl) Tryz.underlying205 2 (by kernel_rfl) i (by kernel_rfl) hp27 (by kernel_rfl) (by omega) (by omega) (i * 2) (by omega) _) ?_
  obtain ⟨x28, hx29⟩ : ∃ x, A[i]? = some x := ⟨_, List.getElem?_eq_getElem (by rw [hP14.1]; omega)⟩
  have hb30 := hok_ x28 (List.mem_of_getElem? hx29); have hb30a := hb30.1; have hb30b := hb30.2.1; have hb30c := hb30.2.2.1; have hb30d := hb30.2.2.2
  refine go [.r 6 7 b26 (i * 2) [iV x28.1] ⟨gv_cell (j := 1) h24 rfl (gv_sl _ _ _) hp27 (fl_get eSl_ok (j := 0) (v := iV x28.1) hx29 rfl) (i * 2) (by omega), trivial⟩, .s 6 8] ?_
  by_cases c31 : x28.1 = 0
  ·
   refine go [.v 6 8 (qeT x28.1 0), rd 7 3 0 0 1 h24, .s 7 5] <| lwP (.pointer (some ⟨b26, i * 2, none⟩)) (law_indexSlP (x := (Operand.tmp 30)) (i := (Operand.tmp 31)) (p := p16) (b := b26) (off := 0) (z := (i : Int)) (len := 64) (cap := c17) (by kernel_rfl) Tryz.underlying205 2 (by kernel_rfl) i (by kernel_rfl) hp27 (by kernel_rfl) (by omega) (by omega) (i * 2) (by omega) _) ?_
   have h32 := tk4 (sf3 (sf2 (sf3 (sf3 h24))))
   refine go [] ?_
   refine actG ?_
   refine an_storeSl (b := b26) [(i * 2, iV 1)] (cs' := (fl eSl (A.set i (1, x28.2)))) (by kernel_rfl) (by kernel_rfl) hp27 (allq ⟨⟨by omega, rfl⟩, trivial⟩) (by omega) (fl_upd eSl_ok (i := i) (x := x28) (y := (1, x28.2)) hx29 [(0, iV 1)] rfl rfl rfl) h32 ?_
   intro _ h34
   refine nxB <| go [rd 8 4 1 0 1 h34, .s 8 6] <| lwP (.pointer (some ⟨b26, i * 2, none⟩)) (law_indexSlP (x := (Operand.tmp 38)) (i := (Operand.tmp 39)) (p := p16) (b := b26) (off := 0) (z := (i : Int)) (len := 64) (cap := c17) (by kernel_rfl) Tryz.underlying205 2 (by kernel_rfl) i (by kernel_rfl) hp27 (by kernel_rfl) (by omega) (by omega) (i * 2) (by omega) _) ?_
   have hl35 := fl_n eSl_ok (by decide) h34
   have h36 := tk4 (sf3 (sf2 (sf2 (sf3 h34))))
   refine go [.r 8 8 b26 (i * 2 + 1) [uV x28.2] ⟨gv_cell (j := 0) h34 rfl (gv_sl _ _ _) hp27 (fl_get eSl_ok (j := 1) (v := uV x28.2) (set_at hx29) rfl) (i * 2 + 1) (by omega), trivial⟩] <| sP [(0, iV (i : Int)), (1, uV x28.2)] [iV (i : Int), uV x28.2] h36 fun w37 h38 => go [] <| up <| go [] ?_
   have hf_ : (inS 0 A 0)[0]? = some (i, x28.2) := by have h_ := inS_at (q := 0) hx29 (show x28.1 = 0 by omega); rw [hc_] at h_; exact h_
   have ht_ := take_at0 hf_
   have h40 : sat g w37 [Sl 209 2 p16 64 c17 (fl eSl (takeA A)), Cl r10 [iV (i : Int), uV x28.2] 183, Cl b [.slice p16 64 c17] 207, R] := sat_imp (tk4 (sf3 (sf2 (sf3 (sf3 h38))))) (fun _ hh_ => by rw [show (A.set i (1, x28.2)) = (takeA A) from (ht_.2.symm)] at hh_; exact hh_)
   have h42 : sat g w37 [StR b (takeA A), Cl r10 [iV (i : Int), uV x28.2] 183, R] := s4_close ⟨(takeA_len A).trans hP14.1, sok_take hP14.2⟩ (tk4 (sf3 (sf2 (sf2 (sf3 h40)))))
   exact en (.tuple #[.agg #[iV (i : Int), uV x28.2], iV 0]) [rd 0 0 0 0 2 h38] ⟨_, _, rfl, ⟨by rw [ht_.1], rfl⟩, (tk2 (sf1 (sf2 h42)))⟩
  refine go [.v 6 8 (qeF x28.1 0), .v 5 1 (oIr ((i : Int) + 1))] ?_
  refine enL ?_
  change ∃ n', n' < _ ∧ _
  refine ⟨(64 - (i + 1)), by omega, (i + 1), _, rfl, (by omega), ((cnt_no (q := 0) hx29 (by show ¬ x28.1 = 0; omega)).trans hc_), (lvF [.k 0 (pV b), .k 2 (pV r10), .o 4 (oJ .i64 ((i : Int) + 1) ((((i + 1) : Nat) : Int)))]), h24⟩
 refine go [.v 4 6 (oF ((i : Int) < 64))] <| up ?_
 have h44 := tk4 (sf3 (sf2 (sf2 (sf3 h24))))
 refine go [] <| sP [(0, iV 0), (1, uV 0)] [iV 0, uV 0] h44 fun w45 h46 => go [] ?_
 have ht_ := take_none (A := A) (free_all (A := A) hc_ (by have h_ := hP14.1; omega))
 have h48 : sat g w45 [Sl 209 2 p16 64 c17 (fl eSl (takeA A)), Cl r10 [iV 0, uV 0] 183, Cl b [.slice p16 64 c17] 207, R] := sat_imp (tk4 (sf3 (sf2 (sf2 (sf3 h46))))) (fun _ hh_ => by rw [show A = (takeA A) from ht_.2.symm] at hh_; exact hh_)
 have h50 : sat g w45 [StR b (takeA A), Cl r10 [iV 0, uV 0] 183, R] := s4_close ⟨(takeA_len A).trans hP14.1, sok_take hP14.2⟩ (tk4 (sf3 (sf2 (sf2 (sf3 h48)))))
 exact en (.tuple #[.agg #[iV 0, uV 0], iV 4]) [rd 0 0 0 0 2 h46] ⟨_, _, rfl, ⟨by rw [ht_.1], rfl⟩, (tk2 (sf1 (sf2 h50)))⟩

set_option maxHeartbeats 4000000 in
theorem r4chk_ht (b : Nat) (A : List Sl2) (y z : Int) (hT : A[y.toNat]? = some (1, z)) (hy : 0 ≤ y ∧ y ≤ 63) : HT Tryz.prog 162 [pV b, .agg #[iV y, uV z]] [StR b A] (fun v K => v = iV 0 ∧ K = [StR b A]) := by
 refine hiS Tryz.func162 Tryz.ntmps162 fun g w0 R h0 => go [] <| nP 183 [iV y, uV z] h0 (fun r10 _ h12 => ?_)
 obtain ⟨p16, c17, hP14, h15⟩ := s4_open (tk3 (sf2 (sf1 (sf2 h12))))
 have hok_ := hP14.2
 refine go [] <| cl1 Tryz.call164 (r4v b p16 c17) h15 fun _ h19 => go [] <| dw (fls [0, 1, 2, 3, 4, 5, 6, 7, 8, 9, 10, 11, 12] Tr.nil) h19 fun _ h21 => go [rd 3 1 2 0 1 h21, .v 3 2 (oF (y < 0)), rd 3 5 2 0 1 h21, rd 3 9 0 0 1 h21, .v 3 10 (oJ .i64 (64 : Int) 64), .v 3 11 (oF (y ≥ 64))] <| dw (fls [0, 1, 2, 3, 4, 5, 6, 7, 8, 9, 10, 11, 12, 13, 14, 15, 16, 17, 18, 19, 20, 21, 22, 23] Tr.nil) h21 fun w22 h23 => ?_
 obtain ⟨b24, hp25⟩ := sl_ptr0 (j := 1) h23 rfl (by omega)
 obtain ⟨kk26, hk27⟩ : ∃ z_ : Nat, y = (z_ : Int) := ⟨(y).toNat, by omega⟩
 refine go [rd 5 3 0 0 1 h23, rd 5 5 2 0 1 h23, .s 5 6] <| lw (.pointer (some ⟨b24, kk26 * 2, none⟩)) (fun _ => law_indexSlP (x := (Operand.tmp 24)) (i := (Operand.tmp 26)) (p := p16) (b := b24) (off := 0) (z := y) (len := 64) (cap := c17) (by kernel_rfl) Tryz.underlying205 2 (by kernel_rfl) kk26 (by kernel_rfl) hp25 (by kernel_rfl) (by omega) (by omega) (kk26 * 2) (by omega) _) ?_
 obtain ⟨x28, hx29⟩ : ∃ x, A[kk26]? = some x := ⟨_, List.getElem?_eq_getElem (by rw [hP14.1]; omega)⟩
 have hb30 := hok_ x28 (List.mem_of_getElem? hx29); have hb30a := hb30.1; have hb30b := hb30.2.1; have hb30c := hb30.2.2.1; have hb30d := hb30.2.2.2
 have hq31 := thr_s4 hT (by omega) hx29; have hq31a := hq31.1; have hq31b := hq31.2
 refine go [.r 5 8 b24 (kk26 * 2) [iV x28.1] ⟨gv_cell (j := 1) h23 rfl (gv_sl _ _ _) hp25 (fl_get eSl_ok (j := 0) (v := iV x28.1) hx29 rfl) (kk26 * 2) (by omega), trivial⟩, .v 5 9 (qnF x28.1 1), rd 5 14 0 0 1 h23, rd 5 16 2 0 1 h23, .s 5 17] <| lw (.pointer (some ⟨b24, kk26 * 2, none⟩)) (fun _ => law_indexSlP (x := (Operand.tmp 35)) (i := (Operand.tmp 37)) (p := p16) (b := b24) (off := 0) (z := y) (len := 64) (cap := c17) (by kernel_rfl) Tryz.underlying205 2 (by kernel_rfl) kk26 (by kernel_rfl) hp25 (by kernel_rfl) (by omega) (by omega) (kk26 * 2) (by omega) _) <| go [.r 5 19 b24 (kk26 * 2 + 1) [uV x28.2] ⟨gv_cell (j := 1) h23 rfl (gv_sl _ _ _) hp25 (fl_get eSl_ok (j := 1) (v := uV x28.2) hx29 rfl) (kk26 * 2 + 1) (by omega), trivial⟩, rd 5 21 2 1 1 h23, .v 5 22 (qnF x28.2 z)] ?_
 have h32 : sat g w22 [StR b A, Cl r10 [iV y, uV z] 183, R] := s4_close hP14 h23
 exact en (iV 0) [] ⟨_, _, rfl, ⟨rfl, rfl⟩, (tk2 (sf1 (sf2 h32)))⟩

set_option maxHeartbeats 4000000 in
theorem r4give_ht (b : Nat) (A : List Sl2) (y z : Int) (hT : A[y.toNat]? = some (1, z)) (hy : 0 ≤ y ∧ y ≤ 63) (hz_ : 1 ≤ z ∧ z ≤ 4294967295) : HT Tryz.prog 138 [pV b, .agg #[iV y, uV z]] [StR b A] (fun v K => v = iV 0 ∧ K = [StR b (giveA A y.toNat z)]) := by
 refine hiS Tryz.func138 Tryz.ntmps138 fun g w0 R h0 => go [] <| nP 183 [iV y, uV z] h0 (fun r10 _ h12 => ?_)
 have h13 := tk3 (sf2 (sf1 (sf2 h12)))
 refine go [rd 1 1 0 0 2 h12] <| cl1 Tryz.call162 (r4chk_ht b A y z hT (by omega)) h13 fun _ h15 => go [rd 4 1 1 1 1 h15] ?_
 by_cases c16 : z ≤ 4294967294
 ·
  refine cl0 Tryz.call163 (r1nx_y z (by omega)) h15 fun _ h18 => go [] <| dw (fls [0, 1, 2, 3, 4, 5, 6, 7] (Tr.an 8 Tr.nil)) h18 fun _ h20 => ?_
  obtain ⟨p23, c24, hP21, h22⟩ := s4_open h20
  have hok_ := hP21.2
  obtain ⟨b25, hp26⟩ := sl_ptr0 (j := 1) h22 rfl (by omega)
  obtain ⟨kk27, hk28⟩ : ∃ z_ : Nat, y = (z_ : Int) := ⟨(y).toNat, by omega⟩
  refine go [rd 5 3 0 0 1 h22, rd 5 5 2 0 1 h22, .s 5 6] <| lw (.pointer (some ⟨b25, kk27 * 2, none⟩)) (fun _ => law_indexSlP (x := (Operand.tmp 25)) (i := (Operand.tmp 27)) (p := p23) (b := b25) (off := 0) (z := y) (len := 64) (cap := c24) (by kernel_rfl) Tryz.underlying205 2 (by kernel_rfl) kk27 (by kernel_rfl) hp26 (by kernel_rfl) (by omega) (by omega) (kk27 * 2) (by omega) _) ?_
  have h29 := tk4 (sf3 (sf2 (sf3 (sf3 h22))))
  refine go [] ?_
  refine actG ?_
  obtain ⟨x32, hx33⟩ : ∃ x, A[kk27]? = some x := ⟨_, List.getElem?_eq_getElem (by rw [hP21.1]; omega)⟩
  have hb34 := hok_ x32 (List.mem_of_getElem? hx33); have hb34a := hb34.1; have hb34b := hb34.2.1; have hb34c := hb34.2.2.1; have hb34d := hb34.2.2.2
  have hq35 := thr_s4 hT (by omega) hx33; have hq35a := hq35.1; have hq35b := hq35.2
  refine an_storeSl (b := b25) [(kk27 * 2, iV 2)] (cs' := (fl eSl (A.set kk27 (2, x32.2)))) (by kernel_rfl) (by kernel_rfl) hp26 (allq ⟨⟨by omega, rfl⟩, trivial⟩) (by omega) (fl_upd eSl_ok (i := kk27) (x := x32) (y := (2, x32.2)) hx33 [(0, iV 2)] rfl rfl rfl) h29 ?_
  intro _ h31
  refine ⟨kd [], nxN ?_⟩
  refine go [] <| dw (fls [0, 1, 2, 3, 4, 5, 6, 7, 8] (Tr.an 9 Tr.nil)) h31 fun _ h37 => go [rd 7 3 1 0 1 h37, rd 7 5 2 0 1 h37, .s 7 8] <| lw (.pointer (some ⟨b25, kk27 * 2, none⟩)) (fun _ => law_indexSlP (x := (Operand.tmp 34)) (i := (Operand.tmp 36)) (p := p23) (b := b25) (off := 0) (z := y) (len := 64) (cap := c24) (by kernel_rfl) Tryz.underlying205 2 (by kernel_rfl) kk27 (by kernel_rfl) hp26 (by kernel_rfl) (by omega) (by omega) (kk27 * 2) (by omega) _) ?_
  refine actG ?_
  have hl40 := fl_n eSl_ok (by decide) h37
  refine an_storeSl (b := b25) [(kk27 * 2, iV 0), (kk27 * 2 + 1, uV (z + 1))] (cs' := (fl eSl ((A.set kk27 (2, x32.2)).set kk27 (0, z + 1)))) (by kernel_rfl) (by kernel_rfl) hp26 (allq ⟨⟨by omega, rfl⟩, ⟨by omega, rfl⟩, trivial⟩) (by omega) (fl_upd eSl_ok (i := kk27) (x := (2, x32.2)) (y := (0, z + 1)) (set_at hx33) [(0, iV 0), (1, uV (z + 1))] rfl rfl rfl) h37 ?_
  intro w38 h39
  refine ⟨kd [], nxN ?_⟩
  refine go [] ?_
  have hg_ : giveA A y.toNat z = A.set y.toNat (0, z + 1) := if_pos (by omega)
  have h41 : sat g w38 [Sl 209 2 p23 64 c24 (fl eSl (giveA A y.toNat z)), Cl b [.slice p23 64 c24] 207, Cl r10 [iV y, uV z] 183, R] := sat_imp h39 (fun _ hh_ => by rw [show ((A.set kk27 (2, x32.2)).set kk27 (0, z + 1)) = (giveA A y.toNat z) from (by rw [hg_, show y.toNat = kk27 by omega, List.set_set])] at hh_; exact hh_)
  have h43 : sat g w38 [StR b (giveA A y.toNat z), Cl r10 [iV y, uV z] 183, R] := s4_close ⟨(giveA_len2 A _ _).trans hP21.1, sok_give hP21.2 hz_⟩ (tk4 (sf3 (sf2 (sf3 (sf3 h41)))))
  exact en (iV 0) [] ⟨_, _, rfl, ⟨rfl, rfl⟩, (tk2 (sf1 (sf2 h43)))⟩
 refine cl0 Tryz.call163 (r1nx_n z (by omega)) h15 fun _ h46 => go [] <| dw (fls [0, 1, 2, 3, 4, 5, 6, 7] (Tr.an 8 Tr.nil)) h46 fun _ h48 => ?_
 obtain ⟨p51, c52, hP49, h50⟩ := s4_open h48
 have hok_ := hP49.2
 obtain ⟨b53, hp54⟩ := sl_ptr0 (j := 1) h50 rfl (by omega)
 obtain ⟨kk55, hk56⟩ : ∃ z_ : Nat, y = (z_ : Int) := ⟨(y).toNat, by omega⟩
 refine go [rd 5 3 0 0 1 h50, rd 5 5 2 0 1 h50, .s 5 6] <| lw (.pointer (some ⟨b53, kk55 * 2, none⟩)) (fun _ => law_indexSlP (x := (Operand.tmp 25)) (i := (Operand.tmp 27)) (p := p51) (b := b53) (off := 0) (z := y) (len := 64) (cap := c52) (by kernel_rfl) Tryz.underlying205 2 (by kernel_rfl) kk55 (by kernel_rfl) hp54 (by kernel_rfl) (by omega) (by omega) (kk55 * 2) (by omega) _) ?_
 have h57 := tk4 (sf3 (sf2 (sf3 (sf3 h50))))
 refine go [] ?_
 refine actG ?_
 obtain ⟨x60, hx61⟩ : ∃ x, A[kk55]? = some x := ⟨_, List.getElem?_eq_getElem (by rw [hP49.1]; omega)⟩
 have hb62 := hok_ x60 (List.mem_of_getElem? hx61); have hb62a := hb62.1; have hb62b := hb62.2.1; have hb62c := hb62.2.2.1; have hb62d := hb62.2.2.2
 have hq63 := thr_s4 hT (by omega) hx61; have hq63a := hq63.1; have hq63b := hq63.2
 refine an_storeSl (b := b53) [(kk55 * 2, iV 2)] (cs' := (fl eSl (A.set kk55 (2, x60.2)))) (by kernel_rfl) (by kernel_rfl) hp54 (allq ⟨⟨by omega, rfl⟩, trivial⟩) (by omega) (fl_upd eSl_ok (i := kk55) (x := x60) (y := (2, x60.2)) hx61 [(0, iV 2)] rfl rfl rfl) h57 ?_
 intro w58 h59
 refine ⟨kd [], nxN ?_⟩
 refine go [] ?_
 have hg_ : giveA A y.toNat z = A.set y.toNat (2, z) := if_neg (by omega)
 have h64 : sat g w58 [Sl 209 2 p51 64 c52 (fl eSl (giveA A y.toNat z)), Cl b [.slice p51 64 c52] 207, Cl r10 [iV y, uV z] 183, R] := sat_imp h59 (fun _ hh_ => by rw [show (A.set kk55 (2, x60.2)) = (giveA A y.toNat z) from (by rw [hg_, show y.toNat = kk55 by omega, show x60.2 = z by omega])] at hh_; exact hh_)
 have h66 : sat g w58 [StR b (giveA A y.toNat z), Cl r10 [iV y, uV z] 183, R] := s4_close ⟨(giveA_len2 A _ _).trans hP49.1, sok_give hP49.2 hz_⟩ (tk4 (sf3 (sf2 (sf3 (sf3 h64)))))
 exact en (iV 0) [] ⟨_, _, rfl, ⟨rfl, rfl⟩, (tk2 (sf1 (sf2 h66)))⟩

end Go.Proofs.YtggfnbpohmhphaaGreatDoor
