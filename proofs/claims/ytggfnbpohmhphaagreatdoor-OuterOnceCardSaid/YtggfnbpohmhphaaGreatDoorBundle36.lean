/- Walks, printed by my generator o9.py. -/
import Derived.Test.YtggfnbpohmhphaaGreatDoorBundle34
import Derived.Test.YtggfnbpohmhphaaGreatDoorInv
namespace Go.Proofs.YtggfnbpohmhphaaGreatDoor
abbrev wsix (b f p d s l : Nat) (S : Wst) : List Assn := [Cl b [Value.nilIface, Value.iface 84 (Value.pointer (some ⟨f, 0, none⟩)), Value.iface 87 (Value.pointer (some ⟨p, 0, none⟩)), Value.iface 90 (Value.pointer (some ⟨d, 0, none⟩)), Value.pointer (some ⟨s, 0, none⟩), Value.pointer (some ⟨l, 0, none⟩), Value.int IntKind.i64 S.now] 79, Fd f 64 S.F, Pl p S.B, Dk d S.D, Sr 146 s S.q, Lg l S.T]
theorem ht_open {fn : FuncId} {args : List Value} {b : Nat} {S : Wst} {Po : Value → Prop} (h : ∀ f p d s l, WOk S → HT Tryz.prog fn args (wsix b f p d s l S) (fun v K => Po v ∧ K = wsix b f p d s l S)) : HT Tryz.prog fn args [Wd b S] (fun v K => Po v ∧ K = [Wd b S]) := by
  intro g w F hs
  obtain ⟨f, p, d, s, l, hW, h1⟩ := wd_open hs
  refine (h f p d s l hW g w F h1).mono ?_
  rintro e w' ⟨v, K, he, ⟨hv, rfl⟩, h2⟩
  exact ⟨v, _, he, ⟨hv, rfl⟩, wd_close hW h2⟩
theorem wd_get {g w : World} {L : List Assn} {j b : Nat} {S : Wst} (h : sat g w L) (hj : L[j]? = some (Wd b S)) : WOk S := wd_ok h hj
set_option maxHeartbeats 4000000 in
theorem wvalid_cl (b l : Nat) (v0 v1 v2 v3 v4 v5 : Value) : HT Tryz.prog 56 [pV b] [Cl b [v0, v1, v2, v3, v4, pV l, v5] 79] (fun v K => v = .bool true ∧ K = [Cl b [v0, v1, v2, v3, v4, pV l, v5] 79]) := by
 refine hiS Tryz.func56 Tryz.ntmps56 fun g w0 R h0 => go [rd 1 6 0 5 1 h0] ?_
 exact en (.bool true) [] ⟨_, _, rfl, ⟨rfl, rfl⟩, h0⟩

set_option maxHeartbeats 4000000 in
theorem wnew_ht (gn : Int) (hgn : 1 ≤ gn ∧ gn ≤ 4294967295) : HT Tryz.prog 13 [uV gn] [] (fun v K => ∃ b : Nat, v = .tuple #[pV b, iV 0] ∧ K = [Wd b (wnew gn)]) := by
 refine hiS Tryz.func13 Tryz.ntmps13 fun g w0 R h0 => go [] <| cl0 Tryz.call48 (gcheck_ok gn (by omega) (by omega)) h0 fun _ h11 => go [] <| cP Tryz.call49 ((by have h_ := fnew_ok 64 gn (by decide) (by omega); exact h_)) h11 ?_
 rintro v K _ (⟨b12, rfl, rfl⟩) h14
 have h15 := ap1 h14
 refine go [] <| cP Tryz.call50 (pnew_ht gn (by omega)) h15 ?_
 rintro v K _ (⟨b16, rfl, rfl⟩) h18
 have h19 := ap1 h18
 refine go [] <| cP Tryz.call51 (lnew_ht gn (by omega)) h19 ?_
 rintro v K _ (⟨b20, rfl, rfl⟩) h22
 have h23 := ap1 h22
 refine go [] <| cP Tryz.call52 (new_ht) h23 ?_
 rintro v K _ (⟨b24, rfl, rfl⟩) h26
 refine cP Tryz.call53 (lgnew_ht) (ap1 h26) ?_
 rintro v K _ (⟨b28, rfl, rfl⟩) h30
 have h31 := ap1 h30
 refine go [] <| nP 79 [Value.nilIface, Value.nilIface, Value.nilIface, Value.nilIface, pV b24, pV b28, iV 0] h31 (fun r32 _ h34 => ?_)
 refine go [] <| dw (fls [0, 1, 2, 3, 4, 5, 6, 7, 8, 9, 10, 11, 13, 14, 17, 18] (Tr.an 12 (Tr.fl 15 (Tr.an 16 (Tr.fl 19 (Tr.an 20 Tr.nil)))))) h34 fun _ h36 => go [.s 13 4] <| lw (.iface 84 (pV b12)) (fun _ => law_mkIface (t := 84) (x := (Operand.tmp 43)) (by kernel_rfl) Tryz.underlying84 rfl (pV b12) (by kernel_rfl) _) <| go [.s 13 6] <| lw (.iface 87 (pV b16)) (fun _ => law_mkIface (t := 87) (x := (Operand.tmp 45)) (by kernel_rfl) Tryz.underlying87 rfl (pV b16) (by kernel_rfl) _) <| go [.s 13 8] <| lw (.iface 90 (pV b20)) (fun _ => law_mkIface (t := 90) (x := (Operand.tmp 47)) (by kernel_rfl) Tryz.underlying90 rfl (pV b20) (by kernel_rfl) _) <| go [.s 13 11] <| lw (.pointer (some ⟨r32, 1, none⟩)) (fun _ => law_indexArr (x := (Operand.tmp 50)) (i := (Operand.const (iV 1))) (b := r32) (off := 0) (z := 1) (by kernel_rfl) Tryz.underlying76 1 (by kernel_rfl) 1 (by kernel_rfl) (by kernel_rfl) (by omega) (by omega) 1 (by omega) _) <| go [] <| sG [(1, .iface 84 (pV b12))] [Value.nilIface, .iface 84 (pV b12), Value.nilIface, Value.nilIface, pV b24, pV b28, iV 0] h36 fun _ h38 => ⟨kd [], ?_⟩
 refine lw (.pointer (some ⟨r32, 2, none⟩)) (fun _ => law_indexArr (x := (Operand.tmp 53)) (i := (Operand.const (iV 2))) (b := r32) (off := 0) (z := 2) (by kernel_rfl) Tryz.underlying76 1 (by kernel_rfl) 2 (by kernel_rfl) (by kernel_rfl) (by omega) (by omega) 2 (by omega) _) <| sG [(2, .iface 87 (pV b16))] [Value.nilIface, .iface 84 (pV b12), .iface 87 (pV b16), Value.nilIface, pV b24, pV b28, iV 0] h38 fun _ h40 => ⟨kd [], ?_⟩
 refine lw (.pointer (some ⟨r32, 3, none⟩)) (fun _ => law_indexArr (x := (Operand.tmp 56)) (i := (Operand.const (iV 3))) (b := r32) (off := 0) (z := 3) (by kernel_rfl) Tryz.underlying76 1 (by kernel_rfl) 3 (by kernel_rfl) (by kernel_rfl) (by omega) (by omega) 3 (by omega) _) <| sG [(3, .iface 90 (pV b20))] [Value.nilIface, .iface 84 (pV b12), .iface 87 (pV b16), .iface 90 (pV b20), pV b24, pV b28, iV 0] h40 fun w41 h42 => ⟨kd [], ?_⟩
 refine go [] ?_
 have h44 : sat g w41 [Wd r32 (wnew gn), R] := wd_close (wok_new hgn) (tk7 (sf6 (sf6 (sf5 (sf4 (sf3 (sf2 (sf6 h42))))))))
 exact en (.tuple #[pV r32, iV 0]) [] ⟨_, _, rfl, ⟨r32, rfl, rfl⟩, h44⟩

set_option maxHeartbeats 4000000 in
theorem has_no (b f p d s l : Nat) (S : Wst) (hW : WOk S) (x y z : Int) (hz0 : 0 ≤ z) (hz1 : z ≤ 4294967295) (hg : ¬ (1 ≤ x ∧ x ≤ 3 ∧ 0 ≤ y ∧ y ≤ 63 ∧ 1 ≤ z)) : HT Tryz.prog 16 [pV b, .agg #[iV x, iV y, uV z]] [Cl b [Value.nilIface, .iface 84 (pV f), .iface 87 (pV p), .iface 90 (pV d), pV s, pV l, iV S.now] 79, Fd f 64 S.F, Pl p S.B, Dk d S.D, Sr 146 s S.q, Lg l S.T] (fun v K => v = .bool false ∧ K = [Cl b [Value.nilIface, .iface 84 (pV f), .iface 87 (pV p), .iface 90 (pV d), pV s, pV l, iV S.now] 79, Fd f 64 S.F, Pl p S.B, Dk d S.D, Sr 146 s S.q, Lg l S.T]) := by
 refine hiS Tryz.func16 Tryz.ntmps16 fun g w0 R h0 => go [] <| nP 32 [iV x, iV y, uV z] h0 (fun _ _ h12 => ?_)
 refine go [] <| dw (Tr.fl 0 (Tr.an 1 (fls [2, 3] (Tr.an 4 (fls [5, 6, 7, 8, 9, 10, 11, 12, 13, 14, 16] (Tr.an 15 (Tr.an 17 (fls [18, 19] Tr.nil)))))))) h12 fun _ h14 => ?_
 have h15 := tk8 (sf7 (sf6 (sf7 (sf7 (sf7 (sf7 (sf7 (sf7 h14))))))))
 refine go [] <| cw1 Tryz.call56 (wvalid_cl b l Value.nilIface (.iface 84 (pV f)) (.iface 87 (pV p)) (.iface 90 (pV d)) (pV s) (iV S.now)) h15 fun _ h17 => ⟨kd [], ?_⟩
 refine go [rd 1 3 1 0 3 h17] ?_
 by_cases c18 : 1 ≤ x
 ·
  by_cases c19 : x ≤ 3
  ·
   by_cases c20 : 0 ≤ y
   ·
    by_cases c21 : y ≤ 63
    ·
     refine cw0 Tryz.call15 (couter_no x y z (by omega) (by omega) (by omega)) h17 fun _ h23 => ⟨kd [], ?_⟩
     refine go [] <| dsk [] <| dsk [] <| go [] ?_
     exact en (.bool false) [] ⟨_, _, rfl, ⟨rfl, rfl⟩, (tk7 (sf6 (sf6 (sf6 (sf6 (sf6 (sf6 (sf7 (tk8 (sf7 (sf7 (sf7 (sf7 (sf7 (sf7 (sf2 (sf7 h23)))))))))))))))))⟩
    refine cw0 Tryz.call15 (couter_no x y z (by omega) (by omega) (by omega)) h17 fun _ h27 => ⟨kd [], ?_⟩
    refine go [] <| dsk [] <| dsk [] <| go [] ?_
    exact en (.bool false) [] ⟨_, _, rfl, ⟨rfl, rfl⟩, (tk7 (sf6 (sf6 (sf6 (sf6 (sf6 (sf6 (sf7 (tk8 (sf7 (sf7 (sf7 (sf7 (sf7 (sf7 (sf2 (sf7 h27)))))))))))))))))⟩
   refine cw0 Tryz.call15 (couter_no x y z (by omega) (by omega) (by omega)) h17 fun _ h31 => ⟨kd [], ?_⟩
   refine go [] <| dsk [] <| dsk [] <| go [] ?_
   exact en (.bool false) [] ⟨_, _, rfl, ⟨rfl, rfl⟩, (tk7 (sf6 (sf6 (sf6 (sf6 (sf6 (sf6 (sf7 (tk8 (sf7 (sf7 (sf7 (sf7 (sf7 (sf7 (sf2 (sf7 h31)))))))))))))))))⟩
  refine cw0 Tryz.call15 (couter_no x y z (by omega) (by omega) (by omega)) h17 fun _ h35 => ⟨kd [], ?_⟩
  refine go [] <| dsk [] <| dsk [] <| go [] ?_
  exact en (.bool false) [] ⟨_, _, rfl, ⟨rfl, rfl⟩, (tk7 (sf6 (sf6 (sf6 (sf6 (sf6 (sf6 (sf7 (tk8 (sf7 (sf7 (sf7 (sf7 (sf7 (sf7 (sf2 (sf7 h35)))))))))))))))))⟩
 refine cw0 Tryz.call15 (couter_no x y z (by omega) (by omega) (by omega)) h17 fun _ h39 => ⟨kd [], ?_⟩
 refine go [] <| dsk [] <| dsk [] <| go [] ?_
 exact en (.bool false) [] ⟨_, _, rfl, ⟨rfl, rfl⟩, (tk7 (sf6 (sf6 (sf6 (sf6 (sf6 (sf6 (sf7 (tk8 (sf7 (sf7 (sf7 (sf7 (sf7 (sf7 (sf2 (sf7 h39)))))))))))))))))⟩

set_option maxHeartbeats 4000000 in
theorem has_1 (b f p d s l : Nat) (S : Wst) (hW : WOk S) (y z : Int) (hz0 : 0 ≤ z) (hz1 : z ≤ 4294967295) (hg : KGood (1, y, z)) (hy0 : 0 ≤ y) (hy1 : y ≤ 63) (hz : 1 ≤ z) : HT Tryz.prog 16 [pV b, .agg #[iV 1, iV y, uV z]] [Cl b [Value.nilIface, .iface 84 (pV f), .iface 87 (pV p), .iface 90 (pV d), pV s, pV l, iV S.now] 79, Fd f 64 S.F, Pl p S.B, Dk d S.D, Sr 146 s S.q, Lg l S.T] (fun v K => v = .bool (decide (Thr S (1, y, z))) ∧ K = [Cl b [Value.nilIface, .iface 84 (pV f), .iface 87 (pV p), .iface 90 (pV d), pV s, pV l, iV S.now] 79, Fd f 64 S.F, Pl p S.B, Dk d S.D, Sr 146 s S.q, Lg l S.T]) := by
 refine hiS Tryz.func16 Tryz.ntmps16 fun g w0 R h0 => go [] <| nP 32 [iV 1, iV y, uV z] h0 (fun _ _ h12 => ?_)
 refine go [] <| dw (Tr.fl 0 (Tr.an 1 (fls [2, 3] (Tr.an 4 (fls [5, 6, 7, 8, 9, 10, 11, 12, 13, 14, 16] (Tr.an 15 (Tr.an 17 (fls [18, 19] Tr.nil)))))))) h12 fun _ h14 => ?_
 have h15 := tk8 (sf7 (sf6 (sf7 (sf7 (sf7 (sf7 (sf7 (sf7 h14))))))))
 refine go [] <| cw1 Tryz.call56 (wvalid_cl b l Value.nilIface (.iface 84 (pV f)) (.iface 87 (pV p)) (.iface 90 (pV d)) (pV s) (iV S.now)) h15 fun _ h17 => ⟨kd [], ?_⟩
 refine go [rd 1 3 1 0 3 h17] <| cw0 Tryz.call15 (couter_ok 1 y z (by omega) (by omega) (by omega)) h17 fun _ h19 => ⟨kd [], ?_⟩
 refine go [rd 1 10 1 0 1 h19, .s 1 13] <| lw (.pointer (some ⟨b, 1, none⟩)) (fun _ => law_indexArr (x := (Operand.tmp 17)) (i := (Operand.tmp 15)) (b := b) (off := 0) (z := 1) (by kernel_rfl) Tryz.underlying76 1 (by kernel_rfl) 1 (by kernel_rfl) (by kernel_rfl) (by omega) (by omega) 1 (by omega) _) ?_
 have h22 := tk8 (sf7 (sf6 (sf6 (sf7 (sf7 (sf7 (sf7 (sf7 h19))))))))
 refine go [rd 1 14 0 1 1 h19, rd 1 16 1 0 3 h19] ?_
 refine iG 84 (pV f) "All" [] 193 ((by have h_ := fall_ht f 64 S.F; exact h_)) h22 ?_
 rintro v K _ (⟨p20, c21, rfl, rfl⟩) h24
 have h25 := ap2 h24
 have hl26 : ((inS 1 (As S.F) 0).length) ≤ 64 := by have h_ := inS_len 1 (As S.F) 0; rw [as_len, hW.fl] at h_; exact h_
 refine ⟨kd [rd 0 16 3 0 3 h25], ?_⟩
 refine cw1 Tryz.call57 (oct_ht p20 (((inS 1 (As S.F) 0).length)) c21 (allK 1 S.F) (Sl 32 3 p20 (((inS 1 (As S.F) 0).length)) c21 (fl eO (allK 1 S.F))) (gv_sl _ _ _) (allK_len _ _) (by omega) 1 y z) (tk9 (sf8 (sf7 (sf8 (sf8 (sf8 (sf8 (sf8 (sf8 (sf8 h25)))))))))) fun _ h29 => ⟨kd [], ?_⟩
 refine go [] ?_
 exact en (.bool (decide ((1, y, z) ∈ (allK 1 S.F)))) [] ⟨_, _, rfl, ⟨by rw [← thr_dec hg]; rfl, rfl⟩, (tk7 (sf6 (sf6 (sf6 (sf6 (sf6 (sf6 (sf8 (tk9 (sf8 (sf7 (sf8 (sf8 (sf8 (sf8 (sf2 (sf4 (sf8 h29))))))))))))))))))⟩

set_option maxHeartbeats 4000000 in
theorem has_2 (b f p d s l : Nat) (S : Wst) (hW : WOk S) (y z : Int) (hz0 : 0 ≤ z) (hz1 : z ≤ 4294967295) (hg : KGood (2, y, z)) (hy0 : 0 ≤ y) (hy1 : y ≤ 63) (hz : 1 ≤ z) : HT Tryz.prog 16 [pV b, .agg #[iV 2, iV y, uV z]] [Cl b [Value.nilIface, .iface 84 (pV f), .iface 87 (pV p), .iface 90 (pV d), pV s, pV l, iV S.now] 79, Fd f 64 S.F, Pl p S.B, Dk d S.D, Sr 146 s S.q, Lg l S.T] (fun v K => v = .bool (decide (Thr S (2, y, z))) ∧ K = [Cl b [Value.nilIface, .iface 84 (pV f), .iface 87 (pV p), .iface 90 (pV d), pV s, pV l, iV S.now] 79, Fd f 64 S.F, Pl p S.B, Dk d S.D, Sr 146 s S.q, Lg l S.T]) := by
 refine hiS Tryz.func16 Tryz.ntmps16 fun g w0 R h0 => go [] <| nP 32 [iV 2, iV y, uV z] h0 (fun _ _ h12 => ?_)
 refine go [] <| dw (Tr.fl 0 (Tr.an 1 (fls [2, 3] (Tr.an 4 (fls [5, 6, 7, 8, 9, 10, 11, 12, 13, 14, 16] (Tr.an 15 (Tr.an 17 (fls [18, 19] Tr.nil)))))))) h12 fun _ h14 => ?_
 have h15 := tk8 (sf7 (sf6 (sf7 (sf7 (sf7 (sf7 (sf7 (sf7 h14))))))))
 refine go [] <| cw1 Tryz.call56 (wvalid_cl b l Value.nilIface (.iface 84 (pV f)) (.iface 87 (pV p)) (.iface 90 (pV d)) (pV s) (iV S.now)) h15 fun _ h17 => ⟨kd [], ?_⟩
 refine go [rd 1 3 1 0 3 h17] <| cw0 Tryz.call15 (couter_ok 2 y z (by omega) (by omega) (by omega)) h17 fun _ h19 => ⟨kd [], ?_⟩
 refine go [rd 1 10 1 0 1 h19, .s 1 13] <| lw (.pointer (some ⟨b, 2, none⟩)) (fun _ => law_indexArr (x := (Operand.tmp 17)) (i := (Operand.tmp 15)) (b := b) (off := 0) (z := 2) (by kernel_rfl) Tryz.underlying76 1 (by kernel_rfl) 2 (by kernel_rfl) (by kernel_rfl) (by omega) (by omega) 2 (by omega) _) ?_
 have h22 := tk8 (sf7 (sf6 (sf6 (sf6 (sf7 (sf7 (sf7 (sf7 h19))))))))
 refine go [rd 1 14 0 2 1 h19, rd 1 16 1 0 3 h19] ?_
 refine iG 87 (pV p) "All" [] 195 (pall_ht p S.B) h22 ?_
 rintro v K _ (⟨p20, c21, rfl, rfl⟩) h24
 have h25 := ap2 h24
 have hl26 : ((inS 1 (As S.B) 0).length) ≤ 64 := by have h_ := inS_len 1 (As S.B) 0; rw [as_len, hW.bl] at h_; exact h_
 refine ⟨kd [rd 0 16 3 0 3 h25], ?_⟩
 refine cw1 Tryz.call57 (oct_ht p20 (((inS 1 (As S.B) 0).length)) c21 (allK 2 S.B) (Sl 32 3 p20 (((inS 1 (As S.B) 0).length)) c21 (fl eO (allK 2 S.B))) (gv_sl _ _ _) (allK_len _ _) (by omega) 2 y z) (tk9 (sf8 (sf7 (sf8 (sf8 (sf8 (sf8 (sf8 (sf8 (sf8 h25)))))))))) fun _ h29 => ⟨kd [], ?_⟩
 refine go [] ?_
 exact en (.bool (decide ((2, y, z) ∈ (allK 2 S.B)))) [] ⟨_, _, rfl, ⟨by rw [← thr_dec hg]; rfl, rfl⟩, (tk7 (sf6 (sf6 (sf6 (sf6 (sf6 (sf6 (sf8 (tk9 (sf8 (sf8 (sf6 (sf8 (sf8 (sf8 (sf2 (sf4 (sf8 h29))))))))))))))))))⟩

set_option maxHeartbeats 4000000 in
theorem has_3 (b f p d s l : Nat) (S : Wst) (hW : WOk S) (y z : Int) (hz0 : 0 ≤ z) (hz1 : z ≤ 4294967295) (hg : KGood (3, y, z)) (hy0 : 0 ≤ y) (hy1 : y ≤ 63) (hz : 1 ≤ z) : HT Tryz.prog 16 [pV b, .agg #[iV 3, iV y, uV z]] [Cl b [Value.nilIface, .iface 84 (pV f), .iface 87 (pV p), .iface 90 (pV d), pV s, pV l, iV S.now] 79, Fd f 64 S.F, Pl p S.B, Dk d S.D, Sr 146 s S.q, Lg l S.T] (fun v K => v = .bool (decide (Thr S (3, y, z))) ∧ K = [Cl b [Value.nilIface, .iface 84 (pV f), .iface 87 (pV p), .iface 90 (pV d), pV s, pV l, iV S.now] 79, Fd f 64 S.F, Pl p S.B, Dk d S.D, Sr 146 s S.q, Lg l S.T]) := by
 refine hiS Tryz.func16 Tryz.ntmps16 fun g w0 R h0 => go [] <| nP 32 [iV 3, iV y, uV z] h0 (fun _ _ h12 => ?_)
 refine go [] <| dw (Tr.fl 0 (Tr.an 1 (fls [2, 3] (Tr.an 4 (fls [5, 6, 7, 8, 9, 10, 11, 12, 13, 14, 16] (Tr.an 15 (Tr.an 17 (fls [18, 19] Tr.nil)))))))) h12 fun _ h14 => ?_
 have h15 := tk8 (sf7 (sf6 (sf7 (sf7 (sf7 (sf7 (sf7 (sf7 h14))))))))
 refine go [] <| cw1 Tryz.call56 (wvalid_cl b l Value.nilIface (.iface 84 (pV f)) (.iface 87 (pV p)) (.iface 90 (pV d)) (pV s) (iV S.now)) h15 fun _ h17 => ⟨kd [], ?_⟩
 refine go [rd 1 3 1 0 3 h17] <| cw0 Tryz.call15 (couter_ok 3 y z (by omega) (by omega) (by omega)) h17 fun _ h19 => ⟨kd [], ?_⟩
 refine go [rd 1 10 1 0 1 h19, .s 1 13] <| lw (.pointer (some ⟨b, 3, none⟩)) (fun _ => law_indexArr (x := (Operand.tmp 17)) (i := (Operand.tmp 15)) (b := b) (off := 0) (z := 3) (by kernel_rfl) Tryz.underlying76 1 (by kernel_rfl) 3 (by kernel_rfl) (by kernel_rfl) (by omega) (by omega) 3 (by omega) _) ?_
 have h22 := tk8 (sf7 (sf6 (sf6 (sf6 (sf6 (sf7 (sf7 (sf7 h19))))))))
 refine go [rd 1 14 0 3 1 h19, rd 1 16 1 0 3 h19] ?_
 refine iG 90 (pV d) "All" [] 198 (dall_ht d S.D) h22 ?_
 rintro v K _ (⟨p20, c21, rfl, rfl⟩) h24
 have h25 := ap2 h24
 have hl26 : ((inS 1 (As S.D) 0).length) ≤ 64 := by have h_ := inS_len 1 (As S.D) 0; rw [as_len, hW.dl] at h_; exact h_
 refine ⟨kd [rd 0 16 3 0 3 h25], ?_⟩
 refine cw1 Tryz.call57 (oct_ht p20 (((inS 1 (As S.D) 0).length)) c21 (allK 3 S.D) (Sl 32 3 p20 (((inS 1 (As S.D) 0).length)) c21 (fl eO (allK 3 S.D))) (gv_sl _ _ _) (allK_len _ _) (by omega) 3 y z) (tk9 (sf8 (sf7 (sf8 (sf8 (sf8 (sf8 (sf8 (sf8 (sf8 h25)))))))))) fun _ h29 => ⟨kd [], ?_⟩
 refine go [] ?_
 exact en (.bool (decide ((3, y, z) ∈ (allK 3 S.D)))) [] ⟨_, _, rfl, ⟨by rw [← thr_dec hg]; rfl, rfl⟩, (tk7 (sf6 (sf6 (sf6 (sf6 (sf6 (sf6 (sf8 (tk9 (sf8 (sf8 (sf8 (sf5 (sf8 (sf8 (sf2 (sf4 (sf8 h29))))))))))))))))))⟩

theorem has_ht (b f p d s l : Nat) (S : Wst) (hW : WOk S) (x y z : Int) (hz0 : 0 ≤ z) (hz1 : z ≤ 4294967295) : HT Tryz.prog 16 [pV b, .agg #[iV x, iV y, uV z]] (wsix b f p d s l S) (fun v K => v = .bool (decide (Thr S (x, y, z))) ∧ K = wsix b f p d s l S) := by
  by_cases h : KGood (x, y, z)
  · rcases kgood_k h with h1 | h1 | h1
    · have h2 : x = 1 := h1
      subst h2
      exact has_1 b f p d s l S hW y z hz0 hz1 h h.2.2.1 h.2.2.2.1 h.2.2.2.2
    · have h2 : x = 2 := h1
      subst h2
      exact has_2 b f p d s l S hW y z hz0 hz1 h h.2.2.1 h.2.2.2.1 h.2.2.2.2
    · have h2 : x = 3 := h1
      subst h2
      exact has_3 b f p d s l S hW y z hz0 hz1 h h.2.2.1 h.2.2.2.1 h.2.2.2.2
  · rw [decide_eq_false (fun h1 : Thr S (x, y, z) => h h1.1)]
    exact has_no b f p d s l S hW x y z hz0 hz1 h
theorem whas_ht (b : Nat) (S : Wst) (x y z : Int) (hz0 : 0 ≤ z) (hz1 : z ≤ 4294967295) : HT Tryz.prog 16 [pV b, .agg #[iV x, iV y, uV z]] [Wd b S] (fun v K => v = .bool (decide (Thr S (x, y, z))) ∧ K = [Wd b S]) := ht_open fun f p d s l hW => has_ht b f p d s l S hW x y z hz0 hz1

end Go.Proofs.YtggfnbpohmhphaaGreatDoor

/-
  What the calls of a world answer, case by case. No program in sight.
-/
namespace Go.Proofs.YtggfnbpohmhphaaGreatDoor
section
variable {S : Wst} {k y z t : Int} {o : Ky}
theorem ren_keep (h : renE S o t ≠ 0) : renS S o t = S := if_neg h
theorem ren_arg (h : ¬ KGood o ∨ t < 1 ∨ 1048576 < t) : renE S o t = 2 := if_pos h
theorem ren_kind (h : KGood o) (ht : 1 ≤ t ∧ t ≤ 1048576) (hk : o.1 ≠ 3) : renE S o t = 8 := by unfold renE; rw [if_neg (by rintro (q | q); exact q h; omega), if_pos hk]
theorem ren_none (h : KGood o) (ht : 1 ≤ t ∧ t ≤ 1048576) (hk : o.1 = 3) (hT : ¬ Thr S o) : renE S o t = 5 := by unfold renE; rw [if_neg (by rintro (q | q); exact q h; omega), if_neg (fun q => q hk), if_pos hT]
theorem ren_ok (ht : 1 ≤ t ∧ t ≤ 1048576) (hk : o.1 = 3) (hT : Thr S o) : renE S o t = rnE (vaA S.D o.2.1.toNat) t S.now ∧ renS S o t = { S with D := rnX S.D o t S.now } := by
  have e : renE S o t = rnE (vaA S.D o.2.1.toNat) t S.now := by
    unfold renE
    rw [if_neg (by rintro (q | q); exact q hT.1; omega), if_neg (fun q => q hk), if_neg (fun q => q hT)]
    rfl
  refine ⟨e, ?_⟩
  unfold renS rnX
  rw [e]
  split <;> rfl
theorem tck_arg (h : t < 1 ∨ 1048576 < t) : tckE S t = 2 ∧ tckS S t = S := by
  have e : tckE S t = 2 := if_pos h
  exact ⟨e, if_neg (by rw [e]; decide)⟩
theorem tck_over (h : 1 ≤ t ∧ t ≤ 1048576) (h2 : 1099511627776 < S.now + t) : tckE S t = 17 ∧ tckS S t = S := by
  have e : tckE S t = 17 := by unfold tckE; rw [if_neg (by omega), if_pos h2]
  exact ⟨e, if_neg (by rw [e]; decide)⟩
theorem tck_ok (h : 1 ≤ t ∧ t ≤ 1048576) (h2 : S.now + t ≤ 1099511627776) : tckE S t = 0 ∧ tckS S t = { S with now := S.now + t } := by
  have e : tckE S t = 0 := by unfold tckE; rw [if_neg (by omega), if_neg (by omega)]
  exact ⟨e, if_pos e⟩
theorem thr_at (h : Thr S (k, y, z)) : (As (S.tab k))[y.toNat]? = some (1, z) := h.2
theorem thr_nat (h : KGood (k, y, z)) : y = ((y.toNat : Nat) : Int) := by have h1 : 0 ≤ y := h.2.2.1; omega
end
end Go.Proofs.YtggfnbpohmhphaaGreatDoor

/- Walks, printed by my generator o10.py. -/
namespace Go.Proofs.YtggfnbpohmhphaaGreatDoor
set_option maxHeartbeats 4000000 in
theorem ospan_y (t : Int) (ht : 1 ≤ t ∧ t ≤ 1048576) : HT Tryz.prog 63 [iV t] [] (fun v K => v = .bool true ∧ K = []) := by
 refine hiS Tryz.func63 Tryz.ntmps63 fun g w0 R h0 => go [.v 1 1 (oT (t ≥ 1)), .v 1 4 (oT (t ≤ 1048576))] ?_
 exact en (.bool true) [] ⟨_, _, rfl, ⟨rfl, rfl⟩, h0⟩

set_option maxHeartbeats 4000000 in
theorem ospan_n (t : Int) (ht : t < 1 ∨ 1048576 < t) : HT Tryz.prog 63 [iV t] [] (fun v K => v = .bool false ∧ K = []) := by
 refine hiS Tryz.func63 Tryz.ntmps63 fun g w0 R h0 => go [.s 1 1] ?_
 by_cases c10 : t ≥ 1
 ·
  refine go [.v 1 1 (oT (t ≥ 1)), .v 1 4 (oF (t ≤ 1048576))] ?_
  exact en (.bool false) [] ⟨_, _, rfl, ⟨rfl, rfl⟩, h0⟩
 refine go [.v 1 1 (oF (t ≥ 1))] ?_
 exact en (.bool false) [] ⟨_, _, rfl, ⟨rfl, rfl⟩, h0⟩

set_option maxHeartbeats 4000000 in
theorem lease_1 (b f p d s l : Nat) (S : Wst) (hW : WOk S) (y z : Int) (hz0 : 0 ≤ z) (hz1 : z ≤ 4294967295) (hg : KGood (1, y, z)) (hy0 : 0 ≤ y) (hy1 : y ≤ 63) (hz : 1 ≤ z) : HT Tryz.prog 61 [pV b, .agg #[iV 1, iV y, uV z]] [Cl b [Value.nilIface, .iface 84 (pV f), .iface 87 (pV p), .iface 90 (pV d), pV s, pV l, iV S.now] 79, Fd f 64 S.F, Pl p S.B, Dk d S.D, Sr 146 s S.q, Lg l S.T] (fun v K => v = .tuple #[.pointer none, iV 8] ∧ K = [Cl b [Value.nilIface, .iface 84 (pV f), .iface 87 (pV p), .iface 90 (pV d), pV s, pV l, iV S.now] 79, Fd f 64 S.F, Pl p S.B, Dk d S.D, Sr 146 s S.q, Lg l S.T]) := by
 refine hiS Tryz.func61 Tryz.ntmps61 fun g w0 R h0 => ?_
 have hWn := hW.nl; have hWm := hW.nh; have hWt := hW.tn
 refine go [] <| nP 32 [iV 1, iV y, uV z] h0 (fun _ _ h12 => ?_)
 refine go [] <| dw (fls [0, 1, 2, 3, 4, 5, 6, 7, 8, 9, 10, 11, 12] Tr.nil) h12 fun _ h14 => go [rd 1 2 0 0 1 h14, .s 1 5] <| lw (.pointer (some ⟨b, 1, none⟩)) (fun _ => law_indexArr (x := (Operand.tmp 13)) (i := (Operand.tmp 11)) (b := b) (off := 0) (z := 1) (by kernel_rfl) Tryz.underlying76 1 (by kernel_rfl) 1 (by kernel_rfl) (by kernel_rfl) (by omega) (by omega) 1 (by omega) _) <| go [rd 1 6 1 1 1 h14] ?_
 exact en (.tuple #[.pointer none, iV 8]) [] ⟨_, _, rfl, ⟨rfl, rfl⟩, (tk7 (sf6 (sf6 (sf6 (sf6 (sf6 (sf6 (sf7 (tk8 (sf7 (sf7 (sf7 (sf7 (sf7 (sf7 (sf1 (sf7 h14)))))))))))))))))⟩

set_option maxHeartbeats 4000000 in
theorem lease_2 (b f p d s l : Nat) (S : Wst) (hW : WOk S) (y z : Int) (hz0 : 0 ≤ z) (hz1 : z ≤ 4294967295) (hg : KGood (2, y, z)) (hy0 : 0 ≤ y) (hy1 : y ≤ 63) (hz : 1 ≤ z) : HT Tryz.prog 61 [pV b, .agg #[iV 2, iV y, uV z]] [Cl b [Value.nilIface, .iface 84 (pV f), .iface 87 (pV p), .iface 90 (pV d), pV s, pV l, iV S.now] 79, Fd f 64 S.F, Pl p S.B, Dk d S.D, Sr 146 s S.q, Lg l S.T] (fun v K => v = .tuple #[.pointer none, iV 8] ∧ K = [Cl b [Value.nilIface, .iface 84 (pV f), .iface 87 (pV p), .iface 90 (pV d), pV s, pV l, iV S.now] 79, Fd f 64 S.F, Pl p S.B, Dk d S.D, Sr 146 s S.q, Lg l S.T]) := by
 refine hiS Tryz.func61 Tryz.ntmps61 fun g w0 R h0 => ?_
 have hWn := hW.nl; have hWm := hW.nh; have hWt := hW.tn
 refine go [] <| nP 32 [iV 2, iV y, uV z] h0 (fun _ _ h12 => ?_)
 refine go [] <| dw (fls [0, 1, 2, 3, 4, 5, 6, 7, 8, 9, 10, 11, 12] Tr.nil) h12 fun _ h14 => go [rd 1 2 0 0 1 h14, .s 1 5] <| lw (.pointer (some ⟨b, 2, none⟩)) (fun _ => law_indexArr (x := (Operand.tmp 13)) (i := (Operand.tmp 11)) (b := b) (off := 0) (z := 2) (by kernel_rfl) Tryz.underlying76 1 (by kernel_rfl) 2 (by kernel_rfl) (by kernel_rfl) (by omega) (by omega) 2 (by omega) _) <| go [rd 1 6 1 2 1 h14] ?_
 exact en (.tuple #[.pointer none, iV 8]) [] ⟨_, _, rfl, ⟨rfl, rfl⟩, (tk7 (sf6 (sf6 (sf6 (sf6 (sf6 (sf6 (sf7 (tk8 (sf7 (sf7 (sf7 (sf7 (sf7 (sf7 (sf1 (sf7 h14)))))))))))))))))⟩

set_option maxHeartbeats 4000000 in
theorem lease_n (b f p d s l : Nat) (S : Wst) (hW : WOk S) (y z : Int) (hz0 : 0 ≤ z) (hz1 : z ≤ 4294967295) (hg : KGood (3, y, z)) (hy0 : 0 ≤ y) (hy1 : y ≤ 63) (hz : 1 ≤ z) (hT : ¬ Thr S (3, y, z)) : HT Tryz.prog 61 [pV b, .agg #[iV 3, iV y, uV z]] [Cl b [Value.nilIface, .iface 84 (pV f), .iface 87 (pV p), .iface 90 (pV d), pV s, pV l, iV S.now] 79, Fd f 64 S.F, Pl p S.B, Dk d S.D, Sr 146 s S.q, Lg l S.T] (fun v K => v = .tuple #[.pointer none, iV 5] ∧ K = [Cl b [Value.nilIface, .iface 84 (pV f), .iface 87 (pV p), .iface 90 (pV d), pV s, pV l, iV S.now] 79, Fd f 64 S.F, Pl p S.B, Dk d S.D, Sr 146 s S.q, Lg l S.T]) := by
 refine hiS Tryz.func61 Tryz.ntmps61 fun g w0 R h0 => ?_
 have hWn := hW.nl; have hWm := hW.nh; have hWt := hW.tn
 refine go [] <| nP 32 [iV 3, iV y, uV z] h0 (fun _ _ h12 => ?_)
 refine go [] <| dw (fls [0, 1, 2, 3, 4, 5, 6, 7, 8, 9, 10, 11, 12] Tr.nil) h12 fun _ h14 => go [rd 1 2 0 0 1 h14, .s 1 5] <| lw (.pointer (some ⟨b, 3, none⟩)) (fun _ => law_indexArr (x := (Operand.tmp 13)) (i := (Operand.tmp 11)) (b := b) (off := 0) (z := 3) (by kernel_rfl) Tryz.underlying76 1 (by kernel_rfl) 3 (by kernel_rfl) (by kernel_rfl) (by omega) (by omega) 3 (by omega) _) ?_
 have h15 := tk8 (sf7 (sf7 (sf7 (sf7 (sf7 (sf7 (sf1 (sf7 h14))))))))
 refine go [rd 1 6 1 3 1 h14, rd 4 1 0 0 3 h14] <| cl6 Tryz.call16 ((by have h_ := has_ht b f p d s l S hW 3 y z (by omega) (by omega); rw [decide_eq_false hT] at h_; exact h_)) h15 fun _ h17 => ?_
 refine go [] ?_
 exact en (.tuple #[.pointer none, iV 5]) [] ⟨_, _, rfl, ⟨rfl, rfl⟩, (tk7 (sf6 (sf6 (sf6 (sf6 (sf6 (sf6 (sf7 h17))))))))⟩

set_option maxHeartbeats 4000000 in
theorem lease_y (b f p d s l : Nat) (S : Wst) (hW : WOk S) (y z : Int) (hz0 : 0 ≤ z) (hz1 : z ≤ 4294967295) (hg : KGood (3, y, z)) (hy0 : 0 ≤ y) (hy1 : y ≤ 63) (hz : 1 ≤ z) (hT : Thr S (3, y, z)) : HT Tryz.prog 61 [pV b, .agg #[iV 3, iV y, uV z]] [Cl b [Value.nilIface, .iface 84 (pV f), .iface 87 (pV p), .iface 90 (pV d), pV s, pV l, iV S.now] 79, Fd f 64 S.F, Pl p S.B, Dk d S.D, Sr 146 s S.q, Lg l S.T] (fun v K => v = .tuple #[pV d, iV 0] ∧ K = [Cl b [Value.nilIface, .iface 84 (pV f), .iface 87 (pV p), .iface 90 (pV d), pV s, pV l, iV S.now] 79, Fd f 64 S.F, Pl p S.B, Dk d S.D, Sr 146 s S.q, Lg l S.T]) := by
 refine hiS Tryz.func61 Tryz.ntmps61 fun g w0 R h0 => ?_
 have hWn := hW.nl; have hWm := hW.nh; have hWt := hW.tn
 refine go [] <| nP 32 [iV 3, iV y, uV z] h0 (fun _ _ h12 => ?_)
 refine go [] <| dw (fls [0, 1, 2, 3, 4, 5, 6, 7, 8, 9, 10, 11, 12] Tr.nil) h12 fun _ h14 => go [rd 1 2 0 0 1 h14, .s 1 5] <| lw (.pointer (some ⟨b, 3, none⟩)) (fun _ => law_indexArr (x := (Operand.tmp 13)) (i := (Operand.tmp 11)) (b := b) (off := 0) (z := 3) (by kernel_rfl) Tryz.underlying76 1 (by kernel_rfl) 3 (by kernel_rfl) (by kernel_rfl) (by omega) (by omega) 3 (by omega) _) ?_
 have h15 := tk8 (sf7 (sf7 (sf7 (sf7 (sf7 (sf7 (sf1 (sf7 h14))))))))
 refine go [rd 1 6 1 3 1 h14, rd 4 1 0 0 3 h14] <| cl6 Tryz.call16 ((by have h_ := has_ht b f p d s l S hW 3 y z (by omega) (by omega); rw [decide_eq_true hT] at h_; exact h_)) h15 fun _ h17 => ?_
 refine go [] ?_
 exact en (.tuple #[pV d, iV 0]) [] ⟨_, _, rfl, ⟨rfl, rfl⟩, (tk7 (sf6 (sf6 (sf6 (sf6 (sf6 (sf6 (sf7 h17))))))))⟩

set_option maxHeartbeats 4000000 in
theorem wren_no (b : Nat) (S : Wst) (x y z : Int) (hz0 : 0 ≤ z) (hz1 : z ≤ 4294967295) (hg : ¬ (1 ≤ x ∧ x ≤ 3 ∧ 0 ≤ y ∧ y ≤ 63 ∧ 1 ≤ z)) (t : Int) : HT Tryz.prog 25 [pV b, .agg #[iV x, iV y, uV z], iV t] [Wd b S] (fun v K => v = iV 2 ∧ K = [Wd b S]) := by
 refine hiS Tryz.func25 Tryz.ntmps25 fun g w0 R h0 => ?_
 obtain ⟨f10, p11, d12, s13, l14, hW15, h16⟩ := wd_open h0
 have hW15n := hW15.nl; have hW15m := hW15.nh; have hW15t := hW15.tn
 refine go [] <| nP 32 [iV x, iV y, uV z] h16 (fun r17 _ h19 => ?_)
 have h20 := tk8 (sf7 (sf6 (sf7 (sf7 (sf7 (sf7 (sf7 (sf7 h19))))))))
 refine go [] <| cl1 Tryz.call56 (wvalid_cl b l14 Value.nilIface (.iface 84 (pV f10)) (.iface 87 (pV p11)) (.iface 90 (pV d12)) (pV s13) (iV S.now)) h20 fun _ h22 => go [rd 3 0 1 0 3 h22] ?_
 by_cases c23 : 1 ≤ x
 ·
  by_cases c24 : x ≤ 3
  ·
   by_cases c25 : 0 ≤ y
   ·
    by_cases c26 : y ≤ 63
    ·
     refine cl0 Tryz.call15 (couter_no x y z (by omega) (by omega) (by omega)) h22 fun w27 h28 => go [] ?_
     have h30 : sat g w27 [Wd b S, Cl r17 [iV x, iV y, uV z] 32, R] := wd_close hW15 (tk8 (sf7 (sf7 (sf7 (sf7 (sf7 (sf7 (sf2 (sf7 h28)))))))))
     exact en (iV 2) [] ⟨_, _, rfl, ⟨rfl, rfl⟩, (tk2 (sf1 (sf2 h30)))⟩
    refine cl0 Tryz.call15 (couter_no x y z (by omega) (by omega) (by omega)) h22 fun w32 h33 => go [] ?_
    have h35 : sat g w32 [Wd b S, Cl r17 [iV x, iV y, uV z] 32, R] := wd_close hW15 (tk8 (sf7 (sf7 (sf7 (sf7 (sf7 (sf7 (sf2 (sf7 h33)))))))))
    exact en (iV 2) [] ⟨_, _, rfl, ⟨rfl, rfl⟩, (tk2 (sf1 (sf2 h35)))⟩
   refine cl0 Tryz.call15 (couter_no x y z (by omega) (by omega) (by omega)) h22 fun w37 h38 => go [] ?_
   have h40 : sat g w37 [Wd b S, Cl r17 [iV x, iV y, uV z] 32, R] := wd_close hW15 (tk8 (sf7 (sf7 (sf7 (sf7 (sf7 (sf7 (sf2 (sf7 h38)))))))))
   exact en (iV 2) [] ⟨_, _, rfl, ⟨rfl, rfl⟩, (tk2 (sf1 (sf2 h40)))⟩
  refine cl0 Tryz.call15 (couter_no x y z (by omega) (by omega) (by omega)) h22 fun w42 h43 => go [] ?_
  have h45 : sat g w42 [Wd b S, Cl r17 [iV x, iV y, uV z] 32, R] := wd_close hW15 (tk8 (sf7 (sf7 (sf7 (sf7 (sf7 (sf7 (sf2 (sf7 h43)))))))))
  exact en (iV 2) [] ⟨_, _, rfl, ⟨rfl, rfl⟩, (tk2 (sf1 (sf2 h45)))⟩
 refine cl0 Tryz.call15 (couter_no x y z (by omega) (by omega) (by omega)) h22 fun w47 h48 => go [] ?_
 have h50 : sat g w47 [Wd b S, Cl r17 [iV x, iV y, uV z] 32, R] := wd_close hW15 (tk8 (sf7 (sf7 (sf7 (sf7 (sf7 (sf7 (sf2 (sf7 h48)))))))))
 exact en (iV 2) [] ⟨_, _, rfl, ⟨rfl, rfl⟩, (tk2 (sf1 (sf2 h50)))⟩

set_option maxHeartbeats 4000000 in
theorem wren_sp (b : Nat) (S : Wst) (x y z : Int) (hz0 : 0 ≤ z) (hz1 : z ≤ 4294967295) (hg : KGood (x, y, z)) (hy0 : 0 ≤ y) (hy1 : y ≤ 63) (hz : 1 ≤ z) (hx : 1 ≤ x ∧ x ≤ 3) (t : Int) (ht : t < 1 ∨ 1048576 < t) : HT Tryz.prog 25 [pV b, .agg #[iV x, iV y, uV z], iV t] [Wd b S] (fun v K => v = iV 2 ∧ K = [Wd b S]) := by
 refine hiS Tryz.func25 Tryz.ntmps25 fun g w0 R h0 => ?_
 obtain ⟨f10, p11, d12, s13, l14, hW15, h16⟩ := wd_open h0
 have hW15n := hW15.nl; have hW15m := hW15.nh; have hW15t := hW15.tn
 refine go [] <| nP 32 [iV x, iV y, uV z] h16 (fun r17 _ h19 => ?_)
 have h20 := tk8 (sf7 (sf6 (sf7 (sf7 (sf7 (sf7 (sf7 (sf7 h19))))))))
 refine go [] <| cl1 Tryz.call56 (wvalid_cl b l14 Value.nilIface (.iface 84 (pV f10)) (.iface 87 (pV p11)) (.iface 90 (pV d12)) (pV s13) (iV S.now)) h20 fun _ h22 => go [rd 3 0 1 0 3 h22] <| cl0 Tryz.call15 (couter_ok x y z (by omega) (by omega) (by omega)) h22 fun _ h24 => go [] ?_
 by_cases c25 : 1 ≤ t
 ·
  refine cl0 Tryz.call63 (ospan_n t (by omega)) h24 fun w26 h27 => go [] ?_
  have h29 : sat g w26 [Wd b S, Cl r17 [iV x, iV y, uV z] 32, R] := wd_close hW15 (tk8 (sf7 (sf7 (sf7 (sf7 (sf7 (sf7 (sf2 (sf7 h27)))))))))
  exact en (iV 2) [] ⟨_, _, rfl, ⟨rfl, rfl⟩, (tk2 (sf1 (sf2 h29)))⟩
 refine cl0 Tryz.call63 (ospan_n t (by omega)) h24 fun w31 h32 => go [] ?_
 have h34 : sat g w31 [Wd b S, Cl r17 [iV x, iV y, uV z] 32, R] := wd_close hW15 (tk8 (sf7 (sf7 (sf7 (sf7 (sf7 (sf7 (sf2 (sf7 h32)))))))))
 exact en (iV 2) [] ⟨_, _, rfl, ⟨rfl, rfl⟩, (tk2 (sf1 (sf2 h34)))⟩

set_option maxHeartbeats 4000000 in
theorem wren_1 (b : Nat) (S : Wst) (y z : Int) (hz0 : 0 ≤ z) (hz1 : z ≤ 4294967295) (hg : KGood (1, y, z)) (hy0 : 0 ≤ y) (hy1 : y ≤ 63) (hz : 1 ≤ z) (t : Int) (ht : 1 ≤ t ∧ t ≤ 1048576) : HT Tryz.prog 25 [pV b, .agg #[iV 1, iV y, uV z], iV t] [Wd b S] (fun v K => v = iV 8 ∧ K = [Wd b S]) := by
 refine hiS Tryz.func25 Tryz.ntmps25 fun g w0 R h0 => ?_
 obtain ⟨f10, p11, d12, s13, l14, hW15, h16⟩ := wd_open h0
 have hW15n := hW15.nl; have hW15m := hW15.nh; have hW15t := hW15.tn
 refine go [] <| nP 32 [iV 1, iV y, uV z] h16 (fun r17 _ h19 => ?_)
 have h20 := tk8 (sf7 (sf6 (sf7 (sf7 (sf7 (sf7 (sf7 (sf7 h19))))))))
 refine go [] <| cl1 Tryz.call56 (wvalid_cl b l14 Value.nilIface (.iface 84 (pV f10)) (.iface 87 (pV p11)) (.iface 90 (pV d12)) (pV s13) (iV S.now)) h20 fun _ h22 => go [rd 3 0 1 0 3 h22] <| cl0 Tryz.call15 (couter_ok 1 y z (by omega) (by omega) (by omega)) h22 fun _ h24 => go [] <| cl0 Tryz.call63 (ospan_y t (by omega)) h24 fun _ h26 => ?_
 have h27 := tk8 (sf7 (sf7 (sf7 (sf7 (sf7 (sf7 (sf2 (sf7 h26))))))))
 refine go [rd 5 1 1 0 3 h26] <| cl6 Tryz.call61 (lease_1 b f10 p11 d12 s13 l14 S hW15 y z (by omega) (by omega) hg (by omega) (by omega) (by omega)) h27 fun w28 h29 => go [] ?_
 have h30 : sat g w28 [Wd b S, Cl r17 [iV 1, iV y, uV z] 32, R] := wd_close hW15 h29
 exact en (iV 8) [] ⟨_, _, rfl, ⟨rfl, rfl⟩, (tk2 (sf1 (sf2 h30)))⟩

set_option maxHeartbeats 4000000 in
theorem wren_2 (b : Nat) (S : Wst) (y z : Int) (hz0 : 0 ≤ z) (hz1 : z ≤ 4294967295) (hg : KGood (2, y, z)) (hy0 : 0 ≤ y) (hy1 : y ≤ 63) (hz : 1 ≤ z) (t : Int) (ht : 1 ≤ t ∧ t ≤ 1048576) : HT Tryz.prog 25 [pV b, .agg #[iV 2, iV y, uV z], iV t] [Wd b S] (fun v K => v = iV 8 ∧ K = [Wd b S]) := by
 refine hiS Tryz.func25 Tryz.ntmps25 fun g w0 R h0 => ?_
 obtain ⟨f10, p11, d12, s13, l14, hW15, h16⟩ := wd_open h0
 have hW15n := hW15.nl; have hW15m := hW15.nh; have hW15t := hW15.tn
 refine go [] <| nP 32 [iV 2, iV y, uV z] h16 (fun r17 _ h19 => ?_)
 have h20 := tk8 (sf7 (sf6 (sf7 (sf7 (sf7 (sf7 (sf7 (sf7 h19))))))))
 refine go [] <| cl1 Tryz.call56 (wvalid_cl b l14 Value.nilIface (.iface 84 (pV f10)) (.iface 87 (pV p11)) (.iface 90 (pV d12)) (pV s13) (iV S.now)) h20 fun _ h22 => go [rd 3 0 1 0 3 h22] <| cl0 Tryz.call15 (couter_ok 2 y z (by omega) (by omega) (by omega)) h22 fun _ h24 => go [] <| cl0 Tryz.call63 (ospan_y t (by omega)) h24 fun _ h26 => ?_
 have h27 := tk8 (sf7 (sf7 (sf7 (sf7 (sf7 (sf7 (sf2 (sf7 h26))))))))
 refine go [rd 5 1 1 0 3 h26] <| cl6 Tryz.call61 (lease_2 b f10 p11 d12 s13 l14 S hW15 y z (by omega) (by omega) hg (by omega) (by omega) (by omega)) h27 fun w28 h29 => go [] ?_
 have h30 : sat g w28 [Wd b S, Cl r17 [iV 2, iV y, uV z] 32, R] := wd_close hW15 h29
 exact en (iV 8) [] ⟨_, _, rfl, ⟨rfl, rfl⟩, (tk2 (sf1 (sf2 h30)))⟩

set_option maxHeartbeats 4000000 in
theorem wren_n (b : Nat) (S : Wst) (y z : Int) (hz0 : 0 ≤ z) (hz1 : z ≤ 4294967295) (hg : KGood (3, y, z)) (hy0 : 0 ≤ y) (hy1 : y ≤ 63) (hz : 1 ≤ z) (hT : ¬ Thr S (3, y, z)) (t : Int) (ht : 1 ≤ t ∧ t ≤ 1048576) : HT Tryz.prog 25 [pV b, .agg #[iV 3, iV y, uV z], iV t] [Wd b S] (fun v K => v = iV 5 ∧ K = [Wd b S]) := by
 refine hiS Tryz.func25 Tryz.ntmps25 fun g w0 R h0 => ?_
 obtain ⟨f10, p11, d12, s13, l14, hW15, h16⟩ := wd_open h0
 have hW15n := hW15.nl; have hW15m := hW15.nh; have hW15t := hW15.tn
 refine go [] <| nP 32 [iV 3, iV y, uV z] h16 (fun r17 _ h19 => ?_)
 have h20 := tk8 (sf7 (sf6 (sf7 (sf7 (sf7 (sf7 (sf7 (sf7 h19))))))))
 refine go [] <| cl1 Tryz.call56 (wvalid_cl b l14 Value.nilIface (.iface 84 (pV f10)) (.iface 87 (pV p11)) (.iface 90 (pV d12)) (pV s13) (iV S.now)) h20 fun _ h22 => go [rd 3 0 1 0 3 h22] <| cl0 Tryz.call15 (couter_ok 3 y z (by omega) (by omega) (by omega)) h22 fun _ h24 => go [] <| cl0 Tryz.call63 (ospan_y t (by omega)) h24 fun _ h26 => ?_
 have h27 := tk8 (sf7 (sf7 (sf7 (sf7 (sf7 (sf7 (sf2 (sf7 h26))))))))
 refine go [rd 5 1 1 0 3 h26] <| cl6 Tryz.call61 (lease_n b f10 p11 d12 s13 l14 S hW15 y z (by omega) (by omega) hg (by omega) (by omega) (by omega) hT) h27 fun w28 h29 => go [] ?_
 have h30 : sat g w28 [Wd b S, Cl r17 [iV 3, iV y, uV z] 32, R] := wd_close hW15 h29
 exact en (iV 5) [] ⟨_, _, rfl, ⟨rfl, rfl⟩, (tk2 (sf1 (sf2 h30)))⟩

set_option maxHeartbeats 4000000 in
theorem wren_y (b : Nat) (S : Wst) (y z : Int) (hz0 : 0 ≤ z) (hz1 : z ≤ 4294967295) (hg : KGood (3, y, z)) (hy0 : 0 ≤ y) (hy1 : y ≤ 63) (hz : 1 ≤ z) (hT : Thr S (3, y, z)) (t : Int) (ht : 1 ≤ t ∧ t ≤ 1048576) : HT Tryz.prog 25 [pV b, .agg #[iV 3, iV y, uV z], iV t] [Wd b S] (fun v K => v = iV (rnE (vaA S.D y.toNat) t S.now) ∧ K = [Wd b ({ S with D := rnX S.D (3, y, z) t S.now } : Wst)]) := by
 refine hiS Tryz.func25 Tryz.ntmps25 fun g w0 R h0 => ?_
 obtain ⟨f10, p11, d12, s13, l14, hW15, h16⟩ := wd_open h0
 have hW15n := hW15.nl; have hW15m := hW15.nh; have hW15t := hW15.tn
 refine go [] <| nP 32 [iV 3, iV y, uV z] h16 (fun r17 _ h19 => ?_)
 have h20 := tk8 (sf7 (sf6 (sf7 (sf7 (sf7 (sf7 (sf7 (sf7 h19))))))))
 refine go [] <| cl1 Tryz.call56 (wvalid_cl b l14 Value.nilIface (.iface 84 (pV f10)) (.iface 87 (pV p11)) (.iface 90 (pV d12)) (pV s13) (iV S.now)) h20 fun _ h22 => go [rd 3 0 1 0 3 h22] <| cl0 Tryz.call15 (couter_ok 3 y z (by omega) (by omega) (by omega)) h22 fun _ h24 => go [] <| cl0 Tryz.call63 (ospan_y t (by omega)) h24 fun _ h26 => ?_
 have h27 := tk8 (sf7 (sf7 (sf7 (sf7 (sf7 (sf7 (sf2 (sf7 h26))))))))
 refine go [rd 5 1 1 0 3 h26] <| cl6 Tryz.call61 (lease_y b f10 p11 d12 s13 l14 S hW15 y z (by omega) (by omega) hg (by omega) (by omega) (by omega) hT) h27 fun _ h29 => go [] <| dw (fls [0, 1, 2, 3, 4, 5, 6] (Tr.an 7 (Tr.fl 8 Tr.nil))) h29 fun _ h31 => ?_
 have h32 := tk8 (sf7 (sf6 (sf6 (sf6 (sf7 (sf7 (sf7 (sf7 h31))))))))
 refine go [rd 8 1 6 0 3 h31, rd 8 6 0 6 1 h31] <| cw1 Tryz.call64 (drenew_ht d12 S.D y z y.toNat (thr_at hT) (thr_nat hg) (by omega) t S.now (by omega) (by omega)) h32 fun w33 h34 => ⟨kd [], ?_⟩
 refine go [] ?_
 have h35 := tk8 (sf7 (sf7 (sf7 (sf4 (sf7 (sf7 (sf7 (sf7 h34))))))))
 have h36 : sat g w33 [Wd b ({ S with D := rnX S.D (3, y, z) t S.now } : Wst), Cl r17 [iV 3, iV y, uV z] 32, R] := wd_close ((ren_ok ht rfl hT).2 ▸ wok_ren hW15 (3, y, z) t) h35
 exact en (iV ((rnE (vaA S.D y.toNat) t S.now))) [] ⟨_, _, rfl, ⟨rfl, rfl⟩, (tk2 (sf1 (sf2 h36)))⟩

theorem wrenew_ht (b : Nat) (S : Wst) (x y z t : Int) (hz0 : 0 ≤ z) (hz1 : z ≤ 4294967295) : HT Tryz.prog 25 [pV b, .agg #[iV x, iV y, uV z], iV t] [Wd b S] (fun v K => v = iV (renE S (x, y, z) t) ∧ K = [Wd b (renS S (x, y, z) t)]) := by
  by_cases ht : 1 ≤ t ∧ t ≤ 1048576
  rotate_left
  · by_cases h : KGood (x, y, z)
    · have e_ : renE S (x, y, z) t = 2 := ren_arg (by omega)
      rw [ren_keep (by rw [e_]; decide), e_]; exact wren_sp b S x y z hz0 hz1 h h.2.2.1 h.2.2.2.1 h.2.2.2.2 ⟨h.1, h.2.1⟩ t (by omega)
    · have e_ : renE S (x, y, z) t = 2 := ren_arg (.inl h)
      rw [ren_keep (by rw [e_]; decide), e_]; exact wren_no b S x y z hz0 hz1 h t
  by_cases h : KGood (x, y, z)
  · rcases kgood_k h with h1 | h1 | h1
    · have h2 : x = 1 := h1
      subst h2
      have e_ : renE S (_, y, z) t = _ := ren_kind h ht (by show (1 : Int) ≠ 3; decide); rw [ren_keep (by rw [e_]; decide), e_]; exact wren_1 b S y z hz0 hz1 h h.2.2.1 h.2.2.2.1 h.2.2.2.2 t ht
    · have h2 : x = 2 := h1
      subst h2
      have e_ : renE S (_, y, z) t = _ := ren_kind h ht (by show (2 : Int) ≠ 3; decide); rw [ren_keep (by rw [e_]; decide), e_]; exact wren_2 b S y z hz0 hz1 h h.2.2.1 h.2.2.2.1 h.2.2.2.2 t ht
    · have h2 : x = 3 := h1
      subst h2
      by_cases hT : Thr S (3, y, z)
      · rw [(ren_ok ht rfl hT).1, (ren_ok ht rfl hT).2]; exact wren_y b S y z hz0 hz1 h h.2.2.1 h.2.2.2.1 h.2.2.2.2 hT t ht
      · have e_ : renE S (_, y, z) t = _ := ren_none h ht rfl hT; rw [ren_keep (by rw [e_]; decide), e_]; exact wren_n b S y z hz0 hz1 h h.2.2.1 h.2.2.2.1 h.2.2.2.2 hT t ht
  · have e_ : renE S (x, y, z) t = 2 := ren_arg (.inl h); rw [ren_keep (by rw [e_]; decide), e_]; exact wren_no b S x y z hz0 hz1 h t

end Go.Proofs.YtggfnbpohmhphaaGreatDoor

/- Walks, printed by my generator o11.py. -/
namespace Go.Proofs.YtggfnbpohmhphaaGreatDoor
set_option maxHeartbeats 4000000 in
theorem wtick_ht (b : Nat) (S : Wst) (t : Int) : HT Tryz.prog 29 [pV b, iV t] [Wd b S] (fun v K => v = iV (tckE S t) ∧ K = [Wd b (tckS S t)]) := by
 refine hiS Tryz.func29 Tryz.ntmps29 fun g w0 R h0 => ?_
 obtain ⟨f10, p11, d12, s13, l14, hW15, h16⟩ := wd_open h0
 have hW15n := hW15.nl; have hW15m := hW15.nh; have hW15t := hW15.tn
 refine go [] <| cl1 Tryz.call56 (wvalid_cl b l14 Value.nilIface (.iface 84 (pV f10)) (.iface 87 (pV p11)) (.iface 90 (pV d12)) (pV s13) (iV S.now)) h16 fun _ h18 => go [] ?_
 by_cases c19 : 1 ≤ t
 ·
  by_cases c20 : t ≤ 1048576
  ·
   refine cl0 Tryz.call63 (ospan_y t (by omega)) h18 fun w21 h22 => go [rd 5 3 0 6 1 h22, .v 5 5 (oIr (S.now + t)), .s 5 6] ?_
   by_cases c23 : S.now + t > 1099511627776
   ·
    refine go [.v 5 6 (oT (S.now + t > 1099511627776))] ?_
    have ht_ := tck_over (S := S) (t := t) (by omega) (by omega)
    have h24 : sat g w21 [Wd b S, R] := wd_close hW15 h22
    exact en (iV 17) [] ⟨_, [Wd b S], rfl, ⟨by rw [ht_.1], by rw [ht_.2]⟩, h24⟩
   refine go [.v 5 6 (oF (S.now + t > 1099511627776)), rd 7 3 0 6 1 h22, .v 7 5 (oIr (S.now + t))] <| sP [(6, iV (S.now + t))] [Value.nilIface, .iface 84 (pV f10), .iface 87 (pV p11), .iface 90 (pV d12), pV s13, pV l14, iV (S.now + t)] h22 fun w25 h26 => go [] ?_
   have ht_ := tck_ok (S := S) (t := t) (by omega) (by omega)
   have h27 : sat g w25 [Wd b ({ S with now := S.now + t } : Wst), R] := wd_close (ht_.2 ▸ wok_tck hW15 t) h26
   exact en (iV 0) [] ⟨_, [Wd b ({ S with now := S.now + t } : Wst)], rfl, ⟨by rw [ht_.1], by rw [ht_.2]⟩, h27⟩
  refine cl0 Tryz.call63 (ospan_n t (by omega)) h18 fun w28 h29 => go [] ?_
  have ht_ := tck_arg (S := S) (t := t) (by omega)
  have h30 : sat g w28 [Wd b S, R] := wd_close hW15 h29
  exact en (iV 2) [] ⟨_, [Wd b S], rfl, ⟨by rw [ht_.1], by rw [ht_.2]⟩, h30⟩
 refine cl0 Tryz.call63 (ospan_n t (by omega)) h18 fun w31 h32 => go [] ?_
 have ht_ := tck_arg (S := S) (t := t) (by omega)
 have h33 : sat g w31 [Wd b S, R] := wd_close hW15 h32
 exact en (iV 2) [] ⟨_, [Wd b S], rfl, ⟨by rw [ht_.1], by rw [ht_.2]⟩, h33⟩

set_option maxHeartbeats 4000000 in
theorem wnow_ht (b : Nat) (S : Wst) : HT Tryz.prog 20 [pV b] [Wd b S] (fun v K => v = iV S.now ∧ K = [Wd b S]) := by
 refine hiS Tryz.func20 Tryz.ntmps20 fun g w0 R h0 => ?_
 obtain ⟨f10, p11, d12, s13, l14, hW15, h16⟩ := wd_open h0
 have hW15n := hW15.nl; have hW15m := hW15.nh; have hW15t := hW15.tn
 refine go [] <| cl1 Tryz.call56 (wvalid_cl b l14 Value.nilIface (.iface 84 (pV f10)) (.iface 87 (pV p11)) (.iface 90 (pV d12)) (pV s13) (iV S.now)) h16 fun w17 h18 => go [rd 3 3 0 6 1 h18] ?_
 have h19 : sat g w17 [Wd b S, R] := wd_close hW15 h18
 exact en (iV S.now) [] ⟨_, _, rfl, ⟨rfl, rfl⟩, h19⟩

set_option maxHeartbeats 4000000 in
theorem wansw_ht (wo : World) (hg : Lett wo) (b : Nat) (S : Wst) (l : List UInt8) (hl : l.length ≤ 1099511627776) : HT Tryz.prog 30 [pV b, .string (St l)] [Wd b S, Old wo] (fun v K => v = iV (aswE S l) ∧ K = [Wd b (aswS S l), Old wo]) := by
 refine hiS Tryz.func30 Tryz.ntmps30 fun g w0 R h0 => ?_
 obtain ⟨f10, p11, d12, s13, l14, hW15, h16⟩ := wd_open h0
 have hW15n := hW15.nl; have hW15m := hW15.nh; have hW15t := hW15.tn
 refine go [] <| cl1 Tryz.call56 (wvalid_cl b l14 Value.nilIface (.iface 84 (pV f10)) (.iface 87 (pV p11)) (.iface 90 (pV d12)) (pV s13) (iV S.now)) h16 fun _ h18 => ?_
 have h19 := tk8 (sf7 (sf7 (sf5 (sf5 (sf5 (sf5 (sf6 (sf7 h18))))))))
 refine go [rd 3 3 0 4 1 h18] <| cl2 Tryz.call70 (add_ht wo hg s13 S.q l hl) h19 fun w20 h21 => go [] ?_
 have h23 : sat g w20 [Wd b (aswS S l), Old wo, R] := wd_close (wok_asw hW15 l) (tk8 (sf7 (sf7 (sf7 (sf7 (sf3 (sf7 (sf2 (sf7 h21)))))))))
 exact en (iV ((addE S.q l))) [] ⟨_, _, rfl, ⟨rfl, rfl⟩, h23⟩

set_option maxHeartbeats 4000000 in
theorem wledg_ht (b : Nat) (S : Wst) : HT Tryz.prog 17 [pV b] [Wd b S] (fun v K => ∃ b2 : Nat, v = pV b2 ∧ K = [Wd b S, Lg b2 S.T]) := by
 refine hiS Tryz.func17 Tryz.ntmps17 fun g w0 R h0 => ?_
 obtain ⟨f10, p11, d12, s13, l14, hW15, h16⟩ := wd_open h0
 have hW15n := hW15.nl; have hW15m := hW15.nh; have hW15t := hW15.tn
 refine go [] <| cl1 Tryz.call56 (wvalid_cl b l14 Value.nilIface (.iface 84 (pV f10)) (.iface 87 (pV p11)) (.iface 90 (pV d12)) (pV s13) (iV S.now)) h16 fun _ h18 => ?_
 have h20 := tk7 (sf6 (sf5 (sf5 (sf5 (sf5 (sf5 (sf6 h18)))))))
 refine go [rd 3 3 0 5 1 h18] <| cP Tryz.call58 (lgcopy_ht l14 S.T) h20 ?_
 rintro v K w21 (⟨b19, rfl, rfl⟩) h22
 have h23 := ap2 h22
 refine go [] ?_
 have h25 : sat g w21 [Wd b S, Lg b19 S.T, R] := wd_close hW15 (tk8 (sf7 (sf7 (sf7 (sf7 (sf7 (sf2 (sf2 (sf7 h23)))))))))
 exact en (pV b19) [] ⟨_, _, rfl, ⟨b19, rfl, rfl⟩, h25⟩

set_option maxHeartbeats 4000000 in
theorem wall_ht (b : Nat) (S : Wst) : HT Tryz.prog 19 [pV b] [Wd b S] (fun v K => ∃ p c, v = .slice p (allS S).length c ∧ K = [Sl 32 3 p (((allS S).length)) c (fl eO (allS S)), Wd b S]) := by
 refine hiS Tryz.func19 Tryz.ntmps19 fun g w0 R h0 => ?_
 obtain ⟨f10, p11, d12, s13, l14, hW15, h16⟩ := wd_open h0
 have hW15n := hW15.nl; have hW15m := hW15.nh; have hW15t := hW15.tn
 refine go [] <| cl1 Tryz.call56 (wvalid_cl b l14 Value.nilIface (.iface 84 (pV f10)) (.iface 87 (pV p11)) (.iface 90 (pV d12)) (pV s13) (iV S.now)) h16 fun _ h18 => go [.s 4 3] <| lwP (.slice (some ⟨b, 1, none⟩) 3 3) (law_sliceArr (x := (Operand.tmp 11)) (lo := (some (Operand.const (iV 1)))) (hi := none) (b := b) (off := 0) (by kernel_rfl) Tryz.underlying76 1 (by kernel_rfl) 1 4 1 4 (by kernel_rfl) (show fe _ _ (Operand.const (iV 1)) = _ from by kernel_rfl) rfl (by omega) (by omega) (by omega) (by omega) 1 ((if_neg (by omega)).trans (by omega)) 3 3 (by omega) (by omega) _) <| go [.v 4 4 (oJ .i64 (3 : Int) 3)] <| unS 3 <| go [.s 6 0] <| lwP (.pointer (some ⟨b, 1, none⟩)) (law_indexSl (x := (Operand.tmp 12)) (i := (Operand.tmp 14)) (b := b) (off := 1) (z := 0) (len := 3) (cap := 3) (by kernel_rfl) Tryz.underlying103 1 (by kernel_rfl) 0 (by kernel_rfl) (by kernel_rfl) (by omega) (by omega) 1 (by omega) _) ?_
 have h21 := tk7 (sf6 (sf5 (sf6 (sf6 (sf6 (sf6 (sf6 h18)))))))
 refine go [rd 6 1 0 1 1 h18] ?_
 refine iP 84 (pV f10) "All" [] 193 ((by have h_ := fall_ht f10 64 S.F; exact h_)) h21 ?_
 rintro v K w22 (⟨p19, c20, rfl, rfl⟩) h23
 have h24 := ap2 h23
 have hl25 : ((inS 1 (As S.F) 0).length) ≤ 64 := by have h_ := inS_len 1 (As S.F) 0; rw [as_len, hW15.fl] at h_; exact h_
 have h26 : sat g w22 [Sl 32 3 none 0 0 (fl eO []), Fd f10 64 S.F, Sl 32 3 p19 (((inS 1 (As S.F) 0).length)) c20 (fl eO (allK 1 S.F)), Cl b [Value.nilIface, .iface 84 (pV f10), .iface 87 (pV p11), .iface 90 (pV d12), pV s13, pV l14, iV S.now] 79, Pl p11 S.B, Dk d12 S.D, Sr 146 s13 S.q, Lg l14 S.T, R] := sl_nil 32 3 h24
 refine actG ?_
 refine an_append_gv (d := 21) (sz := 3) (s := (Operand.tmp 18)) (x := (Operand.tmp 20)) (z := .agg #[iV 0, iV 0, uV 0]) (p := none) (p2 := p19) (m := 0) (c := 0) (k := (((inS 1 (As S.F) 0).length))) (c2 := c20) (by_ := 24) (by kernel_rfl) (by kernel_rfl) rfl Tryz.underlying30 (by kernel_rfl) rfl (by decide) (by kernel_rfl) (by kernel_rfl) h26 2 rfl (fl eO (allK 1 S.F)) (gv_sl _ _ _) (by rw [fl_len eO_ok, show ((allK 1 S.F)).length = ((inS 1 (As S.F) 0).length) from (allK_len _ _)]) (fl_one eO_ok _) (by omega) (by omega) (((inS 1 (As S.F) 0).length)) (by omega) ?_
 intro p27 cap28 w29 h30
 have h31 : sat g w29 [Sl 32 3 p27 (((inS 1 (As S.F) 0).length)) cap28 (fl eO (allK 1 S.F)), Fd f10 64 S.F, Sl 32 3 p19 (((inS 1 (As S.F) 0).length)) c20 (fl eO (allK 1 S.F)), Cl b [Value.nilIface, .iface 84 (pV f10), .iface 87 (pV p11), .iface 90 (pV d12), pV s13, pV l14, iV S.now] 79, Pl p11 S.B, Dk d12 S.D, Sr 146 s13 S.q, Lg l14 S.T, R] := sat_imp h30 (fun _ hh => by exact hh)
 obtain ⟨hn32, hn33⟩ := sl_le h31
 refine nxA <| go [] <| unN <| go [.s 6 0] <| lwP (.pointer (some ⟨b, 2, none⟩)) (law_indexSl (x := (Operand.tmp 12)) (i := (Operand.tmp 14)) (b := b) (off := 1) (z := 1) (len := 3) (cap := 3) (by kernel_rfl) Tryz.underlying103 1 (by kernel_rfl) 1 (by kernel_rfl) (by kernel_rfl) (by omega) (by omega) 2 (by omega) _) ?_
 have h36 := tk9 (sf8 (sf7 (sf7 (sf7 (sf7 (sf8 (sf8 (sf8 (sf8 h31)))))))))
 refine go [rd 6 1 3 2 1 h31] ?_
 refine iP 87 (pV p11) "All" [] 195 (pall_ht p11 S.B) h36 ?_
 rintro v K _ (⟨p34, c35, rfl, rfl⟩) h38
 have h39 := ap2 h38
 have hl40 : ((inS 1 (As S.B) 0).length) ≤ 64 := by have h_ := inS_len 1 (As S.B) 0; rw [as_len, hW15.bl] at h_; exact h_
 have h41 := tk10 (sf9 (sf8 (sf8 (sf9 (sf9 (sf9 (sf9 (sf9 (sf9 (sf9 h39))))))))))
 refine actG ?_
 refine an_append_gv (d := 21) (sz := 3) (s := (Operand.tmp 18)) (x := (Operand.tmp 20)) (z := .agg #[iV 0, iV 0, uV 0]) (p := p27) (p2 := p34) (m := (((inS 1 (As S.F) 0).length))) (c := cap28) (k := (((inS 1 (As S.B) 0).length))) (c2 := c35) (by_ := 24) (by kernel_rfl) (by kernel_rfl) rfl Tryz.underlying30 (by kernel_rfl) rfl (by decide) (by kernel_rfl) (by kernel_rfl) h41 2 rfl (fl eO (allK 2 S.B)) (gv_sl _ _ _) (by rw [fl_len eO_ok, show ((allK 2 S.B)).length = ((inS 1 (As S.B) 0).length) from (allK_len _ _)]) (fl_one eO_ok _) (by omega) (by omega) (((inS 1 (As S.F) 0).length) + ((inS 1 (As S.B) 0).length)) (by omega) ?_
 intro p42 cap43 w44 h45
 have h46 : sat g w44 [Sl 32 3 p42 (((inS 1 (As S.F) 0).length) + ((inS 1 (As S.B) 0).length)) cap43 (fl eO ((allK 1 S.F) ++ (allK 2 S.B))), Pl p11 S.B, Sl 32 3 p34 (((inS 1 (As S.B) 0).length)) c35 (fl eO (allK 2 S.B)), Fd f10 64 S.F, Sl 32 3 p19 (((inS 1 (As S.F) 0).length)) c20 (fl eO (allK 1 S.F)), Cl b [Value.nilIface, .iface 84 (pV f10), .iface 87 (pV p11), .iface 90 (pV d12), pV s13, pV l14, iV S.now] 79, Dk d12 S.D, Sr 146 s13 S.q, Lg l14 S.T, R] := sat_imp h45 (fun _ hh => by rw [fl_app]; exact hh)
 obtain ⟨hn47, hn48⟩ := sl_le h46
 refine nxA <| go [] <| unN <| go [.s 6 0] <| lwP (.pointer (some ⟨b, 3, none⟩)) (law_indexSl (x := (Operand.tmp 12)) (i := (Operand.tmp 14)) (b := b) (off := 1) (z := 2) (len := 3) (cap := 3) (by kernel_rfl) Tryz.underlying103 1 (by kernel_rfl) 2 (by kernel_rfl) (by kernel_rfl) (by omega) (by omega) 3 (by omega) _) ?_
 have h51 := tk10 (sf9 (sf8 (sf8 (sf8 (sf8 (sf8 (sf8 (sf9 (sf9 (sf9 h46))))))))))
 refine go [rd 6 1 5 3 1 h46] ?_
 refine iP 90 (pV d12) "All" [] 198 (dall_ht d12 S.D) h51 ?_
 rintro v K _ (⟨p49, c50, rfl, rfl⟩) h53
 have h54 := ap2 h53
 have hl55 : ((inS 1 (As S.D) 0).length) ≤ 64 := by have h_ := inS_len 1 (As S.D) 0; rw [as_len, hW15.dl] at h_; exact h_
 have h56 := tk11 (sf10 (sf9 (sf9 (sf10 (sf10 (sf10 (sf10 (sf10 (sf10 (sf10 (sf10 h54)))))))))))
 refine actG ?_
 refine an_append_gv (d := 21) (sz := 3) (s := (Operand.tmp 18)) (x := (Operand.tmp 20)) (z := .agg #[iV 0, iV 0, uV 0]) (p := p42) (p2 := p49) (m := (((inS 1 (As S.F) 0).length) + ((inS 1 (As S.B) 0).length))) (c := cap43) (k := (((inS 1 (As S.D) 0).length))) (c2 := c50) (by_ := 24) (by kernel_rfl) (by kernel_rfl) rfl Tryz.underlying30 (by kernel_rfl) rfl (by decide) (by kernel_rfl) (by kernel_rfl) h56 2 rfl (fl eO (allK 3 S.D)) (gv_sl _ _ _) (by rw [fl_len eO_ok, show ((allK 3 S.D)).length = ((inS 1 (As S.D) 0).length) from (allK_len _ _)]) (fl_one eO_ok _) (by omega) (by omega) (((inS 1 (As S.F) 0).length) + ((inS 1 (As S.B) 0).length) + ((inS 1 (As S.D) 0).length)) (by omega) ?_
 intro p57 cap58 w59 h60
 have h61 : sat g w59 [Sl 32 3 p57 (((inS 1 (As S.F) 0).length) + ((inS 1 (As S.B) 0).length) + ((inS 1 (As S.D) 0).length)) cap58 (fl eO (((allK 1 S.F) ++ (allK 2 S.B)) ++ (allK 3 S.D))), Dk d12 S.D, Sl 32 3 p49 (((inS 1 (As S.D) 0).length)) c50 (fl eO (allK 3 S.D)), Pl p11 S.B, Sl 32 3 p34 (((inS 1 (As S.B) 0).length)) c35 (fl eO (allK 2 S.B)), Fd f10 64 S.F, Sl 32 3 p19 (((inS 1 (As S.F) 0).length)) c20 (fl eO (allK 1 S.F)), Cl b [Value.nilIface, .iface 84 (pV f10), .iface 87 (pV p11), .iface 90 (pV d12), pV s13, pV l14, iV S.now] 79, Sr 146 s13 S.q, Lg l14 S.T, R] := sat_imp h60 (fun _ hh => by rw [fl_app]; exact hh)
 obtain ⟨hn62, hn63⟩ := sl_le h61
 refine nxA <| go [] <| unN <| go [] <| up <| go [] ?_
 have hn_ : ((inS 1 (As S.F) 0).length) + ((inS 1 (As S.B) 0).length) + ((inS 1 (As S.D) 0).length) = (allS S).length := by unfold allS; rw [List.length_append, List.length_append, allK_len, allK_len, allK_len]; omega
 have h64 : sat g w59 [Sl 32 3 p57 (((allS S).length)) cap58 (fl eO (allS S)), Dk d12 S.D, Sl 32 3 p49 (((inS 1 (As S.D) 0).length)) c50 (fl eO (allK 3 S.D)), Pl p11 S.B, Sl 32 3 p34 (((inS 1 (As S.B) 0).length)) c35 (fl eO (allK 2 S.B)), Fd f10 64 S.F, Sl 32 3 p19 (((inS 1 (As S.F) 0).length)) c20 (fl eO (allK 1 S.F)), Cl b [Value.nilIface, .iface 84 (pV f10), .iface 87 (pV p11), .iface 90 (pV d12), pV s13, pV l14, iV S.now] 79, Sr 146 s13 S.q, Lg l14 S.T, R] := sat_imp h61 (fun _ hh_ => by rw [hn_, show (((allK 1 S.F) ++ (allK 2 S.B)) ++ (allK 3 S.D)) = allS S from by unfold allS; simp only [List.append_assoc]] at hh_; exact hh_)
 have h66 : sat g w59 [Wd b S, Sl 32 3 p57 (((allS S).length)) cap58 (fl eO (allS S)), Sl 32 3 p49 (((inS 1 (As S.D) 0).length)) c50 (fl eO (allK 3 S.D)), Sl 32 3 p34 (((inS 1 (As S.B) 0).length)) c35 (fl eO (allK 2 S.B)), Sl 32 3 p19 (((inS 1 (As S.F) 0).length)) c20 (fl eO (allK 1 S.F)), R] := wd_close hW15 (tk11 (sf10 (sf9 (sf8 (sf7 (sf10 (sf10 (sf4 (sf5 (sf6 (sf7 (sf10 h64))))))))))))
 exact en (.slice p57 (((inS 1 (As S.F) 0).length) + ((inS 1 (As S.B) 0).length) + ((inS 1 (As S.D) 0).length)) cap58) [] ⟨_, _, rfl, ⟨p57, cap58, by rw [hn_], rfl⟩, (tk3 (sf2 (sf2 (sf5 (tk6 (sf5 (sf4 (sf5 (sf5 (sf5 (sf5 h66)))))))))))⟩

end Go.Proofs.YtggfnbpohmhphaaGreatDoor

/-
  Acquiring and releasing, case by case. No program in sight.
-/
namespace Go.Proofs.YtggfnbpohmhphaaGreatDoor
section
variable {S : Wst} {k a y z wy : Int} {o : Ky}
theorem acq_arg (h : ¬ godP k a) : acqE S k a = 2 ∧ acqO S k a = (0, 0, 0) ∧ acqS S k a = S := by
  have e : acqE S k a = 2 := if_pos h
  exact ⟨e, if_neg (by rw [e]; decide), if_pos (.inl h)⟩
theorem acq_err (h : godP k a) {e : Int} (he : grwE S k a = e) (h0 : e ≠ 0) : acqE S k a = e ∧ acqO S k a = (0, 0, 0) ∧ acqS S k a = S := by
  have e1 : acqE S k a = e := by unfold acqE; rw [if_neg (fun q => q h), if_pos (by rw [he]; exact h0), he]
  exact ⟨e1, if_neg (by rw [e1]; exact h0), if_pos (.inr (by rw [he]; exact h0))⟩
theorem acq_later (h : godP k a) (he : grwE S k a = 0) (hq : S.q.headD 1 = 2) : acqE S k a = 15 ∧ acqO S k a = (0, 0, 0) ∧ acqS S k a = { S with q := S.q.tail } := by
  have e1 : acqE S k a = 15 := by unfold acqE; rw [if_neg (fun q => q h), if_neg (fun q => q he), if_pos hq]
  refine ⟨e1, if_neg (by rw [e1]; decide), ?_⟩
  unfold acqS
  rw [if_neg (by rintro (q | q); exact q h; exact q he), if_neg (by rw [e1]; decide)]
theorem acq_fail (h : godP k a) (he : grwE S k a = 0) (hq2 : S.q.headD 1 ≠ 2) (hq : S.q.headD 1 = 3) : acqE S k a = 14 ∧ acqO S k a = (0, 0, 0) ∧ acqS S k a = { S with q := S.q.tail } := by
  have e1 : acqE S k a = 14 := by unfold acqE; rw [if_neg (fun q => q h), if_neg (fun q => q he), if_neg hq2, if_pos hq]
  refine ⟨e1, if_neg (by rw [e1]; decide), ?_⟩
  unfold acqS
  rw [if_neg (by rintro (q | q); exact q h; exact q he), if_neg (by rw [e1]; decide)]
theorem acq_ok (h : godP k a) (he : grwE S k a = 0) (hq2 : S.q.headD 1 ≠ 2) (hq : S.q.headD 1 ≠ 3) : acqE S k a = 0 ∧ acqO S k a = nam k (S.tab k) ∧ acqS S k a = ({ S with q := S.q.tail } : Wst).put k (grw (S.tab k) (valO S k a)) := by
  have e1 : acqE S k a = 0 := by unfold acqE; rw [if_neg (fun q => q h), if_neg (fun q => q he), if_neg hq2, if_neg hq]
  refine ⟨e1, if_pos e1, ?_⟩
  unfold acqS
  rw [if_neg (by rintro (q | q); exact q h; exact q he), if_pos e1]
theorem god1 (h : 0 ≤ a ∧ a ≤ 65535) : godP 1 a := .inl ⟨rfl, h.1, h.2⟩
theorem god2 (h : 1 ≤ a ∧ a ≤ 65536) : godP 2 a := .inr (.inl ⟨rfl, h.1, h.2⟩)
theorem god3 (h : 1 ≤ a ∧ a ≤ 1048576) : godP 3 a := .inr (.inr ⟨rfl, h.1, h.2⟩)
theorem god_no1 (h : ¬ (0 ≤ a ∧ a ≤ 65535)) : ¬ godP 1 a := by unfold godP; omega
theorem god_no2 (h : ¬ (1 ≤ a ∧ a ≤ 65536)) : ¬ godP 2 a := by unfold godP; omega
theorem god_no3 (h : ¬ (1 ≤ a ∧ a ≤ 1048576)) : ¬ godP 3 a := by unfold godP; omega
theorem god_no (h : k < 1 ∨ 3 < k) : ¬ godP k a := by unfold godP; omega
/-- The tables' own words for growing. -/
theorem fre_pos' {X : Xs} (h : ¬ fre X = none) : 0 < (inS 0 (As X) 0).length := by
  rcases Nat.eq_zero_or_pos (inS 0 (As X) 0).length with h0 | h0
  · exact absurd (fre_none.2 h0) h
  · exact h0
theorem opn_grw (h : 0 ≤ a ∧ a ≤ 65535) : opnE S.F a = grwE S 1 a ∧ (opnE S.F a = 0 → opnO S.F a = nam 1 S.F ∧ opnX S.F a = grw S.F a) := by
  have e : grwE S 1 a = if fre S.F = none then 4 else 0 := by
    unfold grwE
    rw [if_neg (by rintro ⟨q, _⟩; exact absurd q (by decide)), if_neg (by rintro ⟨q, _⟩; exact absurd q (by decide))]
    rfl
  rw [e]
  by_cases hf : fre S.F = none
  · rw [if_pos hf]
    have h1 := opn_full (X := S.F) h (fre_none.1 hf)
    exact ⟨h1.2.1, fun q => absurd (h1.2.1.symm.trans q) (by decide)⟩
  · rw [if_neg hf]
    have hp := fre_pos (fre_pos' hf)
    have h1 := opn_ok (X := S.F) (v := a) h hp
    refine ⟨h1.2.1, fun _ => ⟨?_, ?_⟩⟩
    · rw [h1.1]; unfold nam; rw [hp]
    · rw [h1.2.2]; unfold grw; rw [hp]
theorem pin_grw (h : 1 ≤ a ∧ a ≤ 65536) : pinE S.B a = grwE S 2 a ∧ (pinE S.B a = 0 → pinO S.B a = nam 2 S.B ∧ pinX S.B a = grw S.B a) := by
  refine ⟨?_, fun q => ⟨if_pos q, if_pos q⟩⟩
  unfold grwE pinE
  by_cases h1 : 1048576 < used S.B + a
  · rw [if_pos h1, if_pos ⟨rfl, h1⟩]
  · rw [if_neg h1, if_neg (fun q => h1 q.2), if_neg (by rintro ⟨q, _⟩; exact absurd q (by decide))]
    rfl
theorem gnt_grw (h : 1 ≤ a ∧ a ≤ 1048576) : gntE S.D a S.now = grwE S 3 a ∧ (gntE S.D a S.now = 0 → gntO S.D a S.now = nam 3 S.D ∧ gntX S.D a S.now = grw S.D (S.now + a)) := by
  refine ⟨?_, fun q => ⟨if_pos q, if_pos q⟩⟩
  have e1 : ¬ ((3 : Int) = 2 ∧ 1048576 < used S.B + a) := fun q => absurd q.1 (by decide)
  by_cases h1 : 1099511627776 - a < S.now
  · exact (if_pos h1 : gntE S.D a S.now = 17).trans ((if_neg e1).trans (if_pos ⟨rfl, h1⟩)).symm
  · exact (if_neg h1 : gntE S.D a S.now = tkE S.D).trans ((if_neg e1).trans (if_neg (fun q => h1 q.2))).symm
theorem acq_ok1 (h : 0 ≤ a ∧ a ≤ 65535) (he : opnE S.F a = 0) (hq2 : S.q.headD 1 ≠ 2) (hq : S.q.headD 1 ≠ 3) : acqE S 1 a = 0 ∧ acqO S 1 a = opnO S.F a ∧ acqS S 1 a = { S with q := S.q.tail, F := opnX S.F a } := by
  obtain ⟨h1, h2⟩ := opn_grw (S := S) h
  obtain ⟨h3, h4⟩ := h2 he
  obtain ⟨h5, h6, h7⟩ := acq_ok (S := S) (god1 h) (h1 ▸ he) hq2 hq
  exact ⟨h5, h6.trans h3.symm, h7.trans (by rw [h4]; rfl)⟩
theorem acq_ok2 (h : 1 ≤ a ∧ a ≤ 65536) (he : pinE S.B a = 0) (hq2 : S.q.headD 1 ≠ 2) (hq : S.q.headD 1 ≠ 3) : acqE S 2 a = 0 ∧ acqO S 2 a = pinO S.B a ∧ acqS S 2 a = { S with q := S.q.tail, B := pinX S.B a } := by
  obtain ⟨h1, h2⟩ := pin_grw (S := S) h
  obtain ⟨h3, h4⟩ := h2 he
  obtain ⟨h5, h6, h7⟩ := acq_ok (S := S) (god2 h) (h1 ▸ he) hq2 hq
  exact ⟨h5, h6.trans h3.symm, h7.trans (by rw [h4]; rfl)⟩
theorem acq_ok3 (h : 1 ≤ a ∧ a ≤ 1048576) (he : gntE S.D a S.now = 0) (hq2 : S.q.headD 1 ≠ 2) (hq : S.q.headD 1 ≠ 3) : acqE S 3 a = 0 ∧ acqO S 3 a = gntO S.D a S.now ∧ acqS S 3 a = { S with q := S.q.tail, D := gntX S.D a S.now } := by
  obtain ⟨h1, h2⟩ := gnt_grw (S := S) h
  obtain ⟨h3, h4⟩ := h2 he
  obtain ⟨h5, h6, h7⟩ := acq_ok (S := S) (god3 h) (h1 ▸ he) hq2 hq
  exact ⟨h5, h6.trans h3.symm, h7.trans (by rw [h4]; rfl)⟩
/-- Releasing. -/
theorem rel_arg (h : ¬ KGood o ∨ wy < 1 ∨ 3 < wy) : relE S o wy = 2 ∧ relA S o wy = 0 ∧ relS S o wy = S := by
  have e : relE S o wy = 2 := if_pos h
  exact ⟨e, if_neg (by rw [e]; decide), if_pos (by rw [e]; decide)⟩
theorem rel_none (h : KGood o) (hw : 1 ≤ wy ∧ wy ≤ 3) (hT : ¬ Thr S o) : relE S o wy = 5 ∧ relA S o wy = 0 ∧ relS S o wy = S := by
  have e : relE S o wy = 5 := by unfold relE; rw [if_neg (by rintro (q | q); exact q h; omega), if_pos hT]
  exact ⟨e, if_neg (by rw [e]; decide), if_pos (by rw [e]; decide)⟩
theorem rel_full (hw : 1 ≤ wy ∧ wy ≤ 3) (hT : Thr S o) (hn : 10000 ≤ S.T.length) : relE S o wy = 4 ∧ relA S o wy = 0 ∧ relS S o wy = S := by
  have e : relE S o wy = 4 := by unfold relE; rw [if_neg (by rintro (q | q); exact q hT.1; omega), if_neg (fun q => q hT), if_pos hn]
  exact ⟨e, if_neg (by rw [e]; decide), if_pos (by rw [e]; decide)⟩
theorem rel_ok (hw : 1 ≤ wy ∧ wy ≤ 3) (hT : Thr S o) (hn : S.T.length < 10000) : relE S o wy = 0 ∧ relA S o wy = S.q.headD 1 ∧ relS S o wy = if S.q.headD 1 = 1 then ({ S with q := S.q.tail, T := S.T ++ [⟨S.now, o, wy, S.q.headD 1⟩] } : Wst).put o.1 (giv (S.tab o.1) o) else { S with q := S.q.tail, T := S.T ++ [⟨S.now, o, wy, S.q.headD 1⟩] } := by
  have e : relE S o wy = 0 := by unfold relE; rw [if_neg (by rintro (q | q); exact q hT.1; omega), if_neg (fun q => q hT), if_neg (by omega)]
  exact ⟨e, if_pos e, if_neg (by rw [e]; decide)⟩
theorem rel_attP (hW : WOk S) (h : KGood o) (hw : 1 ≤ wy ∧ wy ≤ 3) : attP ⟨S.now, o, wy, S.q.headD 1⟩ := by
  have := headD_bd hW.qb
  exact ⟨hW.nl, hW.nh, kgood_iff.2 h, hw.1, hw.2, this.1, this.2⟩
theorem cls_giv (hT : Thr S (1, y, z)) : clsX S.F (1, y, z) = giv S.F (1, y, z) := by
  obtain ⟨hg, h1⟩ := hT
  have h2 : errA (As S.F) (1, y, z) = 0 := chk_ok (As S.F) (q := y.toNat) (s := (1, z)) rfl hg.2.2.2.1 hg.2.2.2.2 (thr_nat hg) h1 ⟨rfl, rfl⟩
  unfold clsX giv
  rw [if_pos h2]
end
end Go.Proofs.YtggfnbpohmhphaaGreatDoor

/- Walks, printed by my generator o12.py. -/
namespace Go.Proofs.YtggfnbpohmhphaaGreatDoor
set_option maxHeartbeats 4000000 in
theorem god_1y (a : Int) (ha : 0 ≤ a ∧ a ≤ 65535) : HT Tryz.prog 68 [iV 1, iV a] [] (fun v K => v = .bool true ∧ K = []) := by
 refine hiS Tryz.func68 Tryz.ntmps68 fun g w0 R h0 => go [.v 3 1 (oT (a ≥ 0)), .v 3 4 (oT (a ≤ 65535))] ?_
 exact en (.bool true) [] ⟨_, _, rfl, ⟨rfl, rfl⟩, h0⟩

set_option maxHeartbeats 4000000 in
theorem god_1n (a : Int) (ha : a < 0 ∨ 65535 < a) : HT Tryz.prog 68 [iV 1, iV a] [] (fun v K => v = .bool false ∧ K = []) := by
 refine hiS Tryz.func68 Tryz.ntmps68 fun g w0 R h0 => go [.s 3 1] ?_
 by_cases c10 : a ≥ 0
 ·
  refine go [.v 3 1 (oT (a ≥ 0)), .v 3 4 (oF (a ≤ 65535))] ?_
  exact en (.bool false) [] ⟨_, _, rfl, ⟨rfl, rfl⟩, h0⟩
 refine go [.v 3 1 (oF (a ≥ 0))] ?_
 exact en (.bool false) [] ⟨_, _, rfl, ⟨rfl, rfl⟩, h0⟩

set_option maxHeartbeats 4000000 in
theorem god_2y (a : Int) (ha : 1 ≤ a ∧ a ≤ 65536) : HT Tryz.prog 68 [iV 2, iV a] [] (fun v K => v = .bool true ∧ K = []) := by
 refine hiS Tryz.func68 Tryz.ntmps68 fun g w0 R h0 => go [.v 5 1 (oT (a ≥ 1)), .v 5 4 (oT (a ≤ 65536))] ?_
 exact en (.bool true) [] ⟨_, _, rfl, ⟨rfl, rfl⟩, h0⟩

set_option maxHeartbeats 4000000 in
theorem god_2n (a : Int) (ha : a < 1 ∨ 65536 < a) : HT Tryz.prog 68 [iV 2, iV a] [] (fun v K => v = .bool false ∧ K = []) := by
 refine hiS Tryz.func68 Tryz.ntmps68 fun g w0 R h0 => go [.s 5 1] ?_
 by_cases c10 : a ≥ 1
 ·
  refine go [.v 5 1 (oT (a ≥ 1)), .v 5 4 (oF (a ≤ 65536))] ?_
  exact en (.bool false) [] ⟨_, _, rfl, ⟨rfl, rfl⟩, h0⟩
 refine go [.v 5 1 (oF (a ≥ 1))] ?_
 exact en (.bool false) [] ⟨_, _, rfl, ⟨rfl, rfl⟩, h0⟩

set_option maxHeartbeats 4000000 in
theorem god_3y (a : Int) (ha : 1 ≤ a ∧ a ≤ 1048576) : HT Tryz.prog 68 [iV 3, iV a] [] (fun v K => v = .bool true ∧ K = []) := by
 refine hiS Tryz.func68 Tryz.ntmps68 fun g w0 R h0 => go [] <| cl0 Tryz.call63 (ospan_y a (by omega)) h0 fun _ h11 => go [] ?_
 exact en (.bool true) [] ⟨_, _, rfl, ⟨rfl, rfl⟩, h11⟩

set_option maxHeartbeats 4000000 in
theorem god_3n (a : Int) (ha : a < 1 ∨ 1048576 < a) : HT Tryz.prog 68 [iV 3, iV a] [] (fun v K => v = .bool false ∧ K = []) := by
 refine hiS Tryz.func68 Tryz.ntmps68 fun g w0 R h0 => go [] ?_
 by_cases c10 : 1 ≤ a
 ·
  refine cl0 Tryz.call63 (ospan_n a (by omega)) h0 fun _ h12 => go [] ?_
  exact en (.bool false) [] ⟨_, _, rfl, ⟨rfl, rfl⟩, h12⟩
 refine cl0 Tryz.call63 (ospan_n a (by omega)) h0 fun _ h14 => go [] ?_
 exact en (.bool false) [] ⟨_, _, rfl, ⟨rfl, rfl⟩, h14⟩

set_option maxHeartbeats 4000000 in
theorem god_0 (k a : Int) (hk : k < 1 ∨ 3 < k) : HT Tryz.prog 68 [iV k, iV a] [] (fun v K => v = .bool false ∧ K = []) := by
 refine hiS Tryz.func68 Tryz.ntmps68 fun g w0 R h0 => go [.v 2 0 (qeF k 1), .v 4 0 (qeF k 2), .v 6 0 (qeF k 3)] ?_
 exact en (.bool false) [] ⟨_, _, rfl, ⟨rfl, rfl⟩, h0⟩

set_option maxHeartbeats 4000000 in
theorem grown_1 (b f p d s l : Nat) (S : Wst) (hW : WOk S) (a : Int) (ha : 0 ≤ a ∧ a ≤ 65535) : HT Tryz.prog 69 [pV b, iV 1, iV a] [Cl b [Value.nilIface, .iface 84 (pV f), .iface 87 (pV p), .iface 90 (pV d), pV s, pV l, iV S.now] 79, Fd f 64 S.F, Pl p S.B, Dk d S.D, Sr 146 s S.q, Lg l S.T] (fun v K => ∃ c : Nat, v = .tuple #[.iface 84 (pV c), .agg #[iV ((opnO S.F a).1), iV ((opnO S.F a).2.1), uV ((opnO S.F a).2.2)], iV ((opnE S.F a))] ∧ K = [Cl b [Value.nilIface, .iface 84 (pV f), .iface 87 (pV p), .iface 90 (pV d), pV s, pV l, iV S.now] 79, Fd f 64 S.F, Pl p S.B, Dk d S.D, Sr 146 s S.q, Lg l S.T, Fd c 64 (opnX S.F a)]) := by
 refine hiS Tryz.func69 Tryz.ntmps69 fun g w0 R h0 => ?_
 have hWn := hW.nl; have hWm := hW.nh; have hWt := hW.tn
 refine go [] <| nP 32 [iV 0, iV 0, uV 0] h0 (fun _ _ h12 => ?_)
 refine go [.s 1 4] <| lwP (.pointer (some ⟨b, 1, none⟩)) (law_indexArr (x := (Operand.tmp 24)) (i := (Operand.tmp 22)) (b := b) (off := 0) (z := 1) (by kernel_rfl) Tryz.underlying76 1 (by kernel_rfl) 1 (by kernel_rfl) (by kernel_rfl) (by omega) (by omega) 1 (by omega) _) ?_
 have h14 := tk8 (sf7 (sf6 (sf6 (sf7 (sf7 (sf7 (sf7 (sf7 h12))))))))
 refine go [rd 1 5 1 1 1 h12] <| cP Tryz.call72 (fcopy_ht f 64 S.F) h14 ?_
 rintro v K _ (⟨b13, rfl, rfl⟩) h16
 have h18 := tk9 (sf8 (sf7 (sf8 (sf8 (sf8 (sf8 (sf8 (sf8 (sf8 (ap2 h16))))))))))
 refine go [] <| cl1 Tryz.call118 (fopen_ht b13 64 S.F a) h18 fun _ h20 => go [] <| nP 32 [iV 0, iV 0, uV 0] h20 (fun _ _ h23 => ?_)
 refine sP [(0, iV ((opnO S.F a).1)), (1, iV ((opnO S.F a).2.1)), (2, uV ((opnO S.F a).2.2))] [iV ((opnO S.F a).1), iV ((opnO S.F a).2.1), uV ((opnO S.F a).2.2)] h23 fun _ h25 => go [] <| dw (fls [0, 1, 2, 3, 4] (Tr.an 5 (Tr.fl 6 Tr.nil))) h25 fun _ h27 => go [.s 6 1] <| lw (.iface 84 (pV b13)) (fun _ => law_mkIface (t := 84) (x := (Operand.tmp 38)) (by kernel_rfl) Tryz.underlying84 rfl (pV b13) (by kernel_rfl) _) ?_
 have h28 := tk10 (sf9 (sf8 (sf8 (sf8 (sf9 (sf9 (sf9 (sf9 (sf9 (sf9 h27))))))))))
 refine go [rd 6 2 0 0 3 h27] <| sG [(0, iV ((opnO S.F a).1)), (1, iV ((opnO S.F a).2.1)), (2, uV ((opnO S.F a).2.2))] [iV ((opnO S.F a).1), iV ((opnO S.F a).2.1), uV ((opnO S.F a).2.2)] h28 fun _ h30 => ⟨kd [], ?_⟩
 refine go [] ?_
 exact en (.tuple #[.iface 84 (pV b13), .agg #[iV ((opnO S.F a).1), iV ((opnO S.F a).2.1), uV ((opnO S.F a).2.2)], iV ((opnE S.F a))]) [rd 0 0 0 0 3 h30] ⟨_, _, rfl, ⟨b13, rfl, rfl⟩, (tk8 (sf7 (sf7 (sf7 (sf7 (sf7 (sf7 (sf7 (sf9 (tk10 (sf9 (sf8 (sf9 (sf9 (sf9 (sf9 (sf3 (sf2 (sf2 (sf9 h30))))))))))))))))))))⟩

set_option maxHeartbeats 4000000 in
theorem grown_2 (b f p d s l : Nat) (S : Wst) (hW : WOk S) (a : Int) (ha : 1 ≤ a ∧ a ≤ 65536) : HT Tryz.prog 69 [pV b, iV 2, iV a] [Cl b [Value.nilIface, .iface 84 (pV f), .iface 87 (pV p), .iface 90 (pV d), pV s, pV l, iV S.now] 79, Fd f 64 S.F, Pl p S.B, Dk d S.D, Sr 146 s S.q, Lg l S.T] (fun v K => ∃ c : Nat, v = .tuple #[.iface 87 (pV c), .agg #[iV ((pinO S.B a).1), iV ((pinO S.B a).2.1), uV ((pinO S.B a).2.2)], iV ((pinE S.B a))] ∧ K = [Cl b [Value.nilIface, .iface 84 (pV f), .iface 87 (pV p), .iface 90 (pV d), pV s, pV l, iV S.now] 79, Fd f 64 S.F, Pl p S.B, Dk d S.D, Sr 146 s S.q, Lg l S.T, Pl c (pinX S.B a)]) := by
 refine hiS Tryz.func69 Tryz.ntmps69 fun g w0 R h0 => ?_
 have hWn := hW.nl; have hWm := hW.nh; have hWt := hW.tn
 refine go [] <| nP 32 [iV 0, iV 0, uV 0] h0 (fun _ _ h12 => ?_)
 refine go [.s 1 4] <| lwP (.pointer (some ⟨b, 2, none⟩)) (law_indexArr (x := (Operand.tmp 24)) (i := (Operand.tmp 22)) (b := b) (off := 0) (z := 2) (by kernel_rfl) Tryz.underlying76 1 (by kernel_rfl) 2 (by kernel_rfl) (by kernel_rfl) (by omega) (by omega) 2 (by omega) _) ?_
 have h14 := tk8 (sf7 (sf6 (sf6 (sf6 (sf7 (sf7 (sf7 (sf7 h12))))))))
 refine go [rd 1 5 1 2 1 h12] <| cP Tryz.call73 (pcopy_ht p S.B) h14 ?_
 rintro v K _ (⟨b13, rfl, rfl⟩) h16
 have h18 := tk9 (sf8 (sf7 (sf8 (sf8 (sf8 (sf8 (sf8 (sf8 (sf8 (ap2 h16))))))))))
 refine go [] <| cl1 Tryz.call119 (pin_ht b13 S.B a (by omega)) h18 fun _ h20 => go [] <| nP 32 [iV 0, iV 0, uV 0] h20 (fun _ _ h23 => ?_)
 refine sP [(0, iV ((pinO S.B a).1)), (1, iV ((pinO S.B a).2.1)), (2, uV ((pinO S.B a).2.2))] [iV ((pinO S.B a).1), iV ((pinO S.B a).2.1), uV ((pinO S.B a).2.2)] h23 fun _ h25 => go [] <| dw (fls [0, 1, 2, 3, 4] (Tr.an 5 (Tr.fl 6 Tr.nil))) h25 fun _ h27 => go [.s 11 1] <| lw (.iface 87 (pV b13)) (fun _ => law_mkIface (t := 87) (x := (Operand.tmp 53)) (by kernel_rfl) Tryz.underlying87 rfl (pV b13) (by kernel_rfl) _) ?_
 have h28 := tk10 (sf9 (sf8 (sf8 (sf8 (sf9 (sf9 (sf9 (sf9 (sf9 (sf9 h27))))))))))
 refine go [rd 11 2 0 0 3 h27] <| sG [(0, iV ((pinO S.B a).1)), (1, iV ((pinO S.B a).2.1)), (2, uV ((pinO S.B a).2.2))] [iV ((pinO S.B a).1), iV ((pinO S.B a).2.1), uV ((pinO S.B a).2.2)] h28 fun _ h30 => ⟨kd [], ?_⟩
 refine go [] ?_
 exact en (.tuple #[.iface 87 (pV b13), .agg #[iV ((pinO S.B a).1), iV ((pinO S.B a).2.1), uV ((pinO S.B a).2.2)], iV ((pinE S.B a))]) [rd 0 0 0 0 3 h30] ⟨_, _, rfl, ⟨b13, rfl, rfl⟩, (tk8 (sf7 (sf7 (sf7 (sf7 (sf7 (sf7 (sf7 (sf9 (tk10 (sf9 (sf9 (sf7 (sf9 (sf9 (sf9 (sf3 (sf2 (sf2 (sf9 h30))))))))))))))))))))⟩

set_option maxHeartbeats 4000000 in
theorem grown_3 (b f p d s l : Nat) (S : Wst) (hW : WOk S) (a : Int) (ha : 1 ≤ a ∧ a ≤ 1048576) : HT Tryz.prog 69 [pV b, iV 3, iV a] [Cl b [Value.nilIface, .iface 84 (pV f), .iface 87 (pV p), .iface 90 (pV d), pV s, pV l, iV S.now] 79, Fd f 64 S.F, Pl p S.B, Dk d S.D, Sr 146 s S.q, Lg l S.T] (fun v K => ∃ c : Nat, v = .tuple #[.iface 90 (pV c), .agg #[iV ((gntO S.D a S.now).1), iV ((gntO S.D a S.now).2.1), uV ((gntO S.D a S.now).2.2)], iV ((gntE S.D a S.now))] ∧ K = [Cl b [Value.nilIface, .iface 84 (pV f), .iface 87 (pV p), .iface 90 (pV d), pV s, pV l, iV S.now] 79, Fd f 64 S.F, Pl p S.B, Dk d S.D, Sr 146 s S.q, Lg l S.T, Dk c (gntX S.D a S.now)]) := by
 refine hiS Tryz.func69 Tryz.ntmps69 fun g w0 R h0 => ?_
 have hWn := hW.nl; have hWm := hW.nh; have hWt := hW.tn
 refine go [] <| nP 32 [iV 0, iV 0, uV 0] h0 (fun _ _ h12 => ?_)
 refine go [.s 1 4] <| lwP (.pointer (some ⟨b, 3, none⟩)) (law_indexArr (x := (Operand.tmp 24)) (i := (Operand.tmp 22)) (b := b) (off := 0) (z := 3) (by kernel_rfl) Tryz.underlying76 1 (by kernel_rfl) 3 (by kernel_rfl) (by kernel_rfl) (by omega) (by omega) 3 (by omega) _) ?_
 have h14 := tk8 (sf7 (sf6 (sf6 (sf6 (sf6 (sf7 (sf7 (sf7 h12))))))))
 refine go [rd 1 5 1 3 1 h12] <| cP Tryz.call74 (lcopy_ht d S.D) h14 ?_
 rintro v K _ (⟨b13, rfl, rfl⟩) h16
 have h17 := ap2 h16
 have h18 := tk9 (sf8 (sf7 (sf8 (sf8 (sf8 (sf8 (sf8 (sf8 (sf8 h17)))))))))
 refine go [rd 15 5 3 6 1 h17] <| cl1 Tryz.call120 (grant_ht b13 S.D a S.now (by omega) (by omega)) h18 fun _ h20 => go [] <| nP 32 [iV 0, iV 0, uV 0] h20 (fun _ _ h23 => ?_)
 refine sP [(0, iV ((gntO S.D a S.now).1)), (1, iV ((gntO S.D a S.now).2.1)), (2, uV ((gntO S.D a S.now).2.2))] [iV ((gntO S.D a S.now).1), iV ((gntO S.D a S.now).2.1), uV ((gntO S.D a S.now).2.2)] h23 fun _ h25 => go [] <| dw (fls [0, 1, 2, 3, 4] (Tr.an 5 (Tr.fl 6 Tr.nil))) h25 fun _ h27 => go [.s 16 1] <| lw (.iface 90 (pV b13)) (fun _ => law_mkIface (t := 90) (x := (Operand.tmp 72)) (by kernel_rfl) Tryz.underlying90 rfl (pV b13) (by kernel_rfl) _) ?_
 have h28 := tk10 (sf9 (sf8 (sf8 (sf8 (sf9 (sf9 (sf9 (sf9 (sf9 (sf9 h27))))))))))
 refine go [rd 16 2 0 0 3 h27] <| sG [(0, iV ((gntO S.D a S.now).1)), (1, iV ((gntO S.D a S.now).2.1)), (2, uV ((gntO S.D a S.now).2.2))] [iV ((gntO S.D a S.now).1), iV ((gntO S.D a S.now).2.1), uV ((gntO S.D a S.now).2.2)] h28 fun _ h30 => ⟨kd [], ?_⟩
 refine go [] ?_
 exact en (.tuple #[.iface 90 (pV b13), .agg #[iV ((gntO S.D a S.now).1), iV ((gntO S.D a S.now).2.1), uV ((gntO S.D a S.now).2.2)], iV ((gntE S.D a S.now))]) [rd 0 0 0 0 3 h30] ⟨_, _, rfl, ⟨b13, rfl, rfl⟩, (tk8 (sf7 (sf7 (sf7 (sf7 (sf7 (sf7 (sf7 (sf9 (tk10 (sf9 (sf9 (sf9 (sf6 (sf9 (sf9 (sf3 (sf2 (sf2 (sf9 h30))))))))))))))))))))⟩

set_option maxHeartbeats 4000000 in
theorem wacq_1 (b : Nat) (S : Wst) (a : Int) (ha : 0 ≤ a ∧ a ≤ 65535) : HT Tryz.prog 28 [pV b, iV 1, iV a] [Wd b S] (fun v K => v = .tuple #[.agg #[iV (acqO S 1 a).1, iV (acqO S 1 a).2.1, uV (acqO S 1 a).2.2], iV (acqE S 1 a)] ∧ K = [Wd b (acqS S 1 a)]) := by
 refine hiS Tryz.func28 Tryz.ntmps28 fun g w0 R h0 => ?_
 obtain ⟨f10, p11, d12, s13, l14, hW15, h16⟩ := wd_open h0
 have hW15n := hW15.nl; have hW15m := hW15.nh; have hW15t := hW15.tn
 refine go [] <| nP 32 [iV 0, iV 0, uV 0] h16 (fun r17 _ h19 => ?_)
 have h20 := tk8 (sf7 (sf6 (sf7 (sf7 (sf7 (sf7 (sf7 (sf7 h19))))))))
 refine go [] <| cl1 Tryz.call56 (wvalid_cl b l14 Value.nilIface (.iface 84 (pV f10)) (.iface 87 (pV p11)) (.iface 90 (pV d12)) (pV s13) (iV S.now)) h20 fun _ h22 => go [] <| cl0 Tryz.call68 (god_1y a (by omega)) h22 fun _ h24 => ?_
 have h26 := tk8 (sf7 (sf7 (sf7 (sf7 (sf7 (sf7 (sf2 (sf7 h24))))))))
 refine go [] <| cP Tryz.call69 (grown_1 b f10 p11 d12 s13 l14 S hW15 a (by omega)) h26 ?_
 rintro v K _ (⟨c25, rfl, rfl⟩) h28
 have h29 := ap7 h28
 refine go [] <| nP 32 [iV 0, iV 0, uV 0] h29 (fun r30 _ h32 => ?_)
 refine go [] <| sP [(0, iV ((opnO S.F a).1)), (1, iV ((opnO S.F a).2.1)), (2, uV ((opnO S.F a).2.2))] [iV ((opnO S.F a).1), iV ((opnO S.F a).2.1), uV ((opnO S.F a).2.2)] h32 fun _ h34 => go [.s 6 1] ?_
 by_cases c35 : (opnE S.F a) = 0
 ·
  have h36 := tk10 (sf9 (sf8 (sf8 (sf8 (sf8 (sf8 (sf9 (sf9 (sf9 (sf9 h34))))))))))
  refine go [.v 6 1 (qnF ((opnE S.F a)) 0), rd 8 3 1 4 1 h34] <| cl1 Tryz.call65 (next_ht s13 S.q) h36 fun _ h38 => go [.s 9 0] ?_
  by_cases c39 : (S.q.headD 1) = 2
  ·
   have h40 := tk10 (sf9 (sf8 (sf8 (sf8 (sf8 (sf8 (sf8 (sf8 (sf8 (sf9 h38))))))))))
   refine go [.v 9 0 (qeT ((S.q.headD 1)) 2)] <| sP [(0, iV 0), (1, iV 0), (2, uV 0)] [iV 0, iV 0, uV 0] h40 fun w41 h42 => go [] ?_
   have hp_ := acq_later (S := S) (god1 ha) ((opn_grw (S := S) ha).1.symm.trans (by omega)) (by omega)
   have h43 := tk10 (sf9 (sf9 (sf9 (sf9 (sf5 (sf9 (sf3 (sf4 (sf9 (sf9 h42))))))))))
   have h44 : sat g w41 [Wd b ({ S with q := S.q.tail } : Wst), Cl r17 [iV 0, iV 0, uV 0] 32, Cl r30 [iV ((opnO S.F a).1), iV ((opnO S.F a).2.1), uV ((opnO S.F a).2.2)] 32, Fd c25 64 (opnX S.F a), R] := wd_close (hp_.2.2 ▸ wok_acq hW15 1 a) h43
   exact en (.tuple #[.agg #[iV 0, iV 0, uV 0], iV 15]) [rd 0 0 0 0 3 h42] ⟨_, [Wd b ({ S with q := S.q.tail } : Wst)], rfl, ⟨by rw [hp_.1, hp_.2.1], by rw [hp_.2.2]⟩, (tk2 (sf1 (sf4 h44)))⟩
  refine go [.v 9 0 (qeF ((S.q.headD 1)) 2), .s 11 0] ?_
  by_cases c46 : (S.q.headD 1) = 3
  ·
   have h47 := tk10 (sf9 (sf8 (sf8 (sf8 (sf8 (sf8 (sf8 (sf8 (sf8 (sf9 h38))))))))))
   refine go [.v 11 0 (qeT ((S.q.headD 1)) 3)] <| sP [(0, iV 0), (1, iV 0), (2, uV 0)] [iV 0, iV 0, uV 0] h47 fun w48 h49 => go [] ?_
   have hp_ := acq_fail (S := S) (god1 ha) ((opn_grw (S := S) ha).1.symm.trans (by omega)) (by omega) (by omega)
   have h50 := tk10 (sf9 (sf9 (sf9 (sf9 (sf5 (sf9 (sf3 (sf4 (sf9 (sf9 h49))))))))))
   have h51 : sat g w48 [Wd b ({ S with q := S.q.tail } : Wst), Cl r17 [iV 0, iV 0, uV 0] 32, Cl r30 [iV ((opnO S.F a).1), iV ((opnO S.F a).2.1), uV ((opnO S.F a).2.2)] 32, Fd c25 64 (opnX S.F a), R] := wd_close (hp_.2.2 ▸ wok_acq hW15 1 a) h50
   exact en (.tuple #[.agg #[iV 0, iV 0, uV 0], iV 14]) [rd 0 0 0 0 3 h49] ⟨_, [Wd b ({ S with q := S.q.tail } : Wst)], rfl, ⟨by rw [hp_.1, hp_.2.1], by rw [hp_.2.2]⟩, (tk2 (sf1 (sf4 h51)))⟩
  refine go [.v 11 0 (qeF ((S.q.headD 1)) 3), .s 13 5] <| lwP (.pointer (some ⟨b, 1, none⟩)) (law_indexArr (x := (Operand.tmp 49)) (i := (Operand.tmp 46)) (b := b) (off := 0) (z := 1) (by kernel_rfl) Tryz.underlying76 1 (by kernel_rfl) 1 (by kernel_rfl) (by kernel_rfl) (by omega) (by omega) 1 (by omega) _) <| sP [(1, .iface 84 (pV c25))] [Value.nilIface, .iface 84 (pV c25), .iface 87 (pV p11), .iface 90 (pV d12), pV s13, pV l14, iV S.now] (tk10 (sf9 (sf8 (sf8 (sf9 (sf9 (sf9 (sf9 (sf9 (sf9 (sf9 h38))))))))))) fun _ h55 => ?_
  have h56 := tk10 (sf9 (sf8 (sf8 (sf8 (sf8 (sf8 (sf8 (sf8 (sf8 (sf9 h55))))))))))
  refine go [rd 14 0 2 0 3 h55] <| sP [(0, iV ((opnO S.F a).1)), (1, iV ((opnO S.F a).2.1)), (2, uV ((opnO S.F a).2.2))] [iV ((opnO S.F a).1), iV ((opnO S.F a).2.1), uV ((opnO S.F a).2.2)] h56 fun w57 h58 => go [] ?_
  have hp_ := acq_ok1 (S := S) ha (by omega) (by omega) (by omega)
  have h59 := tk10 (sf9 (sf9 (sf8 (sf8 (sf6 (sf8 (sf3 (sf5 (sf5 (sf9 h58))))))))))
  have h60 : sat g w57 [Wd b ({ S with q := S.q.tail, F := opnX S.F a } : Wst), Cl r17 [iV ((opnO S.F a).1), iV ((opnO S.F a).2.1), uV ((opnO S.F a).2.2)] 32, Cl r30 [iV ((opnO S.F a).1), iV ((opnO S.F a).2.1), uV ((opnO S.F a).2.2)] 32, Fd f10 64 S.F, R] := wd_close (hp_.2.2 ▸ wok_acq hW15 1 a) h59
  exact en (.tuple #[.agg #[iV ((opnO S.F a).1), iV ((opnO S.F a).2.1), uV ((opnO S.F a).2.2)], iV 0]) [rd 0 0 0 0 3 h58] ⟨_, [Wd b ({ S with q := S.q.tail, F := opnX S.F a } : Wst)], rfl, ⟨by rw [hp_.1, hp_.2.1], by rw [hp_.2.2]⟩, (tk2 (sf1 (sf4 h60)))⟩
 have h62 := tk10 (sf9 (sf8 (sf8 (sf8 (sf8 (sf8 (sf8 (sf8 (sf8 (sf9 h34))))))))))
 refine go [.v 6 1 (qnT ((opnE S.F a)) 0)] <| sP [(0, iV 0), (1, iV 0), (2, uV 0)] [iV 0, iV 0, uV 0] h62 fun w63 h64 => go [] ?_
 have hp_ := acq_err (S := S) (god1 ha) (opn_grw (S := S) ha).1.symm (by omega)
 have h66 : sat g w63 [Wd b S, Cl r17 [iV 0, iV 0, uV 0] 32, Cl r30 [iV ((opnO S.F a).1), iV ((opnO S.F a).2.1), uV ((opnO S.F a).2.2)] 32, Fd c25 64 (opnX S.F a), R] := wd_close hW15 (tk10 (sf9 (sf9 (sf9 (sf9 (sf9 (sf9 (sf3 (sf3 (sf9 (sf9 h64)))))))))))
 exact en (.tuple #[.agg #[iV 0, iV 0, uV 0], iV ((opnE S.F a))]) [rd 0 0 0 0 3 h64] ⟨_, [Wd b S], rfl, ⟨by rw [hp_.1, hp_.2.1], by rw [hp_.2.2]⟩, (tk2 (sf1 (sf4 h66)))⟩

set_option maxHeartbeats 4000000 in
theorem wacq_1n (b : Nat) (S : Wst) (a : Int) (ha : a < 0 ∨ 65535 < a) (hng : ¬ godP 1 a) : HT Tryz.prog 28 [pV b, iV 1, iV a] [Wd b S] (fun v K => v = .tuple #[.agg #[iV (acqO S 1 a).1, iV (acqO S 1 a).2.1, uV (acqO S 1 a).2.2], iV (acqE S 1 a)] ∧ K = [Wd b (acqS S 1 a)]) := by
 refine hiS Tryz.func28 Tryz.ntmps28 fun g w0 R h0 => ?_
 obtain ⟨f10, p11, d12, s13, l14, hW15, h16⟩ := wd_open h0
 have hW15n := hW15.nl; have hW15m := hW15.nh; have hW15t := hW15.tn
 refine go [] <| nP 32 [iV 0, iV 0, uV 0] h16 (fun r17 _ h19 => ?_)
 have h20 := tk8 (sf7 (sf6 (sf7 (sf7 (sf7 (sf7 (sf7 (sf7 h19))))))))
 refine go [] <| cl1 Tryz.call56 (wvalid_cl b l14 Value.nilIface (.iface 84 (pV f10)) (.iface 87 (pV p11)) (.iface 90 (pV d12)) (pV s13) (iV S.now)) h20 fun _ h22 => go [] ?_
 by_cases c23 : 0 ≤ a
 ·
  refine cl0 Tryz.call68 (god_1n a (by omega)) h22 fun _ h25 => ?_
  have h26 := tk8 (sf7 (sf6 (sf7 (sf7 (sf7 (sf7 (sf7 (sf7 h25))))))))
  refine go [] <| sP [(0, iV 0), (1, iV 0), (2, uV 0)] [iV 0, iV 0, uV 0] h26 fun w27 h28 => go [] ?_
  have hp_ := acq_arg (S := S) (k := 1) (a := a) hng
  have h30 : sat g w27 [Wd b S, Cl r17 [iV 0, iV 0, uV 0] 32, R] := wd_close hW15 (tk8 (sf7 (sf7 (sf7 (sf7 (sf7 (sf7 (sf1 (sf7 h28)))))))))
  exact en (.tuple #[.agg #[iV 0, iV 0, uV 0], iV 2]) [rd 0 0 0 0 3 h28] ⟨_, [Wd b S], rfl, ⟨by rw [hp_.1, hp_.2.1], by rw [hp_.2.2]⟩, (tk2 (sf1 (sf2 h30)))⟩
 refine cl0 Tryz.call68 (god_1n a (by omega)) h22 fun _ h33 => ?_
 have h34 := tk8 (sf7 (sf6 (sf7 (sf7 (sf7 (sf7 (sf7 (sf7 h33))))))))
 refine go [] <| sP [(0, iV 0), (1, iV 0), (2, uV 0)] [iV 0, iV 0, uV 0] h34 fun w35 h36 => go [] ?_
 have hp_ := acq_arg (S := S) (k := 1) (a := a) hng
 have h38 : sat g w35 [Wd b S, Cl r17 [iV 0, iV 0, uV 0] 32, R] := wd_close hW15 (tk8 (sf7 (sf7 (sf7 (sf7 (sf7 (sf7 (sf1 (sf7 h36)))))))))
 exact en (.tuple #[.agg #[iV 0, iV 0, uV 0], iV 2]) [rd 0 0 0 0 3 h36] ⟨_, [Wd b S], rfl, ⟨by rw [hp_.1, hp_.2.1], by rw [hp_.2.2]⟩, (tk2 (sf1 (sf2 h38)))⟩

set_option maxHeartbeats 4000000 in
theorem wacq_2 (b : Nat) (S : Wst) (a : Int) (ha : 1 ≤ a ∧ a ≤ 65536) : HT Tryz.prog 28 [pV b, iV 2, iV a] [Wd b S] (fun v K => v = .tuple #[.agg #[iV (acqO S 2 a).1, iV (acqO S 2 a).2.1, uV (acqO S 2 a).2.2], iV (acqE S 2 a)] ∧ K = [Wd b (acqS S 2 a)]) := by
 refine hiS Tryz.func28 Tryz.ntmps28 fun g w0 R h0 => ?_
 obtain ⟨f10, p11, d12, s13, l14, hW15, h16⟩ := wd_open h0
 have hW15n := hW15.nl; have hW15m := hW15.nh; have hW15t := hW15.tn
 refine go [] <| nP 32 [iV 0, iV 0, uV 0] h16 (fun r17 _ h19 => ?_)
 have h20 := tk8 (sf7 (sf6 (sf7 (sf7 (sf7 (sf7 (sf7 (sf7 h19))))))))
 refine go [] <| cl1 Tryz.call56 (wvalid_cl b l14 Value.nilIface (.iface 84 (pV f10)) (.iface 87 (pV p11)) (.iface 90 (pV d12)) (pV s13) (iV S.now)) h20 fun _ h22 => go [] <| cl0 Tryz.call68 (god_2y a (by omega)) h22 fun _ h24 => ?_
 have h26 := tk8 (sf7 (sf7 (sf7 (sf7 (sf7 (sf7 (sf2 (sf7 h24))))))))
 refine go [] <| cP Tryz.call69 (grown_2 b f10 p11 d12 s13 l14 S hW15 a (by omega)) h26 ?_
 rintro v K _ (⟨c25, rfl, rfl⟩) h28
 have h29 := ap7 h28
 refine go [] <| nP 32 [iV 0, iV 0, uV 0] h29 (fun r30 _ h32 => ?_)
 refine go [] <| sP [(0, iV ((pinO S.B a).1)), (1, iV ((pinO S.B a).2.1)), (2, uV ((pinO S.B a).2.2))] [iV ((pinO S.B a).1), iV ((pinO S.B a).2.1), uV ((pinO S.B a).2.2)] h32 fun _ h34 => go [.s 6 1] ?_
 by_cases c35 : (pinE S.B a) = 0
 ·
  have h36 := tk10 (sf9 (sf8 (sf8 (sf8 (sf8 (sf8 (sf9 (sf9 (sf9 (sf9 h34))))))))))
  refine go [.v 6 1 (qnF ((pinE S.B a)) 0), rd 8 3 1 4 1 h34] <| cl1 Tryz.call65 (next_ht s13 S.q) h36 fun _ h38 => go [.s 9 0] ?_
  by_cases c39 : (S.q.headD 1) = 2
  ·
   have h40 := tk10 (sf9 (sf8 (sf8 (sf8 (sf8 (sf8 (sf8 (sf8 (sf8 (sf9 h38))))))))))
   refine go [.v 9 0 (qeT ((S.q.headD 1)) 2)] <| sP [(0, iV 0), (1, iV 0), (2, uV 0)] [iV 0, iV 0, uV 0] h40 fun w41 h42 => go [] ?_
   have hp_ := acq_later (S := S) (god2 ha) ((pin_grw (S := S) ha).1.symm.trans (by omega)) (by omega)
   have h43 := tk10 (sf9 (sf9 (sf9 (sf9 (sf5 (sf9 (sf3 (sf4 (sf9 (sf9 h42))))))))))
   have h44 : sat g w41 [Wd b ({ S with q := S.q.tail } : Wst), Cl r17 [iV 0, iV 0, uV 0] 32, Cl r30 [iV ((pinO S.B a).1), iV ((pinO S.B a).2.1), uV ((pinO S.B a).2.2)] 32, Pl c25 (pinX S.B a), R] := wd_close (hp_.2.2 ▸ wok_acq hW15 2 a) h43
   exact en (.tuple #[.agg #[iV 0, iV 0, uV 0], iV 15]) [rd 0 0 0 0 3 h42] ⟨_, [Wd b ({ S with q := S.q.tail } : Wst)], rfl, ⟨by rw [hp_.1, hp_.2.1], by rw [hp_.2.2]⟩, (tk2 (sf1 (sf4 h44)))⟩
  refine go [.v 9 0 (qeF ((S.q.headD 1)) 2), .s 11 0] ?_
  by_cases c46 : (S.q.headD 1) = 3
  ·
   have h47 := tk10 (sf9 (sf8 (sf8 (sf8 (sf8 (sf8 (sf8 (sf8 (sf8 (sf9 h38))))))))))
   refine go [.v 11 0 (qeT ((S.q.headD 1)) 3)] <| sP [(0, iV 0), (1, iV 0), (2, uV 0)] [iV 0, iV 0, uV 0] h47 fun w48 h49 => go [] ?_
   have hp_ := acq_fail (S := S) (god2 ha) ((pin_grw (S := S) ha).1.symm.trans (by omega)) (by omega) (by omega)
   have h50 := tk10 (sf9 (sf9 (sf9 (sf9 (sf5 (sf9 (sf3 (sf4 (sf9 (sf9 h49))))))))))
   have h51 : sat g w48 [Wd b ({ S with q := S.q.tail } : Wst), Cl r17 [iV 0, iV 0, uV 0] 32, Cl r30 [iV ((pinO S.B a).1), iV ((pinO S.B a).2.1), uV ((pinO S.B a).2.2)] 32, Pl c25 (pinX S.B a), R] := wd_close (hp_.2.2 ▸ wok_acq hW15 2 a) h50
   exact en (.tuple #[.agg #[iV 0, iV 0, uV 0], iV 14]) [rd 0 0 0 0 3 h49] ⟨_, [Wd b ({ S with q := S.q.tail } : Wst)], rfl, ⟨by rw [hp_.1, hp_.2.1], by rw [hp_.2.2]⟩, (tk2 (sf1 (sf4 h51)))⟩
  refine go [.v 11 0 (qeF ((S.q.headD 1)) 3), .s 13 5] <| lwP (.pointer (some ⟨b, 2, none⟩)) (law_indexArr (x := (Operand.tmp 49)) (i := (Operand.tmp 46)) (b := b) (off := 0) (z := 2) (by kernel_rfl) Tryz.underlying76 1 (by kernel_rfl) 2 (by kernel_rfl) (by kernel_rfl) (by omega) (by omega) 2 (by omega) _) <| sP [(2, .iface 87 (pV c25))] [Value.nilIface, .iface 84 (pV f10), .iface 87 (pV c25), .iface 90 (pV d12), pV s13, pV l14, iV S.now] (tk10 (sf9 (sf8 (sf8 (sf9 (sf9 (sf9 (sf9 (sf9 (sf9 (sf9 h38))))))))))) fun _ h55 => ?_
  have h56 := tk10 (sf9 (sf8 (sf8 (sf8 (sf8 (sf8 (sf8 (sf8 (sf8 (sf9 h55))))))))))
  refine go [rd 14 0 2 0 3 h55] <| sP [(0, iV ((pinO S.B a).1)), (1, iV ((pinO S.B a).2.1)), (2, uV ((pinO S.B a).2.2))] [iV ((pinO S.B a).1), iV ((pinO S.B a).2.1), uV ((pinO S.B a).2.2)] h56 fun w57 h58 => go [] ?_
  have hp_ := acq_ok2 (S := S) ha (by omega) (by omega) (by omega)
  have h59 := tk10 (sf9 (sf9 (sf9 (sf8 (sf6 (sf8 (sf3 (sf5 (sf6 (sf9 h58))))))))))
  have h60 : sat g w57 [Wd b ({ S with q := S.q.tail, B := pinX S.B a } : Wst), Cl r17 [iV ((pinO S.B a).1), iV ((pinO S.B a).2.1), uV ((pinO S.B a).2.2)] 32, Cl r30 [iV ((pinO S.B a).1), iV ((pinO S.B a).2.1), uV ((pinO S.B a).2.2)] 32, Pl p11 S.B, R] := wd_close (hp_.2.2 ▸ wok_acq hW15 2 a) h59
  exact en (.tuple #[.agg #[iV ((pinO S.B a).1), iV ((pinO S.B a).2.1), uV ((pinO S.B a).2.2)], iV 0]) [rd 0 0 0 0 3 h58] ⟨_, [Wd b ({ S with q := S.q.tail, B := pinX S.B a } : Wst)], rfl, ⟨by rw [hp_.1, hp_.2.1], by rw [hp_.2.2]⟩, (tk2 (sf1 (sf4 h60)))⟩
 have h62 := tk10 (sf9 (sf8 (sf8 (sf8 (sf8 (sf8 (sf8 (sf8 (sf8 (sf9 h34))))))))))
 refine go [.v 6 1 (qnT ((pinE S.B a)) 0)] <| sP [(0, iV 0), (1, iV 0), (2, uV 0)] [iV 0, iV 0, uV 0] h62 fun w63 h64 => go [] ?_
 have hp_ := acq_err (S := S) (god2 ha) (pin_grw (S := S) ha).1.symm (by omega)
 have h66 : sat g w63 [Wd b S, Cl r17 [iV 0, iV 0, uV 0] 32, Cl r30 [iV ((pinO S.B a).1), iV ((pinO S.B a).2.1), uV ((pinO S.B a).2.2)] 32, Pl c25 (pinX S.B a), R] := wd_close hW15 (tk10 (sf9 (sf9 (sf9 (sf9 (sf9 (sf9 (sf3 (sf3 (sf9 (sf9 h64)))))))))))
 exact en (.tuple #[.agg #[iV 0, iV 0, uV 0], iV ((pinE S.B a))]) [rd 0 0 0 0 3 h64] ⟨_, [Wd b S], rfl, ⟨by rw [hp_.1, hp_.2.1], by rw [hp_.2.2]⟩, (tk2 (sf1 (sf4 h66)))⟩

set_option maxHeartbeats 4000000 in
theorem wacq_2n (b : Nat) (S : Wst) (a : Int) (ha : a < 1 ∨ 65536 < a) (hng : ¬ godP 2 a) : HT Tryz.prog 28 [pV b, iV 2, iV a] [Wd b S] (fun v K => v = .tuple #[.agg #[iV (acqO S 2 a).1, iV (acqO S 2 a).2.1, uV (acqO S 2 a).2.2], iV (acqE S 2 a)] ∧ K = [Wd b (acqS S 2 a)]) := by
 refine hiS Tryz.func28 Tryz.ntmps28 fun g w0 R h0 => ?_
 obtain ⟨f10, p11, d12, s13, l14, hW15, h16⟩ := wd_open h0
 have hW15n := hW15.nl; have hW15m := hW15.nh; have hW15t := hW15.tn
 refine go [] <| nP 32 [iV 0, iV 0, uV 0] h16 (fun r17 _ h19 => ?_)
 have h20 := tk8 (sf7 (sf6 (sf7 (sf7 (sf7 (sf7 (sf7 (sf7 h19))))))))
 refine go [] <| cl1 Tryz.call56 (wvalid_cl b l14 Value.nilIface (.iface 84 (pV f10)) (.iface 87 (pV p11)) (.iface 90 (pV d12)) (pV s13) (iV S.now)) h20 fun _ h22 => go [] ?_
 by_cases c23 : 1 ≤ a
 ·
  refine cl0 Tryz.call68 (god_2n a (by omega)) h22 fun _ h25 => ?_
  have h26 := tk8 (sf7 (sf6 (sf7 (sf7 (sf7 (sf7 (sf7 (sf7 h25))))))))
  refine go [] <| sP [(0, iV 0), (1, iV 0), (2, uV 0)] [iV 0, iV 0, uV 0] h26 fun w27 h28 => go [] ?_
  have hp_ := acq_arg (S := S) (k := 2) (a := a) hng
  have h30 : sat g w27 [Wd b S, Cl r17 [iV 0, iV 0, uV 0] 32, R] := wd_close hW15 (tk8 (sf7 (sf7 (sf7 (sf7 (sf7 (sf7 (sf1 (sf7 h28)))))))))
  exact en (.tuple #[.agg #[iV 0, iV 0, uV 0], iV 2]) [rd 0 0 0 0 3 h28] ⟨_, [Wd b S], rfl, ⟨by rw [hp_.1, hp_.2.1], by rw [hp_.2.2]⟩, (tk2 (sf1 (sf2 h30)))⟩
 refine cl0 Tryz.call68 (god_2n a (by omega)) h22 fun _ h33 => ?_
 have h34 := tk8 (sf7 (sf6 (sf7 (sf7 (sf7 (sf7 (sf7 (sf7 h33))))))))
 refine go [] <| sP [(0, iV 0), (1, iV 0), (2, uV 0)] [iV 0, iV 0, uV 0] h34 fun w35 h36 => go [] ?_
 have hp_ := acq_arg (S := S) (k := 2) (a := a) hng
 have h38 : sat g w35 [Wd b S, Cl r17 [iV 0, iV 0, uV 0] 32, R] := wd_close hW15 (tk8 (sf7 (sf7 (sf7 (sf7 (sf7 (sf7 (sf1 (sf7 h36)))))))))
 exact en (.tuple #[.agg #[iV 0, iV 0, uV 0], iV 2]) [rd 0 0 0 0 3 h36] ⟨_, [Wd b S], rfl, ⟨by rw [hp_.1, hp_.2.1], by rw [hp_.2.2]⟩, (tk2 (sf1 (sf2 h38)))⟩

set_option maxHeartbeats 4000000 in
theorem wacq_3 (b : Nat) (S : Wst) (a : Int) (ha : 1 ≤ a ∧ a ≤ 1048576) : HT Tryz.prog 28 [pV b, iV 3, iV a] [Wd b S] (fun v K => v = .tuple #[.agg #[iV (acqO S 3 a).1, iV (acqO S 3 a).2.1, uV (acqO S 3 a).2.2], iV (acqE S 3 a)] ∧ K = [Wd b (acqS S 3 a)]) := by
 refine hiS Tryz.func28 Tryz.ntmps28 fun g w0 R h0 => ?_
 obtain ⟨f10, p11, d12, s13, l14, hW15, h16⟩ := wd_open h0
 have hW15n := hW15.nl; have hW15m := hW15.nh; have hW15t := hW15.tn
 refine go [] <| nP 32 [iV 0, iV 0, uV 0] h16 (fun r17 _ h19 => ?_)
 have h20 := tk8 (sf7 (sf6 (sf7 (sf7 (sf7 (sf7 (sf7 (sf7 h19))))))))
 refine go [] <| cl1 Tryz.call56 (wvalid_cl b l14 Value.nilIface (.iface 84 (pV f10)) (.iface 87 (pV p11)) (.iface 90 (pV d12)) (pV s13) (iV S.now)) h20 fun _ h22 => go [] <| cl0 Tryz.call68 (god_3y a (by omega)) h22 fun _ h24 => ?_
 have h26 := tk8 (sf7 (sf7 (sf7 (sf7 (sf7 (sf7 (sf2 (sf7 h24))))))))
 refine go [] <| cP Tryz.call69 (grown_3 b f10 p11 d12 s13 l14 S hW15 a (by omega)) h26 ?_
 rintro v K _ (⟨c25, rfl, rfl⟩) h28
 have h29 := ap7 h28
 refine go [] <| nP 32 [iV 0, iV 0, uV 0] h29 (fun r30 _ h32 => ?_)
 refine go [] <| sP [(0, iV ((gntO S.D a S.now).1)), (1, iV ((gntO S.D a S.now).2.1)), (2, uV ((gntO S.D a S.now).2.2))] [iV ((gntO S.D a S.now).1), iV ((gntO S.D a S.now).2.1), uV ((gntO S.D a S.now).2.2)] h32 fun _ h34 => go [.s 6 1] ?_
 by_cases c35 : (gntE S.D a S.now) = 0
 ·
  have h36 := tk10 (sf9 (sf8 (sf8 (sf8 (sf8 (sf8 (sf9 (sf9 (sf9 (sf9 h34))))))))))
  refine go [.v 6 1 (qnF ((gntE S.D a S.now)) 0), rd 8 3 1 4 1 h34] <| cl1 Tryz.call65 (next_ht s13 S.q) h36 fun _ h38 => go [.s 9 0] ?_
  by_cases c39 : (S.q.headD 1) = 2
  ·
   have h40 := tk10 (sf9 (sf8 (sf8 (sf8 (sf8 (sf8 (sf8 (sf8 (sf8 (sf9 h38))))))))))
   refine go [.v 9 0 (qeT ((S.q.headD 1)) 2)] <| sP [(0, iV 0), (1, iV 0), (2, uV 0)] [iV 0, iV 0, uV 0] h40 fun w41 h42 => go [] ?_
   have hp_ := acq_later (S := S) (god3 ha) ((gnt_grw (S := S) ha).1.symm.trans (by omega)) (by omega)
   have h43 := tk10 (sf9 (sf9 (sf9 (sf9 (sf5 (sf9 (sf3 (sf4 (sf9 (sf9 h42))))))))))
   have h44 : sat g w41 [Wd b ({ S with q := S.q.tail } : Wst), Cl r17 [iV 0, iV 0, uV 0] 32, Cl r30 [iV ((gntO S.D a S.now).1), iV ((gntO S.D a S.now).2.1), uV ((gntO S.D a S.now).2.2)] 32, Dk c25 (gntX S.D a S.now), R] := wd_close (hp_.2.2 ▸ wok_acq hW15 3 a) h43
   exact en (.tuple #[.agg #[iV 0, iV 0, uV 0], iV 15]) [rd 0 0 0 0 3 h42] ⟨_, [Wd b ({ S with q := S.q.tail } : Wst)], rfl, ⟨by rw [hp_.1, hp_.2.1], by rw [hp_.2.2]⟩, (tk2 (sf1 (sf4 h44)))⟩
  refine go [.v 9 0 (qeF ((S.q.headD 1)) 2), .s 11 0] ?_
  by_cases c46 : (S.q.headD 1) = 3
  ·
   have h47 := tk10 (sf9 (sf8 (sf8 (sf8 (sf8 (sf8 (sf8 (sf8 (sf8 (sf9 h38))))))))))
   refine go [.v 11 0 (qeT ((S.q.headD 1)) 3)] <| sP [(0, iV 0), (1, iV 0), (2, uV 0)] [iV 0, iV 0, uV 0] h47 fun w48 h49 => go [] ?_
   have hp_ := acq_fail (S := S) (god3 ha) ((gnt_grw (S := S) ha).1.symm.trans (by omega)) (by omega) (by omega)
   have h50 := tk10 (sf9 (sf9 (sf9 (sf9 (sf5 (sf9 (sf3 (sf4 (sf9 (sf9 h49))))))))))
   have h51 : sat g w48 [Wd b ({ S with q := S.q.tail } : Wst), Cl r17 [iV 0, iV 0, uV 0] 32, Cl r30 [iV ((gntO S.D a S.now).1), iV ((gntO S.D a S.now).2.1), uV ((gntO S.D a S.now).2.2)] 32, Dk c25 (gntX S.D a S.now), R] := wd_close (hp_.2.2 ▸ wok_acq hW15 3 a) h50
   exact en (.tuple #[.agg #[iV 0, iV 0, uV 0], iV 14]) [rd 0 0 0 0 3 h49] ⟨_, [Wd b ({ S with q := S.q.tail } : Wst)], rfl, ⟨by rw [hp_.1, hp_.2.1], by rw [hp_.2.2]⟩, (tk2 (sf1 (sf4 h51)))⟩
  refine go [.v 11 0 (qeF ((S.q.headD 1)) 3), .s 13 5] <| lwP (.pointer (some ⟨b, 3, none⟩)) (law_indexArr (x := (Operand.tmp 49)) (i := (Operand.tmp 46)) (b := b) (off := 0) (z := 3) (by kernel_rfl) Tryz.underlying76 1 (by kernel_rfl) 3 (by kernel_rfl) (by kernel_rfl) (by omega) (by omega) 3 (by omega) _) <| sP [(3, .iface 90 (pV c25))] [Value.nilIface, .iface 84 (pV f10), .iface 87 (pV p11), .iface 90 (pV c25), pV s13, pV l14, iV S.now] (tk10 (sf9 (sf8 (sf8 (sf9 (sf9 (sf9 (sf9 (sf9 (sf9 (sf9 h38))))))))))) fun _ h55 => ?_
  have h56 := tk10 (sf9 (sf8 (sf8 (sf8 (sf8 (sf8 (sf8 (sf8 (sf8 (sf9 h55))))))))))
  refine go [rd 14 0 2 0 3 h55] <| sP [(0, iV ((gntO S.D a S.now).1)), (1, iV ((gntO S.D a S.now).2.1)), (2, uV ((gntO S.D a S.now).2.2))] [iV ((gntO S.D a S.now).1), iV ((gntO S.D a S.now).2.1), uV ((gntO S.D a S.now).2.2)] h56 fun w57 h58 => go [] ?_
  have hp_ := acq_ok3 (S := S) ha (by omega) (by omega) (by omega)
  have h59 := tk10 (sf9 (sf9 (sf9 (sf9 (sf6 (sf8 (sf3 (sf5 (sf7 (sf9 h58))))))))))
  have h60 : sat g w57 [Wd b ({ S with q := S.q.tail, D := gntX S.D a S.now } : Wst), Cl r17 [iV ((gntO S.D a S.now).1), iV ((gntO S.D a S.now).2.1), uV ((gntO S.D a S.now).2.2)] 32, Cl r30 [iV ((gntO S.D a S.now).1), iV ((gntO S.D a S.now).2.1), uV ((gntO S.D a S.now).2.2)] 32, Dk d12 S.D, R] := wd_close (hp_.2.2 ▸ wok_acq hW15 3 a) h59
  exact en (.tuple #[.agg #[iV ((gntO S.D a S.now).1), iV ((gntO S.D a S.now).2.1), uV ((gntO S.D a S.now).2.2)], iV 0]) [rd 0 0 0 0 3 h58] ⟨_, [Wd b ({ S with q := S.q.tail, D := gntX S.D a S.now } : Wst)], rfl, ⟨by rw [hp_.1, hp_.2.1], by rw [hp_.2.2]⟩, (tk2 (sf1 (sf4 h60)))⟩
 have h62 := tk10 (sf9 (sf8 (sf8 (sf8 (sf8 (sf8 (sf8 (sf8 (sf8 (sf9 h34))))))))))
 refine go [.v 6 1 (qnT ((gntE S.D a S.now)) 0)] <| sP [(0, iV 0), (1, iV 0), (2, uV 0)] [iV 0, iV 0, uV 0] h62 fun w63 h64 => go [] ?_
 have hp_ := acq_err (S := S) (god3 ha) (gnt_grw (S := S) ha).1.symm (by omega)
 have h66 : sat g w63 [Wd b S, Cl r17 [iV 0, iV 0, uV 0] 32, Cl r30 [iV ((gntO S.D a S.now).1), iV ((gntO S.D a S.now).2.1), uV ((gntO S.D a S.now).2.2)] 32, Dk c25 (gntX S.D a S.now), R] := wd_close hW15 (tk10 (sf9 (sf9 (sf9 (sf9 (sf9 (sf9 (sf3 (sf3 (sf9 (sf9 h64)))))))))))
 exact en (.tuple #[.agg #[iV 0, iV 0, uV 0], iV ((gntE S.D a S.now))]) [rd 0 0 0 0 3 h64] ⟨_, [Wd b S], rfl, ⟨by rw [hp_.1, hp_.2.1], by rw [hp_.2.2]⟩, (tk2 (sf1 (sf4 h66)))⟩

set_option maxHeartbeats 4000000 in
theorem wacq_3n (b : Nat) (S : Wst) (a : Int) (ha : a < 1 ∨ 1048576 < a) (hng : ¬ godP 3 a) : HT Tryz.prog 28 [pV b, iV 3, iV a] [Wd b S] (fun v K => v = .tuple #[.agg #[iV (acqO S 3 a).1, iV (acqO S 3 a).2.1, uV (acqO S 3 a).2.2], iV (acqE S 3 a)] ∧ K = [Wd b (acqS S 3 a)]) := by
 refine hiS Tryz.func28 Tryz.ntmps28 fun g w0 R h0 => ?_
 obtain ⟨f10, p11, d12, s13, l14, hW15, h16⟩ := wd_open h0
 have hW15n := hW15.nl; have hW15m := hW15.nh; have hW15t := hW15.tn
 refine go [] <| nP 32 [iV 0, iV 0, uV 0] h16 (fun r17 _ h19 => ?_)
 have h20 := tk8 (sf7 (sf6 (sf7 (sf7 (sf7 (sf7 (sf7 (sf7 h19))))))))
 refine go [] <| cl1 Tryz.call56 (wvalid_cl b l14 Value.nilIface (.iface 84 (pV f10)) (.iface 87 (pV p11)) (.iface 90 (pV d12)) (pV s13) (iV S.now)) h20 fun _ h22 => go [] ?_
 by_cases c23 : 1 ≤ a
 ·
  refine cl0 Tryz.call68 (god_3n a (by omega)) h22 fun _ h25 => ?_
  have h26 := tk8 (sf7 (sf6 (sf7 (sf7 (sf7 (sf7 (sf7 (sf7 h25))))))))
  refine go [] <| sP [(0, iV 0), (1, iV 0), (2, uV 0)] [iV 0, iV 0, uV 0] h26 fun w27 h28 => go [] ?_
  have hp_ := acq_arg (S := S) (k := 3) (a := a) hng
  have h30 : sat g w27 [Wd b S, Cl r17 [iV 0, iV 0, uV 0] 32, R] := wd_close hW15 (tk8 (sf7 (sf7 (sf7 (sf7 (sf7 (sf7 (sf1 (sf7 h28)))))))))
  exact en (.tuple #[.agg #[iV 0, iV 0, uV 0], iV 2]) [rd 0 0 0 0 3 h28] ⟨_, [Wd b S], rfl, ⟨by rw [hp_.1, hp_.2.1], by rw [hp_.2.2]⟩, (tk2 (sf1 (sf2 h30)))⟩
 refine cl0 Tryz.call68 (god_3n a (by omega)) h22 fun _ h33 => ?_
 have h34 := tk8 (sf7 (sf6 (sf7 (sf7 (sf7 (sf7 (sf7 (sf7 h33))))))))
 refine go [] <| sP [(0, iV 0), (1, iV 0), (2, uV 0)] [iV 0, iV 0, uV 0] h34 fun w35 h36 => go [] ?_
 have hp_ := acq_arg (S := S) (k := 3) (a := a) hng
 have h38 : sat g w35 [Wd b S, Cl r17 [iV 0, iV 0, uV 0] 32, R] := wd_close hW15 (tk8 (sf7 (sf7 (sf7 (sf7 (sf7 (sf7 (sf1 (sf7 h36)))))))))
 exact en (.tuple #[.agg #[iV 0, iV 0, uV 0], iV 2]) [rd 0 0 0 0 3 h36] ⟨_, [Wd b S], rfl, ⟨by rw [hp_.1, hp_.2.1], by rw [hp_.2.2]⟩, (tk2 (sf1 (sf2 h38)))⟩

set_option maxHeartbeats 4000000 in
theorem wacq_0 (b : Nat) (S : Wst) (k a : Int) (hk : k < 1 ∨ 3 < k) (hng : ¬ godP k a) : HT Tryz.prog 28 [pV b, iV k, iV a] [Wd b S] (fun v K => v = .tuple #[.agg #[iV (acqO S k a).1, iV (acqO S k a).2.1, uV (acqO S k a).2.2], iV (acqE S k a)] ∧ K = [Wd b (acqS S k a)]) := by
 refine hiS Tryz.func28 Tryz.ntmps28 fun g w0 R h0 => ?_
 obtain ⟨f10, p11, d12, s13, l14, hW15, h16⟩ := wd_open h0
 have hW15n := hW15.nl; have hW15m := hW15.nh; have hW15t := hW15.tn
 refine go [] <| nP 32 [iV 0, iV 0, uV 0] h16 (fun r17 _ h19 => ?_)
 have h20 := tk8 (sf7 (sf6 (sf7 (sf7 (sf7 (sf7 (sf7 (sf7 h19))))))))
 refine go [] <| cl1 Tryz.call56 (wvalid_cl b l14 Value.nilIface (.iface 84 (pV f10)) (.iface 87 (pV p11)) (.iface 90 (pV d12)) (pV s13) (iV S.now)) h20 fun _ h22 => go [] <| cl0 Tryz.call68 (god_0 k a (by omega)) h22 fun _ h24 => ?_
 have h25 := tk8 (sf7 (sf6 (sf7 (sf7 (sf7 (sf7 (sf7 (sf7 h24))))))))
 refine go [] <| sP [(0, iV 0), (1, iV 0), (2, uV 0)] [iV 0, iV 0, uV 0] h25 fun w26 h27 => go [] ?_
 have hp_ := acq_arg (S := S) (k := k) (a := a) hng
 have h29 : sat g w26 [Wd b S, Cl r17 [iV 0, iV 0, uV 0] 32, R] := wd_close hW15 (tk8 (sf7 (sf7 (sf7 (sf7 (sf7 (sf7 (sf1 (sf7 h27)))))))))
 exact en (.tuple #[.agg #[iV 0, iV 0, uV 0], iV 2]) [rd 0 0 0 0 3 h27] ⟨_, [Wd b S], rfl, ⟨by rw [hp_.1, hp_.2.1], by rw [hp_.2.2]⟩, (tk2 (sf1 (sf2 h29)))⟩

theorem wacq_ht (b : Nat) (S : Wst) (k a : Int) : HT Tryz.prog 28 [pV b, iV k, iV a] [Wd b S] (fun v K => v = Value.tuple #[Value.agg #[Value.int .i64 (acqO S k a).1, Value.int .i64 (acqO S k a).2.1, Value.int .u32 (acqO S k a).2.2], Value.int .i64 (acqE S k a)] ∧ K = [Wd b (acqS S k a)]) := by
  by_cases h1 : k = 1
  · subst h1
    by_cases h : 0 ≤ a ∧ a ≤ 65535
    · exact wacq_1 b S a h
    · exact wacq_1n b S a (by omega) (god_no1 h)
  · by_cases h2 : k = 2
    · subst h2
      by_cases h : 1 ≤ a ∧ a ≤ 65536
      · exact wacq_2 b S a h
      · exact wacq_2n b S a (by omega) (god_no2 h)
    · by_cases h3 : k = 3
      · subst h3
        by_cases h : 1 ≤ a ∧ a ≤ 1048576
        · exact wacq_3 b S a h
        · exact wacq_3n b S a (by omega) (god_no3 h)
      · exact wacq_0 b S k a (by omega) (god_no (by omega))

end Go.Proofs.YtggfnbpohmhphaaGreatDoor

/- Walks, printed by my generator o13.py. -/
namespace Go.Proofs.YtggfnbpohmhphaaGreatDoor
set_option maxHeartbeats 4000000 in
theorem back_1 (b f p d s l : Nat) (z0 : Int) : HT Tryz.prog 67 [pV b, iV 1] [Cl b [Value.nilIface, .iface 84 (pV f), .iface 87 (pV p), .iface 90 (pV d), pV s, pV l, iV z0] 79] (fun v K => v = .func (Fn.func 115) #[pV f] #[] ∧ K = [Cl b [Value.nilIface, .iface 84 (pV f), .iface 87 (pV p), .iface 90 (pV d), pV s, pV l, iV z0] 79]) := by
 refine hiS Tryz.func67 Tryz.ntmps67 fun g w0 R h0 => go [.s 1 4] <| lwP (.pointer (some ⟨b, 1, none⟩)) (law_indexArr (x := (Operand.tmp 11)) (i := (Operand.tmp 9)) (b := b) (off := 0) (z := 1) (by kernel_rfl) Tryz.underlying76 1 (by kernel_rfl) 1 (by kernel_rfl) (by kernel_rfl) (by omega) (by omega) 1 (by omega) _) <| go [rd 1 5 0 1 1 h0] ?_
 exact en (.func (Fn.func 115) #[pV f] #[]) [] ⟨_, _, rfl, ⟨rfl, rfl⟩, h0⟩

set_option maxHeartbeats 4000000 in
theorem back_2 (b f p d s l : Nat) (z0 : Int) : HT Tryz.prog 67 [pV b, iV 2] [Cl b [Value.nilIface, .iface 84 (pV f), .iface 87 (pV p), .iface 90 (pV d), pV s, pV l, iV z0] 79] (fun v K => v = .func (Fn.func 116) #[pV p] #[] ∧ K = [Cl b [Value.nilIface, .iface 84 (pV f), .iface 87 (pV p), .iface 90 (pV d), pV s, pV l, iV z0] 79]) := by
 refine hiS Tryz.func67 Tryz.ntmps67 fun g w0 R h0 => go [.s 1 4] <| lwP (.pointer (some ⟨b, 2, none⟩)) (law_indexArr (x := (Operand.tmp 11)) (i := (Operand.tmp 9)) (b := b) (off := 0) (z := 2) (by kernel_rfl) Tryz.underlying76 1 (by kernel_rfl) 2 (by kernel_rfl) (by kernel_rfl) (by omega) (by omega) 2 (by omega) _) <| go [rd 1 5 0 2 1 h0] ?_
 exact en (.func (Fn.func 116) #[pV p] #[]) [] ⟨_, _, rfl, ⟨rfl, rfl⟩, h0⟩

set_option maxHeartbeats 4000000 in
theorem back_3 (b f p d s l : Nat) (z0 : Int) : HT Tryz.prog 67 [pV b, iV 3] [Cl b [Value.nilIface, .iface 84 (pV f), .iface 87 (pV p), .iface 90 (pV d), pV s, pV l, iV z0] 79] (fun v K => v = .func (Fn.func 117) #[pV d] #[] ∧ K = [Cl b [Value.nilIface, .iface 84 (pV f), .iface 87 (pV p), .iface 90 (pV d), pV s, pV l, iV z0] 79]) := by
 refine hiS Tryz.func67 Tryz.ntmps67 fun g w0 R h0 => go [.s 1 4] <| lwP (.pointer (some ⟨b, 3, none⟩)) (law_indexArr (x := (Operand.tmp 11)) (i := (Operand.tmp 9)) (b := b) (off := 0) (z := 3) (by kernel_rfl) Tryz.underlying76 1 (by kernel_rfl) 3 (by kernel_rfl) (by kernel_rfl) (by omega) (by omega) 3 (by omega) _) <| go [rd 1 5 0 3 1 h0] ?_
 exact en (.func (Fn.func 117) #[pV d] #[]) [] ⟨_, _, rfl, ⟨rfl, rfl⟩, h0⟩

set_option maxHeartbeats 4000000 in
theorem wrel_no (b : Nat) (S : Wst) (x y z wy : Int) (hz0 : 0 ≤ z) (hz1 : z ≤ 4294967295) (hg : ¬ (1 ≤ x ∧ x ≤ 3 ∧ 0 ≤ y ∧ y ≤ 63 ∧ 1 ≤ z)) : HT Tryz.prog 27 [pV b, .agg #[iV x, iV y, uV z], iV wy] [Wd b S] (fun v K => v = .tuple #[iV (relA S (x, y, z) wy), iV (relE S (x, y, z) wy)] ∧ K = [Wd b (relS S (x, y, z) wy)]) := by
 refine hiS Tryz.func27 Tryz.ntmps27 fun g w0 R h0 => ?_
 obtain ⟨f10, p11, d12, s13, l14, hW15, h16⟩ := wd_open h0
 have hW15n := hW15.nl; have hW15m := hW15.nh; have hW15t := hW15.tn
 refine go [] <| nP 32 [iV x, iV y, uV z] h16 (fun r17 _ h19 => ?_)
 have h20 := tk8 (sf7 (sf6 (sf7 (sf7 (sf7 (sf7 (sf7 (sf7 h19))))))))
 refine go [] <| cl1 Tryz.call56 (wvalid_cl b l14 Value.nilIface (.iface 84 (pV f10)) (.iface 87 (pV p11)) (.iface 90 (pV d12)) (pV s13) (iV S.now)) h20 fun _ h22 => go [rd 3 0 1 0 3 h22] ?_
 by_cases c23 : 1 ≤ x
 ·
  by_cases c24 : x ≤ 3
  ·
   by_cases c25 : 0 ≤ y
   ·
    by_cases c26 : y ≤ 63
    ·
     refine cl0 Tryz.call15 (couter_no x y z (by omega) (by omega) (by omega)) h22 fun w27 h28 => go [] ?_
     have hp_ := rel_arg (S := S) (o := (x, y, z)) (wy := wy) (.inl hg)
     have h30 : sat g w27 [Wd b S, Cl r17 [iV x, iV y, uV z] 32, R] := wd_close hW15 (tk8 (sf7 (sf7 (sf7 (sf7 (sf7 (sf7 (sf2 (sf7 h28)))))))))
     exact en (.tuple #[iV 0, iV 2]) [] ⟨_, [Wd b S], rfl, ⟨by rw [hp_.1, hp_.2.1], by rw [hp_.2.2]⟩, (tk2 (sf1 (sf2 h30)))⟩
    refine cl0 Tryz.call15 (couter_no x y z (by omega) (by omega) (by omega)) h22 fun w32 h33 => go [] ?_
    have hp_ := rel_arg (S := S) (o := (x, y, z)) (wy := wy) (.inl hg)
    have h35 : sat g w32 [Wd b S, Cl r17 [iV x, iV y, uV z] 32, R] := wd_close hW15 (tk8 (sf7 (sf7 (sf7 (sf7 (sf7 (sf7 (sf2 (sf7 h33)))))))))
    exact en (.tuple #[iV 0, iV 2]) [] ⟨_, [Wd b S], rfl, ⟨by rw [hp_.1, hp_.2.1], by rw [hp_.2.2]⟩, (tk2 (sf1 (sf2 h35)))⟩
   refine cl0 Tryz.call15 (couter_no x y z (by omega) (by omega) (by omega)) h22 fun w37 h38 => go [] ?_
   have hp_ := rel_arg (S := S) (o := (x, y, z)) (wy := wy) (.inl hg)
   have h40 : sat g w37 [Wd b S, Cl r17 [iV x, iV y, uV z] 32, R] := wd_close hW15 (tk8 (sf7 (sf7 (sf7 (sf7 (sf7 (sf7 (sf2 (sf7 h38)))))))))
   exact en (.tuple #[iV 0, iV 2]) [] ⟨_, [Wd b S], rfl, ⟨by rw [hp_.1, hp_.2.1], by rw [hp_.2.2]⟩, (tk2 (sf1 (sf2 h40)))⟩
  refine cl0 Tryz.call15 (couter_no x y z (by omega) (by omega) (by omega)) h22 fun w42 h43 => go [] ?_
  have hp_ := rel_arg (S := S) (o := (x, y, z)) (wy := wy) (.inl hg)
  have h45 : sat g w42 [Wd b S, Cl r17 [iV x, iV y, uV z] 32, R] := wd_close hW15 (tk8 (sf7 (sf7 (sf7 (sf7 (sf7 (sf7 (sf2 (sf7 h43)))))))))
  exact en (.tuple #[iV 0, iV 2]) [] ⟨_, [Wd b S], rfl, ⟨by rw [hp_.1, hp_.2.1], by rw [hp_.2.2]⟩, (tk2 (sf1 (sf2 h45)))⟩
 refine cl0 Tryz.call15 (couter_no x y z (by omega) (by omega) (by omega)) h22 fun w47 h48 => go [] ?_
 have hp_ := rel_arg (S := S) (o := (x, y, z)) (wy := wy) (.inl hg)
 have h50 : sat g w47 [Wd b S, Cl r17 [iV x, iV y, uV z] 32, R] := wd_close hW15 (tk8 (sf7 (sf7 (sf7 (sf7 (sf7 (sf7 (sf2 (sf7 h48)))))))))
 exact en (.tuple #[iV 0, iV 2]) [] ⟨_, [Wd b S], rfl, ⟨by rw [hp_.1, hp_.2.1], by rw [hp_.2.2]⟩, (tk2 (sf1 (sf2 h50)))⟩

set_option maxHeartbeats 4000000 in
theorem wrel_wy (b : Nat) (S : Wst) (x y z : Int) (hz0 : 0 ≤ z) (hz1 : z ≤ 4294967295) (hg : KGood (x, y, z)) (hy0 : 0 ≤ y) (hy1 : y ≤ 63) (hz : 1 ≤ z) (hx : 1 ≤ x ∧ x ≤ 3) (wy : Int) (hwy : wy < 1 ∨ 3 < wy) : HT Tryz.prog 27 [pV b, .agg #[iV x, iV y, uV z], iV wy] [Wd b S] (fun v K => v = .tuple #[iV (relA S (x, y, z) wy), iV (relE S (x, y, z) wy)] ∧ K = [Wd b (relS S (x, y, z) wy)]) := by
 refine hiS Tryz.func27 Tryz.ntmps27 fun g w0 R h0 => ?_
 obtain ⟨f10, p11, d12, s13, l14, hW15, h16⟩ := wd_open h0
 have hW15n := hW15.nl; have hW15m := hW15.nh; have hW15t := hW15.tn
 refine go [] <| nP 32 [iV x, iV y, uV z] h16 (fun r17 _ h19 => ?_)
 have h20 := tk8 (sf7 (sf6 (sf7 (sf7 (sf7 (sf7 (sf7 (sf7 h19))))))))
 refine go [] <| cl1 Tryz.call56 (wvalid_cl b l14 Value.nilIface (.iface 84 (pV f10)) (.iface 87 (pV p11)) (.iface 90 (pV d12)) (pV s13) (iV S.now)) h20 fun _ h22 => go [rd 3 0 1 0 3 h22] <| cl0 Tryz.call15 (couter_ok x y z (by omega) (by omega) (by omega)) h22 fun w23 h24 => go [.s 3 5] ?_
 by_cases c25 : wy < 1
 ·
  refine go [.v 3 5 (oT (wy < 1))] ?_
  have hp_ := rel_arg (S := S) (o := (x, y, z)) (wy := wy) (.inr hwy)
  have h27 : sat g w23 [Wd b S, Cl r17 [iV x, iV y, uV z] 32, R] := wd_close hW15 (tk8 (sf7 (sf7 (sf7 (sf7 (sf7 (sf7 (sf2 (sf7 h24)))))))))
  exact en (.tuple #[iV 0, iV 2]) [] ⟨_, [Wd b S], rfl, ⟨by rw [hp_.1, hp_.2.1], by rw [hp_.2.2]⟩, (tk2 (sf1 (sf2 h27)))⟩
 refine go [.v 3 5 (oF (wy < 1)), .v 3 9 (oT (wy > 3))] ?_
 have hp_ := rel_arg (S := S) (o := (x, y, z)) (wy := wy) (.inr hwy)
 have h30 : sat g w23 [Wd b S, Cl r17 [iV x, iV y, uV z] 32, R] := wd_close hW15 (tk8 (sf7 (sf7 (sf7 (sf7 (sf7 (sf7 (sf2 (sf7 h24)))))))))
 exact en (.tuple #[iV 0, iV 2]) [] ⟨_, [Wd b S], rfl, ⟨by rw [hp_.1, hp_.2.1], by rw [hp_.2.2]⟩, (tk2 (sf1 (sf2 h30)))⟩

set_option maxHeartbeats 4000000 in
theorem wrel_none (b : Nat) (S : Wst) (x y z : Int) (hz0 : 0 ≤ z) (hz1 : z ≤ 4294967295) (hg : KGood (x, y, z)) (hy0 : 0 ≤ y) (hy1 : y ≤ 63) (hz : 1 ≤ z) (hx : 1 ≤ x ∧ x ≤ 3) (hT : ¬ Thr S (x, y, z)) (wy : Int) (hwy : 1 ≤ wy ∧ wy ≤ 3) : HT Tryz.prog 27 [pV b, .agg #[iV x, iV y, uV z], iV wy] [Wd b S] (fun v K => v = .tuple #[iV (relA S (x, y, z) wy), iV (relE S (x, y, z) wy)] ∧ K = [Wd b (relS S (x, y, z) wy)]) := by
 refine hiS Tryz.func27 Tryz.ntmps27 fun g w0 R h0 => ?_
 obtain ⟨f10, p11, d12, s13, l14, hW15, h16⟩ := wd_open h0
 have hW15n := hW15.nl; have hW15m := hW15.nh; have hW15t := hW15.tn
 refine go [] <| nP 32 [iV x, iV y, uV z] h16 (fun r17 _ h19 => ?_)
 have h20 := tk8 (sf7 (sf6 (sf7 (sf7 (sf7 (sf7 (sf7 (sf7 h19))))))))
 refine go [] <| cl1 Tryz.call56 (wvalid_cl b l14 Value.nilIface (.iface 84 (pV f10)) (.iface 87 (pV p11)) (.iface 90 (pV d12)) (pV s13) (iV S.now)) h20 fun _ h22 => go [rd 3 0 1 0 3 h22] <| cl0 Tryz.call15 (couter_ok x y z (by omega) (by omega) (by omega)) h22 fun _ h24 => ?_
 have h25 := tk8 (sf7 (sf7 (sf7 (sf7 (sf7 (sf7 (sf2 (sf7 h24))))))))
 refine go [.v 3 5 (oF (wy < 1)), .v 3 9 (oF (wy > 3)), rd 5 1 1 0 3 h24] <| cl6 Tryz.call16 ((by have h_ := has_ht b f10 p11 d12 s13 l14 S hW15 x y z (by omega) (by omega); rw [decide_eq_false hT] at h_; exact h_)) h25 fun w26 h27 => ?_
 refine go [] ?_
 have hp_ := rel_none (S := S) (o := (x, y, z)) hg hwy hT
 have h28 : sat g w26 [Wd b S, Cl r17 [iV x, iV y, uV z] 32, R] := wd_close hW15 h27
 exact en (.tuple #[iV 0, iV 5]) [] ⟨_, [Wd b S], rfl, ⟨by rw [hp_.1, hp_.2.1], by rw [hp_.2.2]⟩, (tk2 (sf1 (sf2 h28)))⟩

set_option maxHeartbeats 4000000 in
theorem wrel_full (b : Nat) (S : Wst) (x y z : Int) (hz0 : 0 ≤ z) (hz1 : z ≤ 4294967295) (hg : KGood (x, y, z)) (hy0 : 0 ≤ y) (hy1 : y ≤ 63) (hz : 1 ≤ z) (hx : 1 ≤ x ∧ x ≤ 3) (hT : Thr S (x, y, z)) (wy : Int) (hwy : 1 ≤ wy ∧ wy ≤ 3) (hn : 10000 ≤ S.T.length) : HT Tryz.prog 27 [pV b, .agg #[iV x, iV y, uV z], iV wy] [Wd b S] (fun v K => v = .tuple #[iV (relA S (x, y, z) wy), iV (relE S (x, y, z) wy)] ∧ K = [Wd b (relS S (x, y, z) wy)]) := by
 refine hiS Tryz.func27 Tryz.ntmps27 fun g w0 R h0 => ?_
 obtain ⟨f10, p11, d12, s13, l14, hW15, h16⟩ := wd_open h0
 have hW15n := hW15.nl; have hW15m := hW15.nh; have hW15t := hW15.tn
 refine go [] <| nP 32 [iV x, iV y, uV z] h16 (fun r17 _ h19 => ?_)
 have h20 := tk8 (sf7 (sf6 (sf7 (sf7 (sf7 (sf7 (sf7 (sf7 h19))))))))
 refine go [] <| cl1 Tryz.call56 (wvalid_cl b l14 Value.nilIface (.iface 84 (pV f10)) (.iface 87 (pV p11)) (.iface 90 (pV d12)) (pV s13) (iV S.now)) h20 fun _ h22 => go [rd 3 0 1 0 3 h22] <| cl0 Tryz.call15 (couter_ok x y z (by omega) (by omega) (by omega)) h22 fun _ h24 => ?_
 have h25 := tk8 (sf7 (sf7 (sf7 (sf7 (sf7 (sf7 (sf2 (sf7 h24))))))))
 refine go [.v 3 5 (oF (wy < 1)), .v 3 9 (oF (wy > 3)), rd 5 1 1 0 3 h24] <| cl6 Tryz.call16 ((by have h_ := has_ht b f10 p11 d12 s13 l14 S hW15 x y z (by omega) (by omega); rw [decide_eq_true hT] at h_; exact h_)) h25 fun _ h27 => ?_
 have h28 := tk8 (sf7 (sf6 (sf6 (sf6 (sf6 (sf6 (sf7 (sf7 h27))))))))
 refine go [rd 7 3 0 5 1 h27] <| cl1 Tryz.call23 (lglen_ht l14 S.T) h28 fun w29 h30 => go [.v 7 5 (oT (((S.T.length : Nat) : Int) ≥ 10000))] ?_
 have hp_ := rel_full (S := S) (o := (x, y, z)) hwy hT hn
 have h32 : sat g w29 [Wd b S, Cl r17 [iV x, iV y, uV z] 32, R] := wd_close hW15 (tk8 (sf7 (sf7 (sf7 (sf7 (sf7 (sf2 (sf7 (sf7 h30)))))))))
 exact en (.tuple #[iV 0, iV 4]) [] ⟨_, [Wd b S], rfl, ⟨by rw [hp_.1, hp_.2.1], by rw [hp_.2.2]⟩, (tk2 (sf1 (sf2 h32)))⟩

set_option maxHeartbeats 4000000 in
theorem wrel_1 (b : Nat) (S : Wst) (y z : Int) (hz0 : 0 ≤ z) (hz1 : z ≤ 4294967295) (hg : KGood (1, y, z)) (hy0 : 0 ≤ y) (hy1 : y ≤ 63) (hz : 1 ≤ z) (hT : Thr S (1, y, z)) (wy : Int) (hwy : 1 ≤ wy ∧ wy ≤ 3) (hn : S.T.length < 10000) : HT Tryz.prog 27 [pV b, .agg #[iV 1, iV y, uV z], iV wy] [Wd b S] (fun v K => v = .tuple #[iV (relA S (1, y, z) wy), iV (relE S (1, y, z) wy)] ∧ K = [Wd b (relS S (1, y, z) wy)]) := by
 refine hiS Tryz.func27 Tryz.ntmps27 fun g w0 R h0 => ?_
 obtain ⟨f10, p11, d12, s13, l14, hW15, h16⟩ := wd_open h0
 have hW15n := hW15.nl; have hW15m := hW15.nh; have hW15t := hW15.tn
 refine go [] <| nP 32 [iV 1, iV y, uV z] h16 (fun r17 _ h19 => ?_)
 have h20 := tk8 (sf7 (sf6 (sf7 (sf7 (sf7 (sf7 (sf7 (sf7 h19))))))))
 refine go [] <| cl1 Tryz.call56 (wvalid_cl b l14 Value.nilIface (.iface 84 (pV f10)) (.iface 87 (pV p11)) (.iface 90 (pV d12)) (pV s13) (iV S.now)) h20 fun _ h22 => go [rd 3 0 1 0 3 h22] <| cl0 Tryz.call15 (couter_ok 1 y z (by omega) (by omega) (by omega)) h22 fun _ h24 => ?_
 have h25 := tk8 (sf7 (sf7 (sf7 (sf7 (sf7 (sf7 (sf2 (sf7 h24))))))))
 refine go [.v 3 5 (oF (wy < 1)), .v 3 9 (oF (wy > 3)), rd 5 1 1 0 3 h24] <| cl6 Tryz.call16 ((by have h_ := has_ht b f10 p11 d12 s13 l14 S hW15 1 y z (by omega) (by omega); rw [decide_eq_true hT] at h_; exact h_)) h25 fun _ h27 => ?_
 have h28 := tk8 (sf7 (sf6 (sf6 (sf6 (sf6 (sf6 (sf7 (sf7 h27))))))))
 refine go [rd 7 3 0 5 1 h27] <| cl1 Tryz.call23 (lglen_ht l14 S.T) h28 fun _ h30 => ?_
 have h31 := tk8 (sf7 (sf6 (sf6 (sf6 (sf6 (sf6 (sf7 (sf7 h30))))))))
 refine go [.v 7 5 (oF (((S.T.length : Nat) : Int) ≥ 10000)), rd 9 3 1 4 1 h30] <| cl1 Tryz.call65 (next_ht s13 S.q) h31 fun _ h33 => go [] <| dw (fls [0, 1, 2, 3, 4, 5, 6, 7, 8, 9, 10, 11] (Tr.an 12 Tr.nil)) h33 fun _ h35 => ?_
 have h36 := tk8 (sf7 (sf6 (sf7 (sf7 (sf7 (sf7 (sf7 (sf7 h35))))))))
 refine go [rd 10 3 2 5 1 h35, rd 10 7 2 6 1 h35, rd 10 8 6 0 3 h35] <| cw1 Tryz.call66 (lgadd_ht l14 S.T S.now 1 y z wy ((S.q.headD 1)) (by omega) (by omega) (rel_attP hW15 hg hwy) hW15.ta (by omega)) h36 fun w37 h38 => ⟨kd [], ?_⟩
 refine go [.s 11 1] ?_
 by_cases c39 : (S.q.headD 1) = 1
 ·
  refine go [.v 11 1 (qeT ((S.q.headD 1)) 1)] <| dw (fls [0, 1, 2, 4] (Tr.an 3 (Tr.an 5 Tr.nil))) h38 fun _ h41 => ?_
  have h42 := tk8 (sf7 (sf6 (sf6 (sf7 (sf7 (sf7 (sf7 (sf7 h41))))))))
  refine go [rd 12 2 6 0 1 h41, rd 12 4 6 0 3 h41] <| cw1 Tryz.call67 (back_1 b f10 p11 d12 s13 l14 S.now) h42 fun _ h44 => ⟨kd [rd 0 4 6 0 3 h44], ?_⟩
  refine cw1 Tryz.call115 ((by have h_ := fclose_ht f10 64 S.F 1 y z (by omega) (by omega); rw [show clsX S.F (1, y, z) = giv S.F (1, y, z) from cls_giv hT] at h_; exact h_)) (tk8 (sf7 (sf6 (sf6 (sf6 (sf7 (sf7 (sf7 (sf7 h44))))))))) fun w46 h47 => ⟨kd [], ?_⟩
  refine go [] ?_
  have hp_ := rel_ok (S := S) (o := (1, y, z)) hwy hT hn
  have hp2_ : relS S (1, y, z) wy = ({ S with q := S.q.tail, T := S.T ++ [⟨S.now, (1, y, z), wy, S.q.headD 1⟩], F := giv S.F (1, y, z) } : Wst) := hp_.2.2.trans (if_pos (by omega))
  have h48 := tk8 (sf7 (sf6 (sf7 (sf7 (sf5 (sf4 (sf7 (sf7 h47))))))))
  have h49 : sat g w46 [Wd b ({ S with q := S.q.tail, T := S.T ++ [⟨S.now, (1, y, z), wy, S.q.headD 1⟩], F := giv S.F (1, y, z) } : Wst), Cl r17 [iV 1, iV y, uV z] 32, R] := wd_close (hp2_ ▸ wok_rel hW15 (1, y, z) wy) h48
  exact en (.tuple #[iV ((S.q.headD 1)), iV 0]) [] ⟨_, [Wd b ({ S with q := S.q.tail, T := S.T ++ [⟨S.now, (1, y, z), wy, S.q.headD 1⟩], F := giv S.F (1, y, z) } : Wst)], rfl, ⟨by rw [hp_.1, hp_.2.1], by rw [hp2_]⟩, (tk2 (sf1 (sf2 h49)))⟩
 refine go [.v 11 1 (qeF ((S.q.headD 1)) 1)] ?_
 have hp_ := rel_ok (S := S) (o := (1, y, z)) hwy hT hn
 have hp2_ : relS S (1, y, z) wy = ({ S with q := S.q.tail, T := S.T ++ [⟨S.now, (1, y, z), wy, S.q.headD 1⟩] } : Wst) := hp_.2.2.trans (if_neg (by omega))
 have h51 := tk8 (sf7 (sf7 (sf7 (sf7 (sf3 (sf2 (sf7 (sf7 h38))))))))
 have h52 : sat g w37 [Wd b ({ S with q := S.q.tail, T := S.T ++ [⟨S.now, (1, y, z), wy, S.q.headD 1⟩] } : Wst), Cl r17 [iV 1, iV y, uV z] 32, R] := wd_close (hp2_ ▸ wok_rel hW15 (1, y, z) wy) h51
 exact en (.tuple #[iV ((S.q.headD 1)), iV 0]) [] ⟨_, [Wd b ({ S with q := S.q.tail, T := S.T ++ [⟨S.now, (1, y, z), wy, S.q.headD 1⟩] } : Wst)], rfl, ⟨by rw [hp_.1, hp_.2.1], by rw [hp2_]⟩, (tk2 (sf1 (sf2 h52)))⟩

set_option maxHeartbeats 4000000 in
theorem wrel_2 (b : Nat) (S : Wst) (y z : Int) (hz0 : 0 ≤ z) (hz1 : z ≤ 4294967295) (hg : KGood (2, y, z)) (hy0 : 0 ≤ y) (hy1 : y ≤ 63) (hz : 1 ≤ z) (hT : Thr S (2, y, z)) (wy : Int) (hwy : 1 ≤ wy ∧ wy ≤ 3) (hn : S.T.length < 10000) : HT Tryz.prog 27 [pV b, .agg #[iV 2, iV y, uV z], iV wy] [Wd b S] (fun v K => v = .tuple #[iV (relA S (2, y, z) wy), iV (relE S (2, y, z) wy)] ∧ K = [Wd b (relS S (2, y, z) wy)]) := by
 refine hiS Tryz.func27 Tryz.ntmps27 fun g w0 R h0 => ?_
 obtain ⟨f10, p11, d12, s13, l14, hW15, h16⟩ := wd_open h0
 have hW15n := hW15.nl; have hW15m := hW15.nh; have hW15t := hW15.tn
 refine go [] <| nP 32 [iV 2, iV y, uV z] h16 (fun r17 _ h19 => ?_)
 have h20 := tk8 (sf7 (sf6 (sf7 (sf7 (sf7 (sf7 (sf7 (sf7 h19))))))))
 refine go [] <| cl1 Tryz.call56 (wvalid_cl b l14 Value.nilIface (.iface 84 (pV f10)) (.iface 87 (pV p11)) (.iface 90 (pV d12)) (pV s13) (iV S.now)) h20 fun _ h22 => go [rd 3 0 1 0 3 h22] <| cl0 Tryz.call15 (couter_ok 2 y z (by omega) (by omega) (by omega)) h22 fun _ h24 => ?_
 have h25 := tk8 (sf7 (sf7 (sf7 (sf7 (sf7 (sf7 (sf2 (sf7 h24))))))))
 refine go [.v 3 5 (oF (wy < 1)), .v 3 9 (oF (wy > 3)), rd 5 1 1 0 3 h24] <| cl6 Tryz.call16 ((by have h_ := has_ht b f10 p11 d12 s13 l14 S hW15 2 y z (by omega) (by omega); rw [decide_eq_true hT] at h_; exact h_)) h25 fun _ h27 => ?_
 have h28 := tk8 (sf7 (sf6 (sf6 (sf6 (sf6 (sf6 (sf7 (sf7 h27))))))))
 refine go [rd 7 3 0 5 1 h27] <| cl1 Tryz.call23 (lglen_ht l14 S.T) h28 fun _ h30 => ?_
 have h31 := tk8 (sf7 (sf6 (sf6 (sf6 (sf6 (sf6 (sf7 (sf7 h30))))))))
 refine go [.v 7 5 (oF (((S.T.length : Nat) : Int) ≥ 10000)), rd 9 3 1 4 1 h30] <| cl1 Tryz.call65 (next_ht s13 S.q) h31 fun _ h33 => go [] <| dw (fls [0, 1, 2, 3, 4, 5, 6, 7, 8, 9, 10, 11] (Tr.an 12 Tr.nil)) h33 fun _ h35 => ?_
 have h36 := tk8 (sf7 (sf6 (sf7 (sf7 (sf7 (sf7 (sf7 (sf7 h35))))))))
 refine go [rd 10 3 2 5 1 h35, rd 10 7 2 6 1 h35, rd 10 8 6 0 3 h35] <| cw1 Tryz.call66 (lgadd_ht l14 S.T S.now 2 y z wy ((S.q.headD 1)) (by omega) (by omega) (rel_attP hW15 hg hwy) hW15.ta (by omega)) h36 fun w37 h38 => ⟨kd [], ?_⟩
 refine go [.s 11 1] ?_
 by_cases c39 : (S.q.headD 1) = 1
 ·
  refine go [.v 11 1 (qeT ((S.q.headD 1)) 1)] <| dw (fls [0, 1, 2, 4] (Tr.an 3 (Tr.an 5 Tr.nil))) h38 fun _ h41 => ?_
  have h42 := tk8 (sf7 (sf6 (sf6 (sf7 (sf7 (sf7 (sf7 (sf7 h41))))))))
  refine go [rd 12 2 6 0 1 h41, rd 12 4 6 0 3 h41] <| cw1 Tryz.call67 (back_2 b f10 p11 d12 s13 l14 S.now) h42 fun _ h44 => ⟨kd [rd 0 4 6 0 3 h44], ?_⟩
  refine cw1 Tryz.call116 (punpin_ht p11 S.B y z y.toNat (thr_at hT) (thr_nat hg)) (tk8 (sf7 (sf6 (sf6 (sf6 (sf6 (sf7 (sf7 (sf7 h44))))))))) fun w46 h47 => ⟨kd [], ?_⟩
  refine go [] ?_
  have hp_ := rel_ok (S := S) (o := (2, y, z)) hwy hT hn
  have hp2_ : relS S (2, y, z) wy = ({ S with q := S.q.tail, T := S.T ++ [⟨S.now, (2, y, z), wy, S.q.headD 1⟩], B := giv S.B (2, y, z) } : Wst) := hp_.2.2.trans (if_pos (by omega))
  have h48 := tk8 (sf7 (sf7 (sf5 (sf7 (sf5 (sf4 (sf7 (sf7 h47))))))))
  have h49 : sat g w46 [Wd b ({ S with q := S.q.tail, T := S.T ++ [⟨S.now, (2, y, z), wy, S.q.headD 1⟩], B := giv S.B (2, y, z) } : Wst), Cl r17 [iV 2, iV y, uV z] 32, R] := wd_close (hp2_ ▸ wok_rel hW15 (2, y, z) wy) h48
  exact en (.tuple #[iV ((S.q.headD 1)), iV 0]) [] ⟨_, [Wd b ({ S with q := S.q.tail, T := S.T ++ [⟨S.now, (2, y, z), wy, S.q.headD 1⟩], B := giv S.B (2, y, z) } : Wst)], rfl, ⟨by rw [hp_.1, hp_.2.1], by rw [hp2_]⟩, (tk2 (sf1 (sf2 h49)))⟩
 refine go [.v 11 1 (qeF ((S.q.headD 1)) 1)] ?_
 have hp_ := rel_ok (S := S) (o := (2, y, z)) hwy hT hn
 have hp2_ : relS S (2, y, z) wy = ({ S with q := S.q.tail, T := S.T ++ [⟨S.now, (2, y, z), wy, S.q.headD 1⟩] } : Wst) := hp_.2.2.trans (if_neg (by omega))
 have h51 := tk8 (sf7 (sf7 (sf7 (sf7 (sf3 (sf2 (sf7 (sf7 h38))))))))
 have h52 : sat g w37 [Wd b ({ S with q := S.q.tail, T := S.T ++ [⟨S.now, (2, y, z), wy, S.q.headD 1⟩] } : Wst), Cl r17 [iV 2, iV y, uV z] 32, R] := wd_close (hp2_ ▸ wok_rel hW15 (2, y, z) wy) h51
 exact en (.tuple #[iV ((S.q.headD 1)), iV 0]) [] ⟨_, [Wd b ({ S with q := S.q.tail, T := S.T ++ [⟨S.now, (2, y, z), wy, S.q.headD 1⟩] } : Wst)], rfl, ⟨by rw [hp_.1, hp_.2.1], by rw [hp2_]⟩, (tk2 (sf1 (sf2 h52)))⟩

set_option maxHeartbeats 4000000 in
theorem wrel_3 (b : Nat) (S : Wst) (y z : Int) (hz0 : 0 ≤ z) (hz1 : z ≤ 4294967295) (hg : KGood (3, y, z)) (hy0 : 0 ≤ y) (hy1 : y ≤ 63) (hz : 1 ≤ z) (hT : Thr S (3, y, z)) (wy : Int) (hwy : 1 ≤ wy ∧ wy ≤ 3) (hn : S.T.length < 10000) : HT Tryz.prog 27 [pV b, .agg #[iV 3, iV y, uV z], iV wy] [Wd b S] (fun v K => v = .tuple #[iV (relA S (3, y, z) wy), iV (relE S (3, y, z) wy)] ∧ K = [Wd b (relS S (3, y, z) wy)]) := by
 refine hiS Tryz.func27 Tryz.ntmps27 fun g w0 R h0 => ?_
 obtain ⟨f10, p11, d12, s13, l14, hW15, h16⟩ := wd_open h0
 have hW15n := hW15.nl; have hW15m := hW15.nh; have hW15t := hW15.tn
 refine go [] <| nP 32 [iV 3, iV y, uV z] h16 (fun r17 _ h19 => ?_)
 have h20 := tk8 (sf7 (sf6 (sf7 (sf7 (sf7 (sf7 (sf7 (sf7 h19))))))))
 refine go [] <| cl1 Tryz.call56 (wvalid_cl b l14 Value.nilIface (.iface 84 (pV f10)) (.iface 87 (pV p11)) (.iface 90 (pV d12)) (pV s13) (iV S.now)) h20 fun _ h22 => go [rd 3 0 1 0 3 h22] <| cl0 Tryz.call15 (couter_ok 3 y z (by omega) (by omega) (by omega)) h22 fun _ h24 => ?_
 have h25 := tk8 (sf7 (sf7 (sf7 (sf7 (sf7 (sf7 (sf2 (sf7 h24))))))))
 refine go [.v 3 5 (oF (wy < 1)), .v 3 9 (oF (wy > 3)), rd 5 1 1 0 3 h24] <| cl6 Tryz.call16 ((by have h_ := has_ht b f10 p11 d12 s13 l14 S hW15 3 y z (by omega) (by omega); rw [decide_eq_true hT] at h_; exact h_)) h25 fun _ h27 => ?_
 have h28 := tk8 (sf7 (sf6 (sf6 (sf6 (sf6 (sf6 (sf7 (sf7 h27))))))))
 refine go [rd 7 3 0 5 1 h27] <| cl1 Tryz.call23 (lglen_ht l14 S.T) h28 fun _ h30 => ?_
 have h31 := tk8 (sf7 (sf6 (sf6 (sf6 (sf6 (sf6 (sf7 (sf7 h30))))))))
 refine go [.v 7 5 (oF (((S.T.length : Nat) : Int) ≥ 10000)), rd 9 3 1 4 1 h30] <| cl1 Tryz.call65 (next_ht s13 S.q) h31 fun _ h33 => go [] <| dw (fls [0, 1, 2, 3, 4, 5, 6, 7, 8, 9, 10, 11] (Tr.an 12 Tr.nil)) h33 fun _ h35 => ?_
 have h36 := tk8 (sf7 (sf6 (sf7 (sf7 (sf7 (sf7 (sf7 (sf7 h35))))))))
 refine go [rd 10 3 2 5 1 h35, rd 10 7 2 6 1 h35, rd 10 8 6 0 3 h35] <| cw1 Tryz.call66 (lgadd_ht l14 S.T S.now 3 y z wy ((S.q.headD 1)) (by omega) (by omega) (rel_attP hW15 hg hwy) hW15.ta (by omega)) h36 fun w37 h38 => ⟨kd [], ?_⟩
 refine go [.s 11 1] ?_
 by_cases c39 : (S.q.headD 1) = 1
 ·
  refine go [.v 11 1 (qeT ((S.q.headD 1)) 1)] <| dw (fls [0, 1, 2, 4] (Tr.an 3 (Tr.an 5 Tr.nil))) h38 fun _ h41 => ?_
  have h42 := tk8 (sf7 (sf6 (sf6 (sf7 (sf7 (sf7 (sf7 (sf7 h41))))))))
  refine go [rd 12 2 6 0 1 h41, rd 12 4 6 0 3 h41] <| cw1 Tryz.call67 (back_3 b f10 p11 d12 s13 l14 S.now) h42 fun _ h44 => ⟨kd [rd 0 4 6 0 3 h44], ?_⟩
  refine cw1 Tryz.call117 (dreturn_ht d12 S.D y z y.toNat (thr_at hT) (thr_nat hg) (by omega)) (tk8 (sf7 (sf6 (sf6 (sf6 (sf6 (sf6 (sf7 (sf7 h44))))))))) fun w46 h47 => ⟨kd [], ?_⟩
  refine go [] ?_
  have hp_ := rel_ok (S := S) (o := (3, y, z)) hwy hT hn
  have hp2_ : relS S (3, y, z) wy = ({ S with q := S.q.tail, T := S.T ++ [⟨S.now, (3, y, z), wy, S.q.headD 1⟩], D := giv S.D (3, y, z) } : Wst) := hp_.2.2.trans (if_pos (by omega))
  have h48 := tk8 (sf7 (sf7 (sf7 (sf4 (sf5 (sf4 (sf7 (sf7 h47))))))))
  have h49 : sat g w46 [Wd b ({ S with q := S.q.tail, T := S.T ++ [⟨S.now, (3, y, z), wy, S.q.headD 1⟩], D := giv S.D (3, y, z) } : Wst), Cl r17 [iV 3, iV y, uV z] 32, R] := wd_close (hp2_ ▸ wok_rel hW15 (3, y, z) wy) h48
  exact en (.tuple #[iV ((S.q.headD 1)), iV 0]) [] ⟨_, [Wd b ({ S with q := S.q.tail, T := S.T ++ [⟨S.now, (3, y, z), wy, S.q.headD 1⟩], D := giv S.D (3, y, z) } : Wst)], rfl, ⟨by rw [hp_.1, hp_.2.1], by rw [hp2_]⟩, (tk2 (sf1 (sf2 h49)))⟩
 refine go [.v 11 1 (qeF ((S.q.headD 1)) 1)] ?_
 have hp_ := rel_ok (S := S) (o := (3, y, z)) hwy hT hn
 have hp2_ : relS S (3, y, z) wy = ({ S with q := S.q.tail, T := S.T ++ [⟨S.now, (3, y, z), wy, S.q.headD 1⟩] } : Wst) := hp_.2.2.trans (if_neg (by omega))
 have h51 := tk8 (sf7 (sf7 (sf7 (sf7 (sf3 (sf2 (sf7 (sf7 h38))))))))
 have h52 : sat g w37 [Wd b ({ S with q := S.q.tail, T := S.T ++ [⟨S.now, (3, y, z), wy, S.q.headD 1⟩] } : Wst), Cl r17 [iV 3, iV y, uV z] 32, R] := wd_close (hp2_ ▸ wok_rel hW15 (3, y, z) wy) h51
 exact en (.tuple #[iV ((S.q.headD 1)), iV 0]) [] ⟨_, [Wd b ({ S with q := S.q.tail, T := S.T ++ [⟨S.now, (3, y, z), wy, S.q.headD 1⟩] } : Wst)], rfl, ⟨by rw [hp_.1, hp_.2.1], by rw [hp2_]⟩, (tk2 (sf1 (sf2 h52)))⟩

theorem wrel_ht (b : Nat) (S : Wst) (x y z wy : Int) (hz0 : 0 ≤ z) (hz1 : z ≤ 4294967295) : HT Tryz.prog 27 [pV b, .agg #[iV x, iV y, uV z], iV wy] [Wd b S] (fun v K => v = Value.tuple #[Value.int .i64 (relA S (x, y, z) wy), Value.int .i64 (relE S (x, y, z) wy)] ∧ K = [Wd b (relS S (x, y, z) wy)]) := by
  by_cases h : KGood (x, y, z)
  · by_cases hw : 1 ≤ wy ∧ wy ≤ 3
    · by_cases hT : Thr S (x, y, z)
      · by_cases hn : S.T.length < 10000
        · rcases kgood_k h with h1 | h1 | h1
          · have h2 : x = 1 := h1
            subst h2
            exact wrel_1 b S y z hz0 hz1 h h.2.2.1 h.2.2.2.1 h.2.2.2.2 hT wy hw hn
          · have h2 : x = 2 := h1
            subst h2
            exact wrel_2 b S y z hz0 hz1 h h.2.2.1 h.2.2.2.1 h.2.2.2.2 hT wy hw hn
          · have h2 : x = 3 := h1
            subst h2
            exact wrel_3 b S y z hz0 hz1 h h.2.2.1 h.2.2.2.1 h.2.2.2.2 hT wy hw hn
        · exact wrel_full b S x y z hz0 hz1 h h.2.2.1 h.2.2.2.1 h.2.2.2.2 ⟨h.1, h.2.1⟩ hT wy hw (by omega)
      · exact wrel_none b S x y z hz0 hz1 h h.2.2.1 h.2.2.2.1 h.2.2.2.2 ⟨h.1, h.2.1⟩ hT wy hw
    · exact wrel_wy b S x y z hz0 hz1 h h.2.2.1 h.2.2.2.1 h.2.2.2.2 ⟨h.1, h.2.1⟩ wy (by omega)
  · exact wrel_no b S x y z wy hz0 hz1 h

end Go.Proofs.YtggfnbpohmhphaaGreatDoor

/-
  Steps of scripts, and what they do. No program in sight.
-/
namespace Go.Proofs.YtggfnbpohmhphaaGreatDoor
structure Sq where
  d : Int
  k : Int
  a : Int
  o : Ky
  wy : Int
  tk : Int
  tx : List UInt8
def eSq (s : Sq) : List Value := [.int .i64 s.d, .int .i64 s.k, .int .i64 s.a, .int .i64 s.o.1, .int .i64 s.o.2.1, .int .u32 s.o.2.2, .int .i64 s.wy, .int .i64 s.tk, .string (St s.tx)]
theorem eSq_ok : Enc 9 eSq := ⟨fun _ => rfl, fun x v hv => by simp [eSq] at hv; rcases hv with rfl | rfl | rfl | rfl | rfl | rfl | rfl | rfl | rfl <;> rfl⟩
def SqOk (s : Sq) : Prop := 0 ≤ s.o.2.2 ∧ s.o.2.2 ≤ 4294967295
/-- Short scripts. -/
def Sho (L : List Sq) (m : Int) : Prop := (L.length : Int) ≤ m ∧ ∀ s ∈ L, s.tx.length ≤ 40
instance (L : List Sq) (m : Int) : Decidable (Sho L m) := by unfold Sho; infer_instance
theorem sho_no {L : List Sq} {m : Int} (h : m < (L.length : Int)) : decide (Sho L m) = false := decide_eq_false fun q => by have := q.1; omega
theorem sho_long {L : List Sq} {m : Int} {i : Nat} {s : Sq} (hs : L[i]? = some s) (h : 40 < s.tx.length) : decide (Sho L m) = false := decide_eq_false fun q => by have := q.2 s (List.mem_of_getElem? hs); omega
theorem sho_yes {L : List Sq} {m : Int} {i : Nat} (h : (L.length : Int) ≤ m) (h2 : ∀ s ∈ L.take i, s.tx.length ≤ 40) (hi : L.length ≤ i) : decide (Sho L m) = true := decide_eq_true ⟨h, fun s hs => h2 s (by rw [List.take_of_length_le hi]; exact hs)⟩
theorem tk_all2 {α : Type} {p : α → Prop} {L : List α} {i : Nat} {x : α} (h : ∀ s ∈ L.take i, p s) (hx : L[i]? = some x) (hp : p x) : ∀ s ∈ L.take (i + 1), p s := fun s hs => by
  rw [List.take_add_one, hx] at hs
  rcases List.mem_append.1 hs with hs | hs
  · exact h s hs
  · rw [Option.toList_some, List.mem_singleton] at hs
    rw [hs]
    exact hp
def doS (S : Wst) (s : Sq) : Wst := if s.d = 0 then acqS S s.k s.a else if s.d = 1 then relS S s.o s.wy else if s.d = 2 then renS S s.o s.tk else if s.d = 3 then tckS S s.tk else if s.d = 4 then aswS S s.tx else S
def doO (S : Wst) (s : Sq) : Ky := if s.d = 0 then acqO S s.k s.a else (0, 0, 0)
def doB (S : Wst) (s : Sq) : Bool := decide (s.d = 0 ∧ acqE S s.k s.a = 0)
section
variable {S : Wst} {s : Sq}
theorem do0 (h : s.d = 0) : doS S s = acqS S s.k s.a ∧ doO S s = acqO S s.k s.a ∧ doB S s = decide (acqE S s.k s.a = 0) := by
  refine ⟨if_pos h, if_pos h, ?_⟩
  unfold doB
  congr 1
  exact propext ⟨fun q => q.2, fun q => ⟨h, q⟩⟩
theorem don (h : s.d ≠ 0) : doO S s = (0, 0, 0) ∧ doB S s = false := ⟨if_neg h, decide_eq_false fun q => h q.1⟩
theorem do1 (h : s.d = 1) : doS S s = relS S s.o s.wy := by unfold doS; rw [if_neg (by omega), if_pos h]
theorem do2 (h : s.d = 2) : doS S s = renS S s.o s.tk := by unfold doS; rw [if_neg (by omega), if_neg (by omega), if_pos h]
theorem do3 (h : s.d = 3) : doS S s = tckS S s.tk := by unfold doS; rw [if_neg (by omega), if_neg (by omega), if_neg (by omega), if_pos h]
theorem do4 (h : s.d = 4) : doS S s = aswS S s.tx := by unfold doS; rw [if_neg (by omega), if_neg (by omega), if_neg (by omega), if_neg (by omega), if_pos h]
theorem do5 (h : s.d ≠ 0 ∧ s.d ≠ 1 ∧ s.d ≠ 2 ∧ s.d ≠ 3 ∧ s.d ≠ 4) : doS S s = S := by unfold doS; rw [if_neg h.1, if_neg h.2.1, if_neg h.2.2.1, if_neg h.2.2.2.1, if_neg h.2.2.2.2]
theorem wok_do (h : WOk S) (s : Sq) : WOk (doS S s) := by
  unfold doS
  split
  · exact wok_acq h _ _
  · split
    · exact wok_rel h _ _
    · split
      · exact wok_ren h _ _
      · split
        · exact wok_tck h _
        · split
          · exact wok_asw h _
          · exact h
end
theorem allK_le (k : Int) {X : Xs} (h : X.length = 64) : (allK k X).length ≤ 64 := by
  rw [allK_len]
  have := inS_len 1 (As X) 0
  rw [as_len, h] at this
  exact this
theorem allS_le {S : Wst} (h : WOk S) : (allS S).length ≤ 192 := by
  have h1 := allK_le 1 h.fl
  have h2 := allK_le 2 h.bl
  have h3 := allK_le 3 h.dl
  unfold allS
  rw [List.length_append, List.length_append]
  omega
/-- The world behind the first steps. -/
def mdS (S : Wst) (L : List Sq) (i : Nat) : Wst := (L.take i).foldl doS S
theorem mdS_go {S : Wst} {L : List Sq} {i : Nat} {s : Sq} (h : L[i]? = some s) : mdS S L (i + 1) = doS (mdS S L i) s := by
  unfold mdS
  rw [List.take_add_one, h, List.foldl_append]
  rfl
end Go.Proofs.YtggfnbpohmhphaaGreatDoor

/- Walks, printed by my generator o14.py. -/
namespace Go.Proofs.YtggfnbpohmhphaaGreatDoor
theorem q14e32_eql_t {n : Nat} {l : Fr} {o : Oper} {x y : Operand} (a0 : Int) (a1 : Int) (a2 : Int) (c0 : Int) (c1 : Int) (c2 : Int) (ho : o.op = .binOp .eql 32 x y 32) (hx : fe n l x = .agg #[.int .i64 a0, .int .i64 a1, .int .u32 a2]) (hy : fe n l y = .agg #[.int .i64 c0, .int .i64 c1, .int .u32 c2]) (h : a0 = c0 ∧ a1 = c1 ∧ a2 = c2) (w : World) : (execOp (fe n l) o).run Tryz.prog w = .ok (.value (.bool true)) w := by
  obtain ⟨rfl, rfl, rfl⟩ := h
  simp [execOp, ho, hx, hy, go_sem]
theorem q14e32_neq_t {n : Nat} {l : Fr} {o : Oper} {x y : Operand} (a0 : Int) (a1 : Int) (a2 : Int) (c0 : Int) (c1 : Int) (c2 : Int) (ho : o.op = .binOp .neq 32 x y 32) (hx : fe n l x = .agg #[.int .i64 a0, .int .i64 a1, .int .u32 a2]) (hy : fe n l y = .agg #[.int .i64 c0, .int .i64 c1, .int .u32 c2]) (h : a0 = c0 ∧ a1 = c1 ∧ a2 = c2) (w : World) : (execOp (fe n l) o).run Tryz.prog w = .ok (.value (.bool false)) w := by
  obtain ⟨rfl, rfl, rfl⟩ := h
  simp [execOp, ho, hx, hy, go_sem]
set_option maxHeartbeats 4000000 in
theorem lfile_ht (y z : Int) : HT Tryz.prog 47 [iV y, uV z] [] (fun v K => v = .agg #[iV 1, iV y, uV z] ∧ K = []) := by
 refine hiS Tryz.func47 Tryz.ntmps47 fun g w0 R h0 => go [] <| nP 32 [iV 0, iV 0, uV 0] h0 (fun _ _ h12 => ?_)
 refine go [] <| sP [(0, iV 1), (1, iV y), (2, uV z)] [iV 1, iV y, uV z] h12 fun _ h14 => go [] ?_
 exact en (.agg #[iV 1, iV y, uV z]) [rd 0 0 0 0 3 h14] ⟨_, _, rfl, ⟨rfl, rfl⟩, (tk1 (sf1 h14))⟩

set_option maxHeartbeats 4000000 in
theorem works_ht (wo : World) (hg : Lett wo) : HT Tryz.prog 12 [] [Old wo] (fun v K => v = .bool true ∧ K = [Old wo]) := by
 refine hiS Tryz.func12 Tryz.ntmps12 fun g w0 R h0 => go [] <| cP Tryz.call13 (wnew_ht 1 (by omega)) h0 ?_
 rintro v K _ (⟨b10, rfl, rfl⟩) h12
 have h13 := ap1 h12
 refine go [] <| cl2 Tryz.call30 ((by have h_ := wansw_ht wo hg b10 (wnew 1) [108, 111, 111, 102, 111] (by decide); rw [show aswE (wnew 1) [108, 111, 111, 102, 111] = 0 from by kernel_rfl] at h_; exact h_)) h13 fun _ h15 => ?_
 refine go [] <| cl1 Tryz.call28 ((by have h_ := wacq_ht b10 (aswS (wnew 1) [108, 111, 111, 102, 111]) 1 5; rw [show acqO (aswS (wnew 1) [108, 111, 111, 102, 111]) 1 5 = ((0, 0, 0) : Ky) from by kernel_rfl, show acqE (aswS (wnew 1) [108, 111, 111, 102, 111]) 1 5 = 15 from by kernel_rfl] at h_; exact h_)) h15 fun _ h17 => ?_
 refine go [] <| nP 32 [iV 0, iV 0, uV 0] h17 (fun _ _ h20 => ?_)
 refine sP [(0, iV 0), (1, iV 0), (2, uV 0)] [iV 0, iV 0, uV 0] h20 fun _ h22 => ?_
 have h23 := tk4 (sf3 (sf2 (sf3 (sf3 h22))))
 refine go [] <| cl1 Tryz.call28 ((by have h_ := wacq_ht b10 (acqS (aswS (wnew 1) [108, 111, 111, 102, 111]) 1 5) 1 5; rw [show acqO (acqS (aswS (wnew 1) [108, 111, 111, 102, 111]) 1 5) 1 5 = ((1, 0, 1) : Ky) from by kernel_rfl, show acqE (acqS (aswS (wnew 1) [108, 111, 111, 102, 111]) 1 5) 1 5 = 0 from by kernel_rfl] at h_; exact h_)) h23 fun _ h25 => ?_
 refine go [] <| nP 32 [iV 0, iV 0, uV 0] h25 (fun _ _ h28 => ?_)
 refine sP [(0, iV 1), (1, iV 0), (2, uV 1)] [iV 1, iV 0, uV 1] h28 fun _ h30 => ?_
 have h31 := tk5 (sf4 (sf3 (sf4 (sf4 (sf4 h30)))))
 refine go [] <| cl1 Tryz.call28 ((by have h_ := wacq_ht b10 (acqS (acqS (aswS (wnew 1) [108, 111, 111, 102, 111]) 1 5) 1 5) 2 100; rw [show acqO (acqS (acqS (aswS (wnew 1) [108, 111, 111, 102, 111]) 1 5) 1 5) 2 100 = ((2, 0, 1) : Ky) from by kernel_rfl, show acqE (acqS (acqS (aswS (wnew 1) [108, 111, 111, 102, 111]) 1 5) 1 5) 2 100 = 0 from by kernel_rfl] at h_; exact h_)) h31 fun _ h33 => ?_
 refine go [] <| nP 32 [iV 0, iV 0, uV 0] h33 (fun _ _ h36 => ?_)
 refine sP [(0, iV 2), (1, iV 0), (2, uV 1)] [iV 2, iV 0, uV 1] h36 fun _ h38 => go [] <| dw (fls [0, 1, 2, 3, 4, 5, 6, 7] (Tr.an 8 (fls [9, 10, 11, 12, 13, 14, 15, 16, 17, 18, 19, 20, 21] (Tr.an 22 (fls [23, 24] Tr.nil))))) h38 fun _ h40 => go [rd 7 7 2 0 3 h40] <| cw0 Tryz.call47 (lfile_ht 0 1) h40 fun _ h42 => ⟨kd [rd 0 7 2 0 3 h42], ?_⟩
 refine lw (.bool false) (fun _ => q14e32_neq_t (x := (Operand.tmp 54)) (y := (Operand.tmp 55)) 1 0 1 1 0 1 (by kernel_rfl) (by kernel_rfl) (by kernel_rfl) ⟨rfl, rfl, rfl⟩ _) ?_
 have h43 := tk6 (sf5 (sf4 (sf5 (sf5 (sf5 (sf5 h42))))))
 refine go [rd 7 17 0 0 1 h42] <| cw1 Tryz.call29 ((by have h_ := wtick_ht b10 (acqS (acqS (acqS (aswS (wnew 1) [108, 111, 111, 102, 111]) 1 5) 1 5) 2 100) 7; rw [show tckE (acqS (acqS (acqS (aswS (wnew 1) [108, 111, 111, 102, 111]) 1 5) 1 5) 2 100) 7 = 0 from by kernel_rfl] at h_; exact h_)) h43 fun _ h45 => ⟨kd [], ?_⟩
 refine go [rd 9 1 2 0 3 h45] <| cl1 Tryz.call27 ((by have h_ := wrel_ht b10 (tckS (acqS (acqS (acqS (aswS (wnew 1) [108, 111, 111, 102, 111]) 1 5) 1 5) 2 100) 7) 1 0 1 1 (by omega) (by omega); rw [show relA (tckS (acqS (acqS (acqS (aswS (wnew 1) [108, 111, 111, 102, 111]) 1 5) 1 5) 2 100) 7) ((1, 0, 1) : Ky) 1 = 3 from by kernel_rfl, show relE (tckS (acqS (acqS (acqS (aswS (wnew 1) [108, 111, 111, 102, 111]) 1 5) 1 5) 2 100) 7) ((1, 0, 1) : Ky) 1 = 0 from by kernel_rfl] at h_; exact h_)) h45 fun _ h47 => ?_
 refine go [rd 10 1 2 0 3 h47] <| cl1 Tryz.call27 ((by have h_ := wrel_ht b10 (relS (tckS (acqS (acqS (acqS (aswS (wnew 1) [108, 111, 111, 102, 111]) 1 5) 1 5) 2 100) 7) ((1, 0, 1) : Ky) 1) 1 0 1 1 (by omega) (by omega); rw [show relA (relS (tckS (acqS (acqS (acqS (aswS (wnew 1) [108, 111, 111, 102, 111]) 1 5) 1 5) 2 100) 7) ((1, 0, 1) : Ky) 1) ((1, 0, 1) : Ky) 1 = 1 from by kernel_rfl, show relE (relS (tckS (acqS (acqS (acqS (aswS (wnew 1) [108, 111, 111, 102, 111]) 1 5) 1 5) 2 100) 7) ((1, 0, 1) : Ky) 1) ((1, 0, 1) : Ky) 1 = 0 from by kernel_rfl] at h_; exact h_)) h47 fun _ h49 => ?_
 refine go [rd 11 1 2 0 3 h49] <| cl1 Tryz.call27 ((by have h_ := wrel_ht b10 (relS (relS (tckS (acqS (acqS (acqS (aswS (wnew 1) [108, 111, 111, 102, 111]) 1 5) 1 5) 2 100) 7) ((1, 0, 1) : Ky) 1) ((1, 0, 1) : Ky) 1) 1 0 1 1 (by omega) (by omega); rw [show relA (relS (relS (tckS (acqS (acqS (acqS (aswS (wnew 1) [108, 111, 111, 102, 111]) 1 5) 1 5) 2 100) 7) ((1, 0, 1) : Ky) 1) ((1, 0, 1) : Ky) 1) ((1, 0, 1) : Ky) 1 = 0 from by kernel_rfl, show relE (relS (relS (tckS (acqS (acqS (acqS (aswS (wnew 1) [108, 111, 111, 102, 111]) 1 5) 1 5) 2 100) 7) ((1, 0, 1) : Ky) 1) ((1, 0, 1) : Ky) 1) ((1, 0, 1) : Ky) 1 = 5 from by kernel_rfl] at h_; exact h_)) h49 fun _ h51 => ?_
 refine go [] <| cl1 Tryz.call28 ((by have h_ := wacq_ht b10 (relS (relS (relS (tckS (acqS (acqS (acqS (aswS (wnew 1) [108, 111, 111, 102, 111]) 1 5) 1 5) 2 100) 7) ((1, 0, 1) : Ky) 1) ((1, 0, 1) : Ky) 1) ((1, 0, 1) : Ky) 1) 1 5; rw [show acqO (relS (relS (relS (tckS (acqS (acqS (acqS (aswS (wnew 1) [108, 111, 111, 102, 111]) 1 5) 1 5) 2 100) 7) ((1, 0, 1) : Ky) 1) ((1, 0, 1) : Ky) 1) ((1, 0, 1) : Ky) 1) 1 5 = ((1, 0, 2) : Ky) from by kernel_rfl, show acqE (relS (relS (relS (tckS (acqS (acqS (acqS (aswS (wnew 1) [108, 111, 111, 102, 111]) 1 5) 1 5) 2 100) 7) ((1, 0, 1) : Ky) 1) ((1, 0, 1) : Ky) 1) ((1, 0, 1) : Ky) 1) 1 5 = 0 from by kernel_rfl] at h_; exact h_)) h51 fun _ h53 => ?_
 refine go [] <| nP 32 [iV 0, iV 0, uV 0] h53 (fun _ _ h56 => ?_)
 refine sP [(0, iV 1), (1, iV 0), (2, uV 2)] [iV 1, iV 0, uV 2] h56 fun _ h58 => go [] <| dw (fls [0, 1, 2, 3, 4, 5, 6, 7, 8, 9, 10, 11, 12, 13, 14, 15, 16, 17, 18, 19, 20, 21, 22, 23] (Tr.an 24 (fls [25, 26, 27, 28] (Tr.an 29 (Tr.an 30 (fls [31, 32, 33, 34] (Tr.an 35 (fls [36, 37, 38] Tr.nil)))))))) h58 fun _ h60 => go [rd 13 23 0 0 3 h60] <| cw0 Tryz.call47 (lfile_ht 0 2) h60 fun _ h62 => ⟨kd [rd 0 23 0 0 3 h62], ?_⟩
 refine lw (.bool true) (fun _ => q14e32_eql_t (x := (Operand.tmp 118)) (y := (Operand.tmp 119)) 1 0 2 1 0 2 (by kernel_rfl) (by kernel_rfl) (by kernel_rfl) ⟨rfl, rfl, rfl⟩ _) ?_
 have h64 := tk7 (sf6 (sf5 (sf6 (sf6 (sf6 (sf6 (sf6 h62)))))))
 refine go [] <| cG Tryz.call17 (wledg_ht b10 (acqS (relS (relS (relS (tckS (acqS (acqS (acqS (aswS (wnew 1) [108, 111, 111, 102, 111]) 1 5) 1 5) 2 100) 7) ((1, 0, 1) : Ky) 1) ((1, 0, 1) : Ky) 1) ((1, 0, 1) : Ky) 1) 1 5)) h64 ?_
 rintro v K _ (⟨b63, rfl, rfl⟩) h66
 have h67 := ap2 h66
 refine ⟨kd [], ?_⟩
 refine cw1 Tryz.call23 ((by have h_ := lglen_ht b63 ((acqS (relS (relS (relS (tckS (acqS (acqS (acqS (aswS (wnew 1) [108, 111, 111, 102, 111]) 1 5) 1 5) 2 100) 7) ((1, 0, 1) : Ky) 1) ((1, 0, 1) : Ky) 1) ((1, 0, 1) : Ky) 1) 1 5).T); rw [show List.length ((acqS (relS (relS (relS (tckS (acqS (acqS (acqS (aswS (wnew 1) [108, 111, 111, 102, 111]) 1 5) 1 5) 2 100) 7) ((1, 0, 1) : Ky) 1) ((1, 0, 1) : Ky) 1) ((1, 0, 1) : Ky) 1) 1 5).T) = 2 from by kernel_rfl] at h_; exact h_)) (tk8 (sf7 (sf6 (sf7 (sf7 (sf7 (sf7 (sf7 (sf7 h67))))))))) fun _ h70 => ⟨kd [], ?_⟩
 have h71 := tk8 (sf7 (sf6 (sf7 (sf7 (sf7 (sf7 (sf7 (sf7 h70))))))))
 refine go [] <| cw1 Tryz.call20 ((by have h_ := wnow_ht b10 (acqS (relS (relS (relS (tckS (acqS (acqS (acqS (aswS (wnew 1) [108, 111, 111, 102, 111]) 1 5) 1 5) 2 100) 7) ((1, 0, 1) : Ky) 1) ((1, 0, 1) : Ky) 1) ((1, 0, 1) : Ky) 1) 1 5); rw [show Wst.now (acqS (relS (relS (relS (tckS (acqS (acqS (acqS (aswS (wnew 1) [108, 111, 111, 102, 111]) 1 5) 1 5) 2 100) 7) ((1, 0, 1) : Ky) 1) ((1, 0, 1) : Ky) 1) ((1, 0, 1) : Ky) 1) 1 5) = 7 from by kernel_rfl] at h_; exact h_)) h71 fun _ h73 => ⟨kd [], ?_⟩
 refine go [] ?_
 exact en (.bool true) [] ⟨_, _, rfl, ⟨rfl, rfl⟩, (tk2 (sf1 (sf7 (tk8 (sf7 (sf6 (sf6 (sf6 (sf6 (sf6 (sf6 (sf7 h73))))))))))))⟩

end Go.Proofs.YtggfnbpohmhphaaGreatDoor

/- Walks, printed by my generator o15.py. -/
namespace Go.Proofs.YtggfnbpohmhphaaGreatDoor
set_option maxHeartbeats 4000000 in
theorem short_ht (p : Option Addr) (n c : Nat) (L : List Sq) (X : Assn) (hX : Gv X p n (fl eSq L)) (hL : L.length = n) (hn : n ≤ 1099511627776) (m : Int) : HT Tryz.prog 11 [.slice p n c, iV m] [X] (fun v K => v = .bool (decide (Sho L m)) ∧ K = [X]) := by
 refine hiS Tryz.func11 Tryz.ntmps11 fun g w0 R h0 => go [.s 1 3] ?_
 by_cases c10 : (n : Int) > m
 ·
  refine go [.v 1 3 (oT ((n : Int) > m))] ?_
  exact en (.bool false) [] ⟨_, _, rfl, ⟨by rw [sho_no (by omega)], rfl⟩, h0⟩
 refine go [.v 1 3 (oF ((n : Int) > m))] ?_
 refine lpS (fun mz_ a w => ∃ i : Nat, ∃ lr : Fr, mz_ = n - i ∧ (i ≤ n) ∧ (∀ s ∈ L.take i, s.tx.length ≤ 40) ∧ a = mk 23 (([(0, .slice p n c), (5, iV (i : Int))] : Fr) ++ lr) ∧ sat g w [X, R]) (n - 0) ⟨0, _, rfl, (Nat.zero_le _), (fun _ hb_ => nomatch hb_), (lvF [.k 0 (.slice p n c), .o 5 (oJ .i64 0 (0 : Int))]), h0⟩ ?_
 rintro m12 a13 w14 ⟨i, lr11, rfl, hi, hs_, rfl, h15⟩
 refine ga <| go [.s 4 3] ?_
 by_cases c16 : (i : Int) < (n : Int)
 ·
  obtain ⟨b17, off19, hp18⟩ := gv_ptr (j := 0) h15 rfl hX (by omega)
  refine go [.v 4 3 (oT ((i : Int) < (n : Int))), .s 6 2] <| lwP (.pointer (some ⟨b17, off19 + i * 9, none⟩)) (law_indexSlP (x := (Operand.tmp 16)) (i := (Operand.tmp 17)) (p := p) (b := b17) (off := off19) (z := (i : Int)) (len := n) (cap := c) (by kernel_rfl) Tryz.underlying22 9 (by kernel_rfl) i (by kernel_rfl) hp18 (by kernel_rfl) (by omega) (by omega) (off19 + i * 9) (by omega) _) ?_
  obtain ⟨x20, hx21⟩ : ∃ x, L[i]? = some x := ⟨_, List.getElem?_eq_getElem (by rw [hL]; omega)⟩
  refine go [.r 6 4 b17 (off19 + i * 9 + 8) [.string (St x20.tx)] ⟨gv_cell (j := 0) h15 rfl hX hp18 (fl_get eSq_ok (j := 8) (v := .string (St x20.tx)) hx21 rfl) (off19 + i * 9 + 8) (by omega), trivial⟩, .v 6 5 (⟨iV ((St x20.tx).size : Int), iV (((x20.tx.length : Nat) : Int)), (ov_int (st_len _))⟩), .s 6 6] ?_
  by_cases c22 : ((x20.tx.length : Nat) : Int) > 40
  ·
   refine go [.v 6 6 (oT (((x20.tx.length : Nat) : Int) > 40))] <| up <| go [] ?_
   exact en (.bool false) [] ⟨_, _, rfl, ⟨by rw [sho_long hx21 (by omega)], rfl⟩, h15⟩
  refine go [.v 6 6 (oF (((x20.tx.length : Nat) : Int) > 40)), .v 5 1 (oIr ((i : Int) + 1))] ?_
  refine enL ?_
  change ∃ n', n' < _ ∧ _
  refine ⟨(n - (i + 1)), by omega, (i + 1), _, rfl, (by omega), (tk_all2 hs_ hx21 (by omega)), (lvF [.k 0 (.slice p n c), .o 5 (oJ .i64 ((i : Int) + 1) ((((i + 1) : Nat) : Int)))]), h15⟩
 refine go [.v 4 3 (oF ((i : Int) < (n : Int)))] <| up <| go [] ?_
 exact en (.bool true) [] ⟨_, _, rfl, ⟨by rw [sho_yes (by omega) hs_ (by omega)], rfl⟩, h15⟩

set_option maxHeartbeats 4000000 in
theorem short_no (p : Option Addr) (n c : Nat) (m : Int) (hm : m < (n : Int)) : HT Tryz.prog 11 [.slice p n c, iV m] [] (fun v K => v = .bool false ∧ K = []) := by
 refine hiS Tryz.func11 Tryz.ntmps11 fun g w0 R h0 => go [.v 1 3 (oT ((n : Int) > m))] ?_
 exact en (.bool false) [] ⟨_, _, rfl, ⟨rfl, rfl⟩, h0⟩

set_option maxHeartbeats 4000000 in
theorem do_ht (wo : World) (hg : Lett wo) (b : Nat) (S : Wst) (s : Sq) (hs : SqOk s) (hz0 : 0 ≤ s.o.2.2) (hz1 : s.o.2.2 ≤ 4294967295) (ht : s.tx.length ≤ 40) : HT Tryz.prog 14 [pV b, .agg #[iV s.d, iV s.k, iV s.a, iV s.o.1, iV s.o.2.1, uV s.o.2.2, iV s.wy, iV s.tk, .string (St s.tx)]] [Wd b S, Old wo] (fun v K => v = .tuple #[.agg #[iV (doO S s).1, iV (doO S s).2.1, uV (doO S s).2.2], .bool (doB S s)] ∧ K = [Wd b (doS S s), Old wo]) := by
 refine hiS Tryz.func14 Tryz.ntmps14 fun g w0 R h0 => go [] <| nP 36 [iV s.d, iV s.k, iV s.a, iV s.o.1, iV s.o.2.1, uV s.o.2.2, iV s.wy, iV s.tk, .string (St s.tx)] h0 (fun _ _ h12 => ?_)
 refine nP 32 [iV 0, iV 0, uV 0] h12 (fun _ _ h15 => ?_)
 refine go [rd 1 1 1 0 1 h15, .s 2 0] ?_
 by_cases c16 : s.d = 0
 ·
  have h17 := tk5 (sf4 (sf3 (sf3 (sf4 (sf4 h15)))))
  refine go [.v 2 0 (qeT s.d 0), rd 3 2 1 1 1 h15, rd 3 4 1 2 1 h15] <| cl1 Tryz.call28 (wacq_ht b S s.k s.a) h17 fun _ h19 => go [] <| nP 32 [iV 0, iV 0, uV 0] h19 (fun _ _ h22 => ?_)
  refine sP [(0, iV ((acqO S s.k s.a).1)), (1, iV ((acqO S s.k s.a).2.1)), (2, uV ((acqO S s.k s.a).2.2))] [iV ((acqO S s.k s.a).1), iV ((acqO S s.k s.a).2.1), uV ((acqO S s.k s.a).2.2)] h22 fun _ h24 => go [rd 4 0 0 0 3 h24, .s 4 2] ?_
  by_cases c25 : (acqE S s.k s.a) = 0
  ·
   have h26 := tk6 (sf5 (sf4 (sf4 (sf5 (sf5 (sf5 h24))))))
   refine go [.v 4 2 (qeT ((acqE S s.k s.a)) 0)] <| sP [(0, iV ((acqO S s.k s.a).1)), (1, iV ((acqO S s.k s.a).2.1)), (2, uV ((acqO S s.k s.a).2.2))] [iV ((acqO S s.k s.a).1), iV ((acqO S s.k s.a).2.1), uV ((acqO S s.k s.a).2.2)] h26 fun _ h28 => go [] ?_
   have hd_ := do0 (S := S) (s := s) (by omega)
   exact en (.tuple #[.agg #[iV ((acqO S s.k s.a).1), iV ((acqO S s.k s.a).2.1), uV ((acqO S s.k s.a).2.2)], .bool true]) [rd 0 0 0 0 3 h28] ⟨_, [Wd b (acqS S s.k s.a), Old wo], rfl, ⟨by rw [hd_.2.1, hd_.2.2, decide_eq_true (by omega : acqE S s.k s.a = 0)], by rw [hd_.1]⟩, (tk3 (sf2 (sf2 (sf5 (tk6 (sf5 (sf5 (sf3 (sf3 (sf4 (sf5 h28)))))))))))⟩
  have h31 := tk6 (sf5 (sf4 (sf4 (sf5 (sf5 (sf5 h24))))))
  refine go [.v 4 2 (qeF ((acqE S s.k s.a)) 0)] <| sP [(0, iV ((acqO S s.k s.a).1)), (1, iV ((acqO S s.k s.a).2.1)), (2, uV ((acqO S s.k s.a).2.2))] [iV ((acqO S s.k s.a).1), iV ((acqO S s.k s.a).2.1), uV ((acqO S s.k s.a).2.2)] h31 fun _ h33 => go [] ?_
  have hd_ := do0 (S := S) (s := s) (by omega)
  exact en (.tuple #[.agg #[iV ((acqO S s.k s.a).1), iV ((acqO S s.k s.a).2.1), uV ((acqO S s.k s.a).2.2)], .bool false]) [rd 0 0 0 0 3 h33] ⟨_, [Wd b (acqS S s.k s.a), Old wo], rfl, ⟨by rw [hd_.2.1, hd_.2.2, decide_eq_false (by omega : ¬ acqE S s.k s.a = 0)], by rw [hd_.1]⟩, (tk3 (sf2 (sf2 (sf5 (tk6 (sf5 (sf5 (sf3 (sf3 (sf4 (sf5 h33)))))))))))⟩
 refine go [.v 2 0 (qeF s.d 0), .s 5 0] ?_
 by_cases c36 : s.d = 1
 ·
  have h37 := tk5 (sf4 (sf3 (sf3 (sf4 (sf4 h15)))))
  refine go [.v 5 0 (qeT s.d 1), rd 6 2 1 3 3 h15, rd 6 4 1 6 1 h15] <| cl1 Tryz.call27 (wrel_ht b S s.o.1 s.o.2.1 s.o.2.2 s.wy (by omega) (by omega)) h37 fun _ h39 => ?_
  have h40 := tk5 (sf4 (sf3 (sf4 (sf4 (sf4 h39)))))
  refine go [] <| sP [(0, iV 0), (1, iV 0), (2, uV 0)] [iV 0, iV 0, uV 0] h40 fun _ h42 => go [] ?_
  have hd_ := don (S := S) (s := s) (by omega)
  have hs_ := do1 (S := S) (s := s) (by omega)
  exact en (.tuple #[.agg #[iV 0, iV 0, uV 0], .bool false]) [rd 0 0 0 0 3 h42] ⟨_, [Wd b (relS S ((s.o.1, s.o.2.1, s.o.2.2) : Ky) s.wy), Old wo], rfl, ⟨by rw [hd_.1, hd_.2], by rw [hs_]⟩, (tk3 (sf2 (sf2 (sf4 (tk5 (sf4 (sf4 (sf2 (sf3 (sf4 h42))))))))))⟩
 refine go [.v 5 0 (qeF s.d 1), .s 7 0] ?_
 by_cases c45 : s.d = 2
 ·
  have h46 := tk5 (sf4 (sf3 (sf3 (sf4 (sf4 h15)))))
  refine go [.v 7 0 (qeT s.d 2), rd 8 2 1 3 3 h15, rd 8 4 1 7 1 h15] <| cl1 Tryz.call25 (wrenew_ht b S s.o.1 s.o.2.1 s.o.2.2 s.tk (by omega) (by omega)) h46 fun _ h48 => ?_
  have h49 := tk5 (sf4 (sf3 (sf4 (sf4 (sf4 h48)))))
  refine go [] <| sP [(0, iV 0), (1, iV 0), (2, uV 0)] [iV 0, iV 0, uV 0] h49 fun _ h51 => go [] ?_
  have hd_ := don (S := S) (s := s) (by omega)
  have hs_ := do2 (S := S) (s := s) (by omega)
  exact en (.tuple #[.agg #[iV 0, iV 0, uV 0], .bool false]) [rd 0 0 0 0 3 h51] ⟨_, [Wd b (renS S ((s.o.1, s.o.2.1, s.o.2.2) : Ky) s.tk), Old wo], rfl, ⟨by rw [hd_.1, hd_.2], by rw [hs_]⟩, (tk3 (sf2 (sf2 (sf4 (tk5 (sf4 (sf4 (sf2 (sf3 (sf4 h51))))))))))⟩
 refine go [.v 7 0 (qeF s.d 2), .s 9 0] ?_
 by_cases c54 : s.d = 3
 ·
  have h55 := tk5 (sf4 (sf3 (sf3 (sf4 (sf4 h15)))))
  refine go [.v 9 0 (qeT s.d 3), rd 10 2 1 7 1 h15] <| cl1 Tryz.call29 (wtick_ht b S s.tk) h55 fun _ h57 => ?_
  have h58 := tk5 (sf4 (sf3 (sf4 (sf4 (sf4 h57)))))
  refine go [] <| sP [(0, iV 0), (1, iV 0), (2, uV 0)] [iV 0, iV 0, uV 0] h58 fun _ h60 => go [] ?_
  have hd_ := don (S := S) (s := s) (by omega)
  have hs_ := do3 (S := S) (s := s) (by omega)
  exact en (.tuple #[.agg #[iV 0, iV 0, uV 0], .bool false]) [rd 0 0 0 0 3 h60] ⟨_, [Wd b (tckS S s.tk), Old wo], rfl, ⟨by rw [hd_.1, hd_.2], by rw [hs_]⟩, (tk3 (sf2 (sf2 (sf4 (tk5 (sf4 (sf4 (sf2 (sf3 (sf4 h60))))))))))⟩
 refine go [.v 9 0 (qeF s.d 3), .s 11 0] ?_
 by_cases c63 : s.d = 4
 ·
  have h64 := tk5 (sf4 (sf4 (sf2 (sf2 (sf4 h15)))))
  refine go [.v 11 0 (qeT s.d 4), rd 12 2 1 8 1 h15] <| cl2 Tryz.call30 (wansw_ht wo hg b S s.tx (by omega)) h64 fun _ h66 => ?_
  have h67 := tk5 (sf4 (sf3 (sf3 (sf4 (sf4 h66)))))
  refine go [] <| sP [(0, iV 0), (1, iV 0), (2, uV 0)] [iV 0, iV 0, uV 0] h67 fun _ h69 => go [] ?_
  have hd_ := don (S := S) (s := s) (by omega)
  have hs_ := do4 (S := S) (s := s) (by omega)
  exact en (.tuple #[.agg #[iV 0, iV 0, uV 0], .bool false]) [rd 0 0 0 0 3 h69] ⟨_, [Wd b (aswS S s.tx), Old wo], rfl, ⟨by rw [hd_.1, hd_.2], by rw [hs_]⟩, (tk3 (sf2 (sf2 (sf4 (tk5 (sf4 (sf4 (sf2 (sf4 (sf4 h69))))))))))⟩
 refine go [.v 11 0 (qeF s.d 4)] <| sP [(0, iV 0), (1, iV 0), (2, uV 0)] [iV 0, iV 0, uV 0] h15 fun _ h73 => go [] ?_
 have hd_ := don (S := S) (s := s) (by omega)
 have hs_ := do5 (S := S) (s := s) ⟨by omega, by omega, by omega, by omega, by omega⟩
 exact en (.tuple #[.agg #[iV 0, iV 0, uV 0], .bool false]) [rd 0 0 0 0 3 h73] ⟨_, [Wd b S, Old wo], rfl, ⟨by rw [hd_.1, hd_.2], by rw [hs_]⟩, (tk3 (sf2 (sf2 (sf4 (tk5 (sf4 (sf4 (sf2 (sf2 (sf4 h73))))))))))⟩

end Go.Proofs.YtggfnbpohmhphaaGreatDoor

/- Walks, printed by my generator o16.py. -/
namespace Go.Proofs.YtggfnbpohmhphaaGreatDoor
end Go.Proofs.YtggfnbpohmhphaaGreatDoor

/-
  What steps do to what is there, to the attempts and to the time. No program in sight.
-/
namespace Go.Proofs.YtggfnbpohmhphaaGreatDoor
theorem inS_cnt : ∀ (A : List Sl2) (k : Nat), (inS 1 A k).length = A.countP (fun s => decide (s.1 = 1))
  | [], _ => rfl
  | s :: A, k => by
    have := inS_cnt A (k + 1)
    unfold inS
    by_cases hs : s.1 = 1
    · rw [if_pos hs, List.length_cons, this, List.countP_cons_of_pos (by simpa using hs)]
    · rw [if_neg hs, this, List.countP_cons_of_neg (by simpa using hs)]
def nT (X : Xs) : Nat := (inS 1 (As X) 0).length
section
variable {X : Xs} {S : Wst} {s : Sq} {o o' : Ky} {k a y t : Int}
theorem nT_set {i : Nat} {u : Sl2} {x : Fl} (h : (As X)[i]? = some u) : nT (X.set i x) = nT X - (if u.1 = 1 then 1 else 0) + (if x.1 = 1 then 1 else 0) := by
  obtain ⟨hi, hu⟩ := List.getElem?_eq_some_iff.1 h
  unfold nT
  rw [inS_cnt, inS_cnt, as_set, List.countP_set (h := hi), hu]
  simp only [decide_eq_true_eq]
theorem nT_pos {i : Nat} {g : Int} (h : (As X)[i]? = some (1, g)) : 1 ≤ nT X := by
  unfold nT
  rw [inS_cnt]
  exact List.countP_pos_iff.2 ⟨_, List.mem_of_getElem? h, by simp⟩
theorem fre_as {i : Nat} {g : Int} (h : fre X = some (i, g)) : (As X)[i]? = some (0, g) := by
  obtain ⟨v, hv⟩ := fre_some h
  exact as_get hv
theorem nT_grw {v : Int} (h : fre X ≠ none) : nT (grw X v) = nT X + 1 := by
  unfold grw
  split
  · rename_i h2; exact absurd h2 h
  · rename_i i g hf
    rw [nT_set (fre_as hf), if_neg (by show ¬ (0 : Int) = 1; decide), if_pos (by rfl)]
    omega
theorem nT_giv (h : (As X)[o.2.1.toNat]? = some (1, o.2.2)) : nT (giv X o) + 1 = nT X := by
  have h1 := nT_pos h
  unfold giv
  rw [nT_set h, if_pos rfl, if_neg (shut_st _)]
  omega
theorem all_len (S : Wst) : (allS S).length = nT S.F + (nT S.B + nT S.D) := by
  unfold allS nT
  rw [List.length_append, List.length_append, allK_len, allK_len, allK_len]
theorem tab_put (S : Wst) (X : Xs) {k k' : Int} (hk : k = 1 ∨ k = 2 ∨ k = 3) (hk' : k' = 1 ∨ k' = 2 ∨ k' = 3) : (S.put k X).tab k' = if k' = k then X else S.tab k' := by
  rcases hk with rfl | rfl | rfl <;> rcases hk' with rfl | rfl | rfl <;> rfl
theorem put_T (S : Wst) (X : Xs) (k : Int) : (S.put k X).T = S.T ∧ (S.put k X).now = S.now ∧ (S.put k X).q = S.q := by
  unfold Wst.put
  split
  · exact ⟨rfl, rfl, rfl⟩
  · split <;> exact ⟨rfl, rfl, rfl⟩
theorem put_len (hk : k = 1 ∨ k = 2 ∨ k = 3) : (allS (S.put k X)).length + nT (S.tab k) = (allS S).length + nT X := by
  rw [all_len, all_len]
  rcases hk with rfl | rfl | rfl
  · rw [put1, tab1]; show nT X + (nT S.B + nT S.D) + nT S.F = _; omega
  · rw [put2, tab2]; show nT S.F + (nT X + nT S.D) + nT S.B = _; omega
  · rw [put3, tab3]; show nT S.F + (nT S.B + nT X) + nT S.D = _; omega
/-- Acquiring. -/
theorem acq_zero (h : acqE S k a = 0) : godP k a ∧ grwE S k a = 0 ∧ fre (S.tab k) ≠ none := by
  unfold acqE at h
  split at h
  · exact absurd h (by decide)
  · rename_i h1
    split at h
    · exact absurd h ‹_›
    · rename_i h2
      have hg := Decidable.not_not.1 h2
      refine ⟨Decidable.not_not.1 h1, hg, fun hf => ?_⟩
      unfold grwE at hg
      split at hg
      · exact absurd hg (by decide)
      · split at hg
        · exact absurd hg (by decide)
        · first
            | exact absurd hg (by decide)
            | exact absurd ((if_pos hf).symm.trans hg) (by decide)
theorem acq_S (h : acqE S k a = 0) : acqS S k a = ({ S with q := S.q.tail } : Wst).put k (grw (S.tab k) (valO S k a)) := by
  obtain ⟨h1, h2, _⟩ := acq_zero h
  unfold acqS
  rw [if_neg (by rintro (q | q); exact q h1; exact q h2), if_pos h]
theorem acq_keep (h : acqE S k a ≠ 0) : acqS S k a = S ∨ acqS S k a = { S with q := S.q.tail } := by
  unfold acqS
  split
  · exact .inl rfl
  · first
      | exact .inr rfl
      | (rw [if_neg h]; exact .inr rfl)
theorem acq_len (h : acqE S k a = 0) : (allS (acqS S k a)).length = (allS S).length + 1 := by
  obtain ⟨h1, _, h3⟩ := acq_zero h
  have h4 := put_len (S := ({ S with q := S.q.tail } : Wst)) (X := grw (S.tab k) (valO S k a)) (godP_k h1)
  rw [← acq_S h] at h4
  have h5 := nT_grw (v := valO S k a) h3
  have h6 : nT (({ S with q := S.q.tail } : Wst).tab k) = nT (S.tab k) := rfl
  have h7 : (allS ({ S with q := S.q.tail } : Wst)).length = (allS S).length := rfl
  omega
theorem acq_T : (acqS S k a).T = S.T ∧ (acqS S k a).now = S.now := by
  unfold acqS
  split
  · exact ⟨rfl, rfl⟩
  · split
    · have := put_T ({ S with q := S.q.tail } : Wst) (grw (S.tab k) (valO S k a)) k
      exact ⟨this.1, this.2.1⟩
    · exact ⟨rfl, rfl⟩
theorem acq_nm (h : acqE S k a = 0) : ∃ i g, fre (S.tab k) = some (i, g) ∧ acqO S k a = (k, (i : Int), g) ∧ i < (S.tab k).length := by
  obtain ⟨_, _, h3⟩ := acq_zero h
  cases hf : fre (S.tab k) with
  | none => exact absurd hf h3
  | some r =>
    obtain ⟨i, g⟩ := r
    refine ⟨i, g, rfl, ?_, ?_⟩
    · unfold acqO nam; rw [if_pos h, hf]
    · have := (List.getElem?_eq_some_iff.1 (fre_as hf)).1; rwa [as_len] at this
theorem tab_len (h : WOk S) (k : Int) : (S.tab k).length = 64 := by
  unfold Wst.tab
  split
  · exact h.fl
  · split
    · exact h.bl
    · exact h.dl
theorem tab_ok (h : WOk S) (k : Int) : Sok (As (S.tab k)) := by
  unfold Wst.tab
  split
  · exact h.fk
  · split
    · exact h.bk
    · exact h.dk
theorem acq_tab (h : acqE S k a = 0) {k' : Int} (hk' : k' = 1 ∨ k' = 2 ∨ k' = 3) : (acqS S k a).tab k' = if k' = k then grw (S.tab k) (valO S k a) else S.tab k' := by
  rw [acq_S h, tab_put _ _ (godP_k (acq_zero h).1) hk']
  rfl
theorem acq_thr (hW : WOk S) (h : acqE S k a = 0) : Thr (acqS S k a) (acqO S k a) ∧ (acqO S k a).1 = k := by
  obtain ⟨i, g, hf, ho, hi⟩ := acq_nm h
  have h1 := godP_k (acq_zero h).1
  rw [ho]
  have hl := tab_len hW k
  have hg := (tab_ok hW k) _ (List.mem_of_getElem? (fre_as hf))
  refine ⟨⟨⟨by show 1 ≤ k; omega, by show k ≤ 3; omega, by show (0 : Int) ≤ (i : Int); omega, by show (i : Int) ≤ 63; omega, hg.2.2.1⟩, ?_⟩, rfl⟩
  show (As ((acqS S k a).tab k))[((i : Int)).toNat]? = some (1, g)
  rw [acq_tab h h1, if_pos rfl, Int.toNat_natCast]
  unfold grw
  rw [hf]
  show (As ((S.tab k).set i (1, g, valO S k a)))[i]? = _
  rw [as_set, List.getElem?_set_self (by rw [as_len]; exact hi)]
/-- Releasing. -/
theorem rel_keep (h : relE S o y ≠ 0) : relS S o y = S := if_pos h
theorem rel_T (h : relE S o y = 0) : (relS S o y).T = S.T ++ [⟨S.now, o, y, relA S o y⟩] ∧ (relS S o y).now = S.now := by
  have e : relA S o y = S.q.headD 1 := if_pos h
  unfold relS
  rw [if_neg (by rw [h]; decide), e]
  split
  · have := put_T ({ S with q := S.q.tail, T := S.T ++ [⟨S.now, o, y, S.q.headD 1⟩] } : Wst) (giv (S.tab o.1) o) o.1
    exact ⟨this.1, this.2.1⟩
  · exact ⟨rfl, rfl⟩
theorem rel_tab (h : relE S o y = 0) {k' : Int} (hk' : k' = 1 ∨ k' = 2 ∨ k' = 3) : (relS S o y).tab k' = if relA S o y = 1 ∧ k' = o.1 then giv (S.tab o.1) o else S.tab k' := by
  have e : relA S o y = S.q.headD 1 := if_pos h
  unfold relS
  rw [if_neg (by rw [h]; decide), e]
  by_cases h1 : S.q.headD 1 = 1
  · rw [if_pos h1, tab_put _ _ (kgood_k (rel_zero h).1) hk']
    by_cases h2 : k' = o.1
    · rw [if_pos h2, if_pos ⟨h1, h2⟩]
    · rw [if_neg h2, if_neg (fun q => h2 q.2)]; rfl
  · rw [if_neg h1, if_neg (fun q => h1 q.1)]; rfl
theorem rel_len : (allS (relS S o y)).length ≤ (allS S).length := by
  by_cases h : relE S o y = 0
  · obtain ⟨h1, _, _, h4, _⟩ := rel_zero h
    unfold relS
    rw [if_neg (by rw [h]; decide)]
    split
    · have h5 := put_len (S := ({ S with q := S.q.tail, T := S.T ++ [⟨S.now, o, y, S.q.headD 1⟩] } : Wst)) (X := giv (S.tab o.1) o) (kgood_k h1)
      have h6 := nT_giv h4.2
      have h7 : nT (({ S with q := S.q.tail, T := S.T ++ [⟨S.now, o, y, S.q.headD 1⟩] } : Wst).tab o.1) = nT (S.tab o.1) := rfl
      have h8 : (allS ({ S with q := S.q.tail, T := S.T ++ [⟨S.now, o, y, S.q.headD 1⟩] } : Wst)).length = (allS S).length := rfl
      omega
    · exact Nat.le_refl _
  · rw [rel_keep h]; exact Nat.le_refl _
/-- Renewing. -/
theorem ren_as (S : Wst) (o : Ky) (t k : Int) : As ((renS S o t).tab k) = As (S.tab k) := by
  unfold renS
  split
  · rename_i he
    obtain ⟨_, _, _, h2, h3, _, _⟩ := ren_zero he
    have h4 := h3.2
    rw [h2, tab3] at h4
    unfold Wst.tab
    split
    · rfl
    · split
      · rfl
      · show As (S.D.set o.2.1.toNat (1, o.2.2, S.now + t)) = As S.D
        rw [as_set]
        apply List.ext_getElem?
        intro i
        rw [List.getElem?_set]
        split
        · rename_i hi
          subst hi
          rw [if_pos (List.getElem?_eq_some_iff.1 h4).1, h4]
        · rfl
  · rfl
theorem ren_T (S : Wst) (o : Ky) (t : Int) : (renS S o t).T = S.T ∧ (renS S o t).now = S.now ∧ (renS S o t).q = S.q := by
  unfold renS
  split <;> exact ⟨rfl, rfl, rfl⟩
theorem all_as {S' : Wst} (h : ∀ k, As (S'.tab k) = As (S.tab k)) : allS S' = allS S := by
  have h1 := h 1
  have h2 := h 2
  have h3 := h 3
  rw [tab1, tab1] at h1
  rw [tab2, tab2] at h2
  rw [tab3, tab3] at h3
  unfold allS allK
  rw [h1, h2, h3]
theorem thr_as {S' : Wst} (h : ∀ k, As (S'.tab k) = As (S.tab k)) (o : Ky) : Thr S' o ↔ Thr S o := by
  unfold Thr
  rw [h]
theorem tck_as (S : Wst) (t k : Int) : As ((tckS S t).tab k) = As (S.tab k) := by
  unfold tckS
  split <;> rfl
theorem tck_T (S : Wst) (t : Int) : (tckS S t).T = S.T := by
  unfold tckS
  split <;> rfl
theorem ky_cs {a b : Ky} (h : a = b) : a.1 = b.1 ∧ a.2.1 = b.2.1 ∧ a.2.2 = b.2.2 := by rw [h]; exact ⟨rfl, rfl, rfl⟩
theorem wok_mds (h : WOk S) (L : List Sq) : ∀ i, WOk (mdS S L i) := fun i => by
  unfold mdS
  generalize L.take i = M
  induction M generalizing S with
  | nil => exact h
  | cons x M ih => exact ih (wok_do h x)
end
end Go.Proofs.YtggfnbpohmhphaaGreatDoor

/-
  Answers that are added, acquisitions with them, and a release. No program in sight.
-/
namespace Go.Proofs.YtggfnbpohmhphaaGreatDoor
section
variable {S : Wst} {o : Ky} {k a y : Int} {q : List Int}
theorem thr_gen (hW : WOk S) (h : Thr S o) : 0 ≤ o.2.2 ∧ o.2.2 ≤ 4294967295 := by
  have := (tab_ok hW o.1) _ (List.mem_of_getElem? h.2)
  exact ⟨by have h1 : 1 ≤ o.2.2 := this.2.2.1; omega, this.2.2.2⟩
end
end Go.Proofs.YtggfnbpohmhphaaGreatDoor

/-
  What was released is never there again. No program in sight.
-/
namespace Go.Proofs.YtggfnbpohmhphaaGreatDoor
/-- The slot of a name has gone on. -/
def Ded (S : Wst) (o : Ky) : Prop := ∃ e g, (As (S.tab o.1))[o.2.1.toNat]? = some (e, g) ∧ (o.2.2 < g ∨ (o.2.2 = g ∧ e = 2))
structure Onc (S : Wst) (G : List Ky) : Prop where
  gd : ∀ o ∈ G, KGood o ∧ (Thr S o ∨ ∃ a ∈ S.T, a.out = o ∧ a.ans = 1)
  tk : ∀ a ∈ S.T, KGood a.out
  td : ∀ a ∈ S.T, a.ans = 1 → Ded S a.out
  pw : ∀ (i k : Nat) (a b : At), k < i → S.T[k]? = some a → S.T[i]? = some b → a.out = b.out → a.ans ≠ 1
  ln : (allS S).length ≤ G.length
section
variable {S S' : Wst} {G : List Ky} {s : Sq} {o o' : Ky} {k a y t : Int}
theorem ded_no (h : Ded S o) : ¬ Thr S o := fun q => by
  obtain ⟨e, g, h1, h2⟩ := h
  have h3 := q.2
  rw [h1] at h3
  have h4 := Option.some.inj h3
  simp only [Prod.mk.injEq] at h4
  omega
theorem ded_bd (hW : WOk S) (h : Ded S o) (hk : KGood o) : 0 ≤ o.2.2 ∧ o.2.2 ≤ 4294967295 := by
  obtain ⟨e, g, h1, h2⟩ := h
  have h3 : 0 ≤ e ∧ e ≤ 2 ∧ 1 ≤ g ∧ g ≤ 4294967295 := (tab_ok hW o.1) _ (List.mem_of_getElem? h1)
  have h4 := hk.2.2.2.2
  omega
theorem onc_as (h : Onc S G) (ha : ∀ k, As (S'.tab k) = As (S.tab k)) (hT : S'.T = S.T) : Onc S' G where
  gd o ho := by
    obtain ⟨h1, h2⟩ := h.gd o ho
    rw [hT]
    exact ⟨h1, h2.imp (fun q => (thr_as ha o).2 q) id⟩
  tk b hb := h.tk b (hT ▸ hb)
  td b hb e := by
    obtain ⟨e1, g, h1, h2⟩ := h.td b (hT ▸ hb) e
    exact ⟨e1, g, by rw [ha]; exact h1, h2⟩
  pw i k b c hk hb hc := h.pw i k b c hk (hT ▸ hb) (hT ▸ hc)
  ln := by rw [all_as ha]; exact h.ln
theorem acq_at {i : Nat} {g : Int} (h : acqE S k a = 0) (hf : fre (S.tab k) = some (i, g)) {k' : Int} (hk : k' = 1 ∨ k' = 2 ∨ k' = 3) (j : Nat) : (As ((acqS S k a).tab k'))[j]? = if k' = k ∧ j = i then some (1, g) else (As (S.tab k'))[j]? := by
  rw [acq_tab h hk]
  by_cases h1 : k' = k
  · subst h1
    rw [if_pos rfl]
    have e : grw (S.tab k') (valO S k' a) = (S.tab k').set i (1, g, valO S k' a) := by unfold grw; rw [hf]
    have hi := (List.getElem?_eq_some_iff.1 (fre_as hf)).1
    rw [e, as_set, List.getElem?_set]
    by_cases h2 : j = i
    · subst h2
      rw [if_pos rfl, if_pos hi, if_pos ⟨rfl, rfl⟩]
    · rw [if_neg (fun q => h2 q.symm), if_neg (fun q => h2 q.2)]
  · rw [if_neg h1, if_neg (fun q => h1 q.1)]
theorem rel_ats (h : relE S o y = 0) {k' : Int} (hk : k' = 1 ∨ k' = 2 ∨ k' = 3) (j : Nat) : (As ((relS S o y).tab k'))[j]? = if relA S o y = 1 ∧ k' = o.1 ∧ j = o.2.1.toNat then some ((shut o.2.2).1, (shut o.2.2).2.1) else (As (S.tab k'))[j]? := by
  rw [rel_tab h hk]
  by_cases h1 : relA S o y = 1 ∧ k' = o.1
  · obtain ⟨h1a, rfl⟩ := h1
    rw [if_pos ⟨h1a, rfl⟩]
    have hi := (List.getElem?_eq_some_iff.1 (rel_zero h).2.2.2.1.2).1
    unfold giv
    rw [as_set, List.getElem?_set]
    by_cases h2 : j = o.2.1.toNat
    · subst h2
      rw [if_pos rfl, if_pos hi, if_pos ⟨h1a, rfl, rfl⟩]
    · rw [if_neg (fun q => h2 q.symm), if_neg (fun q => h2 q.2.2)]
  · rw [if_neg h1, if_neg (fun q => h1 ⟨q.1, q.2.1⟩)]
theorem ded_acq (h : acqE S k a = 0) (hk : KGood o) (hd : Ded S o) : Ded (acqS S k a) o := by
  obtain ⟨i, g, hf, _, _⟩ := acq_nm h
  obtain ⟨e, g', h1, h2⟩ := hd
  unfold Ded
  rw [acq_at h hf (kgood_k hk)]
  by_cases hc : o.1 = k ∧ o.2.1.toNat = i
  · rw [if_pos hc]
    refine ⟨1, g, rfl, ?_⟩
    rw [hc.1, hc.2, fre_as hf] at h1
    have := Option.some.inj h1
    simp only [Prod.mk.injEq] at this
    omega
  · rw [if_neg hc]; exact ⟨e, g', h1, h2⟩
theorem thr_acq (h : acqE S k a = 0) (hT : Thr S o) : Thr (acqS S k a) o := by
  obtain ⟨i, g, hf, _, _⟩ := acq_nm h
  refine ⟨hT.1, ?_⟩
  rw [acq_at h hf (kgood_k hT.1)]
  by_cases hc : o.1 = k ∧ o.2.1.toNat = i
  · have h1 := hT.2
    rw [hc.1, hc.2, fre_as hf] at h1
    have := Option.some.inj h1
    simp only [Prod.mk.injEq] at this
    omega
  · rw [if_neg hc]; exact hT.2
theorem onc_new (h : Onc S G) (he : acqE S k a = 0) (hm : acqO S k a ∈ G) : False := by
  obtain ⟨i, g, hf, ho, _⟩ := acq_nm he
  have hs := fre_as hf
  obtain ⟨_, h2⟩ := h.gd _ hm
  rw [ho] at h2
  rcases h2 with h2 | ⟨b, hb, hb1, hb2⟩
  · have h3 : (As (S.tab k))[((i : Nat) : Int).toNat]? = some (1, g) := h2.2
    rw [Int.toNat_natCast, hs] at h3
    have := Option.some.inj h3
    simp only [Prod.mk.injEq] at this
    omega
  · obtain ⟨e, g', h3, h4⟩ := h.td b hb hb2
    rw [hb1] at h3 h4
    have h5 : (As (S.tab k))[((i : Nat) : Int).toNat]? = some (e, g') := h3
    have h6 : g < g' ∨ (g = g' ∧ e = 2) := h4
    rw [Int.toNat_natCast, hs] at h5
    have := Option.some.inj h5
    simp only [Prod.mk.injEq] at this
    omega
theorem onc_acq (hW : WOk S) (h : Onc S G) (he : acqE S k a = 0) : Onc (acqS S k a) (G ++ [acqO S k a]) where
  gd b hb := by
    rw [acq_T.1]
    rcases List.mem_append.1 hb with hb | hb
    · obtain ⟨h1, h2⟩ := h.gd b hb
      exact ⟨h1, h2.imp (thr_acq he) id⟩
    · rw [List.mem_singleton.1 hb]
      have := (acq_thr hW he).1
      exact ⟨this.1, .inl this⟩
  tk b hb := h.tk b (acq_T.1 ▸ hb)
  td b hb e := ded_acq he (h.tk b (acq_T.1 ▸ hb)) (h.td b (acq_T.1 ▸ hb) e)
  pw i k b c hk hb hc := h.pw i k b c hk (acq_T.1 ▸ hb) (acq_T.1 ▸ hc)
  ln := by
    have := h.ln
    rw [acq_len he, List.length_append, List.length_singleton]
    omega
theorem ded_rel (h : relE S o y = 0) (hk : KGood o') (hd : Ded S o') : Ded (relS S o y) o' := by
  obtain ⟨e, g', h1, h2⟩ := hd
  unfold Ded
  rw [rel_ats h (kgood_k hk)]
  by_cases hc : relA S o y = 1 ∧ o'.1 = o.1 ∧ o'.2.1.toNat = o.2.1.toNat
  · rw [if_pos hc]
    refine ⟨_, _, rfl, ?_⟩
    have h3 := (rel_zero h).2.2.2.1.2
    rw [hc.2.1, hc.2.2, h3] at h1
    have := Option.some.inj h1
    simp only [Prod.mk.injEq] at this
    unfold shut
    split
    · show _ < o.2.2 + 1 ∨ _; omega
    · show _ < o.2.2 ∨ _; omega
  · rw [if_neg hc]; exact ⟨e, g', h1, h2⟩
theorem ded_self (h : relE S o y = 0) (ha : relA S o y = 1) : Ded (relS S o y) o := by
  unfold Ded
  rw [rel_ats h (kgood_k (rel_zero h).1), if_pos ⟨ha, rfl, rfl⟩]
  refine ⟨_, _, rfl, ?_⟩
  unfold shut
  split
  · show _ < o.2.2 + 1 ∨ _; omega
  · exact .inr ⟨rfl, rfl⟩
theorem thr_rel (h : relE S o y = 0) (hT : Thr S o') (hn : ¬ (relA S o y = 1 ∧ o' = o)) : Thr (relS S o y) o' := by
  refine ⟨hT.1, ?_⟩
  rw [rel_ats h (kgood_k hT.1)]
  by_cases hc : relA S o y = 1 ∧ o'.1 = o.1 ∧ o'.2.1.toNat = o.2.1.toNat
  · exfalso
    apply hn
    have h3 := (rel_zero h).2.2.2.1
    have h4 := hT.2
    rw [hc.2.1, hc.2.2, h3.2] at h4
    have h5 := Option.some.inj h4
    simp only [Prod.mk.injEq] at h5
    have h6 := hT.1.2.2.1
    have h7 := h3.1.2.2.1
    refine ⟨hc.1, Prod.ext hc.2.1 (Prod.ext ?_ h5.2.symm)⟩
    have := hc.2.2
    omega
  · rw [if_neg hc]; exact hT.2
theorem onc_rel (h : Onc S G) (he : relE S o y = 0) : Onc (relS S o y) G := by
  obtain ⟨hT, _⟩ := rel_T he
  obtain ⟨z1, _, _, z4, _⟩ := rel_zero he
  refine ⟨fun b hb => ?_, fun b hb => ?_, fun b hb e => ?_, fun i k b c hk hb hc hbc => ?_, Nat.le_trans rel_len h.ln⟩
  · obtain ⟨h1, h2⟩ := h.gd b hb
    refine ⟨h1, ?_⟩
    rw [hT]
    rcases h2 with h2 | ⟨c, hc, h3, h4⟩
    · by_cases hn : relA S o y = 1 ∧ b = o
      · exact .inr ⟨_, List.mem_append_right _ List.mem_cons_self, hn.2.symm, hn.1⟩
      · exact .inl (thr_rel he h2 hn)
    · exact .inr ⟨c, List.mem_append_left _ hc, h3, h4⟩
  · rw [hT] at hb
    rcases List.mem_append.1 hb with hb | hb
    · exact h.tk b hb
    · rw [List.mem_singleton.1 hb]; exact z1
  · rw [hT] at hb
    rcases List.mem_append.1 hb with hb | hb
    · exact ded_rel he (h.tk b hb) (h.td b hb e)
    · rw [List.mem_singleton.1 hb] at e ⊢; exact ded_self he e
  · rw [hT] at hb hc
    have hl := (List.getElem?_eq_some_iff.1 hc).1
    rw [List.length_append, List.length_singleton] at hl
    rw [List.getElem?_append_left (by omega)] at hb
    by_cases hi : i < S.T.length
    · rw [List.getElem?_append_left hi] at hc
      exact h.pw i k b c hk hb hc hbc
    · rw [List.getElem?_append_right (by omega), show i - S.T.length = 0 by omega] at hc
      obtain rfl := Option.some.inj hc
      intro e
      have h1 := h.td b (List.mem_of_getElem? hb) e
      rw [hbc] at h1
      exact ded_no h1 z4
theorem onc_n (h : Onc S G) (hb : doB S s = false) : Onc (doS S s) G := by
  by_cases h0 : s.d = 0
  · rw [(do0 h0).1]
    have h1 : acqE S s.k s.a ≠ 0 := fun q => by
      have := of_decide_eq_false hb
      exact this ⟨h0, q⟩
    rcases acq_keep h1 with e | e <;> rw [e]
    · exact h
    · exact onc_as h (fun _ => rfl) rfl
  · by_cases h1 : s.d = 1
    · rw [do1 h1]
      by_cases hr : relE S s.o s.wy = 0
      · exact onc_rel h hr
      · rw [rel_keep hr]; exact h
    · by_cases h2 : s.d = 2
      · rw [do2 h2]; exact onc_as h (ren_as _ _ _) (ren_T _ _ _).1
      · by_cases h3 : s.d = 3
        · rw [do3 h3]; exact onc_as h (tck_as _ _) (tck_T _ _)
        · by_cases h4 : s.d = 4
          · rw [do4 h4]; exact onc_as h (fun _ => rfl) rfl
          · rw [do5 ⟨h0, h1, h2, h3, h4⟩]; exact h
theorem doB_y (hb : doB S s = true) : s.d = 0 ∧ acqE S s.k s.a = 0 := of_decide_eq_true hb
theorem onc_y (hW : WOk S) (h : Onc S G) (hb : doB S s = true) : Onc (doS S s) (G ++ [doO S s]) := by
  obtain ⟨h0, h1⟩ := doB_y hb
  rw [(do0 h0).1, (do0 h0).2.1]
  exact onc_acq hW h h1
theorem ky_ext {a b : Ky} (h : a.1 = b.1 ∧ a.2.1 = b.2.1 ∧ a.2.2 = b.2.2) : a = b := Prod.ext h.1 (Prod.ext h.2.1 h.2.2)
theorem onc_ne (h : Onc S G) (hb : doB S s = true) {j : Nat} {z : Ky} (hz : G[j]? = some z) : ¬ (z.1 = (doO S s).1 ∧ z.2.1 = (doO S s).2.1 ∧ z.2.2 = (doO S s).2.2) := fun q => by
  obtain ⟨h0, h1⟩ := doB_y hb
  have e := ky_ext q
  rw [(do0 h0).2.1] at e
  exact onc_new h h1 (e ▸ List.mem_of_getElem? hz)
theorem do_thr (hW : WOk S) (hb : doB S s = true) : Thr (doS S s) (doO S s) ∧ (doO S s).1 = s.k := by
  obtain ⟨h0, h1⟩ := doB_y hb
  rw [(do0 h0).1, (do0 h0).2.1]
  exact acq_thr hW h1
theorem onc_new1 (g : Int) : Onc (wnew g) [] where
  gd o ho := nomatch ho
  tk b hb := nomatch hb
  td b hb := nomatch hb
  pw i k b c _ hb := by simp [wnew] at hb
  ln := by
    rw [all_len]
    have : nT (List.replicate 64 (0, g, 0)) = 0 := by
      unfold nT
      rw [inS_cnt]
      unfold As
      rw [List.map_replicate, List.countP_replicate, if_neg (by simp [sl2])]
    show nT (List.replicate 64 (0, g, 0)) + (nT (List.replicate 64 (0, g, 0)) + nT (List.replicate 64 (0, g, 0))) ≤ 0
    omega
/-- Whether one of the first attempts released it. -/
def gnT (T : List At) (o : Ky) (k : Nat) : Bool := (T.take k).any fun a => decide (a.out = o ∧ a.ans = 1)
theorem gn_s {T : List At} {j : Nat} {b : At} (h : T[j]? = some b) : gnT T o (j + 1) = (gnT T o j || decide (b.out = o ∧ b.ans = 1)) := by
  unfold gnT
  rw [List.take_add_one, h, List.any_append]
  simp
theorem gn_t {T : List At} {j : Nat} {b : At} (h : T[j]? = some b) (hg : true = gnT T o j) : true = gnT T o (j + 1) := by rw [gn_s h, ← hg]; rfl
theorem gn_y {T : List At} {j : Nat} {b : At} (h : T[j]? = some b) (h1 : b.out = o) (h2 : b.ans = 1) : true = gnT T o (j + 1) := by rw [gn_s h, decide_eq_true ⟨h1, h2⟩, Bool.or_true]
theorem gn_n {T : List At} {j : Nat} {b : At} (h : T[j]? = some b) (hn : ¬ (b.out = o ∧ b.ans = 1)) (hg : false = gnT T o j) : false = gnT T o (j + 1) := by rw [gn_s h, decide_eq_false hn, ← hg]; rfl
theorem gn_has (h : Onc S G) {i : Nat} (hi : S.T.length ≤ i) (hg : true = gnT S.T o i) : ¬ Thr S o := by
  unfold gnT at hg
  rw [List.take_of_length_le hi] at hg
  obtain ⟨b, hb, hd⟩ := List.any_eq_true.1 hg.symm
  have := of_decide_eq_true hd
  exact this.1 ▸ ded_no (h.td b hb this.2)
theorem gn_not (h : Onc S G) {i j : Nat} (hi : S.T.length ≤ i) (ho : G[j]? = some o) (hg : false = gnT S.T o i) : Thr S o := by
  unfold gnT at hg
  rw [List.take_of_length_le hi] at hg
  rcases (h.gd o (List.mem_of_getElem? ho)).2 with h1 | ⟨b, hb, h1, h2⟩
  · exact h1
  · have := List.any_eq_false.1 hg.symm b hb
    exact absurd (decide_eq_true ⟨h1, h2⟩) this
theorem onc_bd (hW : WOk S) (h : Onc S G) {j : Nat} (ho : G[j]? = some o) : 0 ≤ o.2.2 ∧ o.2.2 ≤ 4294967295 := by
  obtain ⟨h1, h2⟩ := h.gd o (List.mem_of_getElem? ho)
  rcases h2 with h2 | ⟨b, hb, h3, h4⟩
  · exact thr_gen hW h2
  · exact ded_bd hW (h3 ▸ h.td b hb h4) h1
end
end Go.Proofs.YtggfnbpohmhphaaGreatDoor

/- Walks, printed by my generator o23.py. -/
namespace Go.Proofs.YtggfnbpohmhphaaGreatDoor
theorem q23e32_eql_t {n : Nat} {l : Fr} {o : Oper} {x y : Operand} (a0 : Int) (a1 : Int) (a2 : Int) (c0 : Int) (c1 : Int) (c2 : Int) (ho : o.op = .binOp .eql 32 x y 32) (hx : fe n l x = .agg #[.int .i64 a0, .int .i64 a1, .int .u32 a2]) (hy : fe n l y = .agg #[.int .i64 c0, .int .i64 c1, .int .u32 c2]) (h : a0 = c0 ∧ a1 = c1 ∧ a2 = c2) (w : World) : (execOp (fe n l) o).run Tryz.prog w = .ok (.value (.bool true)) w := by
  obtain ⟨rfl, rfl, rfl⟩ := h
  simp [execOp, ho, hx, hy, go_sem]
theorem q23e32_eql_f {n : Nat} {l : Fr} {o : Oper} {x y : Operand} (a0 : Int) (a1 : Int) (a2 : Int) (c0 : Int) (c1 : Int) (c2 : Int) (ho : o.op = .binOp .eql 32 x y 32) (hx : fe n l x = .agg #[.int .i64 a0, .int .i64 a1, .int .u32 a2]) (hy : fe n l y = .agg #[.int .i64 c0, .int .i64 c1, .int .u32 c2]) (h : ¬ (a0 = c0 ∧ a1 = c1 ∧ a2 = c2)) (w : World) : (execOp (fe n l) o).run Tryz.prog w = .ok (.value (.bool false)) w := by
  by_cases h0 : a0 = c0
  · skip
    by_cases h1 : a1 = c1
    · skip
      by_cases h2 : a2 = c2
      · exact absurd ⟨h0, h1, h2⟩ h
      · simp [execOp, ho, hx, hy, go_sem, h0, h1, h2]
    · simp [execOp, ho, hx, hy, go_sem, h0, h1]
  · simp [execOp, ho, hx, hy, go_sem, h0]
set_option maxHeartbeats 4000000 in
theorem once_law (wo : World) (hg : Lett wo) (p0 : Option Addr) (n0 c0 : Nat) (T0 : List Sq) (hr0 : Rd wo p0 n0 (fl eSq T0)) (hT0 : T0.length = n0) (hO0 : ∀ x ∈ T0, SqOk x) : HT Tryz.prog 3 [.slice p0 n0 c0] [Old wo] (fun v K => v = .bool true ∧ K = [Old wo]) := by
 refine hiS Tryz.func3 Tryz.ntmps3 fun g w0 R h0 => go [] ?_
 by_cases c10 : (n0 : Int) ≤ 120
 ·
  rcases Bool.eq_false_or_eq_true (decide (Sho T0 120)) with cb11 | cb11
  ·
   refine cl1 Tryz.call11 ((by have h_ := short_ht p0 n0 c0 T0 (Old wo) (gv_old hr0) hT0 (by omega) 120; rw [cb11] at h_; exact h_)) h0 fun _ h13 => ?_
   have hsh14 : Sho T0 120 := of_decide_eq_true cb11; have hsh14l := hsh14.1; rw [hT0] at hsh14l
   refine go [] <| cP Tryz.call13 (wnew_ht 1 (by omega)) h13 ?_
   rintro v K w16 (⟨b15, rfl, rfl⟩) h17
   have h18 := ap1 h17
   refine go [] ?_
   have h19 : sat g w16 [Sl 32 3 none 0 0 (fl eO []), Wd b15 (wnew 1), Old wo, R] := sl_nil 32 3 h18
   refine lpS (fun mz_ a w => ∃ i : Nat, ∃ W_ : Wst, ∃ G_ : List Ky, ∃ p_ : Option Addr, ∃ c_ : Nat, ∃ m_ : Nat, ∃ lr : Fr, mz_ = n0 - i ∧ (i ≤ n0) ∧ (W_ = mdS (wnew 1) T0 i) ∧ (Onc W_ G_) ∧ (m_ ≤ i) ∧ (G_.length = m_) ∧ a = mk 182 (([(0, .slice p0 n0 c0), (3, pV b15), (5, .slice p_ m_ c_), (6, iV (i : Int))] : Fr) ++ lr) ∧ sat g w [Wd b15 W_, Sl 32 3 p_ m_ c_ (fl eO G_), Old wo, R]) (n0 - 0) ⟨0, (wnew 1), [], none, 0, 0, _, rfl, (Nat.zero_le _), rfl, (onc_new1 1), (Nat.le_refl _), rfl, (lvF [.k 0 (.slice p0 n0 c0), .k 3 (pV b15), .k 5 (.slice none 0 0), .o 6 (oJ .i64 0 (0 : Int))]), (tk4 (sf3 (sf2 (sf3 (sf3 h19)))))⟩ ?_
   rintro m22 a23 w24 ⟨i, W_, G_, p_, c_, m_, lr21, rfl, hi, hw_, ho_, hgl_, hgn_, rfl, h25⟩
   refine ga ?_
   have hok_ : WOk W_ := hw_ ▸ wok_mds (wok_new (by decide)) T0 i; have hl_ := hok_.tn
   refine go [.s 8 3] ?_
   by_cases c26 : (i : Int) < (n0 : Int)
   ·
    obtain ⟨b27, off29, hp28⟩ := gv_ptr (j := 2) h25 rfl (gv_old hr0) (by omega)
    refine go [.v 8 3 (oT ((i : Int) < (n0 : Int))), .s 10 3] <| lwP (.pointer (some ⟨b27, off29 + i * 9, none⟩)) (law_indexSlP (x := (Operand.tmp 39)) (i := (Operand.tmp 40)) (p := p0) (b := b27) (off := off29) (z := (i : Int)) (len := n0) (cap := c0) (by kernel_rfl) Tryz.underlying22 9 (by kernel_rfl) i (by kernel_rfl) hp28 (by kernel_rfl) (by omega) (by omega) (off29 + i * 9) (by omega) _) ?_
    obtain ⟨x30, hx31⟩ : ∃ x, T0[i]? = some x := ⟨_, List.getElem?_eq_getElem (by rw [hT0]; omega)⟩
    have ho32 := hO0 _ (List.mem_of_getElem? hx31); have ho32a := ho32.1; have ho32b := ho32.2
    have ho32t := hsh14.2 _ (List.mem_of_getElem? hx31)
    refine go [.r 10 4 b27 (off29 + i * 9) [iV x30.d, iV x30.k, iV x30.a, iV x30.o.1, iV x30.o.2.1, uV x30.o.2.2, iV x30.wy, iV x30.tk, .string (St x30.tx)] ⟨gv_cell (j := 2) h25 rfl (gv_old hr0) hp28 (fl_get eSq_ok (j := 0) (v := iV x30.d) hx31 rfl) (off29 + i * 9) (by omega), gv_cell (j := 2) h25 rfl (gv_old hr0) hp28 (fl_get eSq_ok (j := 1) (v := iV x30.k) hx31 rfl) (off29 + i * 9 + 1) (by omega), gv_cell (j := 2) h25 rfl (gv_old hr0) hp28 (fl_get eSq_ok (j := 2) (v := iV x30.a) hx31 rfl) (off29 + i * 9 + 2) (by omega), gv_cell (j := 2) h25 rfl (gv_old hr0) hp28 (fl_get eSq_ok (j := 3) (v := iV x30.o.1) hx31 rfl) (off29 + i * 9 + 3) (by omega), gv_cell (j := 2) h25 rfl (gv_old hr0) hp28 (fl_get eSq_ok (j := 4) (v := iV x30.o.2.1) hx31 rfl) (off29 + i * 9 + 4) (by omega), gv_cell (j := 2) h25 rfl (gv_old hr0) hp28 (fl_get eSq_ok (j := 5) (v := uV x30.o.2.2) hx31 rfl) (off29 + i * 9 + 5) (by omega), gv_cell (j := 2) h25 rfl (gv_old hr0) hp28 (fl_get eSq_ok (j := 6) (v := iV x30.wy) hx31 rfl) (off29 + i * 9 + 6) (by omega), gv_cell (j := 2) h25 rfl (gv_old hr0) hp28 (fl_get eSq_ok (j := 7) (v := iV x30.tk) hx31 rfl) (off29 + i * 9 + 7) (by omega), gv_cell (j := 2) h25 rfl (gv_old hr0) hp28 (fl_get eSq_ok (j := 8) (v := .string (St x30.tx)) hx31 rfl) (off29 + i * 9 + 8) (by omega), trivial⟩] ?_
    rcases Bool.eq_false_or_eq_true (doB W_ x30) with cb33 | cb33
    ·
     refine cl2 Tryz.call14 ((by have h_ := do_ht wo hg b15 W_ x30 ho32 (by omega) (by omega) (by omega); rw [cb33] at h_; exact h_)) (tk4 (sf3 (sf3 (sf2 (sf3 h25))))) fun _ h36 => ?_
     have hok2_ : WOk (doS W_ x30) := wok_do hok_ x30; have hth_ := do_thr hok_ cb33; have hkg_ := hth_.1.1; have hgb_ := thr_gen hok2_ hth_.1; have hka_ : (doO W_ x30).1 = x30.k := hth_.2; have hkb_ : 1 ≤ (doO W_ x30).1 := hkg_.1; have hkc_ : (doO W_ x30).1 ≤ 3 := hkg_.2.1; have hkd_ : 0 ≤ (doO W_ x30).2.1 := hkg_.2.2.1; have hke_ : (doO W_ x30).2.1 ≤ 63 := hkg_.2.2.2.1; have hkf_ : 1 ≤ (doO W_ x30).2.2 := hkg_.2.2.2.2; have hkh_ : (doO W_ x30).2.2 ≤ 4294967295 := hgb_.2
     refine go [] <| nP 32 [iV 0, iV 0, uV 0] h36 (fun r37 _ h39 => ?_)
     refine sP [(0, iV ((doO W_ x30).1)), (1, iV ((doO W_ x30).2.1)), (2, uV ((doO W_ x30).2.2))] [iV ((doO W_ x30).1), iV ((doO W_ x30).2.1), uV ((doO W_ x30).2.2)] h39 fun _ h41 => go [] ?_
     refine lpS (fun mz_ a w => ∃ k : Nat, ∃ lr : Fr, mz_ = m_ - k ∧ (k ≤ m_) ∧ a = mk 182 (([(0, .slice p0 n0 c0), (3, pV b15), (5, .slice p_ m_ c_), (6, iV (i : Int)), (7, pV r37), (9, iV (k : Int))] : Fr) ++ lr) ∧ sat g w [Cl r37 [iV ((doO W_ x30).1), iV ((doO W_ x30).2.1), uV ((doO W_ x30).2.2)] 32, Wd b15 (doS W_ x30), Old wo, Sl 32 3 p_ m_ c_ (fl eO G_), R]) (m_ - 0) ⟨0, _, rfl, (Nat.zero_le _), (lvF [.k 0 (.slice p0 n0 c0), .k 3 (pV b15), .k 5 (.slice p_ m_ c_), .k 6 (iV (i : Int)), .k 7 (pV r37), .o 9 (oJ .i64 0 (0 : Int))]), h41⟩ ?_
     rintro m43 a44 w45 ⟨k, lr42, rfl, hk_, rfl, h46⟩
     refine ga <| go [.s 13 3] ?_
     by_cases c47 : (k : Int) < (m_ : Int)
     ·
      refine go [.v 13 3 (oT ((k : Int) < (m_ : Int)))] <| dw (fls [0, 1, 2, 3, 4, 5] Tr.nil) h46 fun _ h49 => ?_
      obtain ⟨b50, hp51⟩ := sl_ptr0 (j := 3) h49 rfl (by omega)
      refine go [.s 15 2] <| lw (.pointer (some ⟨b50, k * 3, none⟩)) (fun _ => law_indexSlP (x := (Operand.tmp 54)) (i := (Operand.tmp 55)) (p := p_) (b := b50) (off := 0) (z := (k : Int)) (len := m_) (cap := c_) (by kernel_rfl) Tryz.underlying30 3 (by kernel_rfl) k (by kernel_rfl) hp51 (by kernel_rfl) (by omega) (by omega) (k * 3) (by omega) _) ?_
      obtain ⟨x52, hx53⟩ : ∃ x, G_[k]? = some x := ⟨_, List.getElem?_eq_getElem (by rw [hgn_]; omega)⟩
      refine go [.r 15 3 b50 (k * 3) [iV x52.1, iV x52.2.1, uV x52.2.2] ⟨gv_cell (j := 3) h49 rfl (gv_sl _ _ _) hp51 (fl_get eO_ok (j := 0) (v := iV x52.1) hx53 rfl) (k * 3) (by omega), gv_cell (j := 3) h49 rfl (gv_sl _ _ _) hp51 (fl_get eO_ok (j := 1) (v := iV x52.2.1) hx53 rfl) (k * 3 + 1) (by omega), gv_cell (j := 3) h49 rfl (gv_sl _ _ _) hp51 (fl_get eO_ok (j := 2) (v := uV x52.2.2) hx53 rfl) (k * 3 + 2) (by omega), trivial⟩, rd 15 4 0 0 3 h49, .s 15 5] <| lw (.bool false) (fun _ => q23e32_eql_f (x := (Operand.tmp 57)) (y := (Operand.tmp 58)) x52.1 x52.2.1 x52.2.2 ((doO W_ x30).1) ((doO W_ x30).2.1) ((doO W_ x30).2.2) (by kernel_rfl) (by kernel_rfl) (by kernel_rfl) (onc_ne ho_ cb33 hx53) _) <| go [.v 14 1 (oIr ((k : Int) + 1))] ?_
      refine enL ?_
      change ∃ n', n' < _ ∧ _
      refine ⟨(m_ - (k + 1)), by omega, (k + 1), _, rfl, (by omega), (lvF [.k 0 (.slice p0 n0 c0), .k 3 (pV b15), .k 5 (.slice p_ m_ c_), .k 6 (iV (i : Int)), .k 7 (pV r37), .o 9 (oJ .i64 ((k : Int) + 1) ((((k + 1) : Nat) : Int)))]), h49⟩
     refine go [.v 13 3 (oF ((k : Int) < (m_ : Int)))] <| up <| go [] <| dw (Tr.fl 0 (Tr.an 1 (fls [2, 3, 4, 5] (Tr.an 6 (fls [7, 8, 9, 10, 11, 12, 13, 14, 15, 16, 17, 18] Tr.nil))))) h46 fun _ h55 => go [rd 17 0 0 0 3 h55] <| cw0 Tryz.call15 (couter_ok ((doO W_ x30).1) ((doO W_ x30).2.1) ((doO W_ x30).2.2) (by omega) (by omega) (by omega)) h55 fun _ h57 => ⟨kd [], ?_⟩
     have h58 := tk5 (sf4 (sf3 (sf4 (sf4 (sf4 h57)))))
     refine go [rd 17 5 0 0 3 h57] <| cw1 Tryz.call16 ((by have h_ := whas_ht b15 (doS W_ x30) ((doO W_ x30).1) ((doO W_ x30).2.1) ((doO W_ x30).2.2) (by omega) (by omega); rw [decide_eq_true (show Thr (doS W_ x30) (((doO W_ x30).1, (doO W_ x30).2.1, (doO W_ x30).2.2) : Ky) from hth_.1)] at h_; exact h_)) h58 fun _ h60 => ⟨kd [], ?_⟩
     refine go [rd 17 11 1 0 1 h60, .s 17 14] <| lw (.pointer (some ⟨b27, off29 + i * 9, none⟩)) (fun _ => law_indexSlP (x := (Operand.tmp 72)) (i := (Operand.tmp 73)) (p := p0) (b := b27) (off := off29) (z := (i : Int)) (len := n0) (cap := c0) (by kernel_rfl) Tryz.underlying22 9 (by kernel_rfl) i (by kernel_rfl) hp28 (by kernel_rfl) (by omega) (by omega) (off29 + i * 9) (by omega) _) <| go [.r 17 16 b27 (off29 + i * 9 + 1) [iV x30.k] ⟨gv_cell (j := 2) h60 rfl (gv_old hr0) hp28 (fl_get eSq_ok (j := 1) (v := iV x30.k) hx31 rfl) (off29 + i * 9 + 1) (by omega), trivial⟩, .v 17 17 (qnF ((doO W_ x30).1) x30.k), rd 19 1 1 0 3 h60] <| nG (fun q_ => .slice (some ⟨q_, 0, none⟩) 1 1) 32 [iV ((doO W_ x30).1), iV ((doO W_ x30).2.1), uV ((doO W_ x30).2.2)] h60 (fun r61 _ h63 => ⟨kd [], ?_⟩)
     have h64 := tk6 (sf5 (sf4 (sf4 (sf4 (sf4 (sf5 h63))))))
     refine actG ?_
     refine an_append (d := 82) (sz := 3) (s := (Operand.tmp 79)) (x := (Operand.tmp 81)) (z := .agg #[iV 0, iV 0, uV 0]) (p := p_) (m := m_) (c := c_) (k := 1) (c2 := 1) (a := ⟨r61, 0, none⟩) (by_ := 24) (by kernel_rfl) (by kernel_rfl) rfl Tryz.underlying30 (by kernel_rfl) rfl (by decide) (by kernel_rfl) (by kernel_rfl) h64 (fl eO [((doO W_ x30).1, (doO W_ x30).2.1, (doO W_ x30).2.2)]) rfl (fun j u hj => by rw [add_off]; exact sat_cell h64 1 rfl (by rw [Nat.zero_add]; exact hj)) (fl_one eO_ok _) (by omega) (by omega) (m_ + 1) (by omega) ?_
     intro p65 cap66 w67 h68
     have h69 : sat g w67 [Sl 32 3 p65 (m_ + 1) cap66 (fl eO (G_ ++ [((doO W_ x30).1, (doO W_ x30).2.1, (doO W_ x30).2.2)])), Cl r61 [iV ((doO W_ x30).1), iV ((doO W_ x30).2.1), uV ((doO W_ x30).2.2)] 32, Wd b15 (doS W_ x30), Cl r37 [iV ((doO W_ x30).1), iV ((doO W_ x30).2.1), uV ((doO W_ x30).2.2)] 32, Old wo, R] := sat_imp h68 (fun _ hh => by rw [fl_app]; exact hh)
     obtain ⟨hn70, hn71⟩ := sl_le h69
     refine nxA <| go [.v 9 1 (oIr ((i : Int) + 1))] ?_
     refine enL ?_
     have h73 := tk4 (tk6 (sf5 (sf4 (sf5 (sf5 (sf2 (sf3 h69)))))))
     change ∃ n', n' < _ ∧ _
     refine ⟨(n0 - (i + 1)), by omega, (i + 1), (doS W_ x30), (G_ ++ [((doO W_ x30).1, (doO W_ x30).2.1, (doO W_ x30).2.2)]), p65, cap66, m_ + 1, _, rfl, (by omega), (by rw [mdS_go hx31, ← hw_]), (onc_y hok_ ho_ cb33), (by omega), (by rw [List.length_append, List.length_singleton]; omega), (lvF [.k 0 (.slice p0 n0 c0), .k 3 (pV b15), .k 5 (.slice p65 (m_ + 1) cap66), .o 6 (oJ .i64 ((i : Int) + 1) ((((i + 1) : Nat) : Int)))]), h73⟩
    refine cl2 Tryz.call14 ((by have h_ := do_ht wo hg b15 W_ x30 ho32 (by omega) (by omega) (by omega); rw [cb33] at h_; exact h_)) (tk4 (sf3 (sf3 (sf2 (sf3 h25))))) fun _ h76 => ?_
    refine go [] <| nP 32 [iV 0, iV 0, uV 0] h76 (fun _ _ h79 => ?_)
    refine sP [(0, iV ((doO W_ x30).1)), (1, iV ((doO W_ x30).2.1)), (2, uV ((doO W_ x30).2.2))] [iV ((doO W_ x30).1), iV ((doO W_ x30).2.1), uV ((doO W_ x30).2.2)] h79 fun _ h81 => go [.v 9 1 (oIr ((i : Int) + 1))] ?_
    refine enL ?_
    have h83 := tk4 (tk5 (sf4 (sf4 (sf3 (sf4 h81)))))
    change ∃ n', n' < _ ∧ _
    refine ⟨(n0 - (i + 1)), by omega, (i + 1), (doS W_ x30), G_, p_, c_, m_, _, rfl, (by omega), (by rw [mdS_go hx31, ← hw_]), (onc_n ho_ cb33), (by omega), hgn_, (lvF [.k 0 (.slice p0 n0 c0), .k 3 (pV b15), .k 5 (.slice p_ m_ c_), .o 6 (oJ .i64 ((i : Int) + 1) ((((i + 1) : Nat) : Int)))]), h83⟩
   refine go [.v 8 3 (oF ((i : Int) < (n0 : Int)))] <| up <| go [] <| cP Tryz.call17 (wledg_ht b15 W_) h25 ?_
   rintro v K _ (⟨b84, rfl, rfl⟩) h86
   refine cP Tryz.call18 (lgall_ht b84 W_.T) (tk5 (sf4 (sf3 (sf4 (sf4 (sf4 (ap2 h86))))))) ?_
   rintro v K _ (⟨p88, c89, rfl, rfl⟩) h92
   have h93 := ap2 h92
   refine go [] ?_
   refine lpS (fun mz_ a w => ∃ m : Nat, ∃ lr : Fr, mz_ = W_.T.length - m ∧ (m ≤ W_.T.length) ∧ a = mk 182 (([(3, pV b15), (5, .slice p_ m_ c_), (10, .slice p88 W_.T.length c89), (11, iV (m : Int))] : Fr) ++ lr) ∧ sat g w [Sl 44 6 p88 W_.T.length c89 (fl eAt W_.T), Lg b84 W_.T, Wd b15 W_, Sl 32 3 p_ m_ c_ (fl eO G_), Old wo, R]) (W_.T.length - 0) ⟨0, _, rfl, (Nat.zero_le _), (lvF [.k 3 (pV b15), .k 5 (.slice p_ m_ c_), .k 10 (.slice p88 W_.T.length c89), .o 11 (oJ .i64 0 (0 : Int))]), h93⟩ ?_
   rintro m95 a96 w97 ⟨m, lr94, rfl, hm_, rfl, h98⟩
   refine ga <| go [.s 22 3] ?_
   by_cases c99 : (m : Int) < ((W_.T.length : Nat) : Int)
   ·
    refine go [.v 22 3 (oT ((m : Int) < ((W_.T.length : Nat) : Int)))] ?_
    refine lpS (fun mz_ a w => ∃ u : Nat, ∃ lr : Fr, mz_ = m - u ∧ (u ≤ m) ∧ a = mk 182 (([(3, pV b15), (5, .slice p_ m_ c_), (10, .slice p88 W_.T.length c89), (11, iV (m : Int)), (12, iV (u : Int))] : Fr) ++ lr) ∧ sat g w [Sl 44 6 p88 W_.T.length c89 (fl eAt W_.T), Lg b84 W_.T, Wd b15 W_, Sl 32 3 p_ m_ c_ (fl eO G_), Old wo, R]) (m - 0) ⟨0, _, rfl, (Nat.zero_le _), (lvF [.k 3 (pV b15), .k 5 (.slice p_ m_ c_), .k 10 (.slice p88 W_.T.length c89), .k 11 (iV (m : Int)), .o 12 (oJ .i64 0 (0 : Int))]), h98⟩ ?_
    rintro m101 a102 w103 ⟨u, lr100, rfl, hu_, rfl, h104⟩
    refine ga <| go [.s 25 2] ?_
    by_cases c105 : (u : Int) < (m : Int)
    ·
     refine go [.v 25 2 (oT ((u : Int) < (m : Int)))] <| dw (fls [0, 1, 2, 3, 4, 5, 6, 7, 8, 9, 10, 11, 12, 13, 14, 15, 16, 17, 18] Tr.nil) h104 fun _ h107 => ?_
     obtain ⟨b108, hp109⟩ := sl_ptr0 (j := 0) h107 rfl (by omega)
     refine go [.s 27 2] <| lw (.pointer (some ⟨b108, u * 6, none⟩)) (fun _ => law_indexSlP (x := (Operand.tmp 97)) (i := (Operand.tmp 98)) (p := p88) (b := b108) (off := 0) (z := (u : Int)) (len := W_.T.length) (cap := c89) (by kernel_rfl) Tryz.underlying39 6 (by kernel_rfl) u (by kernel_rfl) hp109 (by kernel_rfl) (by omega) (by omega) (u * 6) (by omega) _) ?_
     obtain ⟨x110, hx111⟩ : ∃ x, W_.T[u]? = some x := ⟨_, List.getElem?_eq_getElem (by omega)⟩
     refine go [.r 27 4 b108 (u * 6 + 1) [iV x110.out.1, iV x110.out.2.1, uV x110.out.2.2] ⟨gv_cell (j := 0) h107 rfl (gv_sl _ _ _) hp109 (fl_get eAt_ok (j := 1) (v := iV x110.out.1) hx111 rfl) (u * 6 + 1) (by omega), gv_cell (j := 0) h107 rfl (gv_sl _ _ _) hp109 (fl_get eAt_ok (j := 2) (v := iV x110.out.2.1) hx111 rfl) (u * 6 + 2) (by omega), gv_cell (j := 0) h107 rfl (gv_sl _ _ _) hp109 (fl_get eAt_ok (j := 3) (v := uV x110.out.2.2) hx111 rfl) (u * 6 + 3) (by omega), trivial⟩, .s 27 7] <| lw (.pointer (some ⟨b108, m * 6, none⟩)) (fun _ => law_indexSlP (x := (Operand.tmp 102)) (i := (Operand.tmp 103)) (p := p88) (b := b108) (off := 0) (z := (m : Int)) (len := W_.T.length) (cap := c89) (by kernel_rfl) Tryz.underlying39 6 (by kernel_rfl) m (by kernel_rfl) hp109 (by kernel_rfl) (by omega) (by omega) (m * 6) (by omega) _) ?_
     obtain ⟨x112, hx113⟩ : ∃ x, W_.T[m]? = some x := ⟨_, List.getElem?_eq_getElem (by omega)⟩
     refine go [.r 27 9 b108 (m * 6 + 1) [iV x112.out.1, iV x112.out.2.1, uV x112.out.2.2] ⟨gv_cell (j := 0) h107 rfl (gv_sl _ _ _) hp109 (fl_get eAt_ok (j := 1) (v := iV x112.out.1) hx113 rfl) (m * 6 + 1) (by omega), gv_cell (j := 0) h107 rfl (gv_sl _ _ _) hp109 (fl_get eAt_ok (j := 2) (v := iV x112.out.2.1) hx113 rfl) (m * 6 + 2) (by omega), gv_cell (j := 0) h107 rfl (gv_sl _ _ _) hp109 (fl_get eAt_ok (j := 3) (v := uV x112.out.2.2) hx113 rfl) (m * 6 + 3) (by omega), trivial⟩, .s 27 10] ?_
     rcases Bool.eq_false_or_eq_true (decide (x110.out = x112.out)) with cb114 | cb114
     ·
      have hp115 : x110.ans ≠ 1 := ho_.pw _ _ _ _ (by omega) hx111 hx113 (of_decide_eq_true cb114)
      refine lw (.bool true) (fun _ => q23e32_eql_t (x := (Operand.tmp 101)) (y := (Operand.tmp 106)) x110.out.1 x110.out.2.1 x110.out.2.2 x112.out.1 x112.out.2.1 x112.out.2.2 (by kernel_rfl) (by kernel_rfl) (by kernel_rfl) (ky_cs (of_decide_eq_true cb114)) _) <| go [.s 27 14] <| lw (.pointer (some ⟨b108, u * 6, none⟩)) (fun _ => law_indexSlP (x := (Operand.tmp 109)) (i := (Operand.tmp 110)) (p := p88) (b := b108) (off := 0) (z := (u : Int)) (len := W_.T.length) (cap := c89) (by kernel_rfl) Tryz.underlying39 6 (by kernel_rfl) u (by kernel_rfl) hp109 (by kernel_rfl) (by omega) (by omega) (u * 6) (by omega) _) <| go [.r 27 16 b108 (u * 6 + 5) [iV x110.ans] ⟨gv_cell (j := 0) h107 rfl (gv_sl _ _ _) hp109 (fl_get eAt_ok (j := 5) (v := iV x110.ans) hx111 rfl) (u * 6 + 5) (by omega), trivial⟩, .v 27 17 (qeF x110.ans 1), .v 26 1 (oIr ((u : Int) + 1))] ?_
      refine enL ?_
      change ∃ n', n' < _ ∧ _
      refine ⟨(m - (u + 1)), by omega, (u + 1), _, rfl, (by omega), (lvF [.k 3 (pV b15), .k 5 (.slice p_ m_ c_), .k 10 (.slice p88 W_.T.length c89), .k 11 (iV (m : Int)), .o 12 (oJ .i64 ((u : Int) + 1) ((((u + 1) : Nat) : Int)))]), h107⟩
     refine lw (.bool false) (fun _ => q23e32_eql_f (x := (Operand.tmp 101)) (y := (Operand.tmp 106)) x110.out.1 x110.out.2.1 x110.out.2.2 x112.out.1 x112.out.2.1 x112.out.2.2 (by kernel_rfl) (by kernel_rfl) (by kernel_rfl) (fun q => of_decide_eq_false cb114 (ky_ext q)) _) <| go [.v 26 1 (oIr ((u : Int) + 1))] ?_
     refine enL ?_
     change ∃ n', n' < _ ∧ _
     refine ⟨(m - (u + 1)), by omega, (u + 1), _, rfl, (by omega), (lvF [.k 3 (pV b15), .k 5 (.slice p_ m_ c_), .k 10 (.slice p88 W_.T.length c89), .k 11 (iV (m : Int)), .o 12 (oJ .i64 ((u : Int) + 1) ((((u + 1) : Nat) : Int)))]), h107⟩
    refine go [.v 25 2 (oF ((u : Int) < (m : Int)))] <| up ?_
    obtain ⟨b116, hp117⟩ := sl_ptr0 (j := 0) h104 rfl (by omega)
    refine go [.s 29 2] <| lwP (.pointer (some ⟨b116, m * 6, none⟩)) (law_indexSlP (x := (Operand.tmp 116)) (i := (Operand.tmp 117)) (p := p88) (b := b116) (off := 0) (z := (m : Int)) (len := W_.T.length) (cap := c89) (by kernel_rfl) Tryz.underlying39 6 (by kernel_rfl) m (by kernel_rfl) hp117 (by kernel_rfl) (by omega) (by omega) (m * 6) (by omega) _) ?_
    obtain ⟨x118, hx119⟩ : ∃ x, W_.T[m]? = some x := ⟨_, List.getElem?_eq_getElem (by omega)⟩
    refine go [.r 29 4 b116 (m * 6 + 5) [iV x118.ans] ⟨gv_cell (j := 0) h104 rfl (gv_sl _ _ _) hp117 (fl_get eAt_ok (j := 5) (v := iV x118.ans) hx119 rfl) (m * 6 + 5) (by omega), trivial⟩, .s 29 5] ?_
    by_cases c120 : x118.ans = 1
    ·
     refine go [.v 29 5 (qeT x118.ans 1), .s 29 10] <| lwP (.pointer (some ⟨b116, m * 6, none⟩)) (law_indexSlP (x := (Operand.tmp 124)) (i := (Operand.tmp 125)) (p := p88) (b := b116) (off := 0) (z := (m : Int)) (len := W_.T.length) (cap := c89) (by kernel_rfl) Tryz.underlying39 6 (by kernel_rfl) m (by kernel_rfl) hp117 (by kernel_rfl) (by omega) (by omega) (m * 6) (by omega) _) ?_
     have hdd_ := ho_.td _ (List.mem_of_getElem? hx119) (by omega); have hdb_ := ded_bd hok_ hdd_ (ho_.tk _ (List.mem_of_getElem? hx119)); have hdc_ := hdb_.1; have hde_ := hdb_.2
     have h121 := tk6 (sf5 (sf4 (sf4 (sf5 (sf5 (sf5 h104))))))
     refine go [.r 29 12 b116 (m * 6 + 1) [iV x118.out.1, iV x118.out.2.1, uV x118.out.2.2] ⟨gv_cell (j := 0) h104 rfl (gv_sl _ _ _) hp117 (fl_get eAt_ok (j := 1) (v := iV x118.out.1) hx119 rfl) (m * 6 + 1) (by omega), gv_cell (j := 0) h104 rfl (gv_sl _ _ _) hp117 (fl_get eAt_ok (j := 2) (v := iV x118.out.2.1) hx119 rfl) (m * 6 + 2) (by omega), gv_cell (j := 0) h104 rfl (gv_sl _ _ _) hp117 (fl_get eAt_ok (j := 3) (v := uV x118.out.2.2) hx119 rfl) (m * 6 + 3) (by omega), trivial⟩] <| cl1 Tryz.call16 ((by have h_ := whas_ht b15 W_ x118.out.1 x118.out.2.1 x118.out.2.2 (by omega) (by omega); rw [decide_eq_false (show ¬ Thr W_ ((x118.out.1, x118.out.2.1, x118.out.2.2) : Ky) from ded_no hdd_)] at h_; exact h_)) h121 fun _ h123 => ?_
     refine go [.v 23 1 (oIr ((m : Int) + 1))] ?_
     refine enL ?_
     have h124 := tk6 (sf5 (sf5 (sf3 (sf5 (sf5 (sf5 h123))))))
     change ∃ n', n' < _ ∧ _
     refine ⟨(W_.T.length - (m + 1)), by omega, (m + 1), _, rfl, (by omega), (lvF [.k 3 (pV b15), .k 5 (.slice p_ m_ c_), .k 10 (.slice p88 W_.T.length c89), .o 11 (oJ .i64 ((m : Int) + 1) ((((m + 1) : Nat) : Int)))]), h124⟩
    refine go [.v 29 5 (qeF x118.ans 1), .v 23 1 (oIr ((m : Int) + 1))] ?_
    refine enL ?_
    change ∃ n', n' < _ ∧ _
    refine ⟨(W_.T.length - (m + 1)), by omega, (m + 1), _, rfl, (by omega), (lvF [.k 3 (pV b15), .k 5 (.slice p_ m_ c_), .k 10 (.slice p88 W_.T.length c89), .o 11 (oJ .i64 ((m : Int) + 1) ((((m + 1) : Nat) : Int)))]), h104⟩
   refine go [.v 22 3 (oF ((m : Int) < ((W_.T.length : Nat) : Int)))] <| up ?_
   have h127 := tk6 (sf5 (sf4 (sf4 (sf5 (sf5 (sf5 h98))))))
   refine go [] <| cP Tryz.call19 (wall_ht b15 W_) h127 ?_
   rintro v K _ (⟨p125, c126, rfl, rfl⟩) h129
   have h130 := ap2 h129
   have hl131 := allS_le (wd_get (j := 1) h130 rfl)
   have hln_ := ho_.ln
   refine go [] ?_
   refine lpS (fun mz_ a w => ∃ v : Nat, ∃ lr : Fr, mz_ = m_ - v ∧ (v ≤ m_) ∧ a = mk 182 (([(3, pV b15), (5, .slice p_ m_ c_), (10, .slice p88 W_.T.length c89), (13, .slice p125 (((allS W_).length)) c126), (14, iV (v : Int))] : Fr) ++ lr) ∧ sat g w [Sl 32 3 p125 (((allS W_).length)) c126 (fl eO (allS W_)), Wd b15 W_, Sl 44 6 p88 W_.T.length c89 (fl eAt W_.T), Lg b84 W_.T, Sl 32 3 p_ m_ c_ (fl eO G_), Old wo, R]) (m_ - 0) ⟨0, _, rfl, (Nat.zero_le _), (lvF [.k 3 (pV b15), .k 5 (.slice p_ m_ c_), .k 10 (.slice p88 W_.T.length c89), .k 13 (.slice p125 (((allS W_).length)) c126), .o 14 (oJ .i64 0 (0 : Int))]), h130⟩ ?_
   rintro m133 a134 w135 ⟨v, lr132, rfl, hv_, rfl, h136⟩
   refine ga <| go [.s 33 3] ?_
   by_cases c137 : (v : Int) < (m_ : Int)
   ·
    refine go [.v 33 3 (oT ((v : Int) < (m_ : Int)))] ?_
    obtain ⟨x138, hx139⟩ : ∃ x, G_[v]? = some x := ⟨_, List.getElem?_eq_getElem (by rw [hgn_]; omega)⟩
    have hb140 := onc_bd hok_ ho_ hx139; have hb140a := hb140.1; have hb140b := hb140.2
    refine lpS (fun mz_ a w => ∃ t : Nat, ∃ f_ : Bool, ∃ lr : Fr, mz_ = W_.T.length - t ∧ (t ≤ W_.T.length) ∧ (f_ = gnT W_.T x138 t) ∧ a = mk 182 (([(3, pV b15), (5, .slice p_ m_ c_), (10, .slice p88 W_.T.length c89), (13, .slice p125 (((allS W_).length)) c126), (14, iV (v : Int)), (15, .bool (f_)), (16, iV (t : Int))] : Fr) ++ lr) ∧ sat g w [Sl 32 3 p125 (((allS W_).length)) c126 (fl eO (allS W_)), Wd b15 W_, Sl 44 6 p88 W_.T.length c89 (fl eAt W_.T), Lg b84 W_.T, Sl 32 3 p_ m_ c_ (fl eO G_), Old wo, R]) (W_.T.length - 0) ⟨0, false, _, rfl, (Nat.zero_le _), rfl, (lvF [.k 3 (pV b15), .k 5 (.slice p_ m_ c_), .k 10 (.slice p88 W_.T.length c89), .k 13 (.slice p125 (((allS W_).length)) c126), .k 14 (iV (v : Int)), .k 15 (.bool (false)), .o 16 (oJ .i64 0 (0 : Int))]), h136⟩ ?_
    rintro m142 a143 w144 ⟨t, f_, lr141, rfl, ht_, hf_, rfl, h145⟩
    refine ga ?_
    cases f_
    ·
     refine go [.s 37 3] ?_
     by_cases c146 : (t : Int) < ((W_.T.length : Nat) : Int)
     ·
      refine go [.v 37 3 (oT ((t : Int) < ((W_.T.length : Nat) : Int)))] <| dw (fls [0, 1, 2, 3, 4, 5, 6, 7, 8, 9, 10, 11, 12, 13, 14, 15, 16, 17, 18, 19, 20, 21] Tr.nil) h145 fun _ h148 => ?_
      obtain ⟨b149, hp150⟩ := sl_ptr0 (j := 2) h148 rfl (by omega)
      refine go [.s 39 4] <| lw (.pointer (some ⟨b149, t * 6, none⟩)) (fun _ => law_indexSlP (x := (Operand.tmp 147)) (i := (Operand.tmp 148)) (p := p88) (b := b149) (off := 0) (z := (t : Int)) (len := W_.T.length) (cap := c89) (by kernel_rfl) Tryz.underlying39 6 (by kernel_rfl) t (by kernel_rfl) hp150 (by kernel_rfl) (by omega) (by omega) (t * 6) (by omega) _) ?_
      obtain ⟨x151, hx152⟩ : ∃ x, W_.T[t]? = some x := ⟨_, List.getElem?_eq_getElem (by omega)⟩
      obtain ⟨b153, hp154⟩ := sl_ptr0 (j := 4) h148 rfl (by omega)
      refine go [.r 39 6 b149 (t * 6 + 1) [iV x151.out.1, iV x151.out.2.1, uV x151.out.2.2] ⟨gv_cell (j := 2) h148 rfl (gv_sl _ _ _) hp150 (fl_get eAt_ok (j := 1) (v := iV x151.out.1) hx152 rfl) (t * 6 + 1) (by omega), gv_cell (j := 2) h148 rfl (gv_sl _ _ _) hp150 (fl_get eAt_ok (j := 2) (v := iV x151.out.2.1) hx152 rfl) (t * 6 + 2) (by omega), gv_cell (j := 2) h148 rfl (gv_sl _ _ _) hp150 (fl_get eAt_ok (j := 3) (v := uV x151.out.2.2) hx152 rfl) (t * 6 + 3) (by omega), trivial⟩, .s 39 9] <| lw (.pointer (some ⟨b153, v * 3, none⟩)) (fun _ => law_indexSlP (x := (Operand.tmp 152)) (i := (Operand.tmp 153)) (p := p_) (b := b153) (off := 0) (z := (v : Int)) (len := m_) (cap := c_) (by kernel_rfl) Tryz.underlying30 3 (by kernel_rfl) v (by kernel_rfl) hp154 (by kernel_rfl) (by omega) (by omega) (v * 3) (by omega) _) <| go [.r 39 10 b153 (v * 3) [iV x138.1, iV x138.2.1, uV x138.2.2] ⟨gv_cell (j := 4) h148 rfl (gv_sl _ _ _) hp154 (fl_get eO_ok (j := 0) (v := iV x138.1) hx139 rfl) (v * 3) (by omega), gv_cell (j := 4) h148 rfl (gv_sl _ _ _) hp154 (fl_get eO_ok (j := 1) (v := iV x138.2.1) hx139 rfl) (v * 3 + 1) (by omega), gv_cell (j := 4) h148 rfl (gv_sl _ _ _) hp154 (fl_get eO_ok (j := 2) (v := uV x138.2.2) hx139 rfl) (v * 3 + 2) (by omega), trivial⟩, .s 39 11] ?_
      rcases Bool.eq_false_or_eq_true (decide (x151.out = x138)) with cb155 | cb155
      ·
       refine lw (.bool true) (fun _ => q23e32_eql_t (x := (Operand.tmp 151)) (y := (Operand.tmp 155)) x151.out.1 x151.out.2.1 x151.out.2.2 x138.1 x138.2.1 x138.2.2 (by kernel_rfl) (by kernel_rfl) (by kernel_rfl) (ky_cs (of_decide_eq_true cb155)) _) <| go [.s 39 15] <| lw (.pointer (some ⟨b149, t * 6, none⟩)) (fun _ => law_indexSlP (x := (Operand.tmp 158)) (i := (Operand.tmp 159)) (p := p88) (b := b149) (off := 0) (z := (t : Int)) (len := W_.T.length) (cap := c89) (by kernel_rfl) Tryz.underlying39 6 (by kernel_rfl) t (by kernel_rfl) hp150 (by kernel_rfl) (by omega) (by omega) (t * 6) (by omega) _) <| go [.r 39 17 b149 (t * 6 + 5) [iV x151.ans] ⟨gv_cell (j := 2) h148 rfl (gv_sl _ _ _) hp150 (fl_get eAt_ok (j := 5) (v := iV x151.ans) hx152 rfl) (t * 6 + 5) (by omega), trivial⟩, .s 39 18] ?_
       by_cases c156 : x151.ans = 1
       ·
        refine go [.v 39 18 (qeT x151.ans 1), .v 38 1 (oIr ((t : Int) + 1))] ?_
        refine enL ?_
        change ∃ n', n' < _ ∧ _
        refine ⟨(W_.T.length - (t + 1)), by omega, (t + 1), true, _, rfl, (by omega), (gn_y hx152 (of_decide_eq_true cb155) (by omega)), (lvF [.k 3 (pV b15), .k 5 (.slice p_ m_ c_), .k 10 (.slice p88 W_.T.length c89), .k 13 (.slice p125 (((allS W_).length)) c126), .k 14 (iV (v : Int)), .k 15 (.bool (true)), .o 16 (oJ .i64 ((t : Int) + 1) ((((t + 1) : Nat) : Int)))]), h148⟩
       refine go [.v 39 18 (qeF x151.ans 1), .v 38 1 (oIr ((t : Int) + 1))] ?_
       refine enL ?_
       change ∃ n', n' < _ ∧ _
       refine ⟨(W_.T.length - (t + 1)), by omega, (t + 1), false, _, rfl, (by omega), (gn_n hx152 (fun q => absurd q.2 (by omega)) hf_), (lvF [.k 3 (pV b15), .k 5 (.slice p_ m_ c_), .k 10 (.slice p88 W_.T.length c89), .k 13 (.slice p125 (((allS W_).length)) c126), .k 14 (iV (v : Int)), .k 15 (.bool (false)), .o 16 (oJ .i64 ((t : Int) + 1) ((((t + 1) : Nat) : Int)))]), h148⟩
      refine lw (.bool false) (fun _ => q23e32_eql_f (x := (Operand.tmp 151)) (y := (Operand.tmp 155)) x151.out.1 x151.out.2.1 x151.out.2.2 x138.1 x138.2.1 x138.2.2 (by kernel_rfl) (by kernel_rfl) (by kernel_rfl) (fun q => of_decide_eq_false cb155 (ky_ext q)) _) <| go [.v 38 1 (oIr ((t : Int) + 1))] ?_
      refine enL ?_
      change ∃ n', n' < _ ∧ _
      refine ⟨(W_.T.length - (t + 1)), by omega, (t + 1), false, _, rfl, (by omega), (gn_n hx152 (fun q => of_decide_eq_false cb155 q.1) hf_), (lvF [.k 3 (pV b15), .k 5 (.slice p_ m_ c_), .k 10 (.slice p88 W_.T.length c89), .k 13 (.slice p125 (((allS W_).length)) c126), .k 14 (iV (v : Int)), .k 15 (.bool (false)), .o 16 (oJ .i64 ((t : Int) + 1) ((((t + 1) : Nat) : Int)))]), h148⟩
     refine go [.v 37 3 (oF ((t : Int) < ((W_.T.length : Nat) : Int)))] <| up ?_
     obtain ⟨b157, hp158⟩ := sl_ptr0 (j := 4) h145 rfl (by omega)
     refine go [.s 40 3] <| lwP (.pointer (some ⟨b157, v * 3, none⟩)) (law_indexSlP (x := (Operand.tmp 167)) (i := (Operand.tmp 168)) (p := p_) (b := b157) (off := 0) (z := (v : Int)) (len := m_) (cap := c_) (by kernel_rfl) Tryz.underlying30 3 (by kernel_rfl) v (by kernel_rfl) hp158 (by kernel_rfl) (by omega) (by omega) (v * 3) (by omega) _) ?_
     have h159 := tk7 (sf6 (sf5 (sf6 (sf6 (sf6 (sf6 (sf6 h145)))))))
     refine go [.r 40 4 b157 (v * 3) [iV x138.1, iV x138.2.1, uV x138.2.2] ⟨gv_cell (j := 4) h145 rfl (gv_sl _ _ _) hp158 (fl_get eO_ok (j := 0) (v := iV x138.1) hx139 rfl) (v * 3) (by omega), gv_cell (j := 4) h145 rfl (gv_sl _ _ _) hp158 (fl_get eO_ok (j := 1) (v := iV x138.2.1) hx139 rfl) (v * 3 + 1) (by omega), gv_cell (j := 4) h145 rfl (gv_sl _ _ _) hp158 (fl_get eO_ok (j := 2) (v := uV x138.2.2) hx139 rfl) (v * 3 + 2) (by omega), trivial⟩] <| cl1 Tryz.call16 ((by have h_ := whas_ht b15 W_ x138.1 x138.2.1 x138.2.2 (by omega) (by omega); rw [decide_eq_true (show Thr W_ ((x138.1, x138.2.1, x138.2.2) : Ky) from gn_not ho_ (by omega) hx139 hf_)] at h_; exact h_)) h159 fun _ h161 => ?_
     refine go [.s 40 7] <| lwP (.bool false) (law_eqBool (t := 4) (x := (Operand.tmp 171)) (y := (Operand.tmp 172)) true false false (by kernel_rfl) Tryz.underlying4 (by kernel_rfl) (by kernel_rfl) rfl _) <| go [.v 34 1 (oIr ((v : Int) + 1))] ?_
     refine enL ?_
     have h162 := tk7 (sf6 (sf5 (sf6 (sf6 (sf6 (sf6 (sf6 h161)))))))
     change ∃ n', n' < _ ∧ _
     refine ⟨(m_ - (v + 1)), by omega, (v + 1), _, rfl, (by omega), (lvF [.k 3 (pV b15), .k 5 (.slice p_ m_ c_), .k 10 (.slice p88 W_.T.length c89), .k 13 (.slice p125 (((allS W_).length)) c126), .o 14 (oJ .i64 ((v : Int) + 1) ((((v + 1) : Nat) : Int)))]), h162⟩
    refine go [.s 37 3] ?_
    by_cases c163 : (t : Int) < ((W_.T.length : Nat) : Int)
    ·
     refine go [.v 37 3 (oT ((t : Int) < ((W_.T.length : Nat) : Int)))] <| dw (fls [0, 1, 2, 3, 4, 5, 6, 7, 8, 9, 10, 11, 12, 13, 14, 15, 16, 17, 18, 19, 20, 21] Tr.nil) h145 fun _ h165 => go [.v 38 1 (oIr ((t : Int) + 1))] ?_
     refine enL ?_
     obtain ⟨x166, hx167⟩ : ∃ x, W_.T[t]? = some x := ⟨_, List.getElem?_eq_getElem (by omega)⟩
     change ∃ n', n' < _ ∧ _
     refine ⟨(W_.T.length - (t + 1)), by omega, (t + 1), true, _, rfl, (by omega), (gn_t hx167 hf_), (lvF [.k 3 (pV b15), .k 5 (.slice p_ m_ c_), .k 10 (.slice p88 W_.T.length c89), .k 13 (.slice p125 (((allS W_).length)) c126), .k 14 (iV (v : Int)), .k 15 (.bool (true)), .o 16 (oJ .i64 ((t : Int) + 1) ((((t + 1) : Nat) : Int)))]), h165⟩
    refine go [.v 37 3 (oF ((t : Int) < ((W_.T.length : Nat) : Int)))] <| up ?_
    obtain ⟨b168, hp169⟩ := sl_ptr0 (j := 4) h145 rfl (by omega)
    refine go [.s 40 3] <| lwP (.pointer (some ⟨b168, v * 3, none⟩)) (law_indexSlP (x := (Operand.tmp 167)) (i := (Operand.tmp 168)) (p := p_) (b := b168) (off := 0) (z := (v : Int)) (len := m_) (cap := c_) (by kernel_rfl) Tryz.underlying30 3 (by kernel_rfl) v (by kernel_rfl) hp169 (by kernel_rfl) (by omega) (by omega) (v * 3) (by omega) _) ?_
    have h170 := tk7 (sf6 (sf5 (sf6 (sf6 (sf6 (sf6 (sf6 h145)))))))
    refine go [.r 40 4 b168 (v * 3) [iV x138.1, iV x138.2.1, uV x138.2.2] ⟨gv_cell (j := 4) h145 rfl (gv_sl _ _ _) hp169 (fl_get eO_ok (j := 0) (v := iV x138.1) hx139 rfl) (v * 3) (by omega), gv_cell (j := 4) h145 rfl (gv_sl _ _ _) hp169 (fl_get eO_ok (j := 1) (v := iV x138.2.1) hx139 rfl) (v * 3 + 1) (by omega), gv_cell (j := 4) h145 rfl (gv_sl _ _ _) hp169 (fl_get eO_ok (j := 2) (v := uV x138.2.2) hx139 rfl) (v * 3 + 2) (by omega), trivial⟩] <| cl1 Tryz.call16 ((by have h_ := whas_ht b15 W_ x138.1 x138.2.1 x138.2.2 (by omega) (by omega); rw [decide_eq_false (show ¬ Thr W_ ((x138.1, x138.2.1, x138.2.2) : Ky) from gn_has ho_ (by omega) hf_)] at h_; exact h_)) h170 fun _ h172 => ?_
    refine go [.s 40 7] <| lwP (.bool false) (law_eqBool (t := 4) (x := (Operand.tmp 171)) (y := (Operand.tmp 172)) false true false (by kernel_rfl) Tryz.underlying4 (by kernel_rfl) (by kernel_rfl) rfl _) <| go [.v 34 1 (oIr ((v : Int) + 1))] ?_
    refine enL ?_
    have h173 := tk7 (sf6 (sf5 (sf6 (sf6 (sf6 (sf6 (sf6 h172)))))))
    change ∃ n', n' < _ ∧ _
    refine ⟨(m_ - (v + 1)), by omega, (v + 1), _, rfl, (by omega), (lvF [.k 3 (pV b15), .k 5 (.slice p_ m_ c_), .k 10 (.slice p88 W_.T.length c89), .k 13 (.slice p125 (((allS W_).length)) c126), .o 14 (oJ .i64 ((v : Int) + 1) ((((v + 1) : Nat) : Int)))]), h173⟩
   refine go [.v 33 3 (oF ((v : Int) < (m_ : Int)))] <| up ?_
   have h174 := tk7 (sf6 (sf5 (sf5 (sf5 (sf5 (sf5 (sf6 h136)))))))
   refine go [.v 42 4 (oT ((((allS W_).length : Nat) : Int) ≤ (m_ : Int)))] <| cl1 Tryz.call12 (works_ht wo hg) h174 fun _ h176 => go [] ?_
   exact en (.bool true) [] ⟨_, _, rfl, ⟨rfl, rfl⟩, (tk2 (sf1 (sf6 h176)))⟩
  refine cl1 Tryz.call11 ((by have h_ := short_ht p0 n0 c0 T0 (Old wo) (gv_old hr0) hT0 (by omega) 120; rw [cb11] at h_; exact h_)) h0 fun _ h179 => ?_
  refine go [] <| cl1 Tryz.call12 (works_ht wo hg) h179 fun _ h181 => go [] ?_
  exact en (.bool true) [] ⟨_, _, rfl, ⟨rfl, rfl⟩, h181⟩
 refine cl0 Tryz.call11 (short_no p0 n0 c0 120 (by omega)) h0 fun _ h183 => go [] <| cl1 Tryz.call12 (works_ht wo hg) h183 fun _ h185 => go [] ?_
 exact en (.bool true) [] ⟨_, _, rfl, ⟨rfl, rfl⟩, h185⟩

end Go.Proofs.YtggfnbpohmhphaaGreatDoor
