/- Walks, printed by my generator l22.py. -/
import Derived.Test.YtfoliffeieeihaaDoorBundle35
import Derived.Test.YtfoliffeieeihaaDoorMod
namespace Go.Proofs.YtfoliffeieeihaaDoor
set_option maxHeartbeats 4000000 in
theorem known_law (wo : World) (hg : Ld Tryd.prog 1 wo) : HT Tryd.prog 7 [] [Old wo] (fun v K => v = .bool true ∧ K = [Old wo]) := by
 refine hiS Tryd.func7 Tryd.ntmps7 fun g w0 R h0 => go [] <| cP Tryd.call12 (rnew0_ht) h0 ?_
 rintro v K _ (⟨b10, rfl, rfl⟩) h12
 have h13 := ap1 h12
 refine go [] <| cl1 Tryd.call13 ((by have h_ := ropen_ht b10 (⟨[], []⟩ : Rp) 0 0 0 ([] : List UInt8) (by decide) (by decide) (by decide); rw [show opdE (⟨[], []⟩ : Rp) ((0, 0, 0) : Ky) ([] : List UInt8) = 2 from by decide +kernel, show opdS (⟨[], []⟩ : Rp) ((0, 0, 0) : Ky) ([] : List UInt8) = (⟨[], []⟩ : Rp) from by kernel_rfl] at h_; exact h_)) h13 fun _ h15 => ?_
 refine go [] <| cl0 Tryd.call14 (file_ht 0 1) h15 fun _ h17 => cl1 Tryd.call13 ((by have h_ := ropen_ht b10 (⟨[], []⟩ : Rp) 1 0 1 ([] : List UInt8) (by decide) (by decide) (by decide); rw [show opdE (⟨[], []⟩ : Rp) ((1, 0, 1) : Ky) ([] : List UInt8) = 16 from by decide +kernel, show opdS (⟨[], []⟩ : Rp) ((1, 0, 1) : Ky) ([] : List UInt8) = (⟨[], []⟩ : Rp) from by kernel_rfl] at h_; exact h_)) h17 fun _ h19 => ?_
 refine go [] <| cl0 Tryd.call14 (file_ht 0 1) h19 fun _ h21 => cl1 Tryd.call13 ((by have h_ := ropen_ht b10 (⟨[], []⟩ : Rp) 1 0 1 ([97] : List UInt8) (by decide) (by decide) (by decide); rw [show opdE (⟨[], []⟩ : Rp) ((1, 0, 1) : Ky) ([97] : List UInt8) = 0 from by decide +kernel, show opdS (⟨[], []⟩ : Rp) ((1, 0, 1) : Ky) ([97] : List UInt8) = (⟨[((1, 0, 1), [97])], []⟩ : Rp) from by kernel_rfl] at h_; exact h_)) h21 fun _ h23 => ?_
 refine go [] <| cl0 Tryd.call14 (file_ht 0 1) h23 fun _ h25 => cl1 Tryd.call13 ((by have h_ := ropen_ht b10 (⟨[((1, 0, 1), [97])], []⟩ : Rp) 1 0 1 ([] : List UInt8) (by decide) (by decide) (by decide); rw [show opdE (⟨[((1, 0, 1), [97])], []⟩ : Rp) ((1, 0, 1) : Ky) ([] : List UInt8) = 16 from by decide +kernel, show opdS (⟨[((1, 0, 1), [97])], []⟩ : Rp) ((1, 0, 1) : Ky) ([] : List UInt8) = (⟨[((1, 0, 1), [97])], []⟩ : Rp) from by kernel_rfl] at h_; exact h_)) h25 fun _ h27 => ?_
 refine go [] <| cl0 Tryd.call14 (file_ht 0 1) h27 fun _ h29 => cl1 Tryd.call13 ((by have h_ := ropen_ht b10 (⟨[((1, 0, 1), [97])], []⟩ : Rp) 1 0 1 ([98] : List UInt8) (by decide) (by decide) (by decide); rw [show opdE (⟨[((1, 0, 1), [97])], []⟩ : Rp) ((1, 0, 1) : Ky) ([98] : List UInt8) = 6 from by decide +kernel, show opdS (⟨[((1, 0, 1), [97])], []⟩ : Rp) ((1, 0, 1) : Ky) ([98] : List UInt8) = (⟨[((1, 0, 1), [97])], []⟩ : Rp) from by kernel_rfl] at h_; exact h_)) h29 fun _ h31 => ?_
 refine go [] <| cl0 Tryd.call14 (file_ht 0 2) h31 fun _ h33 => cl1 Tryd.call13 ((by have h_ := ropen_ht b10 (⟨[((1, 0, 1), [97])], []⟩ : Rp) 1 0 2 ([98] : List UInt8) (by decide) (by decide) (by decide); rw [show opdE (⟨[((1, 0, 1), [97])], []⟩ : Rp) ((1, 0, 2) : Ky) ([98] : List UInt8) = 0 from by decide +kernel, show opdS (⟨[((1, 0, 1), [97])], []⟩ : Rp) ((1, 0, 2) : Ky) ([98] : List UInt8) = (⟨[((1, 0, 1), [97]), ((1, 0, 2), [98])], []⟩ : Rp) from by kernel_rfl] at h_; exact h_)) h33 fun _ h35 => ?_
 refine go [] <| cl1 Tryd.call16 ((by have h_ := rtry_ht b10 (⟨[((1, 0, 1), [97]), ((1, 0, 2), [98])], []⟩ : Rp) 0 0 0 0 0 0 (by decide) (by decide) (by decide); rw [show trE (⟨[((1, 0, 1), [97]), ((1, 0, 2), [98])], []⟩ : Rp) (⟨0, (0, 0, 0), 0, 0⟩ : At) = 2 from by decide +kernel, show trS (⟨[((1, 0, 1), [97]), ((1, 0, 2), [98])], []⟩ : Rp) (⟨0, (0, 0, 0), 0, 0⟩ : At) = (⟨[((1, 0, 1), [97]), ((1, 0, 2), [98])], []⟩ : Rp) from by kernel_rfl] at h_; exact h_)) h35 fun _ h37 => ?_
 refine go [] <| cl0 Tryd.call14 (file_ht 1 1) h37 fun _ h39 => go [] <| cl1 Tryd.call16 ((by have h_ := rtry_ht b10 (⟨[((1, 0, 1), [97]), ((1, 0, 2), [98])], []⟩ : Rp) 0 1 1 1 1 1 (by decide) (by decide) (by decide); rw [show trE (⟨[((1, 0, 1), [97]), ((1, 0, 2), [98])], []⟩ : Rp) (⟨0, (1, 1, 1), 1, 1⟩ : At) = 5 from by decide +kernel, show trS (⟨[((1, 0, 1), [97]), ((1, 0, 2), [98])], []⟩ : Rp) (⟨0, (1, 1, 1), 1, 1⟩ : At) = (⟨[((1, 0, 1), [97]), ((1, 0, 2), [98])], []⟩ : Rp) from by kernel_rfl] at h_; exact h_)) h39 fun _ h41 => ?_
 refine go [] <| cl0 Tryd.call14 (file_ht 0 1) h41 fun _ h43 => go [] <| cl1 Tryd.call16 ((by have h_ := rtry_ht b10 (⟨[((1, 0, 1), [97]), ((1, 0, 2), [98])], []⟩ : Rp) 0 1 0 1 4 1 (by decide) (by decide) (by decide); rw [show trE (⟨[((1, 0, 1), [97]), ((1, 0, 2), [98])], []⟩ : Rp) (⟨0, (1, 0, 1), 4, 1⟩ : At) = 2 from by decide +kernel, show trS (⟨[((1, 0, 1), [97]), ((1, 0, 2), [98])], []⟩ : Rp) (⟨0, (1, 0, 1), 4, 1⟩ : At) = (⟨[((1, 0, 1), [97]), ((1, 0, 2), [98])], []⟩ : Rp) from by kernel_rfl] at h_; exact h_)) h43 fun w44 h45 => ?_
 refine go [] ?_
 have h46 : sat g w44 [Rpt b10 (⟨kO 0, []⟩ : Rp), Old wo, R] := by exact h45
 refine lpS (fun mz_ a w => ∃ j : Nat, ∃ lr : Fr, mz_ = 1998 - j ∧ (j ≤ 1998) ∧ a = mk 129 (([(1, pV b10), (2, iV ((j : Int) + 2))] : Fr) ++ lr) ∧ sat g w [Rpt b10 (⟨kO j, []⟩ : Rp), Old wo, R]) (1998 - 0) ⟨0, _, rfl, (Nat.zero_le _), (lvF [.k 1 (pV b10), .o 2 (oJ .i64 2 ((0 : Int) + 2))]), h46⟩ ?_
 rintro m48 a49 w50 ⟨j, lr47, rfl, hj_, rfl, h51⟩
 refine ga <| go [.s 7 1] ?_
 by_cases c52 : (j : Int) + 2 < 2000
 ·
  have hb53 := rem_bd (a := (j : Int) + 2) (b := 64) (by omega) (by omega)
  refine go [.v 7 1 (oT ((j : Int) + 2 < 2000)), .s 9 2] <| lwP (iV (((j : Int) + 2) % 64)) (law_rem (t := 3) (x := (Operand.tmp 64)) (y := (Operand.const (iV 64))) (by kernel_rfl) ((j : Int) + 2) 64 (by kernel_rfl) (by kernel_rfl) (by omega) (((j : Int) + 2) % 64) (rem_ex (by omega)) _) ?_
  have hb54 := quo_bd (a := (j : Int) + 2) (b := 64) (by omega) (by omega)
  refine go [.s 9 4] <| lwP (iV (((j : Int) + 2) / 64)) (law_quo (t := 3) (x := (Operand.tmp 66)) (y := (Operand.const (iV 64))) (by kernel_rfl) ((j : Int) + 2) 64 (by kernel_rfl) (by kernel_rfl) (by omega) (((j : Int) + 2) / 64) (quo_i64 (by omega) (by omega) (by omega)) _) <| go [.v 9 5 (oI (3 + (((j : Int) + 2) / 64)) (((j : Int) + 2) / 64 + 3)), .v 9 6 (oUr (((j : Int) + 2) / 64 + 3))] <| cl0 Tryd.call14 (file_ht (((j : Int) + 2) % 64) (((j : Int) + 2) / 64 + 3)) h51 fun _ h56 => cl1 Tryd.call13 ((by have h_ := ropen_ht b10 (⟨kO j, []⟩ : Rp) 1 (((j : Int) + 2) % 64) (((j : Int) + 2) / 64 + 3) ([108, 101, 97, 107, 32, 108, 101, 97, 107, 32, 108, 101, 97, 107, 32, 108, 101, 97, 107, 32, 108, 101, 97, 107] : List UInt8) (by omega) (by omega) (by decide); have h2_ := kop (j := j) (by omega); rw [show opdE (⟨kO j, []⟩ : Rp) ((1, ((j : Int) + 2) % 64, ((j : Int) + 2) / 64 + 3) : Ky) ([108, 101, 97, 107, 32, 108, 101, 97, 107, 32, 108, 101, 97, 107, 32, 108, 101, 97, 107, 32, 108, 101, 97, 107] : List UInt8) = 0 from h2_.1, show opdS (⟨kO j, []⟩ : Rp) ((1, ((j : Int) + 2) % 64, ((j : Int) + 2) / 64 + 3) : Ky) ([108, 101, 97, 107, 32, 108, 101, 97, 107, 32, 108, 101, 97, 107, 32, 108, 101, 97, 107, 32, 108, 101, 97, 107] : List UInt8) = (⟨kO (j + 1), []⟩ : Rp) from h2_.2] at h_; exact h_)) h56 fun _ h58 => ?_
  refine go [.v 8 1 (oI (((j : Int) + 2) + 1) ((j : Int) + 3))] ?_
  refine enL ?_
  change ∃ n', n' < _ ∧ _
  refine ⟨(1998 - (j + 1)), by omega, (j + 1), _, rfl, (by omega), (lvF [.k 1 (pV b10), .o 2 (oJ .i64 ((j : Int) + 3) ((((j + 1) : Nat) : Int) + 2))]), h58⟩
 refine go [.v 7 1 (oF ((j : Int) + 2 < 2000))] <| up <| go [] ?_
 have h59 : sat g w50 [Rpt b10 (⟨kO 1998, []⟩ : Rp), Old wo, R] := by rw [show j = 1998 from by omega] at h51; assumption
 refine go [] <| cl0 Tryd.call14 (file_ht 0 99) h59 fun _ h61 => cl1 Tryd.call13 ((by have h_ := ropen_ht b10 (⟨kO 1998, []⟩ : Rp) 1 0 99 ([97] : List UInt8) (by omega) (by omega) (by decide); have h2_ := kful; rw [show opdE (⟨kO 1998, []⟩ : Rp) ((1, 0, 99) : Ky) ([97] : List UInt8) = 4 from h2_.1, show opdS (⟨kO 1998, []⟩ : Rp) ((1, 0, 99) : Ky) ([97] : List UInt8) = (⟨kO 1998, []⟩ : Rp) from h2_.2] at h_; exact h_)) h61 fun _ h63 => ?_
 refine go [] <| cl0 Tryd.call14 (file_ht 0 1) h63 fun _ h65 => cl1 Tryd.call13 ((by have h_ := ropen_ht b10 (⟨kO 1998, []⟩ : Rp) 1 0 1 ([97] : List UInt8) (by omega) (by omega) (by decide); have h2_ := khav; rw [show opdE (⟨kO 1998, []⟩ : Rp) ((1, 0, 1) : Ky) ([97] : List UInt8) = 6 from h2_.1, show opdS (⟨kO 1998, []⟩ : Rp) ((1, 0, 1) : Ky) ([97] : List UInt8) = (⟨kO 1998, []⟩ : Rp) from h2_.2] at h_; exact h_)) h65 fun w66 h67 => ?_
 refine go [] ?_
 have h68 : sat g w66 [Rpt b10 (⟨kO 1998, kA 0⟩ : Rp), Old wo, R] := by exact h67
 refine lpS (fun mz_ a w => ∃ k : Nat, ∃ lr : Fr, mz_ = 1998 - k ∧ (k ≤ 1998) ∧ a = mk 129 (([(1, pV b10), (3, iV ((k : Int) + 2))] : Fr) ++ lr) ∧ sat g w [Rpt b10 (⟨kO 1998, kA k⟩ : Rp), Old wo, R]) (1998 - 0) ⟨0, _, rfl, (Nat.zero_le _), (lvF [.k 1 (pV b10), .o 3 (oJ .i64 2 ((0 : Int) + 2))]), h68⟩ ?_
 rintro m70 a71 w72 ⟨k, lr69, rfl, hk_, rfl, h73⟩
 refine ga <| go [.s 14 1] ?_
 by_cases c74 : (k : Int) + 2 < 2000
 ·
  have hb75 := rem_bd (a := (k : Int) + 2) (b := 64) (by omega) (by omega)
  refine go [.v 14 1 (oT ((k : Int) + 2 < 2000)), .s 16 3] <| lwP (iV (((k : Int) + 2) % 64)) (law_rem (t := 3) (x := (Operand.tmp 89)) (y := (Operand.const (iV 64))) (by kernel_rfl) ((k : Int) + 2) 64 (by kernel_rfl) (by kernel_rfl) (by omega) (((k : Int) + 2) % 64) (rem_ex (by omega)) _) ?_
  have hb76 := quo_bd (a := (k : Int) + 2) (b := 64) (by omega) (by omega)
  refine go [.s 16 5] <| lwP (iV (((k : Int) + 2) / 64)) (law_quo (t := 3) (x := (Operand.tmp 91)) (y := (Operand.const (iV 64))) (by kernel_rfl) ((k : Int) + 2) 64 (by kernel_rfl) (by kernel_rfl) (by omega) (((k : Int) + 2) / 64) (quo_i64 (by omega) (by omega) (by omega)) _) <| go [.v 16 6 (oI (3 + (((k : Int) + 2) / 64)) (((k : Int) + 2) / 64 + 3)), .v 16 7 (oUr (((k : Int) + 2) / 64 + 3))] <| cl0 Tryd.call14 (file_ht (((k : Int) + 2) % 64) (((k : Int) + 2) / 64 + 3)) h73 fun _ h78 => go [] <| cl1 Tryd.call16 ((by have h_ := rtry_ht b10 (⟨kO 1998, kA k⟩ : Rp) ((k : Int) + 2) 1 (((k : Int) + 2) % 64) (((k : Int) + 2) / 64 + 3) 3 3 (by omega) (by omega) (by show (kA k).length < 4294967296; rw [kA_len]; omega); have h2_ := ktr (j := k) (by omega); rw [show trE (⟨kO 1998, kA k⟩ : Rp) (⟨(k : Int) + 2, (1, ((k : Int) + 2) % 64, ((k : Int) + 2) / 64 + 3), 3, 3⟩ : At) = 0 from h2_.1, show trS (⟨kO 1998, kA k⟩ : Rp) (⟨(k : Int) + 2, (1, ((k : Int) + 2) % 64, ((k : Int) + 2) / 64 + 3), 3, 3⟩ : At) = (⟨kO 1998, kA (k + 1)⟩ : Rp) from h2_.2] at h_; exact h_)) h78 fun _ h80 => ?_
  refine go [.v 15 1 (oI (((k : Int) + 2) + 1) ((k : Int) + 3))] ?_
  refine enL ?_
  change ∃ n', n' < _ ∧ _
  refine ⟨(1998 - (k + 1)), by omega, (k + 1), _, rfl, (by omega), (lvF [.k 1 (pV b10), .o 3 (oJ .i64 ((k : Int) + 3) ((((k + 1) : Nat) : Int) + 2))]), h80⟩
 refine go [.v 14 1 (oF ((k : Int) + 2 < 2000))] <| up <| go [] ?_
 have h81 : sat g w72 [Rpt b10 (⟨kO 1998, kA 1998⟩ : Rp), Old wo, R] := by rw [show k = 1998 from by omega] at h73; assumption
 have hW_ : Rw (kS 1998) := rp_w (j := 0) h81 rfl
 refine go [] <| cl2 Tryd.call24 ((by have h_ := rtext_ht b10 (⟨kO 1998, kA 1998⟩ : Rp) wo hg; rw [show txV (⟨kO 1998, kA 1998⟩ : Rp) = [] from (k_txt (Nat.le_refl _) hW_).1, show txE (⟨kO 1998, kA 1998⟩ : Rp) = 10 from (k_txt (Nat.le_refl _) hW_).2] at h_; exact h_)) h81 fun _ h83 => ?_
 refine go [.s 19 1] <| lwP (.bool true) (law_eqStr (t := 9) (x := (Operand.tmp 104)) (y := (Operand.const (.string (St [])))) (a := []) (b := []) (by kernel_rfl) (by kernel_rfl) (by kernel_rfl) true (decide_eq_true rfl) _) <| go [] <| cl1 Tryd.call20 ((by have h_ := rlen_ht b10 (⟨kO 1998, kA 1998⟩ : Rp); rw [show (lks (⟨kO 1998, kA 1998⟩ : Rp)).length = 1998 from kl_len 1998] at h_; exact h_)) h83 fun _ h85 => ?_
 refine go [] <| cl1 Tryd.call22 ((by have h_ := rcnt_ht b10 (⟨kO 1998, kA 1998⟩ : Rp) [108, 101, 97, 107, 32, 108, 101, 97, 107, 32, 108, 101, 97, 107, 32, 108, 101, 97, 107, 32, 108, 101, 97, 107]; rw [show cntL (lks (⟨kO 1998, kA 1998⟩ : Rp)) [108, 101, 97, 107, 32, 108, 101, 97, 107, 32, 108, 101, 97, 107, 32, 108, 101, 97, 107, 32, 108, 101, 97, 107] = 1998 from k_cnt hW_] at h_; exact h_)) h85 fun _ h87 => ?_
 refine go [] <| cP Tryd.call21 (rtags_ht b10 (⟨kO 1998, kA 1998⟩ : Rp)) h87 ?_
 rintro v K _ (⟨Tg88, p89, cap90, hT91, rfl, rfl⟩) h93
 have h94 := ap2 h93
 obtain ⟨hn95, hn96⟩ := sl_le h94
 have ht97 := k_tags (by decide) hW_ hT91
 have h98 := tk4 (sf3 (sf2 (sf2 (sf3 h94))))
 refine go [.v 19 20 (qeT (((Tg88.length : Nat) : Int)) 1)] <| cl1 Tryd.call11 (works_ht wo hg) h98 fun _ h100 => go [] ?_
 exact en (.bool true) [] ⟨_, _, rfl, ⟨rfl, rfl⟩, (tk2 (sf1 (sf3 h100)))⟩

end Go.Proofs.YtfoliffeieeihaaDoor
