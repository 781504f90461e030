/- Walks, printed by my generator o19.py. -/
import Derived.Test.YtggfnbpohmhphaaGreatDoorBundle36
namespace Go.Proofs.YtggfnbpohmhphaaGreatDoor
set_option maxHeartbeats 4000000 in
theorem refuses_a (wo : World) (hg : Lett wo) (p0 : Option Addr) (n0 c0 : Nat) (T0 : List Sq) (hr0 : Rd wo p0 n0 (fl eSq T0)) (hT0 : T0.length = n0) (hO0 : ∀ x ∈ T0, SqOk x) (x y z wy t : Int) (hz0 : 0 ≤ z) (hz1 : z ≤ 4294967295) (ho : ¬ (1 ≤ x ∧ x ≤ 3 ∧ 0 ≤ y ∧ y ≤ 63 ∧ 1 ≤ z)) : HT Tryz.prog 5 [.slice p0 n0 c0, .agg #[iV x, iV y, uV z], iV wy, iV t] [Old wo] (fun v K => v = .bool true ∧ K = [Old wo]) := by
 refine hiS Tryz.func5 Tryz.ntmps5 fun g w0 R h0 => ?_
 have hG_ : ¬ KGood (x, y, z) := ho
 have hmt_ := mds_T (wok_new (g := 1) (by decide)) T0 n0; have hmz_ : (wnew 1).T.length = 0 := rfl
 have hT : ¬ Thr (mdS (wnew 1) T0 n0) (x, y, z) := fun q => hG_ q.1
 have hT2_ : ¬ Thr (renS (mdS (wnew 1) T0 n0) ((x, y, z) : Ky) t) (x, y, z) := fun q => hT ((ren_thr _ _ _ _).1 q)
 refine go [] <| nP 32 [iV x, iV y, uV z] h0 (fun r10 _ h12 => ?_)
 refine go [] ?_
 by_cases c13 : (n0 : Int) ≤ 100
 ·
  rcases Bool.eq_false_or_eq_true (decide (Sho T0 100)) with cb14 | cb14
  ·
   refine cl1 Tryz.call11 ((by have h_ := short_ht p0 n0 c0 T0 (Old wo) (gv_old hr0) hT0 (by omega) 100; rw [cb14] at h_; exact h_)) (tk3 (sf2 (sf1 (sf2 h12)))) fun _ h17 => ?_
   have hsh18 : Sho T0 100 := of_decide_eq_true cb14; have hsh18l := hsh18.1; rw [hT0] at hsh18l
   refine go [] <| cP Tryz.call22 (made_ht wo hg p0 n0 c0 T0 hr0 hT0 hO0 hsh18.2 (by omega)) h17 ?_
   rintro v K _ (⟨b19, rfl, rfl⟩) h21
   have h22 := ap2 h21
   refine go [] <| cP Tryz.call19 (wall_ht b19 (mdS (wnew 1) T0 n0)) h22 ?_
   rintro v K _ (⟨p23, c24, rfl, rfl⟩) h26
   have h27 := ap2 h26
   have hl28 := allS_le (wd_get (j := 1) h27 rfl)
   have h30 := tk5 (sf4 (sf3 (sf4 (sf4 (sf4 h27)))))
   refine go [] <| cP Tryz.call17 (wledg_ht b19 (mdS (wnew 1) T0 n0)) h30 ?_
   rintro v K _ (⟨b29, rfl, rfl⟩) h32
   refine cl1 Tryz.call23 (lglen_ht b29 ((mdS (wnew 1) T0 n0).T)) (tk6 (sf5 (sf4 (sf5 (sf5 (sf5 (sf5 (ap2 h32)))))))) fun _ h36 => ?_
   have h37 := tk6 (sf5 (sf4 (sf5 (sf5 (sf5 (sf5 h36))))))
   refine go [] <| cl1 Tryz.call20 (wnow_ht b19 (mdS (wnew 1) T0 n0)) h37 fun _ h39 => go [rd 7 0 4 0 3 h39] <| cl0 Tryz.call15 (couter_no x y z (by omega) (by omega) (by omega)) h39 fun _ h41 => go [rd 8 1 4 0 3 h41] <| cl1 Tryz.call24 ((by have h_ := wuntil_ht b19 (mdS (wnew 1) T0 n0) x y z (by omega) (by omega); have h2_ := unt_arg (S := (mdS (wnew 1) T0 n0)) hG_; rw [show untE (mdS (wnew 1) T0 n0) ((x, y, z) : Ky) = 2 from h2_.1, show untV (mdS (wnew 1) T0 n0) ((x, y, z) : Ky) = 0 from h2_.2] at h_; exact h_)) h41 fun _ h43 => ?_
   refine go [rd 9 1 4 0 3 h43] <| cl1 Tryz.call25 ((by have h_ := wrenew_ht b19 (mdS (wnew 1) T0 n0) x y z t (by omega) (by omega); rw [show renE (mdS (wnew 1) T0 n0) ((x, y, z) : Ky) t = 2 from ren_arg (.inl hG_)] at h_; exact h_)) h43 fun _ h45 => ?_
   refine go [.s 10 100000] ?_
   refine jnS (fun a w => ∃ sp : Bool, ∃ lr : Fr, (sp = decide (1 ≤ t ∧ t ≤ 1048576)) ∧ a = mk 201 (([(2, iV wy), (5, pV r10), (9, pV b19), (10, .slice p23 (((allS (mdS (wnew 1) T0 n0)).length)) c24), (11, iV (((((mdS (wnew 1) T0 n0).T).length : Nat) : Int))), (12, iV ((mdS (wnew 1) T0 n0).now)), (13, .bool false), (15, iV 2), (16, iV 2), (17, .bool (sp))] : Fr) ++ lr) ∧ sat g w [Wd b19 (renS (mdS (wnew 1) T0 n0) ((x, y, z) : Ky) t), Lg b29 ((mdS (wnew 1) T0 n0).T), Sl 32 3 p23 (((allS (mdS (wnew 1) T0 n0)).length)) c24 (fl eO (allS (mdS (wnew 1) T0 n0))), Old wo, Cl r10 [iV x, iV y, uV z] 32, R]) ?_ ?_
   ·
    refine go [.s 10 1] ?_
    by_cases c46 : t ≥ 1
    ·
     refine go [.v 10 1 (oT (t ≥ 1)), .s 10 4] ?_
     by_cases c47 : t ≤ 1048576
     ·
      refine go [.v 10 4 (oT (t ≤ 1048576))] ?_
      refine enL ?_
      exact ⟨true, _, (decide_eq_true (⟨by omega, by omega⟩)).symm, (lvF [.k 2 (iV wy), .k 5 (pV r10), .k 9 (pV b19), .k 10 (.slice p23 (((allS (mdS (wnew 1) T0 n0)).length)) c24), .k 11 (iV (((((mdS (wnew 1) T0 n0).T).length : Nat) : Int))), .k 12 (iV ((mdS (wnew 1) T0 n0).now)), .k 13 (.bool false), .k 15 (iV 2), .k 16 (iV 2), .k 17 (.bool (true))]), h45⟩
     refine go [.v 10 4 (oF (t ≤ 1048576))] ?_
     refine enL ?_
     exact ⟨false, _, (decide_eq_false (by omega)).symm, (lvF [.k 2 (iV wy), .k 5 (pV r10), .k 9 (pV b19), .k 10 (.slice p23 (((allS (mdS (wnew 1) T0 n0)).length)) c24), .k 11 (iV (((((mdS (wnew 1) T0 n0).T).length : Nat) : Int))), .k 12 (iV ((mdS (wnew 1) T0 n0).now)), .k 13 (.bool false), .k 15 (iV 2), .k 16 (iV 2), .k 17 (.bool (false))]), h45⟩
    refine go [.v 10 1 (oF (t ≥ 1))] ?_
    refine enL ?_
    exact ⟨false, _, (decide_eq_false (by omega)).symm, (lvF [.k 2 (iV wy), .k 5 (pV r10), .k 9 (pV b19), .k 10 (.slice p23 (((allS (mdS (wnew 1) T0 n0)).length)) c24), .k 11 (iV (((((mdS (wnew 1) T0 n0).T).length : Nat) : Int))), .k 12 (iV ((mdS (wnew 1) T0 n0).now)), .k 13 (.bool false), .k 15 (iV 2), .k 16 (iV 2), .k 17 (.bool (false))]), h45⟩
   rintro a48 w49 ⟨sp, lr51, hsp_, rfl, h50⟩
   refine ga <| go [.s 13 100000] ?_
   refine jnS (fun a w => ∃ lr : Fr, a = mk 201 (([(2, iV wy), (5, pV r10), (9, pV b19), (10, .slice p23 (((allS (mdS (wnew 1) T0 n0)).length)) c24), (11, iV (((((mdS (wnew 1) T0 n0).T).length : Nat) : Int))), (12, iV ((mdS (wnew 1) T0 n0).now)), (13, .bool false)] : Fr) ++ lr) ∧ sat g w [Wd b19 (renS (mdS (wnew 1) T0 n0) ((x, y, z) : Ky) t), Lg b29 ((mdS (wnew 1) T0 n0).T), Sl 32 3 p23 (((allS (mdS (wnew 1) T0 n0)).length)) c24 (fl eO (allS (mdS (wnew 1) T0 n0))), Old wo, Cl r10 [iV x, iV y, uV z] 32, R]) ?_ ?_
   ·
    refine go [] ?_
    refine enL ?_
    exact ⟨_, (lvF [.k 2 (iV wy), .k 5 (pV r10), .k 9 (pV b19), .k 10 (.slice p23 (((allS (mdS (wnew 1) T0 n0)).length)) c24), .k 11 (iV (((((mdS (wnew 1) T0 n0).T).length : Nat) : Int))), .k 12 (iV ((mdS (wnew 1) T0 n0).now)), .k 13 (.bool false)]), h50⟩
   rintro a52 w53 ⟨lr55, rfl, h54⟩
   refine ga <| go [] <| cP Tryz.call19 ((by have h_ := wall_ht b19 (renS (mdS (wnew 1) T0 n0) ((x, y, z) : Ky) t); rw [ren_all] at h_; exact h_)) h54 ?_
   rintro v K _ (⟨p56, c57, rfl, rfl⟩) h59
   have h61 := tk7 (sf6 (sf6 (sf5 (sf5 (sf6 (sf6 (sf6 (ap2 h59))))))))
   refine go [] <| cl2 Tryz.call26 ((by have h_ := same_ht p56 p23 (((allS (mdS (wnew 1) T0 n0)).length)) (((allS (mdS (wnew 1) T0 n0)).length)) c57 c24 (allS (mdS (wnew 1) T0 n0)) (allS (mdS (wnew 1) T0 n0)) (Sl 32 3 p56 (((allS (mdS (wnew 1) T0 n0)).length)) c57 (fl eO (allS (mdS (wnew 1) T0 n0)))) (Sl 32 3 p23 (((allS (mdS (wnew 1) T0 n0)).length)) c24 (fl eO (allS (mdS (wnew 1) T0 n0)))) (gv_sl _ _ _) (gv_sl _ _ _) rfl rfl (by omega); rw [show decide ((allS (mdS (wnew 1) T0 n0)) = (allS (mdS (wnew 1) T0 n0))) = true from decide_eq_true rfl] at h_; exact h_)) h61 fun _ h63 => ?_
   have h65 := tk7 (sf6 (sf5 (sf5 (sf6 (sf6 (sf6 (sf6 h63)))))))
   refine go [] <| cP Tryz.call17 ((by have h_ := wledg_ht b19 (renS (mdS (wnew 1) T0 n0) ((x, y, z) : Ky) t); rw [(ren_T _ _ _).1] at h_; exact h_)) h65 ?_
   rintro v K _ (⟨b64, rfl, rfl⟩) h67
   refine cl1 Tryz.call23 (lglen_ht b64 ((mdS (wnew 1) T0 n0).T)) (tk8 (sf7 (sf6 (sf7 (sf7 (sf7 (sf7 (sf7 (sf7 (ap2 h67)))))))))) fun _ h71 => ?_
   have h72 := tk8 (sf7 (sf6 (sf7 (sf7 (sf7 (sf7 (sf7 (sf7 h71))))))))
   refine go [.v 22 10 (qnF (((((mdS (wnew 1) T0 n0).T).length : Nat) : Int)) (((((mdS (wnew 1) T0 n0).T).length : Nat) : Int)))] <| cl1 Tryz.call20 ((by have h_ := wnow_ht b19 (renS (mdS (wnew 1) T0 n0) ((x, y, z) : Ky) t); rw [(ren_T _ _ _).2.1] at h_; exact h_)) h72 fun _ h74 => ?_
   refine go [.v 22 16 (qnF ((mdS (wnew 1) T0 n0).now) ((mdS (wnew 1) T0 n0).now)), rd 24 1 6 0 3 h74] <| cl1 Tryz.call16 ((by have h_ := whas_ht b19 (renS (mdS (wnew 1) T0 n0) ((x, y, z) : Ky) t) x y z (by omega) (by omega); rw [decide_eq_false (show ¬ Thr (renS (mdS (wnew 1) T0 n0) ((x, y, z) : Ky) t) (x, y, z) from hT2_)] at h_; exact h_)) h74 fun _ h76 => ?_
   refine go [rd 25 1 6 0 3 h76] <| cl1 Tryz.call27 ((by have h_ := wrel_ht b19 (renS (mdS (wnew 1) T0 n0) ((x, y, z) : Ky) t) x y z wy (by omega) (by omega); have h2_ := rel_arg (S := (renS (mdS (wnew 1) T0 n0) ((x, y, z) : Ky) t)) (o := ((x, y, z) : Ky)) (wy := wy) (.inl hG_); rw [show relE (renS (mdS (wnew 1) T0 n0) ((x, y, z) : Ky) t) ((x, y, z) : Ky) wy = 2 from h2_.1, show relA (renS (mdS (wnew 1) T0 n0) ((x, y, z) : Ky) t) ((x, y, z) : Ky) wy = 0 from h2_.2.1, show relS (renS (mdS (wnew 1) T0 n0) ((x, y, z) : Ky) t) ((x, y, z) : Ky) wy = (renS (mdS (wnew 1) T0 n0) ((x, y, z) : Ky) t) from h2_.2.2] at h_; exact h_)) h76 fun _ h78 => ?_
   refine go [] <| cP Tryz.call19 ((by have h_ := wall_ht b19 (renS (mdS (wnew 1) T0 n0) ((x, y, z) : Ky) t); rw [ren_all] at h_; exact h_)) h78 ?_
   rintro v K _ (⟨p79, c80, rfl, rfl⟩) h82
   have h84 := tk9 (sf8 (sf8 (sf7 (sf7 (sf7 (sf8 (sf8 (sf8 (sf8 (ap2 h82))))))))))
   refine go [] <| cl2 Tryz.call26 ((by have h_ := same_ht p79 p23 (((allS (mdS (wnew 1) T0 n0)).length)) (((allS (mdS (wnew 1) T0 n0)).length)) c80 c24 (allS (mdS (wnew 1) T0 n0)) (allS (mdS (wnew 1) T0 n0)) (Sl 32 3 p79 (((allS (mdS (wnew 1) T0 n0)).length)) c80 (fl eO (allS (mdS (wnew 1) T0 n0)))) (Sl 32 3 p23 (((allS (mdS (wnew 1) T0 n0)).length)) c24 (fl eO (allS (mdS (wnew 1) T0 n0)))) (gv_sl _ _ _) (gv_sl _ _ _) rfl rfl (by omega); rw [show decide ((allS (mdS (wnew 1) T0 n0)) = (allS (mdS (wnew 1) T0 n0))) = true from decide_eq_true rfl] at h_; exact h_)) h84 fun _ h86 => ?_
   have h87 := tk9 (sf8 (sf7 (sf7 (sf7 (sf7 (sf7 (sf7 (sf8 (sf8 h86)))))))))
   refine go [] <| cl1 Tryz.call12 (works_ht wo hg) h87 fun _ h89 => go [] ?_
   exact en (.bool true) [] ⟨_, _, rfl, ⟨rfl, rfl⟩, (tk2 (sf1 (sf8 h89)))⟩
  refine cl1 Tryz.call11 ((by have h_ := short_ht p0 n0 c0 T0 (Old wo) (gv_old hr0) hT0 (by omega) 100; rw [cb14] at h_; exact h_)) (tk3 (sf2 (sf1 (sf2 h12)))) fun _ h93 => ?_
  refine go [] <| cl1 Tryz.call12 (works_ht wo hg) h93 fun _ h95 => go [] ?_
  exact en (.bool true) [] ⟨_, _, rfl, ⟨rfl, rfl⟩, (tk2 (sf1 (sf2 h95)))⟩
 refine cl0 Tryz.call11 (short_no p0 n0 c0 100 (by omega)) h12 fun _ h98 => ?_
 have h99 := tk3 (sf2 (sf1 (sf2 h98)))
 refine go [] <| cl1 Tryz.call12 (works_ht wo hg) h99 fun _ h101 => go [] ?_
 exact en (.bool true) [] ⟨_, _, rfl, ⟨rfl, rfl⟩, (tk2 (sf1 (sf2 h101)))⟩

set_option maxHeartbeats 4000000 in
theorem refuses_bt (wo : World) (hg : Lett wo) (p0 : Option Addr) (n0 c0 : Nat) (T0 : List Sq) (hr0 : Rd wo p0 n0 (fl eSq T0)) (hT0 : T0.length = n0) (hO0 : ∀ x ∈ T0, SqOk x) (x y z wy t : Int) (hz0 : 0 ≤ z) (hz1 : z ≤ 4294967295) (ho : 1 ≤ x ∧ x ≤ 3 ∧ 0 ≤ y ∧ y ≤ 63 ∧ 1 ≤ z) (hx : x ≠ 3) (hT : Thr (mdS (wnew 1) T0 n0) (x, y, z)) : HT Tryz.prog 5 [.slice p0 n0 c0, .agg #[iV x, iV y, uV z], iV wy, iV t] [Old wo] (fun v K => v = .bool true ∧ K = [Old wo]) := by
 refine hiS Tryz.func5 Tryz.ntmps5 fun g w0 R h0 => ?_
 have hG_ : KGood (x, y, z) := ho
 have hmt_ := mds_T (wok_new (g := 1) (by decide)) T0 n0; have hmz_ : (wnew 1).T.length = 0 := rfl
 have hT2_ : Thr (renS (mdS (wnew 1) T0 n0) ((x, y, z) : Ky) t) (x, y, z) := (ren_thr _ _ _ _).2 hT
 refine go [] <| nP 32 [iV x, iV y, uV z] h0 (fun r10 _ h12 => ?_)
 refine go [] ?_
 by_cases c13 : (n0 : Int) ≤ 100
 ·
  rcases Bool.eq_false_or_eq_true (decide (Sho T0 100)) with cb14 | cb14
  ·
   refine cl1 Tryz.call11 ((by have h_ := short_ht p0 n0 c0 T0 (Old wo) (gv_old hr0) hT0 (by omega) 100; rw [cb14] at h_; exact h_)) (tk3 (sf2 (sf1 (sf2 h12)))) fun _ h17 => ?_
   have hsh18 : Sho T0 100 := of_decide_eq_true cb14; have hsh18l := hsh18.1; rw [hT0] at hsh18l
   refine go [] <| cP Tryz.call22 (made_ht wo hg p0 n0 c0 T0 hr0 hT0 hO0 hsh18.2 (by omega)) h17 ?_
   rintro v K _ (⟨b19, rfl, rfl⟩) h21
   have h22 := ap2 h21
   refine go [] <| cP Tryz.call19 (wall_ht b19 (mdS (wnew 1) T0 n0)) h22 ?_
   rintro v K _ (⟨p23, c24, rfl, rfl⟩) h26
   have h27 := ap2 h26
   have hl28 := allS_le (wd_get (j := 1) h27 rfl)
   have h30 := tk5 (sf4 (sf3 (sf4 (sf4 (sf4 h27)))))
   refine go [] <| cP Tryz.call17 (wledg_ht b19 (mdS (wnew 1) T0 n0)) h30 ?_
   rintro v K _ (⟨b29, rfl, rfl⟩) h32
   refine cl1 Tryz.call23 (lglen_ht b29 ((mdS (wnew 1) T0 n0).T)) (tk6 (sf5 (sf4 (sf5 (sf5 (sf5 (sf5 (ap2 h32)))))))) fun _ h36 => ?_
   have h37 := tk6 (sf5 (sf4 (sf5 (sf5 (sf5 (sf5 h36))))))
   refine go [] <| cl1 Tryz.call20 (wnow_ht b19 (mdS (wnew 1) T0 n0)) h37 fun _ h39 => go [rd 7 0 4 0 3 h39] <| cl0 Tryz.call15 (couter_ok x y z (by omega) (by omega) (by omega)) h39 fun _ h41 => go [rd 8 1 4 0 3 h41] <| cl1 Tryz.call24 ((by have h_ := wuntil_ht b19 (mdS (wnew 1) T0 n0) x y z (by omega) (by omega); have h2_ := unt_kind (S := (mdS (wnew 1) T0 n0)) (o := ((x, y, z) : Ky)) hG_ (show x ≠ 3 from by omega); rw [show untE (mdS (wnew 1) T0 n0) ((x, y, z) : Ky) = 8 from h2_.1, show untV (mdS (wnew 1) T0 n0) ((x, y, z) : Ky) = 0 from h2_.2] at h_; exact h_)) h41 fun _ h43 => ?_
   refine go [rd 9 1 4 0 3 h43] <| cl1 Tryz.call25 (wrenew_ht b19 (mdS (wnew 1) T0 n0) x y z t (by omega) (by omega)) h43 fun _ h45 => ?_
   have hrs_ : (1 ≤ t ∧ t ≤ 1048576) → renE (mdS (wnew 1) T0 n0) ((x, y, z) : Ky) t = 8 := fun h_ => ren_kind hG_ h_ (show x ≠ 3 from by omega)
   have hrn_ : ¬ (1 ≤ t ∧ t ≤ 1048576) → renE (mdS (wnew 1) T0 n0) ((x, y, z) : Ky) t = 2 := fun h_ => ren_arg (.inr (by omega))
   refine go [.s 10 100000] ?_
   refine jnS (fun a w => ∃ sp : Bool, ∃ lr : Fr, (sp = decide (1 ≤ t ∧ t ≤ 1048576)) ∧ a = mk 201 (([(2, iV wy), (5, pV r10), (9, pV b19), (10, .slice p23 (((allS (mdS (wnew 1) T0 n0)).length)) c24), (11, iV (((((mdS (wnew 1) T0 n0).T).length : Nat) : Int))), (12, iV ((mdS (wnew 1) T0 n0).now)), (13, .bool true), (15, iV 8), (16, iV ((renE (mdS (wnew 1) T0 n0) ((x, y, z) : Ky) t))), (17, .bool (sp))] : Fr) ++ lr) ∧ sat g w [Wd b19 (renS (mdS (wnew 1) T0 n0) ((x, y, z) : Ky) t), Lg b29 ((mdS (wnew 1) T0 n0).T), Sl 32 3 p23 (((allS (mdS (wnew 1) T0 n0)).length)) c24 (fl eO (allS (mdS (wnew 1) T0 n0))), Old wo, Cl r10 [iV x, iV y, uV z] 32, R]) ?_ ?_
   ·
    refine go [.s 10 1] ?_
    by_cases c46 : t ≥ 1
    ·
     refine go [.v 10 1 (oT (t ≥ 1)), .s 10 4] ?_
     by_cases c47 : t ≤ 1048576
     ·
      refine go [.v 10 4 (oT (t ≤ 1048576))] ?_
      refine enL ?_
      exact ⟨true, _, (decide_eq_true (⟨by omega, by omega⟩)).symm, (lvF [.k 2 (iV wy), .k 5 (pV r10), .k 9 (pV b19), .k 10 (.slice p23 (((allS (mdS (wnew 1) T0 n0)).length)) c24), .k 11 (iV (((((mdS (wnew 1) T0 n0).T).length : Nat) : Int))), .k 12 (iV ((mdS (wnew 1) T0 n0).now)), .k 13 (.bool true), .k 15 (iV 8), .k 16 (iV ((renE (mdS (wnew 1) T0 n0) ((x, y, z) : Ky) t))), .k 17 (.bool (true))]), h45⟩
     refine go [.v 10 4 (oF (t ≤ 1048576))] ?_
     refine enL ?_
     exact ⟨false, _, (decide_eq_false (by omega)).symm, (lvF [.k 2 (iV wy), .k 5 (pV r10), .k 9 (pV b19), .k 10 (.slice p23 (((allS (mdS (wnew 1) T0 n0)).length)) c24), .k 11 (iV (((((mdS (wnew 1) T0 n0).T).length : Nat) : Int))), .k 12 (iV ((mdS (wnew 1) T0 n0).now)), .k 13 (.bool true), .k 15 (iV 8), .k 16 (iV ((renE (mdS (wnew 1) T0 n0) ((x, y, z) : Ky) t))), .k 17 (.bool (false))]), h45⟩
    refine go [.v 10 1 (oF (t ≥ 1))] ?_
    refine enL ?_
    exact ⟨false, _, (decide_eq_false (by omega)).symm, (lvF [.k 2 (iV wy), .k 5 (pV r10), .k 9 (pV b19), .k 10 (.slice p23 (((allS (mdS (wnew 1) T0 n0)).length)) c24), .k 11 (iV (((((mdS (wnew 1) T0 n0).T).length : Nat) : Int))), .k 12 (iV ((mdS (wnew 1) T0 n0).now)), .k 13 (.bool true), .k 15 (iV 8), .k 16 (iV ((renE (mdS (wnew 1) T0 n0) ((x, y, z) : Ky) t))), .k 17 (.bool (false))]), h45⟩
   rintro a48 w49 ⟨sp, lr51, hsp_, rfl, h50⟩
   refine ga <| go [.s 13 100000] ?_
   refine jnS (fun a w => ∃ lr : Fr, a = mk 201 (([(2, iV wy), (5, pV r10), (9, pV b19), (10, .slice p23 (((allS (mdS (wnew 1) T0 n0)).length)) c24), (11, iV (((((mdS (wnew 1) T0 n0).T).length : Nat) : Int))), (12, iV ((mdS (wnew 1) T0 n0).now)), (13, .bool true)] : Fr) ++ lr) ∧ sat g w [Wd b19 (renS (mdS (wnew 1) T0 n0) ((x, y, z) : Ky) t), Lg b29 ((mdS (wnew 1) T0 n0).T), Sl 32 3 p23 (((allS (mdS (wnew 1) T0 n0)).length)) c24 (fl eO (allS (mdS (wnew 1) T0 n0))), Old wo, Cl r10 [iV x, iV y, uV z] 32, R]) ?_ ?_
   ·
    refine go [rd 16 1 4 0 1 h50, .v 16 2 (qnT x 3), .s 17 3] ?_
    rcases Bool.eq_false_or_eq_true sp with cb52 | cb52
    ·
     have hq53 := hrs_ (of_decide_eq_true (hsp_.symm.trans cb52))
     refine go [.v 17 3 (⟨.bool sp, .bool true, (by rw [cb52])⟩), .v 17 6 (qnF ((renE (mdS (wnew 1) T0 n0) ((x, y, z) : Ky) t)) 8), .v 17 10 (⟨.bool sp, .bool true, (by rw [cb52])⟩)] ?_
     refine enL ?_
     exact ⟨_, (lvF [.k 2 (iV wy), .k 5 (pV r10), .k 9 (pV b19), .k 10 (.slice p23 (((allS (mdS (wnew 1) T0 n0)).length)) c24), .k 11 (iV (((((mdS (wnew 1) T0 n0).T).length : Nat) : Int))), .k 12 (iV ((mdS (wnew 1) T0 n0).now)), .k 13 (.bool true)]), h50⟩
    have hq54 := hrn_ (of_decide_eq_false (hsp_.symm.trans cb52))
    refine go [.v 17 3 (⟨.bool sp, .bool false, (by rw [cb52])⟩), .v 17 10 (⟨.bool sp, .bool false, (by rw [cb52])⟩), .v 17 14 (qnF ((renE (mdS (wnew 1) T0 n0) ((x, y, z) : Ky) t)) 2)] ?_
    refine enL ?_
    exact ⟨_, (lvF [.k 2 (iV wy), .k 5 (pV r10), .k 9 (pV b19), .k 10 (.slice p23 (((allS (mdS (wnew 1) T0 n0)).length)) c24), .k 11 (iV (((((mdS (wnew 1) T0 n0).T).length : Nat) : Int))), .k 12 (iV ((mdS (wnew 1) T0 n0).now)), .k 13 (.bool true)]), h50⟩
   rintro a55 w56 ⟨lr58, rfl, h57⟩
   refine ga <| go [] <| cP Tryz.call19 ((by have h_ := wall_ht b19 (renS (mdS (wnew 1) T0 n0) ((x, y, z) : Ky) t); rw [ren_all] at h_; exact h_)) h57 ?_
   rintro v K _ (⟨p59, c60, rfl, rfl⟩) h62
   have h64 := tk7 (sf6 (sf6 (sf5 (sf5 (sf6 (sf6 (sf6 (ap2 h62))))))))
   refine go [] <| cl2 Tryz.call26 ((by have h_ := same_ht p59 p23 (((allS (mdS (wnew 1) T0 n0)).length)) (((allS (mdS (wnew 1) T0 n0)).length)) c60 c24 (allS (mdS (wnew 1) T0 n0)) (allS (mdS (wnew 1) T0 n0)) (Sl 32 3 p59 (((allS (mdS (wnew 1) T0 n0)).length)) c60 (fl eO (allS (mdS (wnew 1) T0 n0)))) (Sl 32 3 p23 (((allS (mdS (wnew 1) T0 n0)).length)) c24 (fl eO (allS (mdS (wnew 1) T0 n0)))) (gv_sl _ _ _) (gv_sl _ _ _) rfl rfl (by omega); rw [show decide ((allS (mdS (wnew 1) T0 n0)) = (allS (mdS (wnew 1) T0 n0))) = true from decide_eq_true rfl] at h_; exact h_)) h64 fun _ h66 => ?_
   have h68 := tk7 (sf6 (sf5 (sf5 (sf6 (sf6 (sf6 (sf6 h66)))))))
   refine go [] <| cP Tryz.call17 ((by have h_ := wledg_ht b19 (renS (mdS (wnew 1) T0 n0) ((x, y, z) : Ky) t); rw [(ren_T _ _ _).1] at h_; exact h_)) h68 ?_
   rintro v K _ (⟨b67, rfl, rfl⟩) h70
   refine cl1 Tryz.call23 (lglen_ht b67 ((mdS (wnew 1) T0 n0).T)) (tk8 (sf7 (sf6 (sf7 (sf7 (sf7 (sf7 (sf7 (sf7 (ap2 h70)))))))))) fun _ h74 => ?_
   have h75 := tk8 (sf7 (sf6 (sf7 (sf7 (sf7 (sf7 (sf7 (sf7 h74))))))))
   refine go [.v 22 10 (qnF (((((mdS (wnew 1) T0 n0).T).length : Nat) : Int)) (((((mdS (wnew 1) T0 n0).T).length : Nat) : Int)))] <| cl1 Tryz.call20 ((by have h_ := wnow_ht b19 (renS (mdS (wnew 1) T0 n0) ((x, y, z) : Ky) t); rw [(ren_T _ _ _).2.1] at h_; exact h_)) h75 fun _ h77 => ?_
   refine go [.v 22 16 (qnF ((mdS (wnew 1) T0 n0).now) ((mdS (wnew 1) T0 n0).now)), rd 24 1 6 0 3 h77] <| cl1 Tryz.call16 ((by have h_ := whas_ht b19 (renS (mdS (wnew 1) T0 n0) ((x, y, z) : Ky) t) x y z (by omega) (by omega); rw [decide_eq_true (show Thr (renS (mdS (wnew 1) T0 n0) ((x, y, z) : Ky) t) (x, y, z) from hT2_)] at h_; exact h_)) h77 fun _ h79 => ?_
   refine go [rd 25 1 6 0 3 h79] ?_
   by_cases c80 : 1 ≤ wy
   ·
    by_cases c81 : wy ≤ 3
    ·
     have hre_ : relE (renS (mdS (wnew 1) T0 n0) ((x, y, z) : Ky) t) ((x, y, z) : Ky) wy = 0 := (rel_ok (o := ((x, y, z) : Ky)) ⟨by omega, by omega⟩ hT2_ (by rw [(ren_T _ _ _).1]; omega)).1
     refine cl1 Tryz.call27 ((by have h_ := wrel_ht b19 (renS (mdS (wnew 1) T0 n0) ((x, y, z) : Ky) t) x y z wy (by omega) (by omega); rw [hre_] at h_; exact h_)) h79 fun _ h83 => ?_
     refine go [.v 26 4 (oF (wy < 1)), .v 26 8 (oF (wy > 3))] <| cP Tryz.call17 (wledg_ht b19 (relS (renS (mdS (wnew 1) T0 n0) ((x, y, z) : Ky) t) ((x, y, z) : Ky) wy)) h83 ?_
     rintro v K _ (⟨b84, rfl, rfl⟩) h86
     have h87 := ap2 h86
     have hnt_ : (((relS (renS (mdS (wnew 1) T0 n0) ((x, y, z) : Ky) t) ((x, y, z) : Ky) wy).T).length) = (((mdS (wnew 1) T0 n0).T).length) + 1 := by rw [(rel_T hre_).1, (ren_T _ _ _).1, List.length_append]; rfl
     refine cl1 Tryz.call23 (lglen_ht b84 ((relS (renS (mdS (wnew 1) T0 n0) ((x, y, z) : Ky) t) ((x, y, z) : Ky) wy).T)) (tk9 (sf8 (sf7 (sf8 (sf8 (sf8 (sf8 (sf8 (sf8 (sf8 h87)))))))))) fun _ h90 => ?_
     have h91 := tk9 (sf8 (sf7 (sf7 (sf7 (sf7 (sf7 (sf7 (sf8 (sf8 h90)))))))))
     refine go [.v 30 7 (oIr ((((((mdS (wnew 1) T0 n0).T).length : Nat) : Int)) + 1)), .v 30 8 (qeT (((((relS (renS (mdS (wnew 1) T0 n0) ((x, y, z) : Ky) t) ((x, y, z) : Ky) wy).T).length : Nat) : Int)) (((((mdS (wnew 1) T0 n0).T).length : Nat) : Int) + 1))] <| cl1 Tryz.call12 (works_ht wo hg) h91 fun _ h93 => go [] ?_
     exact en (.bool true) [] ⟨_, _, rfl, ⟨rfl, rfl⟩, (tk2 (sf1 (sf8 h93)))⟩
    refine cl1 Tryz.call27 ((by have h_ := wrel_ht b19 (renS (mdS (wnew 1) T0 n0) ((x, y, z) : Ky) t) x y z wy (by omega) (by omega); have h2_ := rel_arg (S := (renS (mdS (wnew 1) T0 n0) ((x, y, z) : Ky) t)) (o := ((x, y, z) : Ky)) (wy := wy) (.inr (by omega)); rw [show relE (renS (mdS (wnew 1) T0 n0) ((x, y, z) : Ky) t) ((x, y, z) : Ky) wy = 2 from h2_.1, show relA (renS (mdS (wnew 1) T0 n0) ((x, y, z) : Ky) t) ((x, y, z) : Ky) wy = 0 from h2_.2.1, show relS (renS (mdS (wnew 1) T0 n0) ((x, y, z) : Ky) t) ((x, y, z) : Ky) wy = (renS (mdS (wnew 1) T0 n0) ((x, y, z) : Ky) t) from h2_.2.2] at h_; exact h_)) h79 fun _ h96 => ?_
    refine go [.v 26 4 (oF (wy < 1)), .v 26 8 (oT (wy > 3))] <| cP Tryz.call19 ((by have h_ := wall_ht b19 (renS (mdS (wnew 1) T0 n0) ((x, y, z) : Ky) t); rw [ren_all] at h_; exact h_)) h96 ?_
    rintro v K _ (⟨p97, c98, rfl, rfl⟩) h100
    have h102 := tk9 (sf8 (sf8 (sf7 (sf7 (sf7 (sf8 (sf8 (sf8 (sf8 (ap2 h100))))))))))
    refine go [] <| cl2 Tryz.call26 ((by have h_ := same_ht p97 p23 (((allS (mdS (wnew 1) T0 n0)).length)) (((allS (mdS (wnew 1) T0 n0)).length)) c98 c24 (allS (mdS (wnew 1) T0 n0)) (allS (mdS (wnew 1) T0 n0)) (Sl 32 3 p97 (((allS (mdS (wnew 1) T0 n0)).length)) c98 (fl eO (allS (mdS (wnew 1) T0 n0)))) (Sl 32 3 p23 (((allS (mdS (wnew 1) T0 n0)).length)) c24 (fl eO (allS (mdS (wnew 1) T0 n0)))) (gv_sl _ _ _) (gv_sl _ _ _) rfl rfl (by omega); rw [show decide ((allS (mdS (wnew 1) T0 n0)) = (allS (mdS (wnew 1) T0 n0))) = true from decide_eq_true rfl] at h_; exact h_)) h102 fun _ h104 => ?_
    have h105 := tk9 (sf8 (sf7 (sf7 (sf7 (sf7 (sf7 (sf7 (sf8 (sf8 h104)))))))))
    refine go [] <| cl1 Tryz.call12 (works_ht wo hg) h105 fun _ h107 => go [] ?_
    exact en (.bool true) [] ⟨_, _, rfl, ⟨rfl, rfl⟩, (tk2 (sf1 (sf8 h107)))⟩
   refine cl1 Tryz.call27 ((by have h_ := wrel_ht b19 (renS (mdS (wnew 1) T0 n0) ((x, y, z) : Ky) t) x y z wy (by omega) (by omega); have h2_ := rel_arg (S := (renS (mdS (wnew 1) T0 n0) ((x, y, z) : Ky) t)) (o := ((x, y, z) : Ky)) (wy := wy) (.inr (by omega)); rw [show relE (renS (mdS (wnew 1) T0 n0) ((x, y, z) : Ky) t) ((x, y, z) : Ky) wy = 2 from h2_.1, show relA (renS (mdS (wnew 1) T0 n0) ((x, y, z) : Ky) t) ((x, y, z) : Ky) wy = 0 from h2_.2.1, show relS (renS (mdS (wnew 1) T0 n0) ((x, y, z) : Ky) t) ((x, y, z) : Ky) wy = (renS (mdS (wnew 1) T0 n0) ((x, y, z) : Ky) t) from h2_.2.2] at h_; exact h_)) h79 fun _ h110 => ?_
   refine go [.v 26 4 (oT (wy < 1))] <| cP Tryz.call19 ((by have h_ := wall_ht b19 (renS (mdS (wnew 1) T0 n0) ((x, y, z) : Ky) t); rw [ren_all] at h_; exact h_)) h110 ?_
   rintro v K _ (⟨p111, c112, rfl, rfl⟩) h114
   have h116 := tk9 (sf8 (sf8 (sf7 (sf7 (sf7 (sf8 (sf8 (sf8 (sf8 (ap2 h114))))))))))
   refine go [] <| cl2 Tryz.call26 ((by have h_ := same_ht p111 p23 (((allS (mdS (wnew 1) T0 n0)).length)) (((allS (mdS (wnew 1) T0 n0)).length)) c112 c24 (allS (mdS (wnew 1) T0 n0)) (allS (mdS (wnew 1) T0 n0)) (Sl 32 3 p111 (((allS (mdS (wnew 1) T0 n0)).length)) c112 (fl eO (allS (mdS (wnew 1) T0 n0)))) (Sl 32 3 p23 (((allS (mdS (wnew 1) T0 n0)).length)) c24 (fl eO (allS (mdS (wnew 1) T0 n0)))) (gv_sl _ _ _) (gv_sl _ _ _) rfl rfl (by omega); rw [show decide ((allS (mdS (wnew 1) T0 n0)) = (allS (mdS (wnew 1) T0 n0))) = true from decide_eq_true rfl] at h_; exact h_)) h116 fun _ h118 => ?_
   have h119 := tk9 (sf8 (sf7 (sf7 (sf7 (sf7 (sf7 (sf7 (sf8 (sf8 h118)))))))))
   refine go [] <| cl1 Tryz.call12 (works_ht wo hg) h119 fun _ h121 => go [] ?_
   exact en (.bool true) [] ⟨_, _, rfl, ⟨rfl, rfl⟩, (tk2 (sf1 (sf8 h121)))⟩
  refine cl1 Tryz.call11 ((by have h_ := short_ht p0 n0 c0 T0 (Old wo) (gv_old hr0) hT0 (by omega) 100; rw [cb14] at h_; exact h_)) (tk3 (sf2 (sf1 (sf2 h12)))) fun _ h125 => ?_
  refine go [] <| cl1 Tryz.call12 (works_ht wo hg) h125 fun _ h127 => go [] ?_
  exact en (.bool true) [] ⟨_, _, rfl, ⟨rfl, rfl⟩, (tk2 (sf1 (sf2 h127)))⟩
 refine cl0 Tryz.call11 (short_no p0 n0 c0 100 (by omega)) h12 fun _ h130 => ?_
 have h131 := tk3 (sf2 (sf1 (sf2 h130)))
 refine go [] <| cl1 Tryz.call12 (works_ht wo hg) h131 fun _ h133 => go [] ?_
 exact en (.bool true) [] ⟨_, _, rfl, ⟨rfl, rfl⟩, (tk2 (sf1 (sf2 h133)))⟩

set_option maxHeartbeats 4000000 in
theorem refuses_bf (wo : World) (hg : Lett wo) (p0 : Option Addr) (n0 c0 : Nat) (T0 : List Sq) (hr0 : Rd wo p0 n0 (fl eSq T0)) (hT0 : T0.length = n0) (hO0 : ∀ x ∈ T0, SqOk x) (x y z wy t : Int) (hz0 : 0 ≤ z) (hz1 : z ≤ 4294967295) (ho : 1 ≤ x ∧ x ≤ 3 ∧ 0 ≤ y ∧ y ≤ 63 ∧ 1 ≤ z) (hx : x ≠ 3) (hT : ¬ Thr (mdS (wnew 1) T0 n0) (x, y, z)) : HT Tryz.prog 5 [.slice p0 n0 c0, .agg #[iV x, iV y, uV z], iV wy, iV t] [Old wo] (fun v K => v = .bool true ∧ K = [Old wo]) := by
 refine hiS Tryz.func5 Tryz.ntmps5 fun g w0 R h0 => ?_
 have hG_ : KGood (x, y, z) := ho
 have hmt_ := mds_T (wok_new (g := 1) (by decide)) T0 n0; have hmz_ : (wnew 1).T.length = 0 := rfl
 have hT2_ : ¬ Thr (renS (mdS (wnew 1) T0 n0) ((x, y, z) : Ky) t) (x, y, z) := fun q => hT ((ren_thr _ _ _ _).1 q)
 refine go [] <| nP 32 [iV x, iV y, uV z] h0 (fun r10 _ h12 => ?_)
 refine go [] ?_
 by_cases c13 : (n0 : Int) ≤ 100
 ·
  rcases Bool.eq_false_or_eq_true (decide (Sho T0 100)) with cb14 | cb14
  ·
   refine cl1 Tryz.call11 ((by have h_ := short_ht p0 n0 c0 T0 (Old wo) (gv_old hr0) hT0 (by omega) 100; rw [cb14] at h_; exact h_)) (tk3 (sf2 (sf1 (sf2 h12)))) fun _ h17 => ?_
   have hsh18 : Sho T0 100 := of_decide_eq_true cb14; have hsh18l := hsh18.1; rw [hT0] at hsh18l
   refine go [] <| cP Tryz.call22 (made_ht wo hg p0 n0 c0 T0 hr0 hT0 hO0 hsh18.2 (by omega)) h17 ?_
   rintro v K _ (⟨b19, rfl, rfl⟩) h21
   have h22 := ap2 h21
   refine go [] <| cP Tryz.call19 (wall_ht b19 (mdS (wnew 1) T0 n0)) h22 ?_
   rintro v K _ (⟨p23, c24, rfl, rfl⟩) h26
   have h27 := ap2 h26
   have hl28 := allS_le (wd_get (j := 1) h27 rfl)
   have h30 := tk5 (sf4 (sf3 (sf4 (sf4 (sf4 h27)))))
   refine go [] <| cP Tryz.call17 (wledg_ht b19 (mdS (wnew 1) T0 n0)) h30 ?_
   rintro v K _ (⟨b29, rfl, rfl⟩) h32
   refine cl1 Tryz.call23 (lglen_ht b29 ((mdS (wnew 1) T0 n0).T)) (tk6 (sf5 (sf4 (sf5 (sf5 (sf5 (sf5 (ap2 h32)))))))) fun _ h36 => ?_
   have h37 := tk6 (sf5 (sf4 (sf5 (sf5 (sf5 (sf5 h36))))))
   refine go [] <| cl1 Tryz.call20 (wnow_ht b19 (mdS (wnew 1) T0 n0)) h37 fun _ h39 => go [rd 7 0 4 0 3 h39] <| cl0 Tryz.call15 (couter_ok x y z (by omega) (by omega) (by omega)) h39 fun _ h41 => go [rd 8 1 4 0 3 h41] <| cl1 Tryz.call24 ((by have h_ := wuntil_ht b19 (mdS (wnew 1) T0 n0) x y z (by omega) (by omega); have h2_ := unt_kind (S := (mdS (wnew 1) T0 n0)) (o := ((x, y, z) : Ky)) hG_ (show x ≠ 3 from by omega); rw [show untE (mdS (wnew 1) T0 n0) ((x, y, z) : Ky) = 8 from h2_.1, show untV (mdS (wnew 1) T0 n0) ((x, y, z) : Ky) = 0 from h2_.2] at h_; exact h_)) h41 fun _ h43 => ?_
   refine go [rd 9 1 4 0 3 h43] <| cl1 Tryz.call25 (wrenew_ht b19 (mdS (wnew 1) T0 n0) x y z t (by omega) (by omega)) h43 fun _ h45 => ?_
   have hrs_ : (1 ≤ t ∧ t ≤ 1048576) → renE (mdS (wnew 1) T0 n0) ((x, y, z) : Ky) t = 8 := fun h_ => ren_kind hG_ h_ (show x ≠ 3 from by omega)
   have hrn_ : ¬ (1 ≤ t ∧ t ≤ 1048576) → renE (mdS (wnew 1) T0 n0) ((x, y, z) : Ky) t = 2 := fun h_ => ren_arg (.inr (by omega))
   refine go [.s 10 100000] ?_
   refine jnS (fun a w => ∃ sp : Bool, ∃ lr : Fr, (sp = decide (1 ≤ t ∧ t ≤ 1048576)) ∧ a = mk 201 (([(2, iV wy), (5, pV r10), (9, pV b19), (10, .slice p23 (((allS (mdS (wnew 1) T0 n0)).length)) c24), (11, iV (((((mdS (wnew 1) T0 n0).T).length : Nat) : Int))), (12, iV ((mdS (wnew 1) T0 n0).now)), (13, .bool true), (15, iV 8), (16, iV ((renE (mdS (wnew 1) T0 n0) ((x, y, z) : Ky) t))), (17, .bool (sp))] : Fr) ++ lr) ∧ sat g w [Wd b19 (renS (mdS (wnew 1) T0 n0) ((x, y, z) : Ky) t), Lg b29 ((mdS (wnew 1) T0 n0).T), Sl 32 3 p23 (((allS (mdS (wnew 1) T0 n0)).length)) c24 (fl eO (allS (mdS (wnew 1) T0 n0))), Old wo, Cl r10 [iV x, iV y, uV z] 32, R]) ?_ ?_
   ·
    refine go [.s 10 1] ?_
    by_cases c46 : t ≥ 1
    ·
     refine go [.v 10 1 (oT (t ≥ 1)), .s 10 4] ?_
     by_cases c47 : t ≤ 1048576
     ·
      refine go [.v 10 4 (oT (t ≤ 1048576))] ?_
      refine enL ?_
      exact ⟨true, _, (decide_eq_true (⟨by omega, by omega⟩)).symm, (lvF [.k 2 (iV wy), .k 5 (pV r10), .k 9 (pV b19), .k 10 (.slice p23 (((allS (mdS (wnew 1) T0 n0)).length)) c24), .k 11 (iV (((((mdS (wnew 1) T0 n0).T).length : Nat) : Int))), .k 12 (iV ((mdS (wnew 1) T0 n0).now)), .k 13 (.bool true), .k 15 (iV 8), .k 16 (iV ((renE (mdS (wnew 1) T0 n0) ((x, y, z) : Ky) t))), .k 17 (.bool (true))]), h45⟩
     refine go [.v 10 4 (oF (t ≤ 1048576))] ?_
     refine enL ?_
     exact ⟨false, _, (decide_eq_false (by omega)).symm, (lvF [.k 2 (iV wy), .k 5 (pV r10), .k 9 (pV b19), .k 10 (.slice p23 (((allS (mdS (wnew 1) T0 n0)).length)) c24), .k 11 (iV (((((mdS (wnew 1) T0 n0).T).length : Nat) : Int))), .k 12 (iV ((mdS (wnew 1) T0 n0).now)), .k 13 (.bool true), .k 15 (iV 8), .k 16 (iV ((renE (mdS (wnew 1) T0 n0) ((x, y, z) : Ky) t))), .k 17 (.bool (false))]), h45⟩
    refine go [.v 10 1 (oF (t ≥ 1))] ?_
    refine enL ?_
    exact ⟨false, _, (decide_eq_false (by omega)).symm, (lvF [.k 2 (iV wy), .k 5 (pV r10), .k 9 (pV b19), .k 10 (.slice p23 (((allS (mdS (wnew 1) T0 n0)).length)) c24), .k 11 (iV (((((mdS (wnew 1) T0 n0).T).length : Nat) : Int))), .k 12 (iV ((mdS (wnew 1) T0 n0).now)), .k 13 (.bool true), .k 15 (iV 8), .k 16 (iV ((renE (mdS (wnew 1) T0 n0) ((x, y, z) : Ky) t))), .k 17 (.bool (false))]), h45⟩
   rintro a48 w49 ⟨sp, lr51, hsp_, rfl, h50⟩
   refine ga <| go [.s 13 100000] ?_
   refine jnS (fun a w => ∃ lr : Fr, a = mk 201 (([(2, iV wy), (5, pV r10), (9, pV b19), (10, .slice p23 (((allS (mdS (wnew 1) T0 n0)).length)) c24), (11, iV (((((mdS (wnew 1) T0 n0).T).length : Nat) : Int))), (12, iV ((mdS (wnew 1) T0 n0).now)), (13, .bool true)] : Fr) ++ lr) ∧ sat g w [Wd b19 (renS (mdS (wnew 1) T0 n0) ((x, y, z) : Ky) t), Lg b29 ((mdS (wnew 1) T0 n0).T), Sl 32 3 p23 (((allS (mdS (wnew 1) T0 n0)).length)) c24 (fl eO (allS (mdS (wnew 1) T0 n0))), Old wo, Cl r10 [iV x, iV y, uV z] 32, R]) ?_ ?_
   ·
    refine go [rd 16 1 4 0 1 h50, .v 16 2 (qnT x 3), .s 17 3] ?_
    rcases Bool.eq_false_or_eq_true sp with cb52 | cb52
    ·
     have hq53 := hrs_ (of_decide_eq_true (hsp_.symm.trans cb52))
     refine go [.v 17 3 (⟨.bool sp, .bool true, (by rw [cb52])⟩), .v 17 6 (qnF ((renE (mdS (wnew 1) T0 n0) ((x, y, z) : Ky) t)) 8), .v 17 10 (⟨.bool sp, .bool true, (by rw [cb52])⟩)] ?_
     refine enL ?_
     exact ⟨_, (lvF [.k 2 (iV wy), .k 5 (pV r10), .k 9 (pV b19), .k 10 (.slice p23 (((allS (mdS (wnew 1) T0 n0)).length)) c24), .k 11 (iV (((((mdS (wnew 1) T0 n0).T).length : Nat) : Int))), .k 12 (iV ((mdS (wnew 1) T0 n0).now)), .k 13 (.bool true)]), h50⟩
    have hq54 := hrn_ (of_decide_eq_false (hsp_.symm.trans cb52))
    refine go [.v 17 3 (⟨.bool sp, .bool false, (by rw [cb52])⟩), .v 17 10 (⟨.bool sp, .bool false, (by rw [cb52])⟩), .v 17 14 (qnF ((renE (mdS (wnew 1) T0 n0) ((x, y, z) : Ky) t)) 2)] ?_
    refine enL ?_
    exact ⟨_, (lvF [.k 2 (iV wy), .k 5 (pV r10), .k 9 (pV b19), .k 10 (.slice p23 (((allS (mdS (wnew 1) T0 n0)).length)) c24), .k 11 (iV (((((mdS (wnew 1) T0 n0).T).length : Nat) : Int))), .k 12 (iV ((mdS (wnew 1) T0 n0).now)), .k 13 (.bool true)]), h50⟩
   rintro a55 w56 ⟨lr58, rfl, h57⟩
   refine ga <| go [] <| cP Tryz.call19 ((by have h_ := wall_ht b19 (renS (mdS (wnew 1) T0 n0) ((x, y, z) : Ky) t); rw [ren_all] at h_; exact h_)) h57 ?_
   rintro v K _ (⟨p59, c60, rfl, rfl⟩) h62
   have h64 := tk7 (sf6 (sf6 (sf5 (sf5 (sf6 (sf6 (sf6 (ap2 h62))))))))
   refine go [] <| cl2 Tryz.call26 ((by have h_ := same_ht p59 p23 (((allS (mdS (wnew 1) T0 n0)).length)) (((allS (mdS (wnew 1) T0 n0)).length)) c60 c24 (allS (mdS (wnew 1) T0 n0)) (allS (mdS (wnew 1) T0 n0)) (Sl 32 3 p59 (((allS (mdS (wnew 1) T0 n0)).length)) c60 (fl eO (allS (mdS (wnew 1) T0 n0)))) (Sl 32 3 p23 (((allS (mdS (wnew 1) T0 n0)).length)) c24 (fl eO (allS (mdS (wnew 1) T0 n0)))) (gv_sl _ _ _) (gv_sl _ _ _) rfl rfl (by omega); rw [show decide ((allS (mdS (wnew 1) T0 n0)) = (allS (mdS (wnew 1) T0 n0))) = true from decide_eq_true rfl] at h_; exact h_)) h64 fun _ h66 => ?_
   have h68 := tk7 (sf6 (sf5 (sf5 (sf6 (sf6 (sf6 (sf6 h66)))))))
   refine go [] <| cP Tryz.call17 ((by have h_ := wledg_ht b19 (renS (mdS (wnew 1) T0 n0) ((x, y, z) : Ky) t); rw [(ren_T _ _ _).1] at h_; exact h_)) h68 ?_
   rintro v K _ (⟨b67, rfl, rfl⟩) h70
   refine cl1 Tryz.call23 (lglen_ht b67 ((mdS (wnew 1) T0 n0).T)) (tk8 (sf7 (sf6 (sf7 (sf7 (sf7 (sf7 (sf7 (sf7 (ap2 h70)))))))))) fun _ h74 => ?_
   have h75 := tk8 (sf7 (sf6 (sf7 (sf7 (sf7 (sf7 (sf7 (sf7 h74))))))))
   refine go [.v 22 10 (qnF (((((mdS (wnew 1) T0 n0).T).length : Nat) : Int)) (((((mdS (wnew 1) T0 n0).T).length : Nat) : Int)))] <| cl1 Tryz.call20 ((by have h_ := wnow_ht b19 (renS (mdS (wnew 1) T0 n0) ((x, y, z) : Ky) t); rw [(ren_T _ _ _).2.1] at h_; exact h_)) h75 fun _ h77 => ?_
   refine go [.v 22 16 (qnF ((mdS (wnew 1) T0 n0).now) ((mdS (wnew 1) T0 n0).now)), rd 24 1 6 0 3 h77] <| cl1 Tryz.call16 ((by have h_ := whas_ht b19 (renS (mdS (wnew 1) T0 n0) ((x, y, z) : Ky) t) x y z (by omega) (by omega); rw [decide_eq_false (show ¬ Thr (renS (mdS (wnew 1) T0 n0) ((x, y, z) : Ky) t) (x, y, z) from hT2_)] at h_; exact h_)) h77 fun _ h79 => ?_
   refine go [rd 25 1 6 0 3 h79] ?_
   by_cases c80 : 1 ≤ wy
   ·
    by_cases c81 : wy ≤ 3
    ·
     refine cl1 Tryz.call27 ((by have h_ := wrel_ht b19 (renS (mdS (wnew 1) T0 n0) ((x, y, z) : Ky) t) x y z wy (by omega) (by omega); have h2_ := rel_none (wy := wy) hG_ ⟨by omega, by omega⟩ hT2_; rw [show relE (renS (mdS (wnew 1) T0 n0) ((x, y, z) : Ky) t) ((x, y, z) : Ky) wy = 5 from h2_.1, show relA (renS (mdS (wnew 1) T0 n0) ((x, y, z) : Ky) t) ((x, y, z) : Ky) wy = 0 from h2_.2.1, show relS (renS (mdS (wnew 1) T0 n0) ((x, y, z) : Ky) t) ((x, y, z) : Ky) wy = (renS (mdS (wnew 1) T0 n0) ((x, y, z) : Ky) t) from h2_.2.2] at h_; exact h_)) h79 fun _ h83 => ?_
     refine go [.v 26 4 (oF (wy < 1)), .v 26 8 (oF (wy > 3))] <| cP Tryz.call19 ((by have h_ := wall_ht b19 (renS (mdS (wnew 1) T0 n0) ((x, y, z) : Ky) t); rw [ren_all] at h_; exact h_)) h83 ?_
     rintro v K _ (⟨p84, c85, rfl, rfl⟩) h87
     have h89 := tk9 (sf8 (sf8 (sf7 (sf7 (sf7 (sf8 (sf8 (sf8 (sf8 (ap2 h87))))))))))
     refine go [] <| cl2 Tryz.call26 ((by have h_ := same_ht p84 p23 (((allS (mdS (wnew 1) T0 n0)).length)) (((allS (mdS (wnew 1) T0 n0)).length)) c85 c24 (allS (mdS (wnew 1) T0 n0)) (allS (mdS (wnew 1) T0 n0)) (Sl 32 3 p84 (((allS (mdS (wnew 1) T0 n0)).length)) c85 (fl eO (allS (mdS (wnew 1) T0 n0)))) (Sl 32 3 p23 (((allS (mdS (wnew 1) T0 n0)).length)) c24 (fl eO (allS (mdS (wnew 1) T0 n0)))) (gv_sl _ _ _) (gv_sl _ _ _) rfl rfl (by omega); rw [show decide ((allS (mdS (wnew 1) T0 n0)) = (allS (mdS (wnew 1) T0 n0))) = true from decide_eq_true rfl] at h_; exact h_)) h89 fun _ h91 => ?_
     have h93 := tk9 (sf8 (sf7 (sf7 (sf8 (sf8 (sf8 (sf8 (sf8 (sf8 h91)))))))))
     refine go [] <| cP Tryz.call17 ((by have h_ := wledg_ht b19 (renS (mdS (wnew 1) T0 n0) ((x, y, z) : Ky) t); rw [(ren_T _ _ _).1] at h_; exact h_)) h93 ?_
     rintro v K _ (⟨b92, rfl, rfl⟩) h95
     refine cl1 Tryz.call23 (lglen_ht b92 ((mdS (wnew 1) T0 n0).T)) (tk10 (sf9 (sf8 (sf9 (sf9 (sf9 (sf9 (sf9 (sf9 (sf9 (sf9 (ap2 h95)))))))))))) fun _ h99 => ?_
     have h100 := tk10 (sf9 (sf8 (sf8 (sf8 (sf8 (sf8 (sf8 (sf8 (sf9 (sf9 h99))))))))))
     refine go [.v 29 13 (qeT (((((mdS (wnew 1) T0 n0).T).length : Nat) : Int)) (((((mdS (wnew 1) T0 n0).T).length : Nat) : Int)))] <| cl1 Tryz.call12 (works_ht wo hg) h100 fun _ h102 => go [] ?_
     exact en (.bool true) [] ⟨_, _, rfl, ⟨rfl, rfl⟩, (tk2 (sf1 (sf9 h102)))⟩
    refine cl1 Tryz.call27 ((by have h_ := wrel_ht b19 (renS (mdS (wnew 1) T0 n0) ((x, y, z) : Ky) t) x y z wy (by omega) (by omega); have h2_ := rel_arg (S := (renS (mdS (wnew 1) T0 n0) ((x, y, z) : Ky) t)) (o := ((x, y, z) : Ky)) (wy := wy) (.inr (by omega)); rw [show relE (renS (mdS (wnew 1) T0 n0) ((x, y, z) : Ky) t) ((x, y, z) : Ky) wy = 2 from h2_.1, show relA (renS (mdS (wnew 1) T0 n0) ((x, y, z) : Ky) t) ((x, y, z) : Ky) wy = 0 from h2_.2.1, show relS (renS (mdS (wnew 1) T0 n0) ((x, y, z) : Ky) t) ((x, y, z) : Ky) wy = (renS (mdS (wnew 1) T0 n0) ((x, y, z) : Ky) t) from h2_.2.2] at h_; exact h_)) h79 fun _ h105 => ?_
    refine go [.v 26 4 (oF (wy < 1)), .v 26 8 (oT (wy > 3))] <| cP Tryz.call19 ((by have h_ := wall_ht b19 (renS (mdS (wnew 1) T0 n0) ((x, y, z) : Ky) t); rw [ren_all] at h_; exact h_)) h105 ?_
    rintro v K _ (⟨p106, c107, rfl, rfl⟩) h109
    have h111 := tk9 (sf8 (sf8 (sf7 (sf7 (sf7 (sf8 (sf8 (sf8 (sf8 (ap2 h109))))))))))
    refine go [] <| cl2 Tryz.call26 ((by have h_ := same_ht p106 p23 (((allS (mdS (wnew 1) T0 n0)).length)) (((allS (mdS (wnew 1) T0 n0)).length)) c107 c24 (allS (mdS (wnew 1) T0 n0)) (allS (mdS (wnew 1) T0 n0)) (Sl 32 3 p106 (((allS (mdS (wnew 1) T0 n0)).length)) c107 (fl eO (allS (mdS (wnew 1) T0 n0)))) (Sl 32 3 p23 (((allS (mdS (wnew 1) T0 n0)).length)) c24 (fl eO (allS (mdS (wnew 1) T0 n0)))) (gv_sl _ _ _) (gv_sl _ _ _) rfl rfl (by omega); rw [show decide ((allS (mdS (wnew 1) T0 n0)) = (allS (mdS (wnew 1) T0 n0))) = true from decide_eq_true rfl] at h_; exact h_)) h111 fun _ h113 => ?_
    have h114 := tk9 (sf8 (sf7 (sf7 (sf7 (sf7 (sf7 (sf7 (sf8 (sf8 h113)))))))))
    refine go [] <| cl1 Tryz.call12 (works_ht wo hg) h114 fun _ h116 => go [] ?_
    exact en (.bool true) [] ⟨_, _, rfl, ⟨rfl, rfl⟩, (tk2 (sf1 (sf8 h116)))⟩
   refine cl1 Tryz.call27 ((by have h_ := wrel_ht b19 (renS (mdS (wnew 1) T0 n0) ((x, y, z) : Ky) t) x y z wy (by omega) (by omega); have h2_ := rel_arg (S := (renS (mdS (wnew 1) T0 n0) ((x, y, z) : Ky) t)) (o := ((x, y, z) : Ky)) (wy := wy) (.inr (by omega)); rw [show relE (renS (mdS (wnew 1) T0 n0) ((x, y, z) : Ky) t) ((x, y, z) : Ky) wy = 2 from h2_.1, show relA (renS (mdS (wnew 1) T0 n0) ((x, y, z) : Ky) t) ((x, y, z) : Ky) wy = 0 from h2_.2.1, show relS (renS (mdS (wnew 1) T0 n0) ((x, y, z) : Ky) t) ((x, y, z) : Ky) wy = (renS (mdS (wnew 1) T0 n0) ((x, y, z) : Ky) t) from h2_.2.2] at h_; exact h_)) h79 fun _ h119 => ?_
   refine go [.v 26 4 (oT (wy < 1))] <| cP Tryz.call19 ((by have h_ := wall_ht b19 (renS (mdS (wnew 1) T0 n0) ((x, y, z) : Ky) t); rw [ren_all] at h_; exact h_)) h119 ?_
   rintro v K _ (⟨p120, c121, rfl, rfl⟩) h123
   have h125 := tk9 (sf8 (sf8 (sf7 (sf7 (sf7 (sf8 (sf8 (sf8 (sf8 (ap2 h123))))))))))
   refine go [] <| cl2 Tryz.call26 ((by have h_ := same_ht p120 p23 (((allS (mdS (wnew 1) T0 n0)).length)) (((allS (mdS (wnew 1) T0 n0)).length)) c121 c24 (allS (mdS (wnew 1) T0 n0)) (allS (mdS (wnew 1) T0 n0)) (Sl 32 3 p120 (((allS (mdS (wnew 1) T0 n0)).length)) c121 (fl eO (allS (mdS (wnew 1) T0 n0)))) (Sl 32 3 p23 (((allS (mdS (wnew 1) T0 n0)).length)) c24 (fl eO (allS (mdS (wnew 1) T0 n0)))) (gv_sl _ _ _) (gv_sl _ _ _) rfl rfl (by omega); rw [show decide ((allS (mdS (wnew 1) T0 n0)) = (allS (mdS (wnew 1) T0 n0))) = true from decide_eq_true rfl] at h_; exact h_)) h125 fun _ h127 => ?_
   have h128 := tk9 (sf8 (sf7 (sf7 (sf7 (sf7 (sf7 (sf7 (sf8 (sf8 h127)))))))))
   refine go [] <| cl1 Tryz.call12 (works_ht wo hg) h128 fun _ h130 => go [] ?_
   exact en (.bool true) [] ⟨_, _, rfl, ⟨rfl, rfl⟩, (tk2 (sf1 (sf8 h130)))⟩
  refine cl1 Tryz.call11 ((by have h_ := short_ht p0 n0 c0 T0 (Old wo) (gv_old hr0) hT0 (by omega) 100; rw [cb14] at h_; exact h_)) (tk3 (sf2 (sf1 (sf2 h12)))) fun _ h134 => ?_
  refine go [] <| cl1 Tryz.call12 (works_ht wo hg) h134 fun _ h136 => go [] ?_
  exact en (.bool true) [] ⟨_, _, rfl, ⟨rfl, rfl⟩, (tk2 (sf1 (sf2 h136)))⟩
 refine cl0 Tryz.call11 (short_no p0 n0 c0 100 (by omega)) h12 fun _ h139 => ?_
 have h140 := tk3 (sf2 (sf1 (sf2 h139)))
 refine go [] <| cl1 Tryz.call12 (works_ht wo hg) h140 fun _ h142 => go [] ?_
 exact en (.bool true) [] ⟨_, _, rfl, ⟨rfl, rfl⟩, (tk2 (sf1 (sf2 h142)))⟩

set_option maxHeartbeats 4000000 in
theorem refuses_c (wo : World) (hg : Lett wo) (p0 : Option Addr) (n0 c0 : Nat) (T0 : List Sq) (hr0 : Rd wo p0 n0 (fl eSq T0)) (hT0 : T0.length = n0) (hO0 : ∀ x ∈ T0, SqOk x) (x y z wy t : Int) (hz0 : 0 ≤ z) (hz1 : z ≤ 4294967295) (ho : 1 ≤ x ∧ x ≤ 3 ∧ 0 ≤ y ∧ y ≤ 63 ∧ 1 ≤ z) (hx : x = 3) (hT : ¬ Thr (mdS (wnew 1) T0 n0) (x, y, z)) : HT Tryz.prog 5 [.slice p0 n0 c0, .agg #[iV x, iV y, uV z], iV wy, iV t] [Old wo] (fun v K => v = .bool true ∧ K = [Old wo]) := by
 refine hiS Tryz.func5 Tryz.ntmps5 fun g w0 R h0 => ?_
 have hG_ : KGood (x, y, z) := ho
 have hmt_ := mds_T (wok_new (g := 1) (by decide)) T0 n0; have hmz_ : (wnew 1).T.length = 0 := rfl
 have hT2_ : ¬ Thr (renS (mdS (wnew 1) T0 n0) ((x, y, z) : Ky) t) (x, y, z) := fun q => hT ((ren_thr _ _ _ _).1 q)
 refine go [] <| nP 32 [iV x, iV y, uV z] h0 (fun r10 _ h12 => ?_)
 refine go [] ?_
 by_cases c13 : (n0 : Int) ≤ 100
 ·
  rcases Bool.eq_false_or_eq_true (decide (Sho T0 100)) with cb14 | cb14
  ·
   refine cl1 Tryz.call11 ((by have h_ := short_ht p0 n0 c0 T0 (Old wo) (gv_old hr0) hT0 (by omega) 100; rw [cb14] at h_; exact h_)) (tk3 (sf2 (sf1 (sf2 h12)))) fun _ h17 => ?_
   have hsh18 : Sho T0 100 := of_decide_eq_true cb14; have hsh18l := hsh18.1; rw [hT0] at hsh18l
   refine go [] <| cP Tryz.call22 (made_ht wo hg p0 n0 c0 T0 hr0 hT0 hO0 hsh18.2 (by omega)) h17 ?_
   rintro v K _ (⟨b19, rfl, rfl⟩) h21
   have h22 := ap2 h21
   refine go [] <| cP Tryz.call19 (wall_ht b19 (mdS (wnew 1) T0 n0)) h22 ?_
   rintro v K _ (⟨p23, c24, rfl, rfl⟩) h26
   have h27 := ap2 h26
   have hl28 := allS_le (wd_get (j := 1) h27 rfl)
   have h30 := tk5 (sf4 (sf3 (sf4 (sf4 (sf4 h27)))))
   refine go [] <| cP Tryz.call17 (wledg_ht b19 (mdS (wnew 1) T0 n0)) h30 ?_
   rintro v K _ (⟨b29, rfl, rfl⟩) h32
   refine cl1 Tryz.call23 (lglen_ht b29 ((mdS (wnew 1) T0 n0).T)) (tk6 (sf5 (sf4 (sf5 (sf5 (sf5 (sf5 (ap2 h32)))))))) fun _ h36 => ?_
   have h37 := tk6 (sf5 (sf4 (sf5 (sf5 (sf5 (sf5 h36))))))
   refine go [] <| cl1 Tryz.call20 (wnow_ht b19 (mdS (wnew 1) T0 n0)) h37 fun _ h39 => go [rd 7 0 4 0 3 h39] <| cl0 Tryz.call15 (couter_ok x y z (by omega) (by omega) (by omega)) h39 fun _ h41 => go [rd 8 1 4 0 3 h41] <| cl1 Tryz.call24 ((by have h_ := wuntil_ht b19 (mdS (wnew 1) T0 n0) x y z (by omega) (by omega); have h2_ := unt_none (o := ((x, y, z) : Ky)) hG_ (show x = 3 from by omega) hT; rw [show untE (mdS (wnew 1) T0 n0) ((x, y, z) : Ky) = 5 from h2_.1, show untV (mdS (wnew 1) T0 n0) ((x, y, z) : Ky) = 0 from h2_.2] at h_; exact h_)) h41 fun _ h43 => ?_
   refine go [rd 9 1 4 0 3 h43] <| cl1 Tryz.call25 (wrenew_ht b19 (mdS (wnew 1) T0 n0) x y z t (by omega) (by omega)) h43 fun _ h45 => ?_
   have hrs_ : (1 ≤ t ∧ t ≤ 1048576) → renE (mdS (wnew 1) T0 n0) ((x, y, z) : Ky) t = 5 := fun h_ => ren_none hG_ h_ (show x = 3 from by omega) hT
   have hrn_ : ¬ (1 ≤ t ∧ t ≤ 1048576) → renE (mdS (wnew 1) T0 n0) ((x, y, z) : Ky) t = 2 := fun h_ => ren_arg (.inr (by omega))
   refine go [.s 10 100000] ?_
   refine jnS (fun a w => ∃ sp : Bool, ∃ lr : Fr, (sp = decide (1 ≤ t ∧ t ≤ 1048576)) ∧ a = mk 201 (([(2, iV wy), (5, pV r10), (9, pV b19), (10, .slice p23 (((allS (mdS (wnew 1) T0 n0)).length)) c24), (11, iV (((((mdS (wnew 1) T0 n0).T).length : Nat) : Int))), (12, iV ((mdS (wnew 1) T0 n0).now)), (13, .bool true), (15, iV 5), (16, iV ((renE (mdS (wnew 1) T0 n0) ((x, y, z) : Ky) t))), (17, .bool (sp))] : Fr) ++ lr) ∧ sat g w [Wd b19 (renS (mdS (wnew 1) T0 n0) ((x, y, z) : Ky) t), Lg b29 ((mdS (wnew 1) T0 n0).T), Sl 32 3 p23 (((allS (mdS (wnew 1) T0 n0)).length)) c24 (fl eO (allS (mdS (wnew 1) T0 n0))), Old wo, Cl r10 [iV x, iV y, uV z] 32, R]) ?_ ?_
   ·
    refine go [.s 10 1] ?_
    by_cases c46 : t ≥ 1
    ·
     refine go [.v 10 1 (oT (t ≥ 1)), .s 10 4] ?_
     by_cases c47 : t ≤ 1048576
     ·
      refine go [.v 10 4 (oT (t ≤ 1048576))] ?_
      refine enL ?_
      exact ⟨true, _, (decide_eq_true (⟨by omega, by omega⟩)).symm, (lvF [.k 2 (iV wy), .k 5 (pV r10), .k 9 (pV b19), .k 10 (.slice p23 (((allS (mdS (wnew 1) T0 n0)).length)) c24), .k 11 (iV (((((mdS (wnew 1) T0 n0).T).length : Nat) : Int))), .k 12 (iV ((mdS (wnew 1) T0 n0).now)), .k 13 (.bool true), .k 15 (iV 5), .k 16 (iV ((renE (mdS (wnew 1) T0 n0) ((x, y, z) : Ky) t))), .k 17 (.bool (true))]), h45⟩
     refine go [.v 10 4 (oF (t ≤ 1048576))] ?_
     refine enL ?_
     exact ⟨false, _, (decide_eq_false (by omega)).symm, (lvF [.k 2 (iV wy), .k 5 (pV r10), .k 9 (pV b19), .k 10 (.slice p23 (((allS (mdS (wnew 1) T0 n0)).length)) c24), .k 11 (iV (((((mdS (wnew 1) T0 n0).T).length : Nat) : Int))), .k 12 (iV ((mdS (wnew 1) T0 n0).now)), .k 13 (.bool true), .k 15 (iV 5), .k 16 (iV ((renE (mdS (wnew 1) T0 n0) ((x, y, z) : Ky) t))), .k 17 (.bool (false))]), h45⟩
    refine go [.v 10 1 (oF (t ≥ 1))] ?_
    refine enL ?_
    exact ⟨false, _, (decide_eq_false (by omega)).symm, (lvF [.k 2 (iV wy), .k 5 (pV r10), .k 9 (pV b19), .k 10 (.slice p23 (((allS (mdS (wnew 1) T0 n0)).length)) c24), .k 11 (iV (((((mdS (wnew 1) T0 n0).T).length : Nat) : Int))), .k 12 (iV ((mdS (wnew 1) T0 n0).now)), .k 13 (.bool true), .k 15 (iV 5), .k 16 (iV ((renE (mdS (wnew 1) T0 n0) ((x, y, z) : Ky) t))), .k 17 (.bool (false))]), h45⟩
   rintro a48 w49 ⟨sp, lr51, hsp_, rfl, h50⟩
   refine ga <| go [.s 13 100000] ?_
   refine jnS (fun a w => ∃ lr : Fr, a = mk 201 (([(2, iV wy), (5, pV r10), (9, pV b19), (10, .slice p23 (((allS (mdS (wnew 1) T0 n0)).length)) c24), (11, iV (((((mdS (wnew 1) T0 n0).T).length : Nat) : Int))), (12, iV ((mdS (wnew 1) T0 n0).now)), (13, .bool true)] : Fr) ++ lr) ∧ sat g w [Wd b19 (renS (mdS (wnew 1) T0 n0) ((x, y, z) : Ky) t), Lg b29 ((mdS (wnew 1) T0 n0).T), Sl 32 3 p23 (((allS (mdS (wnew 1) T0 n0)).length)) c24 (fl eO (allS (mdS (wnew 1) T0 n0))), Old wo, Cl r10 [iV x, iV y, uV z] 32, R]) ?_ ?_
   ·
    refine go [rd 16 1 4 0 1 h50, .v 16 2 (qnF x 3), rd 19 1 4 0 3 h50] <| cl1 Tryz.call16 ((by have h_ := whas_ht b19 (renS (mdS (wnew 1) T0 n0) ((x, y, z) : Ky) t) x y z (by omega) (by omega); rw [decide_eq_false (show ¬ Thr (renS (mdS (wnew 1) T0 n0) ((x, y, z) : Ky) t) (x, y, z) from hT2_)] at h_; exact h_)) h50 fun _ h53 => ?_
    refine go [.s 20 3] ?_
    rcases Bool.eq_false_or_eq_true sp with cb54 | cb54
    ·
     have hq55 := hrs_ (of_decide_eq_true (hsp_.symm.trans cb54))
     refine go [.v 20 3 (⟨.bool sp, .bool true, (by rw [cb54])⟩), .v 20 6 (qnF ((renE (mdS (wnew 1) T0 n0) ((x, y, z) : Ky) t)) 5), .v 20 10 (⟨.bool sp, .bool true, (by rw [cb54])⟩)] ?_
     refine enL ?_
     exact ⟨_, (lvF [.k 2 (iV wy), .k 5 (pV r10), .k 9 (pV b19), .k 10 (.slice p23 (((allS (mdS (wnew 1) T0 n0)).length)) c24), .k 11 (iV (((((mdS (wnew 1) T0 n0).T).length : Nat) : Int))), .k 12 (iV ((mdS (wnew 1) T0 n0).now)), .k 13 (.bool true)]), h53⟩
    have hq56 := hrn_ (of_decide_eq_false (hsp_.symm.trans cb54))
    refine go [.v 20 3 (⟨.bool sp, .bool false, (by rw [cb54])⟩), .v 20 10 (⟨.bool sp, .bool false, (by rw [cb54])⟩), .v 20 14 (qnF ((renE (mdS (wnew 1) T0 n0) ((x, y, z) : Ky) t)) 2)] ?_
    refine enL ?_
    exact ⟨_, (lvF [.k 2 (iV wy), .k 5 (pV r10), .k 9 (pV b19), .k 10 (.slice p23 (((allS (mdS (wnew 1) T0 n0)).length)) c24), .k 11 (iV (((((mdS (wnew 1) T0 n0).T).length : Nat) : Int))), .k 12 (iV ((mdS (wnew 1) T0 n0).now)), .k 13 (.bool true)]), h53⟩
   rintro a57 w58 ⟨lr60, rfl, h59⟩
   refine ga <| go [] <| cP Tryz.call19 ((by have h_ := wall_ht b19 (renS (mdS (wnew 1) T0 n0) ((x, y, z) : Ky) t); rw [ren_all] at h_; exact h_)) h59 ?_
   rintro v K _ (⟨p61, c62, rfl, rfl⟩) h64
   have h66 := tk7 (sf6 (sf6 (sf5 (sf5 (sf6 (sf6 (sf6 (ap2 h64))))))))
   refine go [] <| cl2 Tryz.call26 ((by have h_ := same_ht p61 p23 (((allS (mdS (wnew 1) T0 n0)).length)) (((allS (mdS (wnew 1) T0 n0)).length)) c62 c24 (allS (mdS (wnew 1) T0 n0)) (allS (mdS (wnew 1) T0 n0)) (Sl 32 3 p61 (((allS (mdS (wnew 1) T0 n0)).length)) c62 (fl eO (allS (mdS (wnew 1) T0 n0)))) (Sl 32 3 p23 (((allS (mdS (wnew 1) T0 n0)).length)) c24 (fl eO (allS (mdS (wnew 1) T0 n0)))) (gv_sl _ _ _) (gv_sl _ _ _) rfl rfl (by omega); rw [show decide ((allS (mdS (wnew 1) T0 n0)) = (allS (mdS (wnew 1) T0 n0))) = true from decide_eq_true rfl] at h_; exact h_)) h66 fun _ h68 => ?_
   have h70 := tk7 (sf6 (sf5 (sf5 (sf6 (sf6 (sf6 (sf6 h68)))))))
   refine go [] <| cP Tryz.call17 ((by have h_ := wledg_ht b19 (renS (mdS (wnew 1) T0 n0) ((x, y, z) : Ky) t); rw [(ren_T _ _ _).1] at h_; exact h_)) h70 ?_
   rintro v K _ (⟨b69, rfl, rfl⟩) h72
   refine cl1 Tryz.call23 (lglen_ht b69 ((mdS (wnew 1) T0 n0).T)) (tk8 (sf7 (sf6 (sf7 (sf7 (sf7 (sf7 (sf7 (sf7 (ap2 h72)))))))))) fun _ h76 => ?_
   have h77 := tk8 (sf7 (sf6 (sf7 (sf7 (sf7 (sf7 (sf7 (sf7 h76))))))))
   refine go [.v 22 10 (qnF (((((mdS (wnew 1) T0 n0).T).length : Nat) : Int)) (((((mdS (wnew 1) T0 n0).T).length : Nat) : Int)))] <| cl1 Tryz.call20 ((by have h_ := wnow_ht b19 (renS (mdS (wnew 1) T0 n0) ((x, y, z) : Ky) t); rw [(ren_T _ _ _).2.1] at h_; exact h_)) h77 fun _ h79 => ?_
   refine go [.v 22 16 (qnF ((mdS (wnew 1) T0 n0).now) ((mdS (wnew 1) T0 n0).now)), rd 24 1 6 0 3 h79] <| cl1 Tryz.call16 ((by have h_ := whas_ht b19 (renS (mdS (wnew 1) T0 n0) ((x, y, z) : Ky) t) x y z (by omega) (by omega); rw [decide_eq_false (show ¬ Thr (renS (mdS (wnew 1) T0 n0) ((x, y, z) : Ky) t) (x, y, z) from hT2_)] at h_; exact h_)) h79 fun _ h81 => ?_
   refine go [rd 25 1 6 0 3 h81] ?_
   by_cases c82 : 1 ≤ wy
   ·
    by_cases c83 : wy ≤ 3
    ·
     refine cl1 Tryz.call27 ((by have h_ := wrel_ht b19 (renS (mdS (wnew 1) T0 n0) ((x, y, z) : Ky) t) x y z wy (by omega) (by omega); have h2_ := rel_none (wy := wy) hG_ ⟨by omega, by omega⟩ hT2_; rw [show relE (renS (mdS (wnew 1) T0 n0) ((x, y, z) : Ky) t) ((x, y, z) : Ky) wy = 5 from h2_.1, show relA (renS (mdS (wnew 1) T0 n0) ((x, y, z) : Ky) t) ((x, y, z) : Ky) wy = 0 from h2_.2.1, show relS (renS (mdS (wnew 1) T0 n0) ((x, y, z) : Ky) t) ((x, y, z) : Ky) wy = (renS (mdS (wnew 1) T0 n0) ((x, y, z) : Ky) t) from h2_.2.2] at h_; exact h_)) h81 fun _ h85 => ?_
     refine go [.v 26 4 (oF (wy < 1)), .v 26 8 (oF (wy > 3))] <| cP Tryz.call19 ((by have h_ := wall_ht b19 (renS (mdS (wnew 1) T0 n0) ((x, y, z) : Ky) t); rw [ren_all] at h_; exact h_)) h85 ?_
     rintro v K _ (⟨p86, c87, rfl, rfl⟩) h89
     have h91 := tk9 (sf8 (sf8 (sf7 (sf7 (sf7 (sf8 (sf8 (sf8 (sf8 (ap2 h89))))))))))
     refine go [] <| cl2 Tryz.call26 ((by have h_ := same_ht p86 p23 (((allS (mdS (wnew 1) T0 n0)).length)) (((allS (mdS (wnew 1) T0 n0)).length)) c87 c24 (allS (mdS (wnew 1) T0 n0)) (allS (mdS (wnew 1) T0 n0)) (Sl 32 3 p86 (((allS (mdS (wnew 1) T0 n0)).length)) c87 (fl eO (allS (mdS (wnew 1) T0 n0)))) (Sl 32 3 p23 (((allS (mdS (wnew 1) T0 n0)).length)) c24 (fl eO (allS (mdS (wnew 1) T0 n0)))) (gv_sl _ _ _) (gv_sl _ _ _) rfl rfl (by omega); rw [show decide ((allS (mdS (wnew 1) T0 n0)) = (allS (mdS (wnew 1) T0 n0))) = true from decide_eq_true rfl] at h_; exact h_)) h91 fun _ h93 => ?_
     have h95 := tk9 (sf8 (sf7 (sf7 (sf8 (sf8 (sf8 (sf8 (sf8 (sf8 h93)))))))))
     refine go [] <| cP Tryz.call17 ((by have h_ := wledg_ht b19 (renS (mdS (wnew 1) T0 n0) ((x, y, z) : Ky) t); rw [(ren_T _ _ _).1] at h_; exact h_)) h95 ?_
     rintro v K _ (⟨b94, rfl, rfl⟩) h97
     refine cl1 Tryz.call23 (lglen_ht b94 ((mdS (wnew 1) T0 n0).T)) (tk10 (sf9 (sf8 (sf9 (sf9 (sf9 (sf9 (sf9 (sf9 (sf9 (sf9 (ap2 h97)))))))))))) fun _ h101 => ?_
     have h102 := tk10 (sf9 (sf8 (sf8 (sf8 (sf8 (sf8 (sf8 (sf8 (sf9 (sf9 h101))))))))))
     refine go [.v 29 13 (qeT (((((mdS (wnew 1) T0 n0).T).length : Nat) : Int)) (((((mdS (wnew 1) T0 n0).T).length : Nat) : Int)))] <| cl1 Tryz.call12 (works_ht wo hg) h102 fun _ h104 => go [] ?_
     exact en (.bool true) [] ⟨_, _, rfl, ⟨rfl, rfl⟩, (tk2 (sf1 (sf9 h104)))⟩
    refine cl1 Tryz.call27 ((by have h_ := wrel_ht b19 (renS (mdS (wnew 1) T0 n0) ((x, y, z) : Ky) t) x y z wy (by omega) (by omega); have h2_ := rel_arg (S := (renS (mdS (wnew 1) T0 n0) ((x, y, z) : Ky) t)) (o := ((x, y, z) : Ky)) (wy := wy) (.inr (by omega)); rw [show relE (renS (mdS (wnew 1) T0 n0) ((x, y, z) : Ky) t) ((x, y, z) : Ky) wy = 2 from h2_.1, show relA (renS (mdS (wnew 1) T0 n0) ((x, y, z) : Ky) t) ((x, y, z) : Ky) wy = 0 from h2_.2.1, show relS (renS (mdS (wnew 1) T0 n0) ((x, y, z) : Ky) t) ((x, y, z) : Ky) wy = (renS (mdS (wnew 1) T0 n0) ((x, y, z) : Ky) t) from h2_.2.2] at h_; exact h_)) h81 fun _ h107 => ?_
    refine go [.v 26 4 (oF (wy < 1)), .v 26 8 (oT (wy > 3))] <| cP Tryz.call19 ((by have h_ := wall_ht b19 (renS (mdS (wnew 1) T0 n0) ((x, y, z) : Ky) t); rw [ren_all] at h_; exact h_)) h107 ?_
    rintro v K _ (⟨p108, c109, rfl, rfl⟩) h111
    have h113 := tk9 (sf8 (sf8 (sf7 (sf7 (sf7 (sf8 (sf8 (sf8 (sf8 (ap2 h111))))))))))
    refine go [] <| cl2 Tryz.call26 ((by have h_ := same_ht p108 p23 (((allS (mdS (wnew 1) T0 n0)).length)) (((allS (mdS (wnew 1) T0 n0)).length)) c109 c24 (allS (mdS (wnew 1) T0 n0)) (allS (mdS (wnew 1) T0 n0)) (Sl 32 3 p108 (((allS (mdS (wnew 1) T0 n0)).length)) c109 (fl eO (allS (mdS (wnew 1) T0 n0)))) (Sl 32 3 p23 (((allS (mdS (wnew 1) T0 n0)).length)) c24 (fl eO (allS (mdS (wnew 1) T0 n0)))) (gv_sl _ _ _) (gv_sl _ _ _) rfl rfl (by omega); rw [show decide ((allS (mdS (wnew 1) T0 n0)) = (allS (mdS (wnew 1) T0 n0))) = true from decide_eq_true rfl] at h_; exact h_)) h113 fun _ h115 => ?_
    have h116 := tk9 (sf8 (sf7 (sf7 (sf7 (sf7 (sf7 (sf7 (sf8 (sf8 h115)))))))))
    refine go [] <| cl1 Tryz.call12 (works_ht wo hg) h116 fun _ h118 => go [] ?_
    exact en (.bool true) [] ⟨_, _, rfl, ⟨rfl, rfl⟩, (tk2 (sf1 (sf8 h118)))⟩
   refine cl1 Tryz.call27 ((by have h_ := wrel_ht b19 (renS (mdS (wnew 1) T0 n0) ((x, y, z) : Ky) t) x y z wy (by omega) (by omega); have h2_ := rel_arg (S := (renS (mdS (wnew 1) T0 n0) ((x, y, z) : Ky) t)) (o := ((x, y, z) : Ky)) (wy := wy) (.inr (by omega)); rw [show relE (renS (mdS (wnew 1) T0 n0) ((x, y, z) : Ky) t) ((x, y, z) : Ky) wy = 2 from h2_.1, show relA (renS (mdS (wnew 1) T0 n0) ((x, y, z) : Ky) t) ((x, y, z) : Ky) wy = 0 from h2_.2.1, show relS (renS (mdS (wnew 1) T0 n0) ((x, y, z) : Ky) t) ((x, y, z) : Ky) wy = (renS (mdS (wnew 1) T0 n0) ((x, y, z) : Ky) t) from h2_.2.2] at h_; exact h_)) h81 fun _ h121 => ?_
   refine go [.v 26 4 (oT (wy < 1))] <| cP Tryz.call19 ((by have h_ := wall_ht b19 (renS (mdS (wnew 1) T0 n0) ((x, y, z) : Ky) t); rw [ren_all] at h_; exact h_)) h121 ?_
   rintro v K _ (⟨p122, c123, rfl, rfl⟩) h125
   have h127 := tk9 (sf8 (sf8 (sf7 (sf7 (sf7 (sf8 (sf8 (sf8 (sf8 (ap2 h125))))))))))
   refine go [] <| cl2 Tryz.call26 ((by have h_ := same_ht p122 p23 (((allS (mdS (wnew 1) T0 n0)).length)) (((allS (mdS (wnew 1) T0 n0)).length)) c123 c24 (allS (mdS (wnew 1) T0 n0)) (allS (mdS (wnew 1) T0 n0)) (Sl 32 3 p122 (((allS (mdS (wnew 1) T0 n0)).length)) c123 (fl eO (allS (mdS (wnew 1) T0 n0)))) (Sl 32 3 p23 (((allS (mdS (wnew 1) T0 n0)).length)) c24 (fl eO (allS (mdS (wnew 1) T0 n0)))) (gv_sl _ _ _) (gv_sl _ _ _) rfl rfl (by omega); rw [show decide ((allS (mdS (wnew 1) T0 n0)) = (allS (mdS (wnew 1) T0 n0))) = true from decide_eq_true rfl] at h_; exact h_)) h127 fun _ h129 => ?_
   have h130 := tk9 (sf8 (sf7 (sf7 (sf7 (sf7 (sf7 (sf7 (sf8 (sf8 h129)))))))))
   refine go [] <| cl1 Tryz.call12 (works_ht wo hg) h130 fun _ h132 => go [] ?_
   exact en (.bool true) [] ⟨_, _, rfl, ⟨rfl, rfl⟩, (tk2 (sf1 (sf8 h132)))⟩
  refine cl1 Tryz.call11 ((by have h_ := short_ht p0 n0 c0 T0 (Old wo) (gv_old hr0) hT0 (by omega) 100; rw [cb14] at h_; exact h_)) (tk3 (sf2 (sf1 (sf2 h12)))) fun _ h136 => ?_
  refine go [] <| cl1 Tryz.call12 (works_ht wo hg) h136 fun _ h138 => go [] ?_
  exact en (.bool true) [] ⟨_, _, rfl, ⟨rfl, rfl⟩, (tk2 (sf1 (sf2 h138)))⟩
 refine cl0 Tryz.call11 (short_no p0 n0 c0 100 (by omega)) h12 fun _ h141 => ?_
 have h142 := tk3 (sf2 (sf1 (sf2 h141)))
 refine go [] <| cl1 Tryz.call12 (works_ht wo hg) h142 fun _ h144 => go [] ?_
 exact en (.bool true) [] ⟨_, _, rfl, ⟨rfl, rfl⟩, (tk2 (sf1 (sf2 h144)))⟩

set_option maxHeartbeats 4000000 in
theorem refuses_d (wo : World) (hg : Lett wo) (p0 : Option Addr) (n0 c0 : Nat) (T0 : List Sq) (hr0 : Rd wo p0 n0 (fl eSq T0)) (hT0 : T0.length = n0) (hO0 : ∀ x ∈ T0, SqOk x) (x y z wy t : Int) (hz0 : 0 ≤ z) (hz1 : z ≤ 4294967295) (ho : 1 ≤ x ∧ x ≤ 3 ∧ 0 ≤ y ∧ y ≤ 63 ∧ 1 ≤ z) (hx : x = 3) (hT : Thr (mdS (wnew 1) T0 n0) (x, y, z)) : HT Tryz.prog 5 [.slice p0 n0 c0, .agg #[iV x, iV y, uV z], iV wy, iV t] [Old wo] (fun v K => v = .bool true ∧ K = [Old wo]) := by
 refine hiS Tryz.func5 Tryz.ntmps5 fun g w0 R h0 => ?_
 have hG_ : KGood (x, y, z) := ho
 have hmt_ := mds_T (wok_new (g := 1) (by decide)) T0 n0; have hmz_ : (wnew 1).T.length = 0 := rfl
 have hT2_ : Thr (renS (mdS (wnew 1) T0 n0) ((x, y, z) : Ky) t) (x, y, z) := (ren_thr _ _ _ _).2 hT
 refine go [] <| nP 32 [iV x, iV y, uV z] h0 (fun r10 _ h12 => ?_)
 refine go [] ?_
 by_cases c13 : (n0 : Int) ≤ 100
 ·
  rcases Bool.eq_false_or_eq_true (decide (Sho T0 100)) with cb14 | cb14
  ·
   refine cl1 Tryz.call11 ((by have h_ := short_ht p0 n0 c0 T0 (Old wo) (gv_old hr0) hT0 (by omega) 100; rw [cb14] at h_; exact h_)) (tk3 (sf2 (sf1 (sf2 h12)))) fun _ h17 => ?_
   have hsh18 : Sho T0 100 := of_decide_eq_true cb14; have hsh18l := hsh18.1; rw [hT0] at hsh18l
   refine go [] <| cP Tryz.call22 (made_ht wo hg p0 n0 c0 T0 hr0 hT0 hO0 hsh18.2 (by omega)) h17 ?_
   rintro v K _ (⟨b19, rfl, rfl⟩) h21
   have h22 := ap2 h21
   refine go [] <| cP Tryz.call19 (wall_ht b19 (mdS (wnew 1) T0 n0)) h22 ?_
   rintro v K _ (⟨p23, c24, rfl, rfl⟩) h26
   have h27 := ap2 h26
   have hl28 := allS_le (wd_get (j := 1) h27 rfl)
   have h30 := tk5 (sf4 (sf3 (sf4 (sf4 (sf4 h27)))))
   refine go [] <| cP Tryz.call17 (wledg_ht b19 (mdS (wnew 1) T0 n0)) h30 ?_
   rintro v K _ (⟨b29, rfl, rfl⟩) h32
   refine cl1 Tryz.call23 (lglen_ht b29 ((mdS (wnew 1) T0 n0).T)) (tk6 (sf5 (sf4 (sf5 (sf5 (sf5 (sf5 (ap2 h32)))))))) fun _ h36 => ?_
   have h37 := tk6 (sf5 (sf4 (sf5 (sf5 (sf5 (sf5 h36))))))
   refine go [] <| cl1 Tryz.call20 (wnow_ht b19 (mdS (wnew 1) T0 n0)) h37 fun _ h39 => go [rd 7 0 4 0 3 h39] <| cl0 Tryz.call15 (couter_ok x y z (by omega) (by omega) (by omega)) h39 fun _ h41 => go [rd 8 1 4 0 3 h41] <| cl1 Tryz.call24 ((by have h_ := wuntil_ht b19 (mdS (wnew 1) T0 n0) x y z (by omega) (by omega); have h2_ := unt_ok (o := ((x, y, z) : Ky)) (show x = 3 from by omega) hT; rw [show untE (mdS (wnew 1) T0 n0) ((x, y, z) : Ky) = 0 from h2_.1, show untV (mdS (wnew 1) T0 n0) ((x, y, z) : Ky) = (valX (mdS (wnew 1) T0 n0).D ((x, y, z) : Ky)) from h2_.2] at h_; exact h_)) h41 fun _ h43 => ?_
   refine go [rd 9 1 4 0 3 h43] <| cl1 Tryz.call25 (wrenew_ht b19 (mdS (wnew 1) T0 n0) x y z t (by omega) (by omega)) h43 fun _ h45 => ?_
   have hrn_ : ¬ (1 ≤ t ∧ t ≤ 1048576) → renE (mdS (wnew 1) T0 n0) ((x, y, z) : Ky) t = 2 := fun h_ => ren_arg (.inr (by omega))
   refine go [.s 10 100000] ?_
   refine jnS (fun a w => ∃ sp : Bool, ∃ lr : Fr, (sp = decide (1 ≤ t ∧ t ≤ 1048576)) ∧ a = mk 201 (([(2, iV wy), (5, pV r10), (9, pV b19), (10, .slice p23 (((allS (mdS (wnew 1) T0 n0)).length)) c24), (11, iV (((((mdS (wnew 1) T0 n0).T).length : Nat) : Int))), (12, iV ((mdS (wnew 1) T0 n0).now)), (13, .bool true), (15, iV 0), (16, iV ((renE (mdS (wnew 1) T0 n0) ((x, y, z) : Ky) t))), (17, .bool (sp))] : Fr) ++ lr) ∧ sat g w [Wd b19 (renS (mdS (wnew 1) T0 n0) ((x, y, z) : Ky) t), Lg b29 ((mdS (wnew 1) T0 n0).T), Sl 32 3 p23 (((allS (mdS (wnew 1) T0 n0)).length)) c24 (fl eO (allS (mdS (wnew 1) T0 n0))), Old wo, Cl r10 [iV x, iV y, uV z] 32, R]) ?_ ?_
   ·
    refine go [.s 10 1] ?_
    by_cases c46 : t ≥ 1
    ·
     refine go [.v 10 1 (oT (t ≥ 1)), .s 10 4] ?_
     by_cases c47 : t ≤ 1048576
     ·
      refine go [.v 10 4 (oT (t ≤ 1048576))] ?_
      refine enL ?_
      exact ⟨true, _, (decide_eq_true (⟨by omega, by omega⟩)).symm, (lvF [.k 2 (iV wy), .k 5 (pV r10), .k 9 (pV b19), .k 10 (.slice p23 (((allS (mdS (wnew 1) T0 n0)).length)) c24), .k 11 (iV (((((mdS (wnew 1) T0 n0).T).length : Nat) : Int))), .k 12 (iV ((mdS (wnew 1) T0 n0).now)), .k 13 (.bool true), .k 15 (iV 0), .k 16 (iV ((renE (mdS (wnew 1) T0 n0) ((x, y, z) : Ky) t))), .k 17 (.bool (true))]), h45⟩
     refine go [.v 10 4 (oF (t ≤ 1048576))] ?_
     refine enL ?_
     exact ⟨false, _, (decide_eq_false (by omega)).symm, (lvF [.k 2 (iV wy), .k 5 (pV r10), .k 9 (pV b19), .k 10 (.slice p23 (((allS (mdS (wnew 1) T0 n0)).length)) c24), .k 11 (iV (((((mdS (wnew 1) T0 n0).T).length : Nat) : Int))), .k 12 (iV ((mdS (wnew 1) T0 n0).now)), .k 13 (.bool true), .k 15 (iV 0), .k 16 (iV ((renE (mdS (wnew 1) T0 n0) ((x, y, z) : Ky) t))), .k 17 (.bool (false))]), h45⟩
    refine go [.v 10 1 (oF (t ≥ 1))] ?_
    refine enL ?_
    exact ⟨false, _, (decide_eq_false (by omega)).symm, (lvF [.k 2 (iV wy), .k 5 (pV r10), .k 9 (pV b19), .k 10 (.slice p23 (((allS (mdS (wnew 1) T0 n0)).length)) c24), .k 11 (iV (((((mdS (wnew 1) T0 n0).T).length : Nat) : Int))), .k 12 (iV ((mdS (wnew 1) T0 n0).now)), .k 13 (.bool true), .k 15 (iV 0), .k 16 (iV ((renE (mdS (wnew 1) T0 n0) ((x, y, z) : Ky) t))), .k 17 (.bool (false))]), h45⟩
   rintro a48 w49 ⟨sp, lr51, hsp_, rfl, h50⟩
   refine ga <| go [.s 13 100000] ?_
   refine jnS (fun a w => ∃ lr : Fr, a = mk 201 (([(2, iV wy), (5, pV r10), (9, pV b19), (10, .slice p23 (((allS (mdS (wnew 1) T0 n0)).length)) c24), (11, iV (((((mdS (wnew 1) T0 n0).T).length : Nat) : Int))), (12, iV ((mdS (wnew 1) T0 n0).now)), (13, .bool true)] : Fr) ++ lr) ∧ sat g w [Wd b19 (renS (mdS (wnew 1) T0 n0) ((x, y, z) : Ky) t), Lg b29 ((mdS (wnew 1) T0 n0).T), Sl 32 3 p23 (((allS (mdS (wnew 1) T0 n0)).length)) c24 (fl eO (allS (mdS (wnew 1) T0 n0))), Old wo, Cl r10 [iV x, iV y, uV z] 32, R]) ?_ ?_
   ·
    refine go [rd 16 1 4 0 1 h50, .v 16 2 (qnF x 3), rd 19 1 4 0 3 h50] <| cl1 Tryz.call16 ((by have h_ := whas_ht b19 (renS (mdS (wnew 1) T0 n0) ((x, y, z) : Ky) t) x y z (by omega) (by omega); rw [decide_eq_true (show Thr (renS (mdS (wnew 1) T0 n0) ((x, y, z) : Ky) t) (x, y, z) from hT2_)] at h_; exact h_)) h50 fun _ h53 => ?_
    refine go [.s 11 3] ?_
    rcases Bool.eq_false_or_eq_true sp with cb54 | cb54
    ·
     refine go [.v 11 3 (⟨.bool sp, .bool true, (by rw [cb54])⟩)] ?_
     refine enL ?_
     exact ⟨_, (lvF [.k 2 (iV wy), .k 5 (pV r10), .k 9 (pV b19), .k 10 (.slice p23 (((allS (mdS (wnew 1) T0 n0)).length)) c24), .k 11 (iV (((((mdS (wnew 1) T0 n0).T).length : Nat) : Int))), .k 12 (iV ((mdS (wnew 1) T0 n0).now)), .k 13 (.bool true)]), h53⟩
    have hq55 := hrn_ (of_decide_eq_false (hsp_.symm.trans cb54))
    refine go [.v 11 3 (⟨.bool sp, .bool false, (by rw [cb54])⟩), .v 11 7 (qnF ((renE (mdS (wnew 1) T0 n0) ((x, y, z) : Ky) t)) 2)] ?_
    refine enL ?_
    exact ⟨_, (lvF [.k 2 (iV wy), .k 5 (pV r10), .k 9 (pV b19), .k 10 (.slice p23 (((allS (mdS (wnew 1) T0 n0)).length)) c24), .k 11 (iV (((((mdS (wnew 1) T0 n0).T).length : Nat) : Int))), .k 12 (iV ((mdS (wnew 1) T0 n0).now)), .k 13 (.bool true)]), h53⟩
   rintro a56 w57 ⟨lr59, rfl, h58⟩
   refine ga <| go [] <| cP Tryz.call19 ((by have h_ := wall_ht b19 (renS (mdS (wnew 1) T0 n0) ((x, y, z) : Ky) t); rw [ren_all] at h_; exact h_)) h58 ?_
   rintro v K _ (⟨p60, c61, rfl, rfl⟩) h63
   have h65 := tk7 (sf6 (sf6 (sf5 (sf5 (sf6 (sf6 (sf6 (ap2 h63))))))))
   refine go [] <| cl2 Tryz.call26 ((by have h_ := same_ht p60 p23 (((allS (mdS (wnew 1) T0 n0)).length)) (((allS (mdS (wnew 1) T0 n0)).length)) c61 c24 (allS (mdS (wnew 1) T0 n0)) (allS (mdS (wnew 1) T0 n0)) (Sl 32 3 p60 (((allS (mdS (wnew 1) T0 n0)).length)) c61 (fl eO (allS (mdS (wnew 1) T0 n0)))) (Sl 32 3 p23 (((allS (mdS (wnew 1) T0 n0)).length)) c24 (fl eO (allS (mdS (wnew 1) T0 n0)))) (gv_sl _ _ _) (gv_sl _ _ _) rfl rfl (by omega); rw [show decide ((allS (mdS (wnew 1) T0 n0)) = (allS (mdS (wnew 1) T0 n0))) = true from decide_eq_true rfl] at h_; exact h_)) h65 fun _ h67 => ?_
   have h69 := tk7 (sf6 (sf5 (sf5 (sf6 (sf6 (sf6 (sf6 h67)))))))
   refine go [] <| cP Tryz.call17 ((by have h_ := wledg_ht b19 (renS (mdS (wnew 1) T0 n0) ((x, y, z) : Ky) t); rw [(ren_T _ _ _).1] at h_; exact h_)) h69 ?_
   rintro v K _ (⟨b68, rfl, rfl⟩) h71
   refine cl1 Tryz.call23 (lglen_ht b68 ((mdS (wnew 1) T0 n0).T)) (tk8 (sf7 (sf6 (sf7 (sf7 (sf7 (sf7 (sf7 (sf7 (ap2 h71)))))))))) fun _ h75 => ?_
   have h76 := tk8 (sf7 (sf6 (sf7 (sf7 (sf7 (sf7 (sf7 (sf7 h75))))))))
   refine go [.v 22 10 (qnF (((((mdS (wnew 1) T0 n0).T).length : Nat) : Int)) (((((mdS (wnew 1) T0 n0).T).length : Nat) : Int)))] <| cl1 Tryz.call20 ((by have h_ := wnow_ht b19 (renS (mdS (wnew 1) T0 n0) ((x, y, z) : Ky) t); rw [(ren_T _ _ _).2.1] at h_; exact h_)) h76 fun _ h78 => ?_
   refine go [.v 22 16 (qnF ((mdS (wnew 1) T0 n0).now) ((mdS (wnew 1) T0 n0).now)), rd 24 1 6 0 3 h78] <| cl1 Tryz.call16 ((by have h_ := whas_ht b19 (renS (mdS (wnew 1) T0 n0) ((x, y, z) : Ky) t) x y z (by omega) (by omega); rw [decide_eq_true (show Thr (renS (mdS (wnew 1) T0 n0) ((x, y, z) : Ky) t) (x, y, z) from hT2_)] at h_; exact h_)) h78 fun _ h80 => ?_
   refine go [rd 25 1 6 0 3 h80] ?_
   by_cases c81 : 1 ≤ wy
   ·
    by_cases c82 : wy ≤ 3
    ·
     have hre_ : relE (renS (mdS (wnew 1) T0 n0) ((x, y, z) : Ky) t) ((x, y, z) : Ky) wy = 0 := (rel_ok (o := ((x, y, z) : Ky)) ⟨by omega, by omega⟩ hT2_ (by rw [(ren_T _ _ _).1]; omega)).1
     refine cl1 Tryz.call27 ((by have h_ := wrel_ht b19 (renS (mdS (wnew 1) T0 n0) ((x, y, z) : Ky) t) x y z wy (by omega) (by omega); rw [hre_] at h_; exact h_)) h80 fun _ h84 => ?_
     refine go [.v 26 4 (oF (wy < 1)), .v 26 8 (oF (wy > 3))] <| cP Tryz.call17 (wledg_ht b19 (relS (renS (mdS (wnew 1) T0 n0) ((x, y, z) : Ky) t) ((x, y, z) : Ky) wy)) h84 ?_
     rintro v K _ (⟨b85, rfl, rfl⟩) h87
     have h88 := ap2 h87
     have hnt_ : (((relS (renS (mdS (wnew 1) T0 n0) ((x, y, z) : Ky) t) ((x, y, z) : Ky) wy).T).length) = (((mdS (wnew 1) T0 n0).T).length) + 1 := by rw [(rel_T hre_).1, (ren_T _ _ _).1, List.length_append]; rfl
     refine cl1 Tryz.call23 (lglen_ht b85 ((relS (renS (mdS (wnew 1) T0 n0) ((x, y, z) : Ky) t) ((x, y, z) : Ky) wy).T)) (tk9 (sf8 (sf7 (sf8 (sf8 (sf8 (sf8 (sf8 (sf8 (sf8 h88)))))))))) fun _ h91 => ?_
     have h92 := tk9 (sf8 (sf7 (sf7 (sf7 (sf7 (sf7 (sf7 (sf8 (sf8 h91)))))))))
     refine go [.v 30 7 (oIr ((((((mdS (wnew 1) T0 n0).T).length : Nat) : Int)) + 1)), .v 30 8 (qeT (((((relS (renS (mdS (wnew 1) T0 n0) ((x, y, z) : Ky) t) ((x, y, z) : Ky) wy).T).length : Nat) : Int)) (((((mdS (wnew 1) T0 n0).T).length : Nat) : Int) + 1))] <| cl1 Tryz.call12 (works_ht wo hg) h92 fun _ h94 => go [] ?_
     exact en (.bool true) [] ⟨_, _, rfl, ⟨rfl, rfl⟩, (tk2 (sf1 (sf8 h94)))⟩
    refine cl1 Tryz.call27 ((by have h_ := wrel_ht b19 (renS (mdS (wnew 1) T0 n0) ((x, y, z) : Ky) t) x y z wy (by omega) (by omega); have h2_ := rel_arg (S := (renS (mdS (wnew 1) T0 n0) ((x, y, z) : Ky) t)) (o := ((x, y, z) : Ky)) (wy := wy) (.inr (by omega)); rw [show relE (renS (mdS (wnew 1) T0 n0) ((x, y, z) : Ky) t) ((x, y, z) : Ky) wy = 2 from h2_.1, show relA (renS (mdS (wnew 1) T0 n0) ((x, y, z) : Ky) t) ((x, y, z) : Ky) wy = 0 from h2_.2.1, show relS (renS (mdS (wnew 1) T0 n0) ((x, y, z) : Ky) t) ((x, y, z) : Ky) wy = (renS (mdS (wnew 1) T0 n0) ((x, y, z) : Ky) t) from h2_.2.2] at h_; exact h_)) h80 fun _ h97 => ?_
    refine go [.v 26 4 (oF (wy < 1)), .v 26 8 (oT (wy > 3))] <| cP Tryz.call19 ((by have h_ := wall_ht b19 (renS (mdS (wnew 1) T0 n0) ((x, y, z) : Ky) t); rw [ren_all] at h_; exact h_)) h97 ?_
    rintro v K _ (⟨p98, c99, rfl, rfl⟩) h101
    have h103 := tk9 (sf8 (sf8 (sf7 (sf7 (sf7 (sf8 (sf8 (sf8 (sf8 (ap2 h101))))))))))
    refine go [] <| cl2 Tryz.call26 ((by have h_ := same_ht p98 p23 (((allS (mdS (wnew 1) T0 n0)).length)) (((allS (mdS (wnew 1) T0 n0)).length)) c99 c24 (allS (mdS (wnew 1) T0 n0)) (allS (mdS (wnew 1) T0 n0)) (Sl 32 3 p98 (((allS (mdS (wnew 1) T0 n0)).length)) c99 (fl eO (allS (mdS (wnew 1) T0 n0)))) (Sl 32 3 p23 (((allS (mdS (wnew 1) T0 n0)).length)) c24 (fl eO (allS (mdS (wnew 1) T0 n0)))) (gv_sl _ _ _) (gv_sl _ _ _) rfl rfl (by omega); rw [show decide ((allS (mdS (wnew 1) T0 n0)) = (allS (mdS (wnew 1) T0 n0))) = true from decide_eq_true rfl] at h_; exact h_)) h103 fun _ h105 => ?_
    have h106 := tk9 (sf8 (sf7 (sf7 (sf7 (sf7 (sf7 (sf7 (sf8 (sf8 h105)))))))))
    refine go [] <| cl1 Tryz.call12 (works_ht wo hg) h106 fun _ h108 => go [] ?_
    exact en (.bool true) [] ⟨_, _, rfl, ⟨rfl, rfl⟩, (tk2 (sf1 (sf8 h108)))⟩
   refine cl1 Tryz.call27 ((by have h_ := wrel_ht b19 (renS (mdS (wnew 1) T0 n0) ((x, y, z) : Ky) t) x y z wy (by omega) (by omega); have h2_ := rel_arg (S := (renS (mdS (wnew 1) T0 n0) ((x, y, z) : Ky) t)) (o := ((x, y, z) : Ky)) (wy := wy) (.inr (by omega)); rw [show relE (renS (mdS (wnew 1) T0 n0) ((x, y, z) : Ky) t) ((x, y, z) : Ky) wy = 2 from h2_.1, show relA (renS (mdS (wnew 1) T0 n0) ((x, y, z) : Ky) t) ((x, y, z) : Ky) wy = 0 from h2_.2.1, show relS (renS (mdS (wnew 1) T0 n0) ((x, y, z) : Ky) t) ((x, y, z) : Ky) wy = (renS (mdS (wnew 1) T0 n0) ((x, y, z) : Ky) t) from h2_.2.2] at h_; exact h_)) h80 fun _ h111 => ?_
   refine go [.v 26 4 (oT (wy < 1))] <| cP Tryz.call19 ((by have h_ := wall_ht b19 (renS (mdS (wnew 1) T0 n0) ((x, y, z) : Ky) t); rw [ren_all] at h_; exact h_)) h111 ?_
   rintro v K _ (⟨p112, c113, rfl, rfl⟩) h115
   have h117 := tk9 (sf8 (sf8 (sf7 (sf7 (sf7 (sf8 (sf8 (sf8 (sf8 (ap2 h115))))))))))
   refine go [] <| cl2 Tryz.call26 ((by have h_ := same_ht p112 p23 (((allS (mdS (wnew 1) T0 n0)).length)) (((allS (mdS (wnew 1) T0 n0)).length)) c113 c24 (allS (mdS (wnew 1) T0 n0)) (allS (mdS (wnew 1) T0 n0)) (Sl 32 3 p112 (((allS (mdS (wnew 1) T0 n0)).length)) c113 (fl eO (allS (mdS (wnew 1) T0 n0)))) (Sl 32 3 p23 (((allS (mdS (wnew 1) T0 n0)).length)) c24 (fl eO (allS (mdS (wnew 1) T0 n0)))) (gv_sl _ _ _) (gv_sl _ _ _) rfl rfl (by omega); rw [show decide ((allS (mdS (wnew 1) T0 n0)) = (allS (mdS (wnew 1) T0 n0))) = true from decide_eq_true rfl] at h_; exact h_)) h117 fun _ h119 => ?_
   have h120 := tk9 (sf8 (sf7 (sf7 (sf7 (sf7 (sf7 (sf7 (sf8 (sf8 h119)))))))))
   refine go [] <| cl1 Tryz.call12 (works_ht wo hg) h120 fun _ h122 => go [] ?_
   exact en (.bool true) [] ⟨_, _, rfl, ⟨rfl, rfl⟩, (tk2 (sf1 (sf8 h122)))⟩
  refine cl1 Tryz.call11 ((by have h_ := short_ht p0 n0 c0 T0 (Old wo) (gv_old hr0) hT0 (by omega) 100; rw [cb14] at h_; exact h_)) (tk3 (sf2 (sf1 (sf2 h12)))) fun _ h126 => ?_
  refine go [] <| cl1 Tryz.call12 (works_ht wo hg) h126 fun _ h128 => go [] ?_
  exact en (.bool true) [] ⟨_, _, rfl, ⟨rfl, rfl⟩, (tk2 (sf1 (sf2 h128)))⟩
 refine cl0 Tryz.call11 (short_no p0 n0 c0 100 (by omega)) h12 fun _ h131 => ?_
 have h132 := tk3 (sf2 (sf1 (sf2 h131)))
 refine go [] <| cl1 Tryz.call12 (works_ht wo hg) h132 fun _ h134 => go [] ?_
 exact en (.bool true) [] ⟨_, _, rfl, ⟨rfl, rfl⟩, (tk2 (sf1 (sf2 h134)))⟩

theorem refuses_law (wo : World) (hg : Lett wo) (p0 : Option Addr) (n0 c0 : Nat) (T0 : List Sq) (hr0 : Rd wo p0 n0 (fl eSq T0)) (hT0 : T0.length = n0) (hO0 : ∀ x ∈ T0, SqOk x) (x y z wy t : Int) (hz0 : 0 ≤ z) (hz1 : z ≤ 4294967295) : HT Tryz.prog 5 [Value.slice p0 n0 c0, Value.agg #[Value.int IntKind.i64 x, Value.int IntKind.i64 y, Value.int IntKind.u32 z], Value.int IntKind.i64 wy, Value.int IntKind.i64 t] [Old wo] (fun v K => v = Value.bool true ∧ K = [Old wo]) := by
  by_cases ho : 1 ≤ x ∧ x ≤ 3 ∧ 0 ≤ y ∧ y ≤ 63 ∧ 1 ≤ z
  · by_cases hT : Thr (mdS (wnew 1) T0 n0) (x, y, z)
    · by_cases hx : x = 3
      · exact refuses_d wo hg p0 n0 c0 T0 hr0 hT0 hO0 x y z wy t hz0 hz1 ho hx hT
      · exact refuses_bt wo hg p0 n0 c0 T0 hr0 hT0 hO0 x y z wy t hz0 hz1 ho hx hT
    · by_cases hx : x = 3
      · exact refuses_c wo hg p0 n0 c0 T0 hr0 hT0 hO0 x y z wy t hz0 hz1 ho hx hT
      · exact refuses_bf wo hg p0 n0 c0 T0 hr0 hT0 hO0 x y z wy t hz0 hz1 ho hx hT
  · exact refuses_a wo hg p0 n0 c0 T0 hr0 hT0 hO0 x y z wy t hz0 hz1 ho
end Go.Proofs.YtggfnbpohmhphaaGreatDoor
