/- Walks, printed by my generator ../tab/gen15.py. -/
import Derived.Test.YtjjpmehiolejgaaGreatBundle28
namespace Go.Proofs.YtjjpmehiolejgaaGreat
set_option maxHeartbeats 4000000 in
theorem tnew_ok (n : Nat) (gn : Int) (hn : 1 ≤ n ∧ n ≤ 256) (hgn : 1 ≤ gn ∧ gn ≤ 4294967295) : HT Tryz.prog 6 [Value.int IntKind.i64 (((n : Nat) : Int)), Value.int IntKind.u32 gn] [] (fun v K => ∃ b : Nat, v = Value.tuple #[Value.pointer (some ⟨b, 0, none⟩), Value.int .i64 0] ∧ K = [Tab b n (List.replicate n (0, gn)) [] []]) := by
 refine hiS Tryz.func6 Tryz.ntmps6 fun g w0 R h0 => go [] <| cP Tryz.call27 (snew_ok n (by omega) gn (by omega)) h0 ?_
 rintro v K w11 (⟨b10, rfl, rfl⟩) h12
 have h13 := ap1 h12
 refine go [] ?_
 refine actG ?_
 refine ag_makeMap (t := 68) (d := 18) kI vE (by kernel_rfl) (by kernel_rfl) rfl h13 ?_
 intro r14 w15 h16
 refine nxA <| go [] <| nP 71 [pV b10, .map (some r14), .slice none 0 0] h16 (fun r17 w18 h19 => ?_)
 refine go [] ?_
 have h20 : sat g w18 [Sl 40 8 none 0 0 (fl eRs []), Cl r17 [pV b10, .map (some r14), .slice none 0 0] 71, Gp kI vE r14 [], Tb b10 n (List.replicate n (0, gn)), R] := sl_nil 40 8 h19
 have h22 : sat g w18 [Tab r17 n (List.replicate n (0, gn)) [] [], R] := tab_close (meq_refl List.nodup_nil) (by decide) (by first | rfl | omega) (tk5 (sf4 (sf4 (sf3 (sf1 (sf4 h20))))))
 exact en (.tuple #[pV r17, iV 0]) [] ⟨_, _, rfl, ⟨r17, rfl, rfl⟩, h22⟩

set_option maxHeartbeats 4000000 in
theorem tnew_no (zz gn : Int) (hgn : 0 ≤ gn ∧ gn ≤ 4294967295) (hz : zz < 1 ∨ 256 < zz ∨ gn = 0) : HT Tryz.prog 6 [Value.int IntKind.i64 zz, Value.int IntKind.u32 gn] [] (fun v K => v = Value.tuple #[Value.pointer none, Value.int .i64 2] ∧ K = []) := by
 refine hiS Tryz.func6 Tryz.ntmps6 fun g w0 R h0 => go [] ?_
 by_cases c10 : 1 ≤ zz
 ·
  by_cases c11 : zz ≤ 256
  ·
   refine cl0 Tryz.call27 (snew_no zz gn (by omega) (by omega)) h0 fun w12 h13 => go [] ?_
   exact en (.tuple #[.pointer none, iV 2]) [] ⟨_, _, rfl, ⟨rfl, rfl⟩, h13⟩
  refine cl0 Tryz.call27 (snew_no zz gn (by omega) (by omega)) h0 fun w14 h15 => go [] ?_
  exact en (.tuple #[.pointer none, iV 2]) [] ⟨_, _, rfl, ⟨rfl, rfl⟩, h15⟩
 refine cl0 Tryz.call27 (snew_no zz gn (by omega) (by omega)) h0 fun w16 h17 => go [] ?_
 exact en (.tuple #[.pointer none, iV 2]) [] ⟨_, _, rfl, ⟨rfl, rfl⟩, h17⟩

set_option maxHeartbeats 4000000 in
theorem tclose_n (x y z : Int) : HT Tryz.prog 12 [Value.pointer none, Value.agg #[Value.int IntKind.i64 x, Value.int IntKind.i64 y, Value.int IntKind.u32 z]] [] (fun v K => v = Value.tuple #[Value.int IntKind.i64 0, Value.bool false, Value.int IntKind.i64 1] ∧ K = []) := by
 refine hiS Tryz.func12 Tryz.ntmps12 fun g w0 R h0 => go [] <| nP 25 [iV x, iV y, uV z] h0 (fun r10 w11 h12 => ?_)
 refine go [rd 1 1 0 0 3 h12] <| cl0 Tryz.call43 (tfind_n x y z) h12 fun w13 h14 => go [] <| nP 89 [iV 0, iV 0, uV 0, iV 0, iV 0, uV 0] h14 (fun r15 w16 h17 => ?_)
 refine sP [(0, iV 0), (1, iV 0), (2, uV 0), (3, iV 0), (4, iV 0), (5, uV 0)] [iV 0, iV 0, uV 0, iV 0, iV 0, uV 0] h17 fun w18 h19 => go [] ?_
 exact en (.tuple #[iV 0, .bool false, iV 1]) [] ⟨_, _, rfl, ⟨rfl, rfl⟩, (tk1 (sf2 h19))⟩

set_option maxHeartbeats 4000000 in
theorem tclose_bad (b n : Nat) (A : List Sl2) (E : Tm) (RL : List Rs) (x y z : Int) (hz0 : 0 ≤ z) (hz1 : z ≤ 4294967295) (ho : ¬ (1 ≤ x ∧ x ≤ 3 ∧ 0 ≤ y ∧ y ≤ 255 ∧ 1 ≤ z)) : HT Tryz.prog 12 [Value.pointer (some ⟨b, 0, none⟩), Value.agg #[Value.int IntKind.i64 x, Value.int IntKind.i64 y, Value.int IntKind.u32 z]] [Tab b n A E RL] (fun v K => v = Value.tuple #[Value.int IntKind.i64 0, Value.bool false, Value.int IntKind.i64 2] ∧ K = [Tab b n A E RL]) := by
 refine hiS Tryz.func12 Tryz.ntmps12 fun g w0 R h0 => go [] <| nP 25 [iV x, iV y, uV z] h0 (fun r10 w11 h12 => ?_)
 have h13 := tk3 (sf2 (sf1 (sf2 h12)))
 refine go [rd 1 1 0 0 3 h12] <| cl1 Tryz.call43 (tfind_bad b n A E RL x y z (by omega) (by omega) (by omega)) h13 fun w14 h15 => go [] <| nP 89 [iV 0, iV 0, uV 0, iV 0, iV 0, uV 0] h15 (fun r16 w17 h18 => ?_)
 refine sP [(0, iV 0), (1, iV 0), (2, uV 0), (3, iV 0), (4, iV 0), (5, uV 0)] [iV 0, iV 0, uV 0, iV 0, iV 0, uV 0] h18 fun w19 h20 => go [] ?_
 exact en (.tuple #[iV 0, .bool false, iV 2]) [] ⟨_, _, rfl, ⟨rfl, rfl⟩, (tk2 (sf1 (sf3 (tk4 (sf3 (sf2 (sf3 (sf3 h20))))))))⟩

set_option maxHeartbeats 4000000 in
theorem tclose_none (b n : Nat) (A : List Sl2) (E : Tm) (RL : List Rs) (x y z : Int) (hz0 : 0 ≤ z) (hz1 : z ≤ 4294967295) (ho : 1 ≤ x ∧ x ≤ 3 ∧ 0 ≤ y ∧ y ≤ 255 ∧ 1 ≤ z) (hg_ : gget E y = none) : HT Tryz.prog 12 [Value.pointer (some ⟨b, 0, none⟩), Value.agg #[Value.int IntKind.i64 x, Value.int IntKind.i64 y, Value.int IntKind.u32 z]] [Tab b n A E RL] (fun v K => v = Value.tuple #[Value.int IntKind.i64 0, Value.bool false, Value.int IntKind.i64 7] ∧ K = [Tab b n A E RL]) := by
 refine hiS Tryz.func12 Tryz.ntmps12 fun g w0 R h0 => go [] <| nP 25 [iV x, iV y, uV z] h0 (fun r10 w11 h12 => ?_)
 have h13 := tk3 (sf2 (sf1 (sf2 h12)))
 refine go [rd 1 1 0 0 3 h12] <| cl1 Tryz.call43 (tfind_none b n A E RL x y z (by omega) (by omega) (by omega) hg_) h13 fun w14 h15 => go [] <| nP 89 [iV 0, iV 0, uV 0, iV 0, iV 0, uV 0] h15 (fun r16 w17 h18 => ?_)
 refine sP [(0, iV 0), (1, iV 0), (2, uV 0), (3, iV 0), (4, iV 0), (5, uV 0)] [iV 0, iV 0, uV 0, iV 0, iV 0, uV 0] h18 fun w19 h20 => go [] ?_
 exact en (.tuple #[iV 0, .bool false, iV 7]) [] ⟨_, _, rfl, ⟨rfl, rfl⟩, (tk2 (sf1 (sf3 (tk4 (sf3 (sf2 (sf3 (sf3 h20))))))))⟩

set_option maxHeartbeats 4000000 in
theorem tclose_diff (b n : Nat) (A : List Sl2) (E : Tm) (RL : List Rs) (x y z : Int) (e : Ety) (hz0 : 0 ≤ z) (hz1 : z ≤ 4294967295) (ho : 1 ≤ x ∧ x ≤ 3 ∧ 0 ≤ y ∧ y ≤ 255 ∧ 1 ≤ z) (hg_ : gget E y = some e) (hd_ : ¬ (e.d.1 = x ∧ e.d.2.1 = y ∧ e.d.2.2 = z)) : HT Tryz.prog 12 [Value.pointer (some ⟨b, 0, none⟩), Value.agg #[Value.int IntKind.i64 x, Value.int IntKind.i64 y, Value.int IntKind.u32 z]] [Tab b n A E RL] (fun v K => v = Value.tuple #[Value.int IntKind.i64 0, Value.bool false, Value.int IntKind.i64 7] ∧ K = [Tab b n A E RL]) := by
 refine hiS Tryz.func12 Tryz.ntmps12 fun g w0 R h0 => go [] <| nP 25 [iV x, iV y, uV z] h0 (fun r10 w11 h12 => ?_)
 have h13 := tk3 (sf2 (sf1 (sf2 h12)))
 refine go [rd 1 1 0 0 3 h12] <| cl1 Tryz.call43 (tfind_diff b n A E RL x y z e (by omega) (by omega) (by omega) hg_ (by omega)) h13 fun w14 h15 => go [] <| nP 89 [iV 0, iV 0, uV 0, iV 0, iV 0, uV 0] h15 (fun r16 w17 h18 => ?_)
 refine sP [(0, iV 0), (1, iV 0), (2, uV 0), (3, iV 0), (4, iV 0), (5, uV 0)] [iV 0, iV 0, uV 0, iV 0, iV 0, uV 0] h18 fun w19 h20 => go [] ?_
 exact en (.tuple #[iV 0, .bool false, iV 7]) [] ⟨_, _, rfl, ⟨rfl, rfl⟩, (tk2 (sf1 (sf3 (tk4 (sf3 (sf2 (sf3 (sf3 h20))))))))⟩

set_option maxHeartbeats 4000000 in
theorem tclose_ok (b n : Nat) (A : List Sl2) (E : Tm) (RL : List Rs) (x y z : Int) (e : Ety) (hz0 : 0 ≤ z) (hz1 : z ≤ 4294967295) (ho : 1 ≤ x ∧ x ≤ 3 ∧ 0 ≤ y ∧ y ≤ 255 ∧ 1 ≤ z) (hg_ : gget E y = some e) (hd_ : e.d.1 = x ∧ e.d.2.1 = y ∧ e.d.2.2 = z) (q : Nat) (s : Sl2) (hs : A[q]? = some s) (hs_ : y = (q : Int) ∧ s.1 = 1 ∧ s.2 = z) (hnum : 1 ≤ e.num ∧ e.num ≤ (RL.length : Int)) : HT Tryz.prog 12 [Value.pointer (some ⟨b, 0, none⟩), Value.agg #[Value.int IntKind.i64 x, Value.int IntKind.i64 y, Value.int IntKind.u32 z]] [Tab b n A E RL] (fun v K => v = Value.tuple #[Value.int .i64 e.num, Value.bool (decide ((descs (gdel E y) e.num).length = 0)), Value.int .i64 0] ∧ K = [Tab b n (giveA A q z) (gdel E y) RL]) := by
 refine hiS Tryz.func12 Tryz.ntmps12 fun g w0 R h0 => go [] <| nP 25 [iV x, iV y, uV z] h0 (fun r10 w11 h12 => ?_)
 have h13 := tk3 (sf2 (sf1 (sf2 h12)))
 refine go [rd 1 1 0 0 3 h12] <| cl1 Tryz.call43 (tfind_ok b n A E RL x y z e (by omega) (by omega) (by omega) hg_ (by omega)) h13 fun w14 h15 => go [] <| nP 89 [iV 0, iV 0, uV 0, iV 0, iV 0, uV 0] h15 (fun r16 w17 h18 => ?_)
 refine sP [(0, iV e.d.1), (1, iV e.d.2.1), (2, uV e.d.2.2), (3, iV e.num), (4, iV e.h.1), (5, uV e.h.2)] [iV e.d.1, iV e.d.2.1, uV e.d.2.2, iV e.num, iV e.h.1, uV e.h.2] h18 fun w19 h20 => ?_
 have h21 := tk4 (sf3 (sf2 (sf3 (sf3 h20))))
 refine go [rd 4 1 2 0 3 h20] <| cl1 Tryz.call45 (tdrop_ht b n A E RL x y z (by omega) (by omega) q s hs (by omega)) h21 fun w22 h23 => go [rd 5 2 1 3 1 h23] <| cP Tryz.call46 (tdescs_ok b n (giveA A q z) (gdel E y) RL e.num (by omega)) h23 ?_
 rintro v K w26 (⟨p24, c25, rfl, rfl⟩) h27
 have h28 := ap2 h27
 refine go [rd 6 1 2 3 1 h28, .s 6 4] ?_
 by_cases c29 : (((descs (gdel E y) e.num).length : Nat) : Int) = 0
 ·
  refine go [.v 6 4 (eT ((((descs (gdel E y) e.num).length : Nat) : Int)) 0)] ?_
  exact en (.tuple #[iV e.num, .bool true, iV 0]) [] ⟨_, _, rfl, ⟨by rw [decide_eq_true (by omega)], rfl⟩, (tk2 (sf1 (sf4 h28)))⟩
 refine go [.v 6 4 (eF ((((descs (gdel E y) e.num).length : Nat) : Int)) 0)] ?_
 exact en (.tuple #[iV e.num, .bool false, iV 0]) [] ⟨_, _, rfl, ⟨by rw [decide_eq_false (by omega)], rfl⟩, (tk2 (sf1 (sf4 h28)))⟩

set_option maxHeartbeats 4000000 in
theorem tdup_n (x y z : Int) (hx hy : Int) : HT Tryz.prog 10 [Value.pointer none, Value.agg #[Value.int IntKind.i64 x, Value.int IntKind.i64 y, Value.int IntKind.u32 z], Value.agg #[Value.int IntKind.i64 hx, Value.int IntKind.u32 hy]] [] (fun v K => v = Value.tuple #[Value.agg #[Value.int IntKind.i64 0, Value.int IntKind.i64 0, Value.int IntKind.u32 0], Value.int IntKind.i64 1] ∧ K = []) := by
 refine hiS Tryz.func10 Tryz.ntmps10 fun g w0 R h0 => go [] <| nP 25 [iV x, iV y, uV z] h0 (fun r10 w11 h12 => ?_)
 refine nP 38 [iV hx, uV hy] h12 (fun r13 w14 h15 => ?_)
 refine nP 25 [iV 0, iV 0, uV 0] h15 (fun r16 w17 h18 => ?_)
 refine go [] <| cl0 Tryz.call29 (tvalid_n) h18 fun w19 h20 => go [rd 3 1 2 0 3 h20] <| cl0 Tryz.call43 (tfind_n x y z) h20 fun w21 h22 => go [] <| nP 89 [iV 0, iV 0, uV 0, iV 0, iV 0, uV 0] h22 (fun r23 w24 h25 => ?_)
 refine sP [(0, iV 0), (1, iV 0), (2, uV 0), (3, iV 0), (4, iV 0), (5, uV 0)] [iV 0, iV 0, uV 0, iV 0, iV 0, uV 0] h25 fun w26 h27 => ?_
 have h28 := tk5 (sf4 (sf3 (sf4 (sf4 (sf4 h27)))))
 refine go [] <| sP [(0, iV 0), (1, iV 0), (2, uV 0)] [iV 0, iV 0, uV 0] h28 fun w29 h30 => go [] ?_
 exact en (.tuple #[.agg #[iV 0, iV 0, uV 0], iV 1]) [rd 0 0 0 0 3 h30] ⟨_, _, rfl, ⟨rfl, rfl⟩, (tk1 (sf4 h30))⟩

set_option maxHeartbeats 4000000 in
theorem tdup_arg (b n : Nat) (A : List Sl2) (E : Tm) (RL : List Rs) (x y z : Int) (hx hy : Int) (hob : hx < 0 ∨ 255 < hx ∨ hy ≤ 0) : HT Tryz.prog 10 [Value.pointer (some ⟨b, 0, none⟩), Value.agg #[Value.int IntKind.i64 x, Value.int IntKind.i64 y, Value.int IntKind.u32 z], Value.agg #[Value.int IntKind.i64 hx, Value.int IntKind.u32 hy]] [Tab b n A E RL] (fun v K => v = Value.tuple #[Value.agg #[Value.int IntKind.i64 0, Value.int IntKind.i64 0, Value.int IntKind.u32 0], Value.int IntKind.i64 2] ∧ K = [Tab b n A E RL]) := by
 refine hiS Tryz.func10 Tryz.ntmps10 fun g w0 R h0 => go [] <| nP 25 [iV x, iV y, uV z] h0 (fun r10 w11 h12 => ?_)
 refine nP 38 [iV hx, uV hy] h12 (fun r13 w14 h15 => ?_)
 refine nP 25 [iV 0, iV 0, uV 0] h15 (fun r16 w17 h18 => ?_)
 have h19 := tk5 (sf4 (sf3 (sf3 (sf3 (sf4 h18)))))
 refine go [] <| cl1 Tryz.call29 (tvalid_ht b n A E RL) h19 fun w20 h21 => go [rd 1 3 2 0 2 h21] ?_
 by_cases c22 : 0 ≤ hx
 ·
  by_cases c23 : hx ≤ 255
  ·
   refine cl0 Tryz.call31 (obj_f hx hy (by omega)) h21 fun w24 h25 => ?_
   have h26 := tk5 (sf4 (sf3 (sf4 (sf4 (sf4 h25)))))
   refine go [] <| sP [(0, iV 0), (1, iV 0), (2, uV 0)] [iV 0, iV 0, uV 0] h26 fun w27 h28 => go [] ?_
   exact en (.tuple #[.agg #[iV 0, iV 0, uV 0], iV 2]) [rd 0 0 0 0 3 h28] ⟨_, _, rfl, ⟨rfl, rfl⟩, (tk2 (sf1 (sf4 (tk5 (sf4 (sf3 (sf4 (sf4 (sf4 h28)))))))))⟩
  refine cl0 Tryz.call31 (obj_f hx hy (by omega)) h21 fun w31 h32 => ?_
  have h33 := tk5 (sf4 (sf3 (sf4 (sf4 (sf4 h32)))))
  refine go [] <| sP [(0, iV 0), (1, iV 0), (2, uV 0)] [iV 0, iV 0, uV 0] h33 fun w34 h35 => go [] ?_
  exact en (.tuple #[.agg #[iV 0, iV 0, uV 0], iV 2]) [rd 0 0 0 0 3 h35] ⟨_, _, rfl, ⟨rfl, rfl⟩, (tk2 (sf1 (sf4 (tk5 (sf4 (sf3 (sf4 (sf4 (sf4 h35)))))))))⟩
 refine cl0 Tryz.call31 (obj_f hx hy (by omega)) h21 fun w38 h39 => ?_
 have h40 := tk5 (sf4 (sf3 (sf4 (sf4 (sf4 h39)))))
 refine go [] <| sP [(0, iV 0), (1, iV 0), (2, uV 0)] [iV 0, iV 0, uV 0] h40 fun w41 h42 => go [] ?_
 exact en (.tuple #[.agg #[iV 0, iV 0, uV 0], iV 2]) [rd 0 0 0 0 3 h42] ⟨_, _, rfl, ⟨rfl, rfl⟩, (tk2 (sf1 (sf4 (tk5 (sf4 (sf3 (sf4 (sf4 (sf4 h42)))))))))⟩

set_option maxHeartbeats 4000000 in
theorem tdup_bad (b n : Nat) (A : List Sl2) (E : Tm) (RL : List Rs) (x y z : Int) (hx hy : Int) (hob : 0 ≤ hx ∧ hx ≤ 255 ∧ 1 ≤ hy) (hz0 : 0 ≤ z) (hz1 : z ≤ 4294967295) (ho : ¬ (1 ≤ x ∧ x ≤ 3 ∧ 0 ≤ y ∧ y ≤ 255 ∧ 1 ≤ z)) : HT Tryz.prog 10 [Value.pointer (some ⟨b, 0, none⟩), Value.agg #[Value.int IntKind.i64 x, Value.int IntKind.i64 y, Value.int IntKind.u32 z], Value.agg #[Value.int IntKind.i64 hx, Value.int IntKind.u32 hy]] [Tab b n A E RL] (fun v K => v = Value.tuple #[Value.agg #[Value.int IntKind.i64 0, Value.int IntKind.i64 0, Value.int IntKind.u32 0], Value.int IntKind.i64 2] ∧ K = [Tab b n A E RL]) := by
 refine hiS Tryz.func10 Tryz.ntmps10 fun g w0 R h0 => go [] <| nP 25 [iV x, iV y, uV z] h0 (fun r10 w11 h12 => ?_)
 refine nP 38 [iV hx, uV hy] h12 (fun r13 w14 h15 => ?_)
 refine nP 25 [iV 0, iV 0, uV 0] h15 (fun r16 w17 h18 => ?_)
 have h19 := tk5 (sf4 (sf3 (sf3 (sf3 (sf4 h18)))))
 refine go [] <| cl1 Tryz.call29 (tvalid_ht b n A E RL) h19 fun w20 h21 => go [rd 1 3 2 0 2 h21] <| cl0 Tryz.call31 (obj_t hx hy (by omega)) h21 fun w22 h23 => go [rd 3 1 3 0 3 h23] <| cl1 Tryz.call43 (tfind_bad b n A E RL x y z (by omega) (by omega) (by omega)) h23 fun w24 h25 => go [] <| nP 89 [iV 0, iV 0, uV 0, iV 0, iV 0, uV 0] h25 (fun r26 w27 h28 => ?_)
 refine sP [(0, iV 0), (1, iV 0), (2, uV 0), (3, iV 0), (4, iV 0), (5, uV 0)] [iV 0, iV 0, uV 0, iV 0, iV 0, uV 0] h28 fun w29 h30 => ?_
 have h31 := tk6 (sf5 (sf4 (sf4 (sf5 (sf5 (sf5 h30))))))
 refine go [] <| sP [(0, iV 0), (1, iV 0), (2, uV 0)] [iV 0, iV 0, uV 0] h31 fun w32 h33 => go [] ?_
 exact en (.tuple #[.agg #[iV 0, iV 0, uV 0], iV 2]) [rd 0 0 0 0 3 h33] ⟨_, _, rfl, ⟨rfl, rfl⟩, (tk2 (sf1 (sf5 (tk6 (sf5 (sf4 (sf4 (sf5 (sf5 (sf5 h33))))))))))⟩

set_option maxHeartbeats 4000000 in
theorem tdup_none (b n : Nat) (A : List Sl2) (E : Tm) (RL : List Rs) (x y z : Int) (hx hy : Int) (hob : 0 ≤ hx ∧ hx ≤ 255 ∧ 1 ≤ hy) (hz0 : 0 ≤ z) (hz1 : z ≤ 4294967295) (ho : 1 ≤ x ∧ x ≤ 3 ∧ 0 ≤ y ∧ y ≤ 255 ∧ 1 ≤ z) (hg_ : gget E y = none) : HT Tryz.prog 10 [Value.pointer (some ⟨b, 0, none⟩), Value.agg #[Value.int IntKind.i64 x, Value.int IntKind.i64 y, Value.int IntKind.u32 z], Value.agg #[Value.int IntKind.i64 hx, Value.int IntKind.u32 hy]] [Tab b n A E RL] (fun v K => v = Value.tuple #[Value.agg #[Value.int IntKind.i64 0, Value.int IntKind.i64 0, Value.int IntKind.u32 0], Value.int IntKind.i64 7] ∧ K = [Tab b n A E RL]) := by
 refine hiS Tryz.func10 Tryz.ntmps10 fun g w0 R h0 => go [] <| nP 25 [iV x, iV y, uV z] h0 (fun r10 w11 h12 => ?_)
 refine nP 38 [iV hx, uV hy] h12 (fun r13 w14 h15 => ?_)
 refine nP 25 [iV 0, iV 0, uV 0] h15 (fun r16 w17 h18 => ?_)
 have h19 := tk5 (sf4 (sf3 (sf3 (sf3 (sf4 h18)))))
 refine go [] <| cl1 Tryz.call29 (tvalid_ht b n A E RL) h19 fun w20 h21 => go [rd 1 3 2 0 2 h21] <| cl0 Tryz.call31 (obj_t hx hy (by omega)) h21 fun w22 h23 => go [rd 3 1 3 0 3 h23] <| cl1 Tryz.call43 (tfind_none b n A E RL x y z (by omega) (by omega) (by omega) hg_) h23 fun w24 h25 => go [] <| nP 89 [iV 0, iV 0, uV 0, iV 0, iV 0, uV 0] h25 (fun r26 w27 h28 => ?_)
 refine sP [(0, iV 0), (1, iV 0), (2, uV 0), (3, iV 0), (4, iV 0), (5, uV 0)] [iV 0, iV 0, uV 0, iV 0, iV 0, uV 0] h28 fun w29 h30 => ?_
 have h31 := tk6 (sf5 (sf4 (sf4 (sf5 (sf5 (sf5 h30))))))
 refine go [] <| sP [(0, iV 0), (1, iV 0), (2, uV 0)] [iV 0, iV 0, uV 0] h31 fun w32 h33 => go [] ?_
 exact en (.tuple #[.agg #[iV 0, iV 0, uV 0], iV 7]) [rd 0 0 0 0 3 h33] ⟨_, _, rfl, ⟨rfl, rfl⟩, (tk2 (sf1 (sf5 (tk6 (sf5 (sf4 (sf4 (sf5 (sf5 (sf5 h33))))))))))⟩

set_option maxHeartbeats 4000000 in
theorem tdup_diff (b n : Nat) (A : List Sl2) (E : Tm) (RL : List Rs) (x y z : Int) (hx hy : Int) (hob : 0 ≤ hx ∧ hx ≤ 255 ∧ 1 ≤ hy) (e : Ety) (hz0 : 0 ≤ z) (hz1 : z ≤ 4294967295) (ho : 1 ≤ x ∧ x ≤ 3 ∧ 0 ≤ y ∧ y ≤ 255 ∧ 1 ≤ z) (hg_ : gget E y = some e) (hd_ : ¬ (e.d.1 = x ∧ e.d.2.1 = y ∧ e.d.2.2 = z)) : HT Tryz.prog 10 [Value.pointer (some ⟨b, 0, none⟩), Value.agg #[Value.int IntKind.i64 x, Value.int IntKind.i64 y, Value.int IntKind.u32 z], Value.agg #[Value.int IntKind.i64 hx, Value.int IntKind.u32 hy]] [Tab b n A E RL] (fun v K => v = Value.tuple #[Value.agg #[Value.int IntKind.i64 0, Value.int IntKind.i64 0, Value.int IntKind.u32 0], Value.int IntKind.i64 7] ∧ K = [Tab b n A E RL]) := by
 refine hiS Tryz.func10 Tryz.ntmps10 fun g w0 R h0 => go [] <| nP 25 [iV x, iV y, uV z] h0 (fun r10 w11 h12 => ?_)
 refine nP 38 [iV hx, uV hy] h12 (fun r13 w14 h15 => ?_)
 refine nP 25 [iV 0, iV 0, uV 0] h15 (fun r16 w17 h18 => ?_)
 have h19 := tk5 (sf4 (sf3 (sf3 (sf3 (sf4 h18)))))
 refine go [] <| cl1 Tryz.call29 (tvalid_ht b n A E RL) h19 fun w20 h21 => go [rd 1 3 2 0 2 h21] <| cl0 Tryz.call31 (obj_t hx hy (by omega)) h21 fun w22 h23 => go [rd 3 1 3 0 3 h23] <| cl1 Tryz.call43 (tfind_diff b n A E RL x y z e (by omega) (by omega) (by omega) hg_ (by omega)) h23 fun w24 h25 => go [] <| nP 89 [iV 0, iV 0, uV 0, iV 0, iV 0, uV 0] h25 (fun r26 w27 h28 => ?_)
 refine sP [(0, iV 0), (1, iV 0), (2, uV 0), (3, iV 0), (4, iV 0), (5, uV 0)] [iV 0, iV 0, uV 0, iV 0, iV 0, uV 0] h28 fun w29 h30 => ?_
 have h31 := tk6 (sf5 (sf4 (sf4 (sf5 (sf5 (sf5 h30))))))
 refine go [] <| sP [(0, iV 0), (1, iV 0), (2, uV 0)] [iV 0, iV 0, uV 0] h31 fun w32 h33 => go [] ?_
 exact en (.tuple #[.agg #[iV 0, iV 0, uV 0], iV 7]) [rd 0 0 0 0 3 h33] ⟨_, _, rfl, ⟨rfl, rfl⟩, (tk2 (sf1 (sf5 (tk6 (sf5 (sf4 (sf4 (sf5 (sf5 (sf5 h33))))))))))⟩

set_option maxHeartbeats 4000000 in
theorem tdup_have (b n : Nat) (A : List Sl2) (E : Tm) (RL : List Rs) (x y z : Int) (hx hy : Int) (hob : 0 ≤ hx ∧ hx ≤ 255 ∧ 1 ≤ hy) (e : Ety) (hz0 : 0 ≤ z) (hz1 : z ≤ 4294967295) (ho : 1 ≤ x ∧ x ≤ 3 ∧ 0 ≤ y ∧ y ≤ 255 ∧ 1 ≤ z) (hg_ : gget E y = some e) (hd_ : e.d.1 = x ∧ e.d.2.1 = y ∧ e.d.2.2 = z) (hh : ∃ e ∈ allE E, e.h = (hx, hy)) : HT Tryz.prog 10 [Value.pointer (some ⟨b, 0, none⟩), Value.agg #[Value.int IntKind.i64 x, Value.int IntKind.i64 y, Value.int IntKind.u32 z], Value.agg #[Value.int IntKind.i64 hx, Value.int IntKind.u32 hy]] [Tab b n A E RL] (fun v K => v = Value.tuple #[Value.agg #[Value.int IntKind.i64 0, Value.int IntKind.i64 0, Value.int IntKind.u32 0], Value.int IntKind.i64 6] ∧ K = [Tab b n A E RL]) := by
 refine hiS Tryz.func10 Tryz.ntmps10 fun g w0 R h0 => go [] <| nP 25 [iV x, iV y, uV z] h0 (fun r10 w11 h12 => ?_)
 refine nP 38 [iV hx, uV hy] h12 (fun r13 w14 h15 => ?_)
 refine nP 25 [iV 0, iV 0, uV 0] h15 (fun r16 w17 h18 => ?_)
 have h19 := tk5 (sf4 (sf3 (sf3 (sf3 (sf4 h18)))))
 refine go [] <| cl1 Tryz.call29 (tvalid_ht b n A E RL) h19 fun w20 h21 => go [rd 1 3 2 0 2 h21] <| cl0 Tryz.call31 (obj_t hx hy (by omega)) h21 fun w22 h23 => go [rd 3 1 3 0 3 h23] <| cl1 Tryz.call43 (tfind_ok b n A E RL x y z e (by omega) (by omega) (by omega) hg_ (by omega)) h23 fun w24 h25 => go [] <| nP 89 [iV 0, iV 0, uV 0, iV 0, iV 0, uV 0] h25 (fun r26 w27 h28 => ?_)
 refine sP [(0, iV e.d.1), (1, iV e.d.2.1), (2, uV e.d.2.2), (3, iV e.num), (4, iV e.h.1), (5, uV e.h.2)] [iV e.d.1, iV e.d.2.1, uV e.d.2.2, iV e.num, iV e.h.1, uV e.h.2] h28 fun w29 h30 => ?_
 have h31 := tk6 (sf5 (sf4 (sf5 (sf5 (sf5 (sf5 h30))))))
 refine go [rd 6 1 3 0 2 h30] <| cl1 Tryz.call34 (thas_t b n A E RL hx hy hh) h31 fun w32 h33 => ?_
 have h34 := tk6 (sf5 (sf4 (sf4 (sf5 (sf5 (sf5 h33))))))
 refine go [] <| sP [(0, iV 0), (1, iV 0), (2, uV 0)] [iV 0, iV 0, uV 0] h34 fun w35 h36 => go [] ?_
 exact en (.tuple #[.agg #[iV 0, iV 0, uV 0], iV 6]) [rd 0 0 0 0 3 h36] ⟨_, _, rfl, ⟨rfl, rfl⟩, (tk2 (sf1 (sf5 (tk6 (sf5 (sf4 (sf5 (sf5 (sf5 (sf5 h36))))))))))⟩

set_option maxHeartbeats 4000000 in
theorem tdup_full (b n : Nat) (A : List Sl2) (E : Tm) (RL : List Rs) (x y z : Int) (hx hy : Int) (hob : 0 ≤ hx ∧ hx ≤ 255 ∧ 1 ≤ hy) (e : Ety) (hz0 : 0 ≤ z) (hz1 : z ≤ 4294967295) (ho : 1 ≤ x ∧ x ≤ 3 ∧ 0 ≤ y ∧ y ≤ 255 ∧ 1 ≤ z) (hg_ : gget E y = some e) (hd_ : e.d.1 = x ∧ e.d.2.1 = y ∧ e.d.2.2 = z) (hh : ∀ e ∈ allE E, e.h ≠ (hx, hy)) (q : Nat) (r : Rs) (hr : RL[q]? = some r) (hv : e.num = (q : Int) + 1) (hf : (inS 0 A 0).length = 0) : HT Tryz.prog 10 [Value.pointer (some ⟨b, 0, none⟩), Value.agg #[Value.int IntKind.i64 x, Value.int IntKind.i64 y, Value.int IntKind.u32 z], Value.agg #[Value.int IntKind.i64 hx, Value.int IntKind.u32 hy]] [Tab b n A E RL] (fun v K => v = Value.tuple #[Value.agg #[Value.int IntKind.i64 0, Value.int IntKind.i64 0, Value.int IntKind.u32 0], Value.int IntKind.i64 4] ∧ K = [Tab b n A E RL]) := by
 refine hiS Tryz.func10 Tryz.ntmps10 fun g w0 R h0 => go [] <| nP 25 [iV x, iV y, uV z] h0 (fun r10 w11 h12 => ?_)
 refine nP 38 [iV hx, uV hy] h12 (fun r13 w14 h15 => ?_)
 refine nP 25 [iV 0, iV 0, uV 0] h15 (fun r16 w17 h18 => ?_)
 have h19 := tk5 (sf4 (sf3 (sf3 (sf3 (sf4 h18)))))
 refine go [] <| cl1 Tryz.call29 (tvalid_ht b n A E RL) h19 fun w20 h21 => go [rd 1 3 2 0 2 h21] <| cl0 Tryz.call31 (obj_t hx hy (by omega)) h21 fun w22 h23 => go [rd 3 1 3 0 3 h23] <| cl1 Tryz.call43 (tfind_ok b n A E RL x y z e (by omega) (by omega) (by omega) hg_ (by omega)) h23 fun w24 h25 => go [] <| nP 89 [iV 0, iV 0, uV 0, iV 0, iV 0, uV 0] h25 (fun r26 w27 h28 => ?_)
 refine sP [(0, iV e.d.1), (1, iV e.d.2.1), (2, uV e.d.2.2), (3, iV e.num), (4, iV e.h.1), (5, uV e.h.2)] [iV e.d.1, iV e.d.2.1, uV e.d.2.2, iV e.num, iV e.h.1, uV e.h.2] h28 fun w29 h30 => ?_
 have h31 := tk6 (sf5 (sf4 (sf5 (sf5 (sf5 (sf5 h30))))))
 refine go [rd 6 1 3 0 2 h30] <| cl1 Tryz.call34 (thas_f b n A E RL hx hy hh) h31 fun w32 h33 => go [rd 8 2 1 3 1 h33, rd 8 3 3 0 2 h33] <| cl1 Tryz.call36 (tadd_full b n A E RL e.num hx hy q r hr (by omega) (by omega)) h33 fun w34 h35 => ?_
 have h36 := tk6 (sf5 (sf4 (sf4 (sf5 (sf5 (sf5 h35))))))
 refine go [] <| sP [(0, iV 0), (1, iV 0), (2, uV 0)] [iV 0, iV 0, uV 0] h36 fun w37 h38 => go [] ?_
 exact en (.tuple #[.agg #[iV 0, iV 0, uV 0], iV 4]) [rd 0 0 0 0 3 h38] ⟨_, _, rfl, ⟨rfl, rfl⟩, (tk2 (sf1 (sf5 (tk6 (sf5 (sf4 (sf5 (sf5 (sf5 (sf5 h38))))))))))⟩

set_option maxHeartbeats 4000000 in
theorem tdup_ok (b n : Nat) (A : List Sl2) (E : Tm) (RL : List Rs) (x y z : Int) (hx hy : Int) (hob : 0 ≤ hx ∧ hx ≤ 255 ∧ 1 ≤ hy) (e : Ety) (hz0 : 0 ≤ z) (hz1 : z ≤ 4294967295) (ho : 1 ≤ x ∧ x ≤ 3 ∧ 0 ≤ y ∧ y ≤ 255 ∧ 1 ≤ z) (hg_ : gget E y = some e) (hd_ : e.d.1 = x ∧ e.d.2.1 = y ∧ e.d.2.2 = z) (hh : ∀ e ∈ allE E, e.h ≠ (hx, hy)) (q : Nat) (r : Rs) (hr : RL[q]? = some r) (hv : e.num = (q : Int) + 1) (j : Nat) (gj : Int) (hj : (inS 0 A 0)[0]? = some (j, gj)) (hfl_ : 1 ≤ (inS 0 A 0).length) : HT Tryz.prog 10 [Value.pointer (some ⟨b, 0, none⟩), Value.agg #[Value.int IntKind.i64 x, Value.int IntKind.i64 y, Value.int IntKind.u32 z], Value.agg #[Value.int IntKind.i64 hx, Value.int IntKind.u32 hy]] [Tab b n A E RL] (fun v K => v = Value.tuple #[Value.agg #[Value.int IntKind.i64 r.out.1, Value.int IntKind.i64 (((j : Nat) : Int)), Value.int IntKind.u32 gj], Value.int IntKind.i64 0] ∧ K = [Tab b n (A.set j (1, gj)) (gset E (j : Int) ⟨(r.out.1, (j : Int), gj), e.num, (hx, hy)⟩) RL]) := by
 refine hiS Tryz.func10 Tryz.ntmps10 fun g w0 R h0 => go [] <| nP 25 [iV x, iV y, uV z] h0 (fun r10 w11 h12 => ?_)
 refine nP 38 [iV hx, uV hy] h12 (fun r13 w14 h15 => ?_)
 refine nP 25 [iV 0, iV 0, uV 0] h15 (fun r16 w17 h18 => ?_)
 have h19 := tk5 (sf4 (sf3 (sf3 (sf3 (sf4 h18)))))
 refine go [] <| cl1 Tryz.call29 (tvalid_ht b n A E RL) h19 fun w20 h21 => go [rd 1 3 2 0 2 h21] <| cl0 Tryz.call31 (obj_t hx hy (by omega)) h21 fun w22 h23 => go [rd 3 1 3 0 3 h23] <| cl1 Tryz.call43 (tfind_ok b n A E RL x y z e (by omega) (by omega) (by omega) hg_ (by omega)) h23 fun w24 h25 => go [] <| nP 89 [iV 0, iV 0, uV 0, iV 0, iV 0, uV 0] h25 (fun r26 w27 h28 => ?_)
 refine sP [(0, iV e.d.1), (1, iV e.d.2.1), (2, uV e.d.2.2), (3, iV e.num), (4, iV e.h.1), (5, uV e.h.2)] [iV e.d.1, iV e.d.2.1, uV e.d.2.2, iV e.num, iV e.h.1, uV e.h.2] h28 fun w29 h30 => ?_
 have h31 := tk6 (sf5 (sf4 (sf5 (sf5 (sf5 (sf5 h30))))))
 refine go [rd 6 1 3 0 2 h30] <| cl1 Tryz.call34 (thas_f b n A E RL hx hy hh) h31 fun w32 h33 => go [rd 8 2 1 3 1 h33, rd 8 3 3 0 2 h33] <| cl1 Tryz.call36 (tadd_ok b n A E RL e.num hx hy q r hr (by omega) j gj hj) h33 fun w34 h35 => ?_
 have h36 := tk6 (sf5 (sf4 (sf4 (sf5 (sf5 (sf5 h35))))))
 refine go [] <| sP [(0, iV r.out.1), (1, iV (j : Int)), (2, uV gj)] [iV r.out.1, iV (j : Int), uV gj] h36 fun w37 h38 => go [] ?_
 exact en (.tuple #[.agg #[iV r.out.1, iV (j : Int), uV gj], iV 0]) [rd 0 0 0 0 3 h38] ⟨_, _, rfl, ⟨rfl, rfl⟩, (tk2 (sf1 (sf5 (tk6 (sf5 (sf4 (sf5 (sf5 (sf5 (sf5 h38))))))))))⟩

end Go.Proofs.YtjjpmehiolejgaaGreat

/- Walks, printed by my generator ../tab/gen16.py. -/
namespace Go.Proofs.YtjjpmehiolejgaaGreat
set_option maxHeartbeats 4000000 in
theorem topen_tag (b n : Nat) (A : List Sl2) (E : Tm) (RL : List Rs) (x y z hx hy : Int) (L : List UInt8) (hz0 : 0 ≤ z) (hz1 : z ≤ 4294967295) (hm : L.length ≤ 1099511627776) (ho : 1 ≤ x ∧ x ≤ 3 ∧ 0 ≤ y ∧ y ≤ 63 ∧ 1 ≤ z) (ht : ¬ tagE L = 0) : HT Tryz.prog 8 [Value.pointer (some ⟨b, 0, none⟩), Value.agg #[Value.int IntKind.i64 x, Value.int IntKind.i64 y, Value.int IntKind.u32 z], Value.string (St L), Value.agg #[Value.int IntKind.i64 hx, Value.int IntKind.u32 hy]] [Tab b n A E RL] (fun v K => v = Value.tuple #[Value.agg #[Value.int IntKind.i64 0, Value.int IntKind.i64 0, Value.int IntKind.u32 0], Value.int IntKind.i64 16] ∧ K = [Tab b n A E RL]) := by
 refine hiS Tryz.func8 Tryz.ntmps8 fun g w0 R h0 => go [] <| nP 36 [iV x, iV y, uV z] h0 (fun r10 w11 h12 => ?_)
 refine nP 38 [iV hx, uV hy] h12 (fun r13 w14 h15 => ?_)
 refine nP 25 [iV 0, iV 0, uV 0] h15 (fun r16 w17 h18 => ?_)
 have h19 := tk5 (sf4 (sf3 (sf3 (sf3 (sf4 h18)))))
 refine go [] <| cl1 Tryz.call29 (tvalid_ht b n A E RL) h19 fun w20 h21 => go [rd 3 0 3 0 3 h21] <| cl0 Tryz.call30 (rnew_tag x y z L (by omega) (by omega) (by omega) (by omega) (by omega)) h21 fun w22 h23 => go [] <| nP 40 [iV 0, iV 0, uV 0, iV 0, iV 0, iV 0, iV 0, .string (St [])] h23 (fun r24 w25 h26 => ?_)
 refine sP [(0, iV 0), (1, iV 0), (2, uV 0), (3, iV 0), (4, iV 0), (5, iV 0), (6, iV 0), (7, .string (St []))] [iV 0, iV 0, uV 0, iV 0, iV 0, iV 0, iV 0, .string (St [])] h26 fun w27 h28 => ?_
 have h29 := tk6 (sf5 (sf4 (sf4 (sf5 (sf5 (sf5 h28))))))
 refine go [] <| sP [(0, iV 0), (1, iV 0), (2, uV 0)] [iV 0, iV 0, uV 0] h29 fun w30 h31 => go [] ?_
 exact en (.tuple #[.agg #[iV 0, iV 0, uV 0], iV 16]) [rd 0 0 0 0 3 h31] ⟨_, _, rfl, ⟨rfl, rfl⟩, (tk2 (sf1 (sf5 (tk6 (sf5 (sf4 (sf4 (sf5 (sf5 (sf5 h31))))))))))⟩

set_option maxHeartbeats 4000000 in
theorem topen_out (b n : Nat) (A : List Sl2) (E : Tm) (RL : List Rs) (x y z hx hy : Int) (L : List UInt8) (hz0 : 0 ≤ z) (hz1 : z ≤ 4294967295) (hm : L.length ≤ 1099511627776) (ho : ¬ (1 ≤ x ∧ x ≤ 3 ∧ 0 ≤ y ∧ y ≤ 63 ∧ 1 ≤ z)) : HT Tryz.prog 8 [Value.pointer (some ⟨b, 0, none⟩), Value.agg #[Value.int IntKind.i64 x, Value.int IntKind.i64 y, Value.int IntKind.u32 z], Value.string (St L), Value.agg #[Value.int IntKind.i64 hx, Value.int IntKind.u32 hy]] [Tab b n A E RL] (fun v K => v = Value.tuple #[Value.agg #[Value.int IntKind.i64 0, Value.int IntKind.i64 0, Value.int IntKind.u32 0], Value.int IntKind.i64 2] ∧ K = [Tab b n A E RL]) := by
 refine hiS Tryz.func8 Tryz.ntmps8 fun g w0 R h0 => go [] <| nP 36 [iV x, iV y, uV z] h0 (fun r10 w11 h12 => ?_)
 refine nP 38 [iV hx, uV hy] h12 (fun r13 w14 h15 => ?_)
 refine nP 25 [iV 0, iV 0, uV 0] h15 (fun r16 w17 h18 => ?_)
 have h19 := tk5 (sf4 (sf3 (sf3 (sf3 (sf4 h18)))))
 refine go [] <| cl1 Tryz.call29 (tvalid_ht b n A E RL) h19 fun w20 h21 => go [rd 3 0 3 0 3 h21] <| cl0 Tryz.call30 (rnew_no x y z L (by omega) (by omega) (by omega) (by omega)) h21 fun w22 h23 => go [] <| nP 40 [iV 0, iV 0, uV 0, iV 0, iV 0, iV 0, iV 0, .string (St [])] h23 (fun r24 w25 h26 => ?_)
 refine sP [(0, iV 0), (1, iV 0), (2, uV 0), (3, iV 0), (4, iV 0), (5, iV 0), (6, iV 0), (7, .string (St []))] [iV 0, iV 0, uV 0, iV 0, iV 0, iV 0, iV 0, .string (St [])] h26 fun w27 h28 => ?_
 have h29 := tk6 (sf5 (sf4 (sf4 (sf5 (sf5 (sf5 h28))))))
 refine go [] <| sP [(0, iV 0), (1, iV 0), (2, uV 0)] [iV 0, iV 0, uV 0] h29 fun w30 h31 => go [] ?_
 exact en (.tuple #[.agg #[iV 0, iV 0, uV 0], iV 2]) [rd 0 0 0 0 3 h31] ⟨_, _, rfl, ⟨rfl, rfl⟩, (tk2 (sf1 (sf5 (tk6 (sf5 (sf4 (sf4 (sf5 (sf5 (sf5 h31))))))))))⟩

set_option maxHeartbeats 4000000 in
theorem topen_arg (b n : Nat) (A : List Sl2) (E : Tm) (RL : List Rs) (x y z hx hy : Int) (L : List UInt8) (hz0 : 0 ≤ z) (hz1 : z ≤ 4294967295) (hm : L.length ≤ 1099511627776) (ho : 1 ≤ x ∧ x ≤ 3 ∧ 0 ≤ y ∧ y ≤ 63 ∧ 1 ≤ z) (ht : tagE L = 0) (hob : hx < 0 ∨ 255 < hx ∨ hy ≤ 0) : HT Tryz.prog 8 [Value.pointer (some ⟨b, 0, none⟩), Value.agg #[Value.int IntKind.i64 x, Value.int IntKind.i64 y, Value.int IntKind.u32 z], Value.string (St L), Value.agg #[Value.int IntKind.i64 hx, Value.int IntKind.u32 hy]] [Tab b n A E RL] (fun v K => v = Value.tuple #[Value.agg #[Value.int IntKind.i64 0, Value.int IntKind.i64 0, Value.int IntKind.u32 0], Value.int IntKind.i64 2] ∧ K = [Tab b n A E RL]) := by
 refine hiS Tryz.func8 Tryz.ntmps8 fun g w0 R h0 => go [] <| nP 36 [iV x, iV y, uV z] h0 (fun r10 w11 h12 => ?_)
 refine nP 38 [iV hx, uV hy] h12 (fun r13 w14 h15 => ?_)
 refine nP 25 [iV 0, iV 0, uV 0] h15 (fun r16 w17 h18 => ?_)
 have h19 := tk5 (sf4 (sf3 (sf3 (sf3 (sf4 h18)))))
 refine go [] <| cl1 Tryz.call29 (tvalid_ht b n A E RL) h19 fun w20 h21 => go [rd 3 0 3 0 3 h21] <| cl0 Tryz.call30 (rnew_ok x y z L (by omega) (by omega) (by omega) (by omega) (by omega)) h21 fun w22 h23 => go [] <| nP 40 [iV 0, iV 0, uV 0, iV 0, iV 0, iV 0, iV 0, .string (St [])] h23 (fun r24 w25 h26 => ?_)
 refine sP [(0, iV x), (1, iV y), (2, uV z), (3, iV 1), (4, iV 0), (5, iV 0), (6, iV 0), (7, .string (St L))] [iV x, iV y, uV z, iV 1, iV 0, iV 0, iV 0, .string (St L)] h26 fun w27 h28 => go [rd 6 0 3 0 2 h28] ?_
 by_cases c29 : 0 ≤ hx
 ·
  by_cases c30 : hx ≤ 255
  ·
   refine cl0 Tryz.call31 (obj_f hx hy (by omega)) h28 fun w31 h32 => ?_
   have h33 := tk6 (sf5 (sf4 (sf4 (sf5 (sf5 (sf5 h32))))))
   refine go [] <| sP [(0, iV 0), (1, iV 0), (2, uV 0)] [iV 0, iV 0, uV 0] h33 fun w34 h35 => go [] ?_
   exact en (.tuple #[.agg #[iV 0, iV 0, uV 0], iV 2]) [rd 0 0 0 0 3 h35] ⟨_, _, rfl, ⟨rfl, rfl⟩, (tk2 (sf1 (sf5 (tk6 (sf5 (sf4 (sf4 (sf5 (sf5 (sf5 h35))))))))))⟩
  refine cl0 Tryz.call31 (obj_f hx hy (by omega)) h28 fun w38 h39 => ?_
  have h40 := tk6 (sf5 (sf4 (sf4 (sf5 (sf5 (sf5 h39))))))
  refine go [] <| sP [(0, iV 0), (1, iV 0), (2, uV 0)] [iV 0, iV 0, uV 0] h40 fun w41 h42 => go [] ?_
  exact en (.tuple #[.agg #[iV 0, iV 0, uV 0], iV 2]) [rd 0 0 0 0 3 h42] ⟨_, _, rfl, ⟨rfl, rfl⟩, (tk2 (sf1 (sf5 (tk6 (sf5 (sf4 (sf4 (sf5 (sf5 (sf5 h42))))))))))⟩
 refine cl0 Tryz.call31 (obj_f hx hy (by omega)) h28 fun w45 h46 => ?_
 have h47 := tk6 (sf5 (sf4 (sf4 (sf5 (sf5 (sf5 h46))))))
 refine go [] <| sP [(0, iV 0), (1, iV 0), (2, uV 0)] [iV 0, iV 0, uV 0] h47 fun w48 h49 => go [] ?_
 exact en (.tuple #[.agg #[iV 0, iV 0, uV 0], iV 2]) [rd 0 0 0 0 3 h49] ⟨_, _, rfl, ⟨rfl, rfl⟩, (tk2 (sf1 (sf5 (tk6 (sf5 (sf4 (sf4 (sf5 (sf5 (sf5 h49))))))))))⟩

set_option maxHeartbeats 4000000 in
theorem topen_out2 (b n : Nat) (A : List Sl2) (E : Tm) (RL : List Rs) (x y z hx hy : Int) (L : List UInt8) (hz0 : 0 ≤ z) (hz1 : z ≤ 4294967295) (hm : L.length ≤ 1099511627776) (ho : 1 ≤ x ∧ x ≤ 3 ∧ 0 ≤ y ∧ y ≤ 63 ∧ 1 ≤ z) (ht : tagE L = 0) (hob : 0 ≤ hx ∧ hx ≤ 255 ∧ 1 ≤ hy) (hc : ∃ r ∈ RL, r.out = (x, y, z)) : HT Tryz.prog 8 [Value.pointer (some ⟨b, 0, none⟩), Value.agg #[Value.int IntKind.i64 x, Value.int IntKind.i64 y, Value.int IntKind.u32 z], Value.string (St L), Value.agg #[Value.int IntKind.i64 hx, Value.int IntKind.u32 hy]] [Tab b n A E RL] (fun v K => v = Value.tuple #[Value.agg #[Value.int IntKind.i64 0, Value.int IntKind.i64 0, Value.int IntKind.u32 0], Value.int IntKind.i64 6] ∧ K = [Tab b n A E RL]) := by
 refine hiS Tryz.func8 Tryz.ntmps8 fun g w0 R h0 => go [] <| nP 36 [iV x, iV y, uV z] h0 (fun r10 w11 h12 => ?_)
 refine nP 38 [iV hx, uV hy] h12 (fun r13 w14 h15 => ?_)
 refine nP 25 [iV 0, iV 0, uV 0] h15 (fun r16 w17 h18 => ?_)
 have h19 := tk5 (sf4 (sf3 (sf3 (sf3 (sf4 h18)))))
 refine go [] <| cl1 Tryz.call29 (tvalid_ht b n A E RL) h19 fun w20 h21 => go [rd 3 0 3 0 3 h21] <| cl0 Tryz.call30 (rnew_ok x y z L (by omega) (by omega) (by omega) (by omega) (by omega)) h21 fun w22 h23 => go [] <| nP 40 [iV 0, iV 0, uV 0, iV 0, iV 0, iV 0, iV 0, .string (St [])] h23 (fun r24 w25 h26 => ?_)
 refine sP [(0, iV x), (1, iV y), (2, uV z), (3, iV 1), (4, iV 0), (5, iV 0), (6, iV 0), (7, .string (St L))] [iV x, iV y, uV z, iV 1, iV 0, iV 0, iV 0, .string (St L)] h26 fun w27 h28 => go [rd 6 0 3 0 2 h28] <| cl0 Tryz.call31 (obj_t hx hy (by omega)) h28 fun w29 h30 => ?_
 obtain ⟨s32, m33, p34, c35, E36, hM37, h38⟩ := tab_open (tk6 (sf5 (sf4 (sf5 (sf5 (sf5 (sf5 h30)))))))
 have hRl_ := hM37.2
 have h39 := tk9 (sf8 (sf8 (sf6 (sf6 (sf6 (sf7 (sf7 (sf7 (sf8 h38)))))))))
 refine go [rd 8 3 0 2 1 h38] <| cl2 Tryz.call32 (rhas_t p34 RL.length c35 r10 RL x y z hc (by omega)) h39 fun w40 h41 => ?_
 have h42 := tk9 (sf8 (sf7 (sf7 (sf7 (sf7 (sf7 (sf7 (sf8 (sf8 h41)))))))))
 refine go [] <| sP [(0, iV 0), (1, iV 0), (2, uV 0)] [iV 0, iV 0, uV 0] h42 fun w43 h44 => go [] ?_
 have h46 : sat g w43 [Tab b n A E RL, Cl r16 [iV 0, iV 0, uV 0] 25, Cl r10 [iV x, iV y, uV z] 36, Cl r24 [iV x, iV y, uV z, iV 1, iV 0, iV 0, iV 0, .string (St L)] 40, Cl r13 [iV hx, uV hy] 38, R] := tab_close hM37.1 (by omega) (by first | rfl | omega) (tk9 (sf8 (sf8 (sf8 (sf5 (sf4 (sf5 (sf8 (sf8 (sf8 h44))))))))))
 exact en (.tuple #[.agg #[iV 0, iV 0, uV 0], iV 6]) [rd 0 0 0 0 3 h44] ⟨_, _, rfl, ⟨rfl, rfl⟩, (tk2 (sf1 (sf5 h46)))⟩

set_option maxHeartbeats 4000000 in
theorem topen_have (b n : Nat) (A : List Sl2) (E : Tm) (RL : List Rs) (x y z hx hy : Int) (L : List UInt8) (hz0 : 0 ≤ z) (hz1 : z ≤ 4294967295) (hm : L.length ≤ 1099511627776) (ho : 1 ≤ x ∧ x ≤ 3 ∧ 0 ≤ y ∧ y ≤ 63 ∧ 1 ≤ z) (ht : tagE L = 0) (hob : 0 ≤ hx ∧ hx ≤ 255 ∧ 1 ≤ hy) (hc : ∀ r ∈ RL, r.out ≠ (x, y, z)) (hh : ∃ e ∈ allE E, e.h = (hx, hy)) : HT Tryz.prog 8 [Value.pointer (some ⟨b, 0, none⟩), Value.agg #[Value.int IntKind.i64 x, Value.int IntKind.i64 y, Value.int IntKind.u32 z], Value.string (St L), Value.agg #[Value.int IntKind.i64 hx, Value.int IntKind.u32 hy]] [Tab b n A E RL] (fun v K => v = Value.tuple #[Value.agg #[Value.int IntKind.i64 0, Value.int IntKind.i64 0, Value.int IntKind.u32 0], Value.int IntKind.i64 6] ∧ K = [Tab b n A E RL]) := by
 refine hiS Tryz.func8 Tryz.ntmps8 fun g w0 R h0 => go [] <| nP 36 [iV x, iV y, uV z] h0 (fun r10 w11 h12 => ?_)
 refine nP 38 [iV hx, uV hy] h12 (fun r13 w14 h15 => ?_)
 refine nP 25 [iV 0, iV 0, uV 0] h15 (fun r16 w17 h18 => ?_)
 have h19 := tk5 (sf4 (sf3 (sf3 (sf3 (sf4 h18)))))
 refine go [] <| cl1 Tryz.call29 (tvalid_ht b n A E RL) h19 fun w20 h21 => go [rd 3 0 3 0 3 h21] <| cl0 Tryz.call30 (rnew_ok x y z L (by omega) (by omega) (by omega) (by omega) (by omega)) h21 fun w22 h23 => go [] <| nP 40 [iV 0, iV 0, uV 0, iV 0, iV 0, iV 0, iV 0, .string (St [])] h23 (fun r24 w25 h26 => ?_)
 refine sP [(0, iV x), (1, iV y), (2, uV z), (3, iV 1), (4, iV 0), (5, iV 0), (6, iV 0), (7, .string (St L))] [iV x, iV y, uV z, iV 1, iV 0, iV 0, iV 0, .string (St L)] h26 fun w27 h28 => go [rd 6 0 3 0 2 h28] <| cl0 Tryz.call31 (obj_t hx hy (by omega)) h28 fun w29 h30 => ?_
 obtain ⟨s32, m33, p34, c35, E36, hM37, h38⟩ := tab_open (tk6 (sf5 (sf4 (sf5 (sf5 (sf5 (sf5 h30)))))))
 have hRl_ := hM37.2
 have h39 := tk9 (sf8 (sf8 (sf6 (sf6 (sf6 (sf7 (sf7 (sf7 (sf8 h38)))))))))
 refine go [rd 8 3 0 2 1 h38] <| cl2 Tryz.call32 (rhas_f p34 RL.length c35 r10 RL x y z hc (by omega)) h39 fun w40 h41 => ?_
 have h43 : sat g w40 [Tab b n A E RL, Cl r10 [iV x, iV y, uV z] 36, Cl r24 [iV x, iV y, uV z, iV 1, iV 0, iV 0, iV 0, .string (St L)] 40, Cl r16 [iV 0, iV 0, uV 0] 25, Cl r13 [iV hx, uV hy] 38, R] := tab_close hM37.1 (by omega) (by first | rfl | omega) (tk9 (sf8 (sf8 (sf8 (sf5 (sf5 (sf8 (sf8 (sf8 (sf8 h41))))))))))
 refine go [rd 8 8 7 0 2 h41] <| cl1 Tryz.call34 (thas_t b n A E RL hx hy hh) h43 fun w44 h45 => ?_
 have h46 := tk6 (sf5 (sf4 (sf4 (sf4 (sf5 (sf5 h45))))))
 refine go [] <| sP [(0, iV 0), (1, iV 0), (2, uV 0)] [iV 0, iV 0, uV 0] h46 fun w47 h48 => go [] ?_
 exact en (.tuple #[.agg #[iV 0, iV 0, uV 0], iV 6]) [rd 0 0 0 0 3 h48] ⟨_, _, rfl, ⟨rfl, rfl⟩, (tk2 (sf1 (sf5 (tk6 (sf5 (sf4 (sf5 (sf5 (sf5 (sf5 h48))))))))))⟩

set_option maxHeartbeats 4000000 in
theorem topen_full (b n : Nat) (A : List Sl2) (E : Tm) (RL : List Rs) (x y z hx hy : Int) (L : List UInt8) (hz0 : 0 ≤ z) (hz1 : z ≤ 4294967295) (hm : L.length ≤ 1099511627776) (ho : 1 ≤ x ∧ x ≤ 3 ∧ 0 ≤ y ∧ y ≤ 63 ∧ 1 ≤ z) (ht : tagE L = 0) (hob : 0 ≤ hx ∧ hx ≤ 255 ∧ 1 ≤ hy) (hc : ∀ r ∈ RL, r.out ≠ (x, y, z)) (hh : ∀ e ∈ allE E, e.h ≠ (hx, hy)) (hl : RL.length = 2000 ∨ (inS 0 A 0).length = 0) : HT Tryz.prog 8 [Value.pointer (some ⟨b, 0, none⟩), Value.agg #[Value.int IntKind.i64 x, Value.int IntKind.i64 y, Value.int IntKind.u32 z], Value.string (St L), Value.agg #[Value.int IntKind.i64 hx, Value.int IntKind.u32 hy]] [Tab b n A E RL] (fun v K => v = Value.tuple #[Value.agg #[Value.int IntKind.i64 0, Value.int IntKind.i64 0, Value.int IntKind.u32 0], Value.int IntKind.i64 4] ∧ K = [Tab b n A E RL]) := by
 refine hiS Tryz.func8 Tryz.ntmps8 fun g w0 R h0 => go [] <| nP 36 [iV x, iV y, uV z] h0 (fun r10 w11 h12 => ?_)
 refine nP 38 [iV hx, uV hy] h12 (fun r13 w14 h15 => ?_)
 refine nP 25 [iV 0, iV 0, uV 0] h15 (fun r16 w17 h18 => ?_)
 have h19 := tk5 (sf4 (sf3 (sf3 (sf3 (sf4 h18)))))
 refine go [] <| cl1 Tryz.call29 (tvalid_ht b n A E RL) h19 fun w20 h21 => go [rd 3 0 3 0 3 h21] <| cl0 Tryz.call30 (rnew_ok x y z L (by omega) (by omega) (by omega) (by omega) (by omega)) h21 fun w22 h23 => go [] <| nP 40 [iV 0, iV 0, uV 0, iV 0, iV 0, iV 0, iV 0, .string (St [])] h23 (fun r24 w25 h26 => ?_)
 refine sP [(0, iV x), (1, iV y), (2, uV z), (3, iV 1), (4, iV 0), (5, iV 0), (6, iV 0), (7, .string (St L))] [iV x, iV y, uV z, iV 1, iV 0, iV 0, iV 0, .string (St L)] h26 fun w27 h28 => go [rd 6 0 3 0 2 h28] <| cl0 Tryz.call31 (obj_t hx hy (by omega)) h28 fun w29 h30 => ?_
 obtain ⟨s32, m33, p34, c35, E36, hM37, h38⟩ := tab_open (tk6 (sf5 (sf4 (sf5 (sf5 (sf5 (sf5 h30)))))))
 have hRl_ := hM37.2
 have h39 := tk9 (sf8 (sf8 (sf6 (sf6 (sf6 (sf7 (sf7 (sf7 (sf8 h38)))))))))
 refine go [rd 8 3 0 2 1 h38] <| cl2 Tryz.call32 (rhas_f p34 RL.length c35 r10 RL x y z hc (by omega)) h39 fun w40 h41 => ?_
 have h43 : sat g w40 [Tab b n A E RL, Cl r10 [iV x, iV y, uV z] 36, Cl r24 [iV x, iV y, uV z, iV 1, iV 0, iV 0, iV 0, .string (St L)] 40, Cl r16 [iV 0, iV 0, uV 0] 25, Cl r13 [iV hx, uV hy] 38, R] := tab_close hM37.1 (by omega) (by first | rfl | omega) (tk9 (sf8 (sf8 (sf8 (sf5 (sf5 (sf8 (sf8 (sf8 (sf8 h41))))))))))
 refine go [rd 8 8 7 0 2 h41] <| cl1 Tryz.call34 (thas_f b n A E RL hx hy hh) h43 fun w44 h45 => ?_
 obtain ⟨s46, m47, p48, c49, E50, hM51, h52⟩ := tab_open h45
 have hRl_ := hM51.2
 refine go [rd 10 3 0 2 1 h52, .s 10 5] ?_
 by_cases c53 : ((RL.length : Nat) : Int) ≥ 2000
 ·
  have h54 := tk9 (sf8 (sf7 (sf7 (sf7 (sf7 (sf7 (sf7 (sf8 (sf8 h52)))))))))
  refine go [.v 10 5 (oT (((RL.length : Nat) : Int) ≥ 2000))] <| sP [(0, iV 0), (1, iV 0), (2, uV 0)] [iV 0, iV 0, uV 0] h54 fun w55 h56 => go [] ?_
  have h58 : sat g w55 [Tab b n A E RL, Cl r16 [iV 0, iV 0, uV 0] 25, Cl r10 [iV x, iV y, uV z] 36, Cl r24 [iV x, iV y, uV z, iV 1, iV 0, iV 0, iV 0, .string (St L)] 40, Cl r13 [iV hx, uV hy] 38, R] := tab_close hM51.1 (by omega) (by first | rfl | omega) (tk9 (sf8 (sf8 (sf8 (sf8 (sf4 (sf8 (sf8 (sf8 (sf8 h56))))))))))
  exact en (.tuple #[.agg #[iV 0, iV 0, uV 0], iV 4]) [rd 0 0 0 0 3 h56] ⟨_, _, rfl, ⟨rfl, rfl⟩, (tk2 (sf1 (sf5 h58)))⟩
 have h60 := tk9 (sf8 (sf7 (sf8 (sf8 (sf8 (sf8 (sf8 (sf8 (sf8 h52)))))))))
 refine go [.v 10 5 (oF (((RL.length : Nat) : Int) ≥ 2000)), rd 10 10 0 0 1 h52] <| cl1 Tryz.call35 (sfree_ht s46 n A) h60 fun w61 h62 => ?_
 have h63 := tk9 (sf8 (sf7 (sf7 (sf7 (sf7 (sf7 (sf7 (sf8 (sf8 h62)))))))))
 refine go [.v 10 12 (eT ((((inS 0 A 0).length : Nat) : Int)) 0)] <| sP [(0, iV 0), (1, iV 0), (2, uV 0)] [iV 0, iV 0, uV 0] h63 fun w64 h65 => go [] ?_
 have h67 : sat g w64 [Tab b n A E RL, Cl r16 [iV 0, iV 0, uV 0] 25, Cl r10 [iV x, iV y, uV z] 36, Cl r24 [iV x, iV y, uV z, iV 1, iV 0, iV 0, iV 0, .string (St L)] 40, Cl r13 [iV hx, uV hy] 38, R] := tab_close hM51.1 (by omega) (by first | rfl | omega) (tk9 (sf8 (sf7 (sf8 (sf8 (sf4 (sf8 (sf8 (sf8 (sf8 h65))))))))))
 exact en (.tuple #[.agg #[iV 0, iV 0, uV 0], iV 4]) [rd 0 0 0 0 3 h65] ⟨_, _, rfl, ⟨rfl, rfl⟩, (tk2 (sf1 (sf5 h67)))⟩

set_option maxHeartbeats 4000000 in
theorem topen_ok (b n : Nat) (A : List Sl2) (E : Tm) (RL : List Rs) (x y z hx hy : Int) (L : List UInt8) (hz0 : 0 ≤ z) (hz1 : z ≤ 4294967295) (hm : L.length ≤ 1099511627776) (ho : 1 ≤ x ∧ x ≤ 3 ∧ 0 ≤ y ∧ y ≤ 63 ∧ 1 ≤ z) (ht : tagE L = 0) (hob : 0 ≤ hx ∧ hx ≤ 255 ∧ 1 ≤ hy) (hc : ∀ r ∈ RL, r.out ≠ (x, y, z)) (hh : ∀ e ∈ allE E, e.h ≠ (hx, hy)) (hl : RL.length < 2000) (j : Nat) (gj : Int) (hj : (inS 0 A 0)[0]? = some (j, gj)) (hfl_ : 1 ≤ (inS 0 A 0).length) : HT Tryz.prog 8 [Value.pointer (some ⟨b, 0, none⟩), Value.agg #[Value.int IntKind.i64 x, Value.int IntKind.i64 y, Value.int IntKind.u32 z], Value.string (St L), Value.agg #[Value.int IntKind.i64 hx, Value.int IntKind.u32 hy]] [Tab b n A E RL] (fun v K => v = Value.tuple #[Value.agg #[Value.int IntKind.i64 x, Value.int IntKind.i64 (((j : Nat) : Int)), Value.int IntKind.u32 gj], Value.int IntKind.i64 0] ∧ K = [Tab b n (A.set j (1, gj)) (gset E (j : Int) ⟨(x, (j : Int), gj), (RL.length : Int) + 1, (hx, hy)⟩) (RL ++ [(⟨(x, y, z), 1, 0, 0, 0, L⟩ : Rs)])]) := by
 refine hiS Tryz.func8 Tryz.ntmps8 fun g w0 R h0 => go [] <| nP 36 [iV x, iV y, uV z] h0 (fun r10 w11 h12 => ?_)
 refine nP 38 [iV hx, uV hy] h12 (fun r13 w14 h15 => ?_)
 refine nP 25 [iV 0, iV 0, uV 0] h15 (fun r16 w17 h18 => ?_)
 have h19 := tk5 (sf4 (sf3 (sf3 (sf3 (sf4 h18)))))
 refine go [] <| cl1 Tryz.call29 (tvalid_ht b n A E RL) h19 fun w20 h21 => go [rd 3 0 3 0 3 h21] <| cl0 Tryz.call30 (rnew_ok x y z L (by omega) (by omega) (by omega) (by omega) (by omega)) h21 fun w22 h23 => go [] <| nP 40 [iV 0, iV 0, uV 0, iV 0, iV 0, iV 0, iV 0, .string (St [])] h23 (fun r24 w25 h26 => ?_)
 refine sP [(0, iV x), (1, iV y), (2, uV z), (3, iV 1), (4, iV 0), (5, iV 0), (6, iV 0), (7, .string (St L))] [iV x, iV y, uV z, iV 1, iV 0, iV 0, iV 0, .string (St L)] h26 fun w27 h28 => go [rd 6 0 3 0 2 h28] <| cl0 Tryz.call31 (obj_t hx hy (by omega)) h28 fun w29 h30 => ?_
 obtain ⟨s32, m33, p34, c35, E36, hM37, h38⟩ := tab_open (tk6 (sf5 (sf4 (sf5 (sf5 (sf5 (sf5 h30)))))))
 have hRl_ := hM37.2
 have h39 := tk9 (sf8 (sf8 (sf6 (sf6 (sf6 (sf7 (sf7 (sf7 (sf8 h38)))))))))
 refine go [rd 8 3 0 2 1 h38] <| cl2 Tryz.call32 (rhas_f p34 RL.length c35 r10 RL x y z hc (by omega)) h39 fun w40 h41 => ?_
 have h43 : sat g w40 [Tab b n A E RL, Cl r10 [iV x, iV y, uV z] 36, Cl r24 [iV x, iV y, uV z, iV 1, iV 0, iV 0, iV 0, .string (St L)] 40, Cl r16 [iV 0, iV 0, uV 0] 25, Cl r13 [iV hx, uV hy] 38, R] := tab_close hM37.1 (by omega) (by first | rfl | omega) (tk9 (sf8 (sf8 (sf8 (sf5 (sf5 (sf8 (sf8 (sf8 (sf8 h41))))))))))
 refine go [rd 8 8 7 0 2 h41] <| cl1 Tryz.call34 (thas_f b n A E RL hx hy hh) h43 fun w44 h45 => ?_
 obtain ⟨s46, m47, p48, c49, E50, hM51, h52⟩ := tab_open h45
 have hRl_ := hM51.2
 have h53 := tk9 (sf8 (sf7 (sf8 (sf8 (sf8 (sf8 (sf8 (sf8 (sf8 h52)))))))))
 refine go [rd 10 3 0 2 1 h52, .v 10 5 (oF (((RL.length : Nat) : Int) ≥ 2000)), rd 10 10 0 0 1 h52] <| cl1 Tryz.call35 (sfree_ht s46 n A) h53 fun w54 h55 => go [.v 10 12 (eF ((((inS 0 A 0).length : Nat) : Int)) 0)] <| dw (fls [0, 1, 2, 3, 4, 5] (Tr.an 6 (Tr.an 7 (fls [8, 9] (Tr.an 10 Tr.nil))))) h55 fun w56 h57 => go [rd 12 4 1 2 1 h57, rd 12 5 5 0 8 h57] <| nG (fun q_ => .slice (some ⟨q_, 0, none⟩) 1 1) 40 [iV x, iV y, uV z, iV 1, iV 0, iV 0, iV 0, .string (St L)] h57 (fun r58 w59 h60 => ⟨kd [rd 0 4 2 2 1 h60], ?_⟩)
 have h61 := tk10 (sf9 (sf8 (sf8 (sf8 (sf8 (sf9 (sf9 (sf9 (sf9 (sf9 h60))))))))))
 refine actG ?_
 refine an_append (d := 67) (sz := 8) (s := (Operand.tmp 64)) (x := (Operand.tmp 66)) (z := .agg #[iV 0, iV 0, uV 0, iV 0, iV 0, iV 0, iV 0, .string (St [])]) (p := p48) (m := RL.length) (c := c49) (k := 1) (c2 := 1) (a := ⟨r58, 0, none⟩) (by_ := 72) (by kernel_rfl) (by kernel_rfl) rfl Tryz.underlying69 (by kernel_rfl) rfl (by decide) (by kernel_rfl) (by kernel_rfl) h61 (fl eRs [(⟨(x, y, z), 1, 0, 0, 0, L⟩ : Rs)]) rfl (fun j u hj => by rw [add_off]; exact sat_cell h61 1 rfl (by rw [Nat.zero_add]; exact hj)) (fl_one eRs_ok _) (by omega) (by omega) (RL.length + 1) (by omega) ?_
 intro p62 cap63 w64 h65
 have h66 : sat g w64 [Sl 40 8 p62 (RL.length + 1) cap63 (fl eRs (RL ++ [(⟨(x, y, z), 1, 0, 0, 0, L⟩ : Rs)])), Cl r58 [iV x, iV y, uV z, iV 1, iV 0, iV 0, iV 0, .string (St L)] 40, Tb s46 n A, Cl b [pV s46, .map (some m47), .slice p48 RL.length c49] 71, Gp kI vE m47 E50, Cl r10 [iV x, iV y, uV z] 36, Cl r24 [iV x, iV y, uV z, iV 1, iV 0, iV 0, iV 0, .string (St L)] 40, Cl r16 [iV 0, iV 0, uV 0] 25, Cl r13 [iV hx, uV hy] 38, R] := sat_imp h65 (fun _ hh => by rw [fl_app]; exact hh)
 obtain ⟨hn67, hn68⟩ := sl_le h66
 refine ⟨kd [], nxG ?_⟩
 have h69 := tk10 (sf9 (sf8 (sf8 (sf8 (sf9 (sf9 (sf9 (sf9 (sf9 (sf9 h66))))))))))
 refine go [] <| sG [(2, .slice p62 (RL.length + 1) cap63)] [pV s46, .map (some m47), .slice p62 (RL.length + 1) cap63] h69 fun w70 h71 => ⟨kd [], ?_⟩
 refine go [] <| dw (fls [0, 1, 2, 3, 4, 5, 6] (Tr.an 7 (fls [8, 9] (Tr.an 10 (Tr.fl 11 Tr.nil))))) h71 fun w72 h73 => ?_
 have h75 : sat g w72 [TabX b n A E (RL ++ [(⟨(x, y, z), 1, 0, 0, 0, L⟩ : Rs)]) p62 (RL.length + 1) cap63, Cl r58 [iV x, iV y, uV z, iV 1, iV 0, iV 0, iV 0, .string (St L)] 40, Cl r10 [iV x, iV y, uV z] 36, Cl r24 [iV x, iV y, uV z, iV 1, iV 0, iV 0, iV 0, .string (St L)] 40, Cl r16 [iV 0, iV 0, uV 0] 25, Cl r13 [iV hx, uV hy] 38, R] := tabx_close hM51.1 (by simp only [List.length_append, List.length_set, List.length_cons, List.length_nil]; omega)  (tk10 (sf9 (sf9 (sf9 (sf7 (sf7 (sf9 (sf9 (sf9 (sf9 (sf9 h73)))))))))))
 refine go [rd 13 4 0 2 1 h73, .v 13 5 (oJ .i64 ((RL.length + 1 : Nat) : Int) (((RL.length : Nat) : Int) + 1)), rd 13 6 8 0 2 h73] <| cd1 Tryz.call36 (taddx_ok p62 (RL.length + 1) cap63 b n A E (RL ++ [(⟨(x, y, z), 1, 0, 0, 0, L⟩ : Rs)]) (((RL.length : Nat) : Int) + 1) hx hy RL.length (⟨(x, y, z), 1, 0, 0, 0, L⟩ : Rs) (show (RL ++ [(⟨(x, y, z), 1, 0, 0, 0, L⟩ : Rs)])[RL.length]? = some ((⟨(x, y, z), 1, 0, 0, 0, L⟩ : Rs) : Rs) from List.getElem?_concat_length) (by omega) j gj hj) h75 fun w76 h77 => ⟨kd [], ?_⟩
 have h78 := tk7 (sf6 (sf5 (sf5 (sf5 (sf5 (sf6 (sf6 h77)))))))
 refine go [] <| sG [(0, iV x), (1, iV (j : Int)), (2, uV gj)] [iV x, iV (j : Int), uV gj] h78 fun w79 h80 => ⟨kd [], ?_⟩
 refine go [] ?_
 obtain ⟨s82, m83, E86, hM87, h88⟩ := tabx_open (tk7 (sf6 (sf5 (sf6 (sf6 (sf6 (sf6 (sf6 h80))))))))
 have hRl_ := hM87.2
 have h89 := tk10 (sf9 (sf8 (sf8 (sf8 (sf9 (sf9 (sf9 (sf9 (sf9 (sf9 h88))))))))))
 have hl90 := fl_n eRs_ok (by decide) h89
 have h92 : sat g w79 [Tab b n (A.set j (1, gj)) (gset E (j : Int) ⟨(x, (j : Int), gj), ((RL.length : Nat) : Int) + 1, (hx, hy)⟩) (RL ++ [(⟨(x, y, z), 1, 0, 0, 0, L⟩ : Rs)]), Cl r16 [iV x, iV (j : Int), uV gj] 25, Cl r58 [iV x, iV y, uV z, iV 1, iV 0, iV 0, iV 0, .string (St L)] 40, Cl r10 [iV x, iV y, uV z] 36, Cl r24 [iV x, iV y, uV z, iV 1, iV 0, iV 0, iV 0, .string (St L)] 40, Cl r13 [iV hx, uV hy] 38, R] := tab_close hM87.1 (by simp only [List.length_append, List.length_set, List.length_cons, List.length_nil]; omega) (by simp only [List.length_append, List.length_set, List.length_cons, List.length_nil]) (tk10 (sf9 (sf9 (sf9 (sf6 (sf9 (sf9 (sf9 (sf9 (sf9 (sf9 h89)))))))))))
 exact en (.tuple #[.agg #[iV x, iV (j : Int), uV gj], iV 0]) [rd 0 0 0 0 3 h80] ⟨_, _, rfl, ⟨rfl, rfl⟩, (tk2 (sf1 (sf6 h92)))⟩

end Go.Proofs.YtjjpmehiolejgaaGreat

/- Walks, printed by my generator ../tab/gen17.py. -/
namespace Go.Proofs.YtjjpmehiolejgaaGreat
set_option maxHeartbeats 4000000 in
theorem topen_n (x y z hx hy : Int) (L : List UInt8) : HT Tryz.prog 8 [Value.pointer none, Value.agg #[Value.int IntKind.i64 x, Value.int IntKind.i64 y, Value.int IntKind.u32 z], Value.string (St L), Value.agg #[Value.int IntKind.i64 hx, Value.int IntKind.u32 hy]] [] (fun v K => v = Value.tuple #[Value.agg #[Value.int IntKind.i64 0, Value.int IntKind.i64 0, Value.int IntKind.u32 0], Value.int IntKind.i64 1] ∧ K = []) := by
 refine hiS Tryz.func8 Tryz.ntmps8 fun g w0 R h0 => go [] <| nP 36 [iV x, iV y, uV z] h0 (fun r10 w11 h12 => ?_)
 refine nP 38 [iV hx, uV hy] h12 (fun r13 w14 h15 => ?_)
 refine nP 25 [iV 0, iV 0, uV 0] h15 (fun r16 w17 h18 => ?_)
 refine go [] <| cl0 Tryz.call29 (tvalid_n) h18 fun w19 h20 => go [] <| sP [(0, iV 0), (1, iV 0), (2, uV 0)] [iV 0, iV 0, uV 0] h20 fun w21 h22 => go [] ?_
 exact en (.tuple #[.agg #[iV 0, iV 0, uV 0], iV 1]) [rd 0 0 0 0 3 h22] ⟨_, _, rfl, ⟨rfl, rfl⟩, (tk1 (sf3 h22))⟩

set_option maxHeartbeats 4000000 in
theorem texp_n (vn : Int) : HT Tryz.prog 14 [Value.pointer none, Value.int IntKind.i64 vn] [] (fun v K => v = Value.tuple #[Value.slice none 0 0, Value.int IntKind.i64 1] ∧ K = []) := by
 refine hiS Tryz.func14 Tryz.ntmps14 fun g w0 R h0 => go [] <| cl0 Tryz.call46 (tdescs_n vn) h0 fun w10 h11 => go [] <| unS 0 <| go [] <| up <| go [] ?_
 exact en (.tuple #[.slice none 0 0, iV 1]) [] ⟨_, _, rfl, ⟨rfl, rfl⟩, h11⟩

set_option maxHeartbeats 4000000 in
theorem tnums_n (vn : Int) : HT Tryz.prog 65 [Value.pointer none, Value.int IntKind.i64 vn] [] (fun v K => v = Value.slice none 0 0 ∧ K = []) := by
 refine hiS Tryz.func65 Tryz.ntmps65 fun g w0 R h0 => go [] <| cl0 Tryz.call29 (tvalid_n) h0 fun w10 h11 => go [] ?_
 exact en (.slice none 0 0) [] ⟨_, _, rfl, ⟨rfl, rfl⟩, h11⟩

set_option maxHeartbeats 4000000 in
theorem tcopy_n  : HT Tryz.prog 20 [Value.pointer none] [] (fun v K => v = Value.pointer none ∧ K = []) := by
 refine hiS Tryz.func20 Tryz.ntmps20 fun g w0 R h0 => go [] <| cl0 Tryz.call29 (tvalid_n) h0 fun w10 h11 => go [] ?_
 exact en (.pointer none) [] ⟨_, _, rfl, ⟨rfl, rfl⟩, h11⟩

set_option maxHeartbeats 4000000 in
theorem tset_n (vn x y z st why tr nx : Int) (L : List UInt8) : HT Tryz.prog 17 [Value.pointer none, Value.int IntKind.i64 vn, Value.agg #[Value.int IntKind.i64 x, Value.int IntKind.i64 y, Value.int IntKind.u32 z, Value.int IntKind.i64 st, Value.int IntKind.i64 why, Value.int IntKind.i64 tr, Value.int IntKind.i64 nx, Value.string (St L)]] [] (fun v K => v = Value.int IntKind.i64 1 ∧ K = []) := by
 refine hiS Tryz.func17 Tryz.ntmps17 fun g w0 R h0 => go [] <| nP 40 [iV x, iV y, uV z, iV st, iV why, iV tr, iV nx, .string (St L)] h0 (fun r10 w11 h12 => ?_)
 refine go [] <| cl0 Tryz.call49 (tget_n vn) h12 fun w13 h14 => go [] <| nP 40 [iV 0, iV 0, uV 0, iV 0, iV 0, iV 0, iV 0, .string (St [])] h14 (fun r15 w16 h17 => ?_)
 refine sP [(0, iV 0), (1, iV 0), (2, uV 0), (3, iV 0), (4, iV 0), (5, iV 0), (6, iV 0), (7, .string (St []))] [iV 0, iV 0, uV 0, iV 0, iV 0, iV 0, iV 0, .string (St [])] h17 fun w18 h19 => go [] ?_
 exact en (iV 1) [] ⟨_, _, rfl, ⟨rfl, rfl⟩, (tk1 (sf2 h19))⟩

set_option maxHeartbeats 4000000 in
theorem tset_no (b n : Nat) (A : List Sl2) (E : Tm) (RL : List Rs) (vn x y z st why tr nx : Int) (L : List UInt8) (h : vn < 1 ∨ (RL.length : Int) < vn) : HT Tryz.prog 17 [Value.pointer (some ⟨b, 0, none⟩), Value.int IntKind.i64 vn, Value.agg #[Value.int IntKind.i64 x, Value.int IntKind.i64 y, Value.int IntKind.u32 z, Value.int IntKind.i64 st, Value.int IntKind.i64 why, Value.int IntKind.i64 tr, Value.int IntKind.i64 nx, Value.string (St L)]] [Tab b n A E RL] (fun v K => v = Value.int IntKind.i64 3 ∧ K = [Tab b n A E RL]) := by
 refine hiS Tryz.func17 Tryz.ntmps17 fun g w0 R h0 => go [] <| nP 40 [iV x, iV y, uV z, iV st, iV why, iV tr, iV nx, .string (St L)] h0 (fun r10 w11 h12 => ?_)
 have h13 := tk3 (sf2 (sf1 (sf2 h12)))
 refine go [] <| cl1 Tryz.call49 (tget_no b n A E RL vn (by omega)) h13 fun w14 h15 => go [] <| nP 40 [iV 0, iV 0, uV 0, iV 0, iV 0, iV 0, iV 0, .string (St [])] h15 (fun r16 w17 h18 => ?_)
 refine sP [(0, iV 0), (1, iV 0), (2, uV 0), (3, iV 0), (4, iV 0), (5, iV 0), (6, iV 0), (7, .string (St []))] [iV 0, iV 0, uV 0, iV 0, iV 0, iV 0, iV 0, .string (St [])] h18 fun w19 h20 => go [] ?_
 exact en (iV 3) [] ⟨_, _, rfl, ⟨rfl, rfl⟩, (tk2 (sf1 (sf3 (tk4 (sf3 (sf2 (sf3 (sf3 h20))))))))⟩

set_option maxHeartbeats 4000000 in
theorem tset_chk (b n : Nat) (A : List Sl2) (E : Tm) (RL : List Rs) (vn x y z st why tr nx : Int) (L : List UInt8) (hz0 : 0 ≤ z) (hz1 : z ≤ 4294967295) (hm : L.length ≤ 1099511627776) (q : Nat) (r : Rs) (hr : RL[q]? = some r) (hv : vn = (q : Int) + 1) (hne : ¬ resE x y z st why tr nx L = 0) : HT Tryz.prog 17 [Value.pointer (some ⟨b, 0, none⟩), Value.int IntKind.i64 vn, Value.agg #[Value.int IntKind.i64 x, Value.int IntKind.i64 y, Value.int IntKind.u32 z, Value.int IntKind.i64 st, Value.int IntKind.i64 why, Value.int IntKind.i64 tr, Value.int IntKind.i64 nx, Value.string (St L)]] [Tab b n A E RL] (fun v K => v = Value.int IntKind.i64 ((resE x y z st why tr nx L)) ∧ K = [Tab b n A E RL]) := by
 have hq_ := (List.getElem?_eq_some_iff.1 hr).1
 refine hiS Tryz.func17 Tryz.ntmps17 fun g w0 R h0 => go [] <| nP 40 [iV x, iV y, uV z, iV st, iV why, iV tr, iV nx, .string (St L)] h0 (fun r10 w11 h12 => ?_)
 have h13 := tk3 (sf2 (sf1 (sf2 h12)))
 refine go [] <| cl1 Tryz.call49 (tget_ok b n A E RL vn q r hr (by omega)) h13 fun w14 h15 => go [] <| nP 40 [iV 0, iV 0, uV 0, iV 0, iV 0, iV 0, iV 0, .string (St [])] h15 (fun r16 w17 h18 => ?_)
 refine sP [(0, iV r.out.1), (1, iV r.out.2.1), (2, uV r.out.2.2), (3, iV r.st), (4, iV r.why), (5, iV r.tr), (6, iV r.nx), (7, .string (St r.tag))] [iV r.out.1, iV r.out.2.1, uV r.out.2.2, iV r.st, iV r.why, iV r.tr, iV r.nx, .string (St r.tag)] h18 fun w19 h20 => go [rd 4 0 2 0 8 h20] <| cl0 Tryz.call50 (rchk_ht x y z st why tr nx L (by omega) (by omega) (by omega)) h20 fun w21 h22 => go [.v 5 1 (nT ((resE x y z st why tr nx L)) 0)] ?_
 exact en (iV ((resE x y z st why tr nx L))) [] ⟨_, _, rfl, ⟨rfl, rfl⟩, (tk2 (sf1 (sf3 (tk4 (sf3 (sf2 (sf3 (sf3 h22))))))))⟩

end Go.Proofs.YtjjpmehiolejgaaGreat
