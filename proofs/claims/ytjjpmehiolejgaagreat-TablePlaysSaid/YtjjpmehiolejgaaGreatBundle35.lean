/- Walks, printed by my generator z7.py. -/
import Derived.Test.YtjjpmehiolejgaaGreatZ6
import Derived.Test.YtjjpmehiolejgaaGreatTgW
import Derived.Test.YtjjpmehiolejgaaGreatBundle29
import Derived.Test.YtjjpmehiolejgaaGreatBundle28
namespace Go.Proofs.YtjjpmehiolejgaaGreat
theorem wfind_ht (b n : Nat) (S : Ts) (hW : Wf n S) (d0 d1 d2 : Int) (hz : 0 ≤ d2) : HT Tryz.prog 44 [Value.pointer (some ⟨b, 0, none⟩), Value.agg #[Value.int IntKind.i64 d0, Value.int IntKind.i64 d1, Value.int IntKind.u32 d2]] [Zr b n S.A (allE S.E) S.R] (fun v K => ∃ i : Nat, (fndE S (d0, d1, d2) = 0 → (allE S.E)[i]? = some (fndX S (d0, d1, d2))) ∧ v = Value.tuple #[Value.int IntKind.i64 (((i : Nat) : Int)), Value.int IntKind.i64 ((fndE S (d0, d1, d2)))] ∧ K = [Zr b n S.A (allE S.E) S.R]) := by
  by_cases hg : goodD (d0, d1, d2)
  · exact (zfind_ht b n S.A (allE S.E) S.R d0 d1 d2 hg).post fun v K hP => ⟨K, by
      rcases hP with ⟨i, e, h1, h2, rfl, rfl⟩ | ⟨h1, rfl, rfl⟩
      · obtain ⟨h3, h4⟩ := fnd_hit hW hg h1 h2
        exact ⟨i, fun _ => by rw [h4]; exact h1, by rw [h3], rfl⟩
      · obtain ⟨h3, h4⟩ := fnd_miss hW hg h1
        exact ⟨0, fun h => by omega, by rw [h3]; rfl, rfl⟩, fun _ _ _ h => h⟩
  · exact (zfind_bad b n S.A (allE S.E) S.R d0 d1 d2 hz hg).post fun v K hP => ⟨K, by
      obtain ⟨rfl, rfl⟩ := hP
      obtain ⟨h3, h4⟩ := fndX_bad (S := S) hg
      exact ⟨0, fun h => by omega, by rw [h3]; rfl, rfl⟩, fun _ _ _ h => h⟩
set_option maxHeartbeats 4000000 in
theorem znum_nil (vn : Int) : HT Tryz.prog 82 [Value.pointer none, Value.int IntKind.i64 vn] [] (fun v K => v = Value.int IntKind.i64 1 ∧ K = []) := by
 refine hiS Tryz.func82 Tryz.ntmps82 fun g w0 R h0 => go [] <| cl0 Tryz.call37 (rvalid_nil) h0 fun w10 h11 => go [] ?_
 exact en (iV 1) [] ⟨_, _, rfl, ⟨rfl, rfl⟩, h11⟩

set_option maxHeartbeats 4000000 in
theorem wnum_ht (b n : Nat) (S : Ts) (vn : Int) : HT Tryz.prog 82 [Value.pointer (some ⟨b, 0, none⟩), Value.int IntKind.i64 vn] [Zr b n S.A (allE S.E) S.R] (fun v K => v = Value.int IntKind.i64 ((nE S vn)) ∧ K = [Zr b n S.A (allE S.E) S.R]) := by
 refine hiS Tryz.func82 Tryz.ntmps82 fun g w0 R h0 => ?_
 obtain ⟨s10, p11, c12, p13, c14, hq15, h16⟩ := zr_open h0
 have hb17 := hq15.1
 have hb18 := hq15.2
 refine go [] <| cl1 Tryz.call37 (rvalid_cl b s10 p11 (((allE S.E).length)) c12 p13 S.R.length c14) h16 fun w19 h20 => go [.s 3 1] ?_
 by_cases c21 : vn < 1
 ·
  refine go [.v 3 1 (oT (vn < 1))] ?_
  have h22 : sat g w19 [Zr b n S.A (allE S.E) S.R, R] := zr_close (by first | omega | (simp only [List.length_append, List.length_take, List.length_drop, List.length_cons, List.length_nil]; omega)) (by first | rfl | (simp only [List.length_append, List.length_take, List.length_drop, List.length_cons, List.length_nil]; omega) | simp only [List.length_append, List.length_take, List.length_drop, List.length_cons, List.length_nil]) (by first | rfl | (simp only [List.length_append, List.length_take, List.length_drop, List.length_cons, List.length_nil]; omega) | simp only [List.length_append, List.length_take, List.length_drop, List.length_cons, List.length_nil]) h20
  exact en (iV 3) [] ⟨_, _, rfl, ⟨by rw [show nE S vn = 3 from if_neg (by omega)], rfl⟩, h22⟩
 refine go [.v 3 1 (oF (vn < 1)), rd 3 7 0 2 1 h20, .s 3 9] ?_
 by_cases c23 : vn > ((S.R.length : Nat) : Int)
 ·
  refine go [.v 3 9 (oT (vn > ((S.R.length : Nat) : Int)))] ?_
  have h24 : sat g w19 [Zr b n S.A (allE S.E) S.R, R] := zr_close (by first | omega | (simp only [List.length_append, List.length_take, List.length_drop, List.length_cons, List.length_nil]; omega)) (by first | rfl | (simp only [List.length_append, List.length_take, List.length_drop, List.length_cons, List.length_nil]; omega) | simp only [List.length_append, List.length_take, List.length_drop, List.length_cons, List.length_nil]) (by first | rfl | (simp only [List.length_append, List.length_take, List.length_drop, List.length_cons, List.length_nil]; omega) | simp only [List.length_append, List.length_take, List.length_drop, List.length_cons, List.length_nil]) h20
  exact en (iV 3) [] ⟨_, _, rfl, ⟨by rw [show nE S vn = 3 from if_neg (by omega)], rfl⟩, h24⟩
 refine go [.v 3 9 (oF (vn > ((S.R.length : Nat) : Int)))] ?_
 have h25 : sat g w19 [Zr b n S.A (allE S.E) S.R, R] := zr_close (by first | omega | (simp only [List.length_append, List.length_take, List.length_drop, List.length_cons, List.length_nil]; omega)) (by first | rfl | (simp only [List.length_append, List.length_take, List.length_drop, List.length_cons, List.length_nil]; omega) | simp only [List.length_append, List.length_take, List.length_drop, List.length_cons, List.length_nil]) (by first | rfl | (simp only [List.length_append, List.length_take, List.length_drop, List.length_cons, List.length_nil]; omega) | simp only [List.length_append, List.length_take, List.length_drop, List.length_cons, List.length_nil]) h20
 exact en (iV 0) [] ⟨_, _, rfl, ⟨by rw [show nE S vn = 0 from if_pos (by omega)], rfl⟩, h25⟩

set_option maxHeartbeats 4000000 in
theorem znf_nil (d0 d1 d2 : Int) : HT Tryz.prog 56 [Value.pointer none, Value.agg #[Value.int IntKind.i64 d0, Value.int IntKind.i64 d1, Value.int IntKind.u32 d2]] [] (fun v K => v = Value.tuple #[Value.int IntKind.i64 0, Value.int IntKind.i64 1] ∧ K = []) := by
 refine hiS Tryz.func56 Tryz.ntmps56 fun g w0 R h0 => go [] <| nP 25 [iV d0, iV d1, uV d2] h0 (fun r10 w11 h12 => ?_)
 refine go [rd 1 1 0 0 3 h12] <| cl0 Tryz.call44 (zfind_nil d0 d1 d2) h12 fun w13 h14 => go [] ?_
 exact en (.tuple #[iV 0, iV 1]) [] ⟨_, _, rfl, ⟨rfl, rfl⟩, (tk1 (sf1 h14))⟩

set_option maxHeartbeats 4000000 in
theorem znf_ht (b n : Nat) (S : Ts) (hW : Wf n S) (d0 d1 d2 : Int) (hz : 0 ≤ d2) : HT Tryz.prog 56 [Value.pointer (some ⟨b, 0, none⟩), Value.agg #[Value.int IntKind.i64 d0, Value.int IntKind.i64 d1, Value.int IntKind.u32 d2]] [Zr b n S.A (allE S.E) S.R] (fun v K => v = Value.tuple #[Value.int IntKind.i64 ((fndX S (d0, d1, d2)).num), Value.int IntKind.i64 ((fndE S (d0, d1, d2)))] ∧ K = [Zr b n S.A (allE S.E) S.R]) := by
 refine hiS Tryz.func56 Tryz.ntmps56 fun g w0 R h0 => go [] <| nP 25 [iV d0, iV d1, uV d2] h0 (fun r10 w11 h12 => ?_)
 refine go [rd 1 1 0 0 3 h12] ?_
 by_cases c13 : (fndE S (d0, d1, d2)) = 0
 ·
  refine cP Tryz.call44 ((by have h_ := wfind_ht b n S hW d0 d1 d2 (by omega); rw [show fndE S (d0, d1, d2) = 0 from by omega] at h_; exact h_)) (tk3 (sf2 (sf1 (sf2 h12)))) ?_
  rintro v K w17 (⟨i14, hi15, rfl, rfl⟩) h18
  have h19 := ap1 h18
  have hb20 := (List.getElem?_eq_some_iff.1 (hi15 rfl)).1
  obtain ⟨s21, p22, c23, p24, c25, hq26, h27⟩ := zr_open h19
  have hb28 := hq26.1
  have hb29 := hq26.2
  obtain ⟨b30, hp31⟩ := sl_ptr0 (j := 2) h27 rfl (by omega)
  refine go [rd 4 3 0 1 1 h27, .s 4 5] <| lwP (.pointer (some ⟨b30, i14 * 6, none⟩)) (law_indexSlP (x := (Operand.tmp 20)) (i := (Operand.tmp 21)) (p := p22) (b := b30) (off := 0) (z := (i14 : Int)) (len := (((allE S.E).length))) (cap := c23) (by kernel_rfl) Tryz.underlying75 6 (by kernel_rfl) i14 (by kernel_rfl) hp31 (by kernel_rfl) (by omega) (by omega) (i14 * 6) (by omega) _) <| go [.r 4 7 b30 (i14 * 6 + 3) [iV ((fndX S (d0, d1, d2)).num)] ⟨gv_cell (j := 2) h27 rfl (gv_sl _ _ _) hp31 (fl_get eE_ok (j := 3) (v := iV ((fndX S (d0, d1, d2)).num)) (hi15 rfl) rfl) (i14 * 6 + 3) (by omega), trivial⟩] ?_
  have h32 : sat g w17 [Zr b n S.A (allE S.E) S.R, Cl r10 [iV d0, iV d1, uV d2] 25, R] := zr_close (by first | omega | (simp only [List.length_append, List.length_take, List.length_drop, List.length_cons, List.length_nil]; omega)) (by first | rfl | (simp only [List.length_append, List.length_take, List.length_drop, List.length_cons, List.length_nil]; omega) | simp only [List.length_append, List.length_take, List.length_drop, List.length_cons, List.length_nil]) (by first | rfl | (simp only [List.length_append, List.length_take, List.length_drop, List.length_cons, List.length_nil]; omega) | simp only [List.length_append, List.length_take, List.length_drop, List.length_cons, List.length_nil]) h27
  exact en (.tuple #[iV ((fndX S (d0, d1, d2)).num), iV 0]) [] ⟨_, _, rfl, ⟨by rw [show fndE S (d0, d1, d2) = 0 from by omega], rfl⟩, (tk2 (sf1 (sf2 h32)))⟩
 refine cP Tryz.call44 (wfind_ht b n S hW d0 d1 d2 (by omega)) (tk3 (sf2 (sf1 (sf2 h12)))) ?_
 rintro v K w37 (⟨i34, hi35, rfl, rfl⟩) h38
 have h39 := ap1 h38
 refine go [.v 2 1 (nT ((fndE S (d0, d1, d2))) 0)] ?_
 exact en (.tuple #[iV 0, iV ((fndE S (d0, d1, d2)))]) [] ⟨_, _, rfl, ⟨by rw [show fndX S (d0, d1, d2) = noE from if_neg (by omega)]; rfl, rfl⟩, (tk2 (sf1 (sf2 h39)))⟩

set_option maxHeartbeats 4000000 in
theorem zhd_nil (d0 d1 d2 : Int) : HT Tryz.prog 58 [Value.pointer none, Value.agg #[Value.int IntKind.i64 d0, Value.int IntKind.i64 d1, Value.int IntKind.u32 d2]] [] (fun v K => v = Value.tuple #[Value.agg #[Value.int IntKind.i64 0, Value.int IntKind.u32 0], Value.int IntKind.i64 1] ∧ K = []) := by
 refine hiS Tryz.func58 Tryz.ntmps58 fun g w0 R h0 => go [] <| nP 25 [iV d0, iV d1, uV d2] h0 (fun r10 w11 h12 => ?_)
 refine nP 38 [iV 0, uV 0] h12 (fun r13 w14 h15 => ?_)
 refine go [rd 1 1 1 0 3 h15] <| cl0 Tryz.call44 (zfind_nil d0 d1 d2) h15 fun w16 h17 => go [] <| sP [(0, iV 0), (1, uV 0)] [iV 0, uV 0] h17 fun w18 h19 => go [] ?_
 exact en (.tuple #[.agg #[iV 0, uV 0], iV 1]) [rd 0 0 0 0 2 h19] ⟨_, _, rfl, ⟨rfl, rfl⟩, (tk1 (sf2 h19))⟩

set_option maxHeartbeats 4000000 in
theorem zhd_ht (b n : Nat) (S : Ts) (hW : Wf n S) (d0 d1 d2 : Int) (hz : 0 ≤ d2) : HT Tryz.prog 58 [Value.pointer (some ⟨b, 0, none⟩), Value.agg #[Value.int IntKind.i64 d0, Value.int IntKind.i64 d1, Value.int IntKind.u32 d2]] [Zr b n S.A (allE S.E) S.R] (fun v K => v = Value.tuple #[Value.agg #[Value.int IntKind.i64 ((fndX S (d0, d1, d2)).h.1), Value.int IntKind.u32 ((fndX S (d0, d1, d2)).h.2)], Value.int IntKind.i64 ((fndE S (d0, d1, d2)))] ∧ K = [Zr b n S.A (allE S.E) S.R]) := by
 refine hiS Tryz.func58 Tryz.ntmps58 fun g w0 R h0 => go [] <| nP 25 [iV d0, iV d1, uV d2] h0 (fun r10 w11 h12 => ?_)
 refine nP 38 [iV 0, uV 0] h12 (fun r13 w14 h15 => ?_)
 refine go [rd 1 1 1 0 3 h15] ?_
 by_cases c16 : (fndE S (d0, d1, d2)) = 0
 ·
  refine cP Tryz.call44 ((by have h_ := wfind_ht b n S hW d0 d1 d2 (by omega); rw [show fndE S (d0, d1, d2) = 0 from by omega] at h_; exact h_)) (tk4 (sf3 (sf2 (sf2 (sf3 h15))))) ?_
  rintro v K w20 (⟨i17, hi18, rfl, rfl⟩) h21
  have h22 := ap1 h21
  have hb23 := (List.getElem?_eq_some_iff.1 (hi18 rfl)).1
  obtain ⟨s24, p25, c26, p27, c28, hq29, h30⟩ := zr_open h22
  have hb31 := hq29.1
  have hb32 := hq29.2
  obtain ⟨b33, hp34⟩ := sl_ptr0 (j := 2) h30 rfl (by omega)
  refine go [rd 4 3 0 1 1 h30, .s 4 5] <| lwP (.pointer (some ⟨b33, i17 * 6, none⟩)) (law_indexSlP (x := (Operand.tmp 21)) (i := (Operand.tmp 22)) (p := p25) (b := b33) (off := 0) (z := (i17 : Int)) (len := (((allE S.E).length))) (cap := c26) (by kernel_rfl) Tryz.underlying75 6 (by kernel_rfl) i17 (by kernel_rfl) hp34 (by kernel_rfl) (by omega) (by omega) (i17 * 6) (by omega) _) ?_
  have h35 := tk7 (sf6 (sf5 (sf5 (sf5 (sf5 (sf6 (sf6 h30)))))))
  refine go [.r 4 7 b33 (i17 * 6 + 4) [iV ((fndX S (d0, d1, d2)).h.1), uV ((fndX S (d0, d1, d2)).h.2)] ⟨gv_cell (j := 2) h30 rfl (gv_sl _ _ _) hp34 (fl_get eE_ok (j := 4) (v := iV ((fndX S (d0, d1, d2)).h.1)) (hi18 rfl) rfl) (i17 * 6 + 4) (by omega), gv_cell (j := 2) h30 rfl (gv_sl _ _ _) hp34 (fl_get eE_ok (j := 5) (v := uV ((fndX S (d0, d1, d2)).h.2)) (hi18 rfl) rfl) (i17 * 6 + 5) (by omega), trivial⟩] <| sP [(0, iV ((fndX S (d0, d1, d2)).h.1)), (1, uV ((fndX S (d0, d1, d2)).h.2))] [iV ((fndX S (d0, d1, d2)).h.1), uV ((fndX S (d0, d1, d2)).h.2)] h35 fun w36 h37 => go [] ?_
  have h39 : sat g w36 [Zr b n S.A (allE S.E) S.R, Cl r13 [iV ((fndX S (d0, d1, d2)).h.1), uV ((fndX S (d0, d1, d2)).h.2)] 38, Cl r10 [iV d0, iV d1, uV d2] 25, R] := zr_close (by first | omega | (simp only [List.length_append, List.length_take, List.length_drop, List.length_cons, List.length_nil]; omega)) (by first | rfl | (simp only [List.length_append, List.length_take, List.length_drop, List.length_cons, List.length_nil]; omega) | simp only [List.length_append, List.length_take, List.length_drop, List.length_cons, List.length_nil]) (by first | rfl | (simp only [List.length_append, List.length_take, List.length_drop, List.length_cons, List.length_nil]; omega) | simp only [List.length_append, List.length_take, List.length_drop, List.length_cons, List.length_nil]) (tk7 (sf6 (sf6 (sf6 (sf6 (sf2 (sf6 (sf6 h37))))))))
  exact en (.tuple #[.agg #[iV ((fndX S (d0, d1, d2)).h.1), uV ((fndX S (d0, d1, d2)).h.2)], iV 0]) [rd 0 0 0 0 2 h37] ⟨_, _, rfl, ⟨by rw [show fndE S (d0, d1, d2) = 0 from by omega], rfl⟩, (tk2 (sf1 (sf3 h39)))⟩
 refine cP Tryz.call44 (wfind_ht b n S hW d0 d1 d2 (by omega)) (tk4 (sf3 (sf2 (sf2 (sf3 h15))))) ?_
 rintro v K w44 (⟨i41, hi42, rfl, rfl⟩) h45
 have h47 := tk4 (sf3 (sf2 (sf3 (sf3 (ap1 h45)))))
 refine go [.v 2 1 (nT ((fndE S (d0, d1, d2))) 0)] <| sP [(0, iV 0), (1, uV 0)] [iV 0, uV 0] h47 fun w48 h49 => go [] ?_
 exact en (.tuple #[.agg #[iV 0, uV 0], iV ((fndE S (d0, d1, d2)))]) [rd 0 0 0 0 2 h49] ⟨_, _, rfl, ⟨by rw [show fndX S (d0, d1, d2) = noE from if_neg (by omega)]; rfl, rfl⟩, (tk2 (sf1 (sf3 (tk4 (sf3 (sf2 (sf3 (sf3 h49))))))))⟩

set_option maxHeartbeats 4000000 in
theorem zlen_nil  : HT Tryz.prog 61 [Value.pointer none] [] (fun v K => v = Value.int IntKind.i64 0 ∧ K = []) := by
 refine hiS Tryz.func61 Tryz.ntmps61 fun g w0 R h0 => go [] <| cl0 Tryz.call37 (rvalid_nil) h0 fun w10 h11 => go [] ?_
 exact en (iV 0) [] ⟨_, _, rfl, ⟨rfl, rfl⟩, h11⟩

set_option maxHeartbeats 4000000 in
theorem zlen_ht (b n : Nat) (S : Ts) : HT Tryz.prog 61 [Value.pointer (some ⟨b, 0, none⟩)] [Zr b n S.A (allE S.E) S.R] (fun v K => v = Value.int IntKind.i64 (((S.R.length : Nat) : Int)) ∧ K = [Zr b n S.A (allE S.E) S.R]) := by
 refine hiS Tryz.func61 Tryz.ntmps61 fun g w0 R h0 => ?_
 obtain ⟨s10, p11, c12, p13, c14, hq15, h16⟩ := zr_open h0
 have hb17 := hq15.1
 have hb18 := hq15.2
 refine go [] <| cl1 Tryz.call37 (rvalid_cl b s10 p11 (((allE S.E).length)) c12 p13 S.R.length c14) h16 fun w19 h20 => go [rd 3 3 0 2 1 h20] ?_
 have h21 : sat g w19 [Zr b n S.A (allE S.E) S.R, R] := zr_close (by first | omega | (simp only [List.length_append, List.length_take, List.length_drop, List.length_cons, List.length_nil]; omega)) (by first | rfl | (simp only [List.length_append, List.length_take, List.length_drop, List.length_cons, List.length_nil]; omega) | simp only [List.length_append, List.length_take, List.length_drop, List.length_cons, List.length_nil]) (by first | rfl | (simp only [List.length_append, List.length_take, List.length_drop, List.length_cons, List.length_nil]; omega) | simp only [List.length_append, List.length_take, List.length_drop, List.length_cons, List.length_nil]) h20
 exact en (iV (((S.R.length : Nat) : Int))) [] ⟨_, _, rfl, ⟨rfl, rfl⟩, h21⟩

set_option maxHeartbeats 4000000 in
theorem zroom_nil  : HT Tryz.prog 63 [Value.pointer none] [] (fun v K => v = Value.int IntKind.i64 0 ∧ K = []) := by
 refine hiS Tryz.func63 Tryz.ntmps63 fun g w0 R h0 => go [] <| cl0 Tryz.call37 (rvalid_nil) h0 fun w10 h11 => go [] ?_
 exact en (iV 0) [] ⟨_, _, rfl, ⟨rfl, rfl⟩, h11⟩

set_option maxHeartbeats 4000000 in
theorem zroom_ht (b n : Nat) (S : Ts) : HT Tryz.prog 63 [Value.pointer (some ⟨b, 0, none⟩)] [Zr b n S.A (allE S.E) S.R] (fun v K => v = Value.int IntKind.i64 ((((inS 0 S.A 0).length : Nat) : Int)) ∧ K = [Zr b n S.A (allE S.E) S.R]) := by
 refine hiS Tryz.func63 Tryz.ntmps63 fun g w0 R h0 => ?_
 obtain ⟨s10, p11, c12, p13, c14, hq15, h16⟩ := zr_open h0
 have hb17 := hq15.1
 have hb18 := hq15.2
 refine go [] <| cl1 Tryz.call37 (rvalid_cl b s10 p11 (((allE S.E).length)) c12 p13 S.R.length c14) h16 fun w19 h20 => ?_
 have h21 := tk5 (sf4 (sf3 (sf4 (sf4 (sf4 h20)))))
 refine go [rd 3 3 0 0 1 h20] <| cl1 Tryz.call41 (zfree_ht s10 n S.A) h21 fun w22 h23 => go [] ?_
 have h25 : sat g w22 [Zr b n S.A (allE S.E) S.R, R] := zr_close (by first | omega | (simp only [List.length_append, List.length_take, List.length_drop, List.length_cons, List.length_nil]; omega)) (by first | rfl | (simp only [List.length_append, List.length_take, List.length_drop, List.length_cons, List.length_nil]; omega) | simp only [List.length_append, List.length_take, List.length_drop, List.length_cons, List.length_nil]) (by first | rfl | (simp only [List.length_append, List.length_take, List.length_drop, List.length_cons, List.length_nil]; omega) | simp only [List.length_append, List.length_take, List.length_drop, List.length_cons, List.length_nil]) (tk5 (sf4 (sf3 (sf4 (sf4 (sf4 h23))))))
 exact en (iV ((((inS 0 S.A 0).length : Nat) : Int))) [] ⟨_, _, rfl, ⟨rfl, rfl⟩, h25⟩

set_option maxHeartbeats 4000000 in
theorem zget_nil (vn : Int) : HT Tryz.prog 51 [Value.pointer none, Value.int IntKind.i64 vn] [] (fun v K => v = Value.tuple #[Value.agg #[Value.int IntKind.i64 0, Value.int IntKind.i64 0, Value.int IntKind.u32 0, Value.int IntKind.i64 0, Value.int IntKind.i64 0, Value.int IntKind.i64 0, Value.int IntKind.i64 0, Value.string (St [])], Value.int IntKind.i64 1] ∧ K = []) := by
 refine hiS Tryz.func51 Tryz.ntmps51 fun g w0 R h0 => go [] <| nP 54 [iV 0, iV 0, uV 0, iV 0, iV 0, iV 0, iV 0, .string (St [])] h0 (fun r10 w11 h12 => ?_)
 refine go [] <| cl0 Tryz.call82 (znum_nil vn) h12 fun w13 h14 => go [] <| sP [(0, iV 0), (1, iV 0), (2, uV 0), (3, iV 0), (4, iV 0), (5, iV 0), (6, iV 0), (7, .string (St []))] [iV 0, iV 0, uV 0, iV 0, iV 0, iV 0, iV 0, .string (St [])] h14 fun w15 h16 => go [] ?_
 exact en (.tuple #[.agg #[iV 0, iV 0, uV 0, iV 0, iV 0, iV 0, iV 0, .string (St [])], iV 1]) [rd 0 0 0 0 8 h16] ⟨_, _, rfl, ⟨rfl, rfl⟩, (tk1 (sf1 h16))⟩

theorem getR_ix {S : Ts} {v : Int} {q : Nat} {r : Rs} (hv : v = (q : Int) + 1) (h : S.R[q]? = some r) : getR S v = r := by
  unfold getR
  rw [if_pos (by omega), show (v - 1).toNat = q from by omega, h]
  rfl
theorem getR_oor {S : Ts} {v : Int} (h : v < 1 ∨ (S.R.length : Int) < v) : getR S v = rs0 := by
  unfold getR
  split
  · rw [List.getElem?_eq_none (by omega)]
    rfl
  · rfl
set_option maxHeartbeats 4000000 in
theorem zget_ht (b n : Nat) (S : Ts) (vn : Int) : HT Tryz.prog 51 [Value.pointer (some ⟨b, 0, none⟩), Value.int IntKind.i64 vn] [Zr b n S.A (allE S.E) S.R] (fun v K => v = Value.tuple #[Value.agg #[Value.int IntKind.i64 ((getR S vn).out.1), Value.int IntKind.i64 ((getR S vn).out.2.1), Value.int IntKind.u32 ((getR S vn).out.2.2), Value.int IntKind.i64 ((getR S vn).st), Value.int IntKind.i64 ((getR S vn).why), Value.int IntKind.i64 ((getR S vn).tr), Value.int IntKind.i64 ((getR S vn).nx), Value.string (St ((getR S vn).tag))], Value.int IntKind.i64 ((nE S vn))] ∧ K = [Zr b n S.A (allE S.E) S.R]) := by
 refine hiS Tryz.func51 Tryz.ntmps51 fun g w0 R h0 => go [] <| nP 54 [iV 0, iV 0, uV 0, iV 0, iV 0, iV 0, iV 0, .string (St [])] h0 (fun r10 w11 h12 => ?_)
 refine go [] ?_
 by_cases c13 : 1 ≤ vn
 ·
  by_cases c14 : vn ≤ ((S.R.length : Nat) : Int)
  ·
   refine cl1 Tryz.call82 ((by have h_ := wnum_ht b n S vn; rw [(show nE S vn = 0 from if_pos (by omega))] at h_; exact h_)) (tk3 (sf2 (sf1 (sf2 h12)))) fun w16 h17 => ?_
   obtain ⟨s18, p19, c20, p21, c22, hq23, h24⟩ := zr_open h17
   have hb25 := hq23.1
   have hb26 := hq23.2
   obtain ⟨b27, hp28⟩ := sl_ptr0 (j := 3) h24 rfl (by omega)
   obtain ⟨kk29, hk30⟩ : ∃ z_ : Nat, vn - 1 = (z_ : Int) := ⟨(vn - 1).toNat, by omega⟩
   refine go [rd 4 3 0 2 1 h24, .v 4 5 (oIr (vn - 1)), .s 4 6] <| lwP (.pointer (some ⟨b27, kk29 * 8, none⟩)) (law_indexSlP (x := (Operand.tmp 17)) (i := (Operand.tmp 19)) (p := p21) (b := b27) (off := 0) (z := (vn - 1)) (len := S.R.length) (cap := c22) (by kernel_rfl) Tryz.underlying76 8 (by kernel_rfl) kk29 (by kernel_rfl) hp28 (by kernel_rfl) (by omega) (by omega) (kk29 * 8) (by omega) _) ?_
   obtain ⟨x31, hx32⟩ : ∃ x, S.R[kk29]? = some x := ⟨_, List.getElem?_eq_getElem (by omega)⟩
   have h33 := tk6 (sf5 (sf4 (sf4 (sf4 (sf4 (sf5 h24))))))
   refine go [.r 4 7 b27 (kk29 * 8) [iV x31.out.1, iV x31.out.2.1, uV x31.out.2.2, iV x31.st, iV x31.why, iV x31.tr, iV x31.nx, .string (St x31.tag)] ⟨gv_cell (j := 3) h24 rfl (gv_sl _ _ _) hp28 (fl_get eRs_ok (j := 0) (v := iV x31.out.1) hx32 rfl) (kk29 * 8) (by omega), gv_cell (j := 3) h24 rfl (gv_sl _ _ _) hp28 (fl_get eRs_ok (j := 1) (v := iV x31.out.2.1) hx32 rfl) (kk29 * 8 + 1) (by omega), gv_cell (j := 3) h24 rfl (gv_sl _ _ _) hp28 (fl_get eRs_ok (j := 2) (v := uV x31.out.2.2) hx32 rfl) (kk29 * 8 + 2) (by omega), gv_cell (j := 3) h24 rfl (gv_sl _ _ _) hp28 (fl_get eRs_ok (j := 3) (v := iV x31.st) hx32 rfl) (kk29 * 8 + 3) (by omega), gv_cell (j := 3) h24 rfl (gv_sl _ _ _) hp28 (fl_get eRs_ok (j := 4) (v := iV x31.why) hx32 rfl) (kk29 * 8 + 4) (by omega), gv_cell (j := 3) h24 rfl (gv_sl _ _ _) hp28 (fl_get eRs_ok (j := 5) (v := iV x31.tr) hx32 rfl) (kk29 * 8 + 5) (by omega), gv_cell (j := 3) h24 rfl (gv_sl _ _ _) hp28 (fl_get eRs_ok (j := 6) (v := iV x31.nx) hx32 rfl) (kk29 * 8 + 6) (by omega), gv_cell (j := 3) h24 rfl (gv_sl _ _ _) hp28 (fl_get eRs_ok (j := 7) (v := .string (St x31.tag)) hx32 rfl) (kk29 * 8 + 7) (by omega), trivial⟩] <| sP [(0, iV x31.out.1), (1, iV x31.out.2.1), (2, uV x31.out.2.2), (3, iV x31.st), (4, iV x31.why), (5, iV x31.tr), (6, iV x31.nx), (7, .string (St x31.tag))] [iV x31.out.1, iV x31.out.2.1, uV x31.out.2.2, iV x31.st, iV x31.why, iV x31.tr, iV x31.nx, .string (St x31.tag)] h33 fun w34 h35 => go [] ?_
   have h37 : sat g w34 [Zr b n S.A (allE S.E) S.R, Cl r10 [iV x31.out.1, iV x31.out.2.1, uV x31.out.2.2, iV x31.st, iV x31.why, iV x31.tr, iV x31.nx, .string (St x31.tag)] 54, R] := zr_close (by first | omega | (simp only [List.length_append, List.length_take, List.length_drop, List.length_cons, List.length_nil]; omega)) (by first | rfl | (simp only [List.length_append, List.length_take, List.length_drop, List.length_cons, List.length_nil]; omega) | simp only [List.length_append, List.length_take, List.length_drop, List.length_cons, List.length_nil]) (by first | rfl | (simp only [List.length_append, List.length_take, List.length_drop, List.length_cons, List.length_nil]; omega) | simp only [List.length_append, List.length_take, List.length_drop, List.length_cons, List.length_nil]) (tk6 (sf5 (sf5 (sf5 (sf5 (sf1 (sf5 h35)))))))
   exact en (.tuple #[.agg #[iV x31.out.1, iV x31.out.2.1, uV x31.out.2.2, iV x31.st, iV x31.why, iV x31.tr, iV x31.nx, .string (St x31.tag)], iV 0]) [rd 0 0 0 0 8 h35] ⟨_, _, rfl, ⟨by rw [show nE S vn = 0 from if_pos (by omega), getR_ix (by omega) hx32], rfl⟩, (tk2 (sf1 (sf2 h37)))⟩
  refine cl1 Tryz.call82 ((by have h_ := wnum_ht b n S vn; rw [(show nE S vn = 3 from if_neg (by omega))] at h_; exact h_)) (tk3 (sf2 (sf1 (sf2 h12)))) fun w40 h41 => ?_
  have h42 := tk3 (sf2 (sf1 (sf2 h41)))
  refine go [] <| sP [(0, iV 0), (1, iV 0), (2, uV 0), (3, iV 0), (4, iV 0), (5, iV 0), (6, iV 0), (7, .string (St []))] [iV 0, iV 0, uV 0, iV 0, iV 0, iV 0, iV 0, .string (St [])] h42 fun w43 h44 => go [] ?_
  exact en (.tuple #[.agg #[iV 0, iV 0, uV 0, iV 0, iV 0, iV 0, iV 0, .string (St [])], iV 3]) [rd 0 0 0 0 8 h44] ⟨_, _, rfl, ⟨by rw [show nE S vn = 3 from if_neg (by omega), getR_oor (by omega)]; rfl, rfl⟩, (tk2 (sf1 (sf2 (tk3 (sf2 (sf1 (sf2 h44)))))))⟩
 refine cl1 Tryz.call82 ((by have h_ := wnum_ht b n S vn; rw [(show nE S vn = 3 from if_neg (by omega))] at h_; exact h_)) (tk3 (sf2 (sf1 (sf2 h12)))) fun w48 h49 => ?_
 have h50 := tk3 (sf2 (sf1 (sf2 h49)))
 refine go [] <| sP [(0, iV 0), (1, iV 0), (2, uV 0), (3, iV 0), (4, iV 0), (5, iV 0), (6, iV 0), (7, .string (St []))] [iV 0, iV 0, uV 0, iV 0, iV 0, iV 0, iV 0, .string (St [])] h50 fun w51 h52 => go [] ?_
 exact en (.tuple #[.agg #[iV 0, iV 0, uV 0, iV 0, iV 0, iV 0, iV 0, .string (St [])], iV 3]) [rd 0 0 0 0 8 h52] ⟨_, _, rfl, ⟨by rw [show nE S vn = 3 from if_neg (by omega), getR_oor (by omega)]; rfl, rfl⟩, (tk2 (sf1 (sf2 (tk3 (sf2 (sf1 (sf2 h52)))))))⟩

set_option maxHeartbeats 4000000 in
theorem zat_nil (vn : Int) : HT Tryz.prog 60 [Value.pointer none, Value.int IntKind.i64 vn] [] (fun v K => v = Value.tuple #[Value.agg #[Value.int IntKind.i64 0, Value.int IntKind.i64 0, Value.int IntKind.u32 0], Value.bool false] ∧ K = []) := by
 refine hiS Tryz.func60 Tryz.ntmps60 fun g w0 R h0 => go [] <| nP 25 [iV 0, iV 0, uV 0] h0 (fun r10 w11 h12 => ?_)
 refine go [] <| unS 0 <| go [] <| cl0 Tryz.call37 (rvalid_nil) h12 fun w13 h14 => go [] <| up <| go [] <| sP [(0, iV 0), (1, iV 0), (2, uV 0)] [iV 0, iV 0, uV 0] h14 fun w15 h16 => go [] ?_
 exact en (.tuple #[.agg #[iV 0, iV 0, uV 0], .bool false]) [rd 0 0 0 0 3 h16] ⟨_, _, rfl, ⟨rfl, rfl⟩, (tk1 (sf1 h16))⟩

set_option maxHeartbeats 4000000 in
theorem zat_ht (b n : Nat) (S : Ts) (hW : Wf n S) (vn : Int) : HT Tryz.prog 60 [Value.pointer (some ⟨b, 0, none⟩), Value.int IntKind.i64 vn] [Zr b n S.A (allE S.E) S.R] (fun v K => v = Value.tuple #[Value.agg #[Value.int IntKind.i64 ((atX S vn).d.1), Value.int IntKind.i64 ((atX S vn).d.2.1), Value.int IntKind.u32 ((atX S vn).d.2.2)], Value.bool ((gget S.E vn).isSome)] ∧ K = [Zr b n S.A (allE S.E) S.R]) := by
 refine hiS Tryz.func60 Tryz.ntmps60 fun g w0 R h0 => go [] <| nP 25 [iV 0, iV 0, uV 0] h0 (fun r10 w11 h12 => ?_)
 refine go [] ?_
 obtain ⟨s14, p15, c16, p17, c18, hq19, h20⟩ := zr_open (tk3 (sf2 (sf1 (sf2 h12))))
 have hb21 := hq19.1
 have hb22 := hq19.2
 refine lpS (fun mz_ a w => ∃ k : Nat, ∃ lr : Fr, mz_ = (allE S.E).length - k ∧ (k ≤ (allE S.E).length) ∧ (((allE S.E).take k).any (fun e => decide (e.d.2.1 = vn)) = false) ∧ a = mk 40 (([(0, pV b), (1, iV vn), (4, pV r10), (6, iV (k : Int))] : Fr) ++ lr) ∧ sat g w [Cl b [pV s14, .slice p15 (((allE S.E).length)) c16, .slice p17 S.R.length c18] 78, Zs s14 n S.A, Sl 93 6 p15 (((allE S.E).length)) c16 (fl eE (allE S.E)), Sl 54 8 p17 S.R.length c18 (fl eRs S.R), Cl r10 [iV 0, iV 0, uV 0] 25, R]) ((allE S.E).length - 0) ⟨0, _, rfl, (by omega), rfl, (lvF [.k 0 (pV b), .k 1 (iV vn), .k 4 (pV r10), .o 6 (oJ .i64 0 (0 : Int))]), h20⟩ ?_
 rintro m24 a25 w26 ⟨k, lr23, rfl, hk_, hb_, rfl, h27⟩
 refine ga <| go [] <| cl1 Tryz.call37 (rvalid_cl b s14 p15 (((allE S.E).length)) c16 p17 S.R.length c18) h27 fun w28 h29 => go [rd 2 7 0 1 1 h29, .s 2 9] ?_
 by_cases c30 : (k : Int) < (((allE S.E).length : Nat) : Int)
 ·
  obtain ⟨b31, hp32⟩ := sl_ptr0 (j := 2) h29 rfl (by omega)
  refine go [.v 2 9 (oT ((k : Int) < (((allE S.E).length : Nat) : Int))), rd 4 3 0 1 1 h29, .s 4 5] <| lwP (.pointer (some ⟨b31, k * 6, none⟩)) (law_indexSlP (x := (Operand.tmp 23)) (i := (Operand.tmp 24)) (p := p15) (b := b31) (off := 0) (z := (k : Int)) (len := (((allE S.E).length))) (cap := c16) (by kernel_rfl) Tryz.underlying75 6 (by kernel_rfl) k (by kernel_rfl) hp32 (by kernel_rfl) (by omega) (by omega) (k * 6) (by omega) _) ?_
  obtain ⟨x33, hx34⟩ : ∃ x, (allE S.E)[k]? = some x := ⟨_, List.getElem?_eq_getElem (by omega)⟩
  refine go [.r 4 8 b31 (k * 6 + 1) [iV x33.d.2.1] ⟨gv_cell (j := 2) h29 rfl (gv_sl _ _ _) hp32 (fl_get eE_ok (j := 1) (v := iV x33.d.2.1) hx34 rfl) (k * 6 + 1) (by omega), trivial⟩, .s 4 10] ?_
  by_cases c35 : x33.d.2.1 = vn
  ·
   refine go [.v 4 10 (eT x33.d.2.1 vn), rd 5 3 0 1 1 h29, .s 5 5] <| lwP (.pointer (some ⟨b31, k * 6, none⟩)) (law_indexSlP (x := (Operand.tmp 34)) (i := (Operand.tmp 35)) (p := p15) (b := b31) (off := 0) (z := (k : Int)) (len := (((allE S.E).length))) (cap := c16) (by kernel_rfl) Tryz.underlying75 6 (by kernel_rfl) k (by kernel_rfl) hp32 (by kernel_rfl) (by omega) (by omega) (k * 6) (by omega) _) ?_
   have h36 := tk6 (sf5 (sf4 (sf4 (sf4 (sf4 (sf5 h29))))))
   refine go [.r 5 7 b31 (k * 6) [iV x33.d.1, iV x33.d.2.1, uV x33.d.2.2] ⟨gv_cell (j := 2) h29 rfl (gv_sl _ _ _) hp32 (fl_get eE_ok (j := 0) (v := iV x33.d.1) hx34 rfl) (k * 6) (by omega), gv_cell (j := 2) h29 rfl (gv_sl _ _ _) hp32 (fl_get eE_ok (j := 1) (v := iV x33.d.2.1) hx34 rfl) (k * 6 + 1) (by omega), gv_cell (j := 2) h29 rfl (gv_sl _ _ _) hp32 (fl_get eE_ok (j := 2) (v := uV x33.d.2.2) hx34 rfl) (k * 6 + 2) (by omega), trivial⟩] <| sP [(0, iV x33.d.1), (1, iV x33.d.2.1), (2, uV x33.d.2.2)] [iV x33.d.1, iV x33.d.2.1, uV x33.d.2.2] h36 fun w37 h38 => go [] <| up <| go [] ?_
   have h40 : sat g w37 [Zr b n S.A (allE S.E) S.R, Cl r10 [iV x33.d.1, iV x33.d.2.1, uV x33.d.2.2] 25, R] := zr_close (by first | omega | (simp only [List.length_append, List.length_take, List.length_drop, List.length_cons, List.length_nil]; omega)) (by first | rfl | (simp only [List.length_append, List.length_take, List.length_drop, List.length_cons, List.length_nil]; omega) | simp only [List.length_append, List.length_take, List.length_drop, List.length_cons, List.length_nil]) (by first | rfl | (simp only [List.length_append, List.length_take, List.length_drop, List.length_cons, List.length_nil]; omega) | simp only [List.length_append, List.length_take, List.length_drop, List.length_cons, List.length_nil]) (tk6 (sf5 (sf5 (sf5 (sf5 (sf1 (sf5 h38)))))))
   have ha_ := at_hit hW hx34 (v := vn) (by omega)
   exact en (.tuple #[.agg #[iV x33.d.1, iV x33.d.2.1, uV x33.d.2.2], .bool true]) [rd 0 0 0 0 3 h38] ⟨_, _, rfl, ⟨by rw [show atX S vn = x33 from by unfold atX; rw [ha_]; rfl, ha_]; rfl, rfl⟩, (tk2 (sf1 (sf2 h40)))⟩
  refine go [.v 4 10 (eF x33.d.2.1 vn), .v 3 1 (oIr ((k : Int) + 1))] ?_
  refine enL ?_
  change ∃ n', n' < _ ∧ _
  refine ⟨(((allE S.E).length) - (k + 1)), by omega, (k + 1), _, rfl, (by omega), (any_step hb_ hx34 (decide_eq_false (by omega))), (lvF [.k 0 (pV b), .k 1 (iV vn), .k 4 (pV r10), .o 6 (oJ .i64 ((k : Int) + 1) ((((k + 1) : Nat) : Int)))]), h29⟩
 refine go [.v 2 9 (oF ((k : Int) < (((allE S.E).length : Nat) : Int)))] <| up ?_
 have h42 := tk6 (sf5 (sf4 (sf4 (sf4 (sf4 (sf5 h29))))))
 refine go [] <| sP [(0, iV 0), (1, iV 0), (2, uV 0)] [iV 0, iV 0, uV 0] h42 fun w43 h44 => go [] ?_
 have h46 : sat g w43 [Zr b n S.A (allE S.E) S.R, Cl r10 [iV 0, iV 0, uV 0] 25, R] := zr_close (by first | omega | (simp only [List.length_append, List.length_take, List.length_drop, List.length_cons, List.length_nil]; omega)) (by first | rfl | (simp only [List.length_append, List.length_take, List.length_drop, List.length_cons, List.length_nil]; omega) | simp only [List.length_append, List.length_take, List.length_drop, List.length_cons, List.length_nil]) (by first | rfl | (simp only [List.length_append, List.length_take, List.length_drop, List.length_cons, List.length_nil]; omega) | simp only [List.length_append, List.length_take, List.length_drop, List.length_cons, List.length_nil]) (tk6 (sf5 (sf5 (sf5 (sf5 (sf1 (sf5 h44)))))))
 have ha_ := at_miss hW (any_end hb_ (by omega))
 exact en (.tuple #[.agg #[iV 0, iV 0, uV 0], .bool false]) [rd 0 0 0 0 3 h44] ⟨_, _, rfl, ⟨by rw [show atX S vn = noE from by unfold atX; rw [ha_]; rfl, ha_]; rfl, rfl⟩, (tk2 (sf1 (sf2 h46)))⟩

end Go.Proofs.YtjjpmehiolejgaaGreat

/- Walks, printed by my generator ../tab/gen21.py. -/
namespace Go.Proofs.YtjjpmehiolejgaaGreat
theorem seq36_neq_t {n : Nat} {l : Fr} {o : Oper} {x y : Operand} (a0 : Int) (a1 : Int) (a2 : Int) (c0 : Int) (c1 : Int) (c2 : Int) (ho : o.op = .binOp .neq 36 x y 36) (hx : fe n l x = .agg #[.int .i64 a0, .int .i64 a1, .int .u32 a2]) (hy : fe n l y = .agg #[.int .i64 c0, .int .i64 c1, .int .u32 c2]) (h : a0 = c0 ∧ a1 = c1 ∧ a2 = c2) (w : World) : (execOp (fe n l) o).run Tryz.prog w = .ok (.value (.bool false)) w := by
  obtain ⟨rfl, rfl, rfl⟩ := h
  simp [execOp, ho, hx, hy, go_sem]
theorem seq36_neq_f {n : Nat} {l : Fr} {o : Oper} {x y : Operand} (a0 : Int) (a1 : Int) (a2 : Int) (c0 : Int) (c1 : Int) (c2 : Int) (ho : o.op = .binOp .neq 36 x y 36) (hx : fe n l x = .agg #[.int .i64 a0, .int .i64 a1, .int .u32 a2]) (hy : fe n l y = .agg #[.int .i64 c0, .int .i64 c1, .int .u32 c2]) (h : ¬ (a0 = c0 ∧ a1 = c1 ∧ a2 = c2)) (w : World) : (execOp (fe n l) o).run Tryz.prog w = .ok (.value (.bool true)) w := by
  by_cases h0 : a0 = c0
  · skip
    by_cases h1 : a1 = c1
    · skip
      by_cases h2 : a2 = c2
      · exact absurd ⟨h0, h1, h2⟩ h
      · simp [execOp, ho, hx, hy, go_sem, h0, h1, h2]
    · simp [execOp, ho, hx, hy, go_sem, h0, h1]
  · simp [execOp, ho, hx, hy, go_sem, h0]
set_option maxHeartbeats 4000000 in
theorem tset_out (b n : Nat) (A : List Sl2) (E : Tm) (RL : List Rs) (vn x y z st why tr nx : Int) (L : List UInt8) (hz0 : 0 ≤ z) (hz1 : z ≤ 4294967295) (hm : L.length ≤ 1099511627776) (q : Nat) (r : Rs) (hr : RL[q]? = some r) (hv : vn = (q : Int) + 1) (he : resE x y z st why tr nx L = 0) (ho : ¬ (x = r.out.1 ∧ y = r.out.2.1 ∧ z = r.out.2.2)) : HT Tryz.prog 17 [Value.pointer (some ⟨b, 0, none⟩), Value.int IntKind.i64 vn, Value.agg #[Value.int IntKind.i64 x, Value.int IntKind.i64 y, Value.int IntKind.u32 z, Value.int IntKind.i64 st, Value.int IntKind.i64 why, Value.int IntKind.i64 tr, Value.int IntKind.i64 nx, Value.string (St L)]] [Tab b n A E RL] (fun v K => v = Value.int IntKind.i64 2 ∧ K = [Tab b n A E RL]) := by
 have hq_ := (List.getElem?_eq_some_iff.1 hr).1
 refine hiS Tryz.func17 Tryz.ntmps17 fun g w0 R h0 => go [] <| nP 40 [iV x, iV y, uV z, iV st, iV why, iV tr, iV nx, .string (St L)] h0 (fun r10 w11 h12 => ?_)
 have h13 := tk3 (sf2 (sf1 (sf2 h12)))
 refine go [] <| cl1 Tryz.call49 (tget_ok b n A E RL vn q r hr (by omega)) h13 fun w14 h15 => go [] <| nP 40 [iV 0, iV 0, uV 0, iV 0, iV 0, iV 0, iV 0, .string (St [])] h15 (fun r16 w17 h18 => ?_)
 refine sP [(0, iV r.out.1), (1, iV r.out.2.1), (2, uV r.out.2.2), (3, iV r.st), (4, iV r.why), (5, iV r.tr), (6, iV r.nx), (7, .string (St r.tag))] [iV r.out.1, iV r.out.2.1, uV r.out.2.2, iV r.st, iV r.why, iV r.tr, iV r.nx, .string (St r.tag)] h18 fun w19 h20 => go [rd 4 0 2 0 8 h20] <| cl0 Tryz.call50 (rchk_ht x y z st why tr nx L (by omega) (by omega) (by omega)) h20 fun w21 h22 => ?_
 have h25 := tk4 (sf3 (sf2 (sf3 (sf3 h22))))
 refine go [.v 5 1 (nF ((resE x y z st why tr nx L)) 0)] <| cP Tryz.call46 (tdescs_ok b n A E RL vn (by omega)) h25 ?_
 rintro v K w26 (⟨p23, c24, rfl, rfl⟩) h27
 have h28 := ap2 h27
 refine go [rd 8 1 3 0 3 h28, rd 8 3 2 0 3 h28, .s 8 4] ?_
 by_cases c29 : x = r.out.1
 ·
  by_cases c30 : y = r.out.2.1
  ·
   refine lwP (.bool true) (seq36_neq_f (x := (Operand.tmp 33)) (y := (Operand.tmp 35)) x y z r.out.1 r.out.2.1 r.out.2.2 (by kernel_rfl) (by kernel_rfl) (by kernel_rfl) (by omega) _) <| go [] ?_
   exact en (iV 2) [] ⟨_, _, rfl, ⟨rfl, rfl⟩, (tk2 (sf1 (sf4 h28)))⟩
  refine lwP (.bool true) (seq36_neq_f (x := (Operand.tmp 33)) (y := (Operand.tmp 35)) x y z r.out.1 r.out.2.1 r.out.2.2 (by kernel_rfl) (by kernel_rfl) (by kernel_rfl) (by omega) _) <| go [] ?_
  exact en (iV 2) [] ⟨_, _, rfl, ⟨rfl, rfl⟩, (tk2 (sf1 (sf4 h28)))⟩
 refine lwP (.bool true) (seq36_neq_f (x := (Operand.tmp 33)) (y := (Operand.tmp 35)) x y z r.out.1 r.out.2.1 r.out.2.2 (by kernel_rfl) (by kernel_rfl) (by kernel_rfl) (by omega) _) <| go [] ?_
 exact en (iV 2) [] ⟨_, _, rfl, ⟨rfl, rfl⟩, (tk2 (sf1 (sf4 h28)))⟩

set_option maxHeartbeats 4000000 in
theorem tset_tag (b n : Nat) (A : List Sl2) (E : Tm) (RL : List Rs) (vn x y z st why tr nx : Int) (L : List UInt8) (hz0 : 0 ≤ z) (hz1 : z ≤ 4294967295) (hm : L.length ≤ 1099511627776) (q : Nat) (r : Rs) (hr : RL[q]? = some r) (hv : vn = (q : Int) + 1) (he : resE x y z st why tr nx L = 0) (ho : x = r.out.1 ∧ y = r.out.2.1 ∧ z = r.out.2.2) (ht : ¬ L = r.tag) : HT Tryz.prog 17 [Value.pointer (some ⟨b, 0, none⟩), Value.int IntKind.i64 vn, Value.agg #[Value.int IntKind.i64 x, Value.int IntKind.i64 y, Value.int IntKind.u32 z, Value.int IntKind.i64 st, Value.int IntKind.i64 why, Value.int IntKind.i64 tr, Value.int IntKind.i64 nx, Value.string (St L)]] [Tab b n A E RL] (fun v K => v = Value.int IntKind.i64 2 ∧ K = [Tab b n A E RL]) := by
 have hq_ := (List.getElem?_eq_some_iff.1 hr).1
 refine hiS Tryz.func17 Tryz.ntmps17 fun g w0 R h0 => go [] <| nP 40 [iV x, iV y, uV z, iV st, iV why, iV tr, iV nx, .string (St L)] h0 (fun r10 w11 h12 => ?_)
 have h13 := tk3 (sf2 (sf1 (sf2 h12)))
 refine go [] <| cl1 Tryz.call49 (tget_ok b n A E RL vn q r hr (by omega)) h13 fun w14 h15 => go [] <| nP 40 [iV 0, iV 0, uV 0, iV 0, iV 0, iV 0, iV 0, .string (St [])] h15 (fun r16 w17 h18 => ?_)
 refine sP [(0, iV r.out.1), (1, iV r.out.2.1), (2, uV r.out.2.2), (3, iV r.st), (4, iV r.why), (5, iV r.tr), (6, iV r.nx), (7, .string (St r.tag))] [iV r.out.1, iV r.out.2.1, uV r.out.2.2, iV r.st, iV r.why, iV r.tr, iV r.nx, .string (St r.tag)] h18 fun w19 h20 => go [rd 4 0 2 0 8 h20] <| cl0 Tryz.call50 (rchk_ht x y z st why tr nx L (by omega) (by omega) (by omega)) h20 fun w21 h22 => ?_
 have h25 := tk4 (sf3 (sf2 (sf3 (sf3 h22))))
 refine go [.v 5 1 (nF ((resE x y z st why tr nx L)) 0)] <| cP Tryz.call46 (tdescs_ok b n A E RL vn (by omega)) h25 ?_
 rintro v K w26 (⟨p23, c24, rfl, rfl⟩) h27
 have h28 := ap2 h27
 refine go [rd 8 1 3 0 3 h28, rd 8 3 2 0 3 h28, .s 8 4] <| lwP (.bool false) (seq36_neq_t (x := (Operand.tmp 33)) (y := (Operand.tmp 35)) x y z r.out.1 r.out.2.1 r.out.2.2 (by kernel_rfl) (by kernel_rfl) (by kernel_rfl) ⟨(by omega), (by omega), (by omega)⟩ _) <| go [rd 8 7 3 7 1 h28, rd 8 9 2 7 1 h28, .s 8 10] <| lwP (.bool true) (law_neStr (t := 9) (x := (Operand.tmp 39)) (y := (Operand.tmp 41)) (a := L) (b := r.tag) (by kernel_rfl) (by kernel_rfl) (by kernel_rfl) true ((decide_eq_false ht).trans rfl) _) <| go [] ?_
 exact en (iV 2) [] ⟨_, _, rfl, ⟨rfl, rfl⟩, (tk2 (sf1 (sf4 h28)))⟩

set_option maxHeartbeats 4000000 in
theorem tset_state (b n : Nat) (A : List Sl2) (E : Tm) (RL : List Rs) (vn x y z st why tr nx : Int) (L : List UInt8) (hz0 : 0 ≤ z) (hz1 : z ≤ 4294967295) (hm : L.length ≤ 1099511627776) (q : Nat) (r : Rs) (hr : RL[q]? = some r) (hv : vn = (q : Int) + 1) (he : resE x y z st why tr nx L = 0) (ho : x = r.out.1 ∧ y = r.out.2.1 ∧ z = r.out.2.2) (ht : L = r.tag) (hs : st ≠ 1) (hd : 0 < (descs E vn).length) : HT Tryz.prog 17 [Value.pointer (some ⟨b, 0, none⟩), Value.int IntKind.i64 vn, Value.agg #[Value.int IntKind.i64 x, Value.int IntKind.i64 y, Value.int IntKind.u32 z, Value.int IntKind.i64 st, Value.int IntKind.i64 why, Value.int IntKind.i64 tr, Value.int IntKind.i64 nx, Value.string (St L)]] [Tab b n A E RL] (fun v K => v = Value.int IntKind.i64 8 ∧ K = [Tab b n A E RL]) := by
 have hq_ := (List.getElem?_eq_some_iff.1 hr).1
 refine hiS Tryz.func17 Tryz.ntmps17 fun g w0 R h0 => go [] <| nP 40 [iV x, iV y, uV z, iV st, iV why, iV tr, iV nx, .string (St L)] h0 (fun r10 w11 h12 => ?_)
 have h13 := tk3 (sf2 (sf1 (sf2 h12)))
 refine go [] <| cl1 Tryz.call49 (tget_ok b n A E RL vn q r hr (by omega)) h13 fun w14 h15 => go [] <| nP 40 [iV 0, iV 0, uV 0, iV 0, iV 0, iV 0, iV 0, .string (St [])] h15 (fun r16 w17 h18 => ?_)
 refine sP [(0, iV r.out.1), (1, iV r.out.2.1), (2, uV r.out.2.2), (3, iV r.st), (4, iV r.why), (5, iV r.tr), (6, iV r.nx), (7, .string (St r.tag))] [iV r.out.1, iV r.out.2.1, uV r.out.2.2, iV r.st, iV r.why, iV r.tr, iV r.nx, .string (St r.tag)] h18 fun w19 h20 => go [rd 4 0 2 0 8 h20] <| cl0 Tryz.call50 (rchk_ht x y z st why tr nx L (by omega) (by omega) (by omega)) h20 fun w21 h22 => ?_
 have h25 := tk4 (sf3 (sf2 (sf3 (sf3 h22))))
 refine go [.v 5 1 (nF ((resE x y z st why tr nx L)) 0)] <| cP Tryz.call46 (tdescs_ok b n A E RL vn (by omega)) h25 ?_
 rintro v K w26 (⟨p23, c24, rfl, rfl⟩) h27
 have h28 := ap2 h27
 refine go [rd 8 1 3 0 3 h28, rd 8 3 2 0 3 h28, .s 8 4] <| lwP (.bool false) (seq36_neq_t (x := (Operand.tmp 33)) (y := (Operand.tmp 35)) x y z r.out.1 r.out.2.1 r.out.2.2 (by kernel_rfl) (by kernel_rfl) (by kernel_rfl) ⟨(by omega), (by omega), (by omega)⟩ _) <| go [rd 8 7 3 7 1 h28, rd 8 9 2 7 1 h28, .s 8 10] <| lwP (.bool false) (law_neStr (t := 9) (x := (Operand.tmp 39)) (y := (Operand.tmp 41)) (a := L) (b := r.tag) (by kernel_rfl) (by kernel_rfl) (by kernel_rfl) false (decide_eq_true ht) _) <| go [rd 10 1 3 3 1 h28, .v 10 2 (nT st 1), .v 10 6 (oT ((((descs E vn).length : Nat) : Int) > 0))] ?_
 exact en (iV 8) [] ⟨_, _, rfl, ⟨rfl, rfl⟩, (tk2 (sf1 (sf4 h28)))⟩

set_option maxHeartbeats 4000000 in
theorem tset_ok1 (b n : Nat) (A : List Sl2) (E : Tm) (RL : List Rs) (vn x y z st why tr nx : Int) (L : List UInt8) (hz0 : 0 ≤ z) (hz1 : z ≤ 4294967295) (hm : L.length ≤ 1099511627776) (q : Nat) (r : Rs) (hr : RL[q]? = some r) (hv : vn = (q : Int) + 1) (he : resE x y z st why tr nx L = 0) (ho : x = r.out.1 ∧ y = r.out.2.1 ∧ z = r.out.2.2) (ht : L = r.tag) (hs : st = 1) : HT Tryz.prog 17 [Value.pointer (some ⟨b, 0, none⟩), Value.int IntKind.i64 vn, Value.agg #[Value.int IntKind.i64 x, Value.int IntKind.i64 y, Value.int IntKind.u32 z, Value.int IntKind.i64 st, Value.int IntKind.i64 why, Value.int IntKind.i64 tr, Value.int IntKind.i64 nx, Value.string (St L)]] [Tab b n A E RL] (fun v K => v = Value.int IntKind.i64 0 ∧ K = [Tab b n A E (RL.set q ⟨(x, y, z), st, why, tr, nx, L⟩)]) := by
 have hq_ := (List.getElem?_eq_some_iff.1 hr).1
 refine hiS Tryz.func17 Tryz.ntmps17 fun g w0 R h0 => go [] <| nP 40 [iV x, iV y, uV z, iV st, iV why, iV tr, iV nx, .string (St L)] h0 (fun r10 w11 h12 => ?_)
 have h13 := tk3 (sf2 (sf1 (sf2 h12)))
 refine go [] <| cl1 Tryz.call49 (tget_ok b n A E RL vn q r hr (by omega)) h13 fun w14 h15 => go [] <| nP 40 [iV 0, iV 0, uV 0, iV 0, iV 0, iV 0, iV 0, .string (St [])] h15 (fun r16 w17 h18 => ?_)
 refine sP [(0, iV r.out.1), (1, iV r.out.2.1), (2, uV r.out.2.2), (3, iV r.st), (4, iV r.why), (5, iV r.tr), (6, iV r.nx), (7, .string (St r.tag))] [iV r.out.1, iV r.out.2.1, uV r.out.2.2, iV r.st, iV r.why, iV r.tr, iV r.nx, .string (St r.tag)] h18 fun w19 h20 => go [rd 4 0 2 0 8 h20] <| cl0 Tryz.call50 (rchk_ht x y z st why tr nx L (by omega) (by omega) (by omega)) h20 fun w21 h22 => ?_
 have h25 := tk4 (sf3 (sf2 (sf3 (sf3 h22))))
 refine go [.v 5 1 (nF ((resE x y z st why tr nx L)) 0)] <| cP Tryz.call46 (tdescs_ok b n A E RL vn (by omega)) h25 ?_
 rintro v K w26 (⟨p23, c24, rfl, rfl⟩) h27
 have h28 := ap2 h27
 refine go [rd 8 1 3 0 3 h28, rd 8 3 2 0 3 h28, .s 8 4] <| lwP (.bool false) (seq36_neq_t (x := (Operand.tmp 33)) (y := (Operand.tmp 35)) x y z r.out.1 r.out.2.1 r.out.2.2 (by kernel_rfl) (by kernel_rfl) (by kernel_rfl) ⟨(by omega), (by omega), (by omega)⟩ _) <| go [rd 8 7 3 7 1 h28, rd 8 9 2 7 1 h28, .s 8 10] <| lwP (.bool false) (law_neStr (t := 9) (x := (Operand.tmp 39)) (y := (Operand.tmp 41)) (a := L) (b := r.tag) (by kernel_rfl) (by kernel_rfl) (by kernel_rfl) false (decide_eq_true ht) _) <| go [rd 10 1 3 3 1 h28, .v 10 2 (nF st 1)] <| dw (fls [0, 1, 2, 3, 4, 5, 6, 7] (Tr.an 8 Tr.nil)) h28 fun w29 h30 => ?_
 obtain ⟨s31, m32, p33, c34, E35, hM36, h37⟩ := tab_open h30
 have hRl_ := hM36.2
 obtain ⟨b38, hp39⟩ := sl_ptr0 (j := 3) h37 rfl (by omega)
 refine go [rd 12 3 0 2 1 h37, .v 12 5 (oIr (vn - 1)), rd 12 6 6 0 8 h37, .s 12 7] <| lw (.pointer (some ⟨b38, q * 8, none⟩)) (fun _ => law_indexSlP (x := (Operand.tmp 56)) (i := (Operand.tmp 58)) (p := p33) (b := b38) (off := 0) (z := (vn - 1)) (len := RL.length) (cap := c34) (by kernel_rfl) Tryz.underlying69 8 (by kernel_rfl) q (by kernel_rfl) hp39 (by kernel_rfl) (by omega) (by omega) (q * 8) (by omega) _) ?_
 have h40 := tk8 (sf7 (sf6 (sf6 (sf6 (sf7 (sf7 (sf7 (sf7 h37))))))))
 refine actG ?_
 have hl43 := fl_n eRs_ok (by decide) h40
 refine an_storeSl (b := b38) [(q * 8, iV x), (q * 8 + 1, iV y), (q * 8 + 2, uV z), (q * 8 + 3, iV st), (q * 8 + 4, iV why), (q * 8 + 5, iV tr), (q * 8 + 6, iV nx), (q * 8 + 7, .string (St L))] (cs' := (fl eRs (RL.set q ⟨(x, y, z), st, why, tr, nx, L⟩))) (by kernel_rfl) (by kernel_rfl) hp39 (allq ⟨⟨by omega, rfl⟩, ⟨by omega, rfl⟩, ⟨by omega, rfl⟩, ⟨by omega, rfl⟩, ⟨by omega, rfl⟩, ⟨by omega, rfl⟩, ⟨by omega, rfl⟩, ⟨by omega, rfl⟩, trivial⟩) (by omega) (fl_upd eRs_ok (i := q) (x := r) (y := ⟨(x, y, z), st, why, tr, nx, L⟩) hr [(0, iV x), (1, iV y), (2, uV z), (3, iV st), (4, iV why), (5, iV tr), (6, iV nx), (7, .string (St L))] rfl rfl rfl) h40 ?_
 intro w41 h42
 refine ⟨kd [], nxN ?_⟩
 refine go [] ?_
 have h45 : sat g w41 [Tab b n A E (RL.set q ⟨(x, y, z), st, why, tr, nx, L⟩), Sl 25 3 p23 (((descs E vn).length)) c24 (fl eO (descs E vn)), Cl r16 [iV r.out.1, iV r.out.2.1, uV r.out.2.2, iV r.st, iV r.why, iV r.tr, iV r.nx, .string (St r.tag)] 40, Cl r10 [iV x, iV y, uV z, iV st, iV why, iV tr, iV nx, .string (St L)] 40, R] := tab_close hM36.1 (by simp only [List.length_append, List.length_set, List.length_cons, List.length_nil]; omega) (by simp only [List.length_append, List.length_set, List.length_cons, List.length_nil]) (tk8 (sf7 (sf7 (sf7 (sf4 (sf7 (sf7 (sf7 (sf7 h42)))))))))
 exact en (iV 0) [] ⟨_, _, rfl, ⟨rfl, rfl⟩, (tk2 (sf1 (sf4 h45)))⟩

set_option maxHeartbeats 4000000 in
theorem tset_ok2 (b n : Nat) (A : List Sl2) (E : Tm) (RL : List Rs) (vn x y z st why tr nx : Int) (L : List UInt8) (hz0 : 0 ≤ z) (hz1 : z ≤ 4294967295) (hm : L.length ≤ 1099511627776) (q : Nat) (r : Rs) (hr : RL[q]? = some r) (hv : vn = (q : Int) + 1) (he : resE x y z st why tr nx L = 0) (ho : x = r.out.1 ∧ y = r.out.2.1 ∧ z = r.out.2.2) (ht : L = r.tag) (hd : (descs E vn).length = 0) : HT Tryz.prog 17 [Value.pointer (some ⟨b, 0, none⟩), Value.int IntKind.i64 vn, Value.agg #[Value.int IntKind.i64 x, Value.int IntKind.i64 y, Value.int IntKind.u32 z, Value.int IntKind.i64 st, Value.int IntKind.i64 why, Value.int IntKind.i64 tr, Value.int IntKind.i64 nx, Value.string (St L)]] [Tab b n A E RL] (fun v K => v = Value.int IntKind.i64 0 ∧ K = [Tab b n A E (RL.set q ⟨(x, y, z), st, why, tr, nx, L⟩)]) := by
 have hq_ := (List.getElem?_eq_some_iff.1 hr).1
 refine hiS Tryz.func17 Tryz.ntmps17 fun g w0 R h0 => go [] <| nP 40 [iV x, iV y, uV z, iV st, iV why, iV tr, iV nx, .string (St L)] h0 (fun r10 w11 h12 => ?_)
 have h13 := tk3 (sf2 (sf1 (sf2 h12)))
 refine go [] <| cl1 Tryz.call49 (tget_ok b n A E RL vn q r hr (by omega)) h13 fun w14 h15 => go [] <| nP 40 [iV 0, iV 0, uV 0, iV 0, iV 0, iV 0, iV 0, .string (St [])] h15 (fun r16 w17 h18 => ?_)
 refine sP [(0, iV r.out.1), (1, iV r.out.2.1), (2, uV r.out.2.2), (3, iV r.st), (4, iV r.why), (5, iV r.tr), (6, iV r.nx), (7, .string (St r.tag))] [iV r.out.1, iV r.out.2.1, uV r.out.2.2, iV r.st, iV r.why, iV r.tr, iV r.nx, .string (St r.tag)] h18 fun w19 h20 => go [rd 4 0 2 0 8 h20] <| cl0 Tryz.call50 (rchk_ht x y z st why tr nx L (by omega) (by omega) (by omega)) h20 fun w21 h22 => ?_
 have h25 := tk4 (sf3 (sf2 (sf3 (sf3 h22))))
 refine go [.v 5 1 (nF ((resE x y z st why tr nx L)) 0)] <| cP Tryz.call46 (tdescs_ok b n A E RL vn (by omega)) h25 ?_
 rintro v K w26 (⟨p23, c24, rfl, rfl⟩) h27
 have h28 := ap2 h27
 refine go [rd 8 1 3 0 3 h28, rd 8 3 2 0 3 h28, .s 8 4] <| lwP (.bool false) (seq36_neq_t (x := (Operand.tmp 33)) (y := (Operand.tmp 35)) x y z r.out.1 r.out.2.1 r.out.2.2 (by kernel_rfl) (by kernel_rfl) (by kernel_rfl) ⟨(by omega), (by omega), (by omega)⟩ _) <| go [rd 8 7 3 7 1 h28, rd 8 9 2 7 1 h28, .s 8 10] <| lwP (.bool false) (law_neStr (t := 9) (x := (Operand.tmp 39)) (y := (Operand.tmp 41)) (a := L) (b := r.tag) (by kernel_rfl) (by kernel_rfl) (by kernel_rfl) false (decide_eq_true ht) _) <| go [rd 10 1 3 3 1 h28, .s 10 2] ?_
 by_cases c29 : st = 1
 ·
  refine go [.v 10 2 (nF st 1)] <| dw (fls [0, 1, 2, 3, 4, 5, 6, 7] (Tr.an 8 Tr.nil)) h28 fun w30 h31 => ?_
  obtain ⟨s32, m33, p34, c35, E36, hM37, h38⟩ := tab_open h31
  have hRl_ := hM37.2
  obtain ⟨b39, hp40⟩ := sl_ptr0 (j := 3) h38 rfl (by omega)
  refine go [rd 12 3 0 2 1 h38, .v 12 5 (oIr (vn - 1)), rd 12 6 6 0 8 h38, .s 12 7] <| lw (.pointer (some ⟨b39, q * 8, none⟩)) (fun _ => law_indexSlP (x := (Operand.tmp 56)) (i := (Operand.tmp 58)) (p := p34) (b := b39) (off := 0) (z := (vn - 1)) (len := RL.length) (cap := c35) (by kernel_rfl) Tryz.underlying69 8 (by kernel_rfl) q (by kernel_rfl) hp40 (by kernel_rfl) (by omega) (by omega) (q * 8) (by omega) _) ?_
  have h41 := tk8 (sf7 (sf6 (sf6 (sf6 (sf7 (sf7 (sf7 (sf7 h38))))))))
  refine actG ?_
  have hl44 := fl_n eRs_ok (by decide) h41
  refine an_storeSl (b := b39) [(q * 8, iV x), (q * 8 + 1, iV y), (q * 8 + 2, uV z), (q * 8 + 3, iV st), (q * 8 + 4, iV why), (q * 8 + 5, iV tr), (q * 8 + 6, iV nx), (q * 8 + 7, .string (St L))] (cs' := (fl eRs (RL.set q ⟨(x, y, z), st, why, tr, nx, L⟩))) (by kernel_rfl) (by kernel_rfl) hp40 (allq ⟨⟨by omega, rfl⟩, ⟨by omega, rfl⟩, ⟨by omega, rfl⟩, ⟨by omega, rfl⟩, ⟨by omega, rfl⟩, ⟨by omega, rfl⟩, ⟨by omega, rfl⟩, ⟨by omega, rfl⟩, trivial⟩) (by omega) (fl_upd eRs_ok (i := q) (x := r) (y := ⟨(x, y, z), st, why, tr, nx, L⟩) hr [(0, iV x), (1, iV y), (2, uV z), (3, iV st), (4, iV why), (5, iV tr), (6, iV nx), (7, .string (St L))] rfl rfl rfl) h41 ?_
  intro w42 h43
  refine ⟨kd [], nxN ?_⟩
  refine go [] ?_
  have h46 : sat g w42 [Tab b n A E (RL.set q ⟨(x, y, z), st, why, tr, nx, L⟩), Sl 25 3 p23 (((descs E vn).length)) c24 (fl eO (descs E vn)), Cl r16 [iV r.out.1, iV r.out.2.1, uV r.out.2.2, iV r.st, iV r.why, iV r.tr, iV r.nx, .string (St r.tag)] 40, Cl r10 [iV x, iV y, uV z, iV st, iV why, iV tr, iV nx, .string (St L)] 40, R] := tab_close hM37.1 (by simp only [List.length_append, List.length_set, List.length_cons, List.length_nil]; omega) (by simp only [List.length_append, List.length_set, List.length_cons, List.length_nil]) (tk8 (sf7 (sf7 (sf7 (sf4 (sf7 (sf7 (sf7 (sf7 h43)))))))))
  exact en (iV 0) [] ⟨_, _, rfl, ⟨rfl, rfl⟩, (tk2 (sf1 (sf4 h46)))⟩
 refine go [.v 10 2 (nT st 1), .v 10 6 (oF ((((descs E vn).length : Nat) : Int) > 0))] <| dw (fls [0, 1, 2, 3, 4, 5, 6, 7] (Tr.an 8 Tr.nil)) h28 fun w48 h49 => ?_
 obtain ⟨s50, m51, p52, c53, E54, hM55, h56⟩ := tab_open h49
 have hRl_ := hM55.2
 obtain ⟨b57, hp58⟩ := sl_ptr0 (j := 3) h56 rfl (by omega)
 refine go [rd 12 3 0 2 1 h56, .v 12 5 (oIr (vn - 1)), rd 12 6 6 0 8 h56, .s 12 7] <| lw (.pointer (some ⟨b57, q * 8, none⟩)) (fun _ => law_indexSlP (x := (Operand.tmp 56)) (i := (Operand.tmp 58)) (p := p52) (b := b57) (off := 0) (z := (vn - 1)) (len := RL.length) (cap := c53) (by kernel_rfl) Tryz.underlying69 8 (by kernel_rfl) q (by kernel_rfl) hp58 (by kernel_rfl) (by omega) (by omega) (q * 8) (by omega) _) ?_
 have h59 := tk8 (sf7 (sf6 (sf6 (sf6 (sf7 (sf7 (sf7 (sf7 h56))))))))
 refine actG ?_
 have hl62 := fl_n eRs_ok (by decide) h59
 refine an_storeSl (b := b57) [(q * 8, iV x), (q * 8 + 1, iV y), (q * 8 + 2, uV z), (q * 8 + 3, iV st), (q * 8 + 4, iV why), (q * 8 + 5, iV tr), (q * 8 + 6, iV nx), (q * 8 + 7, .string (St L))] (cs' := (fl eRs (RL.set q ⟨(x, y, z), st, why, tr, nx, L⟩))) (by kernel_rfl) (by kernel_rfl) hp58 (allq ⟨⟨by omega, rfl⟩, ⟨by omega, rfl⟩, ⟨by omega, rfl⟩, ⟨by omega, rfl⟩, ⟨by omega, rfl⟩, ⟨by omega, rfl⟩, ⟨by omega, rfl⟩, ⟨by omega, rfl⟩, trivial⟩) (by omega) (fl_upd eRs_ok (i := q) (x := r) (y := ⟨(x, y, z), st, why, tr, nx, L⟩) hr [(0, iV x), (1, iV y), (2, uV z), (3, iV st), (4, iV why), (5, iV tr), (6, iV nx), (7, .string (St L))] rfl rfl rfl) h59 ?_
 intro w60 h61
 refine ⟨kd [], nxN ?_⟩
 refine go [] ?_
 have h64 : sat g w60 [Tab b n A E (RL.set q ⟨(x, y, z), st, why, tr, nx, L⟩), Sl 25 3 p23 (((descs E vn).length)) c24 (fl eO (descs E vn)), Cl r16 [iV r.out.1, iV r.out.2.1, uV r.out.2.2, iV r.st, iV r.why, iV r.tr, iV r.nx, .string (St r.tag)] 40, Cl r10 [iV x, iV y, uV z, iV st, iV why, iV tr, iV nx, .string (St L)] 40, R] := tab_close hM55.1 (by simp only [List.length_append, List.length_set, List.length_cons, List.length_nil]; omega) (by simp only [List.length_append, List.length_set, List.length_cons, List.length_nil]) (tk8 (sf7 (sf7 (sf7 (sf4 (sf7 (sf7 (sf7 (sf7 h61)))))))))
 exact en (iV 0) [] ⟨_, _, rfl, ⟨rfl, rfl⟩, (tk2 (sf1 (sf4 h64)))⟩

end Go.Proofs.YtjjpmehiolejgaaGreat
