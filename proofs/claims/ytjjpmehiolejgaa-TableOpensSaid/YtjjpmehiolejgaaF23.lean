/- Walks, printed by my generator gen23.py. -/
import Derived.Test.YtjjpmehiolejgaaF25
import Derived.Test.YtjjpmehiolejgaaF8
import Derived.Test.YtjjpmehiolejgaaTabL
namespace Go.Proofs.Ytjjpmehiolejgaa
theorem live_form {n : Nat} {S : Ts} (W : Wf n S) {v : Int} (hv : 1 ≤ v ∧ v ≤ (S.R.length : Int)) (hs : (getR S v).st = 1) : ∃ (x y z : Int) (L : List UInt8), getR S v = ⟨(x, y, z), 1, 0, 0, 0, L⟩ ∧ (1 ≤ x ∧ x ≤ 3 ∧ 0 ≤ y ∧ y ≤ 63 ∧ 1 ≤ z) ∧ 0 ≤ z ∧ z ≤ 4294967295 ∧ tagE L = 0 ∧ L.length ≤ 96 := by
  have h := live_res W hv hs
  have hg := W.og _ (List.mem_of_getElem? (getR_at hv))
  generalize getR S v = r at *
  obtain ⟨⟨x, y, z⟩, st, why, tr, nx, L⟩ := r
  simp only at hs h hg
  obtain ⟨h1, h2, h3, h4, h5, h6⟩ := h
  subst hs; subst h2; subst h3; subst h4
  exact ⟨x, y, z, L, rfl, h1, by omega, hg, h5, h6⟩
theorem lcl_no {S : Ts} {d : Ky} (h : clsL S d = false) : clsS S d = lclS S d := by
  unfold lclS
  rw [if_neg (by rw [h]; decide)]
theorem lcl_yes {S : Ts} {d : Ky} (h : clsL S d = true) : lvS (clsS S d) (fndX S d).num = lclS S d := by
  unfold lclS
  rw [if_pos h]
set_option maxHeartbeats 4000000 in
theorem live_w (b n : Nat) (S : Ts) : HT Try.prog 24 [Value.pointer (some ⟨b, 0, none⟩)] [TW b n S] (fun v K => ∃ (p : Option Addr) (c : Nat), v = Value.slice p (((liveL S.E).length)) c ∧ K = [TW b n S, Sl 28 3 p (((liveL S.E).length)) c (fl eO (liveL S.E))]) := by
 refine hi_in 23 ([(0, pV b)] : Fr) Try.func24 (by kernel_rfl) Try.ntmps24 rfl rfl ?_
 intro g w0 R h0
 refine ySq ?_
 refine yPl [0] ?_
 refine yB0 [] [0] [(2, .slice none 0 0)] (.mk ?_)
 refine yK [(0, pV b)] fun lr1 => ?_
 refine ySq ?_
 refine yPl [0] ?_
 refine yB0 [] [0] [(3, .slice none 0 0)] (.mk ?_)
 refine yK [(0, pV b), (3, .slice none 0 0)] fun lr2 => ?_
 refine ySq ?_
 refine ySq ?_
 refine yPl [0] ?_
 refine yB0 [] [0] [(4, iV 0)] (.mk ?_)
 refine yK [(0, pV b), (3, .slice none 0 0), (4, iV 0)] fun lr3 => ?_
 refine yBk 0 ?_
 have h4 : sat g w0 [Sl 28 3 none 0 0 (fl eO []), TW b n S, R] := sl_nil 28 3 h0
 refine gi_lp (x := CA Try.f24 [1, 1, 0, 1, 0, 0]) (by kernel_rfl) (fun mz_ a w => ∃ k : Nat, ∃ p2 : Option Addr, ∃ m2 : Nat, ∃ c2 : Nat, ∃ lr : Fr, mz_ = 256 - k ∧ (k ≤ 256) ∧ (m2 ≤ k) ∧ a = mk 23 (([(0, pV b), (3, .slice p2 m2 c2), (4, iV (k : Int))] : Fr) ++ lr) ∧ sat g w [Sl 28 3 p2 m2 c2 (fl eO (liveT S.E k)), TW b n S, R]) (256 - 0) ⟨0, none, 0, 0, _, rfl, (Nat.zero_le _), (Nat.le_refl _), (mk_live [(0, pV b), (3, .slice none 0 0), (4, iV (0 : Int))] ⟨rfl, rfl, (ov_int (by omega)), trivial⟩), h4⟩ ?_
 rintro m6 a7 w8 ⟨k, p2, m2, c2, lr5, rfl, hk, hm2, rfl, h9⟩
 refine ySq ?_
 refine ySq ?_
 refine yPl [0, 1] ?_
 refine yB0 [1] [0] [(7, iV (k : Int))] ?_
 by_cases c10 : (k : Int) < 256
 ·
  refine yBb [] [(8, .bool true)] [e1 1 (.bool true)] [] [(.bool (decide ((k : Int) < 256)), .bool true)] ⟨(ov_t (by omega)), trivial⟩ nC (.mk ?_)
  refine yK [(0, pV b), (3, .slice p2 m2 c2), (4, iV (k : Int)), (8, .bool true)] fun lr11 => ?_
  refine yCt ?_
  refine ySk ?_
  refine ySq ?_
  refine yBk 1 ?_
  refine ySq ?_
  refine yPl [0, 1, 2, 3, 4, 5, 6, 7, 8] ?_
  refine yB0 [2, 3, 4, 5, 6, 7, 8] [0, 1] [(13, iV (k : Int)), (12, pV b)] ?_
  rcases hg13 : gget S.E (k : Int) with _ | e12
  ·
   have h14 := tk3 (sf2 (sf1 (sf2 h9)))
   refine yA ?_
   refine yCl 14 Try.call34 ((by have h_ := tat_w b n S (k : Int); unfold atX at h_; rw [hg13] at h_; exact h_)) h14 ?_
   rintro v K w15 (⟨rfl, rfl⟩) h16
   refine ⟨_, rfl, ?_⟩
   have h17 := ap1 h16
   refine yB0 [6, 7, 8] [3, 4, 5] [(16, .bool false), (15, .agg #[iV 0, iV 0, uV 0]), (11, .tuple #[.agg #[iV 0, iV 0, uV 0], .bool false])] ?_
   refine yA ?_
   refine yNp 5 28 [iV 0, iV 0, uV 0] h17 fun r18 w19 h20 => ?_
   refine yA ?_
   refine yS [(0, iV 0), (1, iV 0), (2, uV 0)] [iV 0, iV 0, uV 0] h20 fun w21 h22 => ?_
   refine yB0 [] [8] [(6, .bool false)] (.mk ?_)
   refine yK [(0, pV b), (3, .slice p2 m2 c2), (4, iV (k : Int)), (5, pV r18), (6, .bool false)] fun lr23 => ?_
   refine ySq ?_
   refine yPl [0] ?_
   refine yB0 [] [0] [(17, .bool false)] (.mk ?_)
   refine yK [(0, pV b), (3, .slice p2 m2 c2), (4, iV (k : Int)), (5, pV r18), (17, .bool false)] fun lr24 => ?_
   refine yCf ?_
   refine ySk ?_
   refine yPl [0, 1, 2] ?_
   refine yBb [] [(4, iV ((k : Int) + 1)), (10, iV ((k : Int) + 1)), (9, iV (k : Int))] [e0 0, e1 1 (iV ((k : Int) + 1)), e0 2] [] [(iV (IntKind.wrap .i64 ((k : Int) + 1)), iV ((k : Int) + 1))] ⟨(ov_i64 (by omega) (by omega) (by omega)), trivial⟩ nC (.mk ?_)
   have h25 := tk4 (sf3 (sf2 (sf2 (sf3 h22))))
   have h26 : sat g w21 [Sl 28 3 p2 m2 c2 (fl eO (liveT S.E (k + 1))), Cl r18 [iV 0, iV 0, uV 0] 28, TW b n S, R] := sat_imp h25 (fun _ hh_ => by rw [show ((liveT S.E k) : List Ky) = (liveT S.E (k + 1)) from liveT_no hg13] at hh_; exact hh_)
   have h27 := tk4 (sf3 (sf3 (sf3 (sf1 h26))))
   have h28 := tk3 h27
   change ∃ n', n' < _ ∧ _
   refine ⟨(256 - (k + 1)), by omega, (k + 1), p2, m2, c2, _, rfl, (by omega), (by omega), (mk_live [(0, pV b), (3, .slice p2 m2 c2), (4, iV ((((k + 1) : Nat) : Int)))] ⟨rfl, rfl, (ov_int (by omega)), trivial⟩), h28⟩
  ·
   have h29 := tk3 (sf2 (sf1 (sf2 h9)))
   refine yA ?_
   refine yCl 14 Try.call34 ((by have h_ := tat_w b n S (k : Int); unfold atX at h_; rw [hg13] at h_; exact h_)) h29 ?_
   rintro v K w30 (⟨rfl, rfl⟩) h31
   refine ⟨_, rfl, ?_⟩
   have h32 := ap1 h31
   refine yB0 [6, 7, 8] [3, 4, 5] [(16, .bool true), (15, .agg #[iV e12.d.1, iV e12.d.2.1, uV e12.d.2.2]), (11, .tuple #[.agg #[iV e12.d.1, iV e12.d.2.1, uV e12.d.2.2], .bool true])] ?_
   refine yA ?_
   refine yNp 5 28 [iV 0, iV 0, uV 0] h32 fun r33 w34 h35 => ?_
   refine yA ?_
   refine yS [(0, iV e12.d.1), (1, iV e12.d.2.1), (2, uV e12.d.2.2)] [iV e12.d.1, iV e12.d.2.1, uV e12.d.2.2] h35 fun w36 h37 => ?_
   refine yB0 [] [8] [(6, .bool true)] (.mk ?_)
   refine yK [(0, pV b), (3, .slice p2 m2 c2), (4, iV (k : Int)), (5, pV r33), (6, .bool true)] fun lr38 => ?_
   refine ySq ?_
   refine yPl [0] ?_
   refine yB0 [] [0] [(17, .bool true)] (.mk ?_)
   refine yK [(0, pV b), (3, .slice p2 m2 c2), (4, iV (k : Int)), (5, pV r33), (17, .bool true)] fun lr39 => ?_
   refine yCt ?_
   refine yPl [0, 1, 2, 3, 4] ?_
   refine yBb [2, 3, 4] [(19, .agg #[iV e12.d.1, iV e12.d.2.1, uV e12.d.2.2]), (18, .slice p2 m2 c2)] [e0 0, e2 1 [iV e12.d.1, iV e12.d.2.1, uV e12.d.2.2]] [(1, ⟨r33, 0, none⟩, iV e12.d.1), (1, ⟨r33, 1, none⟩, iV e12.d.2.1), (1, ⟨r33, 2, none⟩, uV e12.d.2.2)] [] trivial (kC (sat_cell h37 0 rfl rfl) (kC (sat_cell h37 0 rfl rfl) (kC (sat_cell h37 0 rfl rfl) nC))) ?_
   refine yA ?_
   refine an_new (d := 20) (fun xb_ => .slice (some ⟨xb_, 0, none⟩) 1 1) (fun xb_ => Obj.cells [iV e12.d.1, iV e12.d.2.1, uV e12.d.2.2].toArray 28 (0, 0)) (fun xb_ => by kernel_rfl) (by kernel_rfl) rfl h37 ?_
   intro r40 w41 (h42 : sat g w41 [Cl r40 [iV e12.d.1, iV e12.d.2.1, uV e12.d.2.2] 28, Cl r33 [iV e12.d.1, iV e12.d.2.1, uV e12.d.2.2] 28, TW b n S, Sl 28 3 p2 m2 c2 (fl eO (liveT S.E k)), R])
   have h43 := tk5 (sf4 (sf3 (sf3 (sf3 (sf4 h42)))))
   refine yA ?_
   refine an_append (d := 21) (sz := 3) (s := (Operand.tmp 18)) (x := (Operand.tmp 20)) (z := .agg #[iV 0, iV 0, uV 0]) (p := p2) (m := m2) (c := c2) (k := 1) (c2 := 1) (a := ⟨r40, 0, none⟩) (by_ := 24) (by kernel_rfl) (by kernel_rfl) rfl Try.underlying45 (by kernel_rfl) rfl (by decide) (by kernel_rfl) (by kernel_rfl) h43 (fl eO [(e12.d.1, e12.d.2.1, e12.d.2.2)]) rfl (fun j u hj => by rw [add_off]; exact sat_cell h43 1 rfl (by rw [Nat.zero_add]; exact hj)) (fl_one eO_ok _) (by omega) (by omega) (m2 + 1) (by omega) ?_
   intro p44 cap45 w46 h47
   have h48 : sat g w46 [Sl 28 3 p44 (m2 + 1) cap45 (fl eO ((liveT S.E k) ++ [(e12.d.1, e12.d.2.1, e12.d.2.2)])), Cl r40 [iV e12.d.1, iV e12.d.2.1, uV e12.d.2.2] 28, Cl r33 [iV e12.d.1, iV e12.d.2.1, uV e12.d.2.2] 28, TW b n S, R] := sat_imp h47 (fun _ hh => by rw [fl_app]; exact hh)
   obtain ⟨hn49, hn50⟩ := sl_le h48
   refine yB0 [] [4] [(3, .slice p44 (m2 + 1) cap45)] (.mk ?_)
   refine yK [(0, pV b), (3, .slice p44 (m2 + 1) cap45), (4, iV (k : Int))] fun lr51 => ?_
   refine yPl [0, 1, 2] ?_
   refine yBb [] [(4, iV ((k : Int) + 1)), (10, iV ((k : Int) + 1)), (9, iV (k : Int))] [e0 0, e1 1 (iV ((k : Int) + 1)), e0 2] [] [(iV (IntKind.wrap .i64 ((k : Int) + 1)), iV ((k : Int) + 1))] ⟨(ov_i64 (by omega) (by omega) (by omega)), trivial⟩ nC (.mk ?_)
   have h52 : sat g w46 [Sl 28 3 p44 (m2 + 1) cap45 (fl eO (liveT S.E (k + 1))), Cl r40 [iV e12.d.1, iV e12.d.2.1, uV e12.d.2.2] 28, Cl r33 [iV e12.d.1, iV e12.d.2.1, uV e12.d.2.2] 28, TW b n S, R] := sat_imp h48 (fun _ hh_ => by rw [show (((liveT S.E k) ++ [(e12.d.1, e12.d.2.1, e12.d.2.2)]) : List Ky) = (liveT S.E (k + 1)) from liveT_go hg13] at hh_; exact hh_)
   have h53 := tk5 (sf4 (sf4 (sf4 (sf2 (sf2 h52)))))
   have h54 := tk3 h53
   change ∃ n', n' < _ ∧ _
   refine ⟨(256 - (k + 1)), by omega, (k + 1), p44, m2 + 1, cap45, _, rfl, (by omega), (by omega), (mk_live [(0, pV b), (3, .slice p44 (m2 + 1) cap45), (4, iV ((((k + 1) : Nat) : Int)))] ⟨rfl, rfl, (ov_int (by omega)), trivial⟩), h54⟩
 ·
  refine yBb [] [(8, .bool false)] [e1 1 (.bool false)] [] [(.bool (decide ((k : Int) < 256)), .bool false)] ⟨(ov_f (by omega)), trivial⟩ nC (.mk ?_)
  refine yK [(0, pV b), (3, .slice p2 m2 c2), (4, iV (k : Int)), (8, .bool false)] fun lr55 => ?_
  refine yCf ?_
  refine yEx 0 ?_
  refine ySq ?_
  refine yPl [0, 1] ?_
  refine yB0 [] [0, 1] [(2, .slice p2 m2 c2), (22, .slice p2 m2 c2)] (.mk ?_)
  refine yK [(2, .slice p2 m2 c2)] fun lr56 => ?_
  refine yRt ?_
  repeat (first | simp only [Exit.inBlock] | simp only [Exit.then])
  have h57 : sat g w8 [Sl 28 3 p2 m2 c2 (fl eO (liveL S.E)), TW b n S, R] := sat_imp h9 (fun _ hh_ => by rw [show ((liveT S.E k) : List Ky) = (liveL S.E) from (by rw [show k = 256 from by omega]; rfl)] at hh_; exact hh_)
  have hl58 := fl_n eO_ok (by decide) h57
  have h59 : sat g w8 [Sl 28 3 p2 (((liveL S.E).length)) c2 (fl eO (liveL S.E)), TW b n S, R] := sat_imp h57 (fun _ hh_ => by rw [hl58]; exact hh_)
  have h60 := tk3 (sf2 (sf1 (sf2 h59)))
  refine hi_out [] (.slice p2 m2 c2) [] (by kernel_rfl) (by intro q hq; cases hq) ?_
  exact ⟨.slice p2 m2 c2, [TW b n S, Sl 28 3 p2 (((liveL S.E).length)) c2 (fl eO (liveL S.E))], rfl, ⟨p2, c2, by rw [hl58], rfl⟩, h60⟩

set_option maxHeartbeats 4000000 in
theorem leave_w (b n : Nat) (S : Ts) (vn : Int) (hv : 1 ≤ vn ∧ vn ≤ (S.R.length : Int)) (hs : (getR S vn).st = 1) (hd : (descs S.E vn).length = 0) : HT Try.prog 46 [Value.pointer (some ⟨b, 0, none⟩), Value.int IntKind.i64 vn] [TW b n S] (fun v K => v = Value.tuple #[] ∧ K = [TW b n (lvS S vn)]) := by
 refine hi_in 24 ([(0, pV b), (1, iV vn)] : Fr) Try.func46 (by kernel_rfl) Try.ntmps46 rfl rfl ?_
 intro g w0 R h0
 have hW_ := (wi_out h0).1
 obtain ⟨x, y, z, L, hr_, ho_, hz0_, hz1_, ht_, hl_⟩ := live_form hW_ hv hs
 refine ySq ?_
 refine yPl [0, 1, 2, 3, 4, 5, 6, 7, 8] ?_
 refine yB0 [2, 3, 4, 5, 6, 7, 8] [0, 1] [(9, iV vn), (8, pV b)] ?_
 refine yA ?_
 refine yCl 10 Try.call20 ((by have h_ := tget_w b n S vn; unfold nE at h_; rw [if_pos hv, hr_] at h_; exact h_)) h0 ?_
 rintro v K w1 (⟨rfl, rfl⟩) h2
 refine ⟨_, rfl, ?_⟩
 have h3 := ap1 h2
 refine yB0 [6, 7, 8] [3, 4, 5] [(12, iV 0), (11, .agg #[iV x, iV y, uV z, iV 1, iV 0, iV 0, iV 0, .string (St L)]), (7, .tuple #[.agg #[iV x, iV y, uV z, iV 1, iV 0, iV 0, iV 0, .string (St L)], iV 0])] ?_
 refine yA ?_
 refine yNp 4 42 [iV 0, iV 0, uV 0, iV 0, iV 0, iV 0, iV 0, .string (St [])] h3 fun r4 w5 h6 => ?_
 refine yA ?_
 refine yS [(0, iV x), (1, iV y), (2, uV z), (3, iV 1), (4, iV 0), (5, iV 0), (6, iV 0), (7, .string (St L))] [iV x, iV y, uV z, iV 1, iV 0, iV 0, iV 0, .string (St L)] h6 fun w7 h8 => ?_
 refine yB0 [] [8] [(5, iV 0)] (.mk ?_)
 refine yK [(0, pV b), (1, iV vn), (4, pV r4)] fun lr9 => ?_
 refine ySq ?_
 refine yPl [0, 1, 2, 3, 4, 5, 6] ?_
 refine yBb [1, 2, 3, 4, 5, 6] [(14, .agg #[iV x, iV y, uV z, iV 1, iV 0, iV 0, iV 0, .string (St L)])] [e2 0 [iV x, iV y, uV z, iV 1, iV 0, iV 0, iV 0, .string (St L)]] [(0, ⟨r4, 0, none⟩, iV x), (0, ⟨r4, 1, none⟩, iV y), (0, ⟨r4, 2, none⟩, uV z), (0, ⟨r4, 3, none⟩, iV 1), (0, ⟨r4, 4, none⟩, iV 0), (0, ⟨r4, 5, none⟩, iV 0), (0, ⟨r4, 6, none⟩, iV 0), (0, ⟨r4, 7, none⟩, .string (St L))] [] trivial (kC (sat_cell h8 0 rfl rfl) (kC (sat_cell h8 0 rfl rfl) (kC (sat_cell h8 0 rfl rfl) (kC (sat_cell h8 0 rfl rfl) (kC (sat_cell h8 0 rfl rfl) (kC (sat_cell h8 0 rfl rfl) (kC (sat_cell h8 0 rfl rfl) (kC (sat_cell h8 0 rfl rfl) nC)))))))) ?_
 refine yA ?_
 refine yCl 15 Try.call61 (rclose_ok x y z L (by omega) (by omega) (by omega) (by omega) (by omega)) h8 ?_
 rintro v K w10 (⟨rfl, rfl⟩) h11
 refine ⟨_, rfl, ?_⟩
 have h12 := ap0 h11
 refine yB0 [5, 6] [2, 3, 4] [(17, iV 0), (16, .agg #[iV x, iV y, uV z, iV 2, iV 1, iV 0, iV 0, .string (St L)]), (13, .tuple #[.agg #[iV x, iV y, uV z, iV 2, iV 1, iV 0, iV 0, .string (St L)], iV 0])] ?_
 refine yA ?_
 refine yS [(0, iV x), (1, iV y), (2, uV z), (3, iV 2), (4, iV 1), (5, iV 0), (6, iV 0), (7, .string (St L))] [iV x, iV y, uV z, iV 2, iV 1, iV 0, iV 0, .string (St L)] h12 fun w13 h14 => ?_
 refine yB0 [] [6] [(6, iV 0)] (.mk ?_)
 refine yK [(0, pV b), (1, iV vn), (4, pV r4), (6, iV 0)] fun lr15 => ?_
 refine ySq ?_
 refine yPl [0, 1] ?_
 refine yB0 [] [0, 1] [(19, .bool true), (18, iV 0)] (.mk ?_)
 refine yK [(0, pV b), (1, iV vn), (4, pV r4), (19, .bool true)] fun lr16 => ?_
 refine yCt ?_
 refine yPl [0, 1, 2, 3] ?_
 refine yBb [3] [(22, .agg #[iV x, iV y, uV z, iV 2, iV 1, iV 0, iV 0, .string (St L)]), (21, iV vn), (20, pV b)] [e0 0, e0 1, e2 2 [iV x, iV y, uV z, iV 2, iV 1, iV 0, iV 0, .string (St L)]] [(2, ⟨r4, 0, none⟩, iV x), (2, ⟨r4, 1, none⟩, iV y), (2, ⟨r4, 2, none⟩, uV z), (2, ⟨r4, 3, none⟩, iV 2), (2, ⟨r4, 4, none⟩, iV 1), (2, ⟨r4, 5, none⟩, iV 0), (2, ⟨r4, 6, none⟩, iV 0), (2, ⟨r4, 7, none⟩, .string (St L))] [] trivial (kC (sat_cell h14 0 rfl rfl) (kC (sat_cell h14 0 rfl rfl) (kC (sat_cell h14 0 rfl rfl) (kC (sat_cell h14 0 rfl rfl) (kC (sat_cell h14 0 rfl rfl) (kC (sat_cell h14 0 rfl rfl) (kC (sat_cell h14 0 rfl rfl) (kC (sat_cell h14 0 rfl rfl) nC)))))))) ?_
 have h17 := tk3 (sf2 (sf1 (sf2 h14)))
 refine yA ?_
 refine yCl 23 Try.call17 (tset_w b n S vn x y z 2 1 0 0 L (by omega) (by omega) (by omega)) h17 ?_
 rintro v K w18 (⟨rfl, rfl⟩) h19
 refine ⟨_, rfl, ?_⟩
 have h20 := ap1 h19
 refine PO.mk ?_
 repeat (first | simp only [Exit.inBlock] | simp only [Exit.then])
 have h21 : sat g w18 [TW b n (lvS S vn), Cl r4 [iV x, iV y, uV z, iV 2, iV 1, iV 0, iV 0, .string (St L)] 42, R] := (show (setS S vn ⟨(x, y, z), 2, 1, 0, 0, L⟩) = (lvS S vn) from by have h_ := (lv_set hW_ hv hs hd).2; rw [hr_] at h_; exact h_) ▸ h20
 have h22 := tk2 (sf1 (sf2 h21))
 refine hi_outn [] (.tuple #[]) [] (by kernel_rfl) (by intro q hq; cases hq) ?_
 exact ⟨.tuple #[], [TW b n (lvS S vn)], rfl, ⟨rfl, rfl⟩, h22⟩

set_option maxHeartbeats 4000000 in
theorem lclose_w (b n : Nat) (S : Ts) (x y z : Int) (hz0 : 0 ≤ z) (hz1 : z ≤ 4294967295) : HT Try.prog 32 [Value.pointer (some ⟨b, 0, none⟩), Value.agg #[Value.int IntKind.i64 x, Value.int IntKind.i64 y, Value.int IntKind.u32 z]] [TW b n S] (fun v K => v = Value.tuple #[] ∧ K = [TW b n (lclS S (x, y, z))]) := by
 refine hi_in 22 ([(0, pV b), (1, .agg #[iV x, iV y, uV z])] : Fr) Try.func32 (by kernel_rfl) Try.ntmps32 rfl rfl ?_
 intro g w0 R h0
 have hW_ := (wi_out h0).1
 refine ySq ?_
 refine yPl [0] ?_
 refine yA ?_
 refine yNp 3 28 [iV x, iV y, uV z] h0 fun r1 w2 h3 => ?_
 refine PO.mk ?_
 refine yK [(0, pV b), (3, pV r1)] fun lr4 => ?_
 refine ySq ?_
 refine yPl [0, 1, 2, 3, 4, 5, 6, 7, 8, 9] ?_
 refine yBb [2, 3, 4, 5, 6, 7, 8, 9] [(9, .agg #[iV x, iV y, uV z]), (8, pV b)] [e0 0, e2 1 [iV x, iV y, uV z]] [(1, ⟨r1, 0, none⟩, iV x), (1, ⟨r1, 1, none⟩, iV y), (1, ⟨r1, 2, none⟩, uV z)] [] trivial (kC (sat_cell h3 0 rfl rfl) (kC (sat_cell h3 0 rfl rfl) (kC (sat_cell h3 0 rfl rfl) nC))) ?_
 rcases Bool.eq_false_or_eq_true (clsL S (x, y, z)) with cb5 | cb5
 ·
  have hz6 := (clsL_ok cb5).1
  have h7 := tk3 (sf2 (sf1 (sf2 h3)))
  refine yA ?_
  refine yCl 10 Try.call15 ((by have h_ := tclose_w b n S x y z (by omega) (by omega); rw [cb5] at h_; exact h_)) h7 ?_
  rintro v K w8 (⟨rfl, rfl⟩) h9
  refine ⟨_, rfl, ?_⟩
  have h10 := ap1 h9
  refine yB0 [] [3, 4, 5, 6, 7, 8, 9] [(6, iV ((fndE S (x, y, z)))), (5, .bool true), (4, iV ((fndX S (x, y, z)).num)), (13, iV ((fndE S (x, y, z)))), (12, .bool true), (11, iV ((fndX S (x, y, z)).num)), (7, .tuple #[iV ((fndX S (x, y, z)).num), .bool true, iV ((fndE S (x, y, z)))])] (.mk ?_)
  refine yK [(0, pV b), (4, iV ((fndX S (x, y, z)).num)), (5, .bool true), (6, iV ((fndE S (x, y, z))))] fun lr11 => ?_
  refine ySq ?_
  refine yPl [0, 1, 2, 3, 4] ?_
  refine yBb [] [(18, .bool true), (17, .bool true), (16, .bool true), (15, .bool true), (14, iV ((fndE S (x, y, z))))] [e0 0, e1 1 (.bool true), e0 2, e0 3, e0 4] [] [(.bool (((fndE S (x, y, z))) == 0), .bool true)] ⟨(ov_et (by omega)), trivial⟩ nC (.mk ?_)
  refine yK [(0, pV b), (4, iV ((fndX S (x, y, z)).num)), (18, .bool true)] fun lr12 => ?_
  refine yCt ?_
  refine yPl [0, 1, 2] ?_
  refine yB0 [2] [0, 1] [(20, iV ((fndX S (x, y, z)).num)), (19, pV b)] ?_
  refine yA ?_
  refine yCl 21 Try.call46 (leave_w b n (clsS S (x, y, z)) ((fndX S (x, y, z)).num) (cls_live hW_ cb5).1 (cls_live hW_ cb5).2.1 (cls_live hW_ cb5).2.2) h10 ?_
  rintro v K w13 (⟨rfl, rfl⟩) h14
  refine ⟨_, rfl, ?_⟩
  have h15 := ap1 h14
  refine PO.mk ?_
  repeat (first | simp only [Exit.inBlock] | simp only [Exit.then])
  have h16 : sat g w13 [TW b n (lclS S (x, y, z)), Cl r1 [iV x, iV y, uV z] 28, R] := (show (lvS (clsS S (x, y, z)) ((fndX S (x, y, z)).num)) = (lclS S (x, y, z)) from lcl_yes cb5) ▸ h15
  have h17 := tk2 (sf1 (sf2 h16))
  refine hi_outn [] (.tuple #[]) [] (by kernel_rfl) (by intro q hq; cases hq) ?_
  exact ⟨.tuple #[], [TW b n (lclS S (x, y, z))], rfl, ⟨rfl, rfl⟩, h17⟩
 ·
  have h18 := tk3 (sf2 (sf1 (sf2 h3)))
  refine yA ?_
  refine yCl 10 Try.call15 ((by have h_ := tclose_w b n S x y z (by omega) (by omega); rw [cb5] at h_; exact h_)) h18 ?_
  rintro v K w19 (⟨rfl, rfl⟩) h20
  refine ⟨_, rfl, ?_⟩
  have h21 := ap1 h20
  refine yB0 [] [3, 4, 5, 6, 7, 8, 9] [(6, iV ((fndE S (x, y, z)))), (5, .bool false), (4, iV ((fndX S (x, y, z)).num)), (13, iV ((fndE S (x, y, z)))), (12, .bool false), (11, iV ((fndX S (x, y, z)).num)), (7, .tuple #[iV ((fndX S (x, y, z)).num), .bool false, iV ((fndE S (x, y, z)))])] (.mk ?_)
  refine yK [(0, pV b), (4, iV ((fndX S (x, y, z)).num)), (5, .bool false), (6, iV ((fndE S (x, y, z))))] fun lr22 => ?_
  refine ySq ?_
  refine yPl [0, 1, 2, 3, 4] ?_
  refine yB0 [1, 2, 3, 4] [0] [(14, iV ((fndE S (x, y, z))))] ?_
  by_cases c23 : (fndE S (x, y, z)) = 0
  ·
   refine yBb [] [(18, .bool false), (17, .bool false), (16, .bool true), (15, .bool true)] [e1 1 (.bool true), e0 2, e0 3, e0 4] [] [(.bool (((fndE S (x, y, z))) == 0), .bool true)] ⟨(ov_et (by omega)), trivial⟩ nC (.mk ?_)
   refine yK [(0, pV b), (4, iV ((fndX S (x, y, z)).num)), (18, .bool false)] fun lr24 => ?_
   refine yCf ?_
   refine ySk ?_
   repeat (first | simp only [Exit.inBlock] | simp only [Exit.then])
   have h25 : sat g w19 [TW b n (lclS S (x, y, z)), Cl r1 [iV x, iV y, uV z] 28, R] := (show (clsS S (x, y, z)) = (lclS S (x, y, z)) from lcl_no cb5) ▸ h21
   have h26 := tk2 (sf1 (sf2 h25))
   refine hi_outn [] (.tuple #[]) [] (by kernel_rfl) (by intro q hq; cases hq) ?_
   exact ⟨.tuple #[], [TW b n (lclS S (x, y, z))], rfl, ⟨rfl, rfl⟩, h26⟩
  ·
   refine yBb [] [(18, .bool false), (17, undef), (16, .bool false), (15, .bool false)] [e1 1 (.bool false), e0 2, e0 3, e0 4] [] [(.bool (((fndE S (x, y, z))) == 0), .bool false)] ⟨(ov_ef (by omega)), trivial⟩ nC (.mk ?_)
   refine yK [(0, pV b), (4, iV ((fndX S (x, y, z)).num)), (18, .bool false)] fun lr27 => ?_
   refine yCf ?_
   refine ySk ?_
   repeat (first | simp only [Exit.inBlock] | simp only [Exit.then])
   have h28 : sat g w19 [TW b n (lclS S (x, y, z)), Cl r1 [iV x, iV y, uV z] 28, R] := (show (clsS S (x, y, z)) = (lclS S (x, y, z)) from lcl_no cb5) ▸ h21
   have h29 := tk2 (sf1 (sf2 h28))
   refine hi_outn [] (.tuple #[]) [] (by kernel_rfl) (by intro q hq; cases hq) ?_
   exact ⟨.tuple #[], [TW b n (lclS S (x, y, z))], rfl, ⟨rfl, rfl⟩, h29⟩

end Go.Proofs.Ytjjpmehiolejgaa
