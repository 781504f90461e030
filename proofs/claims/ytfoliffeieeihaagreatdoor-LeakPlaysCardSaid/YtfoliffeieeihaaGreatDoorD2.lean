/- Walks, printed by my generator ../tabz/z2.py. -/
import Derived.Test.YtfoliffeieeihaaGreatDoorD1
namespace Go.Proofs.YtfoliffeieeihaaGreatDoor
def eN (x : Nat) : List Value := [.int .i64 (x : Int)]
theorem eN_ok : Enc 1 eN := ⟨fun _ => rfl, fun x v hv => by simp [eN] at hv; subst hv; rfl⟩
theorem rn_step {L : List UInt8} {f p : Nat} {acc : List Nat} (hr : rnD L L.length 0 = (rnD L f p).map (acc ++ ·)) (h : p < L.length) (hf : L.length ≤ p + f) (hb : (runeD L p).2 ≠ 0) : rnD L L.length 0 = (rnD L (f - 1) (p + (runeD L p).2)).map (acc ++ [(runeD L p).1] ++ ·) := by
  rw [hr, rn_go h hf hb]
  cases rnD L (f - 1) (p + (runeD L p).2) with
  | none => rfl
  | some l => exact congrArg some (by simp)
theorem rn_fin {L : List UInt8} {f p : Nat} {acc : List Nat} (hr : rnD L L.length 0 = (rnD L f p).map (acc ++ ·)) (h : L.length ≤ p) : rnD L L.length 0 = some acc := by
  rw [hr, rn_end h]
  exact congrArg some (List.append_nil _)
theorem rn_no {L : List UInt8} {f p : Nat} {acc : List Nat} (hr : rnD L L.length 0 = (rnD L f p).map (acc ++ ·)) (h : p < L.length) (hf : L.length ≤ p + f) (hb : (runeD L p).2 = 0) : rnD L L.length 0 = none := by
  rw [hr, rn_bad h hf hb]
  rfl
set_option maxHeartbeats 4000000 in
theorem runes_ht (L : List UInt8) (hm : L.length ≤ 100000) : HT Tryz.prog 57 [.string (St L)] [] (fun v K => (∃ (l : List Nat) (p : Option Addr) (c : Nat), rnD L L.length 0 = some l ∧ v = .tuple #[.slice p l.length c, .bool true] ∧ K = [Sl 3 1 p l.length c (fl eN l)]) ∨ (rnD L L.length 0 = none ∧ v = .tuple #[.slice none 0 0, .bool false] ∧ K = [])) := by
 refine hiS Tryz.func57 Tryz.ntmps57 fun g w0 R h0 => go [] ?_
 have h10 : sat g w0 [Sl 3 1 none 0 0 (fl eN []), R] := sl_nil 3 1 h0
 refine lpS (fun mz_ a w => ∃ p : Nat, ∃ f : Nat, ∃ acc : List Nat, ∃ p2 : Option Addr, ∃ m2 : Nat, ∃ c2 : Nat, ∃ lr : Fr, mz_ = L.length - p ∧ (p ≤ L.length + 4) ∧ (L.length ≤ p + f) ∧ (rnD L L.length 0 = (rnD L f p).map (acc ++ ·)) ∧ (m2 ≤ p) ∧ a = mk 28 (([(0, .string (St L)), (4, .slice p2 m2 c2), (5, iV (p : Int))] : Fr) ++ lr) ∧ sat g w [Sl 3 1 p2 m2 c2 (fl eN acc), R]) (L.length - 0) ⟨0, L.length, [], none, 0, 0, _, rfl, (by omega), (by omega), (by cases rnD L L.length 0 <;> rfl), (by omega), (lvF [.k 0 (.string (St L)), .k 4 (.slice none 0 0), .o 5 (oJ .i64 0 (0 : Int))]), h10⟩ ?_
 rintro m12 a13 w14 ⟨p, f, acc, p2, m2, c2, lr11, rfl, hp_, hf_, hr_, hm2, rfl, h15⟩
 refine ga <| go [.v 3 2 (⟨iV ((St L).size : Int), iV (((L.length : Nat) : Int)), (ov_int (st_len _))⟩), .s 3 3] ?_
 by_cases c16 : (p : Int) < ((L.length : Nat) : Int)
 ·
  have hb17 := dec_wd L p
  refine go [.v 3 3 (oT ((p : Int) < ((L.length : Nat) : Int)))] <| cl0 Tryz.call72 (rune_ht L p (by omega) (by omega)) h15 fun _ h19 => go [.s 5 1] ?_
  by_cases c20 : (((runeD L p).2 : Nat) : Int) = 0
  ·
   refine go [.v 5 1 (qeT ((((runeD L p).2 : Nat) : Int)) 0)] <| up <| go [] ?_
   exact en (.tuple #[.slice none 0 0, .bool false]) [] ⟨_, _, rfl, .inr ⟨rn_no hr_ (by omega) (by omega) (by omega), rfl, rfl⟩, (tk1 (sf1 h19))⟩
  refine go [.v 5 1 (qeF ((((runeD L p).2 : Nat) : Int)) 0)] <| nG (fun q_ => .slice (some ⟨q_, 0, none⟩) 1 1) 3 [iV ((((runeD L p).1 : Nat) : Int))] h19 (fun r22 _ h24 => ⟨kd [], ?_⟩)
  have h25 := tk3 (sf2 (sf1 (sf2 h24)))
  refine actG ?_
  refine an_append (d := 23) (sz := 1) (s := (Operand.tmp 20)) (x := (Operand.tmp 22)) (z := iV 0) (p := p2) (m := m2) (c := c2) (k := 1) (c2 := 1) (a := ⟨r22, 0, none⟩) (by_ := 8) (by kernel_rfl) (by kernel_rfl) rfl Tryz.underlying95 (by kernel_rfl) rfl (by decide) (by kernel_rfl) (by kernel_rfl) h25 (fl eN [((runeD L p).1)]) rfl (fun j u hj => by rw [add_off]; exact sat_cell h25 1 rfl (by rw [Nat.zero_add]; exact hj)) (fl_one eN_ok _) (by omega) (by omega) (m2 + 1) (by omega) ?_
  intro p26 cap27 w28 h29
  have h30 : sat g w28 [Sl 3 1 p26 (m2 + 1) cap27 (fl eN (acc ++ [((runeD L p).1)])), Cl r22 [iV ((((runeD L p).1 : Nat) : Int))] 3, R] := sat_imp h29 (fun _ hh => by rw [fl_app]; exact hh)
  obtain ⟨hn31, hn32⟩ := sl_le h30
  refine nxA <| go [.v 8 2 (oIr ((p : Int) + ((((runeD L p).2 : Nat) : Int))))] ?_
  refine enL ?_
  have h34 := tk2 (tk3 (sf2 (sf2 (sf1 h30))))
  change ∃ n', n' < _ ∧ _
  refine ⟨(L.length - (p + ((runeD L p).2))), by omega, p + ((runeD L p).2), (f - 1), (acc ++ [((runeD L p).1)]), p26, m2 + 1, cap27, _, rfl, (by omega), (by omega), (rn_step hr_ (by omega) (by omega) (by omega)), (by omega), (lvF [.k 0 (.string (St L)), .k 4 (.slice p26 (m2 + 1) cap27), .o 5 (oJ .i64 ((p : Int) + (((runeD L p).2 : Nat) : Int)) ((((p + ((runeD L p).2)) : Nat) : Int)))]), h34⟩
 refine go [.v 3 3 (oF ((p : Int) < ((L.length : Nat) : Int)))] <| up <| go [] ?_
 have hl35 := fl_n eN_ok (by decide) h15
 have h36 : sat g w14 [Sl 3 1 p2 acc.length c2 (fl eN acc), R] := sat_imp h15 (fun _ hh_ => by rw [hl35]; exact hh_)
 exact en (.tuple #[.slice p2 m2 c2, .bool true]) [] ⟨_, _, rfl, .inl ⟨acc, p2, c2, rn_fin hr_ (by omega), by rw [hl35], rfl⟩, h36⟩

theorem dt_none {L : List UInt8} (h : rnD L L.length 0 = none) : tagE L = 16 := by
  rw [← tagD_eq]
  unfold tagD
  rw [h]
theorem dt_len {L : List UInt8} {l : List Nat} (h : rnD L L.length 0 = some l) (hl : l.length < 1 ∨ 24 < l.length) : tagE L = 16 := by
  rw [← tagD_eq]
  unfold tagD
  rw [h]
  exact if_pos hl
theorem dt_bad {L : List UInt8} {l : List Nat} {k x : Nat} (h : rnD L L.length 0 = some l) (hx : l[k]? = some x) (hb : x < 32 ∨ x = 127) : tagE L = 16 := by
  rw [← tagD_eq]
  unfold tagD
  rw [h]
  have ha : l.any badC = true := List.any_eq_true.2 ⟨x, List.mem_of_getElem? hx, decide_eq_true hb⟩
  simp only [ha, if_true]
  split <;> rfl
theorem dt_ok {L : List UInt8} {l : List Nat} {k : Nat} (h : rnD L L.length 0 = some l) (hl : ¬ (l.length < 1 ∨ 24 < l.length)) (hk : l.length ≤ k) (hb : (l.take k).any badC = false) : tagE L = 0 := by
  rw [← tagD_eq]
  unfold tagD
  rw [h]
  rw [List.take_of_length_le hk] at hb
  simp only [hb, if_neg hl]
  rfl
theorem bd_step {l : List Nat} {k x : Nat} (hb : (l.take k).any badC = false) (hx : l[k]? = some x) (hn : ¬ (x < 32 ∨ x = 127)) : (l.take (k + 1)).any badC = false := by
  rw [List.take_add_one, hx, List.any_append, hb]
  simp [badC, hn]
set_option maxHeartbeats 4000000 in
theorem dtag_ht (L : List UInt8) (hm : L.length ≤ 100000) : HT Tryz.prog 35 [.string (St L)] [] (fun v K => v = iV (tagE L) ∧ K = []) := by
 refine hiS Tryz.func35 Tryz.ntmps35 fun g w0 R h0 => go [] <| cP Tryz.call57 (runes_ht L (by omega)) h0 ?_
 rintro v K _ (⟨l10, p11, c12, hr13, rfl, rfl⟩ | ⟨hr13, rfl, rfl⟩) h15
 ·
  have h16 := ap1 h15
  refine go [.s 2 5] ?_
  by_cases c17 : ((l10.length : Nat) : Int) < 1
  ·
   refine go [.v 2 5 (oT (((l10.length : Nat) : Int) < 1))] ?_
   exact en (iV 16) [] ⟨_, _, rfl, ⟨by rw [dt_len hr13 (by omega)], rfl⟩, (tk1 (sf1 h16))⟩
  refine go [.v 2 5 (oF (((l10.length : Nat) : Int) < 1)), .s 2 10] ?_
  by_cases c19 : ((l10.length : Nat) : Int) > 24
  ·
   refine go [.v 2 10 (oT (((l10.length : Nat) : Int) > 24))] ?_
   exact en (iV 16) [] ⟨_, _, rfl, ⟨by rw [dt_len hr13 (by omega)], rfl⟩, (tk1 (sf1 h16))⟩
  refine go [.v 2 10 (oF (((l10.length : Nat) : Int) > 24))] ?_
  refine lpS (fun mz_ a w => ∃ k : Nat, ∃ lr : Fr, mz_ = l10.length - k ∧ (k ≤ l10.length) ∧ ((l10.take k).any badC = false) ∧ a = mk 41 (([(3, .slice p11 l10.length c12), (5, iV (k : Int))] : Fr) ++ lr) ∧ sat g w [Sl 3 1 p11 l10.length c12 (fl eN l10), R]) (l10.length - 0) ⟨0, _, rfl, (by omega), rfl, (lvF [.k 3 (.slice p11 l10.length c12), .o 5 (oJ .i64 0 (0 : Int))]), h16⟩ ?_
  rintro m22 a23 w24 ⟨k, lr21, rfl, hk_, hb_, rfl, h25⟩
  refine ga <| go [.s 5 3] ?_
  by_cases c26 : (k : Int) < ((l10.length : Nat) : Int)
  ·
   obtain ⟨b27, hp28⟩ := sl_ptr0 (j := 0) h25 rfl (by omega)
   refine go [.v 5 3 (oT ((k : Int) < ((l10.length : Nat) : Int))), .s 7 2] <| lwP (.pointer (some ⟨b27, k, none⟩)) (law_indexSlP (x := (Operand.tmp 29)) (i := (Operand.tmp 30)) (p := p11) (b := b27) (off := 0) (z := (k : Int)) (len := l10.length) (cap := c12) (by kernel_rfl) Tryz.underlying95 1 (by kernel_rfl) k (by kernel_rfl) hp28 (by kernel_rfl) (by omega) (by omega) k (by omega) _) ?_
   obtain ⟨x29, hx30⟩ : ∃ x, l10[k]? = some x := ⟨_, List.getElem?_eq_getElem (by omega)⟩
   refine go [.r 7 3 b27 k [iV (x29 : Int)] ⟨gv_cell (j := 0) h25 rfl (gv_sl _ _ _) hp28 (fl_get eN_ok (j := 0) (v := iV (x29 : Int)) hx30 rfl) k (by omega), trivial⟩, .s 7 4] ?_
   by_cases c31 : (x29 : Int) < 32
   ·
    refine go [.v 7 4 (oT ((x29 : Int) < 32))] <| up <| go [] ?_
    exact en (iV 16) [] ⟨_, _, rfl, ⟨by rw [dt_bad hr13 hx30 (by omega)], rfl⟩, (tk1 (sf1 h25))⟩
   refine go [.v 7 4 (oF ((x29 : Int) < 32)), .s 7 8] <| lwP (.pointer (some ⟨b27, k, none⟩)) (law_indexSlP (x := (Operand.tmp 35)) (i := (Operand.tmp 36)) (p := p11) (b := b27) (off := 0) (z := (k : Int)) (len := l10.length) (cap := c12) (by kernel_rfl) Tryz.underlying95 1 (by kernel_rfl) k (by kernel_rfl) hp28 (by kernel_rfl) (by omega) (by omega) k (by omega) _) <| go [.r 7 9 b27 k [iV (x29 : Int)] ⟨gv_cell (j := 0) h25 rfl (gv_sl _ _ _) hp28 (fl_get eN_ok (j := 0) (v := iV (x29 : Int)) hx30 rfl) k (by omega), trivial⟩, .s 7 10] ?_
   by_cases c33 : (x29 : Int) = 127
   ·
    refine go [.v 7 10 (qeT (x29 : Int) 127)] <| up <| go [] ?_
    exact en (iV 16) [] ⟨_, _, rfl, ⟨by rw [dt_bad hr13 hx30 (by omega)], rfl⟩, (tk1 (sf1 h25))⟩
   refine go [.v 7 10 (qeF (x29 : Int) 127), .v 6 1 (oIr ((k : Int) + 1))] ?_
   refine enL ?_
   change ∃ n', n' < _ ∧ _
   refine ⟨(l10.length - (k + 1)), by omega, (k + 1), _, rfl, (by omega), (bd_step hb_ hx30 (by omega)), (lvF [.k 3 (.slice p11 l10.length c12), .o 5 (oJ .i64 ((k : Int) + 1) ((((k + 1) : Nat) : Int)))]), h25⟩
  refine go [.v 5 3 (oF ((k : Int) < ((l10.length : Nat) : Int)))] <| up <| go [] ?_
  exact en (iV 0) [] ⟨_, _, rfl, ⟨by rw [dt_ok hr13 (by omega) (by omega) hb_], rfl⟩, (tk1 (sf1 h25))⟩
 have h36 := ap0 h15
 refine go [] ?_
 exact en (iV 16) [] ⟨_, _, rfl, ⟨by rw [dt_none hr13], rfl⟩, h36⟩

end Go.Proofs.YtfoliffeieeihaaGreatDoor
