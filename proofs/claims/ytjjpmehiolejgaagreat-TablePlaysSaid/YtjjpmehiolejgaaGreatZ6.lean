/- Walks, printed by my generator z6.py. -/
import Derived.Test.YtjjpmehiolejgaaGreatBundle31
import Derived.Test.YtjjpmehiolejgaaGreatFrm
namespace Go.Proofs.YtjjpmehiolejgaaGreat
def insX (X : List Ety) (j : Nat) (e : Ety) : List Ety := match X with
  | [] => [e]
  | x :: X => if x.d.2.1 < (j : Int) then x :: insX X j e else e :: x :: X
theorem ins_len (X : List Ety) (j : Nat) (e : Ety) : (insX X j e).length = X.length + 1 := by
  induction X with
  | nil => rfl
  | cons x X ih =>
    unfold insX
    split
    · rw [List.length_cons, ih, List.length_cons]
    · rfl
theorem ins_at {X : List Ety} {j k : Nat} {e : Ety} (hb : ∀ (m : Nat) (x : Ety), m < k → X[m]? = some x → x.d.2.1 < (j : Int)) (hk : k ≤ X.length) (hn : ∀ x : Ety, X[k]? = some x → ¬ x.d.2.1 < (j : Int)) : X.take k ++ [e] ++ X.drop k = insX X j e := by
  induction X generalizing k with
  | nil =>
    have hk0 : k = 0 := by simpa using hk
    subst hk0
    rfl
  | cons x X ih =>
    cases k with
    | zero =>
      unfold insX
      rw [if_neg (hn x rfl)]
      rfl
    | succ k =>
      unfold insX
      rw [if_pos (hb 0 x (by omega) rfl), ← ih (k := k) (fun m y hm hy => hb (m + 1) y (by omega) (by simpa using hy)) (by simpa using hk) (fun y hy => hn y (by simpa using hy))]
      rfl
theorem lt_step {X : List Ety} {j : Int} {k : Nat} {x : Ety} (hb : ∀ (m : Nat) (y : Ety), m < k → X[m]? = some y → y.d.2.1 < j) (hx : X[k]? = some x) (h : x.d.2.1 < j) : ∀ (m : Nat) (y : Ety), m < k + 1 → X[m]? = some y → y.d.2.1 < j := fun m y hm hy => by
  rcases Nat.lt_succ_iff_lt_or_eq.1 hm with h1 | h1
  · exact hb m y h1 hy
  · subst h1
    rw [hx] at hy
    obtain rfl := Option.some.inj hy
    exact h
set_option maxHeartbeats 4000000 in
theorem zadd_ht (b n : Nat) (A : List Sl2) (X : List Ety) (Q : List Rs) (vn u0 u1 : Int) (q : Nat) (r : Rs) (hr : Q[q]? = some r) (hv : vn = (q : Int) + 1) (j : Nat) (vg : Int) (hf : freeS A = some (j, vg)) (hx : X.length < 256) : HT Tryz.prog 42 [Value.pointer (some ⟨b, 0, none⟩), Value.int IntKind.i64 vn, Value.agg #[Value.int IntKind.i64 u0, Value.int IntKind.u32 u1]] [Zr b n A X Q] (fun v K => v = Value.agg #[Value.int IntKind.i64 r.out.1, Value.int IntKind.i64 (((j : Nat) : Int)), Value.int IntKind.u32 vg] ∧ K = [Zr b n (A.set j (1, vg)) (insX X j ⟨(r.out.1, (j : Int), vg), vn, (u0, u1)⟩) Q]) := by
 have hql_ := (List.getElem?_eq_some_iff.1 hr).1
 refine hiS Tryz.func42 Tryz.ntmps42 fun g w0 R h0 => go [] <| nP 38 [iV u0, uV u1] h0 (fun r10 w11 h12 => ?_)
 refine nP 25 [iV 0, iV 0, uV 0] h12 (fun r13 w14 h15 => ?_)
 obtain ⟨s17, p18, c19, p20, c21, hq22, h23⟩ := zr_open (tk4 (sf3 (sf2 (sf2 (sf3 h15)))))
 have hb24 := hq22.1
 have hb25 := hq22.2
 have h26 := tk7 (sf6 (sf5 (sf5 (sf6 (sf6 (sf6 (sf6 h23)))))))
 obtain ⟨hc27, hc28⟩ := sl_le h26
 have h29 := tk7 (sf6 (sf6 (sf4 (sf6 (sf6 (sf6 (sf6 h26)))))))
 have h30 := tk7 (sf6 (sf5 (sf6 (sf6 (sf6 (sf6 (sf6 h29)))))))
 refine go [rd 1 3 0 0 1 h29] <| cl1 Tryz.call75 (ztake_ht s17 n A j vg hf) h30 fun w31 h32 => go [] <| nP 38 [iV 0, uV 0] h32 (fun r33 w34 h35 => ?_)
 refine sP [(0, iV (j : Int)), (1, uV vg)] [iV (j : Int), uV vg] h35 fun w36 h37 => go [] <| dw (fls [0, 1, 2, 3, 4, 5, 6, 7, 8, 9, 10, 11, 12, 13, 14, 15, 16, 17] (Tr.an 18 (Tr.an 19 Tr.nil))) h37 fun w38 h39 => ?_
 obtain ⟨b40, hp41⟩ := sl_ptr0 (j := 4) h39 rfl (by omega)
 refine go [rd 2 3 2 2 1 h39, .v 2 5 (oIr (vn - 1)), .s 2 6] <| lw (.pointer (some ⟨b40, q * 8, none⟩)) (fun _ => law_indexSlP (x := (Operand.tmp 22)) (i := (Operand.tmp 24)) (p := p20) (b := b40) (off := 0) (z := (vn - 1)) (len := Q.length) (cap := c21) (by kernel_rfl) Tryz.underlying76 8 (by kernel_rfl) q (by kernel_rfl) hp41 (by kernel_rfl) (by omega) (by omega) (q * 8) (by omega) _) <| go [.r 2 9 b40 (q * 8) [iV r.out.1] ⟨gv_cell (j := 4) h39 rfl (gv_sl _ _ _) hp41 (fl_get eRs_ok (j := 0) (v := iV r.out.1) hr rfl) (q * 8) (by omega), trivial⟩, rd 2 11 0 0 1 h39, rd 2 13 0 1 1 h39, rd 2 16 6 0 2 h39] <| nG (fun q_ => pV q_) 93 [iV 0, iV 0, uV 0, iV 0, iV 0, uV 0] h39 (fun r42 w43 h44 => ⟨kd [rd 0 16 7 0 2 h44, rd 0 13 1 1 1 h44, rd 0 11 1 0 1 h44, .r 0 9 b40 (q * 8) [iV r.out.1] ⟨gv_cell (j := 5) h44 rfl (gv_sl _ _ _) hp41 (fl_get eRs_ok (j := 0) (v := iV r.out.1) hr rfl) (q * 8) (by omega), trivial⟩, rd 0 3 3 2 1 h44], ?_⟩)
 refine sG [(0, iV r.out.1), (1, iV (j : Int)), (2, uV vg), (3, iV vn), (4, iV u0), (5, uV u1)] [iV r.out.1, iV (j : Int), uV vg, iV vn, iV u0, uV u1] h44 fun w45 h46 => ⟨kd [], ?_⟩
 refine go [] ?_
 refine lpS (fun mz_ a w => ∃ k : Nat, ∃ lr : Fr, mz_ = X.length - k ∧ (k ≤ X.length) ∧ (∀ (m : Nat) (x : Ety), m < k → X[m]? = some x → x.d.2.1 < (j : Int)) ∧ a = mk 83 (([(0, pV b), (6, pV r13), (7, pV r33), (9, pV r42), (10, iV (k : Int))] : Fr) ++ lr) ∧ sat g w [Cl r42 [iV r.out.1, iV (j : Int), uV vg, iV vn, iV u0, uV u1] 93, Cl r33 [iV (j : Int), uV vg] 38, Zs s17 n (A.set j (1, vg)), Cl b [pV s17, .slice p18 X.length c19, .slice p20 Q.length c21] 78, Sl 93 6 p18 X.length c19 (fl eE X), Sl 54 8 p20 Q.length c21 (fl eRs Q), Cl r13 [iV 0, iV 0, uV 0] 25, Cl r10 [iV u0, uV u1] 38, R]) (X.length - 0) ⟨0, _, rfl, (by omega), (fun m _ hm => by omega), (lvF [.k 0 (pV b), .k 6 (pV r13), .k 7 (pV r33), .k 9 (pV r42), .o 10 (oJ .i64 0 (0 : Int))]), h46⟩ ?_
 rintro m48 a49 w50 ⟨k, lr47, rfl, hk_, hb_, rfl, h51⟩
 refine ga <| go [] <| dw (fls [0, 1, 2, 3, 4, 5, 6, 7, 8, 9, 10, 11, 12, 13, 14, 15, 16, 17, 18, 19, 20] Tr.nil) h51 fun w52 h53 => go [rd 4 4 3 1 1 h53, .s 4 6] ?_
 by_cases c54 : (k : Int) < ((X.length : Nat) : Int)
 ·
  obtain ⟨b55, hp56⟩ := sl_ptr0 (j := 4) h53 rfl (by omega)
  refine go [.v 4 6 (oT ((k : Int) < ((X.length : Nat) : Int))), rd 4 11 3 1 1 h53, .s 4 13] <| lw (.pointer (some ⟨b55, k * 6, none⟩)) (fun _ => law_indexSlP (x := (Operand.tmp 48)) (i := (Operand.tmp 49)) (p := p18) (b := b55) (off := 0) (z := (k : Int)) (len := X.length) (cap := c19) (by kernel_rfl) Tryz.underlying75 6 (by kernel_rfl) k (by kernel_rfl) hp56 (by kernel_rfl) (by omega) (by omega) (k * 6) (by omega) _) ?_
  obtain ⟨x57, hx58⟩ : ∃ x, X[k]? = some x := ⟨_, List.getElem?_eq_getElem (by omega)⟩
  refine go [.r 4 16 b55 (k * 6 + 1) [iV x57.d.2.1] ⟨gv_cell (j := 4) h53 rfl (gv_sl _ _ _) hp56 (fl_get eE_ok (j := 1) (v := iV x57.d.2.1) hx58 rfl) (k * 6 + 1) (by omega), trivial⟩, rd 4 18 1 0 1 h53, .s 4 19] ?_
  by_cases c59 : x57.d.2.1 < (j : Int)
  ·
   refine go [.v 4 19 (oT (x57.d.2.1 < (j : Int))), .v 5 1 (oIr ((k : Int) + 1))] ?_
   refine enL ?_
   change ∃ n', n' < _ ∧ _
   refine ⟨(X.length - (k + 1)), by omega, (k + 1), _, rfl, (by omega), (lt_step hb_ hx58 (by omega)), (lvF [.k 0 (pV b), .k 6 (pV r13), .k 7 (pV r33), .k 9 (pV r42), .o 10 (oJ .i64 ((k : Int) + 1) ((((k + 1) : Nat) : Int)))]), h53⟩
  refine go [.v 4 19 (oF (x57.d.2.1 < (j : Int)))] <| up <| go [] <| dw (fls [0, 2, 3, 4, 5, 6, 7, 9, 12, 13, 14, 15, 16, 17] (Tr.an2 1 (Tr.an2 8 (Tr.an 10 (Tr.an 11 (Tr.an 18 (fls [19, 20] (Tr.an 21 Tr.nil))))) 10 (Tr.an 8 (Tr.an 11 (Tr.an 18 (fls [19, 20] (Tr.an 21 Tr.nil)))))) 10 (Tr.an 1 (Tr.an 8 (Tr.an 11 (Tr.an 18 (fls [19, 20] (Tr.an 21 Tr.nil)))))))) h53 fun w60 h61 => go [rd 6 5 3 1 1 h61, .s 6 7] <| lw (.slice p18 k c19) (fun _ => law_sliceTo (x := (Operand.tmp 65)) (y := (Operand.tmp 66)) (p := p18) (m := X.length) (c := c19) (z := (k : Int)) (by kernel_rfl) Tryz.underlying75 (by kernel_rfl) (by kernel_rfl) (by kernel_rfl) k (by omega) (by omega) _) ?_
  obtain ⟨q62, hq63⟩ : ∃ q : Option Addr, q = if c19 = k then p18 else p18.map (fun a : Addr => a.add (k * 6)) := ⟨_, rfl⟩
  refine go [rd 6 9 0 0 6 h61, rd 6 15 3 1 1 h61, .s 6 17] <| lw (.slice q62 (X.length - k) (c19 - k)) (fun _ => law_sliceFrom (x := (Operand.tmp 75)) (y := (Operand.tmp 76)) (p := p18) (m := X.length) (c := c19) (sz := 6) (z := (k : Int)) (by kernel_rfl) Tryz.underlying75 (by kernel_rfl) (by kernel_rfl) (by kernel_rfl) k (by omega) (by omega) hq63 _) ?_
  refine br2 ?_ ?_
  ·
   refine nG (fun q_ => .slice (some ⟨q_, 0, none⟩) 0 0) 93 [] h61 (fun r64 w65 h66 => ⟨kd [rd 0 15 4 1 1 h66, rd 0 9 1 0 6 h66, rd 0 5 4 1 1 h66], ?_⟩)
   refine br2 ?_ ?_
   ·
    have h67 : sat g w65 [Sl 93 6 (some ⟨r64, 0, none⟩) 0 0 (fl eE []), Cl r42 [iV r.out.1, iV (j : Int), uV vg, iV vn, iV u0, uV u1] 93, Cl r33 [iV (j : Int), uV vg] 38, Zs s17 n (A.set j (1, vg)), Cl b [pV s17, .slice p18 X.length c19, .slice p20 Q.length c21] 78, Sl 93 6 p18 X.length c19 (fl eE X), Sl 54 8 p20 Q.length c21 (fl eRs Q), Cl r13 [iV 0, iV 0, uV 0] 25, Cl r10 [iV u0, uV u1] 38, R] := sl_of_cl h66 rfl (by omega)
    refine actG ?_
    refine an_append_gv (d := 68) (sz := 6) (s := (Operand.tmp 61)) (x := (Operand.tmp 67)) (z := .agg #[iV 0, iV 0, uV 0, iV 0, iV 0, uV 0]) (p := (some ⟨r64, 0, none⟩)) (p2 := p18) (m := 0) (c := 0) (k := k) (c2 := c19) (by_ := 48) (by kernel_rfl) (by kernel_rfl) rfl Tryz.underlying75 (by kernel_rfl) rfl (by decide) (by kernel_rfl) (by kernel_rfl) h67 5 rfl (fl eE (X.take k)) (gv_list eE_ok (gv_sl _ _ _) (by omega)) (by rw [fl_len eE_ok, show ((X.take k)).length = k from (by rw [List.length_take]; omega)]) (fl_one eE_ok _) (by omega) (by omega) k (by omega) ?_
    intro p68 cap69 w70 h71
    have h72 : sat g w70 [Sl 93 6 p68 k cap69 (fl eE (X.take k)), Cl r42 [iV r.out.1, iV (j : Int), uV vg, iV vn, iV u0, uV u1] 93, Cl r33 [iV (j : Int), uV vg] 38, Zs s17 n (A.set j (1, vg)), Cl b [pV s17, .slice p18 X.length c19, .slice p20 Q.length c21] 78, Sl 93 6 p18 X.length c19 (fl eE X), Sl 54 8 p20 Q.length c21 (fl eRs Q), Cl r13 [iV 0, iV 0, uV 0] 25, Cl r10 [iV u0, uV u1] 38, R] := sat_imp h71 (fun _ hh => by exact hh)
    obtain ⟨hn73, hn74⟩ := sl_le h72
    refine ⟨kd [rd 0 15 4 1 1 h72, rd 0 9 1 0 6 h72], nxG ?_⟩
    refine nG (fun q_ => .slice (some ⟨q_, 0, none⟩) 1 1) 93 [iV r.out.1, iV (j : Int), uV vg, iV vn, iV u0, uV u1] h72 (fun r75 w76 h77 => ⟨kd [rd 0 15 5 1 1 h77], ?_⟩)
    have h78 := tk11 (sf10 (sf9 (sf10 (sf10 (sf10 (sf10 (sf10 (sf10 (sf10 (sf10 (sf10 h77)))))))))))
    refine actG ?_
    refine an_append (d := 71) (sz := 6) (s := (Operand.tmp 68)) (x := (Operand.tmp 70)) (z := .agg #[iV 0, iV 0, uV 0, iV 0, iV 0, uV 0]) (p := p68) (m := k) (c := cap69) (k := 1) (c2 := 1) (a := ⟨r75, 0, none⟩) (by_ := 48) (by kernel_rfl) (by kernel_rfl) rfl Tryz.underlying75 (by kernel_rfl) rfl (by decide) (by kernel_rfl) (by kernel_rfl) h78 (fl eE [(⟨(r.out.1, (j : Int), vg), vn, (u0, u1)⟩ : Ety)]) rfl (fun j u hj => by rw [add_off]; exact sat_cell h78 1 rfl (by rw [Nat.zero_add]; exact hj)) (fl_one eE_ok _) (by omega) (by omega) (k + 1) (by omega) ?_
    intro p79 cap80 w81 h82
    have h83 : sat g w81 [Sl 93 6 p79 (k + 1) cap80 (fl eE ((X.take k) ++ [(⟨(r.out.1, (j : Int), vg), vn, (u0, u1)⟩ : Ety)])), Cl r75 [iV r.out.1, iV (j : Int), uV vg, iV vn, iV u0, uV u1] 93, Cl r42 [iV r.out.1, iV (j : Int), uV vg, iV vn, iV u0, uV u1] 93, Cl r33 [iV (j : Int), uV vg] 38, Zs s17 n (A.set j (1, vg)), Cl b [pV s17, .slice p18 X.length c19, .slice p20 Q.length c21] 78, Sl 93 6 p18 X.length c19 (fl eE X), Sl 54 8 p20 Q.length c21 (fl eRs Q), Cl r13 [iV 0, iV 0, uV 0] 25, Cl r10 [iV u0, uV u1] 38, R] := sat_imp h82 (fun _ hh => by rw [fl_app]; exact hh)
    obtain ⟨hn84, hn85⟩ := sl_le h83
    refine ⟨kd [rd 0 15 5 1 1 h83], nxG ?_⟩
    refine actG ?_
    refine an_append_gv (d := 78) (sz := 6) (s := (Operand.tmp 71)) (x := (Operand.tmp 77)) (z := .agg #[iV 0, iV 0, uV 0, iV 0, iV 0, uV 0]) (p := p79) (p2 := q62) (m := (k + 1)) (c := cap80) (k := (X.length - k)) (c2 := (c19 - k)) (by_ := 48) (by kernel_rfl) (by kernel_rfl) rfl Tryz.underlying75 (by kernel_rfl) rfl (by decide) (by kernel_rfl) (by kernel_rfl) h83 6 rfl (fl eE (X.drop k)) (gv_from eE_ok (gv_sl _ _ _) rfl (by omega) (by omega) hq63) (by rw [fl_len eE_ok, show ((X.drop k)).length = X.length - k from (List.length_drop)]) (fl_one eE_ok _) (by omega) (by omega) (X.length + 1) (by omega) ?_
    intro p86 cap87 w88 h89
    have h90 : sat g w88 [Sl 93 6 p86 (X.length + 1) cap87 (fl eE (((X.take k) ++ [(⟨(r.out.1, (j : Int), vg), vn, (u0, u1)⟩ : Ety)]) ++ (X.drop k))), Cl r75 [iV r.out.1, iV (j : Int), uV vg, iV vn, iV u0, uV u1] 93, Cl r42 [iV r.out.1, iV (j : Int), uV vg, iV vn, iV u0, uV u1] 93, Cl r33 [iV (j : Int), uV vg] 38, Zs s17 n (A.set j (1, vg)), Cl b [pV s17, .slice p18 X.length c19, .slice p20 Q.length c21] 78, Sl 93 6 p18 X.length c19 (fl eE X), Sl 54 8 p20 Q.length c21 (fl eRs Q), Cl r13 [iV 0, iV 0, uV 0] 25, Cl r10 [iV u0, uV u1] 38, R] := sat_imp h89 (fun _ hh => by rw [fl_app]; exact hh)
    obtain ⟨hn91, hn92⟩ := sl_le h90
    refine ⟨kd [], nxG ?_⟩
    have h93 := tk11 (sf10 (sf9 (sf9 (sf9 (sf9 (sf9 (sf10 (sf10 (sf10 (sf10 (sf10 h90)))))))))))
    refine go [] <| sG [(1, .slice p86 (X.length + 1) cap87)] [pV s17, .slice p86 (X.length + 1) cap87, .slice p20 Q.length c21] h93 fun w94 h95 => ⟨kd [], ?_⟩
    have h96 := tk11 (sf10 (sf9 (sf9 (sf9 (sf9 (sf9 (sf9 (sf9 (sf9 (sf10 (sf10 h95)))))))))))
    refine go [rd 7 1 3 0 3 h95] <| sP [(0, iV r.out.1), (1, iV (j : Int)), (2, uV vg)] [iV r.out.1, iV (j : Int), uV vg] h96 fun w97 h98 => go [] ?_
    have h100 : sat g w97 [Sl 93 6 p86 (X.length + 1) cap87 (fl eE (insX X j ⟨(r.out.1, (j : Int), vg), vn, (u0, u1)⟩)), Cl r13 [iV r.out.1, iV (j : Int), uV vg] 25, Cl b [pV s17, .slice p86 (X.length + 1) cap87, .slice p20 Q.length c21] 78, Cl r75 [iV r.out.1, iV (j : Int), uV vg, iV vn, iV u0, uV u1] 93, Cl r42 [iV r.out.1, iV (j : Int), uV vg, iV vn, iV u0, uV u1] 93, Cl r33 [iV (j : Int), uV vg] 38, Zs s17 n (A.set j (1, vg)), Sl 93 6 p18 X.length c19 (fl eE X), Sl 54 8 p20 Q.length c21 (fl eRs Q), Cl r10 [iV u0, uV u1] 38, R] := sat_imp (tk11 (sf10 (sf9 (sf9 (sf10 (sf10 (sf10 (sf10 (sf10 (sf10 (sf10 (sf10 h98)))))))))))) (fun _ hh_ => by rw [show ((((X.take k) ++ [(⟨(r.out.1, (j : Int), vg), vn, (u0, u1)⟩ : Ety)]) ++ (X.drop k)) : List Ety) = (insX X j ⟨(r.out.1, (j : Int), vg), vn, (u0, u1)⟩) from (ins_at hb_ (by omega) (fun y hy => by rw [hx58] at hy; obtain rfl := Option.some.inj hy; omega))] at hh_; exact hh_)
    have h101 := tk11 (sf10 (sf10 (sf8 (sf10 (sf7 (sf8 (sf8 (sf8 (sf9 (sf10 (sf10 h100)))))))))))
    have h102 : sat g w97 [Zr b n (A.set j (1, vg)) (insX X j ⟨(r.out.1, (j : Int), vg), vn, (u0, u1)⟩) Q, Cl r13 [iV r.out.1, iV (j : Int), uV vg] 25, Cl r75 [iV r.out.1, iV (j : Int), uV vg, iV vn, iV u0, uV u1] 93, Cl r42 [iV r.out.1, iV (j : Int), uV vg, iV vn, iV u0, uV u1] 93, Cl r33 [iV (j : Int), uV vg] 38, Sl 93 6 p18 X.length c19 (fl eE X), Cl r10 [iV u0, uV u1] 38, R] := zr_close (by rw [ins_len]; omega) ((ins_len _ _ _).symm ▸ (by omega)) (by first | rfl | (simp only [List.length_append, List.length_take, List.length_drop, List.length_cons, List.length_nil]; omega) | simp only [List.length_append, List.length_take, List.length_drop, List.length_cons, List.length_nil]) h101
    exact en (.agg #[iV r.out.1, iV (j : Int), uV vg]) [rd 0 0 0 0 3 h98] ⟨_, _, rfl, ⟨rfl, rfl⟩, (tk2 (sf1 (sf7 h102)))⟩
   refine nG (fun q_ => .slice (some ⟨q_, 0, none⟩) 1 1) 93 [iV r.out.1, iV (j : Int), uV vg, iV vn, iV u0, uV u1] h66 (fun r104 w105 h106 => ⟨kd [rd 0 15 5 1 1 h106, rd 0 5 5 1 1 h106], ?_⟩)
   have h108 : sat g w105 [Sl 93 6 (some ⟨r64, 0, none⟩) 0 0 (fl eE []), Cl r104 [iV r.out.1, iV (j : Int), uV vg, iV vn, iV u0, uV u1] 93, Cl r42 [iV r.out.1, iV (j : Int), uV vg, iV vn, iV u0, uV u1] 93, Cl r33 [iV (j : Int), uV vg] 38, Zs s17 n (A.set j (1, vg)), Cl b [pV s17, .slice p18 X.length c19, .slice p20 Q.length c21] 78, Sl 93 6 p18 X.length c19 (fl eE X), Sl 54 8 p20 Q.length c21 (fl eRs Q), Cl r13 [iV 0, iV 0, uV 0] 25, Cl r10 [iV u0, uV u1] 38, R] := sl_of_cl (tk11 (sf10 (sf9 (sf10 (sf10 (sf10 (sf10 (sf10 (sf10 (sf10 (sf10 (sf10 h106)))))))))))) rfl (by omega)
   refine actG ?_
   refine an_append_gv (d := 68) (sz := 6) (s := (Operand.tmp 61)) (x := (Operand.tmp 67)) (z := .agg #[iV 0, iV 0, uV 0, iV 0, iV 0, uV 0]) (p := (some ⟨r64, 0, none⟩)) (p2 := p18) (m := 0) (c := 0) (k := k) (c2 := c19) (by_ := 48) (by kernel_rfl) (by kernel_rfl) rfl Tryz.underlying75 (by kernel_rfl) rfl (by decide) (by kernel_rfl) (by kernel_rfl) h108 6 rfl (fl eE (X.take k)) (gv_list eE_ok (gv_sl _ _ _) (by omega)) (by rw [fl_len eE_ok, show ((X.take k)).length = k from (by rw [List.length_take]; omega)]) (fl_one eE_ok _) (by omega) (by omega) k (by omega) ?_
   intro p109 cap110 w111 h112
   have h113 : sat g w111 [Sl 93 6 p109 k cap110 (fl eE (X.take k)), Cl r104 [iV r.out.1, iV (j : Int), uV vg, iV vn, iV u0, uV u1] 93, Cl r42 [iV r.out.1, iV (j : Int), uV vg, iV vn, iV u0, uV u1] 93, Cl r33 [iV (j : Int), uV vg] 38, Zs s17 n (A.set j (1, vg)), Cl b [pV s17, .slice p18 X.length c19, .slice p20 Q.length c21] 78, Sl 93 6 p18 X.length c19 (fl eE X), Sl 54 8 p20 Q.length c21 (fl eRs Q), Cl r13 [iV 0, iV 0, uV 0] 25, Cl r10 [iV u0, uV u1] 38, R] := sat_imp h112 (fun _ hh => by exact hh)
   obtain ⟨hn114, hn115⟩ := sl_le h113
   refine ⟨kd [rd 0 15 5 1 1 h113], nxG ?_⟩
   refine actG ?_
   refine an_append (d := 71) (sz := 6) (s := (Operand.tmp 68)) (x := (Operand.tmp 70)) (z := .agg #[iV 0, iV 0, uV 0, iV 0, iV 0, uV 0]) (p := p109) (m := k) (c := cap110) (k := 1) (c2 := 1) (a := ⟨r104, 0, none⟩) (by_ := 48) (by kernel_rfl) (by kernel_rfl) rfl Tryz.underlying75 (by kernel_rfl) rfl (by decide) (by kernel_rfl) (by kernel_rfl) h113 (fl eE [(⟨(r.out.1, (j : Int), vg), vn, (u0, u1)⟩ : Ety)]) rfl (fun j u hj => by rw [add_off]; exact sat_cell h113 1 rfl (by rw [Nat.zero_add]; exact hj)) (fl_one eE_ok _) (by omega) (by omega) (k + 1) (by omega) ?_
   intro p116 cap117 w118 h119
   have h120 : sat g w118 [Sl 93 6 p116 (k + 1) cap117 (fl eE ((X.take k) ++ [(⟨(r.out.1, (j : Int), vg), vn, (u0, u1)⟩ : Ety)])), Cl r104 [iV r.out.1, iV (j : Int), uV vg, iV vn, iV u0, uV u1] 93, Cl r42 [iV r.out.1, iV (j : Int), uV vg, iV vn, iV u0, uV u1] 93, Cl r33 [iV (j : Int), uV vg] 38, Zs s17 n (A.set j (1, vg)), Cl b [pV s17, .slice p18 X.length c19, .slice p20 Q.length c21] 78, Sl 93 6 p18 X.length c19 (fl eE X), Sl 54 8 p20 Q.length c21 (fl eRs Q), Cl r13 [iV 0, iV 0, uV 0] 25, Cl r10 [iV u0, uV u1] 38, R] := sat_imp h119 (fun _ hh => by rw [fl_app]; exact hh)
   obtain ⟨hn121, hn122⟩ := sl_le h120
   refine ⟨kd [rd 0 15 5 1 1 h120], nxG ?_⟩
   refine actG ?_
   refine an_append_gv (d := 78) (sz := 6) (s := (Operand.tmp 71)) (x := (Operand.tmp 77)) (z := .agg #[iV 0, iV 0, uV 0, iV 0, iV 0, uV 0]) (p := p116) (p2 := q62) (m := (k + 1)) (c := cap117) (k := (X.length - k)) (c2 := (c19 - k)) (by_ := 48) (by kernel_rfl) (by kernel_rfl) rfl Tryz.underlying75 (by kernel_rfl) rfl (by decide) (by kernel_rfl) (by kernel_rfl) h120 6 rfl (fl eE (X.drop k)) (gv_from eE_ok (gv_sl _ _ _) rfl (by omega) (by omega) hq63) (by rw [fl_len eE_ok, show ((X.drop k)).length = X.length - k from (List.length_drop)]) (fl_one eE_ok _) (by omega) (by omega) (X.length + 1) (by omega) ?_
   intro p123 cap124 w125 h126
   have h127 : sat g w125 [Sl 93 6 p123 (X.length + 1) cap124 (fl eE (((X.take k) ++ [(⟨(r.out.1, (j : Int), vg), vn, (u0, u1)⟩ : Ety)]) ++ (X.drop k))), Cl r104 [iV r.out.1, iV (j : Int), uV vg, iV vn, iV u0, uV u1] 93, Cl r42 [iV r.out.1, iV (j : Int), uV vg, iV vn, iV u0, uV u1] 93, Cl r33 [iV (j : Int), uV vg] 38, Zs s17 n (A.set j (1, vg)), Cl b [pV s17, .slice p18 X.length c19, .slice p20 Q.length c21] 78, Sl 93 6 p18 X.length c19 (fl eE X), Sl 54 8 p20 Q.length c21 (fl eRs Q), Cl r13 [iV 0, iV 0, uV 0] 25, Cl r10 [iV u0, uV u1] 38, R] := sat_imp h126 (fun _ hh => by rw [fl_app]; exact hh)
   obtain ⟨hn128, hn129⟩ := sl_le h127
   refine ⟨kd [], nxG ?_⟩
   have h130 := tk11 (sf10 (sf9 (sf9 (sf9 (sf9 (sf9 (sf10 (sf10 (sf10 (sf10 (sf10 h127)))))))))))
   refine go [] <| sG [(1, .slice p123 (X.length + 1) cap124)] [pV s17, .slice p123 (X.length + 1) cap124, .slice p20 Q.length c21] h130 fun w131 h132 => ⟨kd [], ?_⟩
   have h133 := tk11 (sf10 (sf9 (sf9 (sf9 (sf9 (sf9 (sf9 (sf9 (sf9 (sf10 (sf10 h132)))))))))))
   refine go [rd 7 1 3 0 3 h132] <| sP [(0, iV r.out.1), (1, iV (j : Int)), (2, uV vg)] [iV r.out.1, iV (j : Int), uV vg] h133 fun w134 h135 => go [] ?_
   have h137 : sat g w134 [Sl 93 6 p123 (X.length + 1) cap124 (fl eE (insX X j ⟨(r.out.1, (j : Int), vg), vn, (u0, u1)⟩)), Cl r13 [iV r.out.1, iV (j : Int), uV vg] 25, Cl b [pV s17, .slice p123 (X.length + 1) cap124, .slice p20 Q.length c21] 78, Cl r104 [iV r.out.1, iV (j : Int), uV vg, iV vn, iV u0, uV u1] 93, Cl r42 [iV r.out.1, iV (j : Int), uV vg, iV vn, iV u0, uV u1] 93, Cl r33 [iV (j : Int), uV vg] 38, Zs s17 n (A.set j (1, vg)), Sl 93 6 p18 X.length c19 (fl eE X), Sl 54 8 p20 Q.length c21 (fl eRs Q), Cl r10 [iV u0, uV u1] 38, R] := sat_imp (tk11 (sf10 (sf9 (sf9 (sf10 (sf10 (sf10 (sf10 (sf10 (sf10 (sf10 (sf10 h135)))))))))))) (fun _ hh_ => by rw [show ((((X.take k) ++ [(⟨(r.out.1, (j : Int), vg), vn, (u0, u1)⟩ : Ety)]) ++ (X.drop k)) : List Ety) = (insX X j ⟨(r.out.1, (j : Int), vg), vn, (u0, u1)⟩) from (ins_at hb_ (by omega) (fun y hy => by rw [hx58] at hy; obtain rfl := Option.some.inj hy; omega))] at hh_; exact hh_)
   have h138 := tk11 (sf10 (sf10 (sf8 (sf10 (sf7 (sf8 (sf8 (sf8 (sf9 (sf10 (sf10 h137)))))))))))
   have h139 : sat g w134 [Zr b n (A.set j (1, vg)) (insX X j ⟨(r.out.1, (j : Int), vg), vn, (u0, u1)⟩) Q, Cl r13 [iV r.out.1, iV (j : Int), uV vg] 25, Cl r104 [iV r.out.1, iV (j : Int), uV vg, iV vn, iV u0, uV u1] 93, Cl r42 [iV r.out.1, iV (j : Int), uV vg, iV vn, iV u0, uV u1] 93, Cl r33 [iV (j : Int), uV vg] 38, Sl 93 6 p18 X.length c19 (fl eE X), Cl r10 [iV u0, uV u1] 38, R] := zr_close (by rw [ins_len]; omega) ((ins_len _ _ _).symm ▸ (by omega)) (by first | rfl | (simp only [List.length_append, List.length_take, List.length_drop, List.length_cons, List.length_nil]; omega) | simp only [List.length_append, List.length_take, List.length_drop, List.length_cons, List.length_nil]) h138
   exact en (.agg #[iV r.out.1, iV (j : Int), uV vg]) [rd 0 0 0 0 3 h135] ⟨_, _, rfl, ⟨rfl, rfl⟩, (tk2 (sf1 (sf7 h139)))⟩
  refine nG (fun q_ => .slice (some ⟨q_, 0, none⟩) 1 1) 93 [iV r.out.1, iV (j : Int), uV vg, iV vn, iV u0, uV u1] h61 (fun r141 w142 h143 => ⟨kd [rd 0 15 4 1 1 h143, rd 0 5 4 1 1 h143], ?_⟩)
  refine nG (fun q_ => .slice (some ⟨q_, 0, none⟩) 0 0) 93 [] h143 (fun r144 w145 h146 => ⟨kd [rd 0 15 5 1 1 h146, rd 0 5 5 1 1 h146], ?_⟩)
  have h147 : sat g w145 [Sl 93 6 (some ⟨r144, 0, none⟩) 0 0 (fl eE []), Cl r141 [iV r.out.1, iV (j : Int), uV vg, iV vn, iV u0, uV u1] 93, Cl r42 [iV r.out.1, iV (j : Int), uV vg, iV vn, iV u0, uV u1] 93, Cl r33 [iV (j : Int), uV vg] 38, Zs s17 n (A.set j (1, vg)), Cl b [pV s17, .slice p18 X.length c19, .slice p20 Q.length c21] 78, Sl 93 6 p18 X.length c19 (fl eE X), Sl 54 8 p20 Q.length c21 (fl eRs Q), Cl r13 [iV 0, iV 0, uV 0] 25, Cl r10 [iV u0, uV u1] 38, R] := sl_of_cl h146 rfl (by omega)
  refine actG ?_
  refine an_append_gv (d := 68) (sz := 6) (s := (Operand.tmp 61)) (x := (Operand.tmp 67)) (z := .agg #[iV 0, iV 0, uV 0, iV 0, iV 0, uV 0]) (p := (some ⟨r144, 0, none⟩)) (p2 := p18) (m := 0) (c := 0) (k := k) (c2 := c19) (by_ := 48) (by kernel_rfl) (by kernel_rfl) rfl Tryz.underlying75 (by kernel_rfl) rfl (by decide) (by kernel_rfl) (by kernel_rfl) h147 6 rfl (fl eE (X.take k)) (gv_list eE_ok (gv_sl _ _ _) (by omega)) (by rw [fl_len eE_ok, show ((X.take k)).length = k from (by rw [List.length_take]; omega)]) (fl_one eE_ok _) (by omega) (by omega) k (by omega) ?_
  intro p148 cap149 w150 h151
  have h152 : sat g w150 [Sl 93 6 p148 k cap149 (fl eE (X.take k)), Cl r141 [iV r.out.1, iV (j : Int), uV vg, iV vn, iV u0, uV u1] 93, Cl r42 [iV r.out.1, iV (j : Int), uV vg, iV vn, iV u0, uV u1] 93, Cl r33 [iV (j : Int), uV vg] 38, Zs s17 n (A.set j (1, vg)), Cl b [pV s17, .slice p18 X.length c19, .slice p20 Q.length c21] 78, Sl 93 6 p18 X.length c19 (fl eE X), Sl 54 8 p20 Q.length c21 (fl eRs Q), Cl r13 [iV 0, iV 0, uV 0] 25, Cl r10 [iV u0, uV u1] 38, R] := sat_imp h151 (fun _ hh => by exact hh)
  obtain ⟨hn153, hn154⟩ := sl_le h152
  refine ⟨kd [rd 0 15 5 1 1 h152], nxG ?_⟩
  refine actG ?_
  refine an_append (d := 71) (sz := 6) (s := (Operand.tmp 68)) (x := (Operand.tmp 70)) (z := .agg #[iV 0, iV 0, uV 0, iV 0, iV 0, uV 0]) (p := p148) (m := k) (c := cap149) (k := 1) (c2 := 1) (a := ⟨r141, 0, none⟩) (by_ := 48) (by kernel_rfl) (by kernel_rfl) rfl Tryz.underlying75 (by kernel_rfl) rfl (by decide) (by kernel_rfl) (by kernel_rfl) h152 (fl eE [(⟨(r.out.1, (j : Int), vg), vn, (u0, u1)⟩ : Ety)]) rfl (fun j u hj => by rw [add_off]; exact sat_cell h152 1 rfl (by rw [Nat.zero_add]; exact hj)) (fl_one eE_ok _) (by omega) (by omega) (k + 1) (by omega) ?_
  intro p155 cap156 w157 h158
  have h159 : sat g w157 [Sl 93 6 p155 (k + 1) cap156 (fl eE ((X.take k) ++ [(⟨(r.out.1, (j : Int), vg), vn, (u0, u1)⟩ : Ety)])), Cl r141 [iV r.out.1, iV (j : Int), uV vg, iV vn, iV u0, uV u1] 93, Cl r42 [iV r.out.1, iV (j : Int), uV vg, iV vn, iV u0, uV u1] 93, Cl r33 [iV (j : Int), uV vg] 38, Zs s17 n (A.set j (1, vg)), Cl b [pV s17, .slice p18 X.length c19, .slice p20 Q.length c21] 78, Sl 93 6 p18 X.length c19 (fl eE X), Sl 54 8 p20 Q.length c21 (fl eRs Q), Cl r13 [iV 0, iV 0, uV 0] 25, Cl r10 [iV u0, uV u1] 38, R] := sat_imp h158 (fun _ hh => by rw [fl_app]; exact hh)
  obtain ⟨hn160, hn161⟩ := sl_le h159
  refine ⟨kd [rd 0 15 5 1 1 h159], nxG ?_⟩
  refine actG ?_
  refine an_append_gv (d := 78) (sz := 6) (s := (Operand.tmp 71)) (x := (Operand.tmp 77)) (z := .agg #[iV 0, iV 0, uV 0, iV 0, iV 0, uV 0]) (p := p155) (p2 := q62) (m := (k + 1)) (c := cap156) (k := (X.length - k)) (c2 := (c19 - k)) (by_ := 48) (by kernel_rfl) (by kernel_rfl) rfl Tryz.underlying75 (by kernel_rfl) rfl (by decide) (by kernel_rfl) (by kernel_rfl) h159 6 rfl (fl eE (X.drop k)) (gv_from eE_ok (gv_sl _ _ _) rfl (by omega) (by omega) hq63) (by rw [fl_len eE_ok, show ((X.drop k)).length = X.length - k from (List.length_drop)]) (fl_one eE_ok _) (by omega) (by omega) (X.length + 1) (by omega) ?_
  intro p162 cap163 w164 h165
  have h166 : sat g w164 [Sl 93 6 p162 (X.length + 1) cap163 (fl eE (((X.take k) ++ [(⟨(r.out.1, (j : Int), vg), vn, (u0, u1)⟩ : Ety)]) ++ (X.drop k))), Cl r141 [iV r.out.1, iV (j : Int), uV vg, iV vn, iV u0, uV u1] 93, Cl r42 [iV r.out.1, iV (j : Int), uV vg, iV vn, iV u0, uV u1] 93, Cl r33 [iV (j : Int), uV vg] 38, Zs s17 n (A.set j (1, vg)), Cl b [pV s17, .slice p18 X.length c19, .slice p20 Q.length c21] 78, Sl 93 6 p18 X.length c19 (fl eE X), Sl 54 8 p20 Q.length c21 (fl eRs Q), Cl r13 [iV 0, iV 0, uV 0] 25, Cl r10 [iV u0, uV u1] 38, R] := sat_imp h165 (fun _ hh => by rw [fl_app]; exact hh)
  obtain ⟨hn167, hn168⟩ := sl_le h166
  refine ⟨kd [], nxG ?_⟩
  have h169 := tk11 (sf10 (sf9 (sf9 (sf9 (sf9 (sf9 (sf10 (sf10 (sf10 (sf10 (sf10 h166)))))))))))
  refine go [] <| sG [(1, .slice p162 (X.length + 1) cap163)] [pV s17, .slice p162 (X.length + 1) cap163, .slice p20 Q.length c21] h169 fun w170 h171 => ⟨kd [], ?_⟩
  have h172 := tk11 (sf10 (sf9 (sf9 (sf9 (sf9 (sf9 (sf9 (sf9 (sf9 (sf10 (sf10 h171)))))))))))
  refine go [rd 7 1 3 0 3 h171] <| sP [(0, iV r.out.1), (1, iV (j : Int)), (2, uV vg)] [iV r.out.1, iV (j : Int), uV vg] h172 fun w173 h174 => go [] ?_
  have h176 : sat g w173 [Sl 93 6 p162 (X.length + 1) cap163 (fl eE (insX X j ⟨(r.out.1, (j : Int), vg), vn, (u0, u1)⟩)), Cl r13 [iV r.out.1, iV (j : Int), uV vg] 25, Cl b [pV s17, .slice p162 (X.length + 1) cap163, .slice p20 Q.length c21] 78, Cl r141 [iV r.out.1, iV (j : Int), uV vg, iV vn, iV u0, uV u1] 93, Cl r42 [iV r.out.1, iV (j : Int), uV vg, iV vn, iV u0, uV u1] 93, Cl r33 [iV (j : Int), uV vg] 38, Zs s17 n (A.set j (1, vg)), Sl 93 6 p18 X.length c19 (fl eE X), Sl 54 8 p20 Q.length c21 (fl eRs Q), Cl r10 [iV u0, uV u1] 38, R] := sat_imp (tk11 (sf10 (sf9 (sf9 (sf10 (sf10 (sf10 (sf10 (sf10 (sf10 (sf10 (sf10 h174)))))))))))) (fun _ hh_ => by rw [show ((((X.take k) ++ [(⟨(r.out.1, (j : Int), vg), vn, (u0, u1)⟩ : Ety)]) ++ (X.drop k)) : List Ety) = (insX X j ⟨(r.out.1, (j : Int), vg), vn, (u0, u1)⟩) from (ins_at hb_ (by omega) (fun y hy => by rw [hx58] at hy; obtain rfl := Option.some.inj hy; omega))] at hh_; exact hh_)
  have h177 := tk11 (sf10 (sf10 (sf8 (sf10 (sf7 (sf8 (sf8 (sf8 (sf9 (sf10 (sf10 h176)))))))))))
  have h178 : sat g w173 [Zr b n (A.set j (1, vg)) (insX X j ⟨(r.out.1, (j : Int), vg), vn, (u0, u1)⟩) Q, Cl r13 [iV r.out.1, iV (j : Int), uV vg] 25, Cl r141 [iV r.out.1, iV (j : Int), uV vg, iV vn, iV u0, uV u1] 93, Cl r42 [iV r.out.1, iV (j : Int), uV vg, iV vn, iV u0, uV u1] 93, Cl r33 [iV (j : Int), uV vg] 38, Sl 93 6 p18 X.length c19 (fl eE X), Cl r10 [iV u0, uV u1] 38, R] := zr_close (by rw [ins_len]; omega) ((ins_len _ _ _).symm ▸ (by omega)) (by first | rfl | (simp only [List.length_append, List.length_take, List.length_drop, List.length_cons, List.length_nil]; omega) | simp only [List.length_append, List.length_take, List.length_drop, List.length_cons, List.length_nil]) h177
  exact en (.agg #[iV r.out.1, iV (j : Int), uV vg]) [rd 0 0 0 0 3 h174] ⟨_, _, rfl, ⟨rfl, rfl⟩, (tk2 (sf1 (sf7 h178)))⟩
 refine go [.v 4 6 (oF ((k : Int) < ((X.length : Nat) : Int)))] <| up <| go [] <| dw (fls [0, 2, 3, 4, 5, 6, 7, 9, 12, 13, 14, 15, 16, 17] (Tr.an2 1 (Tr.an2 8 (Tr.an 10 (Tr.an 11 (Tr.an 18 (fls [19, 20] (Tr.an 21 Tr.nil))))) 10 (Tr.an 8 (Tr.an 11 (Tr.an 18 (fls [19, 20] (Tr.an 21 Tr.nil)))))) 10 (Tr.an 1 (Tr.an 8 (Tr.an 11 (Tr.an 18 (fls [19, 20] (Tr.an 21 Tr.nil)))))))) h53 fun w180 h181 => go [rd 6 5 3 1 1 h181, .s 6 7] <| lw (.slice p18 k c19) (fun _ => law_sliceTo (x := (Operand.tmp 65)) (y := (Operand.tmp 66)) (p := p18) (m := X.length) (c := c19) (z := (k : Int)) (by kernel_rfl) Tryz.underlying75 (by kernel_rfl) (by kernel_rfl) (by kernel_rfl) k (by omega) (by omega) _) ?_
 obtain ⟨q182, hq183⟩ : ∃ q : Option Addr, q = if c19 = k then p18 else p18.map (fun a : Addr => a.add (k * 6)) := ⟨_, rfl⟩
 refine go [rd 6 9 0 0 6 h181, rd 6 15 3 1 1 h181, .s 6 17] <| lw (.slice q182 (X.length - k) (c19 - k)) (fun _ => law_sliceFrom (x := (Operand.tmp 75)) (y := (Operand.tmp 76)) (p := p18) (m := X.length) (c := c19) (sz := 6) (z := (k : Int)) (by kernel_rfl) Tryz.underlying75 (by kernel_rfl) (by kernel_rfl) (by kernel_rfl) k (by omega) (by omega) hq183 _) ?_
 refine br2 ?_ ?_
 ·
  refine nG (fun q_ => .slice (some ⟨q_, 0, none⟩) 0 0) 93 [] h181 (fun r184 w185 h186 => ⟨kd [rd 0 15 4 1 1 h186, rd 0 9 1 0 6 h186, rd 0 5 4 1 1 h186], ?_⟩)
  refine br2 ?_ ?_
  ·
   have h187 : sat g w185 [Sl 93 6 (some ⟨r184, 0, none⟩) 0 0 (fl eE []), Cl r42 [iV r.out.1, iV (j : Int), uV vg, iV vn, iV u0, uV u1] 93, Cl r33 [iV (j : Int), uV vg] 38, Zs s17 n (A.set j (1, vg)), Cl b [pV s17, .slice p18 X.length c19, .slice p20 Q.length c21] 78, Sl 93 6 p18 X.length c19 (fl eE X), Sl 54 8 p20 Q.length c21 (fl eRs Q), Cl r13 [iV 0, iV 0, uV 0] 25, Cl r10 [iV u0, uV u1] 38, R] := sl_of_cl h186 rfl (by omega)
   refine actG ?_
   refine an_append_gv (d := 68) (sz := 6) (s := (Operand.tmp 61)) (x := (Operand.tmp 67)) (z := .agg #[iV 0, iV 0, uV 0, iV 0, iV 0, uV 0]) (p := (some ⟨r184, 0, none⟩)) (p2 := p18) (m := 0) (c := 0) (k := k) (c2 := c19) (by_ := 48) (by kernel_rfl) (by kernel_rfl) rfl Tryz.underlying75 (by kernel_rfl) rfl (by decide) (by kernel_rfl) (by kernel_rfl) h187 5 rfl (fl eE (X.take k)) (gv_list eE_ok (gv_sl _ _ _) (by omega)) (by rw [fl_len eE_ok, show ((X.take k)).length = k from (by rw [List.length_take]; omega)]) (fl_one eE_ok _) (by omega) (by omega) k (by omega) ?_
   intro p188 cap189 w190 h191
   have h192 : sat g w190 [Sl 93 6 p188 k cap189 (fl eE (X.take k)), Cl r42 [iV r.out.1, iV (j : Int), uV vg, iV vn, iV u0, uV u1] 93, Cl r33 [iV (j : Int), uV vg] 38, Zs s17 n (A.set j (1, vg)), Cl b [pV s17, .slice p18 X.length c19, .slice p20 Q.length c21] 78, Sl 93 6 p18 X.length c19 (fl eE X), Sl 54 8 p20 Q.length c21 (fl eRs Q), Cl r13 [iV 0, iV 0, uV 0] 25, Cl r10 [iV u0, uV u1] 38, R] := sat_imp h191 (fun _ hh => by exact hh)
   obtain ⟨hn193, hn194⟩ := sl_le h192
   refine ⟨kd [rd 0 15 4 1 1 h192, rd 0 9 1 0 6 h192], nxG ?_⟩
   refine nG (fun q_ => .slice (some ⟨q_, 0, none⟩) 1 1) 93 [iV r.out.1, iV (j : Int), uV vg, iV vn, iV u0, uV u1] h192 (fun r195 w196 h197 => ⟨kd [rd 0 15 5 1 1 h197], ?_⟩)
   have h198 := tk11 (sf10 (sf9 (sf10 (sf10 (sf10 (sf10 (sf10 (sf10 (sf10 (sf10 (sf10 h197)))))))))))
   refine actG ?_
   refine an_append (d := 71) (sz := 6) (s := (Operand.tmp 68)) (x := (Operand.tmp 70)) (z := .agg #[iV 0, iV 0, uV 0, iV 0, iV 0, uV 0]) (p := p188) (m := k) (c := cap189) (k := 1) (c2 := 1) (a := ⟨r195, 0, none⟩) (by_ := 48) (by kernel_rfl) (by kernel_rfl) rfl Tryz.underlying75 (by kernel_rfl) rfl (by decide) (by kernel_rfl) (by kernel_rfl) h198 (fl eE [(⟨(r.out.1, (j : Int), vg), vn, (u0, u1)⟩ : Ety)]) rfl (fun j u hj => by rw [add_off]; exact sat_cell h198 1 rfl (by rw [Nat.zero_add]; exact hj)) (fl_one eE_ok _) (by omega) (by omega) (k + 1) (by omega) ?_
   intro p199 cap200 w201 h202
   have h203 : sat g w201 [Sl 93 6 p199 (k + 1) cap200 (fl eE ((X.take k) ++ [(⟨(r.out.1, (j : Int), vg), vn, (u0, u1)⟩ : Ety)])), Cl r195 [iV r.out.1, iV (j : Int), uV vg, iV vn, iV u0, uV u1] 93, Cl r42 [iV r.out.1, iV (j : Int), uV vg, iV vn, iV u0, uV u1] 93, Cl r33 [iV (j : Int), uV vg] 38, Zs s17 n (A.set j (1, vg)), Cl b [pV s17, .slice p18 X.length c19, .slice p20 Q.length c21] 78, Sl 93 6 p18 X.length c19 (fl eE X), Sl 54 8 p20 Q.length c21 (fl eRs Q), Cl r13 [iV 0, iV 0, uV 0] 25, Cl r10 [iV u0, uV u1] 38, R] := sat_imp h202 (fun _ hh => by rw [fl_app]; exact hh)
   obtain ⟨hn204, hn205⟩ := sl_le h203
   refine ⟨kd [rd 0 15 5 1 1 h203], nxG ?_⟩
   refine actG ?_
   refine an_append_gv (d := 78) (sz := 6) (s := (Operand.tmp 71)) (x := (Operand.tmp 77)) (z := .agg #[iV 0, iV 0, uV 0, iV 0, iV 0, uV 0]) (p := p199) (p2 := q182) (m := (k + 1)) (c := cap200) (k := (X.length - k)) (c2 := (c19 - k)) (by_ := 48) (by kernel_rfl) (by kernel_rfl) rfl Tryz.underlying75 (by kernel_rfl) rfl (by decide) (by kernel_rfl) (by kernel_rfl) h203 6 rfl (fl eE (X.drop k)) (gv_from eE_ok (gv_sl _ _ _) rfl (by omega) (by omega) hq183) (by rw [fl_len eE_ok, show ((X.drop k)).length = X.length - k from (List.length_drop)]) (fl_one eE_ok _) (by omega) (by omega) (X.length + 1) (by omega) ?_
   intro p206 cap207 w208 h209
   have h210 : sat g w208 [Sl 93 6 p206 (X.length + 1) cap207 (fl eE (((X.take k) ++ [(⟨(r.out.1, (j : Int), vg), vn, (u0, u1)⟩ : Ety)]) ++ (X.drop k))), Cl r195 [iV r.out.1, iV (j : Int), uV vg, iV vn, iV u0, uV u1] 93, Cl r42 [iV r.out.1, iV (j : Int), uV vg, iV vn, iV u0, uV u1] 93, Cl r33 [iV (j : Int), uV vg] 38, Zs s17 n (A.set j (1, vg)), Cl b [pV s17, .slice p18 X.length c19, .slice p20 Q.length c21] 78, Sl 93 6 p18 X.length c19 (fl eE X), Sl 54 8 p20 Q.length c21 (fl eRs Q), Cl r13 [iV 0, iV 0, uV 0] 25, Cl r10 [iV u0, uV u1] 38, R] := sat_imp h209 (fun _ hh => by rw [fl_app]; exact hh)
   obtain ⟨hn211, hn212⟩ := sl_le h210
   refine ⟨kd [], nxG ?_⟩
   have h213 := tk11 (sf10 (sf9 (sf9 (sf9 (sf9 (sf9 (sf10 (sf10 (sf10 (sf10 (sf10 h210)))))))))))
   refine go [] <| sG [(1, .slice p206 (X.length + 1) cap207)] [pV s17, .slice p206 (X.length + 1) cap207, .slice p20 Q.length c21] h213 fun w214 h215 => ⟨kd [], ?_⟩
   have h216 := tk11 (sf10 (sf9 (sf9 (sf9 (sf9 (sf9 (sf9 (sf9 (sf9 (sf10 (sf10 h215)))))))))))
   refine go [rd 7 1 3 0 3 h215] <| sP [(0, iV r.out.1), (1, iV (j : Int)), (2, uV vg)] [iV r.out.1, iV (j : Int), uV vg] h216 fun w217 h218 => go [] ?_
   have h220 : sat g w217 [Sl 93 6 p206 (X.length + 1) cap207 (fl eE (insX X j ⟨(r.out.1, (j : Int), vg), vn, (u0, u1)⟩)), Cl r13 [iV r.out.1, iV (j : Int), uV vg] 25, Cl b [pV s17, .slice p206 (X.length + 1) cap207, .slice p20 Q.length c21] 78, Cl r195 [iV r.out.1, iV (j : Int), uV vg, iV vn, iV u0, uV u1] 93, Cl r42 [iV r.out.1, iV (j : Int), uV vg, iV vn, iV u0, uV u1] 93, Cl r33 [iV (j : Int), uV vg] 38, Zs s17 n (A.set j (1, vg)), Sl 93 6 p18 X.length c19 (fl eE X), Sl 54 8 p20 Q.length c21 (fl eRs Q), Cl r10 [iV u0, uV u1] 38, R] := sat_imp (tk11 (sf10 (sf9 (sf9 (sf10 (sf10 (sf10 (sf10 (sf10 (sf10 (sf10 (sf10 h218)))))))))))) (fun _ hh_ => by rw [show ((((X.take k) ++ [(⟨(r.out.1, (j : Int), vg), vn, (u0, u1)⟩ : Ety)]) ++ (X.drop k)) : List Ety) = (insX X j ⟨(r.out.1, (j : Int), vg), vn, (u0, u1)⟩) from (ins_at hb_ (by omega) (fun y hy => by rw [List.getElem?_eq_none (by omega)] at hy; cases hy))] at hh_; exact hh_)
   have h221 := tk11 (sf10 (sf10 (sf8 (sf10 (sf7 (sf8 (sf8 (sf8 (sf9 (sf10 (sf10 h220)))))))))))
   have h222 : sat g w217 [Zr b n (A.set j (1, vg)) (insX X j ⟨(r.out.1, (j : Int), vg), vn, (u0, u1)⟩) Q, Cl r13 [iV r.out.1, iV (j : Int), uV vg] 25, Cl r195 [iV r.out.1, iV (j : Int), uV vg, iV vn, iV u0, uV u1] 93, Cl r42 [iV r.out.1, iV (j : Int), uV vg, iV vn, iV u0, uV u1] 93, Cl r33 [iV (j : Int), uV vg] 38, Sl 93 6 p18 X.length c19 (fl eE X), Cl r10 [iV u0, uV u1] 38, R] := zr_close (by rw [ins_len]; omega) ((ins_len _ _ _).symm ▸ (by omega)) (by first | rfl | (simp only [List.length_append, List.length_take, List.length_drop, List.length_cons, List.length_nil]; omega) | simp only [List.length_append, List.length_take, List.length_drop, List.length_cons, List.length_nil]) h221
   exact en (.agg #[iV r.out.1, iV (j : Int), uV vg]) [rd 0 0 0 0 3 h218] ⟨_, _, rfl, ⟨rfl, rfl⟩, (tk2 (sf1 (sf7 h222)))⟩
  refine nG (fun q_ => .slice (some ⟨q_, 0, none⟩) 1 1) 93 [iV r.out.1, iV (j : Int), uV vg, iV vn, iV u0, uV u1] h186 (fun r224 w225 h226 => ⟨kd [rd 0 15 5 1 1 h226, rd 0 5 5 1 1 h226], ?_⟩)
  have h228 : sat g w225 [Sl 93 6 (some ⟨r184, 0, none⟩) 0 0 (fl eE []), Cl r224 [iV r.out.1, iV (j : Int), uV vg, iV vn, iV u0, uV u1] 93, Cl r42 [iV r.out.1, iV (j : Int), uV vg, iV vn, iV u0, uV u1] 93, Cl r33 [iV (j : Int), uV vg] 38, Zs s17 n (A.set j (1, vg)), Cl b [pV s17, .slice p18 X.length c19, .slice p20 Q.length c21] 78, Sl 93 6 p18 X.length c19 (fl eE X), Sl 54 8 p20 Q.length c21 (fl eRs Q), Cl r13 [iV 0, iV 0, uV 0] 25, Cl r10 [iV u0, uV u1] 38, R] := sl_of_cl (tk11 (sf10 (sf9 (sf10 (sf10 (sf10 (sf10 (sf10 (sf10 (sf10 (sf10 (sf10 h226)))))))))))) rfl (by omega)
  refine actG ?_
  refine an_append_gv (d := 68) (sz := 6) (s := (Operand.tmp 61)) (x := (Operand.tmp 67)) (z := .agg #[iV 0, iV 0, uV 0, iV 0, iV 0, uV 0]) (p := (some ⟨r184, 0, none⟩)) (p2 := p18) (m := 0) (c := 0) (k := k) (c2 := c19) (by_ := 48) (by kernel_rfl) (by kernel_rfl) rfl Tryz.underlying75 (by kernel_rfl) rfl (by decide) (by kernel_rfl) (by kernel_rfl) h228 6 rfl (fl eE (X.take k)) (gv_list eE_ok (gv_sl _ _ _) (by omega)) (by rw [fl_len eE_ok, show ((X.take k)).length = k from (by rw [List.length_take]; omega)]) (fl_one eE_ok _) (by omega) (by omega) k (by omega) ?_
  intro p229 cap230 w231 h232
  have h233 : sat g w231 [Sl 93 6 p229 k cap230 (fl eE (X.take k)), Cl r224 [iV r.out.1, iV (j : Int), uV vg, iV vn, iV u0, uV u1] 93, Cl r42 [iV r.out.1, iV (j : Int), uV vg, iV vn, iV u0, uV u1] 93, Cl r33 [iV (j : Int), uV vg] 38, Zs s17 n (A.set j (1, vg)), Cl b [pV s17, .slice p18 X.length c19, .slice p20 Q.length c21] 78, Sl 93 6 p18 X.length c19 (fl eE X), Sl 54 8 p20 Q.length c21 (fl eRs Q), Cl r13 [iV 0, iV 0, uV 0] 25, Cl r10 [iV u0, uV u1] 38, R] := sat_imp h232 (fun _ hh => by exact hh)
  obtain ⟨hn234, hn235⟩ := sl_le h233
  refine ⟨kd [rd 0 15 5 1 1 h233], nxG ?_⟩
  refine actG ?_
  refine an_append (d := 71) (sz := 6) (s := (Operand.tmp 68)) (x := (Operand.tmp 70)) (z := .agg #[iV 0, iV 0, uV 0, iV 0, iV 0, uV 0]) (p := p229) (m := k) (c := cap230) (k := 1) (c2 := 1) (a := ⟨r224, 0, none⟩) (by_ := 48) (by kernel_rfl) (by kernel_rfl) rfl Tryz.underlying75 (by kernel_rfl) rfl (by decide) (by kernel_rfl) (by kernel_rfl) h233 (fl eE [(⟨(r.out.1, (j : Int), vg), vn, (u0, u1)⟩ : Ety)]) rfl (fun j u hj => by rw [add_off]; exact sat_cell h233 1 rfl (by rw [Nat.zero_add]; exact hj)) (fl_one eE_ok _) (by omega) (by omega) (k + 1) (by omega) ?_
  intro p236 cap237 w238 h239
  have h240 : sat g w238 [Sl 93 6 p236 (k + 1) cap237 (fl eE ((X.take k) ++ [(⟨(r.out.1, (j : Int), vg), vn, (u0, u1)⟩ : Ety)])), Cl r224 [iV r.out.1, iV (j : Int), uV vg, iV vn, iV u0, uV u1] 93, Cl r42 [iV r.out.1, iV (j : Int), uV vg, iV vn, iV u0, uV u1] 93, Cl r33 [iV (j : Int), uV vg] 38, Zs s17 n (A.set j (1, vg)), Cl b [pV s17, .slice p18 X.length c19, .slice p20 Q.length c21] 78, Sl 93 6 p18 X.length c19 (fl eE X), Sl 54 8 p20 Q.length c21 (fl eRs Q), Cl r13 [iV 0, iV 0, uV 0] 25, Cl r10 [iV u0, uV u1] 38, R] := sat_imp h239 (fun _ hh => by rw [fl_app]; exact hh)
  obtain ⟨hn241, hn242⟩ := sl_le h240
  refine ⟨kd [rd 0 15 5 1 1 h240], nxG ?_⟩
  refine actG ?_
  refine an_append_gv (d := 78) (sz := 6) (s := (Operand.tmp 71)) (x := (Operand.tmp 77)) (z := .agg #[iV 0, iV 0, uV 0, iV 0, iV 0, uV 0]) (p := p236) (p2 := q182) (m := (k + 1)) (c := cap237) (k := (X.length - k)) (c2 := (c19 - k)) (by_ := 48) (by kernel_rfl) (by kernel_rfl) rfl Tryz.underlying75 (by kernel_rfl) rfl (by decide) (by kernel_rfl) (by kernel_rfl) h240 6 rfl (fl eE (X.drop k)) (gv_from eE_ok (gv_sl _ _ _) rfl (by omega) (by omega) hq183) (by rw [fl_len eE_ok, show ((X.drop k)).length = X.length - k from (List.length_drop)]) (fl_one eE_ok _) (by omega) (by omega) (X.length + 1) (by omega) ?_
  intro p243 cap244 w245 h246
  have h247 : sat g w245 [Sl 93 6 p243 (X.length + 1) cap244 (fl eE (((X.take k) ++ [(⟨(r.out.1, (j : Int), vg), vn, (u0, u1)⟩ : Ety)]) ++ (X.drop k))), Cl r224 [iV r.out.1, iV (j : Int), uV vg, iV vn, iV u0, uV u1] 93, Cl r42 [iV r.out.1, iV (j : Int), uV vg, iV vn, iV u0, uV u1] 93, Cl r33 [iV (j : Int), uV vg] 38, Zs s17 n (A.set j (1, vg)), Cl b [pV s17, .slice p18 X.length c19, .slice p20 Q.length c21] 78, Sl 93 6 p18 X.length c19 (fl eE X), Sl 54 8 p20 Q.length c21 (fl eRs Q), Cl r13 [iV 0, iV 0, uV 0] 25, Cl r10 [iV u0, uV u1] 38, R] := sat_imp h246 (fun _ hh => by rw [fl_app]; exact hh)
  obtain ⟨hn248, hn249⟩ := sl_le h247
  refine ⟨kd [], nxG ?_⟩
  have h250 := tk11 (sf10 (sf9 (sf9 (sf9 (sf9 (sf9 (sf10 (sf10 (sf10 (sf10 (sf10 h247)))))))))))
  refine go [] <| sG [(1, .slice p243 (X.length + 1) cap244)] [pV s17, .slice p243 (X.length + 1) cap244, .slice p20 Q.length c21] h250 fun w251 h252 => ⟨kd [], ?_⟩
  have h253 := tk11 (sf10 (sf9 (sf9 (sf9 (sf9 (sf9 (sf9 (sf9 (sf9 (sf10 (sf10 h252)))))))))))
  refine go [rd 7 1 3 0 3 h252] <| sP [(0, iV r.out.1), (1, iV (j : Int)), (2, uV vg)] [iV r.out.1, iV (j : Int), uV vg] h253 fun w254 h255 => go [] ?_
  have h257 : sat g w254 [Sl 93 6 p243 (X.length + 1) cap244 (fl eE (insX X j ⟨(r.out.1, (j : Int), vg), vn, (u0, u1)⟩)), Cl r13 [iV r.out.1, iV (j : Int), uV vg] 25, Cl b [pV s17, .slice p243 (X.length + 1) cap244, .slice p20 Q.length c21] 78, Cl r224 [iV r.out.1, iV (j : Int), uV vg, iV vn, iV u0, uV u1] 93, Cl r42 [iV r.out.1, iV (j : Int), uV vg, iV vn, iV u0, uV u1] 93, Cl r33 [iV (j : Int), uV vg] 38, Zs s17 n (A.set j (1, vg)), Sl 93 6 p18 X.length c19 (fl eE X), Sl 54 8 p20 Q.length c21 (fl eRs Q), Cl r10 [iV u0, uV u1] 38, R] := sat_imp (tk11 (sf10 (sf9 (sf9 (sf10 (sf10 (sf10 (sf10 (sf10 (sf10 (sf10 (sf10 h255)))))))))))) (fun _ hh_ => by rw [show ((((X.take k) ++ [(⟨(r.out.1, (j : Int), vg), vn, (u0, u1)⟩ : Ety)]) ++ (X.drop k)) : List Ety) = (insX X j ⟨(r.out.1, (j : Int), vg), vn, (u0, u1)⟩) from (ins_at hb_ (by omega) (fun y hy => by rw [List.getElem?_eq_none (by omega)] at hy; cases hy))] at hh_; exact hh_)
  have h258 := tk11 (sf10 (sf10 (sf8 (sf10 (sf7 (sf8 (sf8 (sf8 (sf9 (sf10 (sf10 h257)))))))))))
  have h259 : sat g w254 [Zr b n (A.set j (1, vg)) (insX X j ⟨(r.out.1, (j : Int), vg), vn, (u0, u1)⟩) Q, Cl r13 [iV r.out.1, iV (j : Int), uV vg] 25, Cl r224 [iV r.out.1, iV (j : Int), uV vg, iV vn, iV u0, uV u1] 93, Cl r42 [iV r.out.1, iV (j : Int), uV vg, iV vn, iV u0, uV u1] 93, Cl r33 [iV (j : Int), uV vg] 38, Sl 93 6 p18 X.length c19 (fl eE X), Cl r10 [iV u0, uV u1] 38, R] := zr_close (by rw [ins_len]; omega) ((ins_len _ _ _).symm ▸ (by omega)) (by first | rfl | (simp only [List.length_append, List.length_take, List.length_drop, List.length_cons, List.length_nil]; omega) | simp only [List.length_append, List.length_take, List.length_drop, List.length_cons, List.length_nil]) h258
  exact en (.agg #[iV r.out.1, iV (j : Int), uV vg]) [rd 0 0 0 0 3 h255] ⟨_, _, rfl, ⟨rfl, rfl⟩, (tk2 (sf1 (sf7 h259)))⟩
 refine nG (fun q_ => .slice (some ⟨q_, 0, none⟩) 1 1) 93 [iV r.out.1, iV (j : Int), uV vg, iV vn, iV u0, uV u1] h181 (fun r261 w262 h263 => ⟨kd [rd 0 15 4 1 1 h263, rd 0 5 4 1 1 h263], ?_⟩)
 refine nG (fun q_ => .slice (some ⟨q_, 0, none⟩) 0 0) 93 [] h263 (fun r264 w265 h266 => ⟨kd [rd 0 15 5 1 1 h266, rd 0 5 5 1 1 h266], ?_⟩)
 have h267 : sat g w265 [Sl 93 6 (some ⟨r264, 0, none⟩) 0 0 (fl eE []), Cl r261 [iV r.out.1, iV (j : Int), uV vg, iV vn, iV u0, uV u1] 93, Cl r42 [iV r.out.1, iV (j : Int), uV vg, iV vn, iV u0, uV u1] 93, Cl r33 [iV (j : Int), uV vg] 38, Zs s17 n (A.set j (1, vg)), Cl b [pV s17, .slice p18 X.length c19, .slice p20 Q.length c21] 78, Sl 93 6 p18 X.length c19 (fl eE X), Sl 54 8 p20 Q.length c21 (fl eRs Q), Cl r13 [iV 0, iV 0, uV 0] 25, Cl r10 [iV u0, uV u1] 38, R] := sl_of_cl h266 rfl (by omega)
 refine actG ?_
 refine an_append_gv (d := 68) (sz := 6) (s := (Operand.tmp 61)) (x := (Operand.tmp 67)) (z := .agg #[iV 0, iV 0, uV 0, iV 0, iV 0, uV 0]) (p := (some ⟨r264, 0, none⟩)) (p2 := p18) (m := 0) (c := 0) (k := k) (c2 := c19) (by_ := 48) (by kernel_rfl) (by kernel_rfl) rfl Tryz.underlying75 (by kernel_rfl) rfl (by decide) (by kernel_rfl) (by kernel_rfl) h267 6 rfl (fl eE (X.take k)) (gv_list eE_ok (gv_sl _ _ _) (by omega)) (by rw [fl_len eE_ok, show ((X.take k)).length = k from (by rw [List.length_take]; omega)]) (fl_one eE_ok _) (by omega) (by omega) k (by omega) ?_
 intro p268 cap269 w270 h271
 have h272 : sat g w270 [Sl 93 6 p268 k cap269 (fl eE (X.take k)), Cl r261 [iV r.out.1, iV (j : Int), uV vg, iV vn, iV u0, uV u1] 93, Cl r42 [iV r.out.1, iV (j : Int), uV vg, iV vn, iV u0, uV u1] 93, Cl r33 [iV (j : Int), uV vg] 38, Zs s17 n (A.set j (1, vg)), Cl b [pV s17, .slice p18 X.length c19, .slice p20 Q.length c21] 78, Sl 93 6 p18 X.length c19 (fl eE X), Sl 54 8 p20 Q.length c21 (fl eRs Q), Cl r13 [iV 0, iV 0, uV 0] 25, Cl r10 [iV u0, uV u1] 38, R] := sat_imp h271 (fun _ hh => by exact hh)
 obtain ⟨hn273, hn274⟩ := sl_le h272
 refine ⟨kd [rd 0 15 5 1 1 h272], nxG ?_⟩
 refine actG ?_
 refine an_append (d := 71) (sz := 6) (s := (Operand.tmp 68)) (x := (Operand.tmp 70)) (z := .agg #[iV 0, iV 0, uV 0, iV 0, iV 0, uV 0]) (p := p268) (m := k) (c := cap269) (k := 1) (c2 := 1) (a := ⟨r261, 0, none⟩) (by_ := 48) (by kernel_rfl) (by kernel_rfl) rfl Tryz.underlying75 (by kernel_rfl) rfl (by decide) (by kernel_rfl) (by kernel_rfl) h272 (fl eE [(⟨(r.out.1, (j : Int), vg), vn, (u0, u1)⟩ : Ety)]) rfl (fun j u hj => by rw [add_off]; exact sat_cell h272 1 rfl (by rw [Nat.zero_add]; exact hj)) (fl_one eE_ok _) (by omega) (by omega) (k + 1) (by omega) ?_
 intro p275 cap276 w277 h278
 have h279 : sat g w277 [Sl 93 6 p275 (k + 1) cap276 (fl eE ((X.take k) ++ [(⟨(r.out.1, (j : Int), vg), vn, (u0, u1)⟩ : Ety)])), Cl r261 [iV r.out.1, iV (j : Int), uV vg, iV vn, iV u0, uV u1] 93, Cl r42 [iV r.out.1, iV (j : Int), uV vg, iV vn, iV u0, uV u1] 93, Cl r33 [iV (j : Int), uV vg] 38, Zs s17 n (A.set j (1, vg)), Cl b [pV s17, .slice p18 X.length c19, .slice p20 Q.length c21] 78, Sl 93 6 p18 X.length c19 (fl eE X), Sl 54 8 p20 Q.length c21 (fl eRs Q), Cl r13 [iV 0, iV 0, uV 0] 25, Cl r10 [iV u0, uV u1] 38, R] := sat_imp h278 (fun _ hh => by rw [fl_app]; exact hh)
 obtain ⟨hn280, hn281⟩ := sl_le h279
 refine ⟨kd [rd 0 15 5 1 1 h279], nxG ?_⟩
 refine actG ?_
 refine an_append_gv (d := 78) (sz := 6) (s := (Operand.tmp 71)) (x := (Operand.tmp 77)) (z := .agg #[iV 0, iV 0, uV 0, iV 0, iV 0, uV 0]) (p := p275) (p2 := q182) (m := (k + 1)) (c := cap276) (k := (X.length - k)) (c2 := (c19 - k)) (by_ := 48) (by kernel_rfl) (by kernel_rfl) rfl Tryz.underlying75 (by kernel_rfl) rfl (by decide) (by kernel_rfl) (by kernel_rfl) h279 6 rfl (fl eE (X.drop k)) (gv_from eE_ok (gv_sl _ _ _) rfl (by omega) (by omega) hq183) (by rw [fl_len eE_ok, show ((X.drop k)).length = X.length - k from (List.length_drop)]) (fl_one eE_ok _) (by omega) (by omega) (X.length + 1) (by omega) ?_
 intro p282 cap283 w284 h285
 have h286 : sat g w284 [Sl 93 6 p282 (X.length + 1) cap283 (fl eE (((X.take k) ++ [(⟨(r.out.1, (j : Int), vg), vn, (u0, u1)⟩ : Ety)]) ++ (X.drop k))), Cl r261 [iV r.out.1, iV (j : Int), uV vg, iV vn, iV u0, uV u1] 93, Cl r42 [iV r.out.1, iV (j : Int), uV vg, iV vn, iV u0, uV u1] 93, Cl r33 [iV (j : Int), uV vg] 38, Zs s17 n (A.set j (1, vg)), Cl b [pV s17, .slice p18 X.length c19, .slice p20 Q.length c21] 78, Sl 93 6 p18 X.length c19 (fl eE X), Sl 54 8 p20 Q.length c21 (fl eRs Q), Cl r13 [iV 0, iV 0, uV 0] 25, Cl r10 [iV u0, uV u1] 38, R] := sat_imp h285 (fun _ hh => by rw [fl_app]; exact hh)
 obtain ⟨hn287, hn288⟩ := sl_le h286
 refine ⟨kd [], nxG ?_⟩
 have h289 := tk11 (sf10 (sf9 (sf9 (sf9 (sf9 (sf9 (sf10 (sf10 (sf10 (sf10 (sf10 h286)))))))))))
 refine go [] <| sG [(1, .slice p282 (X.length + 1) cap283)] [pV s17, .slice p282 (X.length + 1) cap283, .slice p20 Q.length c21] h289 fun w290 h291 => ⟨kd [], ?_⟩
 have h292 := tk11 (sf10 (sf9 (sf9 (sf9 (sf9 (sf9 (sf9 (sf9 (sf9 (sf10 (sf10 h291)))))))))))
 refine go [rd 7 1 3 0 3 h291] <| sP [(0, iV r.out.1), (1, iV (j : Int)), (2, uV vg)] [iV r.out.1, iV (j : Int), uV vg] h292 fun w293 h294 => go [] ?_
 have h296 : sat g w293 [Sl 93 6 p282 (X.length + 1) cap283 (fl eE (insX X j ⟨(r.out.1, (j : Int), vg), vn, (u0, u1)⟩)), Cl r13 [iV r.out.1, iV (j : Int), uV vg] 25, Cl b [pV s17, .slice p282 (X.length + 1) cap283, .slice p20 Q.length c21] 78, Cl r261 [iV r.out.1, iV (j : Int), uV vg, iV vn, iV u0, uV u1] 93, Cl r42 [iV r.out.1, iV (j : Int), uV vg, iV vn, iV u0, uV u1] 93, Cl r33 [iV (j : Int), uV vg] 38, Zs s17 n (A.set j (1, vg)), Sl 93 6 p18 X.length c19 (fl eE X), Sl 54 8 p20 Q.length c21 (fl eRs Q), Cl r10 [iV u0, uV u1] 38, R] := sat_imp (tk11 (sf10 (sf9 (sf9 (sf10 (sf10 (sf10 (sf10 (sf10 (sf10 (sf10 (sf10 h294)))))))))))) (fun _ hh_ => by rw [show ((((X.take k) ++ [(⟨(r.out.1, (j : Int), vg), vn, (u0, u1)⟩ : Ety)]) ++ (X.drop k)) : List Ety) = (insX X j ⟨(r.out.1, (j : Int), vg), vn, (u0, u1)⟩) from (ins_at hb_ (by omega) (fun y hy => by rw [List.getElem?_eq_none (by omega)] at hy; cases hy))] at hh_; exact hh_)
 have h297 := tk11 (sf10 (sf10 (sf8 (sf10 (sf7 (sf8 (sf8 (sf8 (sf9 (sf10 (sf10 h296)))))))))))
 have h298 : sat g w293 [Zr b n (A.set j (1, vg)) (insX X j ⟨(r.out.1, (j : Int), vg), vn, (u0, u1)⟩) Q, Cl r13 [iV r.out.1, iV (j : Int), uV vg] 25, Cl r261 [iV r.out.1, iV (j : Int), uV vg, iV vn, iV u0, uV u1] 93, Cl r42 [iV r.out.1, iV (j : Int), uV vg, iV vn, iV u0, uV u1] 93, Cl r33 [iV (j : Int), uV vg] 38, Sl 93 6 p18 X.length c19 (fl eE X), Cl r10 [iV u0, uV u1] 38, R] := zr_close (by rw [ins_len]; omega) ((ins_len _ _ _).symm ▸ (by omega)) (by first | rfl | (simp only [List.length_append, List.length_take, List.length_drop, List.length_cons, List.length_nil]; omega) | simp only [List.length_append, List.length_take, List.length_drop, List.length_cons, List.length_nil]) h297
 exact en (.agg #[iV r.out.1, iV (j : Int), uV vg]) [rd 0 0 0 0 3 h294] ⟨_, _, rfl, ⟨rfl, rfl⟩, (tk2 (sf1 (sf7 h298)))⟩

end Go.Proofs.YtjjpmehiolejgaaGreat
