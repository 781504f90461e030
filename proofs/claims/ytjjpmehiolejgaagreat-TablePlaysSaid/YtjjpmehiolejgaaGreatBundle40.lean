/- Walks, printed by my generator z17.py. -/
import Derived.Test.YtjjpmehiolejgaaGreatBundle38
import Derived.Test.YtjjpmehiolejgaaGreatTgS
import Derived.Test.YtjjpmehiolejgaaGreatBundle29
namespace Go.Proofs.YtjjpmehiolejgaaGreat
set_option maxHeartbeats 4000000 in
theorem short_ht (wo : World) (p0 : Option Addr) (n cp : Nat) (T : List Sq2) (hr : Rd wo p0 n (fl eSp T)) (hT : T.length = n) : HT Tryz.prog 4 [Value.slice p0 n cp, Value.int IntKind.i64 100] [Old wo] (fun v K => (n ≤ 100 ∧ (∀ s ∈ T, SpSh s) ∧ v = Value.bool true ∧ K = [Old wo]) ∨ (v = Value.bool false ∧ K = [Old wo])) := by
 refine hiS Tryz.func4 Tryz.ntmps4 fun g w0 R h0 => go [.s 1 3] ?_
 by_cases c10 : (n : Int) > 100
 ·
  refine go [.v 1 3 (oT ((n : Int) > 100))] ?_
  exact en (.bool false) [] ⟨_, _, rfl, .inr ⟨rfl, rfl⟩, h0⟩
 refine go [.v 1 3 (oF ((n : Int) > 100))] ?_
 refine lpS (fun mz_ a w => ∃ i : Nat, ∃ lr : Fr, mz_ = n - i ∧ (i ≤ n) ∧ (∀ s ∈ T.take i, SpSh s) ∧ a = mk 33 (([(0, .slice p0 n cp), (5, iV (i : Int))] : Fr) ++ lr) ∧ sat g w [Old wo, R]) (n - 0) ⟨0, _, rfl, (Nat.zero_le _), (fun s hs => by cases hs), (lvF [.k 0 (.slice p0 n cp), .o 5 (oJ .i64 0 (0 : Int))]), h0⟩ ?_
 rintro m12 a13 w14 ⟨i, lr11, rfl, hi_, hi2_, rfl, h15⟩
 refine ga <| go [.s 4 3] ?_
 by_cases c16 : (i : Int) < (n : Int)
 ·
  obtain ⟨b17, off19, hp18⟩ := gv_ptr (j := 0) h15 rfl (gv_old hr) (by omega)
  refine go [.v 4 3 (oT ((i : Int) < (n : Int))), .s 6 2] <| lwP (.pointer (some ⟨b17, off19 + i * 19, none⟩)) (law_indexSlP (x := (Operand.tmp 16)) (i := (Operand.tmp 17)) (p := p0) (b := b17) (off := off19) (z := (i : Int)) (len := n) (cap := cp) (by kernel_rfl) Tryz.underlying23 19 (by kernel_rfl) i (by kernel_rfl) hp18 (by kernel_rfl) (by omega) (by omega) (off19 + i * 19) (by omega) _) ?_
  obtain ⟨x20, hx21⟩ : ∃ x, T[i]? = some x := ⟨_, List.getElem?_eq_getElem (by rw [hT]; omega)⟩
  refine go [.r 6 4 b17 (off19 + i * 19 + 4) [.string (St x20.tag)] ⟨gv_cell (j := 0) h15 rfl (gv_old hr) hp18 (fl_get eSp_ok (j := 4) (v := .string (St x20.tag)) hx21 rfl) (off19 + i * 19 + 4) (by omega), trivial⟩, .v 6 5 (⟨iV ((St x20.tag).size : Int), iV (((x20.tag.length : Nat) : Int)), (ov_int (st_len _))⟩), .s 6 6] ?_
  by_cases c22 : ((x20.tag.length : Nat) : Int) > 60
  ·
   refine go [.v 6 6 (oT (((x20.tag.length : Nat) : Int) > 60))] <| up <| go [] ?_
   exact en (.bool false) [] ⟨_, _, rfl, .inr ⟨rfl, rfl⟩, h15⟩
  refine go [.v 6 6 (oF (((x20.tag.length : Nat) : Int) > 60)), .s 6 10] <| lwP (.pointer (some ⟨b17, off19 + i * 19, none⟩)) (law_indexSlP (x := (Operand.tmp 24)) (i := (Operand.tmp 25)) (p := p0) (b := b17) (off := off19) (z := (i : Int)) (len := n) (cap := cp) (by kernel_rfl) Tryz.underlying23 19 (by kernel_rfl) i (by kernel_rfl) hp18 (by kernel_rfl) (by omega) (by omega) (off19 + i * 19) (by omega) _) <| go [.r 6 13 b17 (off19 + i * 19 + 18) [.string (St x20.r.tag)] ⟨gv_cell (j := 0) h15 rfl (gv_old hr) hp18 (fl_get eSp_ok (j := 18) (v := .string (St x20.r.tag)) hx21 rfl) (off19 + i * 19 + 18) (by omega), trivial⟩, .v 6 14 (⟨iV ((St x20.r.tag).size : Int), iV (((x20.r.tag.length : Nat) : Int)), (ov_int (st_len _))⟩), .s 6 15] ?_
  by_cases c23 : ((x20.r.tag.length : Nat) : Int) > 60
  ·
   refine go [.v 6 15 (oT (((x20.r.tag.length : Nat) : Int) > 60))] <| up <| go [] ?_
   exact en (.bool false) [] ⟨_, _, rfl, .inr ⟨rfl, rfl⟩, h15⟩
  refine go [.v 6 15 (oF (((x20.r.tag.length : Nat) : Int) > 60)), .v 5 1 (oIr ((i : Int) + 1))] ?_
  refine enL ?_
  change ∃ n', n' < _ ∧ _
  refine ⟨(n - (i + 1)), by omega, (i + 1), _, rfl, (by omega), (sh_step hi2_ hx21 ⟨by omega, by omega⟩), (lvF [.k 0 (.slice p0 n cp), .o 5 (oJ .i64 ((i : Int) + 1) ((((i + 1) : Nat) : Int)))]), h15⟩
 refine go [.v 4 3 (oF ((i : Int) < (n : Int)))] <| up <| go [] ?_
 exact en (.bool true) [] ⟨_, _, rfl, .inl ⟨by omega, sh_all hi2_ (by omega), rfl, rfl⟩, h15⟩

end Go.Proofs.YtjjpmehiolejgaaGreat

/- Walks, printed by my generator ../tab/gen18.py. -/
namespace Go.Proofs.YtjjpmehiolejgaaGreat
theorem mem_vals {E : Tm} {k : Int} {e : Ety} (h : gget E k = some e) : ∃ q ∈ E, q.2 = e := by
  induction E with
  | nil => cases h
  | cons q E ih =>
    obtain ⟨a, v⟩ := q
    simp only [gget] at h
    split at h
    · exact ⟨_, List.mem_cons_self, Option.some.inj h⟩
    · obtain ⟨q, h1, h2⟩ := ih h
      exact ⟨q, List.mem_cons_of_mem _ h1, h2⟩
theorem not_has {E : Tm} {p : Int × Int} (h : ∀ q ∈ E, q.2.h ≠ p) : ∀ e ∈ allE E, e.h ≠ p := fun e he => by
  obtain ⟨k, _, hk⟩ := List.mem_filterMap.1 he
  obtain ⟨q, h1, h2⟩ := mem_vals hk
  rw [← h2]
  exact h q h1
theorem has_at {E : Tm} {p : Int × Int} (k : Nat) (e : Ety) (h : gget E (k : Int) = some e) (hk : k < 256) (he : e.h = p) : ∃ e ∈ allE E, e.h = p := ⟨e, List.mem_of_getElem? (allE_at h hk), he⟩
theorem tnew_lit (n : Nat) (gn : Int) (hn : 1 ≤ n ∧ n ≤ 256) (hgn : 1 ≤ gn ∧ gn ≤ 4294967295) (A2 : List Sl2) (hA : List.replicate n (0, gn) = A2) : HT Tryz.prog 6 [Value.int IntKind.i64 (((n : Nat) : Int)), Value.int IntKind.u32 gn] [] (fun v K => ∃ b : Nat, v = Value.tuple #[Value.pointer (some ⟨b, 0, none⟩), Value.int .i64 0] ∧ K = [Tab b n A2 [] []]) := by
  subst hA
  exact tnew_ok n gn hn hgn
theorem topen_lit (b n : Nat) (A : List Sl2) (E : Tm) (RL : List Rs) (x y z hx hy : Int) (L : List UInt8) (hz0 : 0 ≤ z) (hz1 : z ≤ 4294967295) (hm : L.length ≤ 1099511627776) (ho : 1 ≤ x ∧ x ≤ 3 ∧ 0 ≤ y ∧ y ≤ 63 ∧ 1 ≤ z) (ht : tagE L = 0) (hob : 0 ≤ hx ∧ hx ≤ 255 ∧ 1 ≤ hy) (hc : ∀ r ∈ RL, r.out ≠ (x, y, z)) (hh : ∀ e ∈ allE E, e.h ≠ (hx, hy)) (hl : RL.length < 2000) (j : Nat) (gj : Int) (hj : (inS 0 A 0)[0]? = some (j, gj)) (hfl_ : 1 ≤ (inS 0 A 0).length) (jz : Int) (hjz : (j : Int) = jz) (A2 : List Sl2) (E2 : Tm) (R2 : List Rs) (hA : A.set j (1, gj) = A2) (hE : gset E (j : Int) ⟨(x, (j : Int), gj), (RL.length : Int) + 1, (hx, hy)⟩ = E2) (hR : RL ++ [(⟨(x, y, z), 1, 0, 0, 0, L⟩ : Rs)] = R2) : HT Tryz.prog 8 [Value.pointer (some ⟨b, 0, none⟩), Value.agg #[Value.int IntKind.i64 x, Value.int IntKind.i64 y, Value.int IntKind.u32 z], Value.string (St L), Value.agg #[Value.int IntKind.i64 hx, Value.int IntKind.u32 hy]] [Tab b n A E RL] (fun v K => v = Value.tuple #[Value.agg #[Value.int IntKind.i64 x, Value.int IntKind.i64 jz, Value.int IntKind.u32 gj], Value.int IntKind.i64 0] ∧ K = [Tab b n A2 E2 R2]) := by
  subst hA
  subst hE
  subst hR
  subst hjz
  exact topen_ok b n A E RL x y z hx hy L hz0 hz1 hm ho ht hob hc hh hl j gj hj hfl_
theorem tdup_lit (b n : Nat) (A : List Sl2) (E : Tm) (RL : List Rs) (x y z hx hy : Int) (hob : 0 ≤ hx ∧ hx ≤ 255 ∧ 1 ≤ hy) (e : Ety) (hz0 : 0 ≤ z) (hz1 : z ≤ 4294967295) (ho : 1 ≤ x ∧ x ≤ 3 ∧ 0 ≤ y ∧ y ≤ 255 ∧ 1 ≤ z) (hg_ : gget E y = some e) (hd_ : e.d.1 = x ∧ e.d.2.1 = y ∧ e.d.2.2 = z) (hh : ∀ e ∈ allE E, e.h ≠ (hx, hy)) (q : Nat) (r : Rs) (hr : RL[q]? = some r) (hv : e.num = (q : Int) + 1) (j : Nat) (gj : Int) (hj : (inS 0 A 0)[0]? = some (j, gj)) (hfl_ : 1 ≤ (inS 0 A 0).length) (jz kz : Int) (hjz : (j : Int) = jz) (hkz : r.out.1 = kz) (A2 : List Sl2) (E2 : Tm) (hA : A.set j (1, gj) = A2) (hE : gset E (j : Int) ⟨(r.out.1, (j : Int), gj), e.num, (hx, hy)⟩ = E2) : HT Tryz.prog 10 [Value.pointer (some ⟨b, 0, none⟩), Value.agg #[Value.int IntKind.i64 x, Value.int IntKind.i64 y, Value.int IntKind.u32 z], Value.agg #[Value.int IntKind.i64 hx, Value.int IntKind.u32 hy]] [Tab b n A E RL] (fun v K => v = Value.tuple #[Value.agg #[Value.int IntKind.i64 kz, Value.int IntKind.i64 jz, Value.int IntKind.u32 gj], Value.int IntKind.i64 0] ∧ K = [Tab b n A2 E2 RL]) := by
  subst hA
  subst hE
  subst hjz
  subst hkz
  exact tdup_ok b n A E RL x y z hx hy hob e hz0 hz1 ho hg_ hd_ hh q r hr hv j gj hj hfl_
theorem tclose_lit (b n : Nat) (A : List Sl2) (E : Tm) (RL : List Rs) (x y z : Int) (e : Ety) (hz0 : 0 ≤ z) (hz1 : z ≤ 4294967295) (ho : 1 ≤ x ∧ x ≤ 3 ∧ 0 ≤ y ∧ y ≤ 255 ∧ 1 ≤ z) (hg_ : gget E y = some e) (hd_ : e.d.1 = x ∧ e.d.2.1 = y ∧ e.d.2.2 = z) (q : Nat) (s : Sl2) (hs : A[q]? = some s) (hs_ : y = (q : Int) ∧ s.1 = 1 ∧ s.2 = z) (hnum : 1 ≤ e.num ∧ e.num ≤ (RL.length : Int)) (nz : Int) (hnz : e.num = nz) (lb : Bool) (hlb : decide ((descs (gdel E y) e.num).length = 0) = lb) (A2 : List Sl2) (E2 : Tm) (hA : giveA A q z = A2) (hE : gdel E y = E2) : HT Tryz.prog 12 [Value.pointer (some ⟨b, 0, none⟩), Value.agg #[Value.int IntKind.i64 x, Value.int IntKind.i64 y, Value.int IntKind.u32 z]] [Tab b n A E RL] (fun v K => v = Value.tuple #[Value.int .i64 nz, Value.bool lb, Value.int .i64 0] ∧ K = [Tab b n A2 E2 RL]) := by
  subst hA
  subst hE
  subst hlb
  subst hnz
  exact tclose_ok b n A E RL x y z e hz0 hz1 ho hg_ hd_ q s hs hs_ hnum
theorem seq25_eql_t {n : Nat} {l : Fr} {o : Oper} {x y : Operand} (a0 : Int) (a1 : Int) (a2 : Int) (c0 : Int) (c1 : Int) (c2 : Int) (ho : o.op = .binOp .eql 25 x y 25) (hx : fe n l x = .agg #[.int .i64 a0, .int .i64 a1, .int .u32 a2]) (hy : fe n l y = .agg #[.int .i64 c0, .int .i64 c1, .int .u32 c2]) (h : a0 = c0 ∧ a1 = c1 ∧ a2 = c2) (w : World) : (execOp (fe n l) o).run Tryz.prog w = .ok (.value (.bool true)) w := by
  obtain ⟨rfl, rfl, rfl⟩ := h
  simp [execOp, ho, hx, hy, go_sem]
set_option maxHeartbeats 4000000 in
theorem lfile (y z : Int) : HT Tryz.prog 23 [Value.int IntKind.i64 y, Value.int IntKind.u32 z] [] (fun v K => v = Value.agg #[Value.int IntKind.i64 1, Value.int IntKind.i64 y, Value.int IntKind.u32 z] ∧ K = []) := by
 refine hiS Tryz.func23 Tryz.ntmps23 fun g w0 R h0 => go [] <| nP 36 [iV 0, iV 0, uV 0] h0 (fun r10 w11 h12 => ?_)
 refine go [] <| sP [(0, iV 1), (1, iV y), (2, uV z)] [iV 1, iV y, uV z] h12 fun w13 h14 => go [] ?_
 exact en (.agg #[iV 1, iV y, uV z]) [rd 0 0 0 0 3 h14] ⟨_, _, rfl, ⟨rfl, rfl⟩, (tk1 (sf1 h14))⟩

set_option maxHeartbeats 4000000 in
theorem ldesc (y z : Int) : HT Tryz.prog 24 [Value.int IntKind.i64 y, Value.int IntKind.u32 z] [] (fun v K => v = Value.agg #[Value.int IntKind.i64 1, Value.int IntKind.i64 y, Value.int IntKind.u32 z] ∧ K = []) := by
 refine hiS Tryz.func24 Tryz.ntmps24 fun g w0 R h0 => go [] <| nP 25 [iV 0, iV 0, uV 0] h0 (fun r10 w11 h12 => ?_)
 refine go [] <| sP [(0, iV 1), (1, iV y), (2, uV z)] [iV 1, iV y, uV z] h12 fun w13 h14 => go [] ?_
 exact en (.agg #[iV 1, iV y, uV z]) [rd 0 0 0 0 3 h14] ⟨_, _, rfl, ⟨rfl, rfl⟩, (tk1 (sf1 h14))⟩

set_option maxHeartbeats 4000000 in
theorem works_ht  : HT Tryz.prog 5 [] [] (fun v K => v = Value.bool true ∧ K = []) := by
 refine hiS Tryz.func5 Tryz.ntmps5 fun g w0 R h0 => go [] <| cP Tryz.call6 (tnew_lit 2 1 (by omega) (by omega) [(0, 1), (0, 1)] (by kernel_rfl)) h0 ?_
 rintro v K w11 (⟨b10, rfl, rfl⟩) h12
 have h13 := ap1 h12
 refine go [] <| cl0 Tryz.call23 (lfile 0 1) h13 fun w14 h15 => go [] <| cl1 Tryz.call8 (topen_lit b10 2 [(0, 1), (0, 1)] [] [] (1) (0) (1) (5) (1) [109, 97, 105, 110] (by omega) (by omega) (by simp only [List.length_cons, List.length_nil]; omega) (by omega) (by kernel_rfl) (by omega) (by decide) (not_has (by decide)) (by decide) 0 1 (by kernel_rfl) (by decide) 0 rfl [(1, 1), (0, 1)] [(0, ⟨(1, 0, 1), 1, (5, 1)⟩)] [⟨(1, 0, 1), 1, 0, 0, 0, [109, 97, 105, 110]⟩] (by kernel_rfl) (by kernel_rfl) (by kernel_rfl)) h15 fun w16 h17 => ?_
 refine go [] <| nP 25 [iV 0, iV 0, uV 0] h17 (fun r18 w19 h20 => ?_)
 refine sP [(0, iV 1), (1, iV 0), (2, uV 1)] [iV 1, iV 0, uV 1] h20 fun w21 h22 => go [] <| cl0 Tryz.call23 (lfile 1 1) h22 fun w23 h24 => ?_
 have h25 := tk3 (sf2 (sf1 (sf2 h24)))
 refine go [] <| cl1 Tryz.call8 (topen_have b10 2 [(1, 1), (0, 1)] [(0, ⟨(1, 0, 1), 1, (5, 1)⟩)] ([⟨(1, 0, 1), 1, 0, 0, 0, [109, 97, 105, 110]⟩]) (1) (1) (1) (5) (1) [120] (by omega) (by omega) (by simp only [List.length_cons, List.length_nil]; omega) (by omega) (by kernel_rfl) (by omega) (by decide) (has_at 0 ⟨(1, 0, 1), 1, (5, 1)⟩ (by kernel_rfl) (by decide) rfl)) h25 fun w26 h27 => ?_
 refine go [] <| nP 25 [iV 0, iV 0, uV 0] h27 (fun r28 w29 h30 => ?_)
 refine sP [(0, iV 0), (1, iV 0), (2, uV 0)] [iV 0, iV 0, uV 0] h30 fun w31 h32 => ?_
 have h33 := tk4 (sf3 (sf2 (sf3 (sf3 h32))))
 refine go [rd 6 1 2 0 3 h32] <| cl1 Tryz.call10 (tdup_lit b10 2 [(1, 1), (0, 1)] [(0, ⟨(1, 0, 1), 1, (5, 1)⟩)] ([⟨(1, 0, 1), 1, 0, 0, 0, [109, 97, 105, 110]⟩]) 1 0 1 6 1 (by omega) ⟨(1, 0, 1), 1, (5, 1)⟩ (by omega) (by omega) (by omega) (by kernel_rfl) (by decide) (not_has (by decide)) 0 ⟨(1, 0, 1), 1, 0, 0, 0, [109, 97, 105, 110]⟩ rfl (by decide) 1 1 (by kernel_rfl) (by decide) 1 1 rfl rfl [(1, 1), (1, 1)] [(0, ⟨(1, 0, 1), 1, (5, 1)⟩), (1, ⟨(1, 1, 1), 1, (6, 1)⟩)] (by kernel_rfl) (by kernel_rfl)) h33 fun w34 h35 => go [] <| nP 25 [iV 0, iV 0, uV 0] h35 (fun r36 w37 h38 => ?_)
 refine sP [(0, iV 1), (1, iV 1), (2, uV 1)] [iV 1, iV 1, uV 1] h38 fun w39 h40 => go [] <| dw (fls [0, 1, 2, 3] (Tr.an 4 (fls [5, 6, 7, 8, 9, 10, 11, 12, 13, 14, 15, 16] (Tr.an 17 (fls [18, 19] Tr.nil))))) h40 fun w41 h42 => go [rd 7 3 3 0 3 h42] <| cd0 Tryz.call24 (ldesc 0 1) h42 fun w43 h44 => ⟨kd [rd 0 3 3 0 3 h44], ?_⟩
 refine lw (.bool false) (fun _ => seq25_neq_t (x := (Operand.tmp 55)) (y := (Operand.tmp 56)) 1 0 1 1 0 1 (by kernel_rfl) (by kernel_rfl) (by kernel_rfl) ⟨rfl, rfl, rfl⟩ _) <| go [rd 7 16 0 0 3 h44] <| cd0 Tryz.call24 (ldesc 1 1) h44 fun w45 h46 => ⟨kd [rd 0 16 0 0 3 h46], ?_⟩
 refine lw (.bool false) (fun _ => seq25_neq_t (x := (Operand.tmp 68)) (y := (Operand.tmp 69)) 1 1 1 1 1 1 (by kernel_rfl) (by kernel_rfl) (by kernel_rfl) ⟨rfl, rfl, rfl⟩ _) ?_
 have h47 := tk5 (sf4 (sf3 (sf4 (sf4 (sf4 h46)))))
 refine go [rd 9 1 3 0 3 h46] <| cl1 Tryz.call12 (tclose_lit b10 2 [(1, 1), (1, 1)] [(0, ⟨(1, 0, 1), 1, (5, 1)⟩), (1, ⟨(1, 1, 1), 1, (6, 1)⟩)] ([⟨(1, 0, 1), 1, 0, 0, 0, [109, 97, 105, 110]⟩]) 1 0 1 ⟨(1, 0, 1), 1, (5, 1)⟩ (by omega) (by omega) (by omega) (by kernel_rfl) (by decide) 0 (1, 1) rfl (by decide) (by decide) 1 rfl false (by kernel_rfl) [(0, 2), (1, 1)] [(1, ⟨(1, 1, 1), 1, (6, 1)⟩)] (by kernel_rfl) (by kernel_rfl)) h47 fun w48 h49 => go [rd 10 1 3 0 3 h49] <| cl1 Tryz.call25 (tnum_none b10 2 [(0, 2), (1, 1)] [(1, ⟨(1, 1, 1), 1, (6, 1)⟩)] ([⟨(1, 0, 1), 1, 0, 0, 0, [109, 97, 105, 110]⟩]) 1 0 1 (by omega) (by omega) (by omega) (by kernel_rfl)) h49 fun w50 h51 => go [rd 11 1 1 0 3 h51] <| cl1 Tryz.call12 (tclose_lit b10 2 [(0, 2), (1, 1)] [(1, ⟨(1, 1, 1), 1, (6, 1)⟩)] ([⟨(1, 0, 1), 1, 0, 0, 0, [109, 97, 105, 110]⟩]) 1 1 1 ⟨(1, 1, 1), 1, (6, 1)⟩ (by omega) (by omega) (by omega) (by kernel_rfl) (by decide) 1 (1, 1) rfl (by decide) (by decide) 1 rfl true (by kernel_rfl) [(0, 2), (0, 2)] [] (by kernel_rfl) (by kernel_rfl)) h51 fun w52 h53 => go [] <| cl0 Tryz.call23 (lfile 1 1) h53 fun w54 h55 => go [] <| cl1 Tryz.call8 (topen_lit b10 2 [(0, 2), (0, 2)] [] ([⟨(1, 0, 1), 1, 0, 0, 0, [109, 97, 105, 110]⟩]) (1) (1) (1) (5) (1) [120] (by omega) (by omega) (by simp only [List.length_cons, List.length_nil]; omega) (by omega) (by kernel_rfl) (by omega) (by decide) (not_has (by decide)) (by decide) 0 2 (by kernel_rfl) (by decide) 0 rfl [(1, 2), (0, 2)] [(0, ⟨(1, 0, 2), 2, (5, 1)⟩)] [⟨(1, 0, 1), 1, 0, 0, 0, [109, 97, 105, 110]⟩, ⟨(1, 1, 1), 1, 0, 0, 0, [120]⟩] (by kernel_rfl) (by kernel_rfl) (by kernel_rfl)) h55 fun w56 h57 => ?_
 refine go [] <| nP 25 [iV 0, iV 0, uV 0] h57 (fun r58 w59 h60 => ?_)
 refine sP [(0, iV 1), (1, iV 0), (2, uV 2)] [iV 1, iV 0, uV 2] h60 fun w61 h62 => ?_
 have h63 := tk6 (sf5 (sf4 (sf5 (sf5 (sf5 (sf5 h62))))))
 refine go [rd 13 1 4 0 3 h62] <| cl1 Tryz.call25 (tnum_diff b10 2 [(1, 2), (0, 2)] [(0, ⟨(1, 0, 2), 2, (5, 1)⟩)] ([⟨(1, 0, 1), 1, 0, 0, 0, [109, 97, 105, 110]⟩, ⟨(1, 1, 1), 1, 0, 0, 0, [120]⟩]) 1 0 1 ⟨(1, 0, 2), 2, (5, 1)⟩ (by omega) (by omega) (by omega) (by kernel_rfl) (by decide)) h63 fun w64 h65 => go [] <| dw (fls [0, 1, 2, 3, 4, 5, 6, 7, 8, 9, 10, 11, 12, 13, 14, 15, 16, 17, 18, 19, 20, 21, 22, 23, 24, 25, 26, 27, 28, 29, 30] (Tr.an 31 (fls [32, 33, 34, 35, 36, 37, 38, 39] (Tr.an 40 (fls [41, 42, 43] Tr.nil))))) h65 fun w66 h67 => go [rd 14 30 1 0 3 h67] <| cd0 Tryz.call24 (ldesc 0 2) h67 fun w68 h69 => ⟨kd [rd 0 30 1 0 3 h69], ?_⟩
 refine lw (.bool true) (fun _ => seq25_eql_t (x := (Operand.tmp 135)) (y := (Operand.tmp 136)) 1 0 2 1 0 2 (by kernel_rfl) (by kernel_rfl) (by kernel_rfl) ⟨rfl, rfl, rfl⟩ _) <| go [] <| cd1 Tryz.call26 ((by have h_ := tlen_ht b10 2 [(1, 2), (0, 2)] [(0, ⟨(1, 0, 2), 2, (5, 1)⟩)] ([⟨(1, 0, 1), 1, 0, 0, 0, [109, 97, 105, 110]⟩, ⟨(1, 1, 1), 1, 0, 0, 0, [120]⟩]); exact h_)) h69 fun w70 h71 => ⟨kd [], ?_⟩
 refine go [] ?_
 exact en (.bool true) [] ⟨_, _, rfl, ⟨rfl, rfl⟩, (tk1 (sf5 h71))⟩

end Go.Proofs.YtjjpmehiolejgaaGreat

/- Walks, printed by my generator z18.py. -/
namespace Go.Proofs.YtjjpmehiolejgaaGreat
theorem qz18e25_neq_t {n : Nat} {l : Fr} {o : Oper} {x y : Operand} (a0 : Int) (a1 : Int) (a2 : Int) (c0 : Int) (c1 : Int) (c2 : Int) (ho : o.op = .binOp .neq 25 x y 25) (hx : fe n l x = .agg #[.int .i64 a0, .int .i64 a1, .int .u32 a2]) (hy : fe n l y = .agg #[.int .i64 c0, .int .i64 c1, .int .u32 c2]) (h : a0 = c0 ∧ a1 = c1 ∧ a2 = c2) (w : World) : (execOp (fe n l) o).run Tryz.prog w = .ok (.value (.bool false)) w := by
  obtain ⟨rfl, rfl, rfl⟩ := h
  simp [execOp, ho, hx, hy, go_sem]
set_option maxHeartbeats 4000000 in
theorem tplays_law (wo : World) (sz fg : Int) (hfg : 0 ≤ fg ∧ fg ≤ 4294967295) (p0 : Option Addr) (n cp : Nat) (T : List Sq2) (hr : Rd wo p0 n (fl eSp T)) (hT : T.length = n) (hO : ∀ s ∈ T, SpOk s) (d0 d1 d2 vn : Int) (hd2 : 0 ≤ d2 ∧ d2 ≤ 4294967295) : HT Tryz.prog 3 [Value.int IntKind.i64 sz, Value.int IntKind.u32 fg, Value.slice p0 n cp, Value.agg #[Value.int IntKind.i64 d0, Value.int IntKind.i64 d1, Value.int IntKind.u32 d2], Value.int IntKind.i64 vn] [Old wo] (fun v K => v = Value.bool true ∧ K = [Old wo]) := by
 refine hiS Tryz.func3 Tryz.ntmps3 fun g w0 R h0 => go [] <| nP 25 [iV d0, iV d1, uV d2] h0 (fun r10 w11 h12 => ?_)
 have h14 := tk3 (sf2 (sf1 (sf2 h12)))
 refine go [] <| cP Tryz.call4 (short_ht wo p0 n cp T hr hT) h14 ?_
 rintro v K w15 (⟨hn_, hsh_, rfl, rfl⟩ | ⟨rfl, rfl⟩) h16
 ·
  have h17 := ap1 h16
  refine go [] ?_
  by_cases c18 : 1 ≤ sz
  ·
   by_cases c19 : sz ≤ 256
   ·
    by_cases c20 : 1 ≤ fg
    ·
     obtain ⟨kk22, hk23⟩ : ∃ z_ : Nat, sz = (z_ : Int) := ⟨(sz).toNat, by omega⟩
     refine cP Tryz.call6 ((by have h_ := tnew_w kk22 fg (by omega) (by omega); rw [show (kk22 : Int) = sz from by omega] at h_; exact h_)) h17 ?_
     rintro v K w24 (⟨b21, rfl, rfl⟩) h25
     have h26 := ap1 h25
     refine go [] <| cP Tryz.call7 (zrnew_ok kk22 sz fg (by omega) (by omega) (by omega) (by omega)) h26 ?_
     rintro v K w28 (⟨b27, rfl, rfl⟩) h29
     have h30 := ap1 h29
     refine go [.s 5 8] <| lwP (.bool false) (law_neBool (t := 4) (x := (Operand.tmp 56)) (y := (Operand.tmp 58)) false false false (by kernel_rfl) Tryz.underlying4 (by kernel_rfl) (by kernel_rfl) rfl _) <| go [] ?_
     have h32 : sat g w28 [TW b21 kk22 (Ts.mk (List.replicate kk22 (0, fg)) [] []), Zr b27 kk22 ((Ts.mk (List.replicate kk22 (0, fg)) [] []).A) (allE (Ts.mk (List.replicate kk22 (0, fg)) [] []).E) ((Ts.mk (List.replicate kk22 (0, fg)) [] []).R), Old wo, Cl r10 [iV d0, iV d1, uV d2] 25, R] := by rw [show allE (Ts.mk (List.replicate kk22 (0, fg)) [] []).E = [] from allE_nil]; exact (tk5 (sf4 (sf3 (sf4 (sf4 (sf4 h30))))))
     refine lpS (fun mz_ a w => ∃ i : Nat, ∃ t : Nat, ∃ r : Nat, ∃ S : Ts, ∃ lr : Fr, mz_ = n - i ∧ (i ≤ n) ∧ a = mk 228 (([(2, .slice p0 n cp), (4, iV vn), (8, pV r10), (11, pV t), (13, pV r), (15, iV (i : Int))] : Fr) ++ lr) ∧ sat g w [TW t kk22 S, Zr r kk22 S.A (allE S.E) S.R, Cl r10 [iV d0, iV d1, uV d2] 25, Old wo, R]) (n - 0) ⟨0, b21, b27, (Ts.mk (List.replicate kk22 (0, fg)) [] []), _, rfl, (Nat.zero_le _), (lvF [.k 2 (.slice p0 n cp), .k 4 (iV vn), .k 8 (pV r10), .k 11 (pV b21), .k 13 (pV b27), .o 15 (oJ .i64 0 (0 : Int))]), (tk5 (sf4 (sf4 (sf4 (sf3 (sf4 h32))))))⟩ ?_
     rintro m35 a36 w37 ⟨i, t, r, S, lr34, rfl, hi_, rfl, h38⟩
     refine ga ?_
     have hW39 := (wi_out h38).1
     refine go [.s 8 3] ?_
     by_cases c40 : (i : Int) < (n : Int)
     ·
      obtain ⟨b41, off43, hp42⟩ := gv_ptr (j := 3) h38 rfl (gv_old hr) (by omega)
      refine go [.v 8 3 (oT ((i : Int) < (n : Int))), .s 10 2] <| lwP (.pointer (some ⟨b41, off43 + i * 19, none⟩)) (law_indexSlP (x := (Operand.tmp 67)) (i := (Operand.tmp 68)) (p := p0) (b := b41) (off := off43) (z := (i : Int)) (len := n) (cap := cp) (by kernel_rfl) Tryz.underlying23 19 (by kernel_rfl) i (by kernel_rfl) hp42 (by kernel_rfl) (by omega) (by omega) (off43 + i * 19) (by omega) _) ?_
      obtain ⟨x44, hx45⟩ : ∃ x, T[i]? = some x := ⟨_, List.getElem?_eq_getElem (by rw [hT]; omega)⟩
      have hb46 := hO _ (List.mem_of_getElem? hx45); have hb46a := hb46.1; have hb46b := hb46.2.1; have hb46c := hb46.2.2.1; have hb46d := hb46.2.2.2; have hb46t := hsh_ _ (List.mem_of_getElem? hx45); have hb46u := hb46t.1; have hb46v := hb46t.2
      refine go [.r 10 3 b41 (off43 + i * 19) [iV x44.k, iV x44.o.1, iV x44.o.2.1, uV x44.o.2.2, .string (St x44.tag), iV x44.hd.1, uV x44.hd.2, iV x44.d.1, iV x44.d.2.1, uV x44.d.2.2, iV x44.vn, iV x44.r.out.1, iV x44.r.out.2.1, uV x44.r.out.2.2, iV x44.r.st, iV x44.r.why, iV x44.r.tr, iV x44.r.nx, .string (St x44.r.tag)] ⟨gv_cell (j := 3) h38 rfl (gv_old hr) hp42 (fl_get eSp_ok (j := 0) (v := iV x44.k) hx45 rfl) (off43 + i * 19) (by omega), gv_cell (j := 3) h38 rfl (gv_old hr) hp42 (fl_get eSp_ok (j := 1) (v := iV x44.o.1) hx45 rfl) (off43 + i * 19 + 1) (by omega), gv_cell (j := 3) h38 rfl (gv_old hr) hp42 (fl_get eSp_ok (j := 2) (v := iV x44.o.2.1) hx45 rfl) (off43 + i * 19 + 2) (by omega), gv_cell (j := 3) h38 rfl (gv_old hr) hp42 (fl_get eSp_ok (j := 3) (v := uV x44.o.2.2) hx45 rfl) (off43 + i * 19 + 3) (by omega), gv_cell (j := 3) h38 rfl (gv_old hr) hp42 (fl_get eSp_ok (j := 4) (v := .string (St x44.tag)) hx45 rfl) (off43 + i * 19 + 4) (by omega), gv_cell (j := 3) h38 rfl (gv_old hr) hp42 (fl_get eSp_ok (j := 5) (v := iV x44.hd.1) hx45 rfl) (off43 + i * 19 + 5) (by omega), gv_cell (j := 3) h38 rfl (gv_old hr) hp42 (fl_get eSp_ok (j := 6) (v := uV x44.hd.2) hx45 rfl) (off43 + i * 19 + 6) (by omega), gv_cell (j := 3) h38 rfl (gv_old hr) hp42 (fl_get eSp_ok (j := 7) (v := iV x44.d.1) hx45 rfl) (off43 + i * 19 + 7) (by omega), gv_cell (j := 3) h38 rfl (gv_old hr) hp42 (fl_get eSp_ok (j := 8) (v := iV x44.d.2.1) hx45 rfl) (off43 + i * 19 + 8) (by omega), gv_cell (j := 3) h38 rfl (gv_old hr) hp42 (fl_get eSp_ok (j := 9) (v := uV x44.d.2.2) hx45 rfl) (off43 + i * 19 + 9) (by omega), gv_cell (j := 3) h38 rfl (gv_old hr) hp42 (fl_get eSp_ok (j := 10) (v := iV x44.vn) hx45 rfl) (off43 + i * 19 + 10) (by omega), gv_cell (j := 3) h38 rfl (gv_old hr) hp42 (fl_get eSp_ok (j := 11) (v := iV x44.r.out.1) hx45 rfl) (off43 + i * 19 + 11) (by omega), gv_cell (j := 3) h38 rfl (gv_old hr) hp42 (fl_get eSp_ok (j := 12) (v := iV x44.r.out.2.1) hx45 rfl) (off43 + i * 19 + 12) (by omega), gv_cell (j := 3) h38 rfl (gv_old hr) hp42 (fl_get eSp_ok (j := 13) (v := uV x44.r.out.2.2) hx45 rfl) (off43 + i * 19 + 13) (by omega), gv_cell (j := 3) h38 rfl (gv_old hr) hp42 (fl_get eSp_ok (j := 14) (v := iV x44.r.st) hx45 rfl) (off43 + i * 19 + 14) (by omega), gv_cell (j := 3) h38 rfl (gv_old hr) hp42 (fl_get eSp_ok (j := 15) (v := iV x44.r.why) hx45 rfl) (off43 + i * 19 + 15) (by omega), gv_cell (j := 3) h38 rfl (gv_old hr) hp42 (fl_get eSp_ok (j := 16) (v := iV x44.r.tr) hx45 rfl) (off43 + i * 19 + 16) (by omega), gv_cell (j := 3) h38 rfl (gv_old hr) hp42 (fl_get eSp_ok (j := 17) (v := iV x44.r.nx) hx45 rfl) (off43 + i * 19 + 17) (by omega), gv_cell (j := 3) h38 rfl (gv_old hr) hp42 (fl_get eSp_ok (j := 18) (v := .string (St x44.r.tag)) hx45 rfl) (off43 + i * 19 + 18) (by omega), trivial⟩] <| nP 42 [iV 0, iV 0, iV 0, uV 0, .string (St []), iV 0, uV 0, iV 0, iV 0, uV 0, iV 0, iV 0, iV 0, uV 0, iV 0, iV 0, iV 0, iV 0, .string (St [])] h38 (fun r47 w48 h49 => ?_)
      refine sP [(0, iV x44.k), (1, iV x44.o.1), (2, iV x44.o.2.1), (3, uV x44.o.2.2), (4, .string (St x44.tag)), (5, iV x44.hd.1), (6, uV x44.hd.2), (7, iV x44.d.1), (8, iV x44.d.2.1), (9, uV x44.d.2.2), (10, iV x44.vn), (11, iV x44.r.out.1), (12, iV x44.r.out.2.1), (13, uV x44.r.out.2.2), (14, iV x44.r.st), (15, iV x44.r.why), (16, iV x44.r.tr), (17, iV x44.r.nx), (18, .string (St x44.r.tag))] [iV x44.k, iV x44.o.1, iV x44.o.2.1, uV x44.o.2.2, .string (St x44.tag), iV x44.hd.1, uV x44.hd.2, iV x44.d.1, iV x44.d.2.1, uV x44.d.2.2, iV x44.vn, iV x44.r.out.1, iV x44.r.out.2.1, uV x44.r.out.2.2, iV x44.r.st, iV x44.r.why, iV x44.r.tr, iV x44.r.nx, .string (St x44.r.tag)] h49 fun w50 h51 => go [rd 11 1 0 0 1 h51, .s 12 0] ?_
      by_cases c52 : x44.k = 0
      ·
       have h53 := tk6 (sf5 (sf4 (sf5 (sf5 (sf5 (sf5 h51))))))
       refine go [.v 12 0 (eT x44.k 0), rd 13 2 0 1 3 h51, rd 13 4 0 4 1 h51, rd 13 6 0 5 2 h51] <| cl1 Tryz.call8 (topen_w t kk22 S x44.o.1 x44.o.2.1 x44.o.2.2 x44.hd.1 x44.hd.2 x44.tag (by omega) (by omega) (by omega)) h53 fun w54 h55 => go [] <| nP 25 [iV 0, iV 0, uV 0] h55 (fun r56 w57 h58 => ?_)
       refine sP [(0, iV ((opnD S (x44.o.1, x44.o.2.1, x44.o.2.2) x44.tag (x44.hd.1, x44.hd.2)).1)), (1, iV ((opnD S (x44.o.1, x44.o.2.1, x44.o.2.2) x44.tag (x44.hd.1, x44.hd.2)).2.1)), (2, uV ((opnD S (x44.o.1, x44.o.2.1, x44.o.2.2) x44.tag (x44.hd.1, x44.hd.2)).2.2))] [iV ((opnD S (x44.o.1, x44.o.2.1, x44.o.2.2) x44.tag (x44.hd.1, x44.hd.2)).1), iV ((opnD S (x44.o.1, x44.o.2.1, x44.o.2.2) x44.tag (x44.hd.1, x44.hd.2)).2.1), uV ((opnD S (x44.o.1, x44.o.2.1, x44.o.2.2) x44.tag (x44.hd.1, x44.hd.2)).2.2)] h58 fun w59 h60 => ?_
       have h61 := tk7 (sf6 (sf5 (sf5 (sf5 (sf6 (sf6 (sf6 h60)))))))
       refine go [rd 14 2 2 1 3 h60, rd 14 4 2 4 1 h60, rd 14 6 2 5 2 h60] <| cl1 Tryz.call9 (zopn_ht r kk22 S hW39 x44.o.1 x44.o.2.1 x44.o.2.2 x44.tag x44.hd.1 x44.hd.2 (by omega) (by omega) (by omega) (by omega)) h61 fun w62 h63 => go [] <| nP 25 [iV 0, iV 0, uV 0] h63 (fun r64 w65 h66 => ?_)
       refine sP [(0, iV ((opnD S (x44.o.1, x44.o.2.1, x44.o.2.2) x44.tag (x44.hd.1, x44.hd.2)).1)), (1, iV ((opnD S (x44.o.1, x44.o.2.1, x44.o.2.2) x44.tag (x44.hd.1, x44.hd.2)).2.1)), (2, uV ((opnD S (x44.o.1, x44.o.2.1, x44.o.2.2) x44.tag (x44.hd.1, x44.hd.2)).2.2))] [iV ((opnD S (x44.o.1, x44.o.2.1, x44.o.2.2) x44.tag (x44.hd.1, x44.hd.2)).1), iV ((opnD S (x44.o.1, x44.o.2.1, x44.o.2.2) x44.tag (x44.hd.1, x44.hd.2)).2.1), uV ((opnD S (x44.o.1, x44.o.2.1, x44.o.2.2) x44.tag (x44.hd.1, x44.hd.2)).2.2)] h66 fun w67 h68 => go [rd 15 0 2 0 3 h68, rd 15 1 0 0 3 h68, .s 15 2] <| lwP (.bool false) (qz18e25_neq_t (x := (Operand.tmp 97)) (y := (Operand.tmp 98)) ((opnD S (x44.o.1, x44.o.2.1, x44.o.2.2) x44.tag (x44.hd.1, x44.hd.2)).1) ((opnD S (x44.o.1, x44.o.2.1, x44.o.2.2) x44.tag (x44.hd.1, x44.hd.2)).2.1) ((opnD S (x44.o.1, x44.o.2.1, x44.o.2.2) x44.tag (x44.hd.1, x44.hd.2)).2.2) ((opnD S (x44.o.1, x44.o.2.1, x44.o.2.2) x44.tag (x44.hd.1, x44.hd.2)).1) ((opnD S (x44.o.1, x44.o.2.1, x44.o.2.2) x44.tag (x44.hd.1, x44.hd.2)).2.1) ((opnD S (x44.o.1, x44.o.2.1, x44.o.2.2) x44.tag (x44.hd.1, x44.hd.2)).2.2) (by kernel_rfl) (by kernel_rfl) (by kernel_rfl) ⟨rfl, rfl, rfl⟩ _) ?_
       have h69 := tk8 (sf7 (sf6 (sf5 (sf6 (sf7 (sf7 (sf7 (sf7 h68))))))))
       refine go [.v 15 6 (nF ((opnE S (x44.o.1, x44.o.2.1, x44.o.2.2) x44.tag (x44.hd.1, x44.hd.2))) ((opnE S (x44.o.1, x44.o.2.1, x44.o.2.2) x44.tag (x44.hd.1, x44.hd.2)))), rd 38 2 5 0 3 h68] <| cl2 Tryz.call22 (alike_ht t r kk22 (opnS S (x44.o.1, x44.o.2.1, x44.o.2.2) x44.tag (x44.hd.1, x44.hd.2)) d0 d1 d2 vn (by omega) (by omega)) h69 fun w70 h71 => go [rd 38 10 4 7 3 h71, rd 38 12 4 10 1 h71] <| cl2 Tryz.call22 (alike_ht t r kk22 (opnS S (x44.o.1, x44.o.2.1, x44.o.2.2) x44.tag (x44.hd.1, x44.hd.2)) x44.d.1 x44.d.2.1 x44.d.2.2 x44.vn (by omega) (by omega)) h71 fun w72 h73 => go [.v 9 1 (oIr ((i : Int) + 1))] ?_
       refine enL ?_
       have h75 := tk5 (tk8 (sf7 (sf7 (sf7 (sf7 (sf7 (sf4 (sf4 (sf4 h73)))))))))
       change ∃ n', n' < _ ∧ _
       refine ⟨(n - (i + 1)), by omega, (i + 1), t, r, (opnS S (x44.o.1, x44.o.2.1, x44.o.2.2) x44.tag (x44.hd.1, x44.hd.2)), _, rfl, (by omega), (lvF [.k 2 (.slice p0 n cp), .k 4 (iV vn), .k 8 (pV r10), .k 11 (pV t), .k 13 (pV r), .o 15 (oJ .i64 ((i : Int) + 1) ((((i + 1) : Nat) : Int)))]), h75⟩
      refine go [.v 12 0 (eF x44.k 0), .s 17 0] ?_
      by_cases c76 : x44.k = 1
      ·
       have h77 := tk6 (sf5 (sf4 (sf5 (sf5 (sf5 (sf5 h51))))))
       refine go [.v 17 0 (eT x44.k 1), rd 18 2 0 7 3 h51, rd 18 4 0 5 2 h51] <| cl1 Tryz.call10 (tdup_w t kk22 S x44.d.1 x44.d.2.1 x44.d.2.2 x44.hd.1 x44.hd.2 (by omega) (by omega)) h77 fun w78 h79 => go [] <| nP 25 [iV 0, iV 0, uV 0] h79 (fun r80 w81 h82 => ?_)
       refine sP [(0, iV ((dupD S (x44.d.1, x44.d.2.1, x44.d.2.2) (x44.hd.1, x44.hd.2)).1)), (1, iV ((dupD S (x44.d.1, x44.d.2.1, x44.d.2.2) (x44.hd.1, x44.hd.2)).2.1)), (2, uV ((dupD S (x44.d.1, x44.d.2.1, x44.d.2.2) (x44.hd.1, x44.hd.2)).2.2))] [iV ((dupD S (x44.d.1, x44.d.2.1, x44.d.2.2) (x44.hd.1, x44.hd.2)).1), iV ((dupD S (x44.d.1, x44.d.2.1, x44.d.2.2) (x44.hd.1, x44.hd.2)).2.1), uV ((dupD S (x44.d.1, x44.d.2.1, x44.d.2.2) (x44.hd.1, x44.hd.2)).2.2)] h82 fun w83 h84 => ?_
       have h85 := tk7 (sf6 (sf5 (sf5 (sf5 (sf6 (sf6 (sf6 h84)))))))
       refine go [rd 19 2 2 7 3 h84, rd 19 4 2 5 2 h84] <| cl1 Tryz.call11 (zdup_ht r kk22 S hW39 x44.d.1 x44.d.2.1 x44.d.2.2 x44.hd.1 x44.hd.2 (by omega) (by omega)) h85 fun w86 h87 => go [] <| nP 25 [iV 0, iV 0, uV 0] h87 (fun r88 w89 h90 => ?_)
       refine sP [(0, iV ((dupD S (x44.d.1, x44.d.2.1, x44.d.2.2) (x44.hd.1, x44.hd.2)).1)), (1, iV ((dupD S (x44.d.1, x44.d.2.1, x44.d.2.2) (x44.hd.1, x44.hd.2)).2.1)), (2, uV ((dupD S (x44.d.1, x44.d.2.1, x44.d.2.2) (x44.hd.1, x44.hd.2)).2.2))] [iV ((dupD S (x44.d.1, x44.d.2.1, x44.d.2.2) (x44.hd.1, x44.hd.2)).1), iV ((dupD S (x44.d.1, x44.d.2.1, x44.d.2.2) (x44.hd.1, x44.hd.2)).2.1), uV ((dupD S (x44.d.1, x44.d.2.1, x44.d.2.2) (x44.hd.1, x44.hd.2)).2.2)] h90 fun w91 h92 => go [rd 20 0 2 0 3 h92, rd 20 1 0 0 3 h92, .s 20 2] <| lwP (.bool false) (qz18e25_neq_t (x := (Operand.tmp 125)) (y := (Operand.tmp 126)) ((dupD S (x44.d.1, x44.d.2.1, x44.d.2.2) (x44.hd.1, x44.hd.2)).1) ((dupD S (x44.d.1, x44.d.2.1, x44.d.2.2) (x44.hd.1, x44.hd.2)).2.1) ((dupD S (x44.d.1, x44.d.2.1, x44.d.2.2) (x44.hd.1, x44.hd.2)).2.2) ((dupD S (x44.d.1, x44.d.2.1, x44.d.2.2) (x44.hd.1, x44.hd.2)).1) ((dupD S (x44.d.1, x44.d.2.1, x44.d.2.2) (x44.hd.1, x44.hd.2)).2.1) ((dupD S (x44.d.1, x44.d.2.1, x44.d.2.2) (x44.hd.1, x44.hd.2)).2.2) (by kernel_rfl) (by kernel_rfl) (by kernel_rfl) ⟨rfl, rfl, rfl⟩ _) ?_
       have h93 := tk8 (sf7 (sf6 (sf5 (sf6 (sf7 (sf7 (sf7 (sf7 h92))))))))
       refine go [.v 20 6 (nF ((dupE S (x44.d.1, x44.d.2.1, x44.d.2.2) (x44.hd.1, x44.hd.2))) ((dupE S (x44.d.1, x44.d.2.1, x44.d.2.2) (x44.hd.1, x44.hd.2)))), rd 38 2 5 0 3 h92] <| cl2 Tryz.call22 (alike_ht t r kk22 (dupS S (x44.d.1, x44.d.2.1, x44.d.2.2) (x44.hd.1, x44.hd.2)) d0 d1 d2 vn (by omega) (by omega)) h93 fun w94 h95 => go [rd 38 10 4 7 3 h95, rd 38 12 4 10 1 h95] <| cl2 Tryz.call22 (alike_ht t r kk22 (dupS S (x44.d.1, x44.d.2.1, x44.d.2.2) (x44.hd.1, x44.hd.2)) x44.d.1 x44.d.2.1 x44.d.2.2 x44.vn (by omega) (by omega)) h95 fun w96 h97 => go [.v 9 1 (oIr ((i : Int) + 1))] ?_
       refine enL ?_
       have h99 := tk5 (tk8 (sf7 (sf7 (sf7 (sf7 (sf7 (sf4 (sf4 (sf4 h97)))))))))
       change ∃ n', n' < _ ∧ _
       refine ⟨(n - (i + 1)), by omega, (i + 1), t, r, (dupS S (x44.d.1, x44.d.2.1, x44.d.2.2) (x44.hd.1, x44.hd.2)), _, rfl, (by omega), (lvF [.k 2 (.slice p0 n cp), .k 4 (iV vn), .k 8 (pV r10), .k 11 (pV t), .k 13 (pV r), .o 15 (oJ .i64 ((i : Int) + 1) ((((i + 1) : Nat) : Int)))]), h99⟩
      refine go [.v 17 0 (eF x44.k 1), .s 22 0] ?_
      by_cases c100 : x44.k = 2
      ·
       have h101 := tk6 (sf5 (sf4 (sf5 (sf5 (sf5 (sf5 h51))))))
       refine go [.v 22 0 (eT x44.k 2), rd 23 2 0 7 3 h51] <| cl1 Tryz.call12 (tclose_w t kk22 S x44.d.1 x44.d.2.1 x44.d.2.2 (by omega) (by omega)) h101 fun w102 h103 => ?_
       have h104 := tk6 (sf5 (sf4 (sf4 (sf5 (sf5 (sf5 h103))))))
       refine go [rd 24 2 1 7 3 h103] <| cl1 Tryz.call13 (zcls_ht r kk22 S hW39 x44.d.1 x44.d.2.1 x44.d.2.2 (by omega)) h104 fun w105 h106 => ?_
       have h107 := tk6 (sf5 (sf4 (sf5 (sf5 (sf5 (sf5 h106))))))
       refine go [.v 25 2 (nF ((fndX S (x44.d.1, x44.d.2.1, x44.d.2.2)).num) ((fndX S (x44.d.1, x44.d.2.1, x44.d.2.2)).num)), .v 25 6 (⟨.bool (clsL S (x44.d.1, x44.d.2.1, x44.d.2.2) != clsL S (x44.d.1, x44.d.2.1, x44.d.2.2)), .bool false, (ov_b (by simp))⟩), .v 25 11 (nF ((fndE S (x44.d.1, x44.d.2.1, x44.d.2.2))) ((fndE S (x44.d.1, x44.d.2.1, x44.d.2.2)))), rd 38 2 3 0 3 h106] ?_
       refine cl2 Tryz.call22 (alike_ht t r kk22 (clsS S (x44.d.1, x44.d.2.1, x44.d.2.2)) d0 d1 d2 vn (by omega) (by omega)) h107 fun w108 h109 => go [rd 38 10 2 7 3 h109, rd 38 12 2 10 1 h109] <| cl2 Tryz.call22 (alike_ht t r kk22 (clsS S (x44.d.1, x44.d.2.1, x44.d.2.2)) x44.d.1 x44.d.2.1 x44.d.2.2 x44.vn (by omega) (by omega)) h109 fun w110 h111 => go [.v 9 1 (oIr ((i : Int) + 1))] ?_
       refine enL ?_
       have h113 := tk5 (tk6 (sf5 (sf5 (sf5 (sf5 (sf5 (sf2 h111)))))))
       change ∃ n', n' < _ ∧ _
       refine ⟨(n - (i + 1)), by omega, (i + 1), t, r, (clsS S (x44.d.1, x44.d.2.1, x44.d.2.2)), _, rfl, (by omega), (lvF [.k 2 (.slice p0 n cp), .k 4 (iV vn), .k 8 (pV r10), .k 11 (pV t), .k 13 (pV r), .o 15 (oJ .i64 ((i : Int) + 1) ((((i + 1) : Nat) : Int)))]), h113⟩
      refine go [.v 22 0 (eF x44.k 2), .s 27 0] ?_
      by_cases c114 : x44.k = 3
      ·
       have h117 := tk6 (sf5 (sf4 (sf5 (sf5 (sf5 (sf5 h51))))))
       refine go [.v 27 0 (eT x44.k 3), rd 28 2 0 10 1 h51] <| cP Tryz.call14 (texp_w t kk22 S x44.vn) h117 ?_
       rintro v K w118 (⟨p115, c116, rfl, rfl⟩) h119
       have h120 := ap2 h119
       have h123 := tk7 (sf6 (sf5 (sf5 (sf5 (sf6 (sf6 (sf6 h120)))))))
       refine go [rd 29 2 2 10 1 h120] <| cP Tryz.call15 (zexp_ht r kk22 S hW39 x44.vn) h123 ?_
       rintro v K w124 (⟨p121, c122, rfl, rfl⟩) h125
       have h126 := ap2 h125
       have hb127 := descs_len S.E x44.vn
       have h128 := tk8 (sf7 (sf6 (sf5 (sf6 (sf7 (sf7 (sf7 (sf7 h126))))))))
       refine go [] <| cl2 Tryz.call16 (zeqd_ht p115 p121 c116 c122 (descs S.E x44.vn) (by omega)) h128 fun w129 h130 => ?_
       have h131 := tk8 (sf7 (sf6 (sf5 (sf5 (sf7 (sf7 (sf7 (sf7 h130))))))))
       refine go [.v 30 7 (nF ((nE S x44.vn)) ((nE S x44.vn))), rd 38 2 5 0 3 h130] <| cl2 Tryz.call22 (alike_ht t r kk22 (expS S x44.vn) d0 d1 d2 vn (by omega) (by omega)) h131 fun w132 h133 => go [rd 38 10 4 7 3 h133, rd 38 12 4 10 1 h133] <| cl2 Tryz.call22 (alike_ht t r kk22 (expS S x44.vn) x44.d.1 x44.d.2.1 x44.d.2.2 x44.vn (by omega) (by omega)) h133 fun w134 h135 => go [.v 9 1 (oIr ((i : Int) + 1))] ?_
       refine enL ?_
       have h137 := tk5 (tk8 (sf7 (sf7 (sf7 (sf7 (sf7 (sf4 (sf4 (sf4 h135)))))))))
       change ∃ n', n' < _ ∧ _
       refine ⟨(n - (i + 1)), by omega, (i + 1), t, r, (expS S x44.vn), _, rfl, (by omega), (lvF [.k 2 (.slice p0 n cp), .k 4 (iV vn), .k 8 (pV r10), .k 11 (pV t), .k 13 (pV r), .o 15 (oJ .i64 ((i : Int) + 1) ((((i + 1) : Nat) : Int)))]), h137⟩
      refine go [.v 27 0 (eF x44.k 3), .s 32 0] ?_
      by_cases c138 : x44.k = 4
      ·
       refine go [.v 32 0 (eT x44.k 4)] <| dw (fls [0, 1, 2, 3, 4, 6, 7, 8, 9, 10] (Tr.an 5 (Tr.an 11 (Tr.an 12 (Tr.fl 13 Tr.nil))))) h51 fun w139 h140 => ?_
       have h141 := tk6 (sf5 (sf4 (sf5 (sf5 (sf5 (sf5 h140))))))
       refine go [rd 33 2 0 10 1 h140, rd 33 4 0 11 8 h140, rd 33 8 0 10 1 h140, rd 33 10 0 11 8 h140] <| cd1 Tryz.call17 (tset_w t kk22 S x44.vn x44.r.out.1 x44.r.out.2.1 x44.r.out.2.2 x44.r.st x44.r.why x44.r.tr x44.r.nx x44.r.tag (by omega) (by omega) (by omega)) h141 fun w142 h143 => ⟨kd [rd 0 10 1 11 8 h143, rd 0 8 1 10 1 h143], ?_⟩
       refine cd0 Tryz.call19 (ref_ht x44.r.out.1 x44.r.out.2.1 x44.r.out.2.2 x44.r.st x44.r.why x44.r.tr x44.r.nx x44.r.tag) h143 fun w144 h145 => ⟨kd [rd 0 8 1 10 1 h145], ?_⟩
       refine cd1 Tryz.call18 (zset_ht r kk22 S hW39 x44.vn x44.r.out.1 x44.r.out.2.1 x44.r.out.2.2 x44.r.st x44.r.why x44.r.tr x44.r.nx x44.r.tag (by omega) (by omega) (by omega)) (tk6 (sf5 (sf4 (sf4 (sf5 (sf5 (sf5 h145))))))) fun w147 h148 => ⟨kd [], ?_⟩
       have h149 := tk6 (sf5 (sf4 (sf5 (sf5 (sf5 (sf5 h148))))))
       refine go [.v 33 13 (nF ((setE S x44.vn ⟨(x44.r.out.1, x44.r.out.2.1, x44.r.out.2.2), x44.r.st, x44.r.why, x44.r.tr, x44.r.nx, x44.r.tag⟩)) ((setE S x44.vn ⟨(x44.r.out.1, x44.r.out.2.1, x44.r.out.2.2), x44.r.st, x44.r.why, x44.r.tr, x44.r.nx, x44.r.tag⟩))), rd 38 2 3 0 3 h148] <| cl2 Tryz.call22 (alike_ht t r kk22 (setS S x44.vn ⟨(x44.r.out.1, x44.r.out.2.1, x44.r.out.2.2), x44.r.st, x44.r.why, x44.r.tr, x44.r.nx, x44.r.tag⟩) d0 d1 d2 vn (by omega) (by omega)) h149 fun w150 h151 => go [rd 38 10 2 7 3 h151, rd 38 12 2 10 1 h151] <| cl2 Tryz.call22 (alike_ht t r kk22 (setS S x44.vn ⟨(x44.r.out.1, x44.r.out.2.1, x44.r.out.2.2), x44.r.st, x44.r.why, x44.r.tr, x44.r.nx, x44.r.tag⟩) x44.d.1 x44.d.2.1 x44.d.2.2 x44.vn (by omega) (by omega)) h151 fun w152 h153 => go [.v 9 1 (oIr ((i : Int) + 1))] ?_
       refine enL ?_
       have h155 := tk5 (tk6 (sf5 (sf5 (sf5 (sf5 (sf5 (sf2 h153)))))))
       change ∃ n', n' < _ ∧ _
       refine ⟨(n - (i + 1)), by omega, (i + 1), t, r, (setS S x44.vn ⟨(x44.r.out.1, x44.r.out.2.1, x44.r.out.2.2), x44.r.st, x44.r.why, x44.r.tr, x44.r.nx, x44.r.tag⟩), _, rfl, (by omega), (lvF [.k 2 (.slice p0 n cp), .k 4 (iV vn), .k 8 (pV r10), .k 11 (pV t), .k 13 (pV r), .o 15 (oJ .i64 ((i : Int) + 1) ((((i + 1) : Nat) : Int)))]), h155⟩
      refine go [.v 32 0 (eF x44.k 4), .s 35 0] ?_
      by_cases c156 : x44.k = 5
      ·
       have h158 := tk6 (sf5 (sf4 (sf5 (sf5 (sf5 (sf5 h51))))))
       refine go [.v 35 0 (eT x44.k 5)] <| cP Tryz.call20 (tcopy_w t kk22 S) h158 ?_
       rintro v K w159 (⟨b157, rfl, rfl⟩) h160
       have h163 := tk7 (sf6 (sf5 (sf5 (sf5 (sf6 (sf6 (sf6 (ap2 h160))))))))
       refine go [] <| cP Tryz.call21 (zrcopy_ht r kk22 S) h163 ?_
       rintro v K w164 (⟨b162, rfl, rfl⟩) h165
       have h166 := ap2 h165
       have h167 := tk8 (sf7 (sf6 (sf5 (sf6 (sf7 (sf7 (sf7 (sf7 h166))))))))
       refine go [rd 38 2 5 0 3 h166] <| cl2 Tryz.call22 (alike_ht b157 b162 kk22 S d0 d1 d2 vn (by omega) (by omega)) h167 fun w168 h169 => go [rd 38 10 4 7 3 h169, rd 38 12 4 10 1 h169] <| cl2 Tryz.call22 (alike_ht b157 b162 kk22 S x44.d.1 x44.d.2.1 x44.d.2.2 x44.vn (by omega) (by omega)) h169 fun w170 h171 => go [.v 9 1 (oIr ((i : Int) + 1))] ?_
       refine enL ?_
       have h173 := tk5 (tk8 (sf7 (sf7 (sf7 (sf7 (sf7 (sf4 (sf4 (sf4 h171)))))))))
       change ∃ n', n' < _ ∧ _
       refine ⟨(n - (i + 1)), by omega, (i + 1), b157, b162, S, _, rfl, (by omega), (lvF [.k 2 (.slice p0 n cp), .k 4 (iV vn), .k 8 (pV r10), .k 11 (pV b157), .k 13 (pV b162), .o 15 (oJ .i64 ((i : Int) + 1) ((((i + 1) : Nat) : Int)))]), h173⟩
      have h174 := tk6 (sf5 (sf5 (sf3 (sf5 (sf5 (sf5 h51))))))
      refine go [.v 35 0 (eF x44.k 5), rd 38 2 3 0 3 h51] <| cl2 Tryz.call22 (alike_ht t r kk22 S d0 d1 d2 vn (by omega) (by omega)) h174 fun w175 h176 => go [rd 38 10 2 7 3 h176, rd 38 12 2 10 1 h176] <| cl2 Tryz.call22 (alike_ht t r kk22 S x44.d.1 x44.d.2.1 x44.d.2.2 x44.vn (by omega) (by omega)) h176 fun w177 h178 => go [.v 9 1 (oIr ((i : Int) + 1))] ?_
      refine enL ?_
      have h180 := tk5 (tk6 (sf5 (sf5 (sf5 (sf5 (sf5 (sf2 h178)))))))
      change ∃ n', n' < _ ∧ _
      refine ⟨(n - (i + 1)), by omega, (i + 1), t, r, S, _, rfl, (by omega), (lvF [.k 2 (.slice p0 n cp), .k 4 (iV vn), .k 8 (pV r10), .k 11 (pV t), .k 13 (pV r), .o 15 (oJ .i64 ((i : Int) + 1) ((((i + 1) : Nat) : Int)))]), h180⟩
     refine go [.v 8 3 (oF ((i : Int) < (n : Int)))] <| up <| go [] <| cl0 Tryz.call5 (works_ht) h38 fun w181 h182 => go [] ?_
     exact en (.bool true) [] ⟨_, _, rfl, ⟨rfl, rfl⟩, (tk2 (sf1 (sf4 (tk5 (sf4 (sf3 (sf3 (sf3 (sf4 h182)))))))))⟩
    refine cl0 Tryz.call6 (tnew_no sz fg (by omega) (by omega)) h17 fun w185 h186 => go [] <| cl0 Tryz.call7 (zrnew_no sz fg (by omega) (by omega)) h186 fun w187 h188 => go [.s 5 8] <| lwP (.bool false) (law_neBool (t := 4) (x := (Operand.tmp 56)) (y := (Operand.tmp 58)) true true false (by kernel_rfl) Tryz.underlying4 (by kernel_rfl) (by kernel_rfl) rfl _) <| go [] ?_
    refine lpS (fun mz_ a w => ∃ i : Nat, ∃ lr : Fr, mz_ = n - i ∧ (i ≤ n) ∧ a = mk 228 (([(2, .slice p0 n cp), (4, iV vn), (8, pV r10), (11, .pointer none), (13, .pointer none), (15, iV (i : Int))] : Fr) ++ lr) ∧ sat g w [Cl r10 [iV d0, iV d1, uV d2] 25, Old wo, R]) (n - 0) ⟨0, _, rfl, (Nat.zero_le _), (lvF [.k 2 (.slice p0 n cp), .k 4 (iV vn), .k 8 (pV r10), .k 11 (.pointer none), .k 13 (.pointer none), .o 15 (oJ .i64 0 (0 : Int))]), (tk3 (sf2 (sf1 (sf2 h188))))⟩ ?_
    rintro m191 a192 w193 ⟨i, lr190, rfl, hi_, rfl, h194⟩
    refine ga <| go [.s 8 3] ?_
    by_cases c195 : (i : Int) < (n : Int)
    ·
     obtain ⟨b196, off198, hp197⟩ := gv_ptr (j := 1) h194 rfl (gv_old hr) (by omega)
     refine go [.v 8 3 (oT ((i : Int) < (n : Int))), .s 10 2] <| lwP (.pointer (some ⟨b196, off198 + i * 19, none⟩)) (law_indexSlP (x := (Operand.tmp 67)) (i := (Operand.tmp 68)) (p := p0) (b := b196) (off := off198) (z := (i : Int)) (len := n) (cap := cp) (by kernel_rfl) Tryz.underlying23 19 (by kernel_rfl) i (by kernel_rfl) hp197 (by kernel_rfl) (by omega) (by omega) (off198 + i * 19) (by omega) _) ?_
     obtain ⟨x199, hx200⟩ : ∃ x, T[i]? = some x := ⟨_, List.getElem?_eq_getElem (by rw [hT]; omega)⟩
     have hb201 := hO _ (List.mem_of_getElem? hx200); have hb201a := hb201.1; have hb201b := hb201.2.1; have hb201c := hb201.2.2.1; have hb201d := hb201.2.2.2; have hb201t := hsh_ _ (List.mem_of_getElem? hx200); have hb201u := hb201t.1; have hb201v := hb201t.2
     refine go [.r 10 3 b196 (off198 + i * 19) [iV x199.k, iV x199.o.1, iV x199.o.2.1, uV x199.o.2.2, .string (St x199.tag), iV x199.hd.1, uV x199.hd.2, iV x199.d.1, iV x199.d.2.1, uV x199.d.2.2, iV x199.vn, iV x199.r.out.1, iV x199.r.out.2.1, uV x199.r.out.2.2, iV x199.r.st, iV x199.r.why, iV x199.r.tr, iV x199.r.nx, .string (St x199.r.tag)] ⟨gv_cell (j := 1) h194 rfl (gv_old hr) hp197 (fl_get eSp_ok (j := 0) (v := iV x199.k) hx200 rfl) (off198 + i * 19) (by omega), gv_cell (j := 1) h194 rfl (gv_old hr) hp197 (fl_get eSp_ok (j := 1) (v := iV x199.o.1) hx200 rfl) (off198 + i * 19 + 1) (by omega), gv_cell (j := 1) h194 rfl (gv_old hr) hp197 (fl_get eSp_ok (j := 2) (v := iV x199.o.2.1) hx200 rfl) (off198 + i * 19 + 2) (by omega), gv_cell (j := 1) h194 rfl (gv_old hr) hp197 (fl_get eSp_ok (j := 3) (v := uV x199.o.2.2) hx200 rfl) (off198 + i * 19 + 3) (by omega), gv_cell (j := 1) h194 rfl (gv_old hr) hp197 (fl_get eSp_ok (j := 4) (v := .string (St x199.tag)) hx200 rfl) (off198 + i * 19 + 4) (by omega), gv_cell (j := 1) h194 rfl (gv_old hr) hp197 (fl_get eSp_ok (j := 5) (v := iV x199.hd.1) hx200 rfl) (off198 + i * 19 + 5) (by omega), gv_cell (j := 1) h194 rfl (gv_old hr) hp197 (fl_get eSp_ok (j := 6) (v := uV x199.hd.2) hx200 rfl) (off198 + i * 19 + 6) (by omega), gv_cell (j := 1) h194 rfl (gv_old hr) hp197 (fl_get eSp_ok (j := 7) (v := iV x199.d.1) hx200 rfl) (off198 + i * 19 + 7) (by omega), gv_cell (j := 1) h194 rfl (gv_old hr) hp197 (fl_get eSp_ok (j := 8) (v := iV x199.d.2.1) hx200 rfl) (off198 + i * 19 + 8) (by omega), gv_cell (j := 1) h194 rfl (gv_old hr) hp197 (fl_get eSp_ok (j := 9) (v := uV x199.d.2.2) hx200 rfl) (off198 + i * 19 + 9) (by omega), gv_cell (j := 1) h194 rfl (gv_old hr) hp197 (fl_get eSp_ok (j := 10) (v := iV x199.vn) hx200 rfl) (off198 + i * 19 + 10) (by omega), gv_cell (j := 1) h194 rfl (gv_old hr) hp197 (fl_get eSp_ok (j := 11) (v := iV x199.r.out.1) hx200 rfl) (off198 + i * 19 + 11) (by omega), gv_cell (j := 1) h194 rfl (gv_old hr) hp197 (fl_get eSp_ok (j := 12) (v := iV x199.r.out.2.1) hx200 rfl) (off198 + i * 19 + 12) (by omega), gv_cell (j := 1) h194 rfl (gv_old hr) hp197 (fl_get eSp_ok (j := 13) (v := uV x199.r.out.2.2) hx200 rfl) (off198 + i * 19 + 13) (by omega), gv_cell (j := 1) h194 rfl (gv_old hr) hp197 (fl_get eSp_ok (j := 14) (v := iV x199.r.st) hx200 rfl) (off198 + i * 19 + 14) (by omega), gv_cell (j := 1) h194 rfl (gv_old hr) hp197 (fl_get eSp_ok (j := 15) (v := iV x199.r.why) hx200 rfl) (off198 + i * 19 + 15) (by omega), gv_cell (j := 1) h194 rfl (gv_old hr) hp197 (fl_get eSp_ok (j := 16) (v := iV x199.r.tr) hx200 rfl) (off198 + i * 19 + 16) (by omega), gv_cell (j := 1) h194 rfl (gv_old hr) hp197 (fl_get eSp_ok (j := 17) (v := iV x199.r.nx) hx200 rfl) (off198 + i * 19 + 17) (by omega), gv_cell (j := 1) h194 rfl (gv_old hr) hp197 (fl_get eSp_ok (j := 18) (v := .string (St x199.r.tag)) hx200 rfl) (off198 + i * 19 + 18) (by omega), trivial⟩] <| nP 42 [iV 0, iV 0, iV 0, uV 0, .string (St []), iV 0, uV 0, iV 0, iV 0, uV 0, iV 0, iV 0, iV 0, uV 0, iV 0, iV 0, iV 0, iV 0, .string (St [])] h194 (fun r202 w203 h204 => ?_)
     refine sP [(0, iV x199.k), (1, iV x199.o.1), (2, iV x199.o.2.1), (3, uV x199.o.2.2), (4, .string (St x199.tag)), (5, iV x199.hd.1), (6, uV x199.hd.2), (7, iV x199.d.1), (8, iV x199.d.2.1), (9, uV x199.d.2.2), (10, iV x199.vn), (11, iV x199.r.out.1), (12, iV x199.r.out.2.1), (13, uV x199.r.out.2.2), (14, iV x199.r.st), (15, iV x199.r.why), (16, iV x199.r.tr), (17, iV x199.r.nx), (18, .string (St x199.r.tag))] [iV x199.k, iV x199.o.1, iV x199.o.2.1, uV x199.o.2.2, .string (St x199.tag), iV x199.hd.1, uV x199.hd.2, iV x199.d.1, iV x199.d.2.1, uV x199.d.2.2, iV x199.vn, iV x199.r.out.1, iV x199.r.out.2.1, uV x199.r.out.2.2, iV x199.r.st, iV x199.r.why, iV x199.r.tr, iV x199.r.nx, .string (St x199.r.tag)] h204 fun w205 h206 => go [rd 11 1 0 0 1 h206, .s 12 0] ?_
     by_cases c207 : x199.k = 0
     ·
      refine go [.v 12 0 (eT x199.k 0), rd 13 2 0 1 3 h206, rd 13 4 0 4 1 h206, rd 13 6 0 5 2 h206] <| cl0 Tryz.call8 (topen_n x199.o.1 x199.o.2.1 x199.o.2.2 x199.hd.1 x199.hd.2 x199.tag) h206 fun w208 h209 => go [] <| nP 25 [iV 0, iV 0, uV 0] h209 (fun r210 w211 h212 => ?_)
      refine sP [(0, iV 0), (1, iV 0), (2, uV 0)] [iV 0, iV 0, uV 0] h212 fun w213 h214 => go [rd 14 2 1 1 3 h214, rd 14 4 1 4 1 h214, rd 14 6 1 5 2 h214] <| cl0 Tryz.call9 (zopn_nil x199.o.1 x199.o.2.1 x199.o.2.2 x199.tag x199.hd.1 x199.hd.2) h214 fun w215 h216 => go [] <| nP 25 [iV 0, iV 0, uV 0] h216 (fun r217 w218 h219 => ?_)
      refine sP [(0, iV 0), (1, iV 0), (2, uV 0)] [iV 0, iV 0, uV 0] h219 fun w220 h221 => go [rd 15 0 1 0 3 h221, rd 15 1 0 0 3 h221, .s 15 2] <| lwP (.bool false) (qz18e25_neq_t (x := (Operand.tmp 97)) (y := (Operand.tmp 98)) 0 0 0 0 0 0 (by kernel_rfl) (by kernel_rfl) (by kernel_rfl) ⟨rfl, rfl, rfl⟩ _) <| go [rd 38 2 3 0 3 h221] <| cl0 Tryz.call22 (alike_nil d0 d1 d2 vn) h221 fun w222 h223 => go [rd 38 10 2 7 3 h223, rd 38 12 2 10 1 h223] <| cl0 Tryz.call22 (alike_nil x199.d.1 x199.d.2.1 x199.d.2.2 x199.vn) h223 fun w224 h225 => go [.v 9 1 (oIr ((i : Int) + 1))] ?_
      refine enL ?_
      have h227 := tk3 (tk6 (sf5 (sf5 (sf5 (sf2 (sf2 (sf2 h225)))))))
      change ∃ n', n' < _ ∧ _
      refine ⟨(n - (i + 1)), by omega, (i + 1), _, rfl, (by omega), (lvF [.k 2 (.slice p0 n cp), .k 4 (iV vn), .k 8 (pV r10), .k 11 (.pointer none), .k 13 (.pointer none), .o 15 (oJ .i64 ((i : Int) + 1) ((((i + 1) : Nat) : Int)))]), h227⟩
     refine go [.v 12 0 (eF x199.k 0), .s 17 0] ?_
     by_cases c228 : x199.k = 1
     ·
      refine go [.v 17 0 (eT x199.k 1), rd 18 2 0 7 3 h206, rd 18 4 0 5 2 h206] <| cl0 Tryz.call10 (tdup_n x199.d.1 x199.d.2.1 x199.d.2.2 x199.hd.1 x199.hd.2) h206 fun w229 h230 => go [] <| nP 25 [iV 0, iV 0, uV 0] h230 (fun r231 w232 h233 => ?_)
      refine sP [(0, iV 0), (1, iV 0), (2, uV 0)] [iV 0, iV 0, uV 0] h233 fun w234 h235 => go [rd 19 2 1 7 3 h235, rd 19 4 1 5 2 h235] <| cl0 Tryz.call11 (zdup_nil x199.d.1 x199.d.2.1 x199.d.2.2 x199.hd.1 x199.hd.2) h235 fun w236 h237 => go [] <| nP 25 [iV 0, iV 0, uV 0] h237 (fun r238 w239 h240 => ?_)
      refine sP [(0, iV 0), (1, iV 0), (2, uV 0)] [iV 0, iV 0, uV 0] h240 fun w241 h242 => go [rd 20 0 1 0 3 h242, rd 20 1 0 0 3 h242, .s 20 2] <| lwP (.bool false) (qz18e25_neq_t (x := (Operand.tmp 125)) (y := (Operand.tmp 126)) 0 0 0 0 0 0 (by kernel_rfl) (by kernel_rfl) (by kernel_rfl) ⟨rfl, rfl, rfl⟩ _) <| go [rd 38 2 3 0 3 h242] <| cl0 Tryz.call22 (alike_nil d0 d1 d2 vn) h242 fun w243 h244 => go [rd 38 10 2 7 3 h244, rd 38 12 2 10 1 h244] <| cl0 Tryz.call22 (alike_nil x199.d.1 x199.d.2.1 x199.d.2.2 x199.vn) h244 fun w245 h246 => go [.v 9 1 (oIr ((i : Int) + 1))] ?_
      refine enL ?_
      have h248 := tk3 (tk6 (sf5 (sf5 (sf5 (sf2 (sf2 (sf2 h246)))))))
      change ∃ n', n' < _ ∧ _
      refine ⟨(n - (i + 1)), by omega, (i + 1), _, rfl, (by omega), (lvF [.k 2 (.slice p0 n cp), .k 4 (iV vn), .k 8 (pV r10), .k 11 (.pointer none), .k 13 (.pointer none), .o 15 (oJ .i64 ((i : Int) + 1) ((((i + 1) : Nat) : Int)))]), h248⟩
     refine go [.v 17 0 (eF x199.k 1), .s 22 0] ?_
     by_cases c249 : x199.k = 2
     ·
      refine go [.v 22 0 (eT x199.k 2), rd 23 2 0 7 3 h206] <| cl0 Tryz.call12 (tclose_n x199.d.1 x199.d.2.1 x199.d.2.2) h206 fun w250 h251 => go [rd 24 2 0 7 3 h251] <| cl0 Tryz.call13 (zcls_nil x199.d.1 x199.d.2.1 x199.d.2.2) h251 fun w252 h253 => go [.s 25 6] <| lwP (.bool false) (law_neBool (t := 4) (x := (Operand.tmp 155)) (y := (Operand.tmp 156)) false false false (by kernel_rfl) Tryz.underlying4 (by kernel_rfl) (by kernel_rfl) rfl _) <| go [rd 38 2 1 0 3 h253] <| cl0 Tryz.call22 (alike_nil d0 d1 d2 vn) h253 fun w254 h255 => go [rd 38 10 0 7 3 h255, rd 38 12 0 10 1 h255] <| cl0 Tryz.call22 (alike_nil x199.d.1 x199.d.2.1 x199.d.2.2 x199.vn) h255 fun w256 h257 => go [.v 9 1 (oIr ((i : Int) + 1))] ?_
      refine enL ?_
      have h259 := tk3 (tk4 (sf3 (sf3 (sf3 h257))))
      change ∃ n', n' < _ ∧ _
      refine ⟨(n - (i + 1)), by omega, (i + 1), _, rfl, (by omega), (lvF [.k 2 (.slice p0 n cp), .k 4 (iV vn), .k 8 (pV r10), .k 11 (.pointer none), .k 13 (.pointer none), .o 15 (oJ .i64 ((i : Int) + 1) ((((i + 1) : Nat) : Int)))]), h259⟩
     refine go [.v 22 0 (eF x199.k 2), .s 27 0] ?_
     by_cases c260 : x199.k = 3
     ·
      refine go [.v 27 0 (eT x199.k 3), rd 28 2 0 10 1 h206] <| cl0 Tryz.call14 (texp_n x199.vn) h206 fun w261 h262 => go [rd 29 2 0 10 1 h262] <| cl0 Tryz.call15 (zexp_nil x199.vn) h262 fun w263 h264 => go [] <| cl0 Tryz.call16 (zeqd_nil) h264 fun w265 h266 => go [rd 38 2 1 0 3 h266] <| cl0 Tryz.call22 (alike_nil d0 d1 d2 vn) h266 fun w267 h268 => go [rd 38 10 0 7 3 h268, rd 38 12 0 10 1 h268] <| cl0 Tryz.call22 (alike_nil x199.d.1 x199.d.2.1 x199.d.2.2 x199.vn) h268 fun w269 h270 => go [.v 9 1 (oIr ((i : Int) + 1))] ?_
      refine enL ?_
      have h272 := tk3 (tk4 (sf3 (sf3 (sf3 h270))))
      change ∃ n', n' < _ ∧ _
      refine ⟨(n - (i + 1)), by omega, (i + 1), _, rfl, (by omega), (lvF [.k 2 (.slice p0 n cp), .k 4 (iV vn), .k 8 (pV r10), .k 11 (.pointer none), .k 13 (.pointer none), .o 15 (oJ .i64 ((i : Int) + 1) ((((i + 1) : Nat) : Int)))]), h272⟩
     refine go [.v 27 0 (eF x199.k 3), .s 32 0] ?_
     by_cases c273 : x199.k = 4
     ·
      refine go [.v 32 0 (eT x199.k 4)] <| dw (fls [0, 1, 2, 3, 4, 6, 7, 8, 9, 10] (Tr.an 5 (Tr.an 11 (Tr.an 12 (Tr.fl 13 Tr.nil))))) h206 fun w274 h275 => go [rd 33 2 0 10 1 h275, rd 33 4 0 11 8 h275, rd 33 8 0 10 1 h275, rd 33 10 0 11 8 h275] <| cd0 Tryz.call17 (tset_n x199.vn x199.r.out.1 x199.r.out.2.1 x199.r.out.2.2 x199.r.st x199.r.why x199.r.tr x199.r.nx x199.r.tag) h275 fun w276 h277 => ⟨kd [rd 0 10 0 11 8 h277, rd 0 8 0 10 1 h277], ?_⟩
      refine cd0 Tryz.call19 (ref_ht x199.r.out.1 x199.r.out.2.1 x199.r.out.2.2 x199.r.st x199.r.why x199.r.tr x199.r.nx x199.r.tag) h277 fun w278 h279 => ⟨kd [rd 0 8 0 10 1 h279], ?_⟩
      refine cd0 Tryz.call18 (zset_nil x199.vn x199.r.out.1 x199.r.out.2.1 x199.r.out.2.2 x199.r.st x199.r.why x199.r.tr x199.r.nx x199.r.tag) h279 fun w280 h281 => ⟨kd [], ?_⟩
      refine go [rd 38 2 1 0 3 h281] <| cl0 Tryz.call22 (alike_nil d0 d1 d2 vn) h281 fun w282 h283 => go [rd 38 10 0 7 3 h283, rd 38 12 0 10 1 h283] <| cl0 Tryz.call22 (alike_nil x199.d.1 x199.d.2.1 x199.d.2.2 x199.vn) h283 fun w284 h285 => go [.v 9 1 (oIr ((i : Int) + 1))] ?_
      refine enL ?_
      have h287 := tk3 (tk4 (sf3 (sf3 (sf3 h285))))
      change ∃ n', n' < _ ∧ _
      refine ⟨(n - (i + 1)), by omega, (i + 1), _, rfl, (by omega), (lvF [.k 2 (.slice p0 n cp), .k 4 (iV vn), .k 8 (pV r10), .k 11 (.pointer none), .k 13 (.pointer none), .o 15 (oJ .i64 ((i : Int) + 1) ((((i + 1) : Nat) : Int)))]), h287⟩
     refine go [.v 32 0 (eF x199.k 4), .s 35 0] ?_
     by_cases c288 : x199.k = 5
     ·
      refine go [.v 35 0 (eT x199.k 5)] <| cl0 Tryz.call20 (tcopy_n) h206 fun w289 h290 => go [] <| cl0 Tryz.call21 (zrcopy_nil ) h290 fun w291 h292 => go [rd 38 2 1 0 3 h292] <| cl0 Tryz.call22 (alike_nil d0 d1 d2 vn) h292 fun w293 h294 => go [rd 38 10 0 7 3 h294, rd 38 12 0 10 1 h294] <| cl0 Tryz.call22 (alike_nil x199.d.1 x199.d.2.1 x199.d.2.2 x199.vn) h294 fun w295 h296 => go [.v 9 1 (oIr ((i : Int) + 1))] ?_
      refine enL ?_
      have h298 := tk3 (tk4 (sf3 (sf3 (sf3 h296))))
      change ∃ n', n' < _ ∧ _
      refine ⟨(n - (i + 1)), by omega, (i + 1), _, rfl, (by omega), (lvF [.k 2 (.slice p0 n cp), .k 4 (iV vn), .k 8 (pV r10), .k 11 (.pointer none), .k 13 (.pointer none), .o 15 (oJ .i64 ((i : Int) + 1) ((((i + 1) : Nat) : Int)))]), h298⟩
     refine go [.v 35 0 (eF x199.k 5), rd 38 2 1 0 3 h206] <| cl0 Tryz.call22 (alike_nil d0 d1 d2 vn) h206 fun w299 h300 => go [rd 38 10 0 7 3 h300, rd 38 12 0 10 1 h300] <| cl0 Tryz.call22 (alike_nil x199.d.1 x199.d.2.1 x199.d.2.2 x199.vn) h300 fun w301 h302 => go [.v 9 1 (oIr ((i : Int) + 1))] ?_
     refine enL ?_
     have h304 := tk3 (tk4 (sf3 (sf3 (sf3 h302))))
     change ∃ n', n' < _ ∧ _
     refine ⟨(n - (i + 1)), by omega, (i + 1), _, rfl, (by omega), (lvF [.k 2 (.slice p0 n cp), .k 4 (iV vn), .k 8 (pV r10), .k 11 (.pointer none), .k 13 (.pointer none), .o 15 (oJ .i64 ((i : Int) + 1) ((((i + 1) : Nat) : Int)))]), h304⟩
    refine go [.v 8 3 (oF ((i : Int) < (n : Int)))] <| up <| go [] <| cl0 Tryz.call5 (works_ht) h194 fun w305 h306 => go [] ?_
    exact en (.bool true) [] ⟨_, _, rfl, ⟨rfl, rfl⟩, (tk2 (sf1 (sf2 (tk3 (sf2 (sf1 (sf2 h306)))))))⟩
   refine cl0 Tryz.call6 (tnew_no sz fg (by omega) (by omega)) h17 fun w309 h310 => go [] <| cl0 Tryz.call7 (zrnew_no sz fg (by omega) (by omega)) h310 fun w311 h312 => go [.s 5 8] <| lwP (.bool false) (law_neBool (t := 4) (x := (Operand.tmp 56)) (y := (Operand.tmp 58)) true true false (by kernel_rfl) Tryz.underlying4 (by kernel_rfl) (by kernel_rfl) rfl _) <| go [] ?_
   refine lpS (fun mz_ a w => ∃ i : Nat, ∃ lr : Fr, mz_ = n - i ∧ (i ≤ n) ∧ a = mk 228 (([(2, .slice p0 n cp), (4, iV vn), (8, pV r10), (11, .pointer none), (13, .pointer none), (15, iV (i : Int))] : Fr) ++ lr) ∧ sat g w [Cl r10 [iV d0, iV d1, uV d2] 25, Old wo, R]) (n - 0) ⟨0, _, rfl, (Nat.zero_le _), (lvF [.k 2 (.slice p0 n cp), .k 4 (iV vn), .k 8 (pV r10), .k 11 (.pointer none), .k 13 (.pointer none), .o 15 (oJ .i64 0 (0 : Int))]), (tk3 (sf2 (sf1 (sf2 h312))))⟩ ?_
   rintro m315 a316 w317 ⟨i, lr314, rfl, hi_, rfl, h318⟩
   refine ga <| go [.s 8 3] ?_
   by_cases c319 : (i : Int) < (n : Int)
   ·
    obtain ⟨b320, off322, hp321⟩ := gv_ptr (j := 1) h318 rfl (gv_old hr) (by omega)
    refine go [.v 8 3 (oT ((i : Int) < (n : Int))), .s 10 2] <| lwP (.pointer (some ⟨b320, off322 + i * 19, none⟩)) (law_indexSlP (x := (Operand.tmp 67)) (i := (Operand.tmp 68)) (p := p0) (b := b320) (off := off322) (z := (i : Int)) (len := n) (cap := cp) (by kernel_rfl) Tryz.underlying23 19 (by kernel_rfl) i (by kernel_rfl) hp321 (by kernel_rfl) (by omega) (by omega) (off322 + i * 19) (by omega) _) ?_
    obtain ⟨x323, hx324⟩ : ∃ x, T[i]? = some x := ⟨_, List.getElem?_eq_getElem (by rw [hT]; omega)⟩
    have hb325 := hO _ (List.mem_of_getElem? hx324); have hb325a := hb325.1; have hb325b := hb325.2.1; have hb325c := hb325.2.2.1; have hb325d := hb325.2.2.2; have hb325t := hsh_ _ (List.mem_of_getElem? hx324); have hb325u := hb325t.1; have hb325v := hb325t.2
    refine go [.r 10 3 b320 (off322 + i * 19) [iV x323.k, iV x323.o.1, iV x323.o.2.1, uV x323.o.2.2, .string (St x323.tag), iV x323.hd.1, uV x323.hd.2, iV x323.d.1, iV x323.d.2.1, uV x323.d.2.2, iV x323.vn, iV x323.r.out.1, iV x323.r.out.2.1, uV x323.r.out.2.2, iV x323.r.st, iV x323.r.why, iV x323.r.tr, iV x323.r.nx, .string (St x323.r.tag)] ⟨gv_cell (j := 1) h318 rfl (gv_old hr) hp321 (fl_get eSp_ok (j := 0) (v := iV x323.k) hx324 rfl) (off322 + i * 19) (by omega), gv_cell (j := 1) h318 rfl (gv_old hr) hp321 (fl_get eSp_ok (j := 1) (v := iV x323.o.1) hx324 rfl) (off322 + i * 19 + 1) (by omega), gv_cell (j := 1) h318 rfl (gv_old hr) hp321 (fl_get eSp_ok (j := 2) (v := iV x323.o.2.1) hx324 rfl) (off322 + i * 19 + 2) (by omega), gv_cell (j := 1) h318 rfl (gv_old hr) hp321 (fl_get eSp_ok (j := 3) (v := uV x323.o.2.2) hx324 rfl) (off322 + i * 19 + 3) (by omega), gv_cell (j := 1) h318 rfl (gv_old hr) hp321 (fl_get eSp_ok (j := 4) (v := .string (St x323.tag)) hx324 rfl) (off322 + i * 19 + 4) (by omega), gv_cell (j := 1) h318 rfl (gv_old hr) hp321 (fl_get eSp_ok (j := 5) (v := iV x323.hd.1) hx324 rfl) (off322 + i * 19 + 5) (by omega), gv_cell (j := 1) h318 rfl (gv_old hr) hp321 (fl_get eSp_ok (j := 6) (v := uV x323.hd.2) hx324 rfl) (off322 + i * 19 + 6) (by omega), gv_cell (j := 1) h318 rfl (gv_old hr) hp321 (fl_get eSp_ok (j := 7) (v := iV x323.d.1) hx324 rfl) (off322 + i * 19 + 7) (by omega), gv_cell (j := 1) h318 rfl (gv_old hr) hp321 (fl_get eSp_ok (j := 8) (v := iV x323.d.2.1) hx324 rfl) (off322 + i * 19 + 8) (by omega), gv_cell (j := 1) h318 rfl (gv_old hr) hp321 (fl_get eSp_ok (j := 9) (v := uV x323.d.2.2) hx324 rfl) (off322 + i * 19 + 9) (by omega), gv_cell (j := 1) h318 rfl (gv_old hr) hp321 (fl_get eSp_ok (j := 10) (v := iV x323.vn) hx324 rfl) (off322 + i * 19 + 10) (by omega), gv_cell (j := 1) h318 rfl (gv_old hr) hp321 (fl_get eSp_ok (j := 11) (v := iV x323.r.out.1) hx324 rfl) (off322 + i * 19 + 11) (by omega), gv_cell (j := 1) h318 rfl (gv_old hr) hp321 (fl_get eSp_ok (j := 12) (v := iV x323.r.out.2.1) hx324 rfl) (off322 + i * 19 + 12) (by omega), gv_cell (j := 1) h318 rfl (gv_old hr) hp321 (fl_get eSp_ok (j := 13) (v := uV x323.r.out.2.2) hx324 rfl) (off322 + i * 19 + 13) (by omega), gv_cell (j := 1) h318 rfl (gv_old hr) hp321 (fl_get eSp_ok (j := 14) (v := iV x323.r.st) hx324 rfl) (off322 + i * 19 + 14) (by omega), gv_cell (j := 1) h318 rfl (gv_old hr) hp321 (fl_get eSp_ok (j := 15) (v := iV x323.r.why) hx324 rfl) (off322 + i * 19 + 15) (by omega), gv_cell (j := 1) h318 rfl (gv_old hr) hp321 (fl_get eSp_ok (j := 16) (v := iV x323.r.tr) hx324 rfl) (off322 + i * 19 + 16) (by omega), gv_cell (j := 1) h318 rfl (gv_old hr) hp321 (fl_get eSp_ok (j := 17) (v := iV x323.r.nx) hx324 rfl) (off322 + i * 19 + 17) (by omega), gv_cell (j := 1) h318 rfl (gv_old hr) hp321 (fl_get eSp_ok (j := 18) (v := .string (St x323.r.tag)) hx324 rfl) (off322 + i * 19 + 18) (by omega), trivial⟩] <| nP 42 [iV 0, iV 0, iV 0, uV 0, .string (St []), iV 0, uV 0, iV 0, iV 0, uV 0, iV 0, iV 0, iV 0, uV 0, iV 0, iV 0, iV 0, iV 0, .string (St [])] h318 (fun r326 w327 h328 => ?_)
    refine sP [(0, iV x323.k), (1, iV x323.o.1), (2, iV x323.o.2.1), (3, uV x323.o.2.2), (4, .string (St x323.tag)), (5, iV x323.hd.1), (6, uV x323.hd.2), (7, iV x323.d.1), (8, iV x323.d.2.1), (9, uV x323.d.2.2), (10, iV x323.vn), (11, iV x323.r.out.1), (12, iV x323.r.out.2.1), (13, uV x323.r.out.2.2), (14, iV x323.r.st), (15, iV x323.r.why), (16, iV x323.r.tr), (17, iV x323.r.nx), (18, .string (St x323.r.tag))] [iV x323.k, iV x323.o.1, iV x323.o.2.1, uV x323.o.2.2, .string (St x323.tag), iV x323.hd.1, uV x323.hd.2, iV x323.d.1, iV x323.d.2.1, uV x323.d.2.2, iV x323.vn, iV x323.r.out.1, iV x323.r.out.2.1, uV x323.r.out.2.2, iV x323.r.st, iV x323.r.why, iV x323.r.tr, iV x323.r.nx, .string (St x323.r.tag)] h328 fun w329 h330 => go [rd 11 1 0 0 1 h330, .s 12 0] ?_
    by_cases c331 : x323.k = 0
    ·
     refine go [.v 12 0 (eT x323.k 0), rd 13 2 0 1 3 h330, rd 13 4 0 4 1 h330, rd 13 6 0 5 2 h330] <| cl0 Tryz.call8 (topen_n x323.o.1 x323.o.2.1 x323.o.2.2 x323.hd.1 x323.hd.2 x323.tag) h330 fun w332 h333 => go [] <| nP 25 [iV 0, iV 0, uV 0] h333 (fun r334 w335 h336 => ?_)
     refine sP [(0, iV 0), (1, iV 0), (2, uV 0)] [iV 0, iV 0, uV 0] h336 fun w337 h338 => go [rd 14 2 1 1 3 h338, rd 14 4 1 4 1 h338, rd 14 6 1 5 2 h338] <| cl0 Tryz.call9 (zopn_nil x323.o.1 x323.o.2.1 x323.o.2.2 x323.tag x323.hd.1 x323.hd.2) h338 fun w339 h340 => go [] <| nP 25 [iV 0, iV 0, uV 0] h340 (fun r341 w342 h343 => ?_)
     refine sP [(0, iV 0), (1, iV 0), (2, uV 0)] [iV 0, iV 0, uV 0] h343 fun w344 h345 => go [rd 15 0 1 0 3 h345, rd 15 1 0 0 3 h345, .s 15 2] <| lwP (.bool false) (qz18e25_neq_t (x := (Operand.tmp 97)) (y := (Operand.tmp 98)) 0 0 0 0 0 0 (by kernel_rfl) (by kernel_rfl) (by kernel_rfl) ⟨rfl, rfl, rfl⟩ _) <| go [rd 38 2 3 0 3 h345] <| cl0 Tryz.call22 (alike_nil d0 d1 d2 vn) h345 fun w346 h347 => go [rd 38 10 2 7 3 h347, rd 38 12 2 10 1 h347] <| cl0 Tryz.call22 (alike_nil x323.d.1 x323.d.2.1 x323.d.2.2 x323.vn) h347 fun w348 h349 => go [.v 9 1 (oIr ((i : Int) + 1))] ?_
     refine enL ?_
     have h351 := tk3 (tk6 (sf5 (sf5 (sf5 (sf2 (sf2 (sf2 h349)))))))
     change ∃ n', n' < _ ∧ _
     refine ⟨(n - (i + 1)), by omega, (i + 1), _, rfl, (by omega), (lvF [.k 2 (.slice p0 n cp), .k 4 (iV vn), .k 8 (pV r10), .k 11 (.pointer none), .k 13 (.pointer none), .o 15 (oJ .i64 ((i : Int) + 1) ((((i + 1) : Nat) : Int)))]), h351⟩
    refine go [.v 12 0 (eF x323.k 0), .s 17 0] ?_
    by_cases c352 : x323.k = 1
    ·
     refine go [.v 17 0 (eT x323.k 1), rd 18 2 0 7 3 h330, rd 18 4 0 5 2 h330] <| cl0 Tryz.call10 (tdup_n x323.d.1 x323.d.2.1 x323.d.2.2 x323.hd.1 x323.hd.2) h330 fun w353 h354 => go [] <| nP 25 [iV 0, iV 0, uV 0] h354 (fun r355 w356 h357 => ?_)
     refine sP [(0, iV 0), (1, iV 0), (2, uV 0)] [iV 0, iV 0, uV 0] h357 fun w358 h359 => go [rd 19 2 1 7 3 h359, rd 19 4 1 5 2 h359] <| cl0 Tryz.call11 (zdup_nil x323.d.1 x323.d.2.1 x323.d.2.2 x323.hd.1 x323.hd.2) h359 fun w360 h361 => go [] <| nP 25 [iV 0, iV 0, uV 0] h361 (fun r362 w363 h364 => ?_)
     refine sP [(0, iV 0), (1, iV 0), (2, uV 0)] [iV 0, iV 0, uV 0] h364 fun w365 h366 => go [rd 20 0 1 0 3 h366, rd 20 1 0 0 3 h366, .s 20 2] <| lwP (.bool false) (qz18e25_neq_t (x := (Operand.tmp 125)) (y := (Operand.tmp 126)) 0 0 0 0 0 0 (by kernel_rfl) (by kernel_rfl) (by kernel_rfl) ⟨rfl, rfl, rfl⟩ _) <| go [rd 38 2 3 0 3 h366] <| cl0 Tryz.call22 (alike_nil d0 d1 d2 vn) h366 fun w367 h368 => go [rd 38 10 2 7 3 h368, rd 38 12 2 10 1 h368] <| cl0 Tryz.call22 (alike_nil x323.d.1 x323.d.2.1 x323.d.2.2 x323.vn) h368 fun w369 h370 => go [.v 9 1 (oIr ((i : Int) + 1))] ?_
     refine enL ?_
     have h372 := tk3 (tk6 (sf5 (sf5 (sf5 (sf2 (sf2 (sf2 h370)))))))
     change ∃ n', n' < _ ∧ _
     refine ⟨(n - (i + 1)), by omega, (i + 1), _, rfl, (by omega), (lvF [.k 2 (.slice p0 n cp), .k 4 (iV vn), .k 8 (pV r10), .k 11 (.pointer none), .k 13 (.pointer none), .o 15 (oJ .i64 ((i : Int) + 1) ((((i + 1) : Nat) : Int)))]), h372⟩
    refine go [.v 17 0 (eF x323.k 1), .s 22 0] ?_
    by_cases c373 : x323.k = 2
    ·
     refine go [.v 22 0 (eT x323.k 2), rd 23 2 0 7 3 h330] <| cl0 Tryz.call12 (tclose_n x323.d.1 x323.d.2.1 x323.d.2.2) h330 fun w374 h375 => go [rd 24 2 0 7 3 h375] <| cl0 Tryz.call13 (zcls_nil x323.d.1 x323.d.2.1 x323.d.2.2) h375 fun w376 h377 => go [.s 25 6] <| lwP (.bool false) (law_neBool (t := 4) (x := (Operand.tmp 155)) (y := (Operand.tmp 156)) false false false (by kernel_rfl) Tryz.underlying4 (by kernel_rfl) (by kernel_rfl) rfl _) <| go [rd 38 2 1 0 3 h377] <| cl0 Tryz.call22 (alike_nil d0 d1 d2 vn) h377 fun w378 h379 => go [rd 38 10 0 7 3 h379, rd 38 12 0 10 1 h379] <| cl0 Tryz.call22 (alike_nil x323.d.1 x323.d.2.1 x323.d.2.2 x323.vn) h379 fun w380 h381 => go [.v 9 1 (oIr ((i : Int) + 1))] ?_
     refine enL ?_
     have h383 := tk3 (tk4 (sf3 (sf3 (sf3 h381))))
     change ∃ n', n' < _ ∧ _
     refine ⟨(n - (i + 1)), by omega, (i + 1), _, rfl, (by omega), (lvF [.k 2 (.slice p0 n cp), .k 4 (iV vn), .k 8 (pV r10), .k 11 (.pointer none), .k 13 (.pointer none), .o 15 (oJ .i64 ((i : Int) + 1) ((((i + 1) : Nat) : Int)))]), h383⟩
    refine go [.v 22 0 (eF x323.k 2), .s 27 0] ?_
    by_cases c384 : x323.k = 3
    ·
     refine go [.v 27 0 (eT x323.k 3), rd 28 2 0 10 1 h330] <| cl0 Tryz.call14 (texp_n x323.vn) h330 fun w385 h386 => go [rd 29 2 0 10 1 h386] <| cl0 Tryz.call15 (zexp_nil x323.vn) h386 fun w387 h388 => go [] <| cl0 Tryz.call16 (zeqd_nil) h388 fun w389 h390 => go [rd 38 2 1 0 3 h390] <| cl0 Tryz.call22 (alike_nil d0 d1 d2 vn) h390 fun w391 h392 => go [rd 38 10 0 7 3 h392, rd 38 12 0 10 1 h392] <| cl0 Tryz.call22 (alike_nil x323.d.1 x323.d.2.1 x323.d.2.2 x323.vn) h392 fun w393 h394 => go [.v 9 1 (oIr ((i : Int) + 1))] ?_
     refine enL ?_
     have h396 := tk3 (tk4 (sf3 (sf3 (sf3 h394))))
     change ∃ n', n' < _ ∧ _
     refine ⟨(n - (i + 1)), by omega, (i + 1), _, rfl, (by omega), (lvF [.k 2 (.slice p0 n cp), .k 4 (iV vn), .k 8 (pV r10), .k 11 (.pointer none), .k 13 (.pointer none), .o 15 (oJ .i64 ((i : Int) + 1) ((((i + 1) : Nat) : Int)))]), h396⟩
    refine go [.v 27 0 (eF x323.k 3), .s 32 0] ?_
    by_cases c397 : x323.k = 4
    ·
     refine go [.v 32 0 (eT x323.k 4)] <| dw (fls [0, 1, 2, 3, 4, 6, 7, 8, 9, 10] (Tr.an 5 (Tr.an 11 (Tr.an 12 (Tr.fl 13 Tr.nil))))) h330 fun w398 h399 => go [rd 33 2 0 10 1 h399, rd 33 4 0 11 8 h399, rd 33 8 0 10 1 h399, rd 33 10 0 11 8 h399] <| cd0 Tryz.call17 (tset_n x323.vn x323.r.out.1 x323.r.out.2.1 x323.r.out.2.2 x323.r.st x323.r.why x323.r.tr x323.r.nx x323.r.tag) h399 fun w400 h401 => ⟨kd [rd 0 10 0 11 8 h401, rd 0 8 0 10 1 h401], ?_⟩
     refine cd0 Tryz.call19 (ref_ht x323.r.out.1 x323.r.out.2.1 x323.r.out.2.2 x323.r.st x323.r.why x323.r.tr x323.r.nx x323.r.tag) h401 fun w402 h403 => ⟨kd [rd 0 8 0 10 1 h403], ?_⟩
     refine cd0 Tryz.call18 (zset_nil x323.vn x323.r.out.1 x323.r.out.2.1 x323.r.out.2.2 x323.r.st x323.r.why x323.r.tr x323.r.nx x323.r.tag) h403 fun w404 h405 => ⟨kd [], ?_⟩
     refine go [rd 38 2 1 0 3 h405] <| cl0 Tryz.call22 (alike_nil d0 d1 d2 vn) h405 fun w406 h407 => go [rd 38 10 0 7 3 h407, rd 38 12 0 10 1 h407] <| cl0 Tryz.call22 (alike_nil x323.d.1 x323.d.2.1 x323.d.2.2 x323.vn) h407 fun w408 h409 => go [.v 9 1 (oIr ((i : Int) + 1))] ?_
     refine enL ?_
     have h411 := tk3 (tk4 (sf3 (sf3 (sf3 h409))))
     change ∃ n', n' < _ ∧ _
     refine ⟨(n - (i + 1)), by omega, (i + 1), _, rfl, (by omega), (lvF [.k 2 (.slice p0 n cp), .k 4 (iV vn), .k 8 (pV r10), .k 11 (.pointer none), .k 13 (.pointer none), .o 15 (oJ .i64 ((i : Int) + 1) ((((i + 1) : Nat) : Int)))]), h411⟩
    refine go [.v 32 0 (eF x323.k 4), .s 35 0] ?_
    by_cases c412 : x323.k = 5
    ·
     refine go [.v 35 0 (eT x323.k 5)] <| cl0 Tryz.call20 (tcopy_n) h330 fun w413 h414 => go [] <| cl0 Tryz.call21 (zrcopy_nil ) h414 fun w415 h416 => go [rd 38 2 1 0 3 h416] <| cl0 Tryz.call22 (alike_nil d0 d1 d2 vn) h416 fun w417 h418 => go [rd 38 10 0 7 3 h418, rd 38 12 0 10 1 h418] <| cl0 Tryz.call22 (alike_nil x323.d.1 x323.d.2.1 x323.d.2.2 x323.vn) h418 fun w419 h420 => go [.v 9 1 (oIr ((i : Int) + 1))] ?_
     refine enL ?_
     have h422 := tk3 (tk4 (sf3 (sf3 (sf3 h420))))
     change ∃ n', n' < _ ∧ _
     refine ⟨(n - (i + 1)), by omega, (i + 1), _, rfl, (by omega), (lvF [.k 2 (.slice p0 n cp), .k 4 (iV vn), .k 8 (pV r10), .k 11 (.pointer none), .k 13 (.pointer none), .o 15 (oJ .i64 ((i : Int) + 1) ((((i + 1) : Nat) : Int)))]), h422⟩
    refine go [.v 35 0 (eF x323.k 5), rd 38 2 1 0 3 h330] <| cl0 Tryz.call22 (alike_nil d0 d1 d2 vn) h330 fun w423 h424 => go [rd 38 10 0 7 3 h424, rd 38 12 0 10 1 h424] <| cl0 Tryz.call22 (alike_nil x323.d.1 x323.d.2.1 x323.d.2.2 x323.vn) h424 fun w425 h426 => go [.v 9 1 (oIr ((i : Int) + 1))] ?_
    refine enL ?_
    have h428 := tk3 (tk4 (sf3 (sf3 (sf3 h426))))
    change ∃ n', n' < _ ∧ _
    refine ⟨(n - (i + 1)), by omega, (i + 1), _, rfl, (by omega), (lvF [.k 2 (.slice p0 n cp), .k 4 (iV vn), .k 8 (pV r10), .k 11 (.pointer none), .k 13 (.pointer none), .o 15 (oJ .i64 ((i : Int) + 1) ((((i + 1) : Nat) : Int)))]), h428⟩
   refine go [.v 8 3 (oF ((i : Int) < (n : Int)))] <| up <| go [] <| cl0 Tryz.call5 (works_ht) h318 fun w429 h430 => go [] ?_
   exact en (.bool true) [] ⟨_, _, rfl, ⟨rfl, rfl⟩, (tk2 (sf1 (sf2 (tk3 (sf2 (sf1 (sf2 h430)))))))⟩
  refine cl0 Tryz.call6 (tnew_no sz fg (by omega) (by omega)) h17 fun w433 h434 => go [] <| cl0 Tryz.call7 (zrnew_no sz fg (by omega) (by omega)) h434 fun w435 h436 => go [.s 5 8] <| lwP (.bool false) (law_neBool (t := 4) (x := (Operand.tmp 56)) (y := (Operand.tmp 58)) true true false (by kernel_rfl) Tryz.underlying4 (by kernel_rfl) (by kernel_rfl) rfl _) <| go [] ?_
  refine lpS (fun mz_ a w => ∃ i : Nat, ∃ lr : Fr, mz_ = n - i ∧ (i ≤ n) ∧ a = mk 228 (([(2, .slice p0 n cp), (4, iV vn), (8, pV r10), (11, .pointer none), (13, .pointer none), (15, iV (i : Int))] : Fr) ++ lr) ∧ sat g w [Cl r10 [iV d0, iV d1, uV d2] 25, Old wo, R]) (n - 0) ⟨0, _, rfl, (Nat.zero_le _), (lvF [.k 2 (.slice p0 n cp), .k 4 (iV vn), .k 8 (pV r10), .k 11 (.pointer none), .k 13 (.pointer none), .o 15 (oJ .i64 0 (0 : Int))]), (tk3 (sf2 (sf1 (sf2 h436))))⟩ ?_
  rintro m439 a440 w441 ⟨i, lr438, rfl, hi_, rfl, h442⟩
  refine ga <| go [.s 8 3] ?_
  by_cases c443 : (i : Int) < (n : Int)
  ·
   obtain ⟨b444, off446, hp445⟩ := gv_ptr (j := 1) h442 rfl (gv_old hr) (by omega)
   refine go [.v 8 3 (oT ((i : Int) < (n : Int))), .s 10 2] <| lwP (.pointer (some ⟨b444, off446 + i * 19, none⟩)) (law_indexSlP (x := (Operand.tmp 67)) (i := (Operand.tmp 68)) (p := p0) (b := b444) (off := off446) (z := (i : Int)) (len := n) (cap := cp) (by kernel_rfl) Tryz.underlying23 19 (by kernel_rfl) i (by kernel_rfl) hp445 (by kernel_rfl) (by omega) (by omega) (off446 + i * 19) (by omega) _) ?_
   obtain ⟨x447, hx448⟩ : ∃ x, T[i]? = some x := ⟨_, List.getElem?_eq_getElem (by rw [hT]; omega)⟩
   have hb449 := hO _ (List.mem_of_getElem? hx448); have hb449a := hb449.1; have hb449b := hb449.2.1; have hb449c := hb449.2.2.1; have hb449d := hb449.2.2.2; have hb449t := hsh_ _ (List.mem_of_getElem? hx448); have hb449u := hb449t.1; have hb449v := hb449t.2
   refine go [.r 10 3 b444 (off446 + i * 19) [iV x447.k, iV x447.o.1, iV x447.o.2.1, uV x447.o.2.2, .string (St x447.tag), iV x447.hd.1, uV x447.hd.2, iV x447.d.1, iV x447.d.2.1, uV x447.d.2.2, iV x447.vn, iV x447.r.out.1, iV x447.r.out.2.1, uV x447.r.out.2.2, iV x447.r.st, iV x447.r.why, iV x447.r.tr, iV x447.r.nx, .string (St x447.r.tag)] ⟨gv_cell (j := 1) h442 rfl (gv_old hr) hp445 (fl_get eSp_ok (j := 0) (v := iV x447.k) hx448 rfl) (off446 + i * 19) (by omega), gv_cell (j := 1) h442 rfl (gv_old hr) hp445 (fl_get eSp_ok (j := 1) (v := iV x447.o.1) hx448 rfl) (off446 + i * 19 + 1) (by omega), gv_cell (j := 1) h442 rfl (gv_old hr) hp445 (fl_get eSp_ok (j := 2) (v := iV x447.o.2.1) hx448 rfl) (off446 + i * 19 + 2) (by omega), gv_cell (j := 1) h442 rfl (gv_old hr) hp445 (fl_get eSp_ok (j := 3) (v := uV x447.o.2.2) hx448 rfl) (off446 + i * 19 + 3) (by omega), gv_cell (j := 1) h442 rfl (gv_old hr) hp445 (fl_get eSp_ok (j := 4) (v := .string (St x447.tag)) hx448 rfl) (off446 + i * 19 + 4) (by omega), gv_cell (j := 1) h442 rfl (gv_old hr) hp445 (fl_get eSp_ok (j := 5) (v := iV x447.hd.1) hx448 rfl) (off446 + i * 19 + 5) (by omega), gv_cell (j := 1) h442 rfl (gv_old hr) hp445 (fl_get eSp_ok (j := 6) (v := uV x447.hd.2) hx448 rfl) (off446 + i * 19 + 6) (by omega), gv_cell (j := 1) h442 rfl (gv_old hr) hp445 (fl_get eSp_ok (j := 7) (v := iV x447.d.1) hx448 rfl) (off446 + i * 19 + 7) (by omega), gv_cell (j := 1) h442 rfl (gv_old hr) hp445 (fl_get eSp_ok (j := 8) (v := iV x447.d.2.1) hx448 rfl) (off446 + i * 19 + 8) (by omega), gv_cell (j := 1) h442 rfl (gv_old hr) hp445 (fl_get eSp_ok (j := 9) (v := uV x447.d.2.2) hx448 rfl) (off446 + i * 19 + 9) (by omega), gv_cell (j := 1) h442 rfl (gv_old hr) hp445 (fl_get eSp_ok (j := 10) (v := iV x447.vn) hx448 rfl) (off446 + i * 19 + 10) (by omega), gv_cell (j := 1) h442 rfl (gv_old hr) hp445 (fl_get eSp_ok (j := 11) (v := iV x447.r.out.1) hx448 rfl) (off446 + i * 19 + 11) (by omega), gv_cell (j := 1) h442 rfl (gv_old hr) hp445 (fl_get eSp_ok (j := 12) (v := iV x447.r.out.2.1) hx448 rfl) (off446 + i * 19 + 12) (by omega), gv_cell (j := 1) h442 rfl (gv_old hr) hp445 (fl_get eSp_ok (j := 13) (v := uV x447.r.out.2.2) hx448 rfl) (off446 + i * 19 + 13) (by omega), gv_cell (j := 1) h442 rfl (gv_old hr) hp445 (fl_get eSp_ok (j := 14) (v := iV x447.r.st) hx448 rfl) (off446 + i * 19 + 14) (by omega), gv_cell (j := 1) h442 rfl (gv_old hr) hp445 (fl_get eSp_ok (j := 15) (v := iV x447.r.why) hx448 rfl) (off446 + i * 19 + 15) (by omega), gv_cell (j := 1) h442 rfl (gv_old hr) hp445 (fl_get eSp_ok (j := 16) (v := iV x447.r.tr) hx448 rfl) (off446 + i * 19 + 16) (by omega), gv_cell (j := 1) h442 rfl (gv_old hr) hp445 (fl_get eSp_ok (j := 17) (v := iV x447.r.nx) hx448 rfl) (off446 + i * 19 + 17) (by omega), gv_cell (j := 1) h442 rfl (gv_old hr) hp445 (fl_get eSp_ok (j := 18) (v := .string (St x447.r.tag)) hx448 rfl) (off446 + i * 19 + 18) (by omega), trivial⟩] <| nP 42 [iV 0, iV 0, iV 0, uV 0, .string (St []), iV 0, uV 0, iV 0, iV 0, uV 0, iV 0, iV 0, iV 0, uV 0, iV 0, iV 0, iV 0, iV 0, .string (St [])] h442 (fun r450 w451 h452 => ?_)
   refine sP [(0, iV x447.k), (1, iV x447.o.1), (2, iV x447.o.2.1), (3, uV x447.o.2.2), (4, .string (St x447.tag)), (5, iV x447.hd.1), (6, uV x447.hd.2), (7, iV x447.d.1), (8, iV x447.d.2.1), (9, uV x447.d.2.2), (10, iV x447.vn), (11, iV x447.r.out.1), (12, iV x447.r.out.2.1), (13, uV x447.r.out.2.2), (14, iV x447.r.st), (15, iV x447.r.why), (16, iV x447.r.tr), (17, iV x447.r.nx), (18, .string (St x447.r.tag))] [iV x447.k, iV x447.o.1, iV x447.o.2.1, uV x447.o.2.2, .string (St x447.tag), iV x447.hd.1, uV x447.hd.2, iV x447.d.1, iV x447.d.2.1, uV x447.d.2.2, iV x447.vn, iV x447.r.out.1, iV x447.r.out.2.1, uV x447.r.out.2.2, iV x447.r.st, iV x447.r.why, iV x447.r.tr, iV x447.r.nx, .string (St x447.r.tag)] h452 fun w453 h454 => go [rd 11 1 0 0 1 h454, .s 12 0] ?_
   by_cases c455 : x447.k = 0
   ·
    refine go [.v 12 0 (eT x447.k 0), rd 13 2 0 1 3 h454, rd 13 4 0 4 1 h454, rd 13 6 0 5 2 h454] <| cl0 Tryz.call8 (topen_n x447.o.1 x447.o.2.1 x447.o.2.2 x447.hd.1 x447.hd.2 x447.tag) h454 fun w456 h457 => go [] <| nP 25 [iV 0, iV 0, uV 0] h457 (fun r458 w459 h460 => ?_)
    refine sP [(0, iV 0), (1, iV 0), (2, uV 0)] [iV 0, iV 0, uV 0] h460 fun w461 h462 => go [rd 14 2 1 1 3 h462, rd 14 4 1 4 1 h462, rd 14 6 1 5 2 h462] <| cl0 Tryz.call9 (zopn_nil x447.o.1 x447.o.2.1 x447.o.2.2 x447.tag x447.hd.1 x447.hd.2) h462 fun w463 h464 => go [] <| nP 25 [iV 0, iV 0, uV 0] h464 (fun r465 w466 h467 => ?_)
    refine sP [(0, iV 0), (1, iV 0), (2, uV 0)] [iV 0, iV 0, uV 0] h467 fun w468 h469 => go [rd 15 0 1 0 3 h469, rd 15 1 0 0 3 h469, .s 15 2] <| lwP (.bool false) (qz18e25_neq_t (x := (Operand.tmp 97)) (y := (Operand.tmp 98)) 0 0 0 0 0 0 (by kernel_rfl) (by kernel_rfl) (by kernel_rfl) ⟨rfl, rfl, rfl⟩ _) <| go [rd 38 2 3 0 3 h469] <| cl0 Tryz.call22 (alike_nil d0 d1 d2 vn) h469 fun w470 h471 => go [rd 38 10 2 7 3 h471, rd 38 12 2 10 1 h471] <| cl0 Tryz.call22 (alike_nil x447.d.1 x447.d.2.1 x447.d.2.2 x447.vn) h471 fun w472 h473 => go [.v 9 1 (oIr ((i : Int) + 1))] ?_
    refine enL ?_
    have h475 := tk3 (tk6 (sf5 (sf5 (sf5 (sf2 (sf2 (sf2 h473)))))))
    change ∃ n', n' < _ ∧ _
    refine ⟨(n - (i + 1)), by omega, (i + 1), _, rfl, (by omega), (lvF [.k 2 (.slice p0 n cp), .k 4 (iV vn), .k 8 (pV r10), .k 11 (.pointer none), .k 13 (.pointer none), .o 15 (oJ .i64 ((i : Int) + 1) ((((i + 1) : Nat) : Int)))]), h475⟩
   refine go [.v 12 0 (eF x447.k 0), .s 17 0] ?_
   by_cases c476 : x447.k = 1
   ·
    refine go [.v 17 0 (eT x447.k 1), rd 18 2 0 7 3 h454, rd 18 4 0 5 2 h454] <| cl0 Tryz.call10 (tdup_n x447.d.1 x447.d.2.1 x447.d.2.2 x447.hd.1 x447.hd.2) h454 fun w477 h478 => go [] <| nP 25 [iV 0, iV 0, uV 0] h478 (fun r479 w480 h481 => ?_)
    refine sP [(0, iV 0), (1, iV 0), (2, uV 0)] [iV 0, iV 0, uV 0] h481 fun w482 h483 => go [rd 19 2 1 7 3 h483, rd 19 4 1 5 2 h483] <| cl0 Tryz.call11 (zdup_nil x447.d.1 x447.d.2.1 x447.d.2.2 x447.hd.1 x447.hd.2) h483 fun w484 h485 => go [] <| nP 25 [iV 0, iV 0, uV 0] h485 (fun r486 w487 h488 => ?_)
    refine sP [(0, iV 0), (1, iV 0), (2, uV 0)] [iV 0, iV 0, uV 0] h488 fun w489 h490 => go [rd 20 0 1 0 3 h490, rd 20 1 0 0 3 h490, .s 20 2] <| lwP (.bool false) (qz18e25_neq_t (x := (Operand.tmp 125)) (y := (Operand.tmp 126)) 0 0 0 0 0 0 (by kernel_rfl) (by kernel_rfl) (by kernel_rfl) ⟨rfl, rfl, rfl⟩ _) <| go [rd 38 2 3 0 3 h490] <| cl0 Tryz.call22 (alike_nil d0 d1 d2 vn) h490 fun w491 h492 => go [rd 38 10 2 7 3 h492, rd 38 12 2 10 1 h492] <| cl0 Tryz.call22 (alike_nil x447.d.1 x447.d.2.1 x447.d.2.2 x447.vn) h492 fun w493 h494 => go [.v 9 1 (oIr ((i : Int) + 1))] ?_
    refine enL ?_
    have h496 := tk3 (tk6 (sf5 (sf5 (sf5 (sf2 (sf2 (sf2 h494)))))))
    change ∃ n', n' < _ ∧ _
    refine ⟨(n - (i + 1)), by omega, (i + 1), _, rfl, (by omega), (lvF [.k 2 (.slice p0 n cp), .k 4 (iV vn), .k 8 (pV r10), .k 11 (.pointer none), .k 13 (.pointer none), .o 15 (oJ .i64 ((i : Int) + 1) ((((i + 1) : Nat) : Int)))]), h496⟩
   refine go [.v 17 0 (eF x447.k 1), .s 22 0] ?_
   by_cases c497 : x447.k = 2
   ·
    refine go [.v 22 0 (eT x447.k 2), rd 23 2 0 7 3 h454] <| cl0 Tryz.call12 (tclose_n x447.d.1 x447.d.2.1 x447.d.2.2) h454 fun w498 h499 => go [rd 24 2 0 7 3 h499] <| cl0 Tryz.call13 (zcls_nil x447.d.1 x447.d.2.1 x447.d.2.2) h499 fun w500 h501 => go [.s 25 6] <| lwP (.bool false) (law_neBool (t := 4) (x := (Operand.tmp 155)) (y := (Operand.tmp 156)) false false false (by kernel_rfl) Tryz.underlying4 (by kernel_rfl) (by kernel_rfl) rfl _) <| go [rd 38 2 1 0 3 h501] <| cl0 Tryz.call22 (alike_nil d0 d1 d2 vn) h501 fun w502 h503 => go [rd 38 10 0 7 3 h503, rd 38 12 0 10 1 h503] <| cl0 Tryz.call22 (alike_nil x447.d.1 x447.d.2.1 x447.d.2.2 x447.vn) h503 fun w504 h505 => go [.v 9 1 (oIr ((i : Int) + 1))] ?_
    refine enL ?_
    have h507 := tk3 (tk4 (sf3 (sf3 (sf3 h505))))
    change ∃ n', n' < _ ∧ _
    refine ⟨(n - (i + 1)), by omega, (i + 1), _, rfl, (by omega), (lvF [.k 2 (.slice p0 n cp), .k 4 (iV vn), .k 8 (pV r10), .k 11 (.pointer none), .k 13 (.pointer none), .o 15 (oJ .i64 ((i : Int) + 1) ((((i + 1) : Nat) : Int)))]), h507⟩
   refine go [.v 22 0 (eF x447.k 2), .s 27 0] ?_
   by_cases c508 : x447.k = 3
   ·
    refine go [.v 27 0 (eT x447.k 3), rd 28 2 0 10 1 h454] <| cl0 Tryz.call14 (texp_n x447.vn) h454 fun w509 h510 => go [rd 29 2 0 10 1 h510] <| cl0 Tryz.call15 (zexp_nil x447.vn) h510 fun w511 h512 => go [] <| cl0 Tryz.call16 (zeqd_nil) h512 fun w513 h514 => go [rd 38 2 1 0 3 h514] <| cl0 Tryz.call22 (alike_nil d0 d1 d2 vn) h514 fun w515 h516 => go [rd 38 10 0 7 3 h516, rd 38 12 0 10 1 h516] <| cl0 Tryz.call22 (alike_nil x447.d.1 x447.d.2.1 x447.d.2.2 x447.vn) h516 fun w517 h518 => go [.v 9 1 (oIr ((i : Int) + 1))] ?_
    refine enL ?_
    have h520 := tk3 (tk4 (sf3 (sf3 (sf3 h518))))
    change ∃ n', n' < _ ∧ _
    refine ⟨(n - (i + 1)), by omega, (i + 1), _, rfl, (by omega), (lvF [.k 2 (.slice p0 n cp), .k 4 (iV vn), .k 8 (pV r10), .k 11 (.pointer none), .k 13 (.pointer none), .o 15 (oJ .i64 ((i : Int) + 1) ((((i + 1) : Nat) : Int)))]), h520⟩
   refine go [.v 27 0 (eF x447.k 3), .s 32 0] ?_
   by_cases c521 : x447.k = 4
   ·
    refine go [.v 32 0 (eT x447.k 4)] <| dw (fls [0, 1, 2, 3, 4, 6, 7, 8, 9, 10] (Tr.an 5 (Tr.an 11 (Tr.an 12 (Tr.fl 13 Tr.nil))))) h454 fun w522 h523 => go [rd 33 2 0 10 1 h523, rd 33 4 0 11 8 h523, rd 33 8 0 10 1 h523, rd 33 10 0 11 8 h523] <| cd0 Tryz.call17 (tset_n x447.vn x447.r.out.1 x447.r.out.2.1 x447.r.out.2.2 x447.r.st x447.r.why x447.r.tr x447.r.nx x447.r.tag) h523 fun w524 h525 => ⟨kd [rd 0 10 0 11 8 h525, rd 0 8 0 10 1 h525], ?_⟩
    refine cd0 Tryz.call19 (ref_ht x447.r.out.1 x447.r.out.2.1 x447.r.out.2.2 x447.r.st x447.r.why x447.r.tr x447.r.nx x447.r.tag) h525 fun w526 h527 => ⟨kd [rd 0 8 0 10 1 h527], ?_⟩
    refine cd0 Tryz.call18 (zset_nil x447.vn x447.r.out.1 x447.r.out.2.1 x447.r.out.2.2 x447.r.st x447.r.why x447.r.tr x447.r.nx x447.r.tag) h527 fun w528 h529 => ⟨kd [], ?_⟩
    refine go [rd 38 2 1 0 3 h529] <| cl0 Tryz.call22 (alike_nil d0 d1 d2 vn) h529 fun w530 h531 => go [rd 38 10 0 7 3 h531, rd 38 12 0 10 1 h531] <| cl0 Tryz.call22 (alike_nil x447.d.1 x447.d.2.1 x447.d.2.2 x447.vn) h531 fun w532 h533 => go [.v 9 1 (oIr ((i : Int) + 1))] ?_
    refine enL ?_
    have h535 := tk3 (tk4 (sf3 (sf3 (sf3 h533))))
    change ∃ n', n' < _ ∧ _
    refine ⟨(n - (i + 1)), by omega, (i + 1), _, rfl, (by omega), (lvF [.k 2 (.slice p0 n cp), .k 4 (iV vn), .k 8 (pV r10), .k 11 (.pointer none), .k 13 (.pointer none), .o 15 (oJ .i64 ((i : Int) + 1) ((((i + 1) : Nat) : Int)))]), h535⟩
   refine go [.v 32 0 (eF x447.k 4), .s 35 0] ?_
   by_cases c536 : x447.k = 5
   ·
    refine go [.v 35 0 (eT x447.k 5)] <| cl0 Tryz.call20 (tcopy_n) h454 fun w537 h538 => go [] <| cl0 Tryz.call21 (zrcopy_nil ) h538 fun w539 h540 => go [rd 38 2 1 0 3 h540] <| cl0 Tryz.call22 (alike_nil d0 d1 d2 vn) h540 fun w541 h542 => go [rd 38 10 0 7 3 h542, rd 38 12 0 10 1 h542] <| cl0 Tryz.call22 (alike_nil x447.d.1 x447.d.2.1 x447.d.2.2 x447.vn) h542 fun w543 h544 => go [.v 9 1 (oIr ((i : Int) + 1))] ?_
    refine enL ?_
    have h546 := tk3 (tk4 (sf3 (sf3 (sf3 h544))))
    change ∃ n', n' < _ ∧ _
    refine ⟨(n - (i + 1)), by omega, (i + 1), _, rfl, (by omega), (lvF [.k 2 (.slice p0 n cp), .k 4 (iV vn), .k 8 (pV r10), .k 11 (.pointer none), .k 13 (.pointer none), .o 15 (oJ .i64 ((i : Int) + 1) ((((i + 1) : Nat) : Int)))]), h546⟩
   refine go [.v 35 0 (eF x447.k 5), rd 38 2 1 0 3 h454] <| cl0 Tryz.call22 (alike_nil d0 d1 d2 vn) h454 fun w547 h548 => go [rd 38 10 0 7 3 h548, rd 38 12 0 10 1 h548] <| cl0 Tryz.call22 (alike_nil x447.d.1 x447.d.2.1 x447.d.2.2 x447.vn) h548 fun w549 h550 => go [.v 9 1 (oIr ((i : Int) + 1))] ?_
   refine enL ?_
   have h552 := tk3 (tk4 (sf3 (sf3 (sf3 h550))))
   change ∃ n', n' < _ ∧ _
   refine ⟨(n - (i + 1)), by omega, (i + 1), _, rfl, (by omega), (lvF [.k 2 (.slice p0 n cp), .k 4 (iV vn), .k 8 (pV r10), .k 11 (.pointer none), .k 13 (.pointer none), .o 15 (oJ .i64 ((i : Int) + 1) ((((i + 1) : Nat) : Int)))]), h552⟩
  refine go [.v 8 3 (oF ((i : Int) < (n : Int)))] <| up <| go [] <| cl0 Tryz.call5 (works_ht) h442 fun w553 h554 => go [] ?_
  exact en (.bool true) [] ⟨_, _, rfl, ⟨rfl, rfl⟩, (tk2 (sf1 (sf2 (tk3 (sf2 (sf1 (sf2 h554)))))))⟩
 have h557 := ap1 h16
 refine go [] <| cl0 Tryz.call5 (works_ht) h557 fun w558 h559 => go [] ?_
 exact en (.bool true) [] ⟨_, _, rfl, ⟨rfl, rfl⟩, (tk2 (sf1 (sf2 h559)))⟩

end Go.Proofs.YtjjpmehiolejgaaGreat
